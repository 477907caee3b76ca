/- Each Go function of this seat computes what its model says, part 2. -/
import Derived.Test.YtilaklhajonenaaWalks
namespace Go.Proofs.Ytilaklhajonenaa
open Go SX
set_option maxHeartbeats 4000000 in
theorem C_L_huffBegun (F : Nat)  (r : Bool) (hm : M_L_huffBegun F  = some r) :
    Pure Try.prog 19 [] [] Unit (fun _ => .bool r) (fun _ => []) (fun _ => []) := by
  refine pure_of Try.func19 rfl Try.ntmps19 rfl hm (fun w => ?_)
  refine sxc_env (l' := []) rfl ?_
  refine sxc_seq ?_
  refine sxc_region ?_
  refine sxo_assign rfl rfl rfl ?_
  refine sxo_nil ?_
  refine sxq_next ?_
  refine sxc_seq ?_
  refine sxc_region ?_
  refine sxo_slit (vs := [.int .i64 5, .int .i64 0, .int .i64 1, .int .i64 2, .int .i64 1]) (ys := ([5, 0, 1, 2, 1] : List Int)) (eI_ok .i64) (by decide) rfl Try.underlying22 tf3 rfl rfl rfl rfl rfl (by decide) (fun a1 c2 => ?_)
  refine sxo_call ent11 rfl rfl rfl (fun x3 e3 => C_huff_Lengths F ([5, 0, 1, 2, 1] : List Int) a1 c2 x3 e3) (.consR 0 (Ro (eI .i64) 3 1 (.slice a1 ([5, 0, 1, 2, 1] : List Int).length c2) ([5, 0, 1, 2, 1] : List Int)) rfl .nil) (fun x3 e3 => ?_)
  rintro ⟨a4, c5⟩
  refine sxo_move rfl rfl rfl ?_
  refine sxo_extract rfl rfl rfl rfl ?_
  refine sxo_extract rfl rfl rfl rfl ?_
  refine sxo_assign rfl rfl rfl ?_
  refine sxo_assign rfl rfl rfl ?_
  refine sxo_nil ?_
  refine sxq_next ?_
  refine sxc_seq ?_
  refine sxc_region ?_
  refine sxo_slit (vs := [.int .i64 5, .int .i64 0, .int .i64 1, .int .i64 2, .int .i64 1]) (ys := ([5, 0, 1, 2, 1] : List Int)) (eI_ok .i64) (by decide) rfl Try.underlying22 tf3 rfl rfl rfl rfl rfl (by decide) (fun a6 c7 => ?_)
  refine sxo_move rfl rfl rfl ?_
  refine sxo_call ent12 rfl rfl rfl (fun x8 e8 => C_huff_Cost F ([5, 0, 1, 2, 1] : List Int) a6 c7 x3.1 a4 c5 x8 e8) (.consR 0 (Ro (eI .i64) 3 1 (.slice a6 ([5, 0, 1, 2, 1] : List Int).length c7) ([5, 0, 1, 2, 1] : List Int)) rfl (.consR 1 (Ro (eI .i64) 3 1 (.slice a4 x3.1.length c5) x3.1) rfl .nil)) (fun x8 e8 => ?_)
  intro _
  refine sxo_move rfl rfl rfl ?_
  refine sxo_extract rfl rfl rfl rfl ?_
  refine sxo_extract rfl rfl rfl rfl ?_
  refine sxo_assign rfl rfl rfl ?_
  refine sxo_assign rfl rfl rfl ?_
  refine sxo_nil ?_
  refine sxq_next ?_
  refine sxc_seq ?_
  refine sxc_region ?_
  refine sxo_slit (vs := [.int .i64 0, .int .i64 2, .int .i64 0]) (ys := ([0, 2, 0] : List Int)) (eI_ok .i64) (by decide) rfl Try.underlying22 tf3 rfl rfl rfl rfl rfl (by decide) (fun a9 c10 => ?_)
  refine sxo_call ent13 rfl rfl rfl (fun x11 e11 => C_huff_Pack F ([0, 2, 0] : List Int) a9 c10 3 x11 e11) (.consR 0 (Ro (eI .i64) 3 1 (.slice a9 ([0, 2, 0] : List Int).length c10) ([0, 2, 0] : List Int)) rfl .nil) (fun x11 e11 => ?_)
  rintro ⟨⟨a12, c13⟩, ⟨a14, c15⟩⟩
  refine sxo_move rfl rfl rfl ?_
  refine sxo_extract rfl rfl rfl rfl ?_
  refine sxo_extract rfl rfl rfl rfl ?_
  refine sxo_extract rfl rfl rfl rfl ?_
  refine sxo_alloc rfl tf25 rfl (fun g16 => ?_)
  refine sxo_assign rfl rfl rfl ?_
  refine sxo_storeB (i := 0) rfl rfl rfl tf25 rfl rfl rfl rfl rfl ?_
  refine sxo_assign rfl rfl rfl ?_
  refine sxo_nil ?_
  refine sxq_next ?_
  refine sxc_seq ?_
  refine sxc_region ?_
  refine sxo_move rfl rfl rfl ?_
  refine sxo_loadB (i := 0) rfl rfl tf25 rfl rfl (by simp) rfl rfl ?_
  refine sxo_call ent14 rfl rfl rfl (fun x17 e17 => C_huff_Unpack F x11.1 a12 c13 x11.2.1 x11.2.2.1 a14 c15 3 x17 e17) (.consR 0 (Ro (eI .i64) 3 1 (.slice a12 x11.1.length c13) x11.1) rfl (.consR 1 (Ro (eI .u8) 5 1 (.slice a14 x11.2.2.1.length c15) x11.2.2.1) rfl .nil)) (fun x17 e17 => ?_)
  rintro ⟨a18, c19⟩
  refine sxo_move rfl rfl rfl ?_
  refine sxo_extract rfl rfl rfl rfl ?_
  refine sxo_extract rfl rfl rfl rfl ?_
  refine sxo_assign rfl rfl rfl ?_
  refine sxo_assign rfl rfl rfl ?_
  refine sxo_nil ?_
  refine sxq_next ?_
  refine sxc_seq ?_
  refine sxc_region ?_
  refine sxo_move rfl rfl rfl ?_
  refine sxo_loadB (i := 0) rfl rfl tf25 rfl rfl (by simp) rfl rfl ?_
  refine sxo_call ent14 rfl rfl rfl (fun x20 e20 => C_huff_Unpack F x11.1 a12 c13 x11.2.1 x11.2.2.1 a14 c15 2 x20 e20) (.consR 1 (Ro (eI .i64) 3 1 (.slice a12 x11.1.length c13) x11.1) rfl (.consR 2 (Ro (eI .u8) 5 1 (.slice a14 x11.2.2.1.length c15) x11.2.2.1) rfl .nil)) (fun x20 e20 => ?_)
  rintro ⟨a21, c22⟩
  refine sxo_move rfl rfl rfl ?_
  refine sxo_extract rfl rfl rfl rfl ?_
  refine sxo_extract rfl rfl rfl rfl ?_
  refine sxo_assign rfl rfl rfl ?_
  refine sxo_assign rfl rfl rfl ?_
  refine sxo_nil ?_
  refine sxq_next ?_
  refine sxc_seq ?_
  refine sxc_region ?_
  refine sxo_slit (vs := [.int .i64 0, .int .i64 7]) (ys := ([0, 7] : List Int)) (eI_ok .i64) (by decide) rfl Try.underlying22 tf3 rfl rfl rfl rfl rfl (by decide) (fun a23 c24 => ?_)
  refine sxo_call ent11 rfl rfl rfl (fun x25 e25 => C_huff_Lengths F ([0, 7] : List Int) a23 c24 x25 e25) (.consR 0 (Ro (eI .i64) 3 1 (.slice a23 ([0, 7] : List Int).length c24) ([0, 7] : List Int)) rfl .nil) (fun x25 e25 => ?_)
  rintro ⟨a26, c27⟩
  refine sxo_move rfl rfl rfl ?_
  refine sxo_extract rfl rfl rfl rfl ?_
  refine sxo_extract rfl rfl rfl rfl ?_
  refine sxo_assign rfl rfl rfl ?_
  refine sxo_assign rfl rfl rfl ?_
  refine sxo_nil ?_
  refine sxq_next ?_
  refine sxc_seq ?_
  refine sxc_region ?_
  refine sxo_move rfl rfl rfl ?_
  refine sxo_slit (vs := [.int .i64 1, .int .i64 0, .int .i64 3, .int .i64 2, .int .i64 3]) (ys := ([1, 0, 3, 2, 3] : List Int)) (eI_ok .i64) (by decide) rfl Try.underlying22 tf3 rfl rfl rfl rfl rfl (by decide) (fun a28 c29 => ?_)
  refine sxo_call ent20 rfl rfl rfl (fun x30 e30 => C_R_SameInts F x3.1 a4 c5 ([1, 0, 3, 2, 3] : List Int) a28 c29 x30 e30) (.consR 9 (Ro (eI .i64) 3 1 (.slice a4 x3.1.length c5) x3.1) rfl (.consR 0 (Ro (eI .i64) 3 1 (.slice a28 ([1, 0, 3, 2, 3] : List Int).length c29) ([1, 0, 3, 2, 3] : List Int)) rfl .nil)) (fun x30 e30 => ?_)
  intro _
  refine sxo_move rfl rfl rfl ?_
  refine sxo_case 3 x30 [(3, .int .i64 x8.1), (4, .int .i64 x8.2), (6, .pointer (some ⟨g16, 0, none⟩)), (5, .slice a12 x11.1.length c13), (7, .int .i64 x11.2.2.2), (8, .slice a18 x17.1.length c19), (9, .int .i64 x17.2), (11, .int .i64 x20.2), (12, .slice a26 x25.1.length c27), (13, .int .i64 x25.2), (54, .bool (x30 && ((x3.2 : Int) == 0)))] (fun h31 => ?_) (fun h31 => ?_) ?_
  · refine sxo_take (os := _) rfl ?_
    refine sxo_isT (k := 51) rfl h31 ?_
    refine sxo_move rfl rfl rfl ?_
    refine sxo_eql rfl rfl rfl rfl ?_
    refine sxo_pick (b := true) rfl rfl rfl rfl ?_
    refine sxo_again (d := 54) (v := .bool (x30 && ((x3.2 : Int) == 0))) rfl (by rw [h31]; simp only [Bool.true_and]) ?_
    refine sxo_nil ?_
    exact sxq_case (lk_cons rfl (lk_cons rfl (lk_cons rfl (lk_cons rfl (lk_cons rfl (lk_cons rfl (lk_cons rfl (lk_cons rfl (lk_cons rfl (lk_cons rfl (lk_cons rfl lk_nil)))))))))))
  · refine sxo_take (os := _) rfl ?_
    refine sxo_isF (k := 51) rfl h31 ?_
    refine sxo_skip rfl rfl rfl ?_
    refine sxo_skip rfl rfl rfl ?_
    refine sxo_pick (b := false) rfl rfl rfl rfl ?_
    refine sxo_again (d := 54) (v := .bool (x30 && ((x3.2 : Int) == 0))) rfl (by rw [h31]; simp only [Bool.false_and]) ?_
    refine sxo_nil ?_
    exact sxq_case (lk_cons rfl (lk_cons rfl (lk_cons rfl (lk_cons rfl (lk_cons rfl (lk_cons rfl (lk_cons rfl (lk_cons rfl (lk_cons rfl (lk_cons rfl (lk_cons rfl lk_nil)))))))))))
  refine sxo_take (os := _) rfl ?_
  refine sxo_move rfl rfl rfl ?_
  refine sxo_case 3 (x30 && ((x3.2 : Int) == 0)) [(4, .int .i64 x8.2), (6, .pointer (some ⟨g16, 0, none⟩)), (5, .slice a12 x11.1.length c13), (7, .int .i64 x11.2.2.2), (8, .slice a18 x17.1.length c19), (9, .int .i64 x17.2), (11, .int .i64 x20.2), (12, .slice a26 x25.1.length c27), (13, .int .i64 x25.2), (58, .bool ((x30 && ((x3.2 : Int) == 0)) && ((x8.1 : Int) == 15)))] (fun h32 => ?_) (fun h32 => ?_) ?_
  · refine sxo_take (os := _) rfl ?_
    refine sxo_isT (k := 55) rfl h32 ?_
    refine sxo_move rfl rfl rfl ?_
    refine sxo_eql rfl rfl rfl rfl ?_
    refine sxo_pick (b := true) rfl rfl rfl rfl ?_
    refine sxo_again (d := 58) (v := .bool ((x30 && ((x3.2 : Int) == 0)) && ((x8.1 : Int) == 15))) rfl (by rw [h32]; simp only [Bool.true_and]) ?_
    refine sxo_nil ?_
    exact sxq_case (lk_cons rfl (lk_cons rfl (lk_cons rfl (lk_cons rfl (lk_cons rfl (lk_cons rfl (lk_cons rfl (lk_cons rfl (lk_cons rfl (lk_cons rfl lk_nil))))))))))
  · refine sxo_take (os := _) rfl ?_
    refine sxo_isF (k := 55) rfl h32 ?_
    refine sxo_skip rfl rfl rfl ?_
    refine sxo_skip rfl rfl rfl ?_
    refine sxo_pick (b := false) rfl rfl rfl rfl ?_
    refine sxo_again (d := 58) (v := .bool ((x30 && ((x3.2 : Int) == 0)) && ((x8.1 : Int) == 15))) rfl (by rw [h32]; simp only [Bool.false_and]) ?_
    refine sxo_nil ?_
    exact sxq_case (lk_cons rfl (lk_cons rfl (lk_cons rfl (lk_cons rfl (lk_cons rfl (lk_cons rfl (lk_cons rfl (lk_cons rfl (lk_cons rfl (lk_cons rfl lk_nil))))))))))
  refine sxo_take (os := _) rfl ?_
  refine sxo_move rfl rfl rfl ?_
  refine sxo_case 3 ((x30 && ((x3.2 : Int) == 0)) && ((x8.1 : Int) == 15)) [(6, .pointer (some ⟨g16, 0, none⟩)), (5, .slice a12 x11.1.length c13), (7, .int .i64 x11.2.2.2), (8, .slice a18 x17.1.length c19), (9, .int .i64 x17.2), (11, .int .i64 x20.2), (12, .slice a26 x25.1.length c27), (13, .int .i64 x25.2), (62, .bool (((x30 && ((x3.2 : Int) == 0)) && ((x8.1 : Int) == 15)) && ((x8.2 : Int) == 0)))] (fun h33 => ?_) (fun h33 => ?_) ?_
  · refine sxo_take (os := _) rfl ?_
    refine sxo_isT (k := 59) rfl h33 ?_
    refine sxo_move rfl rfl rfl ?_
    refine sxo_eql rfl rfl rfl rfl ?_
    refine sxo_pick (b := true) rfl rfl rfl rfl ?_
    refine sxo_again (d := 62) (v := .bool (((x30 && ((x3.2 : Int) == 0)) && ((x8.1 : Int) == 15)) && ((x8.2 : Int) == 0))) rfl (by rw [h33]; simp only [Bool.true_and]) ?_
    refine sxo_nil ?_
    exact sxq_case (lk_cons rfl (lk_cons rfl (lk_cons rfl (lk_cons rfl (lk_cons rfl (lk_cons rfl (lk_cons rfl (lk_cons rfl (lk_cons rfl lk_nil)))))))))
  · refine sxo_take (os := _) rfl ?_
    refine sxo_isF (k := 59) rfl h33 ?_
    refine sxo_skip rfl rfl rfl ?_
    refine sxo_skip rfl rfl rfl ?_
    refine sxo_pick (b := false) rfl rfl rfl rfl ?_
    refine sxo_again (d := 62) (v := .bool (((x30 && ((x3.2 : Int) == 0)) && ((x8.1 : Int) == 15)) && ((x8.2 : Int) == 0))) rfl (by rw [h33]; simp only [Bool.false_and]) ?_
    refine sxo_nil ?_
    exact sxq_case (lk_cons rfl (lk_cons rfl (lk_cons rfl (lk_cons rfl (lk_cons rfl (lk_cons rfl (lk_cons rfl (lk_cons rfl (lk_cons rfl lk_nil)))))))))
  refine sxo_take (os := _) rfl ?_
  refine sxo_move rfl rfl rfl ?_
  refine sxo_join 4 (fun ((x38, _) : (Bool × Unit)) => [(6, .pointer (some ⟨g16, 0, none⟩)), (7, .int .i64 x11.2.2.2), (8, .slice a18 x17.1.length c19), (9, .int .i64 x17.2), (11, .int .i64 x20.2), (12, .slice a26 x25.1.length c27), (13, .int .i64 x25.2), (67, .bool x38)]) (fun ((x38, _) : (Bool × Unit)) => [⟨g16, 25, [.int .i64 x11.2.1, .slice a14 x11.2.2.1.length c15]⟩]) (fun ((x38, _) : (Bool × Unit)) => [Ro (eI .i64) 3 1 (.slice a18 x17.1.length c19) x17.1, Ro (eI .i64) 3 1 (.slice a26 x25.1.length c27) x25.1, Ro (eI .u8) 5 1 (.slice a14 x11.2.2.1.length c15) x11.2.2.1]) (fun ((x38, _) : (Bool × Unit)) => []) (fun ((x38, _) : (Bool × Unit)) => M_L_huffBegun_j1 F x11 x17 x20 x25 x38) ?_ ?_
  · refine sxo_take (os := _) rfl ?_
    refine sxo_if (fun h34 => ?_) (fun h34 => ?_)
    · refine sxo_isT (k := 63) rfl h34 ?_
      refine sxo_move rfl rfl rfl ?_
      refine sxo_slit (vs := [.int .i64 1, .int .i64 0, .int .i64 1]) (ys := ([1, 0, 1] : List Int)) (eI_ok .i64) (by decide) rfl Try.underlying22 tf3 rfl rfl rfl rfl rfl (by decide) (fun a60 c61 => ?_)
      refine sxo_call ent20 rfl rfl rfl (fun x62 e62 => C_R_SameInts F x11.1 a12 c13 ([1, 0, 1] : List Int) a60 c61 x62 e62) (.consR 6 (Ro (eI .i64) 3 1 (.slice a12 x11.1.length c13) x11.1) rfl (.consR 0 (Ro (eI .i64) 3 1 (.slice a60 ([1, 0, 1] : List Int).length c61) ([1, 0, 1] : List Int)) rfl .nil)) (fun x62 e62 => ?_)
      intro _
      refine sxo_pick (b := true) rfl rfl rfl rfl ?_
      refine sxo_nil ?_
      exact sxq_meetP (x62, ()) (hB := (.cons 0 rfl .nil)) (hR := (.cons 5 rfl (.cons 2 rfl (.cons 5 rfl .nil))))
    · refine sxo_isF (k := 63) rfl h34 ?_
      refine sxo_skip rfl rfl rfl ?_
      refine sxo_skip rfl rfl rfl ?_
      refine sxo_skip rfl rfl rfl ?_
      refine sxo_pick (b := false) rfl rfl rfl rfl ?_
      refine sxo_nil ?_
      exact sxq_meetP (false, ()) (hB := (.cons 0 rfl .nil)) (hR := (.cons 4 rfl (.cons 1 rfl (.cons 4 rfl .nil))))
  · rintro ⟨x38, _⟩
    try dsimp only
    refine sxo_take (os := _) rfl ?_
    refine sxo_move rfl rfl rfl ?_
    refine sxo_case 4 x38 [(7, .int .i64 x11.2.2.2), (8, .slice a18 x17.1.length c19), (9, .int .i64 x17.2), (11, .int .i64 x20.2), (12, .slice a26 x25.1.length c27), (13, .int .i64 x25.2), (72, .bool (x38 && ((x11.2.1 : Int) == 3)))] (fun h39 => ?_) (fun h39 => ?_) ?_
    · refine sxo_take (os := _) rfl ?_
      refine sxo_isT (k := 68) rfl h39 ?_
      refine sxo_fieldAddr rfl rfl ff25_0 rfl ?_
      refine sxo_loadB (i := 0) rfl rfl tf3 rfl rfl (fun _ => rfl) rfl rfl ?_
      refine sxo_eql rfl rfl rfl rfl ?_
      refine sxo_pick (b := true) rfl rfl rfl rfl ?_
      refine sxo_again (d := 72) (v := .bool (x38 && ((x11.2.1 : Int) == 3))) rfl (by rw [h39]; simp only [Bool.true_and]) ?_
      refine sxo_nil ?_
      exact sxq_case (lk_cons rfl (lk_cons rfl (lk_cons rfl (lk_cons rfl (lk_cons rfl (lk_cons rfl (lk_cons rfl lk_nil)))))))
    · refine sxo_take (os := _) rfl ?_
      refine sxo_isF (k := 68) rfl h39 ?_
      refine sxo_skip rfl rfl rfl ?_
      refine sxo_skip rfl rfl rfl ?_
      refine sxo_skip rfl rfl rfl ?_
      refine sxo_pick (b := false) rfl rfl rfl rfl ?_
      refine sxo_again (d := 72) (v := .bool (x38 && ((x11.2.1 : Int) == 3))) rfl (by rw [h39]; simp only [Bool.false_and]) ?_
      refine sxo_nil ?_
      exact sxq_case (lk_cons rfl (lk_cons rfl (lk_cons rfl (lk_cons rfl (lk_cons rfl (lk_cons rfl (lk_cons rfl lk_nil)))))))
    refine sxo_take (os := _) rfl ?_
    refine sxo_move rfl rfl rfl ?_
    refine sxo_case 3 (x38 && ((x11.2.1 : Int) == 3)) [(8, .slice a18 x17.1.length c19), (9, .int .i64 x17.2), (11, .int .i64 x20.2), (12, .slice a26 x25.1.length c27), (13, .int .i64 x25.2), (76, .bool ((x38 && ((x11.2.1 : Int) == 3)) && ((x11.2.2.2 : Int) == 0)))] (fun h40 => ?_) (fun h40 => ?_) ?_
    · refine sxo_take (os := _) rfl ?_
      refine sxo_isT (k := 73) rfl h40 ?_
      refine sxo_move rfl rfl rfl ?_
      refine sxo_eql rfl rfl rfl rfl ?_
      refine sxo_pick (b := true) rfl rfl rfl rfl ?_
      refine sxo_again (d := 76) (v := .bool ((x38 && ((x11.2.1 : Int) == 3)) && ((x11.2.2.2 : Int) == 0))) rfl (by rw [h40]; simp only [Bool.true_and]) ?_
      refine sxo_nil ?_
      exact sxq_case (lk_cons rfl (lk_cons rfl (lk_cons rfl (lk_cons rfl (lk_cons rfl (lk_cons rfl lk_nil))))))
    · refine sxo_take (os := _) rfl ?_
      refine sxo_isF (k := 73) rfl h40 ?_
      refine sxo_skip rfl rfl rfl ?_
      refine sxo_skip rfl rfl rfl ?_
      refine sxo_pick (b := false) rfl rfl rfl rfl ?_
      refine sxo_again (d := 76) (v := .bool ((x38 && ((x11.2.1 : Int) == 3)) && ((x11.2.2.2 : Int) == 0))) rfl (by rw [h40]; simp only [Bool.false_and]) ?_
      refine sxo_nil ?_
      exact sxq_case (lk_cons rfl (lk_cons rfl (lk_cons rfl (lk_cons rfl (lk_cons rfl (lk_cons rfl lk_nil))))))
    refine sxo_take (os := _) rfl ?_
    refine sxo_move rfl rfl rfl ?_
    refine sxo_join 4 (fun ((x45, _) : (Bool × Unit)) => [(9, .int .i64 x17.2), (11, .int .i64 x20.2), (12, .slice a26 x25.1.length c27), (13, .int .i64 x25.2), (81, .bool x45)]) (fun ((x45, _) : (Bool × Unit)) => []) (fun ((x45, _) : (Bool × Unit)) => [Ro (eI .i64) 3 1 (.slice a26 x25.1.length c27) x25.1]) (fun ((x45, _) : (Bool × Unit)) => []) (fun ((x45, _) : (Bool × Unit)) => M_L_huffBegun_j2 F x17 x20 x25 x45) ?_ ?_
    · refine sxo_take (os := _) rfl ?_
      refine sxo_if (fun h41 => ?_) (fun h41 => ?_)
      · refine sxo_isT (k := 77) rfl h41 ?_
        refine sxo_move rfl rfl rfl ?_
        refine sxo_slit (vs := [.int .i64 0, .int .i64 2, .int .i64 0]) (ys := ([0, 2, 0] : List Int)) (eI_ok .i64) (by decide) rfl Try.underlying22 tf3 rfl rfl rfl rfl rfl (by decide) (fun a57 c58 => ?_)
        refine sxo_call ent20 rfl rfl rfl (fun x59 e59 => C_R_SameInts F x17.1 a18 c19 ([0, 2, 0] : List Int) a57 c58 x59 e59) (.consR 1 (Ro (eI .i64) 3 1 (.slice a18 x17.1.length c19) x17.1) rfl (.consR 0 (Ro (eI .i64) 3 1 (.slice a57 ([0, 2, 0] : List Int).length c58) ([0, 2, 0] : List Int)) rfl .nil)) (fun x59 e59 => ?_)
        intro _
        refine sxo_pick (b := true) rfl rfl rfl rfl ?_
        refine sxo_nil ?_
        exact sxq_meetP (x59, ()) (hR := (.cons 2 rfl .nil))
      · refine sxo_isF (k := 77) rfl h41 ?_
        refine sxo_skip rfl rfl rfl ?_
        refine sxo_skip rfl rfl rfl ?_
        refine sxo_skip rfl rfl rfl ?_
        refine sxo_pick (b := false) rfl rfl rfl rfl ?_
        refine sxo_nil ?_
        exact sxq_meetP (false, ()) (hR := (.cons 1 rfl .nil))
    · rintro ⟨x45, _⟩
      try dsimp only
      refine sxo_take (os := _) rfl ?_
      refine sxo_move rfl rfl rfl ?_
      refine sxo_case 3 x45 [(11, .int .i64 x20.2), (12, .slice a26 x25.1.length c27), (13, .int .i64 x25.2), (85, .bool (x45 && ((x17.2 : Int) == 0)))] (fun h46 => ?_) (fun h46 => ?_) ?_
      · refine sxo_take (os := _) rfl ?_
        refine sxo_isT (k := 82) rfl h46 ?_
        refine sxo_move rfl rfl rfl ?_
        refine sxo_eql rfl rfl rfl rfl ?_
        refine sxo_pick (b := true) rfl rfl rfl rfl ?_
        refine sxo_again (d := 85) (v := .bool (x45 && ((x17.2 : Int) == 0))) rfl (by rw [h46]; simp only [Bool.true_and]) ?_
        refine sxo_nil ?_
        exact sxq_case (lk_cons rfl (lk_cons rfl (lk_cons rfl (lk_cons rfl lk_nil))))
      · refine sxo_take (os := _) rfl ?_
        refine sxo_isF (k := 82) rfl h46 ?_
        refine sxo_skip rfl rfl rfl ?_
        refine sxo_skip rfl rfl rfl ?_
        refine sxo_pick (b := false) rfl rfl rfl rfl ?_
        refine sxo_again (d := 85) (v := .bool (x45 && ((x17.2 : Int) == 0))) rfl (by rw [h46]; simp only [Bool.false_and]) ?_
        refine sxo_nil ?_
        exact sxq_case (lk_cons rfl (lk_cons rfl (lk_cons rfl (lk_cons rfl lk_nil))))
      refine sxo_take (os := _) rfl ?_
      refine sxo_move rfl rfl rfl ?_
      refine sxo_case 3 (x45 && ((x17.2 : Int) == 0)) [(12, .slice a26 x25.1.length c27), (13, .int .i64 x25.2), (89, .bool ((x45 && ((x17.2 : Int) == 0)) && ((x20.2 : Int) == 1)))] (fun h47 => ?_) (fun h47 => ?_) ?_
      · refine sxo_take (os := _) rfl ?_
        refine sxo_isT (k := 86) rfl h47 ?_
        refine sxo_move rfl rfl rfl ?_
        refine sxo_eql rfl rfl rfl rfl ?_
        refine sxo_pick (b := true) rfl rfl rfl rfl ?_
        refine sxo_again (d := 89) (v := .bool ((x45 && ((x17.2 : Int) == 0)) && ((x20.2 : Int) == 1))) rfl (by rw [h47]; simp only [Bool.true_and]) ?_
        refine sxo_nil ?_
        exact sxq_case (lk_cons rfl (lk_cons rfl (lk_cons rfl lk_nil)))
      · refine sxo_take (os := _) rfl ?_
        refine sxo_isF (k := 86) rfl h47 ?_
        refine sxo_skip rfl rfl rfl ?_
        refine sxo_skip rfl rfl rfl ?_
        refine sxo_pick (b := false) rfl rfl rfl rfl ?_
        refine sxo_again (d := 89) (v := .bool ((x45 && ((x17.2 : Int) == 0)) && ((x20.2 : Int) == 1))) rfl (by rw [h47]; simp only [Bool.false_and]) ?_
        refine sxo_nil ?_
        exact sxq_case (lk_cons rfl (lk_cons rfl (lk_cons rfl lk_nil)))
      refine sxo_take (os := _) rfl ?_
      refine sxo_move rfl rfl rfl ?_
      refine sxo_join 4 (fun ((x52, _) : (Bool × Unit)) => [(13, .int .i64 x25.2), (94, .bool x52)]) (fun ((x52, _) : (Bool × Unit)) => []) (fun ((x52, _) : (Bool × Unit)) => []) (fun ((x52, _) : (Bool × Unit)) => []) (fun ((x52, _) : (Bool × Unit)) => M_L_huffBegun_j3 F x25 x52) ?_ ?_
      · refine sxo_take (os := _) rfl ?_
        refine sxo_if (fun h48 => ?_) (fun h48 => ?_)
        · refine sxo_isT (k := 90) rfl h48 ?_
          refine sxo_move rfl rfl rfl ?_
          refine sxo_slit (vs := [.int .i64 0, .int .i64 1]) (ys := ([0, 1] : List Int)) (eI_ok .i64) (by decide) rfl Try.underlying22 tf3 rfl rfl rfl rfl rfl (by decide) (fun a54 c55 => ?_)
          refine sxo_call ent20 rfl rfl rfl (fun x56 e56 => C_R_SameInts F x25.1 a26 c27 ([0, 1] : List Int) a54 c55 x56 e56) (.consR 1 (Ro (eI .i64) 3 1 (.slice a26 x25.1.length c27) x25.1) rfl (.consR 0 (Ro (eI .i64) 3 1 (.slice a54 ([0, 1] : List Int).length c55) ([0, 1] : List Int)) rfl .nil)) (fun x56 e56 => ?_)
          intro _
          refine sxo_pick (b := true) rfl rfl rfl rfl ?_
          refine sxo_nil ?_
          exact sxq_meetP (x56, ())
        · refine sxo_isF (k := 90) rfl h48 ?_
          refine sxo_skip rfl rfl rfl ?_
          refine sxo_skip rfl rfl rfl ?_
          refine sxo_skip rfl rfl rfl ?_
          refine sxo_pick (b := false) rfl rfl rfl rfl ?_
          refine sxo_nil ?_
          exact sxq_meetP (false, ())
      · rintro ⟨x52, _⟩
        try dsimp only
        refine sxo_take (os := _) rfl ?_
        refine sxo_move rfl rfl rfl ?_
        refine sxo_case 3 x52 [(98, .bool (x52 && ((x25.2 : Int) == 0)))] (fun h53 => ?_) (fun h53 => ?_) ?_
        · refine sxo_take (os := _) rfl ?_
          refine sxo_isT (k := 95) rfl h53 ?_
          refine sxo_move rfl rfl rfl ?_
          refine sxo_eql rfl rfl rfl rfl ?_
          refine sxo_pick (b := true) rfl rfl rfl rfl ?_
          refine sxo_again (d := 98) (v := .bool (x52 && ((x25.2 : Int) == 0))) rfl (by rw [h53]; simp only [Bool.true_and]) ?_
          refine sxo_nil ?_
          exact sxq_case (lk_cons rfl lk_nil)
        · refine sxo_take (os := _) rfl ?_
          refine sxo_isF (k := 95) rfl h53 ?_
          refine sxo_skip rfl rfl rfl ?_
          refine sxo_skip rfl rfl rfl ?_
          refine sxo_pick (b := false) rfl rfl rfl rfl ?_
          refine sxo_again (d := 98) (v := .bool (x52 && ((x25.2 : Int) == 0))) rfl (by rw [h53]; simp only [Bool.false_and]) ?_
          refine sxo_nil ?_
          exact sxq_case (lk_cons rfl lk_nil)
        refine sxo_take (os := _) rfl ?_
        refine sxo_assign rfl rfl rfl ?_
        refine sxo_nil ?_
        refine sxq_next ?_
        refine sxc_ret ?_
        exact sxq_doneP () (res1 rfl rfl)

set_option maxHeartbeats 4000000 in
theorem C_L_HuffOften (F : Nat) (x1 : List Int) (a2 : Option Addr) (c3 : Nat) (x4 : Int) (x5 : Int) (r : Bool) (hm : M_L_HuffOften F x1 x4 x5 = some r) :
    Pure Try.prog 5 [.slice a2 x1.length c3, .int .i64 x4, .int .i64 x5] [Sl (eI .i64) 1 (.slice a2 x1.length c3) x1] Unit (fun _ => .bool r) (fun _ => []) (fun _ => []) := by
  refine pure_of Try.func5 rfl Try.ntmps5 rfl hm (fun w => ?_)
  refine sxc_env (l' := [(0, .slice a2 x1.length c3), (1, .int .i64 x4), (2, .int .i64 x5)]) rfl ?_
  refine sxc_seq ?_
  refine sxc_region ?_
  refine sxo_assign rfl rfl rfl ?_
  refine sxo_nil ?_
  refine sxq_next ?_
  refine sxc_seq ?_
  refine sxc_region ?_
  refine sxo_move rfl rfl rfl ?_
  refine sxo_call ent11 rfl rfl rfl (fun x6 e6 => C_huff_Lengths F x1 a2 c3 x6 e6) (.consF 0 rfl .nil) (fun x6 e6 => ?_)
  rintro ⟨a7, c8⟩
  refine sxo_move rfl rfl rfl ?_
  refine sxo_extract rfl rfl rfl rfl ?_
  refine sxo_extract rfl rfl rfl rfl ?_
  refine sxo_assign rfl rfl rfl ?_
  refine sxo_assign rfl rfl rfl ?_
  refine sxo_nil ?_
  refine sxq_next ?_
  refine sxc_seq ?_
  refine sxc_seq ?_
  refine sxc_region ?_
  refine sxo_call ent19 rfl rfl rfl (fun x11 e11 => C_L_huffBegun F  x11 e11) .nil (fun x11 e11 => ?_)
  intro _
  refine sxo_not rfl rfl rfl ?_
  refine sxo_nil ?_
  refine sxq_next ?_
  refine sxc_if rfl (fun h89 => ?_) (fun h89 => ?_)
  · refine sxc_seq ?_
    refine sxc_region ?_
    refine sxo_assign rfl rfl rfl ?_
    refine sxo_nil ?_
    refine sxq_next ?_
    refine sxc_ret ?_
    refine sxq_thenR ?_
    exact sxq_doneP () (res1 rfl rfl)
  · refine sxc_skip ?_
    refine sxq_next ?_
    refine sxc_seq ?_
    refine sxc_seq ?_
    refine sxc_region ?_
    refine sxo_move rfl rfl rfl ?_
    refine sxo_neq rfl rfl rfl rfl ?_
    refine sxo_move rfl rfl rfl ?_
    refine sxo_case 3 ((x6.2 : Int) != 0) [(0, .slice a2 x1.length c3), (1, .int .i64 x4), (2, .int .i64 x5), (7, .slice a7 x6.1.length c8), (8, .int .i64 x6.2), (21, .bool (((x6.2 : Int) != 0) || (decide (x4 < 0))))] (fun h19 => ?_) (fun h19 => ?_) ?_
    · refine sxo_take (os := _) rfl ?_
      refine sxo_isT (k := 18) rfl h19 ?_
      refine sxo_skip rfl rfl rfl ?_
      refine sxo_skip rfl rfl rfl ?_
      refine sxo_pick (b := true) rfl rfl rfl rfl ?_
      refine sxo_again (d := 21) (v := .bool (((x6.2 : Int) != 0) || (decide (x4 < 0)))) rfl (by rw [h19]; simp only [Bool.true_or]) ?_
      refine sxo_nil ?_
      exact sxq_case (lk_cons rfl (lk_cons rfl (lk_cons rfl (lk_cons rfl (lk_cons rfl (lk_cons rfl lk_nil))))))
    · refine sxo_take (os := _) rfl ?_
      refine sxo_isF (k := 18) rfl h19 ?_
      refine sxo_move rfl rfl rfl ?_
      refine sxo_lss rfl rfl rfl rfl ?_
      refine sxo_pick (b := false) rfl rfl rfl rfl ?_
      refine sxo_again (d := 21) (v := .bool (((x6.2 : Int) != 0) || (decide (x4 < 0)))) rfl (by rw [h19]; simp only [Bool.false_or]) ?_
      refine sxo_nil ?_
      exact sxq_case (lk_cons rfl (lk_cons rfl (lk_cons rfl (lk_cons rfl (lk_cons rfl (lk_cons rfl lk_nil))))))
    refine sxo_take (os := _) rfl ?_
    refine sxo_move rfl rfl rfl ?_
    refine sxo_case 5 (((x6.2 : Int) != 0) || (decide (x4 < 0))) [(0, .slice a2 x1.length c3), (1, .int .i64 x4), (2, .int .i64 x5), (7, .slice a7 x6.1.length c8), (8, .int .i64 x6.2), (27, .bool ((((x6.2 : Int) != 0) || (decide (x4 < 0))) || (decide ((x6.1.length : Int) ≤ x4))))] (fun h20 => ?_) (fun h20 => ?_) ?_
    · refine sxo_take (os := _) rfl ?_
      refine sxo_isT (k := 22) rfl h20 ?_
      refine sxo_skip rfl rfl rfl ?_
      refine sxo_skip rfl rfl rfl ?_
      refine sxo_skip rfl rfl rfl ?_
      refine sxo_skip rfl rfl rfl ?_
      refine sxo_pick (b := true) rfl rfl rfl rfl ?_
      refine sxo_again (d := 27) (v := .bool ((((x6.2 : Int) != 0) || (decide (x4 < 0))) || (decide ((x6.1.length : Int) ≤ x4)))) rfl (by rw [h20]; simp only [Bool.true_or]) ?_
      refine sxo_nil ?_
      exact sxq_case (lk_cons rfl (lk_cons rfl (lk_cons rfl (lk_cons rfl (lk_cons rfl (lk_cons rfl lk_nil))))))
    · refine sxo_take (os := _) rfl ?_
      refine sxo_isF (k := 22) rfl h20 ?_
      refine sxo_move rfl rfl rfl ?_
      refine sxo_move rfl rfl rfl ?_
      refine sxo_len rfl Try.underlying22 rfl rfl ?_
      refine sxo_geq rfl rfl rfl rfl ?_
      refine sxo_pick (b := false) rfl rfl rfl rfl ?_
      refine sxo_again (d := 27) (v := .bool ((((x6.2 : Int) != 0) || (decide (x4 < 0))) || (decide ((x6.1.length : Int) ≤ x4)))) rfl (by rw [h20]; simp only [Bool.false_or]) ?_
      refine sxo_nil ?_
      exact sxq_case (lk_cons rfl (lk_cons rfl (lk_cons rfl (lk_cons rfl (lk_cons rfl (lk_cons rfl lk_nil))))))
    refine sxo_take (os := _) rfl ?_
    refine sxo_move rfl rfl rfl ?_
    refine sxo_case 3 ((((x6.2 : Int) != 0) || (decide (x4 < 0))) || (decide ((x6.1.length : Int) ≤ x4))) [(0, .slice a2 x1.length c3), (1, .int .i64 x4), (2, .int .i64 x5), (7, .slice a7 x6.1.length c8), (8, .int .i64 x6.2), (31, .bool (((((x6.2 : Int) != 0) || (decide (x4 < 0))) || (decide ((x6.1.length : Int) ≤ x4))) || (decide (x5 < 0))))] (fun h21 => ?_) (fun h21 => ?_) ?_
    · refine sxo_take (os := _) rfl ?_
      refine sxo_isT (k := 28) rfl h21 ?_
      refine sxo_skip rfl rfl rfl ?_
      refine sxo_skip rfl rfl rfl ?_
      refine sxo_pick (b := true) rfl rfl rfl rfl ?_
      refine sxo_again (d := 31) (v := .bool (((((x6.2 : Int) != 0) || (decide (x4 < 0))) || (decide ((x6.1.length : Int) ≤ x4))) || (decide (x5 < 0)))) rfl (by rw [h21]; simp only [Bool.true_or]) ?_
      refine sxo_nil ?_
      exact sxq_case (lk_cons rfl (lk_cons rfl (lk_cons rfl (lk_cons rfl (lk_cons rfl (lk_cons rfl lk_nil))))))
    · refine sxo_take (os := _) rfl ?_
      refine sxo_isF (k := 28) rfl h21 ?_
      refine sxo_move rfl rfl rfl ?_
      refine sxo_lss rfl rfl rfl rfl ?_
      refine sxo_pick (b := false) rfl rfl rfl rfl ?_
      refine sxo_again (d := 31) (v := .bool (((((x6.2 : Int) != 0) || (decide (x4 < 0))) || (decide ((x6.1.length : Int) ≤ x4))) || (decide (x5 < 0)))) rfl (by rw [h21]; simp only [Bool.false_or]) ?_
      refine sxo_nil ?_
      exact sxq_case (lk_cons rfl (lk_cons rfl (lk_cons rfl (lk_cons rfl (lk_cons rfl (lk_cons rfl lk_nil))))))
    refine sxo_take (os := _) rfl ?_
    refine sxo_move rfl rfl rfl ?_
    refine sxo_case 5 (((((x6.2 : Int) != 0) || (decide (x4 < 0))) || (decide ((x6.1.length : Int) ≤ x4))) || (decide (x5 < 0))) [(0, .slice a2 x1.length c3), (1, .int .i64 x4), (2, .int .i64 x5), (7, .slice a7 x6.1.length c8), (8, .int .i64 x6.2), (37, .bool ((((((x6.2 : Int) != 0) || (decide (x4 < 0))) || (decide ((x6.1.length : Int) ≤ x4))) || (decide (x5 < 0))) || (decide ((x6.1.length : Int) ≤ x5))))] (fun h22 => ?_) (fun h22 => ?_) ?_
    · refine sxo_take (os := _) rfl ?_
      refine sxo_isT (k := 32) rfl h22 ?_
      refine sxo_skip rfl rfl rfl ?_
      refine sxo_skip rfl rfl rfl ?_
      refine sxo_skip rfl rfl rfl ?_
      refine sxo_skip rfl rfl rfl ?_
      refine sxo_pick (b := true) rfl rfl rfl rfl ?_
      refine sxo_again (d := 37) (v := .bool ((((((x6.2 : Int) != 0) || (decide (x4 < 0))) || (decide ((x6.1.length : Int) ≤ x4))) || (decide (x5 < 0))) || (decide ((x6.1.length : Int) ≤ x5)))) rfl (by rw [h22]; simp only [Bool.true_or]) ?_
      refine sxo_nil ?_
      exact sxq_case (lk_cons rfl (lk_cons rfl (lk_cons rfl (lk_cons rfl (lk_cons rfl (lk_cons rfl lk_nil))))))
    · refine sxo_take (os := _) rfl ?_
      refine sxo_isF (k := 32) rfl h22 ?_
      refine sxo_move rfl rfl rfl ?_
      refine sxo_move rfl rfl rfl ?_
      refine sxo_len rfl Try.underlying22 rfl rfl ?_
      refine sxo_geq rfl rfl rfl rfl ?_
      refine sxo_pick (b := false) rfl rfl rfl rfl ?_
      refine sxo_again (d := 37) (v := .bool ((((((x6.2 : Int) != 0) || (decide (x4 < 0))) || (decide ((x6.1.length : Int) ≤ x4))) || (decide (x5 < 0))) || (decide ((x6.1.length : Int) ≤ x5)))) rfl (by rw [h22]; simp only [Bool.false_or]) ?_
      refine sxo_nil ?_
      exact sxq_case (lk_cons rfl (lk_cons rfl (lk_cons rfl (lk_cons rfl (lk_cons rfl (lk_cons rfl lk_nil))))))
    refine sxo_take (os := _) rfl ?_
    refine sxo_move rfl rfl rfl ?_
    refine sxo_case 6 ((((((x6.2 : Int) != 0) || (decide (x4 < 0))) || (decide ((x6.1.length : Int) ≤ x4))) || (decide (x5 < 0))) || (decide ((x6.1.length : Int) ≤ x5))) [(0, .slice a2 x1.length c3), (1, .int .i64 x4), (2, .int .i64 x5), (7, .slice a7 x6.1.length c8), (8, .int .i64 x6.2), (44, .bool (((((((x6.2 : Int) != 0) || (decide (x4 < 0))) || (decide ((x6.1.length : Int) ≤ x4))) || (decide (x5 < 0))) || (decide ((x6.1.length : Int) ≤ x5))) || (((x6.1.length : Int) : Int) != (x1.length : Int))))] (fun h23 => ?_) (fun h23 => ?_) ?_
    · refine sxo_take (os := _) rfl ?_
      refine sxo_isT (k := 38) rfl h23 ?_
      refine sxo_skip rfl rfl rfl ?_
      refine sxo_skip rfl rfl rfl ?_
      refine sxo_skip rfl rfl rfl ?_
      refine sxo_skip rfl rfl rfl ?_
      refine sxo_skip rfl rfl rfl ?_
      refine sxo_pick (b := true) rfl rfl rfl rfl ?_
      refine sxo_again (d := 44) (v := .bool (((((((x6.2 : Int) != 0) || (decide (x4 < 0))) || (decide ((x6.1.length : Int) ≤ x4))) || (decide (x5 < 0))) || (decide ((x6.1.length : Int) ≤ x5))) || (((x6.1.length : Int) : Int) != (x1.length : Int)))) rfl (by rw [h23]; simp only [Bool.true_or]) ?_
      refine sxo_nil ?_
      exact sxq_case (lk_cons rfl (lk_cons rfl (lk_cons rfl (lk_cons rfl (lk_cons rfl (lk_cons rfl lk_nil))))))
    · refine sxo_take (os := _) rfl ?_
      refine sxo_isF (k := 38) rfl h23 ?_
      refine sxo_move rfl rfl rfl ?_
      refine sxo_len rfl Try.underlying22 rfl rfl ?_
      refine sxo_move rfl rfl rfl ?_
      refine sxo_len rfl Try.underlying22 rfl rfl ?_
      refine sxo_neq rfl rfl rfl rfl ?_
      refine sxo_pick (b := false) rfl rfl rfl rfl ?_
      refine sxo_again (d := 44) (v := .bool (((((((x6.2 : Int) != 0) || (decide (x4 < 0))) || (decide ((x6.1.length : Int) ≤ x4))) || (decide (x5 < 0))) || (decide ((x6.1.length : Int) ≤ x5))) || (((x6.1.length : Int) : Int) != (x1.length : Int)))) rfl (by rw [h23]; simp only [Bool.false_or]) ?_
      refine sxo_nil ?_
      exact sxq_case (lk_cons rfl (lk_cons rfl (lk_cons rfl (lk_cons rfl (lk_cons rfl (lk_cons rfl lk_nil))))))
    refine sxo_take (os := _) rfl ?_
    refine sxo_nil ?_
    refine sxq_next ?_
    refine sxc_if rfl (fun h88 => ?_) (fun h88 => ?_)
    · refine sxc_seq ?_
      refine sxc_region ?_
      refine sxo_move rfl rfl rfl ?_
      refine sxo_neq rfl rfl rfl rfl ?_
      refine sxo_move rfl rfl rfl ?_
      refine sxo_case 6 ((x6.2 : Int) != 0) [(53, .bool (((x6.2 : Int) != 0) || (((x6.1.length : Int) : Int) == (x1.length : Int))))] (fun h24 => ?_) (fun h24 => ?_) ?_
      · refine sxo_take (os := _) rfl ?_
        refine sxo_isT (k := 47) rfl h24 ?_
        refine sxo_skip rfl rfl rfl ?_
        refine sxo_skip rfl rfl rfl ?_
        refine sxo_skip rfl rfl rfl ?_
        refine sxo_skip rfl rfl rfl ?_
        refine sxo_skip rfl rfl rfl ?_
        refine sxo_pick (b := true) rfl rfl rfl rfl ?_
        refine sxo_again (d := 53) (v := .bool (((x6.2 : Int) != 0) || (((x6.1.length : Int) : Int) == (x1.length : Int)))) rfl (by rw [h24]; simp only [Bool.true_or]) ?_
        refine sxo_nil ?_
        exact sxq_case (lk_cons rfl lk_nil)
      · refine sxo_take (os := _) rfl ?_
        refine sxo_isF (k := 47) rfl h24 ?_
        refine sxo_move rfl rfl rfl ?_
        refine sxo_len rfl Try.underlying22 rfl rfl ?_
        refine sxo_move rfl rfl rfl ?_
        refine sxo_len rfl Try.underlying22 rfl rfl ?_
        refine sxo_eql rfl rfl rfl rfl ?_
        refine sxo_pick (b := false) rfl rfl rfl rfl ?_
        refine sxo_again (d := 53) (v := .bool (((x6.2 : Int) != 0) || (((x6.1.length : Int) : Int) == (x1.length : Int)))) rfl (by rw [h24]; simp only [Bool.false_or]) ?_
        refine sxo_nil ?_
        exact sxq_case (lk_cons rfl lk_nil)
      refine sxo_take (os := _) rfl ?_
      refine sxo_assign rfl rfl rfl ?_
      refine sxo_nil ?_
      refine sxq_next ?_
      refine sxc_ret ?_
      refine sxq_thenR ?_
      exact sxq_doneP () (res1 rfl rfl)
    · refine sxc_skip ?_
      refine sxq_next ?_
      refine sxc_join (fun ((x56, _) : (Bool × Unit)) => [(6, .bool x56)]) (fun ((x56, _) : (Bool × Unit)) => []) (fun ((x56, _) : (Bool × Unit)) => []) (fun ((x56, _) : (Bool × Unit)) => []) (fun ((x56, _) : (Bool × Unit)) => M_L_HuffOften_j1 F x56) ?_ ?_
      · refine sxc_idxO (j := 0) rfl (fun x57 e57 g58 h59 => ?_)
        replace h59 : a7 = some ⟨g58, 0, none⟩ := h59
        have h60 := own_of (k := x6.1.length) (c := c8) h59
        refine sxc_idxF (j := 0) (eI_ok .i64) (by decide) rfl (fun x61 e61 b62 o63 h64 => ?_)
        replace h64 : a2 = some ⟨b62, o63, none⟩ := h64
        refine sxc_idxF (j := 1) (eI_ok .i64) (by decide) rfl (fun x65 e65 b66 o67 h68 => ?_)
        replace h68 : a2 = some ⟨b66, o67, none⟩ := h68
        refine sxc_idxF (j := 2) (eI_ok .i64) (by decide) rfl (fun x69 e69 b70 o71 h72 => ?_)
        replace h72 : a2 = some ⟨b70, o71, none⟩ := h72
        refine sxc_idxO (j := 0) rfl (fun x73 e73 g74 h75 => ?_)
        replace h75 : a7 = some ⟨g74, 0, none⟩ := h75
        have h76 := own_of (k := x6.1.length) (c := c8) h75
        refine sxc_idxO (j := 0) rfl (fun x77 e77 g78 h79 => ?_)
        replace h79 : a7 = some ⟨g78, 0, none⟩ := h79
        have h80 := own_of (k := x6.1.length) (c := c8) h79
        refine sxc_idxF (j := 3) (eI_ok .i64) (by decide) rfl (fun x81 e81 b82 o83 h84 => ?_)
        replace h84 : a2 = some ⟨b82, o83, none⟩ := h84
        refine sxb_draw mixed [] [] [CellsAt b82 (o83 + x5.toNat * 1) ((eI .i64) x81), CellsAt b70 (o71 + x5.toNat * 1) ((eI .i64) x69), CellsAt b66 (o67 + x4.toNat * 1) ((eI .i64) x65), CellsAt b62 (o63 + x4.toNat * 1) ((eI .i64) x61), Sl (eI .i64) 1 (.slice a2 x1.length c3) x1, CellsAt g58 (x4.toNat * 1) ((eI .i64) x57), CellsAt g74 (x4.toNat * 1) ((eI .i64) x73), CellsAt g78 (x5.toNat * 1) ((eI .i64) x77)] .nil (gk_F 0 rfl (gk_F 1 rfl (gk_F 2 rfl (gk_F 3 rfl (gk_F 4 rfl (gk_R 0 rfl (at_row (eI_ok .i64) e57 h59) (gk_R 0 rfl (at_row (eI_ok .i64) e73 h75) (gk_R 0 rfl (at_row (eI_ok .i64) e77 h79) gk_nil)))))))) 41 rfl ?_
        refine sxb_takeP 0 (.slice a7 x6.1.length c8) rfl rfl rfl (yv_pv rfl) ?_
        refine sxb_takeP 1 (.int .i64 x4) rfl rfl rfl (yv_pv rfl) ?_
        refine sxb_again (d := 54) (v := .slice (some ⟨g58, 0, none⟩) x6.1.length c8) rfl (by rw [h59] <;> rfl) ?_
        refine sxb_takeP 2 (.pointer (some ⟨g58, x4.toNat * 1, none⟩)) rfl rfl rfl (yv_idxO Try.underlying22 tf3 rfl rfl (idx_get e57).1 (idx_lt e57)) ?_
        refine sxb_again (d := 54) (v := .slice a7 x6.1.length c8) rfl (by rw [h59] <;> rfl) ?_
        refine sxb_take 3 (.int .i64 x57) [] rfl rfl rfl (yv_loadF (j := 5) rfl tf3 rfl rfl (fun _ => rfl) rfl) ?_
        refine sxb_takeP 4 (.bool ((x57 : Int) == 0)) rfl rfl rfl (yv_pv rfl) ?_
        refine sxb_takeP 5 (.slice a2 x1.length c3) rfl rfl rfl (yv_pv rfl) ?_
        refine sxb_takeP 6 (.int .i64 x4) rfl rfl rfl (yv_pv rfl) ?_
        refine sxb_again (d := 59) (v := .slice (some ⟨b62, o63, none⟩) x1.length c3) rfl (by rw [h64] <;> rfl) ?_
        refine sxb_takeP 7 (.pointer (some ⟨b62, (o63 + x4.toNat * 1), none⟩)) rfl rfl rfl (yv_idx Try.underlying22 tf3 rfl rfl (idx_get e61).1 (idx_lt e61)) ?_
        refine sxb_again (d := 59) (v := .slice a2 x1.length c3) rfl (by rw [h64] <;> rfl) ?_
        refine sxb_take 8 (.int .i64 x61) [] rfl rfl rfl (yv_loadF (j := 3) rfl tf3 rfl rfl (fun _ => rfl) rfl) ?_
        refine sxb_takeP 9 (.bool ((x61 : Int) == 0)) rfl rfl rfl (yv_pv rfl) ?_
        refine sxb_step 10 rfl (by kernel_rfl) rfl ?_
        refine sxo_eqb rfl Try.underlying4 rfl rfl rfl ?_
        refine sxo_nil ?_
        refine sxq_anyB .nil (gk_F 0 rfl (gk_F 1 rfl (gk_F 2 rfl (gk_F 3 rfl (gk_F 4 rfl (gk_R 0 rfl (at_row (eI_ok .i64) e57 h59) (gk_R 0 rfl (at_row (eI_ok .i64) e73 h75) (gk_R 0 rfl (at_row (eI_ok .i64) e77 h79) gk_nil)))))))) ?_
        refine sxb_takeP 11 (.bool (((x57 : Int) == 0) == ((x61 : Int) == 0))) rfl rfl rfl (yv_pv rfl) ?_
        refine sxb_if (fun h85 => ?_) (fun h85 => ?_)
        · refine sxb_again (d := 65) (v := .bool true) rfl (by rw [h85] <;> rfl) ?_
          refine sxb_takeP 12 (.slice a2 x1.length c3) rfl rfl rfl (yv_pv rfl) ?_
          refine sxb_takeP 13 (.int .i64 x4) rfl rfl rfl (yv_pv rfl) ?_
          refine sxb_again (d := 66) (v := .slice (some ⟨b66, o67, none⟩) x1.length c3) rfl (by rw [h68] <;> rfl) ?_
          refine sxb_takeP 14 (.pointer (some ⟨b66, (o67 + x4.toNat * 1), none⟩)) rfl rfl rfl (yv_idx Try.underlying22 tf3 rfl rfl (idx_get e65).1 (idx_lt e65)) ?_
          refine sxb_again (d := 66) (v := .slice a2 x1.length c3) rfl (by rw [h68] <;> rfl) ?_
          refine sxb_take 15 (.int .i64 x65) [] rfl rfl rfl (yv_loadF (j := 2) rfl tf3 rfl rfl (fun _ => rfl) rfl) ?_
          refine sxb_takeP 16 (.slice a2 x1.length c3) rfl rfl rfl (yv_pv rfl) ?_
          refine sxb_takeP 17 (.int .i64 x5) rfl rfl rfl (yv_pv rfl) ?_
          refine sxb_again (d := 70) (v := .slice (some ⟨b70, o71, none⟩) x1.length c3) rfl (by rw [h72] <;> rfl) ?_
          refine sxb_takeP 18 (.pointer (some ⟨b70, (o71 + x5.toNat * 1), none⟩)) rfl rfl rfl (yv_idx Try.underlying22 tf3 rfl rfl (idx_get e69).1 (idx_lt e69)) ?_
          refine sxb_again (d := 70) (v := .slice a2 x1.length c3) rfl (by rw [h72] <;> rfl) ?_
          refine sxb_take 19 (.int .i64 x69) [] rfl rfl rfl (yv_loadF (j := 1) rfl tf3 rfl rfl (fun _ => rfl) rfl) ?_
          refine sxb_takeP 20 (.bool (decide (x65 ≤ x69))) rfl rfl rfl (yv_pv rfl) ?_
          refine sxb_takeP 21 (.bool (decide (x65 ≤ x69))) rfl rfl rfl (yv_pv rfl) ?_
          refine sxb_if (fun h86 => ?_) (fun h86 => ?_)
          · refine sxb_again (d := 75) (v := .bool true) rfl (by rw [h86] <;> rfl) ?_
            refine sxb_skip 22 rfl rfl rfl ?_
            refine sxb_skip 23 rfl rfl rfl ?_
            refine sxb_skip 24 rfl rfl rfl ?_
            refine sxb_skip 25 rfl rfl rfl ?_
            refine sxb_skip 26 rfl rfl rfl ?_
            refine sxb_skip 27 rfl rfl rfl ?_
            refine sxb_skip 28 rfl rfl rfl ?_
            refine sxb_skip 29 rfl rfl rfl ?_
            refine sxb_skip 30 rfl rfl rfl ?_
            refine sxb_takeP 31 (.bool true) rfl rfl rfl (yv_pv rfl) ?_
            refine sxb_takeP 32 (.bool true) rfl rfl rfl (yv_pv rfl) ?_
            refine sxb_skip 33 rfl rfl rfl ?_
            refine sxb_skip 34 rfl rfl rfl ?_
            refine sxb_skip 35 rfl rfl rfl ?_
            refine sxb_skip 36 rfl rfl rfl ?_
            refine sxb_skip 37 rfl rfl rfl ?_
            refine sxb_takeP 38 (.bool true) rfl rfl rfl (yv_pv rfl) ?_
            refine sxb_takeP 39 (.bool true) rfl rfl rfl (yv_pv rfl) ?_
            refine sxb_takeP 40 (.bool true) rfl rfl rfl (yv_pv rfl) ?_
            refine sxb_done (by kernel_rfl) ?_
            refine sxq_np ?_ (by intro c h; cases h)
            exact sxq_meetP (true, ())
          · refine sxb_again (d := 75) (v := .bool false) rfl (by rw [h86] <;> rfl) ?_
            refine sxb_takeP 22 (.slice a7 x6.1.length c8) rfl rfl rfl (yv_pv rfl) ?_
            refine sxb_takeP 23 (.int .i64 x4) rfl rfl rfl (yv_pv rfl) ?_
            refine sxb_again (d := 76) (v := .slice (some ⟨g74, 0, none⟩) x6.1.length c8) rfl (by rw [h75] <;> rfl) ?_
            refine sxb_takeP 24 (.pointer (some ⟨g74, x4.toNat * 1, none⟩)) rfl rfl rfl (yv_idxO Try.underlying22 tf3 rfl rfl (idx_get e73).1 (idx_lt e73)) ?_
            refine sxb_again (d := 76) (v := .slice a7 x6.1.length c8) rfl (by rw [h75] <;> rfl) ?_
            refine sxb_take 25 (.int .i64 x73) [] rfl rfl rfl (yv_loadF (j := 6) rfl tf3 rfl rfl (fun _ => rfl) rfl) ?_
            refine sxb_takeP 26 (.slice a7 x6.1.length c8) rfl rfl rfl (yv_pv rfl) ?_
            refine sxb_takeP 27 (.int .i64 x5) rfl rfl rfl (yv_pv rfl) ?_
            refine sxb_again (d := 80) (v := .slice (some ⟨g78, 0, none⟩) x6.1.length c8) rfl (by rw [h79] <;> rfl) ?_
            refine sxb_takeP 28 (.pointer (some ⟨g78, x5.toNat * 1, none⟩)) rfl rfl rfl (yv_idxO Try.underlying22 tf3 rfl rfl (idx_get e77).1 (idx_lt e77)) ?_
            refine sxb_again (d := 80) (v := .slice a7 x6.1.length c8) rfl (by rw [h79] <;> rfl) ?_
            refine sxb_take 29 (.int .i64 x77) [] rfl rfl rfl (yv_loadF (j := 7) rfl tf3 rfl rfl (fun _ => rfl) rfl) ?_
            refine sxb_takeP 30 (.bool (decide (x73 ≤ x77))) rfl rfl rfl (yv_pv rfl) ?_
            refine sxb_takeP 31 (.bool (decide (x73 ≤ x77))) rfl rfl rfl (yv_pv rfl) ?_
            refine sxb_takeP 32 (.bool (decide (x73 ≤ x77))) rfl rfl rfl (yv_pv rfl) ?_
            refine sxb_if (fun h87 => ?_) (fun h87 => ?_)
            · refine sxb_again (d := 86) (v := .bool true) rfl (by rw [h87] <;> rfl) ?_
              refine sxb_skip 33 rfl rfl rfl ?_
              refine sxb_skip 34 rfl rfl rfl ?_
              refine sxb_skip 35 rfl rfl rfl ?_
              refine sxb_skip 36 rfl rfl rfl ?_
              refine sxb_skip 37 rfl rfl rfl ?_
              refine sxb_takeP 38 (.bool true) rfl rfl rfl (yv_pv rfl) ?_
              refine sxb_takeP 39 (.bool true) rfl rfl rfl (yv_pv rfl) ?_
              refine sxb_takeP 40 (.bool true) rfl rfl rfl (yv_pv rfl) ?_
              refine sxb_done (by kernel_rfl) ?_
              refine sxq_np ?_ (by intro c h; cases h)
              exact sxq_meetP (true, ())
            · refine sxb_again (d := 86) (v := .bool false) rfl (by rw [h87] <;> rfl) ?_
              refine sxb_takeP 33 (.slice a2 x1.length c3) rfl rfl rfl (yv_pv rfl) ?_
              refine sxb_takeP 34 (.int .i64 x5) rfl rfl rfl (yv_pv rfl) ?_
              refine sxb_again (d := 87) (v := .slice (some ⟨b82, o83, none⟩) x1.length c3) rfl (by rw [h84] <;> rfl) ?_
              refine sxb_takeP 35 (.pointer (some ⟨b82, (o83 + x5.toNat * 1), none⟩)) rfl rfl rfl (yv_idx Try.underlying22 tf3 rfl rfl (idx_get e81).1 (idx_lt e81)) ?_
              refine sxb_again (d := 87) (v := .slice a2 x1.length c3) rfl (by rw [h84] <;> rfl) ?_
              refine sxb_take 36 (.int .i64 x81) [] rfl rfl rfl (yv_loadF (j := 0) rfl tf3 rfl rfl (fun _ => rfl) rfl) ?_
              refine sxb_takeP 37 (.bool ((x81 : Int) == 0)) rfl rfl rfl (yv_pv rfl) ?_
              refine sxb_takeP 38 (.bool ((x81 : Int) == 0)) rfl rfl rfl (yv_pv rfl) ?_
              refine sxb_takeP 39 (.bool ((x81 : Int) == 0)) rfl rfl rfl (yv_pv rfl) ?_
              refine sxb_takeP 40 (.bool ((x81 : Int) == 0)) rfl rfl rfl (yv_pv rfl) ?_
              refine sxb_done (by kernel_rfl) ?_
              refine sxq_np ?_ (by intro c h; cases h)
              exact sxq_meetP (((x81 : Int) == 0), ())
        · refine sxb_again (d := 65) (v := .bool false) rfl (by rw [h85] <;> rfl) ?_
          refine sxb_skip 12 rfl rfl rfl ?_
          refine sxb_skip 13 rfl rfl rfl ?_
          refine sxb_skip 14 rfl rfl rfl ?_
          refine sxb_skip 15 rfl rfl rfl ?_
          refine sxb_skip 16 rfl rfl rfl ?_
          refine sxb_skip 17 rfl rfl rfl ?_
          refine sxb_skip 18 rfl rfl rfl ?_
          refine sxb_skip 19 rfl rfl rfl ?_
          refine sxb_skip 20 rfl rfl rfl ?_
          refine sxb_skip 21 rfl rfl rfl ?_
          refine sxb_skip 22 rfl rfl rfl ?_
          refine sxb_skip 23 rfl rfl rfl ?_
          refine sxb_skip 24 rfl rfl rfl ?_
          refine sxb_skip 25 rfl rfl rfl ?_
          refine sxb_skip 26 rfl rfl rfl ?_
          refine sxb_skip 27 rfl rfl rfl ?_
          refine sxb_skip 28 rfl rfl rfl ?_
          refine sxb_skip 29 rfl rfl rfl ?_
          refine sxb_skip 30 rfl rfl rfl ?_
          refine sxb_skip 31 rfl rfl rfl ?_
          refine sxb_skip 32 rfl rfl rfl ?_
          refine sxb_skip 33 rfl rfl rfl ?_
          refine sxb_skip 34 rfl rfl rfl ?_
          refine sxb_skip 35 rfl rfl rfl ?_
          refine sxb_skip 36 rfl rfl rfl ?_
          refine sxb_skip 37 rfl rfl rfl ?_
          refine sxb_skip 38 rfl rfl rfl ?_
          refine sxb_takeP 39 (.bool false) rfl rfl rfl (yv_pv rfl) ?_
          refine sxb_takeP 40 (.bool false) rfl rfl rfl (yv_pv rfl) ?_
          refine sxb_done (by kernel_rfl) ?_
          refine sxq_np ?_ (by intro c h; cases h)
          exact sxq_meetP (false, ())
      · rintro ⟨x56, _⟩
        try dsimp only
        refine sxc_ret ?_
        exact sxq_doneP () (res1 rfl rfl)

set_option maxHeartbeats 4000000 in
theorem C_L_HuffTimes (F : Nat) (x1 : List Int) (a2 : Option Addr) (c3 : Nat) (x4 : Int) (r : Bool) (hm : M_L_HuffTimes F x1 x4 = some r) :
    Pure Try.prog 6 [.slice a2 x1.length c3, .int .i64 x4] [Sl (eI .i64) 1 (.slice a2 x1.length c3) x1] Unit (fun _ => .bool r) (fun _ => []) (fun _ => []) := by
  refine pure_of Try.func6 rfl Try.ntmps6 rfl hm (fun w => ?_)
  refine sxc_env (l' := [(0, .slice a2 x1.length c3), (1, .int .i64 x4)]) rfl ?_
  refine sxc_seq ?_
  refine sxc_region ?_
  refine sxo_assign rfl rfl rfl ?_
  refine sxo_nil ?_
  refine sxq_next ?_
  refine sxc_seq ?_
  refine sxc_region ?_
  refine sxo_move rfl rfl rfl ?_
  refine sxo_call ent11 rfl rfl rfl (fun x5 e5 => C_huff_Lengths F x1 a2 c3 x5 e5) (.consF 0 rfl .nil) (fun x5 e5 => ?_)
  rintro ⟨a6, c7⟩
  refine sxo_move rfl rfl rfl ?_
  refine sxo_extract rfl rfl rfl rfl ?_
  refine sxo_extract rfl rfl rfl rfl ?_
  refine sxo_assign rfl rfl rfl ?_
  refine sxo_assign rfl rfl rfl ?_
  refine sxo_nil ?_
  refine sxq_next ?_
  refine sxc_seq ?_
  refine sxc_seq ?_
  refine sxc_region ?_
  refine sxo_call ent19 rfl rfl rfl (fun x10 e10 => C_L_huffBegun F  x10 e10) .nil (fun x10 e10 => ?_)
  intro _
  refine sxo_not rfl rfl rfl ?_
  refine sxo_nil ?_
  refine sxq_next ?_
  refine sxc_if rfl (fun h149 => ?_) (fun h149 => ?_)
  · refine sxc_seq ?_
    refine sxc_region ?_
    refine sxo_assign rfl rfl rfl ?_
    refine sxo_nil ?_
    refine sxq_next ?_
    refine sxc_ret ?_
    refine sxq_thenR ?_
    exact sxq_doneP () (res1 rfl rfl)
  · refine sxc_skip ?_
    refine sxq_next ?_
    refine sxc_seq ?_
    refine sxc_seq ?_
    refine sxc_region ?_
    refine sxo_move rfl rfl rfl ?_
    refine sxo_neq rfl rfl rfl rfl ?_
    refine sxo_move rfl rfl rfl ?_
    refine sxo_case 3 ((x5.2 : Int) != 0) [(0, .slice a2 x1.length c3), (1, .int .i64 x4), (5, .slice a6 x5.1.length c7), (27, .bool (((x5.2 : Int) != 0) || (decide (x4 < 1))))] (fun h14 => ?_) (fun h14 => ?_) ?_
    · refine sxo_take (os := _) rfl ?_
      refine sxo_isT (k := 24) rfl h14 ?_
      refine sxo_skip rfl rfl rfl ?_
      refine sxo_skip rfl rfl rfl ?_
      refine sxo_pick (b := true) rfl rfl rfl rfl ?_
      refine sxo_again (d := 27) (v := .bool (((x5.2 : Int) != 0) || (decide (x4 < 1)))) rfl (by rw [h14]; simp only [Bool.true_or]) ?_
      refine sxo_nil ?_
      exact sxq_case (lk_cons rfl (lk_cons rfl (lk_cons rfl (lk_cons rfl lk_nil))))
    · refine sxo_take (os := _) rfl ?_
      refine sxo_isF (k := 24) rfl h14 ?_
      refine sxo_move rfl rfl rfl ?_
      refine sxo_lss rfl rfl rfl rfl ?_
      refine sxo_pick (b := false) rfl rfl rfl rfl ?_
      refine sxo_again (d := 27) (v := .bool (((x5.2 : Int) != 0) || (decide (x4 < 1)))) rfl (by rw [h14]; simp only [Bool.false_or]) ?_
      refine sxo_nil ?_
      exact sxq_case (lk_cons rfl (lk_cons rfl (lk_cons rfl (lk_cons rfl lk_nil))))
    refine sxo_take (os := _) rfl ?_
    refine sxo_move rfl rfl rfl ?_
    refine sxo_case 3 (((x5.2 : Int) != 0) || (decide (x4 < 1))) [(0, .slice a2 x1.length c3), (1, .int .i64 x4), (5, .slice a6 x5.1.length c7), (31, .bool ((((x5.2 : Int) != 0) || (decide (x4 < 1))) || (decide (1000 < x4))))] (fun h15 => ?_) (fun h15 => ?_) ?_
    · refine sxo_take (os := _) rfl ?_
      refine sxo_isT (k := 28) rfl h15 ?_
      refine sxo_skip rfl rfl rfl ?_
      refine sxo_skip rfl rfl rfl ?_
      refine sxo_pick (b := true) rfl rfl rfl rfl ?_
      refine sxo_again (d := 31) (v := .bool ((((x5.2 : Int) != 0) || (decide (x4 < 1))) || (decide (1000 < x4)))) rfl (by rw [h15]; simp only [Bool.true_or]) ?_
      refine sxo_nil ?_
      exact sxq_case (lk_cons rfl (lk_cons rfl (lk_cons rfl (lk_cons rfl lk_nil))))
    · refine sxo_take (os := _) rfl ?_
      refine sxo_isF (k := 28) rfl h15 ?_
      refine sxo_move rfl rfl rfl ?_
      refine sxo_gtr rfl rfl rfl rfl ?_
      refine sxo_pick (b := false) rfl rfl rfl rfl ?_
      refine sxo_again (d := 31) (v := .bool ((((x5.2 : Int) != 0) || (decide (x4 < 1))) || (decide (1000 < x4)))) rfl (by rw [h15]; simp only [Bool.false_or]) ?_
      refine sxo_nil ?_
      exact sxq_case (lk_cons rfl (lk_cons rfl (lk_cons rfl (lk_cons rfl lk_nil))))
    refine sxo_take (os := _) rfl ?_
    refine sxo_nil ?_
    refine sxq_next ?_
    refine sxc_if rfl (fun h148 => ?_) (fun h148 => ?_)
    · refine sxc_seq ?_
      refine sxc_region ?_
      refine sxo_assign rfl rfl rfl ?_
      refine sxo_nil ?_
      refine sxq_next ?_
      refine sxc_ret ?_
      refine sxq_thenR ?_
      exact sxq_doneP () (res1 rfl rfl)
    · refine sxc_skip ?_
      refine sxq_next ?_
      refine sxc_seq ?_
      refine sxc_region ?_
      refine sxo_assign rfl rfl rfl ?_
      refine sxo_nil ?_
      refine sxq_next ?_
      refine sxc_join (fun ((x77, (a75, c76)) : (List Int × (Option Addr × Nat))) => [(0, .slice a2 x1.length c3), (1, .int .i64 x4), (5, .slice a6 x5.1.length c7), (7, .slice a75 x77.length c76)]) (fun ((x77, (a75, c76)) : (List Int × (Option Addr × Nat))) => []) (fun ((x77, (a75, c76)) : (List Int × (Option Addr × Nat))) => [Ro (eI .i64) 3 1 (.slice a6 x5.1.length c7) x5.1, Ro (eI .i64) 3 1 (.slice a75 x77.length c76) x77]) (fun ((x77, (a75, c76)) : (List Int × (Option Addr × Nat))) => [Sl (eI .i64) 1 (.slice a2 x1.length c3) x1]) (fun ((x77, _) : (List Int × (Option Addr × Nat))) => M_L_HuffTimes_j2 F x1 x4 x5 x77) ?_ ?_
      · refine sxc_seq ?_
        refine sxc_region ?_
        refine sxo_assign rfl rfl rfl ?_
        refine sxo_nil ?_
        refine sxq_next ?_
        refine sxc_block ?_
        refine sxc_nilrow Int (eI .i64) 3 1 ?_
        refine sxc_loopP (fun (((x109, x110), (a107, c108)) : ((List Int × Int) × (Option Addr × Nat))) => [(0, .slice a2 x1.length c3), (1, .int .i64 x4), (5, .slice a6 x5.1.length c7), (7, .slice a107 x109.length c108), (8, .int .i64 x110)]) (fun (((x109, x110), (a107, c108)) : ((List Int × Int) × (Option Addr × Nat))) => []) (fun (((x109, x110), (a107, c108)) : ((List Int × Int) × (Option Addr × Nat))) => [Ro (eI .i64) 3 1 (.slice a6 x5.1.length c7) x5.1, Ro (eI .i64) 3 1 (.slice a107 x109.length c108) x109]) (fun (((x109, x110), (a107, c108)) : ((List Int × Int) × (Option Addr × Nat))) => [Sl (eI .i64) 1 (.slice a2 x1.length c3) x1]) (fun k (s : ((List Int × Int) × (Option Addr × Nat))) => M_L_HuffTimes_l3 F x1 x4 x5 k s.1) ((([] : List Int), 0), (none, 0)) F ?_ (hR := (.cons 1 rfl (.cons 0 rfl .nil))) (hF := (fk_cons 0 rfl fk_nil))
        intro k129
        rintro ⟨⟨x109, x110⟩, ⟨a107, c108⟩⟩
        try dsimp only
        refine sxc_meq (m' := M_L_HuffTimes_b3 F x1 x4 x5 (M_L_HuffTimes_l3 F x1 x4 x5 k129) x109 x110) rfl ?_
        refine sxc_seq ?_
        refine sxc_seq ?_
        refine sxc_region ?_
        refine sxo_move rfl rfl rfl ?_
        refine sxo_move rfl rfl rfl ?_
        refine sxo_len rfl Try.underlying22 rfl rfl ?_
        refine sxo_lss rfl rfl rfl rfl ?_
        refine sxo_nil ?_
        refine sxq_next ?_
        refine sxc_if rfl (fun h147 => ?_) (fun h147 => ?_)
        · refine sxc_skip ?_
          refine sxq_next ?_
          refine sxc_seq ?_
          refine sxc_block ?_
          refine sxc_region ?_
          refine sxo_move rfl rfl rfl ?_
          refine sxo_move rfl rfl rfl ?_
          refine sxo_move rfl rfl rfl ?_
          refine sxo_move rfl rfl rfl ?_
          refine sxo_indexF (j := 0) (eI_ok .i64) (by decide) rfl Try.underlying22 tf3 rfl rfl rfl rfl (fun x139 e139 b140 o141 => ?_)
          refine sxo_loadF (j := 0) rfl rfl tf3 rfl rfl (fun _ => rfl) rfl rfl ?_
          refine sxo_mul rfl rfl rfl rfl ?_
          refine sxo_slit (vs := [.int .i64 (imul .i64 x4 x139)]) (ys := ([imul .i64 x4 x139] : List Int)) (eI_ok .i64) (by decide) rfl Try.underlying22 tf3 rfl rfl rfl rfl rfl (by decide) (fun a142 c143 => ?_)
          refine sxo_app 2 (eI_ok .i64) rfl Try.underlying22 tf3 rfl rfl rfl rfl rfl (.inl ⟨0, _, rfl⟩) rfl rfl (fun x144 e144 a145 c146 => ?_)
          refine sxo_assign rfl rfl rfl ?_
          refine sxo_nil ?_
          refine sxq_blkN ?_
          refine sxq_next ?_
          refine sxc_region ?_
          refine sxo_move rfl rfl rfl ?_
          refine sxo_add rfl rfl rfl rfl ?_
          refine sxo_assign rfl rfl rfl ?_
          refine sxo_nil ?_
          exact sxq_againP ((x144, iadd .i64 x110 1), (a145, c146)) (hR := (.cons 2 rfl (.cons 0 rfl .nil))) (hF := (fk_cons 1 rfl fk_nil))
        · refine sxc_exit ?_
          refine sxq_thenX ?_
          refine sxq_thenX ?_
          refine sxq_blkX ?_
          exact sxq_meetP (x109, (a107, c108)) (hR := (.cons 0 rfl (.cons 0 rfl .nil))) (hF := (fk_cons 0 rfl fk_nil))
      · rintro ⟨x77, ⟨a75, c76⟩⟩
        try dsimp only
        refine sxc_seq ?_
        refine sxc_region ?_
        refine sxo_move rfl rfl rfl ?_
        refine sxo_call ent11 rfl rfl rfl (fun x78 e78 => C_huff_Lengths F x77 a75 c76 x78 e78) (.consR 1 (Ro (eI .i64) 3 1 (.slice a75 x77.length c76) x77) rfl .nil) (fun x78 e78 => ?_)
        rintro ⟨a79, c80⟩
        refine sxo_move rfl rfl rfl ?_
        refine sxo_extract rfl rfl rfl rfl ?_
        refine sxo_extract rfl rfl rfl rfl ?_
        refine sxo_assign rfl rfl rfl ?_
        refine sxo_assign rfl rfl rfl ?_
        refine sxo_nil ?_
        refine sxq_next ?_
        refine sxc_seq ?_
        refine sxc_seq ?_
        refine sxc_region ?_
        refine sxo_move rfl rfl rfl ?_
        refine sxo_neq rfl rfl rfl rfl ?_
        refine sxo_nil ?_
        refine sxq_next ?_
        refine sxc_if rfl (fun h88 => ?_) (fun h88 => ?_)
        · refine sxc_seq ?_
          refine sxc_region ?_
          refine sxo_move rfl rfl rfl ?_
          refine sxo_eql rfl rfl rfl rfl ?_
          refine sxo_assign rfl rfl rfl ?_
          refine sxo_nil ?_
          refine sxq_next ?_
          refine sxc_ret ?_
          refine sxq_thenR ?_
          exact sxq_doneP () (res1 rfl rfl)
        · refine sxc_skip ?_
          refine sxq_next ?_
          refine sxc_seq ?_
          refine sxc_region ?_
          refine sxo_move rfl rfl rfl ?_
          refine sxo_move rfl rfl rfl ?_
          refine sxo_call ent12 rfl rfl rfl (fun x82 e82 => C_huff_Cost F x1 a2 c3 x5.1 a6 c7 x82 e82) (.consF 0 rfl (.consR 1 (Ro (eI .i64) 3 1 (.slice a6 x5.1.length c7) x5.1) rfl .nil)) (fun x82 e82 => ?_)
          intro _
          refine sxo_move rfl rfl rfl ?_
          refine sxo_extract rfl rfl rfl rfl ?_
          refine sxo_extract rfl rfl rfl rfl ?_
          refine sxo_assign rfl rfl rfl ?_
          refine sxo_assign rfl rfl rfl ?_
          refine sxo_nil ?_
          refine sxq_next ?_
          refine sxc_seq ?_
          refine sxc_region ?_
          refine sxo_move rfl rfl rfl ?_
          refine sxo_move rfl rfl rfl ?_
          refine sxo_call ent12 rfl rfl rfl (fun x83 e83 => C_huff_Cost F x77 a75 c76 x78.1 a79 c80 x83 e83) (.consR 2 (Ro (eI .i64) 3 1 (.slice a75 x77.length c76) x77) rfl (.consR 0 (Ro (eI .i64) 3 1 (.slice a79 x78.1.length c80) x78.1) rfl .nil)) (fun x83 e83 => ?_)
          intro _
          refine sxo_move rfl rfl rfl ?_
          refine sxo_extract rfl rfl rfl rfl ?_
          refine sxo_extract rfl rfl rfl rfl ?_
          refine sxo_assign rfl rfl rfl ?_
          refine sxo_assign rfl rfl rfl ?_
          refine sxo_nil ?_
          refine sxq_next ?_
          refine sxc_seq ?_
          refine sxc_region ?_
          refine sxo_move rfl rfl rfl ?_
          refine sxo_move rfl rfl rfl ?_
          refine sxo_call ent20 rfl rfl rfl (fun x84 e84 => C_R_SameInts F x5.1 a6 c7 x78.1 a79 c80 x84 e84) (.consR 1 (Ro (eI .i64) 3 1 (.slice a6 x5.1.length c7) x5.1) rfl (.consR 0 (Ro (eI .i64) 3 1 (.slice a79 x78.1.length c80) x78.1) rfl .nil)) (fun x84 e84 => ?_)
          intro _
          refine sxo_move rfl rfl rfl ?_
          refine sxo_case 3 x84 [(1, .int .i64 x4), (11, .int .i64 x82.1), (13, .int .i64 x83.1), (14, .int .i64 x83.2), (74, .bool (x84 && ((x82.2 : Int) == 0)))] (fun h85 => ?_) (fun h85 => ?_) ?_
          · refine sxo_take (os := _) rfl ?_
            refine sxo_isT (k := 71) rfl h85 ?_
            refine sxo_move rfl rfl rfl ?_
            refine sxo_eql rfl rfl rfl rfl ?_
            refine sxo_pick (b := true) rfl rfl rfl rfl ?_
            refine sxo_again (d := 74) (v := .bool (x84 && ((x82.2 : Int) == 0))) rfl (by rw [h85]; simp only [Bool.true_and]) ?_
            refine sxo_nil ?_
            exact sxq_case (lk_cons rfl (lk_cons rfl (lk_cons rfl (lk_cons rfl (lk_cons rfl lk_nil)))))
          · refine sxo_take (os := _) rfl ?_
            refine sxo_isF (k := 71) rfl h85 ?_
            refine sxo_skip rfl rfl rfl ?_
            refine sxo_skip rfl rfl rfl ?_
            refine sxo_pick (b := false) rfl rfl rfl rfl ?_
            refine sxo_again (d := 74) (v := .bool (x84 && ((x82.2 : Int) == 0))) rfl (by rw [h85]; simp only [Bool.false_and]) ?_
            refine sxo_nil ?_
            exact sxq_case (lk_cons rfl (lk_cons rfl (lk_cons rfl (lk_cons rfl (lk_cons rfl lk_nil)))))
          refine sxo_take (os := _) rfl ?_
          refine sxo_move rfl rfl rfl ?_
          refine sxo_case 3 (x84 && ((x82.2 : Int) == 0)) [(1, .int .i64 x4), (11, .int .i64 x82.1), (13, .int .i64 x83.1), (78, .bool ((x84 && ((x82.2 : Int) == 0)) && ((x83.2 : Int) == 0)))] (fun h86 => ?_) (fun h86 => ?_) ?_
          · refine sxo_take (os := _) rfl ?_
            refine sxo_isT (k := 75) rfl h86 ?_
            refine sxo_move rfl rfl rfl ?_
            refine sxo_eql rfl rfl rfl rfl ?_
            refine sxo_pick (b := true) rfl rfl rfl rfl ?_
            refine sxo_again (d := 78) (v := .bool ((x84 && ((x82.2 : Int) == 0)) && ((x83.2 : Int) == 0))) rfl (by rw [h86]; simp only [Bool.true_and]) ?_
            refine sxo_nil ?_
            exact sxq_case (lk_cons rfl (lk_cons rfl (lk_cons rfl (lk_cons rfl lk_nil))))
          · refine sxo_take (os := _) rfl ?_
            refine sxo_isF (k := 75) rfl h86 ?_
            refine sxo_skip rfl rfl rfl ?_
            refine sxo_skip rfl rfl rfl ?_
            refine sxo_pick (b := false) rfl rfl rfl rfl ?_
            refine sxo_again (d := 78) (v := .bool ((x84 && ((x82.2 : Int) == 0)) && ((x83.2 : Int) == 0))) rfl (by rw [h86]; simp only [Bool.false_and]) ?_
            refine sxo_nil ?_
            exact sxq_case (lk_cons rfl (lk_cons rfl (lk_cons rfl (lk_cons rfl lk_nil))))
          refine sxo_take (os := _) rfl ?_
          refine sxo_move rfl rfl rfl ?_
          refine sxo_case 6 ((x84 && ((x82.2 : Int) == 0)) && ((x83.2 : Int) == 0)) [(85, .bool (((x84 && ((x82.2 : Int) == 0)) && ((x83.2 : Int) == 0)) && ((x83.1 : Int) == (imul .i64 x4 x82.1))))] (fun h87 => ?_) (fun h87 => ?_) ?_
          · refine sxo_take (os := _) rfl ?_
            refine sxo_isT (k := 79) rfl h87 ?_
            refine sxo_move rfl rfl rfl ?_
            refine sxo_move rfl rfl rfl ?_
            refine sxo_move rfl rfl rfl ?_
            refine sxo_mul rfl rfl rfl rfl ?_
            refine sxo_eql rfl rfl rfl rfl ?_
            refine sxo_pick (b := true) rfl rfl rfl rfl ?_
            refine sxo_again (d := 85) (v := .bool (((x84 && ((x82.2 : Int) == 0)) && ((x83.2 : Int) == 0)) && ((x83.1 : Int) == (imul .i64 x4 x82.1)))) rfl (by rw [h87]; simp only [Bool.true_and]) ?_
            refine sxo_nil ?_
            exact sxq_case (lk_cons rfl lk_nil)
          · refine sxo_take (os := _) rfl ?_
            refine sxo_isF (k := 79) rfl h87 ?_
            refine sxo_skip rfl rfl rfl ?_
            refine sxo_skip rfl rfl rfl ?_
            refine sxo_skip rfl rfl rfl ?_
            refine sxo_skip rfl rfl rfl ?_
            refine sxo_skip rfl rfl rfl ?_
            refine sxo_pick (b := false) rfl rfl rfl rfl ?_
            refine sxo_again (d := 85) (v := .bool (((x84 && ((x82.2 : Int) == 0)) && ((x83.2 : Int) == 0)) && ((x83.1 : Int) == (imul .i64 x4 x82.1)))) rfl (by rw [h87]; simp only [Bool.false_and]) ?_
            refine sxo_nil ?_
            exact sxq_case (lk_cons rfl lk_nil)
          refine sxo_take (os := _) rfl ?_
          refine sxo_assign rfl rfl rfl ?_
          refine sxo_nil ?_
          refine sxq_next ?_
          refine sxc_ret ?_
          exact sxq_doneP () (res1 rfl rfl)

set_option maxHeartbeats 4000000 in
theorem C_L_HuffFlat (F : Nat) (x1 : Int) (x2 : Int) (r : Bool) (hm : M_L_HuffFlat F x1 x2 = some r) :
    Pure Try.prog 7 [.int .i64 x1, .int .i64 x2] [] Unit (fun _ => .bool r) (fun _ => []) (fun _ => []) := by
  refine pure_of Try.func7 rfl Try.ntmps7 rfl hm (fun w => ?_)
  refine sxc_env (l' := [(0, .int .i64 x1), (1, .int .i64 x2)]) rfl ?_
  refine sxc_seq ?_
  refine sxc_region ?_
  refine sxo_assign rfl rfl rfl ?_
  refine sxo_nil ?_
  refine sxq_next ?_
  refine sxc_seq ?_
  refine sxc_seq ?_
  refine sxc_region ?_
  refine sxo_call ent19 rfl rfl rfl (fun x5 e5 => C_L_huffBegun F  x5 e5) .nil (fun x5 e5 => ?_)
  intro _
  refine sxo_not rfl rfl rfl ?_
  refine sxo_nil ?_
  refine sxq_next ?_
  refine sxc_if rfl (fun h177 => ?_) (fun h177 => ?_)
  · refine sxc_seq ?_
    refine sxc_region ?_
    refine sxo_assign rfl rfl rfl ?_
    refine sxo_nil ?_
    refine sxq_next ?_
    refine sxc_ret ?_
    refine sxq_thenR ?_
    exact sxq_doneP () (res1 rfl rfl)
  · refine sxc_skip ?_
    refine sxq_next ?_
    refine sxc_seq ?_
    refine sxc_seq ?_
    refine sxc_region ?_
    refine sxo_move rfl rfl rfl ?_
    refine sxo_lss rfl rfl rfl rfl ?_
    refine sxo_move rfl rfl rfl ?_
    refine sxo_case 3 (decide (x1 < 1)) [(0, .int .i64 x1), (1, .int .i64 x2), (17, .bool ((decide (x1 < 1)) || (decide (6 < x1))))] (fun h10 => ?_) (fun h10 => ?_) ?_
    · refine sxo_take (os := _) rfl ?_
      refine sxo_isT (k := 14) rfl h10 ?_
      refine sxo_skip rfl rfl rfl ?_
      refine sxo_skip rfl rfl rfl ?_
      refine sxo_pick (b := true) rfl rfl rfl rfl ?_
      refine sxo_again (d := 17) (v := .bool ((decide (x1 < 1)) || (decide (6 < x1)))) rfl (by rw [h10]; simp only [Bool.true_or]) ?_
      refine sxo_nil ?_
      exact sxq_case (lk_cons rfl (lk_cons rfl (lk_cons rfl lk_nil)))
    · refine sxo_take (os := _) rfl ?_
      refine sxo_isF (k := 14) rfl h10 ?_
      refine sxo_move rfl rfl rfl ?_
      refine sxo_gtr rfl rfl rfl rfl ?_
      refine sxo_pick (b := false) rfl rfl rfl rfl ?_
      refine sxo_again (d := 17) (v := .bool ((decide (x1 < 1)) || (decide (6 < x1)))) rfl (by rw [h10]; simp only [Bool.false_or]) ?_
      refine sxo_nil ?_
      exact sxq_case (lk_cons rfl (lk_cons rfl (lk_cons rfl lk_nil)))
    refine sxo_take (os := _) rfl ?_
    refine sxo_move rfl rfl rfl ?_
    refine sxo_case 3 ((decide (x1 < 1)) || (decide (6 < x1))) [(0, .int .i64 x1), (1, .int .i64 x2), (21, .bool (((decide (x1 < 1)) || (decide (6 < x1))) || (decide (x2 < 1))))] (fun h11 => ?_) (fun h11 => ?_) ?_
    · refine sxo_take (os := _) rfl ?_
      refine sxo_isT (k := 18) rfl h11 ?_
      refine sxo_skip rfl rfl rfl ?_
      refine sxo_skip rfl rfl rfl ?_
      refine sxo_pick (b := true) rfl rfl rfl rfl ?_
      refine sxo_again (d := 21) (v := .bool (((decide (x1 < 1)) || (decide (6 < x1))) || (decide (x2 < 1)))) rfl (by rw [h11]; simp only [Bool.true_or]) ?_
      refine sxo_nil ?_
      exact sxq_case (lk_cons rfl (lk_cons rfl (lk_cons rfl lk_nil)))
    · refine sxo_take (os := _) rfl ?_
      refine sxo_isF (k := 18) rfl h11 ?_
      refine sxo_move rfl rfl rfl ?_
      refine sxo_lss rfl rfl rfl rfl ?_
      refine sxo_pick (b := false) rfl rfl rfl rfl ?_
      refine sxo_again (d := 21) (v := .bool (((decide (x1 < 1)) || (decide (6 < x1))) || (decide (x2 < 1)))) rfl (by rw [h11]; simp only [Bool.false_or]) ?_
      refine sxo_nil ?_
      exact sxq_case (lk_cons rfl (lk_cons rfl (lk_cons rfl lk_nil)))
    refine sxo_take (os := _) rfl ?_
    refine sxo_move rfl rfl rfl ?_
    refine sxo_case 3 (((decide (x1 < 1)) || (decide (6 < x1))) || (decide (x2 < 1))) [(0, .int .i64 x1), (1, .int .i64 x2), (25, .bool ((((decide (x1 < 1)) || (decide (6 < x1))) || (decide (x2 < 1))) || (decide (1048576 < x2))))] (fun h12 => ?_) (fun h12 => ?_) ?_
    · refine sxo_take (os := _) rfl ?_
      refine sxo_isT (k := 22) rfl h12 ?_
      refine sxo_skip rfl rfl rfl ?_
      refine sxo_skip rfl rfl rfl ?_
      refine sxo_pick (b := true) rfl rfl rfl rfl ?_
      refine sxo_again (d := 25) (v := .bool ((((decide (x1 < 1)) || (decide (6 < x1))) || (decide (x2 < 1))) || (decide (1048576 < x2)))) rfl (by rw [h12]; simp only [Bool.true_or]) ?_
      refine sxo_nil ?_
      exact sxq_case (lk_cons rfl (lk_cons rfl (lk_cons rfl lk_nil)))
    · refine sxo_take (os := _) rfl ?_
      refine sxo_isF (k := 22) rfl h12 ?_
      refine sxo_move rfl rfl rfl ?_
      refine sxo_gtr rfl rfl rfl rfl ?_
      refine sxo_pick (b := false) rfl rfl rfl rfl ?_
      refine sxo_again (d := 25) (v := .bool ((((decide (x1 < 1)) || (decide (6 < x1))) || (decide (x2 < 1))) || (decide (1048576 < x2)))) rfl (by rw [h12]; simp only [Bool.false_or]) ?_
      refine sxo_nil ?_
      exact sxq_case (lk_cons rfl (lk_cons rfl (lk_cons rfl lk_nil)))
    refine sxo_take (os := _) rfl ?_
    refine sxo_nil ?_
    refine sxq_next ?_
    refine sxc_if rfl (fun h176 => ?_) (fun h176 => ?_)
    · refine sxc_seq ?_
      refine sxc_region ?_
      refine sxo_assign rfl rfl rfl ?_
      refine sxo_nil ?_
      refine sxq_next ?_
      refine sxc_ret ?_
      refine sxq_thenR ?_
      exact sxq_doneP () (res1 rfl rfl)
    · refine sxc_skip ?_
      refine sxq_next ?_
      refine sxc_seq ?_
      refine sxc_region ?_
      refine sxo_move rfl rfl rfl ?_
      refine sxo_chk (fun h13 => ?_)
      refine sxo_shl rfl rfl rfl rfl h13 ?_
      refine sxo_mk (eI_ok .i64) rfl Try.underlying22 tf3 rfl rfl rfl rfl rfl rfl rfl (fun x14 e14 a15 c16 => ?_)
      refine sxo_assign rfl rfl rfl ?_
      refine sxo_nil ?_
      refine sxq_next ?_
      refine sxc_join (fun ((x62, _) : (List Int × Unit)) => [(0, .int .i64 x1), (5, .slice a15 x62.length c16)]) (fun ((x62, _) : (List Int × Unit)) => []) (fun ((x62, _) : (List Int × Unit)) => [Ro (eI .i64) 3 1 (.slice a15 x62.length c16) x62]) (fun ((x62, _) : (List Int × Unit)) => []) (fun ((x62, _) : (List Int × Unit)) => M_L_HuffFlat_j2 F x1 x62) ?_ ?_
      · refine sxc_seq ?_
        refine sxc_region ?_
        refine sxo_assign rfl rfl rfl ?_
        refine sxo_nil ?_
        refine sxq_next ?_
        refine sxc_block ?_
        refine sxc_loopP (fun (((x145, x146), _) : ((List Int × Int) × Unit)) => [(0, .int .i64 x1), (1, .int .i64 x2), (5, .slice a15 x145.length c16), (6, .int .i64 x146)]) (fun (((x145, x146), _) : ((List Int × Int) × Unit)) => []) (fun (((x145, x146), _) : ((List Int × Int) × Unit)) => [Ro (eI .i64) 3 1 (.slice a15 x145.length c16) x145]) (fun (((x145, x146), _) : ((List Int × Int) × Unit)) => []) (fun k (s : ((List Int × Int) × Unit)) => M_L_HuffFlat_l6 F x1 x2 k s.1) ((x14, 0), ()) F ?_ (hR := (.cons 0 rfl .nil))
        intro k161
        rintro ⟨⟨x145, x146⟩, _⟩
        try dsimp only
        refine sxc_meq (m' := M_L_HuffFlat_b6 F x1 x2 (M_L_HuffFlat_l6 F x1 x2 k161) x145 x146) rfl ?_
        refine sxc_seq ?_
        refine sxc_seq ?_
        refine sxc_region ?_
        refine sxo_move rfl rfl rfl ?_
        refine sxo_move rfl rfl rfl ?_
        refine sxo_len rfl Try.underlying22 rfl rfl ?_
        refine sxo_lss rfl rfl rfl rfl ?_
        refine sxo_nil ?_
        refine sxq_next ?_
        refine sxc_if rfl (fun h175 => ?_) (fun h175 => ?_)
        · refine sxc_skip ?_
          refine sxq_next ?_
          refine sxc_seq ?_
          refine sxc_block ?_
          refine sxc_region ?_
          refine sxo_move rfl rfl rfl ?_
          refine sxo_move rfl rfl rfl ?_
          refine sxo_move rfl rfl rfl ?_
          refine sxo_indexR (j := 0) rfl Try.underlying22 tf3 rfl rfl rfl rfl (fun x169 e169 g170 h171 => ?_)
          refine sxo_storeL (j := 0) (y' := x2) (eI_ok .i64) rfl rfl rfl tf3 rfl h171 (idx_get e169).2.1 rfl (fun x172 e172 h173 => ?_)
          have h174 : x172.length = x145.length := by rw [← e172, List.length_set]
          refine sxo_again (d := 5) (v := .slice a15 x172.length c16) rfl h173 ?_
          refine sxo_again (d := 30) (v := .slice a15 x172.length c16) rfl h173 ?_
          refine sxo_again (d := 35) (v := .slice a15 x172.length c16) rfl h173 ?_
          refine sxo_nil ?_
          refine sxq_blkN ?_
          refine sxq_next ?_
          refine sxc_region ?_
          refine sxo_move rfl rfl rfl ?_
          refine sxo_add rfl rfl rfl rfl ?_
          refine sxo_assign rfl rfl rfl ?_
          refine sxo_nil ?_
          exact sxq_againP ((x172, iadd .i64 x146 1), ()) (hR := (.cons 0 rfl .nil))
        · refine sxc_exit ?_
          refine sxq_thenX ?_
          refine sxq_thenX ?_
          refine sxq_blkX ?_
          exact sxq_meetP (x145, ()) (hR := (.cons 0 rfl .nil))
      · rintro ⟨x62, _⟩
        try dsimp only
        refine sxc_seq ?_
        refine sxc_region ?_
        refine sxo_move rfl rfl rfl ?_
        refine sxo_call ent11 rfl rfl rfl (fun x63 e63 => C_huff_Lengths F x62 a15 c16 x63 e63) (.consR 0 (Ro (eI .i64) 3 1 (.slice a15 x62.length c16) x62) rfl .nil) (fun x63 e63 => ?_)
        rintro ⟨a64, c65⟩
        refine sxo_move rfl rfl rfl ?_
        refine sxo_extract rfl rfl rfl rfl ?_
        refine sxo_extract rfl rfl rfl rfl ?_
        refine sxo_assign rfl rfl rfl ?_
        refine sxo_assign rfl rfl rfl ?_
        refine sxo_nil ?_
        refine sxq_next ?_
        refine sxc_join (fun ((_, _) : (Unit × Unit)) => [(5, .slice a15 x62.length c16), (7, .slice a64 x63.1.length c65), (8, .int .i64 x63.2)]) (fun ((_, _) : (Unit × Unit)) => []) (fun ((_, _) : (Unit × Unit)) => [Ro (eI .i64) 3 1 (.slice a15 x62.length c16) x62, Ro (eI .i64) 3 1 (.slice a64 x63.1.length c65) x63.1]) (fun ((_, _) : (Unit × Unit)) => []) (fun ((_, _) : (Unit × Unit)) => M_L_HuffFlat_j4 F x62 x63) ?_ ?_
        · refine sxc_seq ?_
          refine sxc_region ?_
          refine sxo_assign rfl rfl rfl ?_
          refine sxo_nil ?_
          refine sxq_next ?_
          refine sxc_block ?_
          refine sxc_loopP (fun ((x109, _) : (Int × Unit)) => [(0, .int .i64 x1), (5, .slice a15 x62.length c16), (7, .slice a64 x63.1.length c65), (8, .int .i64 x63.2), (9, .int .i64 x109)]) (fun ((x109, _) : (Int × Unit)) => []) (fun ((x109, _) : (Int × Unit)) => [Ro (eI .i64) 3 1 (.slice a15 x62.length c16) x62, Ro (eI .i64) 3 1 (.slice a64 x63.1.length c65) x63.1]) (fun ((x109, _) : (Int × Unit)) => []) (fun k (s : (Int × Unit)) => M_L_HuffFlat_l5 F x1 x62 x63 k s.1) (0, ()) F ?_ (hR := (.cons 1 rfl (.cons 0 rfl .nil)))
          intro k120
          rintro ⟨x109, _⟩
          try dsimp only
          refine sxc_meq (m' := M_L_HuffFlat_b5 F x1 x62 x63 (M_L_HuffFlat_l5 F x1 x62 x63 k120) x109) rfl ?_
          refine sxc_seq ?_
          refine sxc_seq ?_
          refine sxc_region ?_
          refine sxo_move rfl rfl rfl ?_
          refine sxo_move rfl rfl rfl ?_
          refine sxo_len rfl Try.underlying22 rfl rfl ?_
          refine sxo_lss rfl rfl rfl rfl ?_
          refine sxo_nil ?_
          refine sxq_next ?_
          refine sxc_if rfl (fun h130 => ?_) (fun h130 => ?_)
          · refine sxc_skip ?_
            refine sxq_next ?_
            refine sxc_seq ?_
            refine sxc_block ?_
            refine sxc_seq ?_
            refine sxc_region ?_
            refine sxo_move rfl rfl rfl ?_
            refine sxo_move rfl rfl rfl ?_
            refine sxo_indexR (j := 1) rfl Try.underlying22 tf3 rfl rfl rfl rfl (fun x126 e126 g127 h128 => ?_)
            refine sxo_loadR (j := 1) (y := x126) (eI_ok .i64) rfl rfl tf3 rfl h128 (idx_get e126).2.2 (fun _ => rfl) rfl rfl ?_
            refine sxo_move rfl rfl rfl ?_
            refine sxo_neq rfl rfl rfl rfl ?_
            refine sxo_nil ?_
            refine sxq_next ?_
            refine sxc_if rfl (fun h129 => ?_) (fun h129 => ?_)
            · refine sxc_seq ?_
              refine sxc_region ?_
              refine sxo_assign rfl rfl rfl ?_
              refine sxo_nil ?_
              refine sxq_next ?_
              refine sxc_ret ?_
              refine sxq_blkR ?_
              refine sxq_thenR ?_
              refine sxq_thenR ?_
              refine sxq_blkR ?_
              refine sxq_thenR ?_
              exact sxq_doneP () (res1 rfl rfl)
            · refine sxc_skip ?_
              refine sxq_blkN ?_
              refine sxq_next ?_
              refine sxc_region ?_
              refine sxo_move rfl rfl rfl ?_
              refine sxo_add rfl rfl rfl rfl ?_
              refine sxo_assign rfl rfl rfl ?_
              refine sxo_nil ?_
              exact sxq_againP (iadd .i64 x109 1, ()) (hR := (.cons 0 rfl (.cons 0 rfl .nil)))
          · refine sxc_exit ?_
            refine sxq_thenX ?_
            refine sxq_thenX ?_
            refine sxq_blkX ?_
            exact sxq_meetP ((), ()) (hR := (.cons 0 rfl (.cons 0 rfl .nil)))
        · rintro ⟨_, _⟩
          try dsimp only
          refine sxc_seq ?_
          refine sxc_region ?_
          refine sxo_move rfl rfl rfl ?_
          refine sxo_eql rfl rfl rfl rfl ?_
          refine sxo_move rfl rfl rfl ?_
          refine sxo_case 6 ((x63.2 : Int) == 0) [(64, .bool (((x63.2 : Int) == 0) && (((x63.1.length : Int) : Int) == (x62.length : Int))))] (fun h98 => ?_) (fun h98 => ?_) ?_
          · refine sxo_take (os := _) rfl ?_
            refine sxo_isT (k := 58) rfl h98 ?_
            refine sxo_move rfl rfl rfl ?_
            refine sxo_len rfl Try.underlying22 rfl rfl ?_
            refine sxo_move rfl rfl rfl ?_
            refine sxo_len rfl Try.underlying22 rfl rfl ?_
            refine sxo_eql rfl rfl rfl rfl ?_
            refine sxo_pick (b := true) rfl rfl rfl rfl ?_
            refine sxo_again (d := 64) (v := .bool (((x63.2 : Int) == 0) && (((x63.1.length : Int) : Int) == (x62.length : Int)))) rfl (by rw [h98]; simp only [Bool.true_and]) ?_
            refine sxo_nil ?_
            exact sxq_case (lk_cons rfl lk_nil)
          · refine sxo_take (os := _) rfl ?_
            refine sxo_isF (k := 58) rfl h98 ?_
            refine sxo_skip rfl rfl rfl ?_
            refine sxo_skip rfl rfl rfl ?_
            refine sxo_skip rfl rfl rfl ?_
            refine sxo_skip rfl rfl rfl ?_
            refine sxo_skip rfl rfl rfl ?_
            refine sxo_pick (b := false) rfl rfl rfl rfl ?_
            refine sxo_again (d := 64) (v := .bool (((x63.2 : Int) == 0) && (((x63.1.length : Int) : Int) == (x62.length : Int)))) rfl (by rw [h98]; simp only [Bool.false_and]) ?_
            refine sxo_nil ?_
            exact sxq_case (lk_cons rfl lk_nil)
          refine sxo_take (os := _) rfl ?_
          refine sxo_assign rfl rfl rfl ?_
          refine sxo_nil ?_
          refine sxq_next ?_
          refine sxc_ret ?_
          exact sxq_doneP () (res1 rfl rfl)

set_option maxHeartbeats 4000000 in
theorem C_L_HuffTurn (F : Nat) (x1 : List Int) (a2 : Option Addr) (c3 : Nat) (r : Bool) (hm : M_L_HuffTurn F x1 = some r) :
    Pure Try.prog 8 [.slice a2 x1.length c3] [Sl (eI .i64) 1 (.slice a2 x1.length c3) x1] Unit (fun _ => .bool r) (fun _ => []) (fun _ => []) := by
  refine pure_of Try.func8 rfl Try.ntmps8 rfl hm (fun w => ?_)
  refine sxc_env (l' := [(0, .slice a2 x1.length c3)]) rfl ?_
  refine sxc_seq ?_
  refine sxc_region ?_
  refine sxo_assign rfl rfl rfl ?_
  refine sxo_nil ?_
  refine sxq_next ?_
  refine sxc_seq ?_
  refine sxc_region ?_
  refine sxo_move rfl rfl rfl ?_
  refine sxo_call ent11 rfl rfl rfl (fun x4 e4 => C_huff_Lengths F x1 a2 c3 x4 e4) (.consF 0 rfl .nil) (fun x4 e4 => ?_)
  rintro ⟨a5, c6⟩
  refine sxo_move rfl rfl rfl ?_
  refine sxo_extract rfl rfl rfl rfl ?_
  refine sxo_extract rfl rfl rfl rfl ?_
  refine sxo_assign rfl rfl rfl ?_
  refine sxo_assign rfl rfl rfl ?_
  refine sxo_nil ?_
  refine sxq_next ?_
  refine sxc_seq ?_
  refine sxc_seq ?_
  refine sxc_region ?_
  refine sxo_call ent19 rfl rfl rfl (fun x9 e9 => C_L_huffBegun F  x9 e9) .nil (fun x9 e9 => ?_)
  intro _
  refine sxo_not rfl rfl rfl ?_
  refine sxo_nil ?_
  refine sxq_next ?_
  refine sxc_if rfl (fun h144 => ?_) (fun h144 => ?_)
  · refine sxc_seq ?_
    refine sxc_region ?_
    refine sxo_assign rfl rfl rfl ?_
    refine sxo_nil ?_
    refine sxq_next ?_
    refine sxc_ret ?_
    refine sxq_thenR ?_
    exact sxq_doneP () (res1 rfl rfl)
  · refine sxc_skip ?_
    refine sxq_next ?_
    refine sxc_seq ?_
    refine sxc_seq ?_
    refine sxc_region ?_
    refine sxo_move rfl rfl rfl ?_
    refine sxo_neq rfl rfl rfl rfl ?_
    refine sxo_nil ?_
    refine sxq_next ?_
    refine sxc_if rfl (fun h143 => ?_) (fun h143 => ?_)
    · refine sxc_seq ?_
      refine sxc_region ?_
      refine sxo_move rfl rfl rfl ?_
      refine sxo_len rfl Try.underlying22 rfl rfl ?_
      refine sxo_eql rfl rfl rfl rfl ?_
      refine sxo_assign rfl rfl rfl ?_
      refine sxo_nil ?_
      refine sxq_next ?_
      refine sxc_ret ?_
      refine sxq_thenR ?_
      exact sxq_doneP () (res1 rfl rfl)
    · refine sxc_skip ?_
      refine sxq_next ?_
      refine sxc_seq ?_
      refine sxc_region ?_
      refine sxo_assign rfl rfl rfl ?_
      refine sxo_nil ?_
      refine sxq_next ?_
      refine sxc_join (fun ((x73, (a71, c72)) : (List Int × (Option Addr × Nat))) => [(0, .slice a2 x1.length c3), (3, .slice a5 x4.1.length c6), (5, .slice a71 x73.length c72)]) (fun ((x73, (a71, c72)) : (List Int × (Option Addr × Nat))) => []) (fun ((x73, (a71, c72)) : (List Int × (Option Addr × Nat))) => [Ro (eI .i64) 3 1 (.slice a5 x4.1.length c6) x4.1, Ro (eI .i64) 3 1 (.slice a71 x73.length c72) x73]) (fun ((x73, (a71, c72)) : (List Int × (Option Addr × Nat))) => [Sl (eI .i64) 1 (.slice a2 x1.length c3) x1]) (fun ((x73, _) : (List Int × (Option Addr × Nat))) => M_L_HuffTurn_j2 F x1 x4 x73) ?_ ?_
      · refine sxc_seq ?_
        refine sxc_region ?_
        refine sxo_move rfl rfl rfl ?_
        refine sxo_len rfl Try.underlying22 rfl rfl ?_
        refine sxo_sub rfl rfl rfl rfl ?_
        refine sxo_assign rfl rfl rfl ?_
        refine sxo_nil ?_
        refine sxq_next ?_
        refine sxc_block ?_
        refine sxc_nilrow Int (eI .i64) 3 1 ?_
        refine sxc_loopP (fun (((x104, x105), (a102, c103)) : ((List Int × Int) × (Option Addr × Nat))) => [(0, .slice a2 x1.length c3), (3, .slice a5 x4.1.length c6), (5, .slice a102 x104.length c103), (6, .int .i64 x105)]) (fun (((x104, x105), (a102, c103)) : ((List Int × Int) × (Option Addr × Nat))) => []) (fun (((x104, x105), (a102, c103)) : ((List Int × Int) × (Option Addr × Nat))) => [Ro (eI .i64) 3 1 (.slice a5 x4.1.length c6) x4.1, Ro (eI .i64) 3 1 (.slice a102 x104.length c103) x104]) (fun (((x104, x105), (a102, c103)) : ((List Int × Int) × (Option Addr × Nat))) => [Sl (eI .i64) 1 (.slice a2 x1.length c3) x1]) (fun k (s : ((List Int × Int) × (Option Addr × Nat))) => M_L_HuffTurn_l3 F x1 x4 k s.1) ((([] : List Int), isub .i64 (x1.length : Int) 1), (none, 0)) F ?_ (hR := (.cons 1 rfl (.cons 0 rfl .nil))) (hF := (fk_cons 0 rfl fk_nil))
        intro k124
        rintro ⟨⟨x104, x105⟩, ⟨a102, c103⟩⟩
        try dsimp only
        refine sxc_meq (m' := M_L_HuffTurn_b3 F x1 x4 (M_L_HuffTurn_l3 F x1 x4 k124) x104 x105) rfl ?_
        refine sxc_seq ?_
        refine sxc_seq ?_
        refine sxc_region ?_
        refine sxo_move rfl rfl rfl ?_
        refine sxo_geq rfl rfl rfl rfl ?_
        refine sxo_nil ?_
        refine sxq_next ?_
        refine sxc_if rfl (fun h142 => ?_) (fun h142 => ?_)
        · refine sxc_skip ?_
          refine sxq_next ?_
          refine sxc_seq ?_
          refine sxc_block ?_
          refine sxc_region ?_
          refine sxo_move rfl rfl rfl ?_
          refine sxo_move rfl rfl rfl ?_
          refine sxo_move rfl rfl rfl ?_
          refine sxo_indexF (j := 0) (eI_ok .i64) (by decide) rfl Try.underlying22 tf3 rfl rfl rfl rfl (fun x134 e134 b135 o136 => ?_)
          refine sxo_loadF (j := 0) rfl rfl tf3 rfl rfl (fun _ => rfl) rfl rfl ?_
          refine sxo_slit (vs := [.int .i64 x134]) (ys := ([x134] : List Int)) (eI_ok .i64) (by decide) rfl Try.underlying22 tf3 rfl rfl rfl rfl rfl (by decide) (fun a137 c138 => ?_)
          refine sxo_app 2 (eI_ok .i64) rfl Try.underlying22 tf3 rfl rfl rfl rfl rfl (.inl ⟨0, _, rfl⟩) rfl rfl (fun x139 e139 a140 c141 => ?_)
          refine sxo_assign rfl rfl rfl ?_
          refine sxo_nil ?_
          refine sxq_blkN ?_
          refine sxq_next ?_
          refine sxc_region ?_
          refine sxo_move rfl rfl rfl ?_
          refine sxo_sub rfl rfl rfl rfl ?_
          refine sxo_assign rfl rfl rfl ?_
          refine sxo_nil ?_
          exact sxq_againP ((x139, isub .i64 x105 1), (a140, c141)) (hR := (.cons 2 rfl (.cons 0 rfl .nil))) (hF := (fk_cons 1 rfl fk_nil))
        · refine sxc_exit ?_
          refine sxq_thenX ?_
          refine sxq_thenX ?_
          refine sxq_blkX ?_
          exact sxq_meetP (x104, (a102, c103)) (hR := (.cons 0 rfl (.cons 0 rfl .nil))) (hF := (fk_cons 0 rfl fk_nil))
      · rintro ⟨x73, ⟨a71, c72⟩⟩
        try dsimp only
        refine sxc_seq ?_
        refine sxc_region ?_
        refine sxo_move rfl rfl rfl ?_
        refine sxo_call ent11 rfl rfl rfl (fun x74 e74 => C_huff_Lengths F x73 a71 c72 x74 e74) (.consR 1 (Ro (eI .i64) 3 1 (.slice a71 x73.length c72) x73) rfl .nil) (fun x74 e74 => ?_)
        rintro ⟨a75, c76⟩
        refine sxo_move rfl rfl rfl ?_
        refine sxo_extract rfl rfl rfl rfl ?_
        refine sxo_extract rfl rfl rfl rfl ?_
        refine sxo_assign rfl rfl rfl ?_
        refine sxo_assign rfl rfl rfl ?_
        refine sxo_nil ?_
        refine sxq_next ?_
        refine sxc_seq ?_
        refine sxc_seq ?_
        refine sxc_region ?_
        refine sxo_move rfl rfl rfl ?_
        refine sxo_neq rfl rfl rfl rfl ?_
        refine sxo_nil ?_
        refine sxq_next ?_
        refine sxc_if rfl (fun h82 => ?_) (fun h82 => ?_)
        · refine sxc_seq ?_
          refine sxc_region ?_
          refine sxo_move rfl rfl rfl ?_
          refine sxo_eql rfl rfl rfl rfl ?_
          refine sxo_assign rfl rfl rfl ?_
          refine sxo_nil ?_
          refine sxq_next ?_
          refine sxc_ret ?_
          refine sxq_thenR ?_
          exact sxq_doneP () (res1 rfl rfl)
        · refine sxc_skip ?_
          refine sxq_next ?_
          refine sxc_seq ?_
          refine sxc_region ?_
          refine sxo_move rfl rfl rfl ?_
          refine sxo_move rfl rfl rfl ?_
          refine sxo_call ent12 rfl rfl rfl (fun x78 e78 => C_huff_Cost F x1 a2 c3 x4.1 a5 c6 x78 e78) (.consF 0 rfl (.consR 1 (Ro (eI .i64) 3 1 (.slice a5 x4.1.length c6) x4.1) rfl .nil)) (fun x78 e78 => ?_)
          intro _
          refine sxo_move rfl rfl rfl ?_
          refine sxo_extract rfl rfl rfl rfl ?_
          refine sxo_extract rfl rfl rfl rfl ?_
          refine sxo_assign rfl rfl rfl ?_
          refine sxo_assign rfl rfl rfl ?_
          refine sxo_nil ?_
          refine sxq_next ?_
          refine sxc_seq ?_
          refine sxc_region ?_
          refine sxo_move rfl rfl rfl ?_
          refine sxo_move rfl rfl rfl ?_
          refine sxo_call ent12 rfl rfl rfl (fun x79 e79 => C_huff_Cost F x73 a71 c72 x74.1 a75 c76 x79 e79) (.consR 2 (Ro (eI .i64) 3 1 (.slice a71 x73.length c72) x73) rfl (.consR 0 (Ro (eI .i64) 3 1 (.slice a75 x74.1.length c76) x74.1) rfl .nil)) (fun x79 e79 => ?_)
          intro _
          refine sxo_move rfl rfl rfl ?_
          refine sxo_extract rfl rfl rfl rfl ?_
          refine sxo_extract rfl rfl rfl rfl ?_
          refine sxo_assign rfl rfl rfl ?_
          refine sxo_assign rfl rfl rfl ?_
          refine sxo_nil ?_
          refine sxq_next ?_
          refine sxc_seq ?_
          refine sxc_region ?_
          refine sxo_move rfl rfl rfl ?_
          refine sxo_eql rfl rfl rfl rfl ?_
          refine sxo_move rfl rfl rfl ?_
          refine sxo_case 3 ((x78.2 : Int) == 0) [(9, .int .i64 x78.1), (11, .int .i64 x79.1), (65, .bool (((x78.2 : Int) == 0) && ((x79.2 : Int) == 0)))] (fun h80 => ?_) (fun h80 => ?_) ?_
          · refine sxo_take (os := _) rfl ?_
            refine sxo_isT (k := 62) rfl h80 ?_
            refine sxo_move rfl rfl rfl ?_
            refine sxo_eql rfl rfl rfl rfl ?_
            refine sxo_pick (b := true) rfl rfl rfl rfl ?_
            refine sxo_again (d := 65) (v := .bool (((x78.2 : Int) == 0) && ((x79.2 : Int) == 0))) rfl (by rw [h80]; simp only [Bool.true_and]) ?_
            refine sxo_nil ?_
            exact sxq_case (lk_cons rfl (lk_cons rfl (lk_cons rfl lk_nil)))
          · refine sxo_take (os := _) rfl ?_
            refine sxo_isF (k := 62) rfl h80 ?_
            refine sxo_skip rfl rfl rfl ?_
            refine sxo_skip rfl rfl rfl ?_
            refine sxo_pick (b := false) rfl rfl rfl rfl ?_
            refine sxo_again (d := 65) (v := .bool (((x78.2 : Int) == 0) && ((x79.2 : Int) == 0))) rfl (by rw [h80]; simp only [Bool.false_and]) ?_
            refine sxo_nil ?_
            exact sxq_case (lk_cons rfl (lk_cons rfl (lk_cons rfl lk_nil)))
          refine sxo_take (os := _) rfl ?_
          refine sxo_move rfl rfl rfl ?_
          refine sxo_case 4 (((x78.2 : Int) == 0) && ((x79.2 : Int) == 0)) [(70, .bool ((((x78.2 : Int) == 0) && ((x79.2 : Int) == 0)) && ((x78.1 : Int) == x79.1)))] (fun h81 => ?_) (fun h81 => ?_) ?_
          · refine sxo_take (os := _) rfl ?_
            refine sxo_isT (k := 66) rfl h81 ?_
            refine sxo_move rfl rfl rfl ?_
            refine sxo_move rfl rfl rfl ?_
            refine sxo_eql rfl rfl rfl rfl ?_
            refine sxo_pick (b := true) rfl rfl rfl rfl ?_
            refine sxo_again (d := 70) (v := .bool ((((x78.2 : Int) == 0) && ((x79.2 : Int) == 0)) && ((x78.1 : Int) == x79.1))) rfl (by rw [h81]; simp only [Bool.true_and]) ?_
            refine sxo_nil ?_
            exact sxq_case (lk_cons rfl lk_nil)
          · refine sxo_take (os := _) rfl ?_
            refine sxo_isF (k := 66) rfl h81 ?_
            refine sxo_skip rfl rfl rfl ?_
            refine sxo_skip rfl rfl rfl ?_
            refine sxo_skip rfl rfl rfl ?_
            refine sxo_pick (b := false) rfl rfl rfl rfl ?_
            refine sxo_again (d := 70) (v := .bool ((((x78.2 : Int) == 0) && ((x79.2 : Int) == 0)) && ((x78.1 : Int) == x79.1))) rfl (by rw [h81]; simp only [Bool.false_and]) ?_
            refine sxo_nil ?_
            exact sxq_case (lk_cons rfl lk_nil)
          refine sxo_take (os := _) rfl ?_
          refine sxo_assign rfl rfl rfl ?_
          refine sxo_nil ?_
          refine sxq_next ?_
          refine sxc_ret ?_
          exact sxq_doneP () (res1 rfl rfl)

set_option maxHeartbeats 4000000 in
theorem C_L_HuffMore (F : Nat) (x1 : List Int) (a2 : Option Addr) (c3 : Nat) (x4 : Int) (r : Bool) (hm : M_L_HuffMore F x1 x4 = some r) :
    Pure Try.prog 9 [.slice a2 x1.length c3, .int .i64 x4] [Sl (eI .i64) 1 (.slice a2 x1.length c3) x1] Unit (fun _ => .bool r) (fun _ => []) (fun _ => []) := by
  refine pure_of Try.func9 rfl Try.ntmps9 rfl hm (fun w => ?_)
  refine sxc_env (l' := [(0, .slice a2 x1.length c3), (1, .int .i64 x4)]) rfl ?_
  refine sxc_seq ?_
  refine sxc_region ?_
  refine sxo_assign rfl rfl rfl ?_
  refine sxo_nil ?_
  refine sxq_next ?_
  refine sxc_seq ?_
  refine sxc_region ?_
  refine sxo_move rfl rfl rfl ?_
  refine sxo_call ent11 rfl rfl rfl (fun x5 e5 => C_huff_Lengths F x1 a2 c3 x5 e5) (.consF 0 rfl .nil) (fun x5 e5 => ?_)
  rintro ⟨a6, c7⟩
  refine sxo_move rfl rfl rfl ?_
  refine sxo_extract rfl rfl rfl rfl ?_
  refine sxo_extract rfl rfl rfl rfl ?_
  refine sxo_assign rfl rfl rfl ?_
  refine sxo_assign rfl rfl rfl ?_
  refine sxo_nil ?_
  refine sxq_next ?_
  refine sxc_seq ?_
  refine sxc_seq ?_
  refine sxc_region ?_
  refine sxo_call ent19 rfl rfl rfl (fun x10 e10 => C_L_huffBegun F  x10 e10) .nil (fun x10 e10 => ?_)
  intro _
  refine sxo_not rfl rfl rfl ?_
  refine sxo_nil ?_
  refine sxq_next ?_
  refine sxc_if rfl (fun h66 => ?_) (fun h66 => ?_)
  · refine sxc_seq ?_
    refine sxc_region ?_
    refine sxo_assign rfl rfl rfl ?_
    refine sxo_nil ?_
    refine sxq_next ?_
    refine sxc_ret ?_
    refine sxq_thenR ?_
    exact sxq_doneP () (res1 rfl rfl)
  · refine sxc_skip ?_
    refine sxq_next ?_
    refine sxc_seq ?_
    refine sxc_seq ?_
    refine sxc_region ?_
    refine sxo_move rfl rfl rfl ?_
    refine sxo_neq rfl rfl rfl rfl ?_
    refine sxo_move rfl rfl rfl ?_
    refine sxo_case 3 ((x5.2 : Int) != 0) [(0, .slice a2 x1.length c3), (1, .int .i64 x4), (5, .slice a6 x5.1.length c7), (26, .bool (((x5.2 : Int) != 0) || (decide (x4 < 0))))] (fun h14 => ?_) (fun h14 => ?_) ?_
    · refine sxo_take (os := _) rfl ?_
      refine sxo_isT (k := 23) rfl h14 ?_
      refine sxo_skip rfl rfl rfl ?_
      refine sxo_skip rfl rfl rfl ?_
      refine sxo_pick (b := true) rfl rfl rfl rfl ?_
      refine sxo_again (d := 26) (v := .bool (((x5.2 : Int) != 0) || (decide (x4 < 0)))) rfl (by rw [h14]; simp only [Bool.true_or]) ?_
      refine sxo_nil ?_
      exact sxq_case (lk_cons rfl (lk_cons rfl (lk_cons rfl (lk_cons rfl lk_nil))))
    · refine sxo_take (os := _) rfl ?_
      refine sxo_isF (k := 23) rfl h14 ?_
      refine sxo_move rfl rfl rfl ?_
      refine sxo_lss rfl rfl rfl rfl ?_
      refine sxo_pick (b := false) rfl rfl rfl rfl ?_
      refine sxo_again (d := 26) (v := .bool (((x5.2 : Int) != 0) || (decide (x4 < 0)))) rfl (by rw [h14]; simp only [Bool.false_or]) ?_
      refine sxo_nil ?_
      exact sxq_case (lk_cons rfl (lk_cons rfl (lk_cons rfl (lk_cons rfl lk_nil))))
    refine sxo_take (os := _) rfl ?_
    refine sxo_move rfl rfl rfl ?_
    refine sxo_case 5 (((x5.2 : Int) != 0) || (decide (x4 < 0))) [(0, .slice a2 x1.length c3), (1, .int .i64 x4), (5, .slice a6 x5.1.length c7), (32, .bool ((((x5.2 : Int) != 0) || (decide (x4 < 0))) || (decide ((x1.length : Int) ≤ x4))))] (fun h15 => ?_) (fun h15 => ?_) ?_
    · refine sxo_take (os := _) rfl ?_
      refine sxo_isT (k := 27) rfl h15 ?_
      refine sxo_skip rfl rfl rfl ?_
      refine sxo_skip rfl rfl rfl ?_
      refine sxo_skip rfl rfl rfl ?_
      refine sxo_skip rfl rfl rfl ?_
      refine sxo_pick (b := true) rfl rfl rfl rfl ?_
      refine sxo_again (d := 32) (v := .bool ((((x5.2 : Int) != 0) || (decide (x4 < 0))) || (decide ((x1.length : Int) ≤ x4)))) rfl (by rw [h15]; simp only [Bool.true_or]) ?_
      refine sxo_nil ?_
      exact sxq_case (lk_cons rfl (lk_cons rfl (lk_cons rfl (lk_cons rfl lk_nil))))
    · refine sxo_take (os := _) rfl ?_
      refine sxo_isF (k := 27) rfl h15 ?_
      refine sxo_move rfl rfl rfl ?_
      refine sxo_move rfl rfl rfl ?_
      refine sxo_len rfl Try.underlying22 rfl rfl ?_
      refine sxo_geq rfl rfl rfl rfl ?_
      refine sxo_pick (b := false) rfl rfl rfl rfl ?_
      refine sxo_again (d := 32) (v := .bool ((((x5.2 : Int) != 0) || (decide (x4 < 0))) || (decide ((x1.length : Int) ≤ x4)))) rfl (by rw [h15]; simp only [Bool.false_or]) ?_
      refine sxo_nil ?_
      exact sxq_case (lk_cons rfl (lk_cons rfl (lk_cons rfl (lk_cons rfl lk_nil))))
    refine sxo_take (os := _) rfl ?_
    refine sxo_nil ?_
    refine sxq_next ?_
    refine sxc_if rfl (fun h65 => ?_) (fun h65 => ?_)
    · refine sxc_seq ?_
      refine sxc_region ?_
      refine sxo_assign rfl rfl rfl ?_
      refine sxo_nil ?_
      refine sxq_next ?_
      refine sxc_ret ?_
      refine sxq_thenR ?_
      exact sxq_doneP () (res1 rfl rfl)
    · refine sxc_skip ?_
      refine sxq_next ?_
      refine sxc_seq ?_
      refine sxc_region ?_
      refine sxo_slit (vs := []) (ys := ([] : List Int)) (eI_ok .i64) (by decide) rfl Try.underlying22 tf3 rfl rfl rfl rfl rfl (by decide) (fun a16 c17 => ?_)
      refine sxo_move rfl rfl rfl ?_
      refine sxo_app 0 (eI_ok .i64) rfl Try.underlying22 tf3 rfl rfl rfl rfl rfl (.inr ⟨0, rfl⟩) rfl rfl (fun x18 e18 a19 c20 => ?_)
      refine sxo_assign rfl rfl rfl ?_
      refine sxo_nil ?_
      refine sxq_next ?_
      refine sxc_seq ?_
      refine sxc_region ?_
      refine sxo_move rfl rfl rfl ?_
      refine sxo_move rfl rfl rfl ?_
      refine sxo_indexR (j := 0) rfl Try.underlying22 tf3 rfl rfl rfl rfl (fun x21 e21 g22 h23 => ?_)
      refine sxo_loadR (j := 0) (y := x21) (eI_ok .i64) rfl rfl tf3 rfl h23 (idx_get e21).2.2 (fun _ => rfl) rfl rfl ?_
      refine sxo_add rfl rfl rfl rfl ?_
      refine sxo_indexR (j := 0) rfl Try.underlying22 tf3 rfl rfl rfl rfl (fun x24 e24 g25 h26 => ?_)
      refine sxo_storeL (j := 0) (y' := iadd .i64 x21 1) (eI_ok .i64) rfl rfl rfl tf3 rfl h26 (idx_get e24).2.1 rfl (fun x27 e27 h28 => ?_)
      have h29 : x27.length = x18.length := by rw [← e27, List.length_set]
      refine sxo_again (d := 7) (v := .slice a19 x27.length c20) rfl h28 ?_
      refine sxo_again (d := 35) (v := .slice a19 x27.length c20) rfl h28 ?_
      refine sxo_again (d := 36) (v := .slice a19 x27.length c20) rfl h28 ?_
      refine sxo_nil ?_
      refine sxq_next ?_
      refine sxc_seq ?_
      refine sxc_region ?_
      refine sxo_move rfl rfl rfl ?_
      refine sxo_call ent11 rfl rfl rfl (fun x30 e30 => C_huff_Lengths F x27 a19 c20 x30 e30) (.consR 0 (Ro (eI .i64) 3 1 (.slice a19 x27.length c20) x27) rfl .nil) (fun x30 e30 => ?_)
      rintro ⟨a31, c32⟩
      refine sxo_move rfl rfl rfl ?_
      refine sxo_extract rfl rfl rfl rfl ?_
      refine sxo_extract rfl rfl rfl rfl ?_
      refine sxo_assign rfl rfl rfl ?_
      refine sxo_assign rfl rfl rfl ?_
      refine sxo_nil ?_
      refine sxq_next ?_
      refine sxc_seq ?_
      refine sxc_seq ?_
      refine sxc_region ?_
      refine sxo_move rfl rfl rfl ?_
      refine sxo_neq rfl rfl rfl rfl ?_
      refine sxo_nil ?_
      refine sxq_next ?_
      refine sxc_if rfl (fun h64 => ?_) (fun h64 => ?_)
      · refine sxc_seq ?_
        refine sxc_region ?_
        refine sxo_move rfl rfl rfl ?_
        refine sxo_eql rfl rfl rfl rfl ?_
        refine sxo_move rfl rfl rfl ?_
        refine sxo_case 3 ((x30.2 : Int) == 3) [(54, .bool (((x30.2 : Int) == 3) || ((x30.2 : Int) == 8)))] (fun h35 => ?_) (fun h35 => ?_) ?_
        · refine sxo_take (os := _) rfl ?_
          refine sxo_isT (k := 51) rfl h35 ?_
          refine sxo_skip rfl rfl rfl ?_
          refine sxo_skip rfl rfl rfl ?_
          refine sxo_pick (b := true) rfl rfl rfl rfl ?_
          refine sxo_again (d := 54) (v := .bool (((x30.2 : Int) == 3) || ((x30.2 : Int) == 8))) rfl (by rw [h35]; simp only [Bool.true_or]) ?_
          refine sxo_nil ?_
          exact sxq_case (lk_cons rfl lk_nil)
        · refine sxo_take (os := _) rfl ?_
          refine sxo_isF (k := 51) rfl h35 ?_
          refine sxo_move rfl rfl rfl ?_
          refine sxo_eql rfl rfl rfl rfl ?_
          refine sxo_pick (b := false) rfl rfl rfl rfl ?_
          refine sxo_again (d := 54) (v := .bool (((x30.2 : Int) == 3) || ((x30.2 : Int) == 8))) rfl (by rw [h35]; simp only [Bool.false_or]) ?_
          refine sxo_nil ?_
          exact sxq_case (lk_cons rfl lk_nil)
        refine sxo_take (os := _) rfl ?_
        refine sxo_assign rfl rfl rfl ?_
        refine sxo_nil ?_
        refine sxq_next ?_
        refine sxc_ret ?_
        refine sxq_thenR ?_
        exact sxq_doneP () (res1 rfl rfl)
      · refine sxc_skip ?_
        refine sxq_next ?_
        refine sxc_seq ?_
        refine sxc_region ?_
        refine sxo_move rfl rfl rfl ?_
        refine sxo_move rfl rfl rfl ?_
        refine sxo_call ent12 rfl rfl rfl (fun x36 e36 => C_huff_Cost F x1 a2 c3 x5.1 a6 c7 x36 e36) (.consF 0 rfl (.consR 2 (Ro (eI .i64) 3 1 (.slice a6 x5.1.length c7) x5.1) rfl .nil)) (fun x36 e36 => ?_)
        intro _
        refine sxo_move rfl rfl rfl ?_
        refine sxo_extract rfl rfl rfl rfl ?_
        refine sxo_extract rfl rfl rfl rfl ?_
        refine sxo_assign rfl rfl rfl ?_
        refine sxo_assign rfl rfl rfl ?_
        refine sxo_nil ?_
        refine sxq_next ?_
        refine sxc_seq ?_
        refine sxc_region ?_
        refine sxo_move rfl rfl rfl ?_
        refine sxo_move rfl rfl rfl ?_
        refine sxo_call ent12 rfl rfl rfl (fun x37 e37 => C_huff_Cost F x27 a19 c20 x30.1 a31 c32 x37 e37) (.consR 1 (Ro (eI .i64) 3 1 (.slice a19 x27.length c20) x27) rfl (.consR 0 (Ro (eI .i64) 3 1 (.slice a31 x30.1.length c32) x30.1) rfl .nil)) (fun x37 e37 => ?_)
        intro _
        refine sxo_move rfl rfl rfl ?_
        refine sxo_extract rfl rfl rfl rfl ?_
        refine sxo_extract rfl rfl rfl rfl ?_
        refine sxo_assign rfl rfl rfl ?_
        refine sxo_assign rfl rfl rfl ?_
        refine sxo_nil ?_
        refine sxq_next ?_
        refine sxc_seq ?_
        refine sxc_region ?_
        refine sxo_move rfl rfl rfl ?_
        refine sxo_eql rfl rfl rfl rfl ?_
        refine sxo_move rfl rfl rfl ?_
        refine sxo_case 3 ((x36.2 : Int) == 0) [(0, .slice a2 x1.length c3), (1, .int .i64 x4), (5, .slice a6 x5.1.length c7), (10, .int .i64 x36.1), (12, .int .i64 x37.1), (72, .bool (((x36.2 : Int) == 0) && ((x37.2 : Int) == 0)))] (fun h38 => ?_) (fun h38 => ?_) ?_
        · refine sxo_take (os := _) rfl ?_
          refine sxo_isT (k := 69) rfl h38 ?_
          refine sxo_move rfl rfl rfl ?_
          refine sxo_eql rfl rfl rfl rfl ?_
          refine sxo_pick (b := true) rfl rfl rfl rfl ?_
          refine sxo_again (d := 72) (v := .bool (((x36.2 : Int) == 0) && ((x37.2 : Int) == 0))) rfl (by rw [h38]; simp only [Bool.true_and]) ?_
          refine sxo_nil ?_
          exact sxq_case (lk_cons rfl (lk_cons rfl (lk_cons rfl (lk_cons rfl (lk_cons rfl (lk_cons rfl lk_nil))))))
        · refine sxo_take (os := _) rfl ?_
          refine sxo_isF (k := 69) rfl h38 ?_
          refine sxo_skip rfl rfl rfl ?_
          refine sxo_skip rfl rfl rfl ?_
          refine sxo_pick (b := false) rfl rfl rfl rfl ?_
          refine sxo_again (d := 72) (v := .bool (((x36.2 : Int) == 0) && ((x37.2 : Int) == 0))) rfl (by rw [h38]; simp only [Bool.false_and]) ?_
          refine sxo_nil ?_
          exact sxq_case (lk_cons rfl (lk_cons rfl (lk_cons rfl (lk_cons rfl (lk_cons rfl (lk_cons rfl lk_nil))))))
        refine sxo_take (os := _) rfl ?_
        refine sxo_move rfl rfl rfl ?_
        refine sxo_case 4 (((x36.2 : Int) == 0) && ((x37.2 : Int) == 0)) [(0, .slice a2 x1.length c3), (1, .int .i64 x4), (5, .slice a6 x5.1.length c7), (10, .int .i64 x36.1), (12, .int .i64 x37.1), (77, .bool ((((x36.2 : Int) == 0) && ((x37.2 : Int) == 0)) && (decide (x36.1 ≤ x37.1))))] (fun h39 => ?_) (fun h39 => ?_) ?_
        · refine sxo_take (os := _) rfl ?_
          refine sxo_isT (k := 73) rfl h39 ?_
          refine sxo_move rfl rfl rfl ?_
          refine sxo_move rfl rfl rfl ?_
          refine sxo_geq rfl rfl rfl rfl ?_
          refine sxo_pick (b := true) rfl rfl rfl rfl ?_
          refine sxo_again (d := 77) (v := .bool ((((x36.2 : Int) == 0) && ((x37.2 : Int) == 0)) && (decide (x36.1 ≤ x37.1)))) rfl (by rw [h39]; simp only [Bool.true_and]) ?_
          refine sxo_nil ?_
          exact sxq_case (lk_cons rfl (lk_cons rfl (lk_cons rfl (lk_cons rfl (lk_cons rfl (lk_cons rfl lk_nil))))))
        · refine sxo_take (os := _) rfl ?_
          refine sxo_isF (k := 73) rfl h39 ?_
          refine sxo_skip rfl rfl rfl ?_
          refine sxo_skip rfl rfl rfl ?_
          refine sxo_skip rfl rfl rfl ?_
          refine sxo_pick (b := false) rfl rfl rfl rfl ?_
          refine sxo_again (d := 77) (v := .bool ((((x36.2 : Int) == 0) && ((x37.2 : Int) == 0)) && (decide (x36.1 ≤ x37.1)))) rfl (by rw [h39]; simp only [Bool.false_and]) ?_
          refine sxo_nil ?_
          exact sxq_case (lk_cons rfl (lk_cons rfl (lk_cons rfl (lk_cons rfl (lk_cons rfl (lk_cons rfl lk_nil))))))
        refine sxo_take (os := _) rfl ?_
        refine sxo_move rfl rfl rfl ?_
        refine sxo_join 16 (fun ((x52, _) : (Bool × Unit)) => [(94, .bool x52)]) (fun ((x52, _) : (Bool × Unit)) => []) (fun ((x52, _) : (Bool × Unit)) => []) (fun ((x52, _) : (Bool × Unit)) => []) (fun ((x52, _) : (Bool × Unit)) => M_L_HuffMore_j2 F x52) ?_ ?_
        · refine sxo_take (os := _) rfl ?_
          refine sxo_if (fun h40 => ?_) (fun h40 => ?_)
          · refine sxo_isT (k := 78) rfl h40 ?_
            refine sxo_move rfl rfl rfl ?_
            refine sxo_move rfl rfl rfl ?_
            refine sxo_indexF (j := 0) (eI_ok .i64) (by decide) rfl Try.underlying22 tf3 rfl rfl rfl rfl (fun x53 e53 b54 o55 => ?_)
            refine sxo_loadF (j := 0) rfl rfl tf3 rfl rfl (fun _ => rfl) rfl rfl ?_
            refine sxo_eql rfl rfl rfl rfl ?_
            refine sxo_move rfl rfl rfl ?_
            refine sxo_join 9 (fun ((x60, _) : (Bool × Unit)) => [(78, .bool true), (93, .bool x60)]) (fun ((x60, _) : (Bool × Unit)) => []) (fun ((x60, _) : (Bool × Unit)) => []) (fun ((x60, _) : (Bool × Unit)) => []) (fun ((x60, _) : (Bool × Unit)) => M_L_HuffMore_j3 F x60) ?_ ?_
            · refine sxo_take (os := _) rfl ?_
              refine sxo_if (fun h56 => ?_) (fun h56 => ?_)
              · refine sxo_isT (k := 84) rfl h56 ?_
                refine sxo_skip rfl rfl rfl ?_
                refine sxo_skip rfl rfl rfl ?_
                refine sxo_skip rfl rfl rfl ?_
                refine sxo_skip rfl rfl rfl ?_
                refine sxo_skip rfl rfl rfl ?_
                refine sxo_skip rfl rfl rfl ?_
                refine sxo_skip rfl rfl rfl ?_
                refine sxo_skip rfl rfl rfl ?_
                refine sxo_pick (b := true) rfl rfl rfl rfl ?_
                refine sxo_nil ?_
                exact sxq_meetP (true, ())
              · refine sxo_isF (k := 84) rfl h56 ?_
                refine sxo_move rfl rfl rfl ?_
                refine sxo_move rfl rfl rfl ?_
                refine sxo_move rfl rfl rfl ?_
                refine sxo_move rfl rfl rfl ?_
                refine sxo_indexR (j := 2) rfl Try.underlying22 tf3 rfl rfl rfl rfl (fun x61 e61 g62 h63 => ?_)
                refine sxo_loadR (j := 2) (y := x61) (eI_ok .i64) rfl rfl tf3 rfl h63 (idx_get e61).2.2 (fun _ => rfl) rfl rfl ?_
                refine sxo_add rfl rfl rfl rfl ?_
                refine sxo_leq rfl rfl rfl rfl ?_
                refine sxo_pick (b := false) rfl rfl rfl rfl ?_
                refine sxo_nil ?_
                exact sxq_meetP ((decide (x37.1 ≤ (iadd .i64 x36.1 x61))), ())
            · rintro ⟨x60, _⟩
              try dsimp only
              refine sxo_take (os := _) rfl ?_
              refine sxo_pick (b := true) rfl rfl rfl rfl ?_
              refine sxo_nil ?_
              exact sxq_meetP (x60, ())
          · refine sxo_isF (k := 78) rfl h40 ?_
            refine sxo_skip rfl rfl rfl ?_
            refine sxo_skip rfl rfl rfl ?_
            refine sxo_skip rfl rfl rfl ?_
            refine sxo_skip rfl rfl rfl ?_
            refine sxo_skip rfl rfl rfl ?_
            refine sxo_skip rfl rfl rfl ?_
            refine sxo_skip rfl rfl rfl ?_
            refine sxo_skip rfl rfl rfl ?_
            refine sxo_skip rfl rfl rfl ?_
            refine sxo_skip rfl rfl rfl ?_
            refine sxo_skip rfl rfl rfl ?_
            refine sxo_skip rfl rfl rfl ?_
            refine sxo_skip rfl rfl rfl ?_
            refine sxo_skip rfl rfl rfl ?_
            refine sxo_skip rfl rfl rfl ?_
            refine sxo_pick (b := false) rfl rfl rfl rfl ?_
            refine sxo_nil ?_
            exact sxq_meetP (false, ())
        · rintro ⟨x52, _⟩
          try dsimp only
          refine sxo_take (os := _) rfl ?_
          refine sxo_assign rfl rfl rfl ?_
          refine sxo_nil ?_
          refine sxq_next ?_
          refine sxc_ret ?_
          exact sxq_doneP () (res1 rfl rfl)

theorem C_R_SameBytes (F : Nat) (x1 : List Int) (a2 : Option Addr) (c3 : Nat) (x4 : List Int) (a5 : Option Addr) (c6 : Nat) (r : Bool) (hm : M_R_SameBytes F x1 x4 = some r) :
    Pure Try.prog 45 [.slice a2 x1.length c3, .slice a5 x4.length c6] [Sl (eI .u8) 1 (.slice a2 x1.length c3) x1, Sl (eI .u8) 1 (.slice a5 x4.length c6) x4] Unit (fun _ => .bool r) (fun _ => []) (fun _ => []) := by
  refine pure_of Try.func45 rfl Try.ntmps45 rfl hm (fun w => ?_)
  refine sxc_env (l' := [(0, .slice a2 x1.length c3), (1, .slice a5 x4.length c6)]) rfl ?_
  refine sxc_seq ?_
  refine sxc_region ?_
  refine sxo_assign rfl rfl rfl ?_
  refine sxo_nil ?_
  refine sxq_next ?_
  refine sxc_seq ?_
  refine sxc_seq ?_
  refine sxc_region ?_
  refine sxo_move rfl rfl rfl ?_
  refine sxo_len rfl Try.underlying23 rfl rfl ?_
  refine sxo_move rfl rfl rfl ?_
  refine sxo_len rfl Try.underlying23 rfl rfl ?_
  refine sxo_neq rfl rfl rfl rfl ?_
  refine sxo_nil ?_
  refine sxq_next ?_
  refine sxc_if rfl (fun h228 => ?_) (fun h228 => ?_)
  · refine sxc_seq ?_
    refine sxc_region ?_
    refine sxo_assign rfl rfl rfl ?_
    refine sxo_nil ?_
    refine sxq_next ?_
    refine sxc_ret ?_
    refine sxq_thenR ?_
    exact sxq_doneP () (res1 rfl rfl)
  · refine sxc_skip ?_
    refine sxq_next ?_
    refine sxc_join (fun ((_, _) : (Unit × Unit)) => []) (fun ((_, _) : (Unit × Unit)) => []) (fun ((_, _) : (Unit × Unit)) => []) (fun ((_, _) : (Unit × Unit)) => []) (fun ((_, _) : (Unit × Unit)) => M_R_SameBytes_j2 F) ?_ ?_
    · refine sxc_seq ?_
      refine sxc_region ?_
      refine sxo_assign rfl rfl rfl ?_
      refine sxo_nil ?_
      refine sxq_next ?_
      refine sxc_block ?_
      refine sxc_loopP (fun ((x154, _) : (Int × Unit)) => [(0, .slice a2 x1.length c3), (1, .slice a5 x4.length c6), (5, .int .i64 x154)]) (fun ((x154, _) : (Int × Unit)) => []) (fun ((x154, _) : (Int × Unit)) => []) (fun ((x154, _) : (Int × Unit)) => [Sl (eI .u8) 1 (.slice a2 x1.length c3) x1, Sl (eI .u8) 1 (.slice a5 x4.length c6) x4]) (fun k (s : (Int × Unit)) => M_R_SameBytes_l3 F x1 x4 k s.1) (0, ()) F ?_ (hF := (fk_cons 0 rfl (fk_cons 1 rfl fk_nil)))
      intro k191
      rintro ⟨x154, _⟩
      try dsimp only
      refine sxc_meq (m' := M_R_SameBytes_b3 F x1 x4 (M_R_SameBytes_l3 F x1 x4 k191) x154) rfl ?_
      refine sxc_seq ?_
      refine sxc_seq ?_
      refine sxc_region ?_
      refine sxo_move rfl rfl rfl ?_
      refine sxo_move rfl rfl rfl ?_
      refine sxo_len rfl Try.underlying23 rfl rfl ?_
      refine sxo_lss rfl rfl rfl rfl ?_
      refine sxo_nil ?_
      refine sxq_next ?_
      refine sxc_if rfl (fun h227 => ?_) (fun h227 => ?_)
      · refine sxc_skip ?_
        refine sxq_next ?_
        refine sxc_seq ?_
        refine sxc_block ?_
        refine sxc_seq ?_
        refine sxc_idxF (j := 0) (eI_ok .u8) (by decide) rfl (fun x218 e218 b219 o220 h221 => ?_)
        replace h221 : a2 = some ⟨b219, o220, none⟩ := h221
        refine sxc_idxF (j := 2) (eI_ok .u8) (by decide) rfl (fun x222 e222 b223 o224 h225 => ?_)
        replace h225 : a5 = some ⟨b223, o224, none⟩ := h225
        refine sxb_draw mixed [] [] [CellsAt b223 (o224 + x154.toNat * 1) ((eI .u8) x222), CellsAt b219 (o220 + x154.toNat * 1) ((eI .u8) x218), Sl (eI .u8) 1 (.slice a2 x1.length c3) x1, Sl (eI .u8) 1 (.slice a5 x4.length c6) x4] .nil (gk_F 0 rfl (gk_F 1 rfl (gk_F 2 rfl (gk_F 3 rfl gk_nil)))) 9 rfl ?_
        refine sxb_takeP 0 (.slice a2 x1.length c3) rfl rfl rfl (yv_pv rfl) ?_
        refine sxb_takeP 1 (.int .i64 x154) rfl rfl rfl (yv_pv rfl) ?_
        refine sxb_again (d := 17) (v := .slice (some ⟨b219, o220, none⟩) x1.length c3) rfl (by rw [h221] <;> rfl) ?_
        refine sxb_takeP 2 (.pointer (some ⟨b219, (o220 + x154.toNat * 1), none⟩)) rfl rfl rfl (yv_idx Try.underlying23 tf5 rfl rfl (idx_get e218).1 (idx_lt e218)) ?_
        refine sxb_again (d := 17) (v := .slice a2 x1.length c3) rfl (by rw [h221] <;> rfl) ?_
        refine sxb_take 3 (.int .u8 x218) [] rfl rfl rfl (yv_loadF (j := 1) rfl tf5 rfl rfl (fun _ => rfl) rfl) ?_
        refine sxb_takeP 4 (.slice a5 x4.length c6) rfl rfl rfl (yv_pv rfl) ?_
        refine sxb_takeP 5 (.int .i64 x154) rfl rfl rfl (yv_pv rfl) ?_
        refine sxb_again (d := 21) (v := .slice (some ⟨b223, o224, none⟩) x4.length c6) rfl (by rw [h225] <;> rfl) ?_
        refine sxb_takeP 6 (.pointer (some ⟨b223, (o224 + x154.toNat * 1), none⟩)) rfl rfl rfl (yv_idx Try.underlying23 tf5 rfl rfl (idx_get e222).1 (idx_lt e222)) ?_
        refine sxb_again (d := 21) (v := .slice a5 x4.length c6) rfl (by rw [h225] <;> rfl) ?_
        refine sxb_take 7 (.int .u8 x222) [] rfl rfl rfl (yv_loadF (j := 0) rfl tf5 rfl rfl (fun _ => rfl) rfl) ?_
        refine sxb_takeP 8 (.bool ((x218 : Int) != x222)) rfl rfl rfl (yv_pv rfl) ?_
        refine sxb_done (by kernel_rfl) ?_
        refine sxq_np ?_ (by intro c h; cases h)
        refine sxq_next ?_
        refine sxc_if rfl (fun h226 => ?_) (fun h226 => ?_)
        · refine sxc_seq ?_
          refine sxc_region ?_
          refine sxo_assign rfl rfl rfl ?_
          refine sxo_nil ?_
          refine sxq_next ?_
          refine sxc_ret ?_
          refine sxq_blkR ?_
          refine sxq_thenR ?_
          refine sxq_thenR ?_
          refine sxq_blkR ?_
          refine sxq_thenR ?_
          exact sxq_doneP () (res1 rfl rfl)
        · refine sxc_skip ?_
          refine sxq_blkN ?_
          refine sxq_next ?_
          refine sxc_region ?_
          refine sxo_move rfl rfl rfl ?_
          refine sxo_add rfl rfl rfl rfl ?_
          refine sxo_assign rfl rfl rfl ?_
          refine sxo_nil ?_
          exact sxq_againP (iadd .i64 x154 1, ()) (hF := (fk_cons 2 rfl (fk_cons 3 rfl fk_nil)))
      · refine sxc_exit ?_
        refine sxq_thenX ?_
        refine sxq_thenX ?_
        refine sxq_blkX ?_
        exact sxq_meetP ((), ())
    · rintro ⟨_, _⟩
      try dsimp only
      refine sxc_seq ?_
      refine sxc_region ?_
      refine sxo_assign rfl rfl rfl ?_
      refine sxo_nil ?_
      refine sxq_next ?_
      refine sxc_ret ?_
      exact sxq_doneP () (res1 rfl rfl)

theorem C_R_SameBits (F : Nat) (x1 : Int) (x2 : List Int) (a3 : Option Addr) (c4 : Nat) (x5 : Int) (x6 : List Int) (a7 : Option Addr) (c8 : Nat) (r : Bool) (hm : M_R_SameBits F x1 x2 x5 x6 = some r) :
    Pure Try.prog 21 [.agg #[.int .i64 x1, .slice a3 x2.length c4], .agg #[.int .i64 x5, .slice a7 x6.length c8]] [Sl (eI .u8) 1 (.slice a3 x2.length c4) x2, Sl (eI .u8) 1 (.slice a7 x6.length c8) x6] Unit (fun _ => .bool r) (fun _ => []) (fun _ => []) := by
  refine pure_of Try.func21 rfl Try.ntmps21 rfl hm (fun w => ?_)
  refine sxc_env (l' := [(0, .agg #[.int .i64 x1, .slice a3 x2.length c4]), (1, .agg #[.int .i64 x5, .slice a7 x6.length c8])]) rfl ?_
  refine sxc_seq ?_
  refine sxc_region ?_
  refine sxo_box rfl rfl rfl (fun g9 => ?_)
  refine sxo_box rfl rfl rfl (fun g10 => ?_)
  refine sxo_assign rfl rfl rfl ?_
  refine sxo_nil ?_
  refine sxq_next ?_
  refine sxc_seq ?_
  refine sxc_region ?_
  refine sxo_fieldAddr rfl rfl ff25_0 rfl ?_
  refine sxo_loadB (i := 1) rfl rfl tf3 rfl rfl (fun _ => rfl) rfl rfl ?_
  refine sxo_fieldAddr rfl rfl ff25_0 rfl ?_
  refine sxo_loadB (i := 0) rfl rfl tf3 rfl rfl (fun _ => rfl) rfl rfl ?_
  refine sxo_eql rfl rfl rfl rfl ?_
  refine sxo_move rfl rfl rfl ?_
  refine sxo_join 6 (fun ((x13, _) : (Bool × Unit)) => [(16, .bool x13)]) (fun ((x13, _) : (Bool × Unit)) => []) (fun ((x13, _) : (Bool × Unit)) => []) (fun ((x13, _) : (Bool × Unit)) => []) (fun ((x13, _) : (Bool × Unit)) => M_R_SameBits_j1 F x13) ?_ ?_
  · refine sxo_take (os := _) rfl ?_
    refine sxo_if (fun h11 => ?_) (fun h11 => ?_)
    · refine sxo_isT (k := 10) rfl h11 ?_
      refine sxo_fieldAddr rfl rfl ff25_1 rfl ?_
      refine sxo_loadB (i := 1) rfl rfl tf23 rfl rfl (fun _ => rfl) rfl rfl ?_
      refine sxo_fieldAddr rfl rfl ff25_1 rfl ?_
      refine sxo_loadB (i := 0) rfl rfl tf23 rfl rfl (fun _ => rfl) rfl rfl ?_
      refine sxo_call ent45 rfl rfl rfl (fun x14 e14 => C_R_SameBytes F x2 a3 c4 x6 a7 c8 x14 e14) (.consF 0 rfl (.consF 1 rfl .nil)) (fun x14 e14 => ?_)
      intro _
      refine sxo_pick (b := true) rfl rfl rfl rfl ?_
      refine sxo_nil ?_
      exact sxq_meetP (x14, ())
    · refine sxo_isF (k := 10) rfl h11 ?_
      refine sxo_skip rfl rfl rfl ?_
      refine sxo_skip rfl rfl rfl ?_
      refine sxo_skip rfl rfl rfl ?_
      refine sxo_skip rfl rfl rfl ?_
      refine sxo_skip rfl rfl rfl ?_
      refine sxo_pick (b := false) rfl rfl rfl rfl ?_
      refine sxo_nil ?_
      exact sxq_meetP (false, ())
  · rintro ⟨x13, _⟩
    try dsimp only
    refine sxo_take (os := _) rfl ?_
    refine sxo_assign rfl rfl rfl ?_
    refine sxo_nil ?_
    refine sxq_next ?_
    refine sxc_ret ?_
    exact sxq_doneP () (res1 rfl rfl)

theorem C_kraft_Room (F : Nat) (x1 : List Int) (a2 : Option Addr) (c3 : Nat) (r : (Int × Int)) (hm : M_kraft_Room F x1 = some r) :
    Pure Try.prog 23 [.slice a2 x1.length c3] [Sl (eI .i64) 1 (.slice a2 x1.length c3) x1] Unit (fun _ => .tuple #[.int .i64 r.1, .int .i64 r.2]) (fun _ => []) (fun _ => []) := by
  refine pure_of Try.func23 rfl Try.ntmps23 rfl hm (fun w => ?_)
  refine sxc_env (l' := [(0, .slice a2 x1.length c3)]) rfl ?_
  refine sxc_seq ?_
  refine sxc_region ?_
  refine sxo_assign rfl rfl rfl ?_
  refine sxo_assign rfl rfl rfl ?_
  refine sxo_nil ?_
  refine sxq_next ?_
  refine sxc_seq ?_
  refine sxc_seq ?_
  refine sxc_region ?_
  refine sxo_move rfl rfl rfl ?_
  refine sxo_call ent31 rfl rfl rfl (fun x6 e6 => C_kraft_Check F x1 a2 c3 x6 e6) (.consF 0 rfl .nil) (fun x6 e6 => ?_)
  intro _
  refine sxo_assign rfl rfl rfl ?_
  refine sxo_nil ?_
  refine sxq_next ?_
  refine sxc_seq ?_
  refine sxc_region ?_
  refine sxo_move rfl rfl rfl ?_
  refine sxo_neq rfl rfl rfl rfl ?_
  refine sxo_nil ?_
  refine sxq_next ?_
  refine sxc_if rfl (fun h8 => ?_) (fun h8 => ?_)
  · refine sxc_seq ?_
    refine sxc_region ?_
    refine sxo_move rfl rfl rfl ?_
    refine sxo_assign rfl rfl rfl ?_
    refine sxo_assign rfl rfl rfl ?_
    refine sxo_nil ?_
    refine sxq_next ?_
    refine sxc_ret ?_
    refine sxq_thenR ?_
    exact sxq_doneP () (res2 rfl rfl rfl)
  · refine sxc_skip ?_
    refine sxq_next ?_
    refine sxc_seq ?_
    refine sxc_region ?_
    refine sxo_move rfl rfl rfl ?_
    refine sxo_call ent48 rfl rfl rfl (fun x7 e7 => C_kraft_room F x1 a2 c3 x7 e7) (.consF 0 rfl .nil) (fun x7 e7 => ?_)
    intro _
    refine sxo_assign rfl rfl rfl ?_
    refine sxo_assign rfl rfl rfl ?_
    refine sxo_nil ?_
    refine sxq_next ?_
    refine sxc_ret ?_
    exact sxq_doneP () (res2 rfl rfl rfl)

set_option maxHeartbeats 4000000 in
theorem C_kraft_Apart (F : Nat) (x1 : List (Int × List Int)) (a2 : Option Addr) (c3 : (Nat × List (Option Addr × Nat))) (r : (Bool × Int)) (hm : M_kraft_Apart F x1 = some r) :
    Pure Try.prog 46 [.slice a2 x1.length c3.1] [SlN eN25 iN25 2 (.slice a2 x1.length c3.1) x1 c3.2] Unit (fun _ => .tuple #[.bool r.1, .int .i64 r.2]) (fun _ => []) (fun _ => []) := by
  refine pure_of Try.func46 rfl Try.ntmps46 rfl hm (fun w => ?_)
  refine sxc_env (l' := [(0, .slice a2 x1.length c3.1)]) rfl ?_
  refine sxc_seq ?_
  refine sxc_region ?_
  refine sxo_assign rfl rfl rfl ?_
  refine sxo_assign rfl rfl rfl ?_
  refine sxo_nil ?_
  refine sxq_next ?_
  refine sxc_seq ?_
  refine sxc_seq ?_
  refine sxc_region ?_
  refine sxo_move rfl rfl rfl ?_
  refine sxo_len rfl Try.underlying55 rfl rfl ?_
  refine sxo_gtr rfl rfl rfl rfl ?_
  refine sxo_nil ?_
  refine sxq_next ?_
  refine sxc_if rfl (fun h1117 => ?_) (fun h1117 => ?_)
  · refine sxc_seq ?_
    refine sxc_region ?_
    refine sxo_assign rfl rfl rfl ?_
    refine sxo_assign rfl rfl rfl ?_
    refine sxo_nil ?_
    refine sxq_next ?_
    refine sxc_ret ?_
    refine sxq_thenR ?_
    exact sxq_doneP () (res2 rfl rfl rfl)
  · refine sxc_skip ?_
    refine sxq_next ?_
    refine sxc_join (fun ((_, _) : (Unit × Unit)) => [(0, .slice a2 x1.length c3.1)]) (fun ((_, _) : (Unit × Unit)) => []) (fun ((_, _) : (Unit × Unit)) => []) (fun ((_, _) : (Unit × Unit)) => [SlN eN25 iN25 2 (.slice a2 x1.length c3.1) x1 c3.2]) (fun ((_, _) : (Unit × Unit)) => M_kraft_Apart_j2 F x1) ?_ ?_
    · refine sxc_seq ?_
      refine sxc_region ?_
      refine sxo_move rfl rfl rfl ?_
      refine sxo_len rfl Try.underlying55 rfl rfl ?_
      refine sxo_move rfl rfl rfl ?_
      refine sxo_nil ?_
      refine sxq_next ?_
      refine sxc_block ?_
      refine sxc_loopP (fun ((x1083, _) : (Int × Unit)) => [(0, .slice a2 x1.length c3.1), (14, .slice a2 x1.length c3.1), (15, .int .i64 (x1.length : Int)), (16, .int .i64 x1083)]) (fun ((x1083, _) : (Int × Unit)) => []) (fun ((x1083, _) : (Int × Unit)) => []) (fun ((x1083, _) : (Int × Unit)) => [SlN eN25 iN25 2 (.slice a2 x1.length c3.1) x1 c3.2]) (fun k (s : (Int × Unit)) => M_kraft_Apart_l96 F x1 k s.1) (0, ()) F ?_ (hF := (fk_cons 0 rfl fk_nil))
      intro k1100
      rintro ⟨x1083, _⟩
      try dsimp only
      refine sxc_meq (m' := M_kraft_Apart_b96 F x1 (M_kraft_Apart_l96 F x1 k1100) x1083) rfl ?_
      refine sxc_seq ?_
      refine sxc_region ?_
      refine sxo_lss rfl rfl rfl rfl ?_
      refine sxo_nil ?_
      refine sxq_next ?_
      refine sxc_seq ?_
      refine sxc_if rfl (fun h1116 => ?_) (fun h1116 => ?_)
      · refine sxc_skip ?_
        refine sxq_next ?_
        refine sxc_seq ?_
        refine sxc_block ?_
        refine sxc_seq ?_
        refine sxc_region ?_
        refine sxo_indexN (j := 0) eN25_ok (by decide) rfl Try.underlying55 tf25 rfl rfl rfl rfl (fun x1109 e1109 g1112 b1110 o1111 => ?_)
        refine sxo_loadF (j := 0) rfl rfl tf25 rfl rfl (by simp) rfl rfl ?_
        refine sxo_alloc rfl tf25 rfl (fun g1113 => ?_)
        refine sxo_storeB (i := 0) rfl rfl rfl tf25 rfl rfl rfl rfl rfl ?_
        refine sxo_nil ?_
        refine sxq_next ?_
        refine sxc_seq ?_
        refine sxc_region ?_
        refine sxo_loadB (i := 0) rfl rfl tf25 rfl rfl (by simp) rfl rfl ?_
        refine sxo_call ent35 rfl rfl rfl (fun x1114 e1114 => C_bits_Check F x1109.1 x1109.2 g1112.1 g1112.2 x1114 e1114) (.consF 1 rfl .nil) (fun x1114 e1114 => ?_)
        intro _
        refine sxo_assign rfl rfl rfl ?_
        refine sxo_nil ?_
        refine sxq_next ?_
        refine sxc_seq ?_
        refine sxc_region ?_
        refine sxo_move rfl rfl rfl ?_
        refine sxo_neq rfl rfl rfl rfl ?_
        refine sxo_nil ?_
        refine sxq_next ?_
        refine sxc_if rfl (fun h1115 => ?_) (fun h1115 => ?_)
        · refine sxc_seq ?_
          refine sxc_region ?_
          refine sxo_move rfl rfl rfl ?_
          refine sxo_assign rfl rfl rfl ?_
          refine sxo_assign rfl rfl rfl ?_
          refine sxo_nil ?_
          refine sxq_next ?_
          refine sxc_ret ?_
          refine sxq_blkR ?_
          refine sxq_thenR ?_
          refine sxq_thenR ?_
          refine sxq_blkR ?_
          refine sxq_thenR ?_
          exact sxq_doneP () (res2 rfl rfl rfl)
        · refine sxc_skip ?_
          refine sxq_blkN ?_
          refine sxq_next ?_
          refine sxc_region ?_
          refine sxo_add rfl rfl rfl rfl ?_
          refine sxo_move rfl rfl rfl ?_
          refine sxo_nil ?_
          exact sxq_againP (iadd .i64 x1083 1, ()) (hF := (fk_cons 2 rfl fk_nil))
      · refine sxc_exit ?_
        refine sxq_thenX ?_
        refine sxq_thenX ?_
        refine sxq_blkX ?_
        exact sxq_meetP ((), ()) (hF := (fk_cons 0 rfl fk_nil))
    · rintro ⟨_, _⟩
      try dsimp only
      refine sxc_join (fun ((_, _) : (Unit × Unit)) => []) (fun ((_, _) : (Unit × Unit)) => []) (fun ((_, _) : (Unit × Unit)) => []) (fun ((_, _) : (Unit × Unit)) => []) (fun ((_, _) : (Unit × Unit)) => M_kraft_Apart_j49 F) ?_ ?_
      · refine sxc_seq ?_
        refine sxc_region ?_
        refine sxo_move rfl rfl rfl ?_
        refine sxo_len rfl Try.underlying55 rfl rfl ?_
        refine sxo_move rfl rfl rfl ?_
        refine sxo_nil ?_
        refine sxq_next ?_
        refine sxc_block ?_
        refine sxc_loopP (fun ((x729, _) : (Int × Unit)) => [(0, .slice a2 x1.length c3.1), (26, .slice a2 x1.length c3.1), (27, .int .i64 (x1.length : Int)), (28, .int .i64 x729)]) (fun ((x729, _) : (Int × Unit)) => []) (fun ((x729, _) : (Int × Unit)) => []) (fun ((x729, _) : (Int × Unit)) => [SlN eN25 iN25 2 (.slice a2 x1.length c3.1) x1 c3.2]) (fun k (s : (Int × Unit)) => M_kraft_Apart_l80 F x1 k s.1) (0, ()) F ?_ (hF := (fk_cons 0 rfl fk_nil))
        intro k898
        rintro ⟨x729, _⟩
        try dsimp only
        refine sxc_meq (m' := M_kraft_Apart_b80 F x1 (M_kraft_Apart_l80 F x1 k898) x729) rfl ?_
        refine sxc_seq ?_
        refine sxc_region ?_
        refine sxo_lss rfl rfl rfl rfl ?_
        refine sxo_nil ?_
        refine sxq_next ?_
        refine sxc_seq ?_
        refine sxc_if rfl (fun h1066 => ?_) (fun h1066 => ?_)
        · refine sxc_skip ?_
          refine sxq_next ?_
          refine sxc_join (fun ((_, _) : (Unit × Unit)) => [(0, .slice a2 x1.length c3.1), (26, .slice a2 x1.length c3.1), (27, .int .i64 (x1.length : Int)), (28, .int .i64 x729)]) (fun ((_, _) : (Unit × Unit)) => []) (fun ((_, _) : (Unit × Unit)) => []) (fun ((_, _) : (Unit × Unit)) => [SlN eN25 iN25 2 (.slice a2 x1.length c3.1) x1 c3.2]) (fun ((_, _) : (Unit × Unit)) => M_kraft_Apart_j88 F (M_kraft_Apart_l80 F x1 k898) x729) ?_ ?_
          · refine sxc_block ?_
            refine sxc_seq ?_
            refine sxc_region ?_
            refine sxo_move rfl rfl rfl ?_
            refine sxo_indexN (j := 0) eN25_ok (by decide) rfl Try.underlying55 tf25 rfl rfl rfl rfl (fun x983 e983 g986 b984 o985 => ?_)
            refine sxo_loadF (j := 0) rfl rfl tf25 rfl rfl (by simp) rfl rfl ?_
            refine sxo_alloc rfl tf25 rfl (fun g987 => ?_)
            refine sxo_assign rfl rfl rfl ?_
            refine sxo_storeB (i := 0) rfl rfl rfl tf25 rfl rfl rfl rfl rfl ?_
            refine sxo_nil ?_
            refine sxq_next ?_
            refine sxc_seq ?_
            refine sxc_region ?_
            refine sxo_move rfl rfl rfl ?_
            refine sxo_move rfl rfl rfl ?_
            refine sxo_cutN (j := 2) eN25_ok rfl Try.underlying55 tf25 rfl rfl rfl rfl rfl (fun x988 e988 a989 c990 g991 => ?_)
            refine sxo_len rfl Try.underlying55 rfl rfl ?_
            refine sxo_move rfl rfl rfl ?_
            refine sxo_nil ?_
            refine sxq_next ?_
            refine sxc_block ?_
            refine sxc_loopP (fun ((x1016, _) : (Int × Unit)) => [(0, .slice a2 x1.length c3.1), (8, .pointer (some ⟨g987, 0, none⟩)), (26, .slice a2 x1.length c3.1), (27, .int .i64 (x1.length : Int)), (28, .int .i64 x729), (35, .slice a989 x988.length c990), (36, .int .i64 (x988.length : Int)), (37, .int .i64 x1016)]) (fun ((x1016, _) : (Int × Unit)) => [⟨g987, 25, [.int .i64 x983.1, .slice g986.1 x983.2.length g986.2]⟩]) (fun ((x1016, _) : (Int × Unit)) => []) (fun ((x1016, _) : (Int × Unit)) => [SlN eN25 iN25 2 (.slice a2 x1.length c3.1) x1 c3.2, SlN eN25 iN25 2 (.slice a989 x988.length c990) x988 g991, Sl (eI .u8) 1 (.slice g986.1 x983.2.length g986.2) x983.2]) (fun k (s : (Int × Unit)) => M_kraft_Apart_l93 F (M_kraft_Apart_l80 F x1 k898) x729 x983 x988 k s.1) (0, ()) F ?_ (hB := (.cons 0 rfl .nil)) (hF := (fk_cons 3 rfl (fk_cons 0 rfl (fk_cons 2 rfl fk_nil))))
            intro k1041
            rintro ⟨x1016, _⟩
            try dsimp only
            refine sxc_meq (m' := M_kraft_Apart_b93 F (M_kraft_Apart_l80 F x1 k898) x729 x983 x988 (M_kraft_Apart_l93 F (M_kraft_Apart_l80 F x1 k898) x729 x983 x988 k1041) x1016) rfl ?_
            refine sxc_seq ?_
            refine sxc_region ?_
            refine sxo_lss rfl rfl rfl rfl ?_
            refine sxo_nil ?_
            refine sxq_next ?_
            refine sxc_seq ?_
            refine sxc_if rfl (fun h1065 => ?_) (fun h1065 => ?_)
            · refine sxc_skip ?_
              refine sxq_next ?_
              refine sxc_seq ?_
              refine sxc_block ?_
              refine sxc_seq ?_
              refine sxc_region ?_
              refine sxo_indexN (j := 1) eN25_ok (by decide) rfl Try.underlying55 tf25 rfl rfl rfl rfl (fun x1054 e1054 g1057 b1055 o1056 => ?_)
              refine sxo_loadF (j := 0) rfl rfl tf25 rfl rfl (by simp) rfl rfl ?_
              refine sxo_alloc rfl tf25 rfl (fun g1058 => ?_)
              refine sxo_storeB (i := 0) rfl rfl rfl tf25 rfl rfl rfl rfl rfl ?_
              refine sxo_nil ?_
              refine sxq_next ?_
              refine sxc_seq ?_
              refine sxc_region ?_
              refine sxo_fieldAddr rfl rfl ff25_0 rfl ?_
              refine sxo_loadB (i := 1) rfl rfl tf3 rfl rfl (fun _ => rfl) rfl rfl ?_
              refine sxo_gtr rfl rfl rfl rfl ?_
              refine sxo_move rfl rfl rfl ?_
              refine sxo_case 4 (decide (0 < x983.1)) [(0, .slice a2 x1.length c3.1), (8, .pointer (some ⟨g987, 0, none⟩)), (26, .slice a2 x1.length c3.1), (27, .int .i64 (x1.length : Int)), (28, .int .i64 x729), (35, .slice a989 x988.length c990), (36, .int .i64 (x988.length : Int)), (37, .int .i64 x1016), (10, .pointer (some ⟨g1058, 0, none⟩)), (48, .bool ((decide (0 < x983.1)) && (decide (0 < x1054.1))))] (fun h1059 => ?_) (fun h1059 => ?_) ?_
              · refine sxo_take (os := _) rfl ?_
                refine sxo_isT (k := 44) rfl h1059 ?_
                refine sxo_fieldAddr rfl rfl ff25_0 rfl ?_
                refine sxo_loadB (i := 0) rfl rfl tf3 rfl rfl (fun _ => rfl) rfl rfl ?_
                refine sxo_gtr rfl rfl rfl rfl ?_
                refine sxo_pick (b := true) rfl rfl rfl rfl ?_
                refine sxo_again (d := 48) (v := .bool ((decide (0 < x983.1)) && (decide (0 < x1054.1)))) rfl (by rw [h1059]; simp only [Bool.true_and]) ?_
                refine sxo_nil ?_
                exact sxq_case (lk_cons rfl (lk_cons rfl (lk_cons rfl (lk_cons rfl (lk_cons rfl (lk_cons rfl (lk_cons rfl (lk_cons rfl (lk_cons rfl (lk_cons rfl lk_nil))))))))))
              · refine sxo_take (os := _) rfl ?_
                refine sxo_isF (k := 44) rfl h1059 ?_
                refine sxo_skip rfl rfl rfl ?_
                refine sxo_skip rfl rfl rfl ?_
                refine sxo_skip rfl rfl rfl ?_
                refine sxo_pick (b := false) rfl rfl rfl rfl ?_
                refine sxo_again (d := 48) (v := .bool ((decide (0 < x983.1)) && (decide (0 < x1054.1)))) rfl (by rw [h1059]; simp only [Bool.false_and]) ?_
                refine sxo_nil ?_
                exact sxq_case (lk_cons rfl (lk_cons rfl (lk_cons rfl (lk_cons rfl (lk_cons rfl (lk_cons rfl (lk_cons rfl (lk_cons rfl (lk_cons rfl (lk_cons rfl lk_nil))))))))))
              refine sxo_take (os := _) rfl ?_
              refine sxo_move rfl rfl rfl ?_
              refine sxo_join 4 (fun ((x1062, _) : (Bool × Unit)) => [(0, .slice a2 x1.length c3.1), (8, .pointer (some ⟨g987, 0, none⟩)), (26, .slice a2 x1.length c3.1), (27, .int .i64 (x1.length : Int)), (28, .int .i64 x729), (35, .slice a989 x988.length c990), (36, .int .i64 (x988.length : Int)), (37, .int .i64 x1016), (53, .bool x1062)]) (fun ((x1062, _) : (Bool × Unit)) => [⟨g987, 25, [.int .i64 x983.1, .slice g986.1 x983.2.length g986.2]⟩]) (fun ((x1062, _) : (Bool × Unit)) => []) (fun ((x1062, _) : (Bool × Unit)) => [SlN eN25 iN25 2 (.slice a2 x1.length c3.1) x1 c3.2, SlN eN25 iN25 2 (.slice a989 x988.length c990) x988 g991, Sl (eI .u8) 1 (.slice g986.1 x983.2.length g986.2) x983.2]) (fun ((x1062, _) : (Bool × Unit)) => M_kraft_Apart_j95 F (M_kraft_Apart_l93 F (M_kraft_Apart_l80 F x1 k898) x729 x983 x988 k1041) x1016 x1062) ?_ ?_
              · refine sxo_take (os := _) rfl ?_
                refine sxo_if (fun h1060 => ?_) (fun h1060 => ?_)
                · refine sxo_isT (k := 49) rfl h1060 ?_
                  refine sxo_loadB (i := 1) rfl rfl tf25 rfl rfl (by simp) rfl rfl ?_
                  refine sxo_loadB (i := 0) rfl rfl tf25 rfl rfl (by simp) rfl rfl ?_
                  refine sxo_call ent64 rfl rfl rfl (fun x1064 e1064 => C_kraft_begins F x983.1 x983.2 g986.1 g986.2 0 x1054.1 x1054.2 g1057.1 g1057.2 x1064 e1064) (.consF 4 rfl (.consF 1 rfl .nil)) (fun x1064 e1064 => ?_)
                  intro _
                  refine sxo_pick (b := true) rfl rfl rfl rfl ?_
                  refine sxo_nil ?_
                  exact sxq_meetP (x1064, ()) (hB := (.cons 1 rfl .nil)) (hF := (fk_cons 2 rfl (fk_cons 3 rfl (fk_cons 4 rfl fk_nil))))
                · refine sxo_isF (k := 49) rfl h1060 ?_
                  refine sxo_skip rfl rfl rfl ?_
                  refine sxo_skip rfl rfl rfl ?_
                  refine sxo_skip rfl rfl rfl ?_
                  refine sxo_pick (b := false) rfl rfl rfl rfl ?_
                  refine sxo_nil ?_
                  exact sxq_meetP (false, ()) (hB := (.cons 1 rfl .nil)) (hF := (fk_cons 2 rfl (fk_cons 3 rfl (fk_cons 4 rfl fk_nil))))
              · rintro ⟨x1062, _⟩
                try dsimp only
                refine sxo_take (os := _) rfl ?_
                refine sxo_nil ?_
                refine sxq_next ?_
                refine sxc_if rfl (fun h1063 => ?_) (fun h1063 => ?_)
                · refine sxc_seq ?_
                  refine sxc_region ?_
                  refine sxo_assign rfl rfl rfl ?_
                  refine sxo_assign rfl rfl rfl ?_
                  refine sxo_nil ?_
                  refine sxq_next ?_
                  refine sxc_ret ?_
                  refine sxq_blkR ?_
                  refine sxq_thenR ?_
                  refine sxq_thenR ?_
                  refine sxq_blkR ?_
                  refine sxq_blkR ?_
                  refine sxq_thenR ?_
                  refine sxq_thenR ?_
                  refine sxq_blkR ?_
                  refine sxq_thenR ?_
                  exact sxq_doneP () (res2 rfl rfl rfl)
                · refine sxc_skip ?_
                  refine sxq_blkN ?_
                  refine sxq_next ?_
                  refine sxc_region ?_
                  refine sxo_add rfl rfl rfl rfl ?_
                  refine sxo_move rfl rfl rfl ?_
                  refine sxo_nil ?_
                  exact sxq_againP (iadd .i64 x1016 1, ()) (hB := (.cons 0 rfl .nil)) (hF := (fk_cons 0 rfl (fk_cons 1 rfl (fk_cons 2 rfl fk_nil))))
            · refine sxc_exit ?_
              refine sxq_thenX ?_
              refine sxq_thenX ?_
              refine sxq_blkX ?_
              refine sxq_blkN ?_
              exact sxq_meetP ((), ()) (hF := (fk_cons 0 rfl fk_nil))
          · rintro ⟨_, _⟩
            try dsimp only
            refine sxc_region ?_
            refine sxo_add rfl rfl rfl rfl ?_
            refine sxo_move rfl rfl rfl ?_
            refine sxo_nil ?_
            exact sxq_againP (iadd .i64 x729 1, ()) (hF := (fk_cons 0 rfl fk_nil))
        · refine sxc_exit ?_
          refine sxq_thenX ?_
          refine sxq_thenX ?_
          refine sxq_blkX ?_
          exact sxq_meetP ((), ())
      · rintro ⟨_, _⟩
        try dsimp only
        refine sxc_seq ?_
        refine sxc_region ?_
        refine sxo_assign rfl rfl rfl ?_
        refine sxo_assign rfl rfl rfl ?_
        refine sxo_nil ?_
        refine sxq_next ?_
        refine sxc_ret ?_
        exact sxq_doneP () (res2 rfl rfl rfl)

theorem C_elias_Check (F : Nat) (x1 : Int) (x2 : List Int) (a3 : Option Addr) (c4 : Nat) (x5 : Int) (r : Int) (hm : M_elias_Check F x1 x2 x5 = some r) :
    Pure Try.prog 69 [.agg #[.int .i64 x1, .slice a3 x2.length c4], .int .i64 x5] [Sl (eI .u8) 1 (.slice a3 x2.length c4) x2] Unit (fun _ => .int .i64 r) (fun _ => []) (fun _ => []) := by
  refine pure_of Try.func69 rfl Try.ntmps69 rfl hm (fun w => ?_)
  refine sxc_env (l' := [(0, .agg #[.int .i64 x1, .slice a3 x2.length c4]), (1, .int .i64 x5)]) rfl ?_
  refine sxc_seq ?_
  refine sxc_region ?_
  refine sxo_box rfl rfl rfl (fun g6 => ?_)
  refine sxo_assign rfl rfl rfl ?_
  refine sxo_nil ?_
  refine sxq_next ?_
  refine sxc_seq ?_
  refine sxc_region ?_
  refine sxo_loadB (i := 0) rfl rfl tf25 rfl rfl (by simp) rfl rfl ?_
  refine sxo_call ent35 rfl rfl rfl (fun x7 e7 => C_bits_Check F x1 x2 a3 c4 x7 e7) (.consF 0 rfl .nil) (fun x7 e7 => ?_)
  intro _
  refine sxo_assign rfl rfl rfl ?_
  refine sxo_nil ?_
  refine sxq_next ?_
  refine sxc_join (fun ((x13, _) : (Int × Unit)) => [(5, .int .i64 x13)]) (fun ((x13, _) : (Int × Unit)) => []) (fun ((x13, _) : (Int × Unit)) => []) (fun ((x13, _) : (Int × Unit)) => []) (fun ((x13, _) : (Int × Unit)) => M_elias_Check_j2 F x13) ?_ ?_
  · refine sxc_seq ?_
    refine sxc_region ?_
    refine sxo_move rfl rfl rfl ?_
    refine sxo_eql rfl rfl rfl rfl ?_
    refine sxo_move rfl rfl rfl ?_
    refine sxo_join 9 (fun ((x16, _) : (Bool × Unit)) => [(5, .int .i64 x7), (19, .bool x16)]) (fun ((x16, _) : (Bool × Unit)) => []) (fun ((x16, _) : (Bool × Unit)) => []) (fun ((x16, _) : (Bool × Unit)) => []) (fun ((x16, _) : (Bool × Unit)) => M_elias_Check_j3 F x7 x16) ?_ ?_
    · refine sxo_take (os := _) rfl ?_
      refine sxo_if (fun h14 => ?_) (fun h14 => ?_)
      · refine sxo_isT (k := 10) rfl h14 ?_
        refine sxo_move rfl rfl rfl ?_
        refine sxo_lss rfl rfl rfl rfl ?_
        refine sxo_move rfl rfl rfl ?_
        refine sxo_case 5 (decide (x5 < 0)) [(5, .int .i64 x7), (10, .bool true), (18, .bool ((decide (x5 < 0)) || (decide (x1 < x5))))] (fun h18 => ?_) (fun h18 => ?_) ?_
        · refine sxo_take (os := _) rfl ?_
          refine sxo_isT (k := 13) rfl h18 ?_
          refine sxo_skip rfl rfl rfl ?_
          refine sxo_skip rfl rfl rfl ?_
          refine sxo_skip rfl rfl rfl ?_
          refine sxo_skip rfl rfl rfl ?_
          refine sxo_pick (b := true) rfl rfl rfl rfl ?_
          refine sxo_again (d := 18) (v := .bool ((decide (x5 < 0)) || (decide (x1 < x5)))) rfl (by rw [h18]; simp only [Bool.true_or]) ?_
          refine sxo_nil ?_
          exact sxq_case (lk_cons rfl (lk_cons rfl (lk_cons rfl lk_nil)))
        · refine sxo_take (os := _) rfl ?_
          refine sxo_isF (k := 13) rfl h18 ?_
          refine sxo_move rfl rfl rfl ?_
          refine sxo_fieldAddr rfl rfl ff25_0 rfl ?_
          refine sxo_loadB (i := 0) rfl rfl tf3 rfl rfl (fun _ => rfl) rfl rfl ?_
          refine sxo_gtr rfl rfl rfl rfl ?_
          refine sxo_pick (b := false) rfl rfl rfl rfl ?_
          refine sxo_again (d := 18) (v := .bool ((decide (x5 < 0)) || (decide (x1 < x5)))) rfl (by rw [h18]; simp only [Bool.false_or]) ?_
          refine sxo_nil ?_
          exact sxq_case (lk_cons rfl (lk_cons rfl (lk_cons rfl lk_nil)))
        refine sxo_take (os := _) rfl ?_
        refine sxo_pick (b := true) rfl rfl rfl rfl ?_
        refine sxo_nil ?_
        exact sxq_meetP (((decide (x5 < 0)) || (decide (x1 < x5))), ())
      · refine sxo_isF (k := 10) rfl h14 ?_
        refine sxo_skip rfl rfl rfl ?_
        refine sxo_skip rfl rfl rfl ?_
        refine sxo_skip rfl rfl rfl ?_
        refine sxo_skip rfl rfl rfl ?_
        refine sxo_skip rfl rfl rfl ?_
        refine sxo_skip rfl rfl rfl ?_
        refine sxo_skip rfl rfl rfl ?_
        refine sxo_skip rfl rfl rfl ?_
        refine sxo_pick (b := false) rfl rfl rfl rfl ?_
        refine sxo_nil ?_
        exact sxq_meetP (false, ())
    · rintro ⟨x16, _⟩
      try dsimp only
      refine sxo_take (os := _) rfl ?_
      refine sxo_nil ?_
      refine sxq_next ?_
      refine sxc_if rfl (fun h17 => ?_) (fun h17 => ?_)
      · refine sxc_region ?_
        refine sxo_assign rfl rfl rfl ?_
        refine sxo_nil ?_
        exact sxq_meetP (3, ())
      · refine sxc_skip ?_
        exact sxq_meetP (x7, ())
  · rintro ⟨x13, _⟩
    try dsimp only
    refine sxc_seq ?_
    refine sxc_region ?_
    refine sxo_move rfl rfl rfl ?_
    refine sxo_assign rfl rfl rfl ?_
    refine sxo_nil ?_
    refine sxq_next ?_
    refine sxc_ret ?_
    exact sxq_doneP () (res1 rfl rfl)

theorem C_kraft_Sign (F : Nat) (x1 : List Int) (a2 : Option Addr) (c3 : Nat) (x4 : Int) (x5 : List Int) (a6 : Option Addr) (c7 : Nat) (x8 : Int) (r : (Int × Int × Int)) (hm : M_kraft_Sign F x1 x4 x5 x8 = some r) :
    Pure Try.prog 47 [.slice a2 x1.length c3, .agg #[.int .i64 x4, .slice a6 x5.length c7], .int .i64 x8] [Sl (eI .i64) 1 (.slice a2 x1.length c3) x1, Sl (eI .u8) 1 (.slice a6 x5.length c7) x5] Unit (fun _ => .tuple #[.int .i64 r.1, .int .i64 r.2.1, .int .i64 r.2.2]) (fun _ => []) (fun _ => []) := by
  refine pure_of Try.func47 rfl Try.ntmps47 rfl hm (fun w => ?_)
  refine sxc_env (l' := [(0, .slice a2 x1.length c3), (1, .agg #[.int .i64 x4, .slice a6 x5.length c7]), (2, .int .i64 x8)]) rfl ?_
  refine sxc_seq ?_
  refine sxc_region ?_
  refine sxo_box rfl rfl rfl (fun g9 => ?_)
  refine sxo_assign rfl rfl rfl ?_
  refine sxo_assign rfl rfl rfl ?_
  refine sxo_assign rfl rfl rfl ?_
  refine sxo_nil ?_
  refine sxq_next ?_
  refine sxc_seq ?_
  refine sxc_region ?_
  refine sxo_move rfl rfl rfl ?_
  refine sxo_call ent33 rfl rfl rfl (fun x10 e10 => C_kraft_Codes F x1 a2 c3 x10 e10) (.consF 0 rfl .nil) (fun x10 e10 => ?_)
  rintro ⟨a11, c12⟩
  refine sxo_move rfl rfl rfl ?_
  refine sxo_extract rfl rfl rfl rfl ?_
  refine sxo_extract rfl rfl rfl rfl ?_
  refine sxo_assign rfl rfl rfl ?_
  refine sxo_assign rfl rfl rfl ?_
  refine sxo_nil ?_
  refine sxq_next ?_
  refine sxc_join (fun ((x15, _) : (Int × Unit)) => [(2, .int .i64 x8), (4, .pointer (some ⟨g9, 0, none⟩)), (9, .slice a11 x10.1.length c12.1), (10, .int .i64 x15)]) (fun ((x15, _) : (Int × Unit)) => [⟨g9, 25, [.int .i64 x4, .slice a6 x5.length c7]⟩]) (fun ((x15, _) : (Int × Unit)) => [RoN eN25 rN25 25 2 (.slice a11 x10.1.length c12.1) x10.1 c12.2 []]) (fun ((x15, _) : (Int × Unit)) => [Sl (eI .u8) 1 (.slice a6 x5.length c7) x5]) (fun ((x15, _) : (Int × Unit)) => M_kraft_Sign_j1 F x4 x5 x8 x10 x15) ?_ ?_
  · refine sxc_seq ?_
    refine sxc_region ?_
    refine sxo_move rfl rfl rfl ?_
    refine sxo_eql rfl rfl rfl rfl ?_
    refine sxo_nil ?_
    refine sxq_next ?_
    refine sxc_if rfl (fun h20 => ?_) (fun h20 => ?_)
    · refine sxc_region ?_
      refine sxo_loadB (i := 0) rfl rfl tf25 rfl rfl (by simp) rfl rfl ?_
      refine sxo_move rfl rfl rfl ?_
      refine sxo_call ent69 rfl rfl rfl (fun x19 e19 => C_elias_Check F x4 x5 a6 c7 x8 x19 e19) (.consF 1 rfl .nil) (fun x19 e19 => ?_)
      intro _
      refine sxo_assign rfl rfl rfl ?_
      refine sxo_nil ?_
      exact sxq_meetP (x19, ()) (hB := (.cons 0 rfl .nil)) (hR := (.cons 0 rfl .nil)) (hF := (fk_cons 1 rfl fk_nil))
    · refine sxc_skip ?_
      exact sxq_meetP (x10.2, ()) (hB := (.cons 0 rfl .nil)) (hR := (.cons 0 rfl .nil)) (hF := (fk_cons 1 rfl fk_nil))
  · rintro ⟨x15, _⟩
    try dsimp only
    refine sxc_seq ?_
    refine sxc_seq ?_
    refine sxc_region ?_
    refine sxo_move rfl rfl rfl ?_
    refine sxo_neq rfl rfl rfl rfl ?_
    refine sxo_nil ?_
    refine sxq_next ?_
    refine sxc_if rfl (fun h18 => ?_) (fun h18 => ?_)
    · refine sxc_seq ?_
      refine sxc_region ?_
      refine sxo_move rfl rfl rfl ?_
      refine sxo_assign rfl rfl rfl ?_
      refine sxo_assign rfl rfl rfl ?_
      refine sxo_assign rfl rfl rfl ?_
      refine sxo_nil ?_
      refine sxq_next ?_
      refine sxc_ret ?_
      refine sxq_thenR ?_
      exact sxq_doneP () (res3 rfl rfl rfl rfl)
    · refine sxc_skip ?_
      refine sxq_next ?_
      refine sxc_seq ?_
      refine sxc_region ?_
      refine sxo_move rfl rfl rfl ?_
      refine sxo_loadB (i := 0) rfl rfl tf25 rfl rfl (by simp) rfl rfl ?_
      refine sxo_move rfl rfl rfl ?_
      refine sxo_call ent36 rfl rfl rfl (fun x17 e17 => C_kraft_Found F x10.1 a11 c12 x4 x5 a6 c7 x8 x17 e17) (.consG 0 rfl (nest_sl rN25_in) (.consF 0 rfl .nil)) (fun x17 e17 => ?_)
      intro _
      refine sxo_extract rfl rfl rfl rfl ?_
      refine sxo_extract rfl rfl rfl rfl ?_
      refine sxo_extract rfl rfl rfl rfl ?_
      refine sxo_assign rfl rfl rfl ?_
      refine sxo_assign rfl rfl rfl ?_
      refine sxo_assign rfl rfl rfl ?_
      refine sxo_nil ?_
      refine sxq_next ?_
      refine sxc_ret ?_
      exact sxq_doneP () (res3 rfl rfl rfl rfl)

set_option maxHeartbeats 4000000 in
theorem C_L_kraftBegun (F : Nat)  (r : Bool) (hm : M_L_kraftBegun F  = some r) :
    Pure Try.prog 22 [] [] Unit (fun _ => .bool r) (fun _ => []) (fun _ => []) := by
  refine pure_of Try.func22 rfl Try.ntmps22 rfl hm (fun w => ?_)
  refine sxc_env (l' := []) rfl ?_
  refine sxc_seq ?_
  refine sxc_region ?_
  refine sxo_assign rfl rfl rfl ?_
  refine sxo_nil ?_
  refine sxq_next ?_
  refine sxc_seq ?_
  refine sxc_region ?_
  refine sxo_slit (vs := [.int .i64 2, .int .i64 0, .int .i64 1, .int .i64 3, .int .i64 3]) (ys := ([2, 0, 1, 3, 3] : List Int)) (eI_ok .i64) (by decide) rfl Try.underlying22 tf3 rfl rfl rfl rfl rfl (by decide) (fun a1 c2 => ?_)
  refine sxo_assign rfl rfl rfl ?_
  refine sxo_nil ?_
  refine sxq_next ?_
  refine sxc_seq ?_
  refine sxc_region ?_
  refine sxo_move rfl rfl rfl ?_
  refine sxo_call ent23 rfl rfl rfl (fun x3 e3 => C_kraft_Room F ([2, 0, 1, 3, 3] : List Int) a1 c2 x3 e3) (.consR 0 (Ro (eI .i64) 3 1 (.slice a1 ([2, 0, 1, 3, 3] : List Int).length c2) ([2, 0, 1, 3, 3] : List Int)) rfl .nil) (fun x3 e3 => ?_)
  intro _
  refine sxo_move rfl rfl rfl ?_
  refine sxo_extract rfl rfl rfl rfl ?_
  refine sxo_extract rfl rfl rfl rfl ?_
  refine sxo_assign rfl rfl rfl ?_
  refine sxo_assign rfl rfl rfl ?_
  refine sxo_nil ?_
  refine sxq_next ?_
  refine sxc_seq ?_
  refine sxc_region ?_
  refine sxo_move rfl rfl rfl ?_
  refine sxo_call ent33 rfl rfl rfl (fun x4 e4 => C_kraft_Codes F ([2, 0, 1, 3, 3] : List Int) a1 c2 x4 e4) (.consR 0 (Ro (eI .i64) 3 1 (.slice a1 ([2, 0, 1, 3, 3] : List Int).length c2) ([2, 0, 1, 3, 3] : List Int)) rfl .nil) (fun x4 e4 => ?_)
  rintro ⟨a5, c6⟩
  refine sxo_move rfl rfl rfl ?_
  refine sxo_extract rfl rfl rfl rfl ?_
  refine sxo_extract rfl rfl rfl rfl ?_
  refine sxo_assign rfl rfl rfl ?_
  refine sxo_assign rfl rfl rfl ?_
  refine sxo_nil ?_
  refine sxq_next ?_
  refine sxc_seq ?_
  refine sxc_seq ?_
  refine sxc_region ?_
  refine sxo_move rfl rfl rfl ?_
  refine sxo_neq rfl rfl rfl rfl ?_
  refine sxo_move rfl rfl rfl ?_
  refine sxo_case 3 ((x3.2 : Int) != 0) [(1, .slice a1 ([2, 0, 1, 3, 3] : List Int).length c2), (2, .int .i64 x3.1), (4, .slice a5 x4.1.length c6.1), (32, .bool (((x3.2 : Int) != 0) || ((x4.2 : Int) != 0)))] (fun h10 => ?_) (fun h10 => ?_) ?_
  · refine sxo_take (os := _) rfl ?_
    refine sxo_isT (k := 29) rfl h10 ?_
    refine sxo_skip rfl rfl rfl ?_
    refine sxo_skip rfl rfl rfl ?_
    refine sxo_pick (b := true) rfl rfl rfl rfl ?_
    refine sxo_again (d := 32) (v := .bool (((x3.2 : Int) != 0) || ((x4.2 : Int) != 0))) rfl (by rw [h10]; simp only [Bool.true_or]) ?_
    refine sxo_nil ?_
    exact sxq_case (lk_cons rfl (lk_cons rfl (lk_cons rfl (lk_cons rfl lk_nil))))
  · refine sxo_take (os := _) rfl ?_
    refine sxo_isF (k := 29) rfl h10 ?_
    refine sxo_move rfl rfl rfl ?_
    refine sxo_neq rfl rfl rfl rfl ?_
    refine sxo_pick (b := false) rfl rfl rfl rfl ?_
    refine sxo_again (d := 32) (v := .bool (((x3.2 : Int) != 0) || ((x4.2 : Int) != 0))) rfl (by rw [h10]; simp only [Bool.false_or]) ?_
    refine sxo_nil ?_
    exact sxq_case (lk_cons rfl (lk_cons rfl (lk_cons rfl (lk_cons rfl lk_nil))))
  refine sxo_take (os := _) rfl ?_
  refine sxo_move rfl rfl rfl ?_
  refine sxo_case 4 (((x3.2 : Int) != 0) || ((x4.2 : Int) != 0)) [(1, .slice a1 ([2, 0, 1, 3, 3] : List Int).length c2), (2, .int .i64 x3.1), (4, .slice a5 x4.1.length c6.1), (37, .bool ((((x3.2 : Int) != 0) || ((x4.2 : Int) != 0)) || (((x4.1.length : Int) : Int) != 5)))] (fun h11 => ?_) (fun h11 => ?_) ?_
  · refine sxo_take (os := _) rfl ?_
    refine sxo_isT (k := 33) rfl h11 ?_
    refine sxo_skip rfl rfl rfl ?_
    refine sxo_skip rfl rfl rfl ?_
    refine sxo_skip rfl rfl rfl ?_
    refine sxo_pick (b := true) rfl rfl rfl rfl ?_
    refine sxo_again (d := 37) (v := .bool ((((x3.2 : Int) != 0) || ((x4.2 : Int) != 0)) || (((x4.1.length : Int) : Int) != 5))) rfl (by rw [h11]; simp only [Bool.true_or]) ?_
    refine sxo_nil ?_
    exact sxq_case (lk_cons rfl (lk_cons rfl (lk_cons rfl (lk_cons rfl lk_nil))))
  · refine sxo_take (os := _) rfl ?_
    refine sxo_isF (k := 33) rfl h11 ?_
    refine sxo_move rfl rfl rfl ?_
    refine sxo_len rfl Try.underlying55 rfl rfl ?_
    refine sxo_neq rfl rfl rfl rfl ?_
    refine sxo_pick (b := false) rfl rfl rfl rfl ?_
    refine sxo_again (d := 37) (v := .bool ((((x3.2 : Int) != 0) || ((x4.2 : Int) != 0)) || (((x4.1.length : Int) : Int) != 5))) rfl (by rw [h11]; simp only [Bool.false_or]) ?_
    refine sxo_nil ?_
    exact sxq_case (lk_cons rfl (lk_cons rfl (lk_cons rfl (lk_cons rfl lk_nil))))
  refine sxo_take (os := _) rfl ?_
  refine sxo_nil ?_
  refine sxq_next ?_
  refine sxc_if rfl (fun h87 => ?_) (fun h87 => ?_)
  · refine sxc_seq ?_
    refine sxc_region ?_
    refine sxo_assign rfl rfl rfl ?_
    refine sxo_nil ?_
    refine sxq_next ?_
    refine sxc_ret ?_
    refine sxq_thenR ?_
    exact sxq_doneP () (res1 rfl rfl)
  · refine sxc_skip ?_
    refine sxq_next ?_
    refine sxc_seq ?_
    refine sxc_region ?_
    refine sxo_move rfl rfl rfl ?_
    refine sxo_call ent46 rfl rfl rfl (fun x12 e12 => C_kraft_Apart F x4.1 a5 c6 x12 e12) (.consG 0 rfl (nest_sl rN25_in) .nil) (fun x12 e12 => ?_)
    intro _
    refine sxo_move rfl rfl rfl ?_
    refine sxo_extract rfl rfl rfl rfl ?_
    refine sxo_extract rfl rfl rfl rfl ?_
    refine sxo_assign rfl rfl rfl ?_
    refine sxo_assign rfl rfl rfl ?_
    refine sxo_nil ?_
    refine sxq_next ?_
    refine sxc_seq ?_
    refine sxc_region ?_
    refine sxo_move rfl rfl rfl ?_
    refine sxo_slit (vs := [.int .u8 96]) (ys := ([96] : List Int)) (eI_ok .u8) (by decide) rfl Try.underlying23 tf5 rfl rfl rfl rfl rfl (by decide) (fun a13 c14 => ?_)
    refine sxo_build (cells := [.int .i64 4, .slice a13 ([96] : List Int).length c14]) rfl st25 rfl (by kernel_rfl) rfl ?_
    refine sxo_call ent47 rfl rfl rfl (fun x15 e15 => C_kraft_Sign F ([2, 0, 1, 3, 3] : List Int) a1 c2 4 ([96] : List Int) a13 c14 1 x15 e15) (.consR 2 (Ro (eI .i64) 3 1 (.slice a1 ([2, 0, 1, 3, 3] : List Int).length c2) ([2, 0, 1, 3, 3] : List Int)) rfl (.consR 0 (Ro (eI .u8) 5 1 (.slice a13 ([96] : List Int).length c14) ([96] : List Int)) rfl .nil)) (fun x15 e15 => ?_)
    intro _
    refine sxo_move rfl rfl rfl ?_
    refine sxo_extract rfl rfl rfl rfl ?_
    refine sxo_extract rfl rfl rfl rfl ?_
    refine sxo_extract rfl rfl rfl rfl ?_
    refine sxo_assign rfl rfl rfl ?_
    refine sxo_assign rfl rfl rfl ?_
    refine sxo_assign rfl rfl rfl ?_
    refine sxo_nil ?_
    refine sxq_next ?_
    refine sxc_seq ?_
    refine sxc_region ?_
    refine sxo_slit (vs := [.int .i64 1, .int .i64 1, .int .i64 1]) (ys := ([1, 1, 1] : List Int)) (eI_ok .i64) (by decide) rfl Try.underlying22 tf3 rfl rfl rfl rfl rfl (by decide) (fun a16 c17 => ?_)
    refine sxo_call ent33 rfl rfl rfl (fun x18 e18 => C_kraft_Codes F ([1, 1, 1] : List Int) a16 c17 x18 e18) (.consR 0 (Ro (eI .i64) 3 1 (.slice a16 ([1, 1, 1] : List Int).length c17) ([1, 1, 1] : List Int)) rfl .nil) (fun x18 e18 => ?_)
    rintro ⟨a19, c20⟩
    refine sxo_move rfl rfl rfl ?_
    refine sxo_extract rfl rfl rfl rfl ?_
    refine sxo_extract rfl rfl rfl rfl ?_
    refine sxo_assign rfl rfl rfl ?_
    refine sxo_assign rfl rfl rfl ?_
    refine sxo_nil ?_
    refine sxq_next ?_
    refine sxc_seq ?_
    refine sxc_region ?_
    refine sxo_slit (vs := [.int .i64 2]) (ys := ([2] : List Int)) (eI_ok .i64) (by decide) rfl Try.underlying22 tf3 rfl rfl rfl rfl rfl (by decide) (fun a21 c22 => ?_)
    refine sxo_slit (vs := [.int .u8 128]) (ys := ([128] : List Int)) (eI_ok .u8) (by decide) rfl Try.underlying23 tf5 rfl rfl rfl rfl rfl (by decide) (fun a23 c24 => ?_)
    refine sxo_build (cells := [.int .i64 1, .slice a23 ([128] : List Int).length c24]) rfl st25 rfl (by kernel_rfl) rfl ?_
    refine sxo_call ent47 rfl rfl rfl (fun x25 e25 => C_kraft_Sign F ([2] : List Int) a21 c22 1 ([128] : List Int) a23 c24 0 x25 e25) (.consR 1 (Ro (eI .i64) 3 1 (.slice a21 ([2] : List Int).length c22) ([2] : List Int)) rfl (.consR 0 (Ro (eI .u8) 5 1 (.slice a23 ([128] : List Int).length c24) ([128] : List Int)) rfl .nil)) (fun x25 e25 => ?_)
    intro _
    refine sxo_move rfl rfl rfl ?_
    refine sxo_extract rfl rfl rfl rfl ?_
    refine sxo_extract rfl rfl rfl rfl ?_
    refine sxo_extract rfl rfl rfl rfl ?_
    refine sxo_assign rfl rfl rfl ?_
    refine sxo_assign rfl rfl rfl ?_
    refine sxo_assign rfl rfl rfl ?_
    refine sxo_nil ?_
    refine sxq_next ?_
    refine sxc_seq ?_
    refine sxc_region ?_
    refine sxo_move rfl rfl rfl ?_
    refine sxo_eql rfl rfl rfl rfl ?_
    refine sxo_move rfl rfl rfl ?_
    refine sxo_join 7 (fun ((x35, _) : (Bool × Unit)) => [(4, .slice a5 x4.1.length c6.1), (6, .bool x12.1), (7, .int .i64 x12.2), (8, .int .i64 x15.1), (9, .int .i64 x15.2.1), (10, .int .i64 x15.2.2), (12, .int .i64 x18.2), (15, .int .i64 x25.2.2), (73, .bool x35)]) (fun ((x35, _) : (Bool × Unit)) => []) (fun ((x35, _) : (Bool × Unit)) => [RoN eN25 rN25 25 2 (.slice a5 x4.1.length c6.1) x4.1 c6.2 []]) (fun ((x35, _) : (Bool × Unit)) => []) (fun ((x35, _) : (Bool × Unit)) => M_L_kraftBegun_j1 F x4 x12 x15 x18 x25 x35) ?_ ?_
    · refine sxo_take (os := _) rfl ?_
      refine sxo_if (fun h26 => ?_) (fun h26 => ?_)
      · refine sxo_isT (k := 66) rfl h26 ?_
        refine sxo_move rfl rfl rfl ?_
        refine sxo_idxP (j := 5) rfl Try.underlying55 tf25 rfl rfl rfl rfl (fun x79 e79 g80 h81 g82 h83 => ?_)
        refine sxo_openN (i := 5) rfl h81 (List.not_mem_nil) ?_
        refine sxo_loadN0 (j := 1) (p := (x79, g80)) eN25_ok rfl rfl tf25 rfl h83 h81 rfl (by simp) rfl rfl ?_
        refine sxo_slit (vs := [.int .u8 128]) (ys := ([128] : List Int)) (eI_ok .u8) (by decide) rfl Try.underlying23 tf5 rfl rfl rfl rfl rfl (by decide) (fun a84 c85 => ?_)
        refine sxo_build (cells := [.int .i64 2, .slice a84 ([128] : List Int).length c85]) rfl st25 rfl (by kernel_rfl) rfl ?_
        refine sxo_call ent21 rfl rfl rfl (fun x86 e86 => C_R_SameBits F x79.1 x79.2 g80.1 g80.2 2 ([128] : List Int) a84 c85 x86 e86) (.consR 1 (Ro (eI .u8) 5 1 (.slice g80.1 x79.2.length g80.2) x79.2) rfl (.consR 0 (Ro (eI .u8) 5 1 (.slice a84 ([128] : List Int).length c85) ([128] : List Int)) rfl .nil)) (fun x86 e86 => ?_)
        intro _
        refine sxo_pick (b := true) rfl rfl rfl rfl ?_
        refine sxo_nil ?_
        refine sxq_closeN (rin := rN25) (p := (x79, g80)) (i := 1) (k := 0) (.cons 1 rfl .nil) rfl rfl h81 ?_
        exact sxq_meetP (x86, ()) (hR := (.cons 0 rfl .nil))
      · refine sxo_isF (k := 66) rfl h26 ?_
        refine sxo_skip rfl rfl rfl ?_
        refine sxo_skip rfl rfl rfl ?_
        refine sxo_skip rfl rfl rfl ?_
        refine sxo_skip rfl rfl rfl ?_
        refine sxo_skip rfl rfl rfl ?_
        refine sxo_skip rfl rfl rfl ?_
        refine sxo_pick (b := false) rfl rfl rfl rfl ?_
        refine sxo_nil ?_
        exact sxq_meetP (false, ()) (hR := (.cons 5 rfl .nil))
    · rintro ⟨x35, _⟩
      try dsimp only
      refine sxo_take (os := _) rfl ?_
      refine sxo_move rfl rfl rfl ?_
      refine sxo_join 7 (fun ((x45, _) : (Bool × Unit)) => [(4, .slice a5 x4.1.length c6.1), (6, .bool x12.1), (7, .int .i64 x12.2), (8, .int .i64 x15.1), (9, .int .i64 x15.2.1), (10, .int .i64 x15.2.2), (12, .int .i64 x18.2), (15, .int .i64 x25.2.2), (81, .bool x45)]) (fun ((x45, _) : (Bool × Unit)) => []) (fun ((x45, _) : (Bool × Unit)) => [RoN eN25 rN25 25 2 (.slice a5 x4.1.length c6.1) x4.1 c6.2 []]) (fun ((x45, _) : (Bool × Unit)) => []) (fun ((x45, _) : (Bool × Unit)) => M_L_kraftBegun_j2 F x4 x12 x15 x18 x25 x45) ?_ ?_
      · refine sxo_take (os := _) rfl ?_
        refine sxo_if (fun h36 => ?_) (fun h36 => ?_)
        · refine sxo_isT (k := 74) rfl h36 ?_
          refine sxo_move rfl rfl rfl ?_
          refine sxo_idxP (j := 0) rfl Try.underlying55 tf25 rfl rfl rfl rfl (fun x71 e71 g72 h73 g74 h75 => ?_)
          refine sxo_openN (i := 0) rfl h73 (List.not_mem_nil) ?_
          refine sxo_loadN0 (j := 1) (p := (x71, g72)) eN25_ok rfl rfl tf25 rfl h75 h73 rfl (by simp) rfl rfl ?_
          refine sxo_slit (vs := [.int .u8 0]) (ys := ([0] : List Int)) (eI_ok .u8) (by decide) rfl Try.underlying23 tf5 rfl rfl rfl rfl rfl (by decide) (fun a76 c77 => ?_)
          refine sxo_build (cells := [.int .i64 1, .slice a76 ([0] : List Int).length c77]) rfl st25 rfl (by kernel_rfl) rfl ?_
          refine sxo_call ent21 rfl rfl rfl (fun x78 e78 => C_R_SameBits F x71.1 x71.2 g72.1 g72.2 1 ([0] : List Int) a76 c77 x78 e78) (.consR 1 (Ro (eI .u8) 5 1 (.slice g72.1 x71.2.length g72.2) x71.2) rfl (.consR 0 (Ro (eI .u8) 5 1 (.slice a76 ([0] : List Int).length c77) ([0] : List Int)) rfl .nil)) (fun x78 e78 => ?_)
          intro _
          refine sxo_pick (b := true) rfl rfl rfl rfl ?_
          refine sxo_nil ?_
          refine sxq_closeN (rin := rN25) (p := (x71, g72)) (i := 1) (k := 0) (.cons 1 rfl .nil) rfl rfl h73 ?_
          exact sxq_meetP (x78, ()) (hR := (.cons 0 rfl .nil))
        · refine sxo_isF (k := 74) rfl h36 ?_
          refine sxo_skip rfl rfl rfl ?_
          refine sxo_skip rfl rfl rfl ?_
          refine sxo_skip rfl rfl rfl ?_
          refine sxo_skip rfl rfl rfl ?_
          refine sxo_skip rfl rfl rfl ?_
          refine sxo_skip rfl rfl rfl ?_
          refine sxo_pick (b := false) rfl rfl rfl rfl ?_
          refine sxo_nil ?_
          exact sxq_meetP (false, ()) (hR := (.cons 0 rfl .nil))
      · rintro ⟨x45, _⟩
        try dsimp only
        refine sxo_take (os := _) rfl ?_
        refine sxo_move rfl rfl rfl ?_
        refine sxo_join 7 (fun ((x55, _) : (Bool × Unit)) => [(6, .bool x12.1), (7, .int .i64 x12.2), (8, .int .i64 x15.1), (9, .int .i64 x15.2.1), (10, .int .i64 x15.2.2), (12, .int .i64 x18.2), (15, .int .i64 x25.2.2), (89, .bool x55)]) (fun ((x55, _) : (Bool × Unit)) => []) (fun ((x55, _) : (Bool × Unit)) => []) (fun ((x55, _) : (Bool × Unit)) => []) (fun ((x55, _) : (Bool × Unit)) => M_L_kraftBegun_j3 F x12 x15 x18 x25 x55) ?_ ?_
        · refine sxo_take (os := _) rfl ?_
          refine sxo_if (fun h46 => ?_) (fun h46 => ?_)
          · refine sxo_isT (k := 82) rfl h46 ?_
            refine sxo_move rfl rfl rfl ?_
            refine sxo_idxP (j := 0) rfl Try.underlying55 tf25 rfl rfl rfl rfl (fun x63 e63 g64 h65 g66 h67 => ?_)
            refine sxo_openN (i := 0) rfl h65 (List.not_mem_nil) ?_
            refine sxo_loadN0 (j := 1) (p := (x63, g64)) eN25_ok rfl rfl tf25 rfl h67 h65 rfl (by simp) rfl rfl ?_
            refine sxo_slit (vs := [.int .u8 224]) (ys := ([224] : List Int)) (eI_ok .u8) (by decide) rfl Try.underlying23 tf5 rfl rfl rfl rfl rfl (by decide) (fun a68 c69 => ?_)
            refine sxo_build (cells := [.int .i64 3, .slice a68 ([224] : List Int).length c69]) rfl st25 rfl (by kernel_rfl) rfl ?_
            refine sxo_call ent21 rfl rfl rfl (fun x70 e70 => C_R_SameBits F x63.1 x63.2 g64.1 g64.2 3 ([224] : List Int) a68 c69 x70 e70) (.consR 1 (Ro (eI .u8) 5 1 (.slice g64.1 x63.2.length g64.2) x63.2) rfl (.consR 0 (Ro (eI .u8) 5 1 (.slice a68 ([224] : List Int).length c69) ([224] : List Int)) rfl .nil)) (fun x70 e70 => ?_)
            intro _
            refine sxo_pick (b := true) rfl rfl rfl rfl ?_
            refine sxo_nil ?_
            refine sxq_closeN (rin := rN25) (p := (x63, g64)) (i := 1) (k := 0) (.cons 1 rfl .nil) rfl rfl h65 ?_
            exact sxq_meetP (x70, ())
          · refine sxo_isF (k := 82) rfl h46 ?_
            refine sxo_skip rfl rfl rfl ?_
            refine sxo_skip rfl rfl rfl ?_
            refine sxo_skip rfl rfl rfl ?_
            refine sxo_skip rfl rfl rfl ?_
            refine sxo_skip rfl rfl rfl ?_
            refine sxo_skip rfl rfl rfl ?_
            refine sxo_pick (b := false) rfl rfl rfl rfl ?_
            refine sxo_nil ?_
            exact sxq_meetP (false, ())
        · rintro ⟨x55, _⟩
          try dsimp only
          refine sxo_take (os := _) rfl ?_
          refine sxo_move rfl rfl rfl ?_
          refine sxo_case 2 x55 [(7, .int .i64 x12.2), (8, .int .i64 x15.1), (9, .int .i64 x15.2.1), (10, .int .i64 x15.2.2), (12, .int .i64 x18.2), (15, .int .i64 x25.2.2), (92, .bool (x55 && x12.1))] (fun h56 => ?_) (fun h56 => ?_) ?_
          · refine sxo_take (os := _) rfl ?_
            refine sxo_isT (k := 90) rfl h56 ?_
            refine sxo_move rfl rfl rfl ?_
            refine sxo_pick (b := true) rfl rfl rfl rfl ?_
            refine sxo_again (d := 92) (v := .bool (x55 && x12.1)) rfl (by rw [h56]; simp only [Bool.true_and]) ?_
            refine sxo_nil ?_
            exact sxq_case (lk_cons rfl (lk_cons rfl (lk_cons rfl (lk_cons rfl (lk_cons rfl (lk_cons rfl (lk_cons rfl lk_nil)))))))
          · refine sxo_take (os := _) rfl ?_
            refine sxo_isF (k := 90) rfl h56 ?_
            refine sxo_skip rfl rfl rfl ?_
            refine sxo_pick (b := false) rfl rfl rfl rfl ?_
            refine sxo_again (d := 92) (v := .bool (x55 && x12.1)) rfl (by rw [h56]; simp only [Bool.false_and]) ?_
            refine sxo_nil ?_
            exact sxq_case (lk_cons rfl (lk_cons rfl (lk_cons rfl (lk_cons rfl (lk_cons rfl (lk_cons rfl (lk_cons rfl lk_nil)))))))
          refine sxo_take (os := _) rfl ?_
          refine sxo_move rfl rfl rfl ?_
          refine sxo_case 3 (x55 && x12.1) [(8, .int .i64 x15.1), (9, .int .i64 x15.2.1), (10, .int .i64 x15.2.2), (12, .int .i64 x18.2), (15, .int .i64 x25.2.2), (96, .bool ((x55 && x12.1) && ((x12.2 : Int) == 0)))] (fun h57 => ?_) (fun h57 => ?_) ?_
          · refine sxo_take (os := _) rfl ?_
            refine sxo_isT (k := 93) rfl h57 ?_
            refine sxo_move rfl rfl rfl ?_
            refine sxo_eql rfl rfl rfl rfl ?_
            refine sxo_pick (b := true) rfl rfl rfl rfl ?_
            refine sxo_again (d := 96) (v := .bool ((x55 && x12.1) && ((x12.2 : Int) == 0))) rfl (by rw [h57]; simp only [Bool.true_and]) ?_
            refine sxo_nil ?_
            exact sxq_case (lk_cons rfl (lk_cons rfl (lk_cons rfl (lk_cons rfl (lk_cons rfl (lk_cons rfl lk_nil))))))
          · refine sxo_take (os := _) rfl ?_
            refine sxo_isF (k := 93) rfl h57 ?_
            refine sxo_skip rfl rfl rfl ?_
            refine sxo_skip rfl rfl rfl ?_
            refine sxo_pick (b := false) rfl rfl rfl rfl ?_
            refine sxo_again (d := 96) (v := .bool ((x55 && x12.1) && ((x12.2 : Int) == 0))) rfl (by rw [h57]; simp only [Bool.false_and]) ?_
            refine sxo_nil ?_
            exact sxq_case (lk_cons rfl (lk_cons rfl (lk_cons rfl (lk_cons rfl (lk_cons rfl (lk_cons rfl lk_nil))))))
          refine sxo_take (os := _) rfl ?_
          refine sxo_move rfl rfl rfl ?_
          refine sxo_case 3 ((x55 && x12.1) && ((x12.2 : Int) == 0)) [(9, .int .i64 x15.2.1), (10, .int .i64 x15.2.2), (12, .int .i64 x18.2), (15, .int .i64 x25.2.2), (100, .bool (((x55 && x12.1) && ((x12.2 : Int) == 0)) && ((x15.1 : Int) == 3)))] (fun h58 => ?_) (fun h58 => ?_) ?_
          · refine sxo_take (os := _) rfl ?_
            refine sxo_isT (k := 97) rfl h58 ?_
            refine sxo_move rfl rfl rfl ?_
            refine sxo_eql rfl rfl rfl rfl ?_
            refine sxo_pick (b := true) rfl rfl rfl rfl ?_
            refine sxo_again (d := 100) (v := .bool (((x55 && x12.1) && ((x12.2 : Int) == 0)) && ((x15.1 : Int) == 3))) rfl (by rw [h58]; simp only [Bool.true_and]) ?_
            refine sxo_nil ?_
            exact sxq_case (lk_cons rfl (lk_cons rfl (lk_cons rfl (lk_cons rfl (lk_cons rfl lk_nil)))))
          · refine sxo_take (os := _) rfl ?_
            refine sxo_isF (k := 97) rfl h58 ?_
            refine sxo_skip rfl rfl rfl ?_
            refine sxo_skip rfl rfl rfl ?_
            refine sxo_pick (b := false) rfl rfl rfl rfl ?_
            refine sxo_again (d := 100) (v := .bool (((x55 && x12.1) && ((x12.2 : Int) == 0)) && ((x15.1 : Int) == 3))) rfl (by rw [h58]; simp only [Bool.false_and]) ?_
            refine sxo_nil ?_
            exact sxq_case (lk_cons rfl (lk_cons rfl (lk_cons rfl (lk_cons rfl (lk_cons rfl lk_nil)))))
          refine sxo_take (os := _) rfl ?_
          refine sxo_move rfl rfl rfl ?_
          refine sxo_case 3 (((x55 && x12.1) && ((x12.2 : Int) == 0)) && ((x15.1 : Int) == 3)) [(10, .int .i64 x15.2.2), (12, .int .i64 x18.2), (15, .int .i64 x25.2.2), (104, .bool ((((x55 && x12.1) && ((x12.2 : Int) == 0)) && ((x15.1 : Int) == 3)) && ((x15.2.1 : Int) == 4)))] (fun h59 => ?_) (fun h59 => ?_) ?_
          · refine sxo_take (os := _) rfl ?_
            refine sxo_isT (k := 101) rfl h59 ?_
            refine sxo_move rfl rfl rfl ?_
            refine sxo_eql rfl rfl rfl rfl ?_
            refine sxo_pick (b := true) rfl rfl rfl rfl ?_
            refine sxo_again (d := 104) (v := .bool ((((x55 && x12.1) && ((x12.2 : Int) == 0)) && ((x15.1 : Int) == 3)) && ((x15.2.1 : Int) == 4))) rfl (by rw [h59]; simp only [Bool.true_and]) ?_
            refine sxo_nil ?_
            exact sxq_case (lk_cons rfl (lk_cons rfl (lk_cons rfl (lk_cons rfl lk_nil))))
          · refine sxo_take (os := _) rfl ?_
            refine sxo_isF (k := 101) rfl h59 ?_
            refine sxo_skip rfl rfl rfl ?_
            refine sxo_skip rfl rfl rfl ?_
            refine sxo_pick (b := false) rfl rfl rfl rfl ?_
            refine sxo_again (d := 104) (v := .bool ((((x55 && x12.1) && ((x12.2 : Int) == 0)) && ((x15.1 : Int) == 3)) && ((x15.2.1 : Int) == 4))) rfl (by rw [h59]; simp only [Bool.false_and]) ?_
            refine sxo_nil ?_
            exact sxq_case (lk_cons rfl (lk_cons rfl (lk_cons rfl (lk_cons rfl lk_nil))))
          refine sxo_take (os := _) rfl ?_
          refine sxo_move rfl rfl rfl ?_
          refine sxo_case 3 ((((x55 && x12.1) && ((x12.2 : Int) == 0)) && ((x15.1 : Int) == 3)) && ((x15.2.1 : Int) == 4)) [(12, .int .i64 x18.2), (15, .int .i64 x25.2.2), (108, .bool (((((x55 && x12.1) && ((x12.2 : Int) == 0)) && ((x15.1 : Int) == 3)) && ((x15.2.1 : Int) == 4)) && ((x15.2.2 : Int) == 0)))] (fun h60 => ?_) (fun h60 => ?_) ?_
          · refine sxo_take (os := _) rfl ?_
            refine sxo_isT (k := 105) rfl h60 ?_
            refine sxo_move rfl rfl rfl ?_
            refine sxo_eql rfl rfl rfl rfl ?_
            refine sxo_pick (b := true) rfl rfl rfl rfl ?_
            refine sxo_again (d := 108) (v := .bool (((((x55 && x12.1) && ((x12.2 : Int) == 0)) && ((x15.1 : Int) == 3)) && ((x15.2.1 : Int) == 4)) && ((x15.2.2 : Int) == 0))) rfl (by rw [h60]; simp only [Bool.true_and]) ?_
            refine sxo_nil ?_
            exact sxq_case (lk_cons rfl (lk_cons rfl (lk_cons rfl lk_nil)))
          · refine sxo_take (os := _) rfl ?_
            refine sxo_isF (k := 105) rfl h60 ?_
            refine sxo_skip rfl rfl rfl ?_
            refine sxo_skip rfl rfl rfl ?_
            refine sxo_pick (b := false) rfl rfl rfl rfl ?_
            refine sxo_again (d := 108) (v := .bool (((((x55 && x12.1) && ((x12.2 : Int) == 0)) && ((x15.1 : Int) == 3)) && ((x15.2.1 : Int) == 4)) && ((x15.2.2 : Int) == 0))) rfl (by rw [h60]; simp only [Bool.false_and]) ?_
            refine sxo_nil ?_
            exact sxq_case (lk_cons rfl (lk_cons rfl (lk_cons rfl lk_nil)))
          refine sxo_take (os := _) rfl ?_
          refine sxo_move rfl rfl rfl ?_
          refine sxo_case 3 (((((x55 && x12.1) && ((x12.2 : Int) == 0)) && ((x15.1 : Int) == 3)) && ((x15.2.1 : Int) == 4)) && ((x15.2.2 : Int) == 0)) [(15, .int .i64 x25.2.2), (112, .bool ((((((x55 && x12.1) && ((x12.2 : Int) == 0)) && ((x15.1 : Int) == 3)) && ((x15.2.1 : Int) == 4)) && ((x15.2.2 : Int) == 0)) && ((x18.2 : Int) == 8)))] (fun h61 => ?_) (fun h61 => ?_) ?_
          · refine sxo_take (os := _) rfl ?_
            refine sxo_isT (k := 109) rfl h61 ?_
            refine sxo_move rfl rfl rfl ?_
            refine sxo_eql rfl rfl rfl rfl ?_
            refine sxo_pick (b := true) rfl rfl rfl rfl ?_
            refine sxo_again (d := 112) (v := .bool ((((((x55 && x12.1) && ((x12.2 : Int) == 0)) && ((x15.1 : Int) == 3)) && ((x15.2.1 : Int) == 4)) && ((x15.2.2 : Int) == 0)) && ((x18.2 : Int) == 8))) rfl (by rw [h61]; simp only [Bool.true_and]) ?_
            refine sxo_nil ?_
            exact sxq_case (lk_cons rfl (lk_cons rfl lk_nil))
          · refine sxo_take (os := _) rfl ?_
            refine sxo_isF (k := 109) rfl h61 ?_
            refine sxo_skip rfl rfl rfl ?_
            refine sxo_skip rfl rfl rfl ?_
            refine sxo_pick (b := false) rfl rfl rfl rfl ?_
            refine sxo_again (d := 112) (v := .bool ((((((x55 && x12.1) && ((x12.2 : Int) == 0)) && ((x15.1 : Int) == 3)) && ((x15.2.1 : Int) == 4)) && ((x15.2.2 : Int) == 0)) && ((x18.2 : Int) == 8))) rfl (by rw [h61]; simp only [Bool.false_and]) ?_
            refine sxo_nil ?_
            exact sxq_case (lk_cons rfl (lk_cons rfl lk_nil))
          refine sxo_take (os := _) rfl ?_
          refine sxo_move rfl rfl rfl ?_
          refine sxo_case 3 ((((((x55 && x12.1) && ((x12.2 : Int) == 0)) && ((x15.1 : Int) == 3)) && ((x15.2.1 : Int) == 4)) && ((x15.2.2 : Int) == 0)) && ((x18.2 : Int) == 8)) [(116, .bool (((((((x55 && x12.1) && ((x12.2 : Int) == 0)) && ((x15.1 : Int) == 3)) && ((x15.2.1 : Int) == 4)) && ((x15.2.2 : Int) == 0)) && ((x18.2 : Int) == 8)) && ((x25.2.2 : Int) == 5)))] (fun h62 => ?_) (fun h62 => ?_) ?_
          · refine sxo_take (os := _) rfl ?_
            refine sxo_isT (k := 113) rfl h62 ?_
            refine sxo_move rfl rfl rfl ?_
            refine sxo_eql rfl rfl rfl rfl ?_
            refine sxo_pick (b := true) rfl rfl rfl rfl ?_
            refine sxo_again (d := 116) (v := .bool (((((((x55 && x12.1) && ((x12.2 : Int) == 0)) && ((x15.1 : Int) == 3)) && ((x15.2.1 : Int) == 4)) && ((x15.2.2 : Int) == 0)) && ((x18.2 : Int) == 8)) && ((x25.2.2 : Int) == 5))) rfl (by rw [h62]; simp only [Bool.true_and]) ?_
            refine sxo_nil ?_
            exact sxq_case (lk_cons rfl lk_nil)
          · refine sxo_take (os := _) rfl ?_
            refine sxo_isF (k := 113) rfl h62 ?_
            refine sxo_skip rfl rfl rfl ?_
            refine sxo_skip rfl rfl rfl ?_
            refine sxo_pick (b := false) rfl rfl rfl rfl ?_
            refine sxo_again (d := 116) (v := .bool (((((((x55 && x12.1) && ((x12.2 : Int) == 0)) && ((x15.1 : Int) == 3)) && ((x15.2.1 : Int) == 4)) && ((x15.2.2 : Int) == 0)) && ((x18.2 : Int) == 8)) && ((x25.2.2 : Int) == 5))) rfl (by rw [h62]; simp only [Bool.false_and]) ?_
            refine sxo_nil ?_
            exact sxq_case (lk_cons rfl lk_nil)
          refine sxo_take (os := _) rfl ?_
          refine sxo_assign rfl rfl rfl ?_
          refine sxo_nil ?_
          refine sxq_next ?_
          refine sxc_ret ?_
          exact sxq_doneP () (res1 rfl rfl)

set_option maxHeartbeats 4000000 in
theorem C_L_HuffLeast (F : Nat) (x1 : List Int) (a2 : Option Addr) (c3 : Nat) (x4 : List Int) (a5 : Option Addr) (c6 : Nat) (r : Bool) (hm : M_L_HuffLeast F x1 x4 = some r) :
    Pure Try.prog 10 [.slice a2 x1.length c3, .slice a5 x4.length c6] [Sl (eI .i64) 1 (.slice a2 x1.length c3) x1, Sl (eI .i64) 1 (.slice a5 x4.length c6) x4] Unit (fun _ => .bool r) (fun _ => []) (fun _ => []) := by
  refine pure_of Try.func10 rfl Try.ntmps10 rfl hm (fun w => ?_)
  refine sxc_env (l' := [(0, .slice a2 x1.length c3), (1, .slice a5 x4.length c6)]) rfl ?_
  refine sxc_seq ?_
  refine sxc_region ?_
  refine sxo_assign rfl rfl rfl ?_
  refine sxo_nil ?_
  refine sxq_next ?_
  refine sxc_seq ?_
  refine sxc_region ?_
  refine sxo_move rfl rfl rfl ?_
  refine sxo_call ent11 rfl rfl rfl (fun x7 e7 => C_huff_Lengths F x1 a2 c3 x7 e7) (.consF 0 rfl .nil) (fun x7 e7 => ?_)
  rintro ⟨a8, c9⟩
  refine sxo_move rfl rfl rfl ?_
  refine sxo_extract rfl rfl rfl rfl ?_
  refine sxo_extract rfl rfl rfl rfl ?_
  refine sxo_assign rfl rfl rfl ?_
  refine sxo_assign rfl rfl rfl ?_
  refine sxo_nil ?_
  refine sxq_next ?_
  refine sxc_seq ?_
  refine sxc_seq ?_
  refine sxc_region ?_
  refine sxo_call ent19 rfl rfl rfl (fun x16 e16 => C_L_huffBegun F  x16 e16) .nil (fun x16 e16 => ?_)
  intro _
  refine sxo_not rfl rfl rfl ?_
  refine sxo_move rfl rfl rfl ?_
  refine sxo_join 3 (fun ((x19, _) : (Bool × Unit)) => [(0, .slice a2 x1.length c3), (1, .slice a5 x4.length c6), (5, .slice a8 x7.1.length c9), (6, .int .i64 x7.2), (27, .bool x19)]) (fun ((x19, _) : (Bool × Unit)) => []) (fun ((x19, _) : (Bool × Unit)) => [Ro (eI .i64) 3 1 (.slice a8 x7.1.length c9) x7.1]) (fun ((x19, _) : (Bool × Unit)) => [Sl (eI .i64) 1 (.slice a2 x1.length c3) x1, Sl (eI .i64) 1 (.slice a5 x4.length c6) x4]) (fun ((x19, _) : (Bool × Unit)) => M_L_HuffLeast_j2 F x1 x4 x7 x19) ?_ ?_
  · refine sxo_take (os := _) rfl ?_
    refine sxo_if (fun h17 => ?_) (fun h17 => ?_)
    · refine sxo_isT (k := 24) rfl h17 ?_
      refine sxo_skip rfl rfl rfl ?_
      refine sxo_skip rfl rfl rfl ?_
      refine sxo_pick (b := true) rfl rfl rfl rfl ?_
      refine sxo_nil ?_
      exact sxq_meetP (true, ()) (hR := (.cons 0 rfl .nil)) (hF := (fk_cons 0 rfl (fk_cons 1 rfl fk_nil)))
    · refine sxo_isF (k := 24) rfl h17 ?_
      refine sxo_call ent22 rfl rfl rfl (fun x123 e123 => C_L_kraftBegun F  x123 e123) .nil (fun x123 e123 => ?_)
      intro _
      refine sxo_not rfl rfl rfl ?_
      refine sxo_pick (b := false) rfl rfl rfl rfl ?_
      refine sxo_nil ?_
      exact sxq_meetP ((!x123), ()) (hR := (.cons 0 rfl .nil)) (hF := (fk_cons 0 rfl (fk_cons 1 rfl fk_nil)))
  · rintro ⟨x19, _⟩
    try dsimp only
    refine sxo_take (os := _) rfl ?_
    refine sxo_nil ?_
    refine sxq_next ?_
    refine sxc_if rfl (fun h122 => ?_) (fun h122 => ?_)
    · refine sxc_seq ?_
      refine sxc_region ?_
      refine sxo_assign rfl rfl rfl ?_
      refine sxo_nil ?_
      refine sxq_next ?_
      refine sxc_ret ?_
      refine sxq_thenR ?_
      exact sxq_doneP () (res1 rfl rfl)
    · refine sxc_skip ?_
      refine sxq_next ?_
      refine sxc_seq ?_
      refine sxc_seq ?_
      refine sxc_region ?_
      refine sxo_move rfl rfl rfl ?_
      refine sxo_neq rfl rfl rfl rfl ?_
      refine sxo_nil ?_
      refine sxq_next ?_
      refine sxc_if rfl (fun h121 => ?_) (fun h121 => ?_)
      · refine sxc_seq ?_
        refine sxc_region ?_
        refine sxo_move rfl rfl rfl ?_
        refine sxo_len rfl Try.underlying22 rfl rfl ?_
        refine sxo_eql rfl rfl rfl rfl ?_
        refine sxo_assign rfl rfl rfl ?_
        refine sxo_nil ?_
        refine sxq_next ?_
        refine sxc_ret ?_
        refine sxq_thenR ?_
        exact sxq_doneP () (res1 rfl rfl)
      · refine sxc_skip ?_
        refine sxq_next ?_
        refine sxc_seq ?_
        refine sxc_region ?_
        refine sxo_move rfl rfl rfl ?_
        refine sxo_move rfl rfl rfl ?_
        refine sxo_call ent12 rfl rfl rfl (fun x21 e21 => C_huff_Cost F x1 a2 c3 x7.1 a8 c9 x21 e21) (.consF 0 rfl (.consR 0 (Ro (eI .i64) 3 1 (.slice a8 x7.1.length c9) x7.1) rfl .nil)) (fun x21 e21 => ?_)
        intro _
        refine sxo_move rfl rfl rfl ?_
        refine sxo_extract rfl rfl rfl rfl ?_
        refine sxo_extract rfl rfl rfl rfl ?_
        refine sxo_assign rfl rfl rfl ?_
        refine sxo_assign rfl rfl rfl ?_
        refine sxo_nil ?_
        refine sxq_next ?_
        refine sxc_seq ?_
        refine sxc_region ?_
        refine sxo_move rfl rfl rfl ?_
        refine sxo_call ent23 rfl rfl rfl (fun x22 e22 => C_kraft_Room F x7.1 a8 c9 x22 e22) (.consR 0 (Ro (eI .i64) 3 1 (.slice a8 x7.1.length c9) x7.1) rfl .nil) (fun x22 e22 => ?_)
        intro _
        refine sxo_move rfl rfl rfl ?_
        refine sxo_extract rfl rfl rfl rfl ?_
        refine sxo_extract rfl rfl rfl rfl ?_
        refine sxo_assign rfl rfl rfl ?_
        refine sxo_assign rfl rfl rfl ?_
        refine sxo_nil ?_
        refine sxq_next ?_
        refine sxc_seq ?_
        refine sxc_region ?_
        refine sxo_assign rfl rfl rfl ?_
        refine sxo_nil ?_
        refine sxq_next ?_
        refine sxc_join (fun ((x59, _) : (Int × Unit)) => [(0, .slice a2 x1.length c3), (1, .slice a5 x4.length c6), (7, .int .i64 x21.1), (8, .int .i64 x21.2), (9, .int .i64 x22.1), (10, .int .i64 x22.2), (11, .int .i64 x59)]) (fun ((x59, _) : (Int × Unit)) => []) (fun ((x59, _) : (Int × Unit)) => []) (fun ((x59, _) : (Int × Unit)) => [Sl (eI .i64) 1 (.slice a2 x1.length c3) x1, Sl (eI .i64) 1 (.slice a5 x4.length c6) x4]) (fun ((x59, _) : (Int × Unit)) => M_L_HuffLeast_j7 F x1 x4 x21 x22 x59) ?_ ?_
        · refine sxc_seq ?_
          refine sxc_region ?_
          refine sxo_assign rfl rfl rfl ?_
          refine sxo_nil ?_
          refine sxq_next ?_
          refine sxc_block ?_
          refine sxc_loopP (fun (((x96, x97), _) : ((Int × Int) × Unit)) => [(0, .slice a2 x1.length c3), (1, .slice a5 x4.length c6), (7, .int .i64 x21.1), (8, .int .i64 x21.2), (9, .int .i64 x22.1), (10, .int .i64 x22.2), (11, .int .i64 x96), (12, .int .i64 x97)]) (fun (((x96, x97), _) : ((Int × Int) × Unit)) => []) (fun (((x96, x97), _) : ((Int × Int) × Unit)) => []) (fun (((x96, x97), _) : ((Int × Int) × Unit)) => [Sl (eI .i64) 1 (.slice a2 x1.length c3) x1, Sl (eI .i64) 1 (.slice a5 x4.length c6) x4]) (fun k (s : ((Int × Int) × Unit)) => M_L_HuffLeast_l14 F x1 x4 x21 x22 k s.1) ((0, 0), ()) F ?_ (hF := (fk_cons 0 rfl (fk_cons 1 rfl fk_nil)))
          intro k109
          rintro ⟨⟨x96, x97⟩, _⟩
          try dsimp only
          refine sxc_meq (m' := M_L_HuffLeast_b14 F x1 x4 x21 x22 (M_L_HuffLeast_l14 F x1 x4 x21 x22 k109) x96 x97) rfl ?_
          refine sxc_seq ?_
          refine sxc_seq ?_
          refine sxc_region ?_
          refine sxo_move rfl rfl rfl ?_
          refine sxo_move rfl rfl rfl ?_
          refine sxo_len rfl Try.underlying22 rfl rfl ?_
          refine sxo_lss rfl rfl rfl rfl ?_
          refine sxo_nil ?_
          refine sxq_next ?_
          refine sxc_if rfl (fun h120 => ?_) (fun h120 => ?_)
          · refine sxc_skip ?_
            refine sxq_next ?_
            refine sxc_join (fun ((x115, _) : (Int × Unit)) => [(0, .slice a2 x1.length c3), (1, .slice a5 x4.length c6), (7, .int .i64 x21.1), (8, .int .i64 x21.2), (9, .int .i64 x22.1), (10, .int .i64 x22.2), (11, .int .i64 x115), (12, .int .i64 x97)]) (fun ((x115, _) : (Int × Unit)) => []) (fun ((x115, _) : (Int × Unit)) => []) (fun ((x115, _) : (Int × Unit)) => [Sl (eI .i64) 1 (.slice a2 x1.length c3) x1, Sl (eI .i64) 1 (.slice a5 x4.length c6) x4]) (fun ((x115, _) : (Int × Unit)) => M_L_HuffLeast_j15 F (M_L_HuffLeast_l14 F x1 x4 x21 x22 k109) x97 x115) ?_ ?_
            · refine sxc_block ?_
              refine sxc_seq ?_
              refine sxc_region ?_
              refine sxo_move rfl rfl rfl ?_
              refine sxo_move rfl rfl rfl ?_
              refine sxo_indexF (j := 0) (eI_ok .i64) (by decide) rfl Try.underlying22 tf3 rfl rfl rfl rfl (fun x116 e116 b117 o118 => ?_)
              refine sxo_loadF (j := 0) rfl rfl tf3 rfl rfl (fun _ => rfl) rfl rfl ?_
              refine sxo_gtr rfl rfl rfl rfl ?_
              refine sxo_nil ?_
              refine sxq_next ?_
              refine sxc_if rfl (fun h119 => ?_) (fun h119 => ?_)
              · refine sxc_region ?_
                refine sxo_move rfl rfl rfl ?_
                refine sxo_add rfl rfl rfl rfl ?_
                refine sxo_assign rfl rfl rfl ?_
                refine sxo_nil ?_
                refine sxq_blkN ?_
                exact sxq_meetP (iadd .i64 x96 1, ()) (hF := (fk_cons 1 rfl (fk_cons 2 rfl fk_nil)))
              · refine sxc_skip ?_
                refine sxq_blkN ?_
                exact sxq_meetP (x96, ()) (hF := (fk_cons 1 rfl (fk_cons 2 rfl fk_nil)))
            · rintro ⟨x115, _⟩
              try dsimp only
              refine sxc_region ?_
              refine sxo_move rfl rfl rfl ?_
              refine sxo_add rfl rfl rfl rfl ?_
              refine sxo_assign rfl rfl rfl ?_
              refine sxo_nil ?_
              exact sxq_againP ((x115, iadd .i64 x97 1), ()) (hF := (fk_cons 0 rfl (fk_cons 1 rfl fk_nil)))
          · refine sxc_exit ?_
            refine sxq_thenX ?_
            refine sxq_thenX ?_
            refine sxq_blkX ?_
            exact sxq_meetP (x96, ()) (hF := (fk_cons 0 rfl (fk_cons 1 rfl fk_nil)))
        · rintro ⟨x59, _⟩
          try dsimp only
          refine sxc_seq ?_
          refine sxc_seq ?_
          refine sxc_region ?_
          refine sxo_move rfl rfl rfl ?_
          refine sxo_neq rfl rfl rfl rfl ?_
          refine sxo_move rfl rfl rfl ?_
          refine sxo_case 3 ((x21.2 : Int) != 0) [(0, .slice a2 x1.length c3), (1, .slice a5 x4.length c6), (7, .int .i64 x21.1), (9, .int .i64 x22.1), (11, .int .i64 x59), (62, .bool (((x21.2 : Int) != 0) || ((x22.2 : Int) != 0)))] (fun h70 => ?_) (fun h70 => ?_) ?_
          · refine sxo_take (os := _) rfl ?_
            refine sxo_isT (k := 59) rfl h70 ?_
            refine sxo_skip rfl rfl rfl ?_
            refine sxo_skip rfl rfl rfl ?_
            refine sxo_pick (b := true) rfl rfl rfl rfl ?_
            refine sxo_again (d := 62) (v := .bool (((x21.2 : Int) != 0) || ((x22.2 : Int) != 0))) rfl (by rw [h70]; simp only [Bool.true_or]) ?_
            refine sxo_nil ?_
            exact sxq_case (lk_cons rfl (lk_cons rfl (lk_cons rfl (lk_cons rfl (lk_cons rfl (lk_cons rfl lk_nil))))))
          · refine sxo_take (os := _) rfl ?_
            refine sxo_isF (k := 59) rfl h70 ?_
            refine sxo_move rfl rfl rfl ?_
            refine sxo_neq rfl rfl rfl rfl ?_
            refine sxo_pick (b := false) rfl rfl rfl rfl ?_
            refine sxo_again (d := 62) (v := .bool (((x21.2 : Int) != 0) || ((x22.2 : Int) != 0))) rfl (by rw [h70]; simp only [Bool.false_or]) ?_
            refine sxo_nil ?_
            exact sxq_case (lk_cons rfl (lk_cons rfl (lk_cons rfl (lk_cons rfl (lk_cons rfl (lk_cons rfl lk_nil))))))
          refine sxo_take (os := _) rfl ?_
          refine sxo_move rfl rfl rfl ?_
          refine sxo_join 7 (fun ((x73, _) : (Bool × Unit)) => [(0, .slice a2 x1.length c3), (1, .slice a5 x4.length c6), (7, .int .i64 x21.1), (9, .int .i64 x22.1), (11, .int .i64 x59), (70, .bool x73)]) (fun ((x73, _) : (Bool × Unit)) => []) (fun ((x73, _) : (Bool × Unit)) => []) (fun ((x73, _) : (Bool × Unit)) => [Sl (eI .i64) 1 (.slice a2 x1.length c3) x1, Sl (eI .i64) 1 (.slice a5 x4.length c6) x4]) (fun ((x73, _) : (Bool × Unit)) => M_L_HuffLeast_j10 F x1 x4 x21 x22 x59 x73) ?_ ?_
          · refine sxo_take (os := _) rfl ?_
            refine sxo_if (fun h71 => ?_) (fun h71 => ?_)
            · refine sxo_isT (k := 63) rfl h71 ?_
              refine sxo_skip rfl rfl rfl ?_
              refine sxo_skip rfl rfl rfl ?_
              refine sxo_skip rfl rfl rfl ?_
              refine sxo_skip rfl rfl rfl ?_
              refine sxo_skip rfl rfl rfl ?_
              refine sxo_skip rfl rfl rfl ?_
              refine sxo_pick (b := true) rfl rfl rfl rfl ?_
              refine sxo_nil ?_
              exact sxq_meetP (true, ()) (hF := (fk_cons 0 rfl (fk_cons 1 rfl fk_nil)))
            · refine sxo_isF (k := 63) rfl h71 ?_
              refine sxo_move rfl rfl rfl ?_
              refine sxo_gtr rfl rfl rfl rfl ?_
              refine sxo_move rfl rfl rfl ?_
              refine sxo_case 3 (decide (1 < x59)) [(0, .slice a2 x1.length c3), (1, .slice a5 x4.length c6), (7, .int .i64 x21.1), (9, .int .i64 x22.1), (11, .int .i64 x59), (63, .bool false), (69, .bool ((decide (1 < x59)) && ((x22.1 : Int) != 0)))] (fun h84 => ?_) (fun h84 => ?_) ?_
              · refine sxo_take (os := _) rfl ?_
                refine sxo_isT (k := 66) rfl h84 ?_
                refine sxo_move rfl rfl rfl ?_
                refine sxo_neq rfl rfl rfl rfl ?_
                refine sxo_pick (b := true) rfl rfl rfl rfl ?_
                refine sxo_again (d := 69) (v := .bool ((decide (1 < x59)) && ((x22.1 : Int) != 0))) rfl (by rw [h84]; simp only [Bool.true_and]) ?_
                refine sxo_nil ?_
                exact sxq_case (lk_cons rfl (lk_cons rfl (lk_cons rfl (lk_cons rfl (lk_cons rfl (lk_cons rfl (lk_cons rfl lk_nil)))))))
              · refine sxo_take (os := _) rfl ?_
                refine sxo_isF (k := 66) rfl h84 ?_
                refine sxo_skip rfl rfl rfl ?_
                refine sxo_skip rfl rfl rfl ?_
                refine sxo_pick (b := false) rfl rfl rfl rfl ?_
                refine sxo_again (d := 69) (v := .bool ((decide (1 < x59)) && ((x22.1 : Int) != 0))) rfl (by rw [h84]; simp only [Bool.false_and]) ?_
                refine sxo_nil ?_
                exact sxq_case (lk_cons rfl (lk_cons rfl (lk_cons rfl (lk_cons rfl (lk_cons rfl (lk_cons rfl (lk_cons rfl lk_nil)))))))
              refine sxo_take (os := _) rfl ?_
              refine sxo_pick (b := false) rfl rfl rfl rfl ?_
              refine sxo_nil ?_
              exact sxq_meetP (((decide (1 < x59)) && ((x22.1 : Int) != 0)), ()) (hF := (fk_cons 0 rfl (fk_cons 1 rfl fk_nil)))
          · rintro ⟨x73, _⟩
            try dsimp only
            refine sxo_take (os := _) rfl ?_
            refine sxo_move rfl rfl rfl ?_
            refine sxo_join 7 (fun ((x76, _) : (Bool × Unit)) => [(0, .slice a2 x1.length c3), (1, .slice a5 x4.length c6), (7, .int .i64 x21.1), (78, .bool x76)]) (fun ((x76, _) : (Bool × Unit)) => []) (fun ((x76, _) : (Bool × Unit)) => []) (fun ((x76, _) : (Bool × Unit)) => [Sl (eI .i64) 1 (.slice a2 x1.length c3) x1, Sl (eI .i64) 1 (.slice a5 x4.length c6) x4]) (fun ((x76, _) : (Bool × Unit)) => M_L_HuffLeast_j11 F x1 x4 x21 x76) ?_ ?_
            · refine sxo_take (os := _) rfl ?_
              refine sxo_if (fun h74 => ?_) (fun h74 => ?_)
              · refine sxo_isT (k := 71) rfl h74 ?_
                refine sxo_skip rfl rfl rfl ?_
                refine sxo_skip rfl rfl rfl ?_
                refine sxo_skip rfl rfl rfl ?_
                refine sxo_skip rfl rfl rfl ?_
                refine sxo_skip rfl rfl rfl ?_
                refine sxo_skip rfl rfl rfl ?_
                refine sxo_pick (b := true) rfl rfl rfl rfl ?_
                refine sxo_nil ?_
                exact sxq_meetP (true, ()) (hF := (fk_cons 0 rfl (fk_cons 1 rfl fk_nil)))
              · refine sxo_isF (k := 71) rfl h74 ?_
                refine sxo_move rfl rfl rfl ?_
                refine sxo_eql rfl rfl rfl rfl ?_
                refine sxo_move rfl rfl rfl ?_
                refine sxo_case 3 ((x59 : Int) == 1) [(0, .slice a2 x1.length c3), (1, .slice a5 x4.length c6), (7, .int .i64 x21.1), (71, .bool false), (77, .bool (((x59 : Int) == 1) && (decide (x22.1 ≤ 0))))] (fun h83 => ?_) (fun h83 => ?_) ?_
                · refine sxo_take (os := _) rfl ?_
                  refine sxo_isT (k := 74) rfl h83 ?_
                  refine sxo_move rfl rfl rfl ?_
                  refine sxo_leq rfl rfl rfl rfl ?_
                  refine sxo_pick (b := true) rfl rfl rfl rfl ?_
                  refine sxo_again (d := 77) (v := .bool (((x59 : Int) == 1) && (decide (x22.1 ≤ 0)))) rfl (by rw [h83]; simp only [Bool.true_and]) ?_
                  refine sxo_nil ?_
                  exact sxq_case (lk_cons rfl (lk_cons rfl (lk_cons rfl (lk_cons rfl (lk_cons rfl lk_nil)))))
                · refine sxo_take (os := _) rfl ?_
                  refine sxo_isF (k := 74) rfl h83 ?_
                  refine sxo_skip rfl rfl rfl ?_
                  refine sxo_skip rfl rfl rfl ?_
                  refine sxo_pick (b := false) rfl rfl rfl rfl ?_
                  refine sxo_again (d := 77) (v := .bool (((x59 : Int) == 1) && (decide (x22.1 ≤ 0)))) rfl (by rw [h83]; simp only [Bool.false_and]) ?_
                  refine sxo_nil ?_
                  exact sxq_case (lk_cons rfl (lk_cons rfl (lk_cons rfl (lk_cons rfl (lk_cons rfl lk_nil)))))
                refine sxo_take (os := _) rfl ?_
                refine sxo_pick (b := false) rfl rfl rfl rfl ?_
                refine sxo_nil ?_
                exact sxq_meetP ((((x59 : Int) == 1) && (decide (x22.1 ≤ 0))), ()) (hF := (fk_cons 0 rfl (fk_cons 1 rfl fk_nil)))
            · rintro ⟨x76, _⟩
              try dsimp only
              refine sxo_take (os := _) rfl ?_
              refine sxo_nil ?_
              refine sxq_next ?_
              refine sxc_if rfl (fun h82 => ?_) (fun h82 => ?_)
              · refine sxc_seq ?_
                refine sxc_region ?_
                refine sxo_assign rfl rfl rfl ?_
                refine sxo_nil ?_
                refine sxq_next ?_
                refine sxc_ret ?_
                refine sxq_thenR ?_
                exact sxq_doneP () (res1 rfl rfl)
              · refine sxc_skip ?_
                refine sxq_next ?_
                refine sxc_seq ?_
                refine sxc_region ?_
                refine sxo_move rfl rfl rfl ?_
                refine sxo_move rfl rfl rfl ?_
                refine sxo_call ent12 rfl rfl rfl (fun x77 e77 => C_huff_Cost F x1 a2 c3 x4 a5 c6 x77 e77) (.consF 0 rfl (.consF 1 rfl .nil)) (fun x77 e77 => ?_)
                intro _
                refine sxo_move rfl rfl rfl ?_
                refine sxo_extract rfl rfl rfl rfl ?_
                refine sxo_extract rfl rfl rfl rfl ?_
                refine sxo_assign rfl rfl rfl ?_
                refine sxo_assign rfl rfl rfl ?_
                refine sxo_nil ?_
                refine sxq_next ?_
                refine sxc_seq ?_
                refine sxc_region ?_
                refine sxo_move rfl rfl rfl ?_
                refine sxo_call ent23 rfl rfl rfl (fun x78 e78 => C_kraft_Room F x4 a5 c6 x78 e78) (.consF 1 rfl .nil) (fun x78 e78 => ?_)
                intro _
                refine sxo_move rfl rfl rfl ?_
                refine sxo_extract rfl rfl rfl rfl ?_
                refine sxo_extract rfl rfl rfl rfl ?_
                refine sxo_assign rfl rfl rfl ?_
                refine sxo_assign rfl rfl rfl ?_
                refine sxo_nil ?_
                refine sxq_next ?_
                refine sxc_seq ?_
                refine sxc_region ?_
                refine sxo_move rfl rfl rfl ?_
                refine sxo_neq rfl rfl rfl rfl ?_
                refine sxo_move rfl rfl rfl ?_
                refine sxo_case 3 ((x77.2 : Int) != 0) [(7, .int .i64 x21.1), (13, .int .i64 x77.1), (15, .int .i64 x78.1), (95, .bool (((x77.2 : Int) != 0) || ((x78.2 : Int) != 0)))] (fun h79 => ?_) (fun h79 => ?_) ?_
                · refine sxo_take (os := _) rfl ?_
                  refine sxo_isT (k := 92) rfl h79 ?_
                  refine sxo_skip rfl rfl rfl ?_
                  refine sxo_skip rfl rfl rfl ?_
                  refine sxo_pick (b := true) rfl rfl rfl rfl ?_
                  refine sxo_again (d := 95) (v := .bool (((x77.2 : Int) != 0) || ((x78.2 : Int) != 0))) rfl (by rw [h79]; simp only [Bool.true_or]) ?_
                  refine sxo_nil ?_
                  exact sxq_case (lk_cons rfl (lk_cons rfl (lk_cons rfl (lk_cons rfl lk_nil))))
                · refine sxo_take (os := _) rfl ?_
                  refine sxo_isF (k := 92) rfl h79 ?_
                  refine sxo_move rfl rfl rfl ?_
                  refine sxo_neq rfl rfl rfl rfl ?_
                  refine sxo_pick (b := false) rfl rfl rfl rfl ?_
                  refine sxo_again (d := 95) (v := .bool (((x77.2 : Int) != 0) || ((x78.2 : Int) != 0))) rfl (by rw [h79]; simp only [Bool.false_or]) ?_
                  refine sxo_nil ?_
                  exact sxq_case (lk_cons rfl (lk_cons rfl (lk_cons rfl (lk_cons rfl lk_nil))))
                refine sxo_take (os := _) rfl ?_
                refine sxo_move rfl rfl rfl ?_
                refine sxo_case 3 (((x77.2 : Int) != 0) || ((x78.2 : Int) != 0)) [(7, .int .i64 x21.1), (13, .int .i64 x77.1), (99, .bool ((((x77.2 : Int) != 0) || ((x78.2 : Int) != 0)) || (decide (x78.1 < 0))))] (fun h80 => ?_) (fun h80 => ?_) ?_
                · refine sxo_take (os := _) rfl ?_
                  refine sxo_isT (k := 96) rfl h80 ?_
                  refine sxo_skip rfl rfl rfl ?_
                  refine sxo_skip rfl rfl rfl ?_
                  refine sxo_pick (b := true) rfl rfl rfl rfl ?_
                  refine sxo_again (d := 99) (v := .bool ((((x77.2 : Int) != 0) || ((x78.2 : Int) != 0)) || (decide (x78.1 < 0)))) rfl (by rw [h80]; simp only [Bool.true_or]) ?_
                  refine sxo_nil ?_
                  exact sxq_case (lk_cons rfl (lk_cons rfl (lk_cons rfl lk_nil)))
                · refine sxo_take (os := _) rfl ?_
                  refine sxo_isF (k := 96) rfl h80 ?_
                  refine sxo_move rfl rfl rfl ?_
                  refine sxo_lss rfl rfl rfl rfl ?_
                  refine sxo_pick (b := false) rfl rfl rfl rfl ?_
                  refine sxo_again (d := 99) (v := .bool ((((x77.2 : Int) != 0) || ((x78.2 : Int) != 0)) || (decide (x78.1 < 0)))) rfl (by rw [h80]; simp only [Bool.false_or]) ?_
                  refine sxo_nil ?_
                  exact sxq_case (lk_cons rfl (lk_cons rfl (lk_cons rfl lk_nil)))
                refine sxo_take (os := _) rfl ?_
                refine sxo_move rfl rfl rfl ?_
                refine sxo_case 4 ((((x77.2 : Int) != 0) || ((x78.2 : Int) != 0)) || (decide (x78.1 < 0))) [(104, .bool (((((x77.2 : Int) != 0) || ((x78.2 : Int) != 0)) || (decide (x78.1 < 0))) || (decide (x21.1 ≤ x77.1))))] (fun h81 => ?_) (fun h81 => ?_) ?_
                · refine sxo_take (os := _) rfl ?_
                  refine sxo_isT (k := 100) rfl h81 ?_
                  refine sxo_skip rfl rfl rfl ?_
                  refine sxo_skip rfl rfl rfl ?_
                  refine sxo_skip rfl rfl rfl ?_
                  refine sxo_pick (b := true) rfl rfl rfl rfl ?_
                  refine sxo_again (d := 104) (v := .bool (((((x77.2 : Int) != 0) || ((x78.2 : Int) != 0)) || (decide (x78.1 < 0))) || (decide (x21.1 ≤ x77.1)))) rfl (by rw [h81]; simp only [Bool.true_or]) ?_
                  refine sxo_nil ?_
                  exact sxq_case (lk_cons rfl lk_nil)
                · refine sxo_take (os := _) rfl ?_
                  refine sxo_isF (k := 100) rfl h81 ?_
                  refine sxo_move rfl rfl rfl ?_
                  refine sxo_move rfl rfl rfl ?_
                  refine sxo_geq rfl rfl rfl rfl ?_
                  refine sxo_pick (b := false) rfl rfl rfl rfl ?_
                  refine sxo_again (d := 104) (v := .bool (((((x77.2 : Int) != 0) || ((x78.2 : Int) != 0)) || (decide (x78.1 < 0))) || (decide (x21.1 ≤ x77.1)))) rfl (by rw [h81]; simp only [Bool.false_or]) ?_
                  refine sxo_nil ?_
                  exact sxq_case (lk_cons rfl lk_nil)
                refine sxo_take (os := _) rfl ?_
                refine sxo_assign rfl rfl rfl ?_
                refine sxo_nil ?_
                refine sxq_next ?_
                refine sxc_ret ?_
                exact sxq_doneP () (res1 rfl rfl)
end Go.Proofs.Ytilaklhajonenaa
