/- Each Go function of this seat computes what its model says, part 2. -/
import Derived.Test.YtecangnmnkejfaaWalks
namespace Go.Proofs.Ytecangnmnkejfaa
open Go SX
set_option maxHeartbeats 4000000 in
theorem C_L_FibTells (F : Nat) (x1 : Int) (x2 : Int) (x3 : List Int) (a4 : Option Addr) (c5 : Nat) (x6 : Int) (x7 : List Int) (a8 : Option Addr) (c9 : Nat) (x10 : Int) (r : Bool) (hm : M_L_FibTells F x1 x2 x3 x6 x7 x10 = some r) :
    Pure Try.prog 3 [.int .i64 x1, .int .u64 x2, .slice a4 x3.length c5, .agg #[.int .i64 x6, .slice a8 x7.length c9], .int .i64 x10] [Sl (eI .i64) 1 (.slice a4 x3.length c5) x3, Sl (eI .u8) 1 (.slice a8 x7.length c9) x7] Unit (fun _ => .bool r) (fun _ => []) (fun _ => []) := by
  refine pure_of Try.func3 rfl Try.ntmps3 rfl hm (fun w => ?_)
  refine sxc_env (l' := [(0, .int .i64 x1), (1, .int .u64 x2), (2, .slice a4 x3.length c5), (3, .agg #[.int .i64 x6, .slice a8 x7.length c9]), (4, .int .i64 x10)]) rfl ?_
  refine sxc_seq ?_
  refine sxc_region ?_
  refine sxo_box rfl rfl rfl (fun g11 => ?_)
  refine sxo_assign rfl rfl rfl ?_
  refine sxo_nil ?_
  refine sxq_next ?_
  refine sxc_seq ?_
  refine sxc_region ?_
  refine sxo_move rfl rfl rfl ?_
  refine sxo_call ent15 rfl rfl rfl (fun x12 e12 => C_fib_Number F x1 x12 e12) .nil (fun x12 e12 => ?_)
  intro _
  refine sxo_move rfl rfl rfl ?_
  refine sxo_extract rfl rfl rfl rfl ?_
  refine sxo_extract rfl rfl rfl rfl ?_
  refine sxo_assign rfl rfl rfl ?_
  refine sxo_assign rfl rfl rfl ?_
  refine sxo_nil ?_
  refine sxq_next ?_
  refine sxc_seq ?_
  refine sxc_region ?_
  refine sxo_move rfl rfl rfl ?_
  refine sxo_call ent16 rfl rfl rfl (fun x13 e13 => C_fib_Parts F x2 x13 e13) .nil (fun x13 e13 => ?_)
  rintro ⟨a14, c15⟩
  refine sxo_move rfl rfl rfl ?_
  refine sxo_extract rfl rfl rfl rfl ?_
  refine sxo_extract rfl rfl rfl rfl ?_
  refine sxo_assign rfl rfl rfl ?_
  refine sxo_assign rfl rfl rfl ?_
  refine sxo_nil ?_
  refine sxq_next ?_
  refine sxc_seq ?_
  refine sxc_region ?_
  refine sxo_move rfl rfl rfl ?_
  refine sxo_call ent17 rfl rfl rfl (fun x16 e16 => C_fib_Sum F x3 a4 c5 x16 e16) (.consF 0 rfl .nil) (fun x16 e16 => ?_)
  intro _
  refine sxo_move rfl rfl rfl ?_
  refine sxo_extract rfl rfl rfl rfl ?_
  refine sxo_extract rfl rfl rfl rfl ?_
  refine sxo_assign rfl rfl rfl ?_
  refine sxo_assign rfl rfl rfl ?_
  refine sxo_nil ?_
  refine sxq_next ?_
  refine sxc_seq ?_
  refine sxc_region ?_
  refine sxo_move rfl rfl rfl ?_
  refine sxo_call ent18 rfl rfl rfl (fun x17 e17 => C_fib_Code F x2 x17 e17) .nil (fun x17 e17 => ?_)
  rintro ⟨a18, c19⟩
  refine sxo_move rfl rfl rfl ?_
  refine sxo_extract rfl rfl rfl rfl ?_
  refine sxo_extract rfl rfl rfl rfl ?_
  refine sxo_alloc rfl tf26 rfl (fun g20 => ?_)
  refine sxo_storeB (i := 0) rfl rfl rfl tf26 rfl rfl rfl rfl rfl ?_
  refine sxo_assign rfl rfl rfl ?_
  refine sxo_nil ?_
  refine sxq_next ?_
  refine sxc_seq ?_
  refine sxc_region ?_
  refine sxo_loadB (i := 1) rfl rfl tf26 rfl rfl (by simp) rfl rfl ?_
  refine sxo_move rfl rfl rfl ?_
  refine sxo_call ent19 rfl rfl rfl (fun x21 e21 => C_fib_Read F x6 x7 a8 c9 x10 x21 e21) (.consF 1 rfl .nil) (fun x21 e21 => ?_)
  intro _
  refine sxo_move rfl rfl rfl ?_
  refine sxo_extract rfl rfl rfl rfl ?_
  refine sxo_extract rfl rfl rfl rfl ?_
  refine sxo_extract rfl rfl rfl rfl ?_
  refine sxo_assign rfl rfl rfl ?_
  refine sxo_assign rfl rfl rfl ?_
  refine sxo_assign rfl rfl rfl ?_
  refine sxo_nil ?_
  refine sxq_next ?_
  refine sxc_seq ?_
  refine sxc_region ?_
  refine sxo_assign rfl rfl rfl ?_
  refine sxo_assign rfl rfl rfl ?_
  refine sxo_nil ?_
  refine sxq_next ?_
  refine sxc_join (fun (((x25, x26), _) : ((Int × Int) × Unit)) => [(1, .int .u64 x2), (2, .slice a4 x3.length c5), (4, .int .i64 x10), (8, .pointer (some ⟨g11, 0, none⟩)), (11, .int .u64 x12.1), (12, .int .i64 x12.2), (13, .slice a14 x13.1.length c15), (14, .int .i64 x13.2), (15, .int .u64 x16.1), (16, .int .i64 x16.2), (17, .pointer (some ⟨g20, 0, none⟩)), (18, .int .i64 x17.2.2), (19, .int .u64 x21.1), (20, .int .i64 x21.2.1), (21, .int .i64 x21.2.2), (22, .int .i64 x25), (23, .int .u64 x26)]) (fun (((x25, x26), _) : ((Int × Int) × Unit)) => [⟨g20, 26, [.int .i64 x17.1, .slice a18 x17.2.1.length c19]⟩, ⟨g11, 26, [.int .i64 x6, .slice a8 x7.length c9]⟩]) (fun (((x25, x26), _) : ((Int × Int) × Unit)) => [Ro (eI .i64) 3 1 (.slice a14 x13.1.length c15) x13.1, Ro (eI .u8) 5 1 (.slice a18 x17.2.1.length c19) x17.2.1]) (fun (((x25, x26), _) : ((Int × Int) × Unit)) => [Sl (eI .i64) 1 (.slice a4 x3.length c5) x3, Sl (eI .u8) 1 (.slice a8 x7.length c9) x7]) (fun (((x25, x26), _) : ((Int × Int) × Unit)) => M_L_FibTells_j1 F x2 x3 x6 x7 x10 x12 x13 x16 x17 x21 x25 x26) ?_ ?_
  · refine sxc_seq ?_
    refine sxc_region ?_
    refine sxo_move rfl rfl rfl ?_
    refine sxo_lss rfl rfl rfl rfl ?_
    refine sxo_move rfl rfl rfl ?_
    refine sxo_case 3 (decide (x1 < 0)) [(0, .int .i64 x1), (1, .int .u64 x2), (2, .slice a4 x3.length c5), (4, .int .i64 x10), (8, .pointer (some ⟨g11, 0, none⟩)), (11, .int .u64 x12.1), (12, .int .i64 x12.2), (13, .slice a14 x13.1.length c15), (14, .int .i64 x13.2), (15, .int .u64 x16.1), (16, .int .i64 x16.2), (17, .pointer (some ⟨g20, 0, none⟩)), (18, .int .i64 x17.2.2), (19, .int .u64 x21.1), (20, .int .i64 x21.2.1), (21, .int .i64 x21.2.2), (22, .int .i64 0), (23, .int .u64 0), (64, .bool ((decide (x1 < 0)) || (decide (63 < x1))))] (fun h94 => ?_) (fun h94 => ?_) ?_
    · refine sxo_take (os := _) rfl ?_
      refine sxo_isT (k := 61) rfl h94 ?_
      refine sxo_skip rfl rfl rfl ?_
      refine sxo_skip rfl rfl rfl ?_
      refine sxo_pick (b := true) rfl rfl rfl rfl ?_
      refine sxo_again (d := 64) (v := .bool ((decide (x1 < 0)) || (decide (63 < x1)))) rfl (by rw [h94]; simp only [Bool.true_or]) ?_
      refine sxo_nil ?_
      exact sxq_case (lk_cons rfl (lk_cons rfl (lk_cons rfl (lk_cons rfl (lk_cons rfl (lk_cons rfl (lk_cons rfl (lk_cons rfl (lk_cons rfl (lk_cons rfl (lk_cons rfl (lk_cons rfl (lk_cons rfl (lk_cons rfl (lk_cons rfl (lk_cons rfl (lk_cons rfl (lk_cons rfl (lk_cons rfl lk_nil)))))))))))))))))))
    · refine sxo_take (os := _) rfl ?_
      refine sxo_isF (k := 61) rfl h94 ?_
      refine sxo_move rfl rfl rfl ?_
      refine sxo_gtr rfl rfl rfl rfl ?_
      refine sxo_pick (b := false) rfl rfl rfl rfl ?_
      refine sxo_again (d := 64) (v := .bool ((decide (x1 < 0)) || (decide (63 < x1)))) rfl (by rw [h94]; simp only [Bool.false_or]) ?_
      refine sxo_nil ?_
      exact sxq_case (lk_cons rfl (lk_cons rfl (lk_cons rfl (lk_cons rfl (lk_cons rfl (lk_cons rfl (lk_cons rfl (lk_cons rfl (lk_cons rfl (lk_cons rfl (lk_cons rfl (lk_cons rfl (lk_cons rfl (lk_cons rfl (lk_cons rfl (lk_cons rfl (lk_cons rfl (lk_cons rfl (lk_cons rfl lk_nil)))))))))))))))))))
    refine sxo_take (os := _) rfl ?_
    refine sxo_nil ?_
    refine sxq_next ?_
    refine sxc_if rfl (fun h96 => ?_) (fun h96 => ?_)
    · refine sxc_region ?_
      refine sxo_assign rfl rfl rfl ?_
      refine sxo_nil ?_
      exact sxq_meetP ((3, 0), ()) (lk_cons rfl (lk_cons rfl (lk_cons rfl (lk_cons rfl (lk_cons rfl (lk_cons rfl (lk_cons rfl (lk_cons rfl (lk_cons rfl (lk_cons rfl (lk_cons rfl (lk_cons rfl (lk_cons rfl (lk_cons rfl (lk_cons rfl (lk_cons rfl (lk_cons rfl lk_nil))))))))))))))))) (.cons 0 rfl (.cons 0 rfl .nil)) (.cons 1 rfl (.cons 0 rfl .nil)) (fk_cons 0 rfl (fk_cons 1 rfl fk_nil))
    · refine sxc_region ?_
      refine sxo_move rfl rfl rfl ?_
      refine sxo_call ent20 rfl rfl rfl (fun x95 e95 => C_R_FibNum F x1 x95 e95) .nil (fun x95 e95 => ?_)
      intro _
      refine sxo_assign rfl rfl rfl ?_
      refine sxo_nil ?_
      exact sxq_meetP ((0, x95), ()) (lk_cons rfl (lk_cons rfl (lk_cons rfl (lk_cons rfl (lk_cons rfl (lk_cons rfl (lk_cons rfl (lk_cons rfl (lk_cons rfl (lk_cons rfl (lk_cons rfl (lk_cons rfl (lk_cons rfl (lk_cons rfl (lk_cons rfl (lk_cons rfl (lk_cons rfl lk_nil))))))))))))))))) (.cons 0 rfl (.cons 0 rfl .nil)) (.cons 1 rfl (.cons 0 rfl .nil)) (fk_cons 0 rfl (fk_cons 1 rfl fk_nil))
  · rintro ⟨⟨x25, x26⟩, _⟩
    try dsimp only
    refine sxc_seq ?_
    refine sxc_region ?_
    refine sxo_assign rfl rfl rfl ?_
    refine sxo_nil ?_
    refine sxq_next ?_
    refine sxc_seq ?_
    refine sxc_region ?_
    refine sxo_assign rfl rfl rfl ?_
    refine sxo_nil ?_
    refine sxq_next ?_
    refine sxc_seq ?_
    refine sxc_region ?_
    refine sxo_alloc rfl tf26 rfl (fun g27 => ?_)
    refine sxo_nil ?_
    refine sxq_next ?_
    refine sxc_join (fun (((x43, x46, x47, x50), (a44, c45, a48, c49)) : ((Int × List Int × Int × List Int) × (Option Addr × Nat × Option Addr × Nat))) => [(2, .slice a4 x3.length c5), (4, .int .i64 x10), (8, .pointer (some ⟨g11, 0, none⟩)), (11, .int .u64 x12.1), (12, .int .i64 x12.2), (13, .slice a14 x13.1.length c15), (14, .int .i64 x13.2), (15, .int .u64 x16.1), (16, .int .i64 x16.2), (17, .pointer (some ⟨g20, 0, none⟩)), (18, .int .i64 x17.2.2), (19, .int .u64 x21.1), (20, .int .i64 x21.2.1), (21, .int .i64 x21.2.2), (22, .int .i64 x25), (23, .int .u64 x26), (24, .int .i64 x43), (25, .slice a44 x46.length c45), (26, .pointer (some ⟨g27, 0, none⟩))]) (fun (((x43, x46, x47, x50), (a44, c45, a48, c49)) : ((Int × List Int × Int × List Int) × (Option Addr × Nat × Option Addr × Nat))) => [⟨g27, 26, [.int .i64 x47, .slice a48 x50.length c49]⟩, ⟨g20, 26, [.int .i64 x17.1, .slice a18 x17.2.1.length c19]⟩, ⟨g11, 26, [.int .i64 x6, .slice a8 x7.length c9]⟩]) (fun (((x43, x46, x47, x50), (a44, c45, a48, c49)) : ((Int × List Int × Int × List Int) × (Option Addr × Nat × Option Addr × Nat))) => [Ro (eI .i64) 3 1 (.slice a14 x13.1.length c15) x13.1, Ro (eI .i64) 3 1 (.slice a44 x46.length c45) x46, Ro (eI .u8) 5 1 (.slice a48 x50.length c49) x50, Ro (eI .u8) 5 1 (.slice a18 x17.2.1.length c19) x17.2.1]) (fun (((x43, x46, x47, x50), (a44, c45, a48, c49)) : ((Int × List Int × Int × List Int) × (Option Addr × Nat × Option Addr × Nat))) => [Sl (eI .i64) 1 (.slice a4 x3.length c5) x3, Sl (eI .u8) 1 (.slice a8 x7.length c9) x7]) (fun (((x43, x46, x47, x50), _) : ((Int × List Int × Int × List Int) × (Option Addr × Nat × Option Addr × Nat))) => M_L_FibTells_j2 F x3 x6 x7 x10 x12 x13 x16 x17 x21 x25 x26 x43 x46 x47 x50) ?_ ?_
    · refine sxc_seq ?_
      refine sxc_region ?_
      refine sxo_move rfl rfl rfl ?_
      refine sxo_gtr rfl rfl rfl rfl ?_
      refine sxo_nil ?_
      refine sxq_next ?_
      refine sxc_if rfl (fun h93 => ?_) (fun h93 => ?_)
      · refine sxc_region ?_
        refine sxo_assign rfl rfl rfl ?_
        refine sxo_nil ?_
        refine sxq_nilrow Int (eI .i64) 3 1 ?_
        refine sxq_nilrow Int (eI .u8) 5 1 ?_
        exact sxq_meetP ((3, ([] : List Int), 0, ([] : List Int)), (none, 0, none, 0)) (lk_cons rfl (lk_cons rfl (lk_cons rfl (lk_cons rfl (lk_cons rfl (lk_cons rfl (lk_cons rfl (lk_cons rfl (lk_cons rfl (lk_cons rfl (lk_cons rfl (lk_cons rfl (lk_cons rfl (lk_cons rfl (lk_cons rfl (lk_cons rfl (lk_cons rfl (lk_cons rfl (lk_cons rfl lk_nil))))))))))))))))))) (.cons 0 rfl (.cons 0 rfl (.cons 0 rfl .nil))) (.cons 2 rfl (.cons 1 rfl (.cons 0 rfl (.cons 0 rfl .nil)))) (fk_cons 0 rfl (fk_cons 1 rfl fk_nil))
      · refine sxc_region ?_
        refine sxo_move rfl rfl rfl ?_
        refine sxo_call ent21 rfl rfl rfl (fun x84 e84 => C_R_FibParts F x2 x84 e84) .nil (fun x84 e84 => ?_)
        rintro ⟨a85, c86⟩
        refine sxo_move rfl rfl rfl ?_
        refine sxo_call ent23 rfl rfl rfl (fun x87 e87 => C_R_FibList F x2 x87 e87) .nil (fun x87 e87 => ?_)
        rintro ⟨a88, c89⟩
        refine sxo_call ent22 rfl rfl rfl (fun x90 e90 => C_R_PackBits F x87 a88 c89 x90 e90) (.consR 0 (Ro (eI .i64) 3 1 (.slice a88 x87.length c89) x87) rfl .nil) (fun x90 e90 => ?_)
        rintro ⟨a91, c92⟩
        refine sxo_assign rfl rfl rfl ?_
        refine sxo_storeB (i := 0) rfl rfl rfl tf26 rfl rfl rfl rfl rfl ?_
        refine sxo_nil ?_
        exact sxq_meetP ((0, x84, x90.1, x90.2), (a85, c86, a91, c92)) (lk_cons rfl (lk_cons rfl (lk_cons rfl (lk_cons rfl (lk_cons rfl (lk_cons rfl (lk_cons rfl (lk_cons rfl (lk_cons rfl (lk_cons rfl (lk_cons rfl (lk_cons rfl (lk_cons rfl (lk_cons rfl (lk_cons rfl (lk_cons rfl (lk_cons rfl (lk_cons rfl (lk_cons rfl lk_nil))))))))))))))))))) (.cons 0 rfl (.cons 0 rfl (.cons 0 rfl .nil))) (.cons 3 rfl (.cons 2 rfl (.cons 0 rfl (.cons 1 rfl .nil)))) (fk_cons 0 rfl (fk_cons 1 rfl fk_nil))
    · rintro ⟨⟨x43, x46, x47, x50⟩, ⟨a44, c45, a48, c49⟩⟩
      try dsimp only
      refine sxc_seq ?_
      refine sxc_region ?_
      refine sxo_move rfl rfl rfl ?_
      refine sxo_call ent24 rfl rfl rfl (fun x51 e51 => C_R_FibSum F x3 a4 c5 x51 e51) (.consF 0 rfl .nil) (fun x51 e51 => ?_)
      intro _
      refine sxo_move rfl rfl rfl ?_
      refine sxo_extract rfl rfl rfl rfl ?_
      refine sxo_extract rfl rfl rfl rfl ?_
      refine sxo_assign rfl rfl rfl ?_
      refine sxo_assign rfl rfl rfl ?_
      refine sxo_nil ?_
      refine sxq_next ?_
      refine sxc_seq ?_
      refine sxc_region ?_
      refine sxo_loadB (i := 2) rfl rfl tf26 rfl rfl (by simp) rfl rfl ?_
      refine sxo_move rfl rfl rfl ?_
      refine sxo_call ent25 rfl rfl rfl (fun x52 e52 => C_R_ReadErr F x6 x7 a8 c9 x10 x52 e52) (.consF 1 rfl .nil) (fun x52 e52 => ?_)
      intro _
      refine sxo_assign rfl rfl rfl ?_
      refine sxo_nil ?_
      refine sxq_next ?_
      refine sxc_seq ?_
      refine sxc_region ?_
      refine sxo_assign rfl rfl rfl ?_
      refine sxo_assign rfl rfl rfl ?_
      refine sxo_nil ?_
      refine sxq_next ?_
      refine sxc_join (fun (((x58, x59, x60), _) : ((Int × Int × Int) × Unit)) => [(11, .int .u64 x12.1), (12, .int .i64 x12.2), (13, .slice a14 x13.1.length c15), (14, .int .i64 x13.2), (15, .int .u64 x16.1), (16, .int .i64 x16.2), (17, .pointer (some ⟨g20, 0, none⟩)), (18, .int .i64 x17.2.2), (19, .int .u64 x21.1), (20, .int .i64 x21.2.1), (21, .int .i64 x21.2.2), (22, .int .i64 x25), (23, .int .u64 x26), (24, .int .i64 x43), (25, .slice a44 x46.length c45), (26, .pointer (some ⟨g27, 0, none⟩)), (27, .int .u64 x51.1), (28, .int .i64 x51.2), (29, .int .i64 x58), (30, .int .u64 x59), (31, .int .i64 x60)]) (fun (((x58, x59, x60), _) : ((Int × Int × Int) × Unit)) => [⟨g27, 26, [.int .i64 x47, .slice a48 x50.length c49]⟩, ⟨g20, 26, [.int .i64 x17.1, .slice a18 x17.2.1.length c19]⟩]) (fun (((x58, x59, x60), _) : ((Int × Int × Int) × Unit)) => [Ro (eI .i64) 3 1 (.slice a14 x13.1.length c15) x13.1, Ro (eI .i64) 3 1 (.slice a44 x46.length c45) x46, Ro (eI .u8) 5 1 (.slice a48 x50.length c49) x50, Ro (eI .u8) 5 1 (.slice a18 x17.2.1.length c19) x17.2.1]) (fun (((x58, x59, x60), _) : ((Int × Int × Int) × Unit)) => []) (fun (((x58, x59, x60), _) : ((Int × Int × Int) × Unit)) => M_L_FibTells_j3 F x12 x13 x16 x17 x21 x25 x26 x43 x46 x47 x50 x51 x58 x59 x60) ?_ ?_
      · refine sxc_seq ?_
        refine sxc_region ?_
        refine sxo_move rfl rfl rfl ?_
        refine sxo_eql rfl rfl rfl rfl ?_
        refine sxo_nil ?_
        refine sxq_next ?_
        refine sxc_if rfl (fun h83 => ?_) (fun h83 => ?_)
        · refine sxc_region ?_
          refine sxo_loadB (i := 2) rfl rfl tf26 rfl rfl (by simp) rfl rfl ?_
          refine sxo_call ent27 rfl rfl rfl (fun x79 e79 => C_R_BitList F x6 x7 a8 c9 x79 e79) (.consF 1 rfl .nil) (fun x79 e79 => ?_)
          rintro ⟨a80, c81⟩
          refine sxo_move rfl rfl rfl ?_
          refine sxo_call ent26 rfl rfl rfl (fun x82 e82 => C_R_FibRead F x79 a80 c81 x10 x82 e82) (.consR 0 (Ro (eI .i64) 3 1 (.slice a80 x79.length c81) x79) rfl .nil) (fun x82 e82 => ?_)
          intro _
          refine sxo_move rfl rfl rfl ?_
          refine sxo_extract rfl rfl rfl rfl ?_
          refine sxo_extract rfl rfl rfl rfl ?_
          refine sxo_extract rfl rfl rfl rfl ?_
          refine sxo_assign rfl rfl rfl ?_
          refine sxo_assign rfl rfl rfl ?_
          refine sxo_assign rfl rfl rfl ?_
          refine sxo_nil ?_
          exact sxq_meetP ((x82.2.2, x82.1, x82.2.1), ()) (lk_cons rfl (lk_cons rfl (lk_cons rfl (lk_cons rfl (lk_cons rfl (lk_cons rfl (lk_cons rfl (lk_cons rfl (lk_cons rfl (lk_cons rfl (lk_cons rfl (lk_cons rfl (lk_cons rfl (lk_cons rfl (lk_cons rfl (lk_cons rfl (lk_cons rfl (lk_cons rfl (lk_cons rfl (lk_cons rfl (lk_cons rfl lk_nil))))))))))))))))))))) (.cons 0 rfl (.cons 0 rfl .nil)) (.cons 1 rfl (.cons 1 rfl (.cons 1 rfl (.cons 1 rfl .nil)))) fk_nil
        · refine sxc_skip ?_
          exact sxq_meetP ((x52, 0, 0), ()) (lk_cons rfl (lk_cons rfl (lk_cons rfl (lk_cons rfl (lk_cons rfl (lk_cons rfl (lk_cons rfl (lk_cons rfl (lk_cons rfl (lk_cons rfl (lk_cons rfl (lk_cons rfl (lk_cons rfl (lk_cons rfl (lk_cons rfl (lk_cons rfl (lk_cons rfl (lk_cons rfl (lk_cons rfl (lk_cons rfl (lk_cons rfl lk_nil))))))))))))))))))))) (.cons 0 rfl (.cons 0 rfl .nil)) (.cons 0 rfl (.cons 0 rfl (.cons 0 rfl (.cons 0 rfl .nil)))) fk_nil
      · rintro ⟨⟨x58, x59, x60⟩, _⟩
        try dsimp only
        refine sxc_seq ?_
        refine sxc_region ?_
        refine sxo_call ent28 rfl rfl rfl (fun x61 e61 => C_L_fibBegun F  x61 e61) .nil (fun x61 e61 => ?_)
        intro _
        refine sxo_move rfl rfl rfl ?_
        refine sxo_case 4 x61 [(12, .int .i64 x12.2), (13, .slice a14 x13.1.length c15), (14, .int .i64 x13.2), (15, .int .u64 x16.1), (16, .int .i64 x16.2), (17, .pointer (some ⟨g20, 0, none⟩)), (18, .int .i64 x17.2.2), (19, .int .u64 x21.1), (20, .int .i64 x21.2.1), (21, .int .i64 x21.2.2), (22, .int .i64 x25), (24, .int .i64 x43), (25, .slice a44 x46.length c45), (26, .pointer (some ⟨g27, 0, none⟩)), (27, .int .u64 x51.1), (28, .int .i64 x51.2), (29, .int .i64 x58), (30, .int .u64 x59), (31, .int .i64 x60), (97, .bool (x61 && ((x12.1 : Int) == x26)))] (fun h62 => ?_) (fun h62 => ?_) ?_
        · refine sxo_take (os := _) rfl ?_
          refine sxo_isT (k := 93) rfl h62 ?_
          refine sxo_move rfl rfl rfl ?_
          refine sxo_move rfl rfl rfl ?_
          refine sxo_eql rfl rfl rfl rfl ?_
          refine sxo_pick (b := true) rfl rfl rfl rfl ?_
          refine sxo_again (d := 97) (v := .bool (x61 && ((x12.1 : Int) == x26))) rfl (by rw [h62]; simp only [Bool.true_and]) ?_
          refine sxo_nil ?_
          exact sxq_case (lk_cons rfl (lk_cons rfl (lk_cons rfl (lk_cons rfl (lk_cons rfl (lk_cons rfl (lk_cons rfl (lk_cons rfl (lk_cons rfl (lk_cons rfl (lk_cons rfl (lk_cons rfl (lk_cons rfl (lk_cons rfl (lk_cons rfl (lk_cons rfl (lk_cons rfl (lk_cons rfl (lk_cons rfl (lk_cons rfl lk_nil))))))))))))))))))))
        · refine sxo_take (os := _) rfl ?_
          refine sxo_isF (k := 93) rfl h62 ?_
          refine sxo_skip rfl rfl rfl ?_
          refine sxo_skip rfl rfl rfl ?_
          refine sxo_skip rfl rfl rfl ?_
          refine sxo_pick (b := false) rfl rfl rfl rfl ?_
          refine sxo_again (d := 97) (v := .bool (x61 && ((x12.1 : Int) == x26))) rfl (by rw [h62]; simp only [Bool.false_and]) ?_
          refine sxo_nil ?_
          exact sxq_case (lk_cons rfl (lk_cons rfl (lk_cons rfl (lk_cons rfl (lk_cons rfl (lk_cons rfl (lk_cons rfl (lk_cons rfl (lk_cons rfl (lk_cons rfl (lk_cons rfl (lk_cons rfl (lk_cons rfl (lk_cons rfl (lk_cons rfl (lk_cons rfl (lk_cons rfl (lk_cons rfl (lk_cons rfl (lk_cons rfl lk_nil))))))))))))))))))))
        refine sxo_take (os := _) rfl ?_
        refine sxo_move rfl rfl rfl ?_
        refine sxo_case 4 (x61 && ((x12.1 : Int) == x26)) [(13, .slice a14 x13.1.length c15), (14, .int .i64 x13.2), (15, .int .u64 x16.1), (16, .int .i64 x16.2), (17, .pointer (some ⟨g20, 0, none⟩)), (18, .int .i64 x17.2.2), (19, .int .u64 x21.1), (20, .int .i64 x21.2.1), (21, .int .i64 x21.2.2), (24, .int .i64 x43), (25, .slice a44 x46.length c45), (26, .pointer (some ⟨g27, 0, none⟩)), (27, .int .u64 x51.1), (28, .int .i64 x51.2), (29, .int .i64 x58), (30, .int .u64 x59), (31, .int .i64 x60), (102, .bool ((x61 && ((x12.1 : Int) == x26)) && ((x12.2 : Int) == x25)))] (fun h63 => ?_) (fun h63 => ?_) ?_
        · refine sxo_take (os := _) rfl ?_
          refine sxo_isT (k := 98) rfl h63 ?_
          refine sxo_move rfl rfl rfl ?_
          refine sxo_move rfl rfl rfl ?_
          refine sxo_eql rfl rfl rfl rfl ?_
          refine sxo_pick (b := true) rfl rfl rfl rfl ?_
          refine sxo_again (d := 102) (v := .bool ((x61 && ((x12.1 : Int) == x26)) && ((x12.2 : Int) == x25))) rfl (by rw [h63]; simp only [Bool.true_and]) ?_
          refine sxo_nil ?_
          exact sxq_case (lk_cons rfl (lk_cons rfl (lk_cons rfl (lk_cons rfl (lk_cons rfl (lk_cons rfl (lk_cons rfl (lk_cons rfl (lk_cons rfl (lk_cons rfl (lk_cons rfl (lk_cons rfl (lk_cons rfl (lk_cons rfl (lk_cons rfl (lk_cons rfl (lk_cons rfl (lk_cons rfl lk_nil))))))))))))))))))
        · refine sxo_take (os := _) rfl ?_
          refine sxo_isF (k := 98) rfl h63 ?_
          refine sxo_skip rfl rfl rfl ?_
          refine sxo_skip rfl rfl rfl ?_
          refine sxo_skip rfl rfl rfl ?_
          refine sxo_pick (b := false) rfl rfl rfl rfl ?_
          refine sxo_again (d := 102) (v := .bool ((x61 && ((x12.1 : Int) == x26)) && ((x12.2 : Int) == x25))) rfl (by rw [h63]; simp only [Bool.false_and]) ?_
          refine sxo_nil ?_
          exact sxq_case (lk_cons rfl (lk_cons rfl (lk_cons rfl (lk_cons rfl (lk_cons rfl (lk_cons rfl (lk_cons rfl (lk_cons rfl (lk_cons rfl (lk_cons rfl (lk_cons rfl (lk_cons rfl (lk_cons rfl (lk_cons rfl (lk_cons rfl (lk_cons rfl (lk_cons rfl (lk_cons rfl lk_nil))))))))))))))))))
        refine sxo_take (os := _) rfl ?_
        refine sxo_move rfl rfl rfl ?_
        refine sxo_join 4 (fun ((x66, _) : (Bool × Unit)) => [(14, .int .i64 x13.2), (15, .int .u64 x16.1), (16, .int .i64 x16.2), (17, .pointer (some ⟨g20, 0, none⟩)), (18, .int .i64 x17.2.2), (19, .int .u64 x21.1), (20, .int .i64 x21.2.1), (21, .int .i64 x21.2.2), (24, .int .i64 x43), (26, .pointer (some ⟨g27, 0, none⟩)), (27, .int .u64 x51.1), (28, .int .i64 x51.2), (29, .int .i64 x58), (30, .int .u64 x59), (31, .int .i64 x60), (107, .bool x66)]) (fun ((x66, _) : (Bool × Unit)) => [⟨g27, 26, [.int .i64 x47, .slice a48 x50.length c49]⟩, ⟨g20, 26, [.int .i64 x17.1, .slice a18 x17.2.1.length c19]⟩]) (fun ((x66, _) : (Bool × Unit)) => [Ro (eI .u8) 5 1 (.slice a48 x50.length c49) x50, Ro (eI .u8) 5 1 (.slice a18 x17.2.1.length c19) x17.2.1]) (fun ((x66, _) : (Bool × Unit)) => []) (fun ((x66, _) : (Bool × Unit)) => M_L_FibTells_j4 F x13 x16 x17 x21 x43 x47 x50 x51 x58 x59 x60 x66) ?_ ?_
        · refine sxo_take (os := _) rfl ?_
          refine sxo_if (fun h64 => ?_) (fun h64 => ?_)
          · refine sxo_isT (k := 103) rfl h64 ?_
            refine sxo_move rfl rfl rfl ?_
            refine sxo_move rfl rfl rfl ?_
            refine sxo_call ent29 rfl rfl rfl (fun x78 e78 => C_R_SameInts F x13.1 a14 c15 x46 a44 c45 x78 e78) (.consR 0 (Ro (eI .i64) 3 1 (.slice a14 x13.1.length c15) x13.1) rfl (.consR 1 (Ro (eI .i64) 3 1 (.slice a44 x46.length c45) x46) rfl .nil)) (fun x78 e78 => ?_)
            intro _
            refine sxo_pick (b := true) rfl rfl rfl rfl ?_
            refine sxo_nil ?_
            exact sxq_meetP (x78, ()) (lk_cons rfl (lk_cons rfl (lk_cons rfl (lk_cons rfl (lk_cons rfl (lk_cons rfl (lk_cons rfl (lk_cons rfl (lk_cons rfl (lk_cons rfl (lk_cons rfl (lk_cons rfl (lk_cons rfl (lk_cons rfl (lk_cons rfl (lk_cons rfl lk_nil)))))))))))))))) (.cons 0 rfl (.cons 0 rfl .nil)) (.cons 2 rfl (.cons 2 rfl .nil)) fk_nil
          · refine sxo_isF (k := 103) rfl h64 ?_
            refine sxo_skip rfl rfl rfl ?_
            refine sxo_skip rfl rfl rfl ?_
            refine sxo_skip rfl rfl rfl ?_
            refine sxo_pick (b := false) rfl rfl rfl rfl ?_
            refine sxo_nil ?_
            exact sxq_meetP (false, ()) (lk_cons rfl (lk_cons rfl (lk_cons rfl (lk_cons rfl (lk_cons rfl (lk_cons rfl (lk_cons rfl (lk_cons rfl (lk_cons rfl (lk_cons rfl (lk_cons rfl (lk_cons rfl (lk_cons rfl (lk_cons rfl (lk_cons rfl (lk_cons rfl lk_nil)))))))))))))))) (.cons 0 rfl (.cons 0 rfl .nil)) (.cons 2 rfl (.cons 2 rfl .nil)) fk_nil
        · rintro ⟨x66, _⟩
          try dsimp only
          refine sxo_take (os := _) rfl ?_
          refine sxo_move rfl rfl rfl ?_
          refine sxo_case 4 x66 [(15, .int .u64 x16.1), (16, .int .i64 x16.2), (17, .pointer (some ⟨g20, 0, none⟩)), (18, .int .i64 x17.2.2), (19, .int .u64 x21.1), (20, .int .i64 x21.2.1), (21, .int .i64 x21.2.2), (24, .int .i64 x43), (26, .pointer (some ⟨g27, 0, none⟩)), (27, .int .u64 x51.1), (28, .int .i64 x51.2), (29, .int .i64 x58), (30, .int .u64 x59), (31, .int .i64 x60), (112, .bool (x66 && ((x13.2 : Int) == x43)))] (fun h67 => ?_) (fun h67 => ?_) ?_
          · refine sxo_take (os := _) rfl ?_
            refine sxo_isT (k := 108) rfl h67 ?_
            refine sxo_move rfl rfl rfl ?_
            refine sxo_move rfl rfl rfl ?_
            refine sxo_eql rfl rfl rfl rfl ?_
            refine sxo_pick (b := true) rfl rfl rfl rfl ?_
            refine sxo_again (d := 112) (v := .bool (x66 && ((x13.2 : Int) == x43))) rfl (by rw [h67]; simp only [Bool.true_and]) ?_
            refine sxo_nil ?_
            exact sxq_case (lk_cons rfl (lk_cons rfl (lk_cons rfl (lk_cons rfl (lk_cons rfl (lk_cons rfl (lk_cons rfl (lk_cons rfl (lk_cons rfl (lk_cons rfl (lk_cons rfl (lk_cons rfl (lk_cons rfl (lk_cons rfl (lk_cons rfl lk_nil)))))))))))))))
          · refine sxo_take (os := _) rfl ?_
            refine sxo_isF (k := 108) rfl h67 ?_
            refine sxo_skip rfl rfl rfl ?_
            refine sxo_skip rfl rfl rfl ?_
            refine sxo_skip rfl rfl rfl ?_
            refine sxo_pick (b := false) rfl rfl rfl rfl ?_
            refine sxo_again (d := 112) (v := .bool (x66 && ((x13.2 : Int) == x43))) rfl (by rw [h67]; simp only [Bool.false_and]) ?_
            refine sxo_nil ?_
            exact sxq_case (lk_cons rfl (lk_cons rfl (lk_cons rfl (lk_cons rfl (lk_cons rfl (lk_cons rfl (lk_cons rfl (lk_cons rfl (lk_cons rfl (lk_cons rfl (lk_cons rfl (lk_cons rfl (lk_cons rfl (lk_cons rfl (lk_cons rfl lk_nil)))))))))))))))
          refine sxo_take (os := _) rfl ?_
          refine sxo_move rfl rfl rfl ?_
          refine sxo_case 4 (x66 && ((x13.2 : Int) == x43)) [(16, .int .i64 x16.2), (17, .pointer (some ⟨g20, 0, none⟩)), (18, .int .i64 x17.2.2), (19, .int .u64 x21.1), (20, .int .i64 x21.2.1), (21, .int .i64 x21.2.2), (24, .int .i64 x43), (26, .pointer (some ⟨g27, 0, none⟩)), (28, .int .i64 x51.2), (29, .int .i64 x58), (30, .int .u64 x59), (31, .int .i64 x60), (117, .bool ((x66 && ((x13.2 : Int) == x43)) && ((x16.1 : Int) == x51.1)))] (fun h68 => ?_) (fun h68 => ?_) ?_
          · refine sxo_take (os := _) rfl ?_
            refine sxo_isT (k := 113) rfl h68 ?_
            refine sxo_move rfl rfl rfl ?_
            refine sxo_move rfl rfl rfl ?_
            refine sxo_eql rfl rfl rfl rfl ?_
            refine sxo_pick (b := true) rfl rfl rfl rfl ?_
            refine sxo_again (d := 117) (v := .bool ((x66 && ((x13.2 : Int) == x43)) && ((x16.1 : Int) == x51.1))) rfl (by rw [h68]; simp only [Bool.true_and]) ?_
            refine sxo_nil ?_
            exact sxq_case (lk_cons rfl (lk_cons rfl (lk_cons rfl (lk_cons rfl (lk_cons rfl (lk_cons rfl (lk_cons rfl (lk_cons rfl (lk_cons rfl (lk_cons rfl (lk_cons rfl (lk_cons rfl (lk_cons rfl lk_nil)))))))))))))
          · refine sxo_take (os := _) rfl ?_
            refine sxo_isF (k := 113) rfl h68 ?_
            refine sxo_skip rfl rfl rfl ?_
            refine sxo_skip rfl rfl rfl ?_
            refine sxo_skip rfl rfl rfl ?_
            refine sxo_pick (b := false) rfl rfl rfl rfl ?_
            refine sxo_again (d := 117) (v := .bool ((x66 && ((x13.2 : Int) == x43)) && ((x16.1 : Int) == x51.1))) rfl (by rw [h68]; simp only [Bool.false_and]) ?_
            refine sxo_nil ?_
            exact sxq_case (lk_cons rfl (lk_cons rfl (lk_cons rfl (lk_cons rfl (lk_cons rfl (lk_cons rfl (lk_cons rfl (lk_cons rfl (lk_cons rfl (lk_cons rfl (lk_cons rfl (lk_cons rfl (lk_cons rfl lk_nil)))))))))))))
          refine sxo_take (os := _) rfl ?_
          refine sxo_move rfl rfl rfl ?_
          refine sxo_case 4 ((x66 && ((x13.2 : Int) == x43)) && ((x16.1 : Int) == x51.1)) [(17, .pointer (some ⟨g20, 0, none⟩)), (18, .int .i64 x17.2.2), (19, .int .u64 x21.1), (20, .int .i64 x21.2.1), (21, .int .i64 x21.2.2), (24, .int .i64 x43), (26, .pointer (some ⟨g27, 0, none⟩)), (29, .int .i64 x58), (30, .int .u64 x59), (31, .int .i64 x60), (122, .bool (((x66 && ((x13.2 : Int) == x43)) && ((x16.1 : Int) == x51.1)) && ((x16.2 : Int) == x51.2)))] (fun h69 => ?_) (fun h69 => ?_) ?_
          · refine sxo_take (os := _) rfl ?_
            refine sxo_isT (k := 118) rfl h69 ?_
            refine sxo_move rfl rfl rfl ?_
            refine sxo_move rfl rfl rfl ?_
            refine sxo_eql rfl rfl rfl rfl ?_
            refine sxo_pick (b := true) rfl rfl rfl rfl ?_
            refine sxo_again (d := 122) (v := .bool (((x66 && ((x13.2 : Int) == x43)) && ((x16.1 : Int) == x51.1)) && ((x16.2 : Int) == x51.2))) rfl (by rw [h69]; simp only [Bool.true_and]) ?_
            refine sxo_nil ?_
            exact sxq_case (lk_cons rfl (lk_cons rfl (lk_cons rfl (lk_cons rfl (lk_cons rfl (lk_cons rfl (lk_cons rfl (lk_cons rfl (lk_cons rfl (lk_cons rfl (lk_cons rfl lk_nil)))))))))))
          · refine sxo_take (os := _) rfl ?_
            refine sxo_isF (k := 118) rfl h69 ?_
            refine sxo_skip rfl rfl rfl ?_
            refine sxo_skip rfl rfl rfl ?_
            refine sxo_skip rfl rfl rfl ?_
            refine sxo_pick (b := false) rfl rfl rfl rfl ?_
            refine sxo_again (d := 122) (v := .bool (((x66 && ((x13.2 : Int) == x43)) && ((x16.1 : Int) == x51.1)) && ((x16.2 : Int) == x51.2))) rfl (by rw [h69]; simp only [Bool.false_and]) ?_
            refine sxo_nil ?_
            exact sxq_case (lk_cons rfl (lk_cons rfl (lk_cons rfl (lk_cons rfl (lk_cons rfl (lk_cons rfl (lk_cons rfl (lk_cons rfl (lk_cons rfl (lk_cons rfl (lk_cons rfl lk_nil)))))))))))
          refine sxo_take (os := _) rfl ?_
          refine sxo_move rfl rfl rfl ?_
          refine sxo_join 4 (fun ((x72, _) : (Bool × Unit)) => [(18, .int .i64 x17.2.2), (19, .int .u64 x21.1), (20, .int .i64 x21.2.1), (21, .int .i64 x21.2.2), (24, .int .i64 x43), (29, .int .i64 x58), (30, .int .u64 x59), (31, .int .i64 x60), (127, .bool x72)]) (fun ((x72, _) : (Bool × Unit)) => []) (fun ((x72, _) : (Bool × Unit)) => []) (fun ((x72, _) : (Bool × Unit)) => []) (fun ((x72, _) : (Bool × Unit)) => M_L_FibTells_j5 F x17 x21 x43 x58 x59 x60 x72) ?_ ?_
          · refine sxo_take (os := _) rfl ?_
            refine sxo_if (fun h70 => ?_) (fun h70 => ?_)
            · refine sxo_isT (k := 123) rfl h70 ?_
              refine sxo_loadB (i := 1) rfl rfl tf26 rfl rfl (by simp) rfl rfl ?_
              refine sxo_loadB (i := 0) rfl rfl tf26 rfl rfl (by simp) rfl rfl ?_
              refine sxo_call ent30 rfl rfl rfl (fun x77 e77 => C_R_SameBits F x17.1 x17.2.1 a18 c19 x47 x50 a48 c49 x77 e77) (.consR 1 (Ro (eI .u8) 5 1 (.slice a18 x17.2.1.length c19) x17.2.1) rfl (.consR 0 (Ro (eI .u8) 5 1 (.slice a48 x50.length c49) x50) rfl .nil)) (fun x77 e77 => ?_)
              intro _
              refine sxo_pick (b := true) rfl rfl rfl rfl ?_
              refine sxo_nil ?_
              exact sxq_meetP (x77, ()) (lk_cons rfl (lk_cons rfl (lk_cons rfl (lk_cons rfl (lk_cons rfl (lk_cons rfl (lk_cons rfl (lk_cons rfl (lk_cons rfl lk_nil))))))))) .nil .nil fk_nil
            · refine sxo_isF (k := 123) rfl h70 ?_
              refine sxo_skip rfl rfl rfl ?_
              refine sxo_skip rfl rfl rfl ?_
              refine sxo_skip rfl rfl rfl ?_
              refine sxo_pick (b := false) rfl rfl rfl rfl ?_
              refine sxo_nil ?_
              exact sxq_meetP (false, ()) (lk_cons rfl (lk_cons rfl (lk_cons rfl (lk_cons rfl (lk_cons rfl (lk_cons rfl (lk_cons rfl (lk_cons rfl (lk_cons rfl lk_nil))))))))) .nil .nil fk_nil
          · rintro ⟨x72, _⟩
            try dsimp only
            refine sxo_take (os := _) rfl ?_
            refine sxo_move rfl rfl rfl ?_
            refine sxo_case 4 x72 [(19, .int .u64 x21.1), (20, .int .i64 x21.2.1), (21, .int .i64 x21.2.2), (29, .int .i64 x58), (30, .int .u64 x59), (31, .int .i64 x60), (132, .bool (x72 && ((x17.2.2 : Int) == x43)))] (fun h73 => ?_) (fun h73 => ?_) ?_
            · refine sxo_take (os := _) rfl ?_
              refine sxo_isT (k := 128) rfl h73 ?_
              refine sxo_move rfl rfl rfl ?_
              refine sxo_move rfl rfl rfl ?_
              refine sxo_eql rfl rfl rfl rfl ?_
              refine sxo_pick (b := true) rfl rfl rfl rfl ?_
              refine sxo_again (d := 132) (v := .bool (x72 && ((x17.2.2 : Int) == x43))) rfl (by rw [h73]; simp only [Bool.true_and]) ?_
              refine sxo_nil ?_
              exact sxq_case (lk_cons rfl (lk_cons rfl (lk_cons rfl (lk_cons rfl (lk_cons rfl (lk_cons rfl (lk_cons rfl lk_nil)))))))
            · refine sxo_take (os := _) rfl ?_
              refine sxo_isF (k := 128) rfl h73 ?_
              refine sxo_skip rfl rfl rfl ?_
              refine sxo_skip rfl rfl rfl ?_
              refine sxo_skip rfl rfl rfl ?_
              refine sxo_pick (b := false) rfl rfl rfl rfl ?_
              refine sxo_again (d := 132) (v := .bool (x72 && ((x17.2.2 : Int) == x43))) rfl (by rw [h73]; simp only [Bool.false_and]) ?_
              refine sxo_nil ?_
              exact sxq_case (lk_cons rfl (lk_cons rfl (lk_cons rfl (lk_cons rfl (lk_cons rfl (lk_cons rfl (lk_cons rfl lk_nil)))))))
            refine sxo_take (os := _) rfl ?_
            refine sxo_move rfl rfl rfl ?_
            refine sxo_case 4 (x72 && ((x17.2.2 : Int) == x43)) [(20, .int .i64 x21.2.1), (21, .int .i64 x21.2.2), (29, .int .i64 x58), (31, .int .i64 x60), (137, .bool ((x72 && ((x17.2.2 : Int) == x43)) && ((x21.1 : Int) == x59)))] (fun h74 => ?_) (fun h74 => ?_) ?_
            · refine sxo_take (os := _) rfl ?_
              refine sxo_isT (k := 133) rfl h74 ?_
              refine sxo_move rfl rfl rfl ?_
              refine sxo_move rfl rfl rfl ?_
              refine sxo_eql rfl rfl rfl rfl ?_
              refine sxo_pick (b := true) rfl rfl rfl rfl ?_
              refine sxo_again (d := 137) (v := .bool ((x72 && ((x17.2.2 : Int) == x43)) && ((x21.1 : Int) == x59))) rfl (by rw [h74]; simp only [Bool.true_and]) ?_
              refine sxo_nil ?_
              exact sxq_case (lk_cons rfl (lk_cons rfl (lk_cons rfl (lk_cons rfl (lk_cons rfl lk_nil)))))
            · refine sxo_take (os := _) rfl ?_
              refine sxo_isF (k := 133) rfl h74 ?_
              refine sxo_skip rfl rfl rfl ?_
              refine sxo_skip rfl rfl rfl ?_
              refine sxo_skip rfl rfl rfl ?_
              refine sxo_pick (b := false) rfl rfl rfl rfl ?_
              refine sxo_again (d := 137) (v := .bool ((x72 && ((x17.2.2 : Int) == x43)) && ((x21.1 : Int) == x59))) rfl (by rw [h74]; simp only [Bool.false_and]) ?_
              refine sxo_nil ?_
              exact sxq_case (lk_cons rfl (lk_cons rfl (lk_cons rfl (lk_cons rfl (lk_cons rfl lk_nil)))))
            refine sxo_take (os := _) rfl ?_
            refine sxo_move rfl rfl rfl ?_
            refine sxo_case 4 ((x72 && ((x17.2.2 : Int) == x43)) && ((x21.1 : Int) == x59)) [(21, .int .i64 x21.2.2), (29, .int .i64 x58), (142, .bool (((x72 && ((x17.2.2 : Int) == x43)) && ((x21.1 : Int) == x59)) && ((x21.2.1 : Int) == x60)))] (fun h75 => ?_) (fun h75 => ?_) ?_
            · refine sxo_take (os := _) rfl ?_
              refine sxo_isT (k := 138) rfl h75 ?_
              refine sxo_move rfl rfl rfl ?_
              refine sxo_move rfl rfl rfl ?_
              refine sxo_eql rfl rfl rfl rfl ?_
              refine sxo_pick (b := true) rfl rfl rfl rfl ?_
              refine sxo_again (d := 142) (v := .bool (((x72 && ((x17.2.2 : Int) == x43)) && ((x21.1 : Int) == x59)) && ((x21.2.1 : Int) == x60))) rfl (by rw [h75]; simp only [Bool.true_and]) ?_
              refine sxo_nil ?_
              exact sxq_case (lk_cons rfl (lk_cons rfl (lk_cons rfl lk_nil)))
            · refine sxo_take (os := _) rfl ?_
              refine sxo_isF (k := 138) rfl h75 ?_
              refine sxo_skip rfl rfl rfl ?_
              refine sxo_skip rfl rfl rfl ?_
              refine sxo_skip rfl rfl rfl ?_
              refine sxo_pick (b := false) rfl rfl rfl rfl ?_
              refine sxo_again (d := 142) (v := .bool (((x72 && ((x17.2.2 : Int) == x43)) && ((x21.1 : Int) == x59)) && ((x21.2.1 : Int) == x60))) rfl (by rw [h75]; simp only [Bool.false_and]) ?_
              refine sxo_nil ?_
              exact sxq_case (lk_cons rfl (lk_cons rfl (lk_cons rfl lk_nil)))
            refine sxo_take (os := _) rfl ?_
            refine sxo_move rfl rfl rfl ?_
            refine sxo_case 4 (((x72 && ((x17.2.2 : Int) == x43)) && ((x21.1 : Int) == x59)) && ((x21.2.1 : Int) == x60)) [(147, .bool ((((x72 && ((x17.2.2 : Int) == x43)) && ((x21.1 : Int) == x59)) && ((x21.2.1 : Int) == x60)) && ((x21.2.2 : Int) == x58)))] (fun h76 => ?_) (fun h76 => ?_) ?_
            · refine sxo_take (os := _) rfl ?_
              refine sxo_isT (k := 143) rfl h76 ?_
              refine sxo_move rfl rfl rfl ?_
              refine sxo_move rfl rfl rfl ?_
              refine sxo_eql rfl rfl rfl rfl ?_
              refine sxo_pick (b := true) rfl rfl rfl rfl ?_
              refine sxo_again (d := 147) (v := .bool ((((x72 && ((x17.2.2 : Int) == x43)) && ((x21.1 : Int) == x59)) && ((x21.2.1 : Int) == x60)) && ((x21.2.2 : Int) == x58))) rfl (by rw [h76]; simp only [Bool.true_and]) ?_
              refine sxo_nil ?_
              exact sxq_case (lk_cons rfl lk_nil)
            · refine sxo_take (os := _) rfl ?_
              refine sxo_isF (k := 143) rfl h76 ?_
              refine sxo_skip rfl rfl rfl ?_
              refine sxo_skip rfl rfl rfl ?_
              refine sxo_skip rfl rfl rfl ?_
              refine sxo_pick (b := false) rfl rfl rfl rfl ?_
              refine sxo_again (d := 147) (v := .bool ((((x72 && ((x17.2.2 : Int) == x43)) && ((x21.1 : Int) == x59)) && ((x21.2.1 : Int) == x60)) && ((x21.2.2 : Int) == x58))) rfl (by rw [h76]; simp only [Bool.false_and]) ?_
              refine sxo_nil ?_
              exact sxq_case (lk_cons rfl lk_nil)
            refine sxo_take (os := _) rfl ?_
            refine sxo_assign rfl rfl rfl ?_
            refine sxo_nil ?_
            refine sxq_next ?_
            refine sxc_ret ?_
            exact sxq_doneP () (.inl rfl) (res1 rfl rfl) (fun h => by subst h; rfl) (fun h => by subst h; exact .nil)

theorem C_L_FibOnly (F : Nat) (x1 : Int) (x2 : List Int) (a3 : Option Addr) (c4 : Nat) (r : Bool) (hm : M_L_FibOnly F x1 x2 = some r) :
    Pure Try.prog 4 [.int .u64 x1, .slice a3 x2.length c4] [Sl (eI .i64) 1 (.slice a3 x2.length c4) x2] Unit (fun _ => .bool r) (fun _ => []) (fun _ => []) := by
  refine pure_of Try.func4 rfl Try.ntmps4 rfl hm (fun w => ?_)
  refine sxc_env (l' := [(0, .int .u64 x1), (1, .slice a3 x2.length c4)]) rfl ?_
  refine sxc_seq ?_
  refine sxc_region ?_
  refine sxo_assign rfl rfl rfl ?_
  refine sxo_nil ?_
  refine sxq_next ?_
  refine sxc_seq ?_
  refine sxc_region ?_
  refine sxo_move rfl rfl rfl ?_
  refine sxo_call ent16 rfl rfl rfl (fun x5 e5 => C_fib_Parts F x1 x5 e5) .nil (fun x5 e5 => ?_)
  rintro ⟨a6, c7⟩
  refine sxo_move rfl rfl rfl ?_
  refine sxo_extract rfl rfl rfl rfl ?_
  refine sxo_extract rfl rfl rfl rfl ?_
  refine sxo_assign rfl rfl rfl ?_
  refine sxo_assign rfl rfl rfl ?_
  refine sxo_nil ?_
  refine sxq_next ?_
  refine sxc_seq ?_
  refine sxc_seq ?_
  refine sxc_region ?_
  refine sxo_call ent28 rfl rfl rfl (fun x10 e10 => C_L_fibBegun F  x10 e10) .nil (fun x10 e10 => ?_)
  intro _
  refine sxo_not rfl rfl rfl ?_
  refine sxo_nil ?_
  refine sxq_next ?_
  refine sxc_if rfl (fun h26 => ?_) (fun h26 => ?_)
  · refine sxc_seq ?_
    refine sxc_region ?_
    refine sxo_assign rfl rfl rfl ?_
    refine sxo_nil ?_
    refine sxq_next ?_
    refine sxc_ret ?_
    refine sxq_thenR ?_
    exact sxq_doneP () (.inl rfl) (res1 rfl rfl) (fun h => by subst h; rfl) (fun h => by subst h; exact .nil)
  · refine sxc_skip ?_
    refine sxq_next ?_
    refine sxc_seq ?_
    refine sxc_seq ?_
    refine sxc_region ?_
    refine sxo_move rfl rfl rfl ?_
    refine sxo_neq rfl rfl rfl rfl ?_
    refine sxo_nil ?_
    refine sxq_next ?_
    refine sxc_if rfl (fun h25 => ?_) (fun h25 => ?_)
    · refine sxc_seq ?_
      refine sxc_region ?_
      refine sxo_move rfl rfl rfl ?_
      refine sxo_gtr rfl rfl rfl rfl ?_
      refine sxo_move rfl rfl rfl ?_
      refine sxo_case 4 (decide (1099511627776 < x1)) [(26, .bool ((decide (1099511627776 < x1)) && (((x5.1.length : Int) : Int) == 0)))] (fun h13 => ?_) (fun h13 => ?_) ?_
      · refine sxo_take (os := _) rfl ?_
        refine sxo_isT (k := 22) rfl h13 ?_
        refine sxo_move rfl rfl rfl ?_
        refine sxo_len rfl Try.underlying23 rfl rfl ?_
        refine sxo_eql rfl rfl rfl rfl ?_
        refine sxo_pick (b := true) rfl rfl rfl rfl ?_
        refine sxo_again (d := 26) (v := .bool ((decide (1099511627776 < x1)) && (((x5.1.length : Int) : Int) == 0))) rfl (by rw [h13]; simp only [Bool.true_and]) ?_
        refine sxo_nil ?_
        exact sxq_case (lk_cons rfl lk_nil)
      · refine sxo_take (os := _) rfl ?_
        refine sxo_isF (k := 22) rfl h13 ?_
        refine sxo_skip rfl rfl rfl ?_
        refine sxo_skip rfl rfl rfl ?_
        refine sxo_skip rfl rfl rfl ?_
        refine sxo_pick (b := false) rfl rfl rfl rfl ?_
        refine sxo_again (d := 26) (v := .bool ((decide (1099511627776 < x1)) && (((x5.1.length : Int) : Int) == 0))) rfl (by rw [h13]; simp only [Bool.false_and]) ?_
        refine sxo_nil ?_
        exact sxq_case (lk_cons rfl lk_nil)
      refine sxo_take (os := _) rfl ?_
      refine sxo_assign rfl rfl rfl ?_
      refine sxo_nil ?_
      refine sxq_next ?_
      refine sxc_ret ?_
      refine sxq_thenR ?_
      exact sxq_doneP () (.inl rfl) (res1 rfl rfl) (fun h => by subst h; rfl) (fun h => by subst h; exact .nil)
    · refine sxc_skip ?_
      refine sxq_next ?_
      refine sxc_seq ?_
      refine sxc_region ?_
      refine sxo_move rfl rfl rfl ?_
      refine sxo_call ent17 rfl rfl rfl (fun x14 e14 => C_fib_Sum F x5.1 a6 c7 x14 e14) (.consR 0 (Ro (eI .i64) 3 1 (.slice a6 x5.1.length c7) x5.1) rfl .nil) (fun x14 e14 => ?_)
      intro _
      refine sxo_move rfl rfl rfl ?_
      refine sxo_extract rfl rfl rfl rfl ?_
      refine sxo_extract rfl rfl rfl rfl ?_
      refine sxo_assign rfl rfl rfl ?_
      refine sxo_assign rfl rfl rfl ?_
      refine sxo_nil ?_
      refine sxq_next ?_
      refine sxc_seq ?_
      refine sxc_seq ?_
      refine sxc_region ?_
      refine sxo_move rfl rfl rfl ?_
      refine sxo_neq rfl rfl rfl rfl ?_
      refine sxo_move rfl rfl rfl ?_
      refine sxo_case 4 ((x14.2 : Int) != 0) [(0, .int .u64 x1), (1, .slice a3 x2.length c4), (5, .slice a6 x5.1.length c7), (38, .bool (((x14.2 : Int) != 0) || ((x14.1 : Int) != x1)))] (fun h17 => ?_) (fun h17 => ?_) ?_
      · refine sxo_take (os := _) rfl ?_
        refine sxo_isT (k := 34) rfl h17 ?_
        refine sxo_skip rfl rfl rfl ?_
        refine sxo_skip rfl rfl rfl ?_
        refine sxo_skip rfl rfl rfl ?_
        refine sxo_pick (b := true) rfl rfl rfl rfl ?_
        refine sxo_again (d := 38) (v := .bool (((x14.2 : Int) != 0) || ((x14.1 : Int) != x1))) rfl (by rw [h17]; simp only [Bool.true_or]) ?_
        refine sxo_nil ?_
        exact sxq_case (lk_cons rfl (lk_cons rfl (lk_cons rfl (lk_cons rfl lk_nil))))
      · refine sxo_take (os := _) rfl ?_
        refine sxo_isF (k := 34) rfl h17 ?_
        refine sxo_move rfl rfl rfl ?_
        refine sxo_move rfl rfl rfl ?_
        refine sxo_neq rfl rfl rfl rfl ?_
        refine sxo_pick (b := false) rfl rfl rfl rfl ?_
        refine sxo_again (d := 38) (v := .bool (((x14.2 : Int) != 0) || ((x14.1 : Int) != x1))) rfl (by rw [h17]; simp only [Bool.false_or]) ?_
        refine sxo_nil ?_
        exact sxq_case (lk_cons rfl (lk_cons rfl (lk_cons rfl (lk_cons rfl lk_nil))))
      refine sxo_take (os := _) rfl ?_
      refine sxo_nil ?_
      refine sxq_next ?_
      refine sxc_if rfl (fun h24 => ?_) (fun h24 => ?_)
      · refine sxc_seq ?_
        refine sxc_region ?_
        refine sxo_assign rfl rfl rfl ?_
        refine sxo_nil ?_
        refine sxq_next ?_
        refine sxc_ret ?_
        refine sxq_thenR ?_
        exact sxq_doneP () (.inl rfl) (res1 rfl rfl) (fun h => by subst h; rfl) (fun h => by subst h; exact .nil)
      · refine sxc_skip ?_
        refine sxq_next ?_
        refine sxc_seq ?_
        refine sxc_region ?_
        refine sxo_move rfl rfl rfl ?_
        refine sxo_call ent17 rfl rfl rfl (fun x18 e18 => C_fib_Sum F x2 a3 c4 x18 e18) (.consF 0 rfl .nil) (fun x18 e18 => ?_)
        intro _
        refine sxo_move rfl rfl rfl ?_
        refine sxo_extract rfl rfl rfl rfl ?_
        refine sxo_extract rfl rfl rfl rfl ?_
        refine sxo_assign rfl rfl rfl ?_
        refine sxo_assign rfl rfl rfl ?_
        refine sxo_nil ?_
        refine sxq_next ?_
        refine sxc_seq ?_
        refine sxc_region ?_
        refine sxo_move rfl rfl rfl ?_
        refine sxo_neq rfl rfl rfl rfl ?_
        refine sxo_move rfl rfl rfl ?_
        refine sxo_case 4 ((x18.2 : Int) != 0) [(1, .slice a3 x2.length c4), (5, .slice a6 x5.1.length c7), (50, .bool (((x18.2 : Int) != 0) || ((x18.1 : Int) != x1)))] (fun h19 => ?_) (fun h19 => ?_) ?_
        · refine sxo_take (os := _) rfl ?_
          refine sxo_isT (k := 46) rfl h19 ?_
          refine sxo_skip rfl rfl rfl ?_
          refine sxo_skip rfl rfl rfl ?_
          refine sxo_skip rfl rfl rfl ?_
          refine sxo_pick (b := true) rfl rfl rfl rfl ?_
          refine sxo_again (d := 50) (v := .bool (((x18.2 : Int) != 0) || ((x18.1 : Int) != x1))) rfl (by rw [h19]; simp only [Bool.true_or]) ?_
          refine sxo_nil ?_
          exact sxq_case (lk_cons rfl (lk_cons rfl (lk_cons rfl lk_nil)))
        · refine sxo_take (os := _) rfl ?_
          refine sxo_isF (k := 46) rfl h19 ?_
          refine sxo_move rfl rfl rfl ?_
          refine sxo_move rfl rfl rfl ?_
          refine sxo_neq rfl rfl rfl rfl ?_
          refine sxo_pick (b := false) rfl rfl rfl rfl ?_
          refine sxo_again (d := 50) (v := .bool (((x18.2 : Int) != 0) || ((x18.1 : Int) != x1))) rfl (by rw [h19]; simp only [Bool.false_or]) ?_
          refine sxo_nil ?_
          exact sxq_case (lk_cons rfl (lk_cons rfl (lk_cons rfl lk_nil)))
        refine sxo_take (os := _) rfl ?_
        refine sxo_move rfl rfl rfl ?_
        refine sxo_join 4 (fun ((x22, _) : (Bool × Unit)) => [(55, .bool x22)]) (fun ((x22, _) : (Bool × Unit)) => []) (fun ((x22, _) : (Bool × Unit)) => []) (fun ((x22, _) : (Bool × Unit)) => []) (fun ((x22, _) : (Bool × Unit)) => M_L_FibOnly_j1 F x22) ?_ ?_
        · refine sxo_take (os := _) rfl ?_
          refine sxo_if (fun h20 => ?_) (fun h20 => ?_)
          · refine sxo_isT (k := 51) rfl h20 ?_
            refine sxo_skip rfl rfl rfl ?_
            refine sxo_skip rfl rfl rfl ?_
            refine sxo_skip rfl rfl rfl ?_
            refine sxo_pick (b := true) rfl rfl rfl rfl ?_
            refine sxo_nil ?_
            exact sxq_meetP (true, ()) (lk_cons rfl lk_nil) .nil .nil fk_nil
          · refine sxo_isF (k := 51) rfl h20 ?_
            refine sxo_move rfl rfl rfl ?_
            refine sxo_move rfl rfl rfl ?_
            refine sxo_call ent29 rfl rfl rfl (fun x23 e23 => C_R_SameInts F x2 a3 c4 x5.1 a6 c7 x23 e23) (.consF 0 rfl (.consR 0 (Ro (eI .i64) 3 1 (.slice a6 x5.1.length c7) x5.1) rfl .nil)) (fun x23 e23 => ?_)
            intro _
            refine sxo_pick (b := false) rfl rfl rfl rfl ?_
            refine sxo_nil ?_
            exact sxq_meetP (x23, ()) (lk_cons rfl lk_nil) .nil .nil fk_nil
        · rintro ⟨x22, _⟩
          try dsimp only
          refine sxo_take (os := _) rfl ?_
          refine sxo_assign rfl rfl rfl ?_
          refine sxo_nil ?_
          refine sxq_next ?_
          refine sxc_ret ?_
          exact sxq_doneP () (.inl rfl) (res1 rfl rfl) (fun h => by subst h; rfl) (fun h => by subst h; exact .nil)

set_option maxHeartbeats 4000000 in
theorem C_L_FibNumbers (F : Nat) (x1 : Int) (r : Bool) (hm : M_L_FibNumbers F x1 = some r) :
    Pure Try.prog 6 [.int .i64 x1] [] Unit (fun _ => .bool r) (fun _ => []) (fun _ => []) := by
  refine pure_of Try.func6 rfl Try.ntmps6 rfl hm (fun w => ?_)
  refine sxc_env (l' := [(0, .int .i64 x1)]) rfl ?_
  refine sxc_seq ?_
  refine sxc_region ?_
  refine sxo_assign rfl rfl rfl ?_
  refine sxo_nil ?_
  refine sxq_next ?_
  refine sxc_seq ?_
  refine sxc_seq ?_
  refine sxc_region ?_
  refine sxo_call ent28 rfl rfl rfl (fun x4 e4 => C_L_fibBegun F  x4 e4) .nil (fun x4 e4 => ?_)
  intro _
  refine sxo_not rfl rfl rfl ?_
  refine sxo_nil ?_
  refine sxq_next ?_
  refine sxc_if rfl (fun h107 => ?_) (fun h107 => ?_)
  · refine sxc_seq ?_
    refine sxc_region ?_
    refine sxo_assign rfl rfl rfl ?_
    refine sxo_nil ?_
    refine sxq_next ?_
    refine sxc_ret ?_
    refine sxq_thenR ?_
    exact sxq_doneP () (.inl rfl) (res1 rfl rfl) (fun h => by subst h; rfl) (fun h => by subst h; exact .nil)
  · refine sxc_skip ?_
    refine sxq_next ?_
    refine sxc_seq ?_
    refine sxc_seq ?_
    refine sxc_region ?_
    refine sxo_move rfl rfl rfl ?_
    refine sxo_lss rfl rfl rfl rfl ?_
    refine sxo_move rfl rfl rfl ?_
    refine sxo_case 3 (decide (x1 < 0)) [(0, .int .i64 x1), (22, .bool ((decide (x1 < 0)) || (decide (61 < x1))))] (fun h9 => ?_) (fun h9 => ?_) ?_
    · refine sxo_take (os := _) rfl ?_
      refine sxo_isT (k := 19) rfl h9 ?_
      refine sxo_skip rfl rfl rfl ?_
      refine sxo_skip rfl rfl rfl ?_
      refine sxo_pick (b := true) rfl rfl rfl rfl ?_
      refine sxo_again (d := 22) (v := .bool ((decide (x1 < 0)) || (decide (61 < x1)))) rfl (by rw [h9]; simp only [Bool.true_or]) ?_
      refine sxo_nil ?_
      exact sxq_case (lk_cons rfl (lk_cons rfl lk_nil))
    · refine sxo_take (os := _) rfl ?_
      refine sxo_isF (k := 19) rfl h9 ?_
      refine sxo_move rfl rfl rfl ?_
      refine sxo_gtr rfl rfl rfl rfl ?_
      refine sxo_pick (b := false) rfl rfl rfl rfl ?_
      refine sxo_again (d := 22) (v := .bool ((decide (x1 < 0)) || (decide (61 < x1)))) rfl (by rw [h9]; simp only [Bool.false_or]) ?_
      refine sxo_nil ?_
      exact sxq_case (lk_cons rfl (lk_cons rfl lk_nil))
    refine sxo_take (os := _) rfl ?_
    refine sxo_nil ?_
    refine sxq_next ?_
    refine sxc_if rfl (fun h106 => ?_) (fun h106 => ?_)
    · refine sxc_seq ?_
      refine sxc_region ?_
      refine sxo_move rfl rfl rfl ?_
      refine sxo_call ent15 rfl rfl rfl (fun x10 e10 => C_fib_Number F x1 x10 e10) .nil (fun x10 e10 => ?_)
      intro _
      refine sxo_move rfl rfl rfl ?_
      refine sxo_extract rfl rfl rfl rfl ?_
      refine sxo_extract rfl rfl rfl rfl ?_
      refine sxo_assign rfl rfl rfl ?_
      refine sxo_assign rfl rfl rfl ?_
      refine sxo_nil ?_
      refine sxq_next ?_
      refine sxc_seq ?_
      refine sxc_region ?_
      refine sxo_move rfl rfl rfl ?_
      refine sxo_eql rfl rfl rfl rfl ?_
      refine sxo_move rfl rfl rfl ?_
      refine sxo_geq rfl rfl rfl rfl ?_
      refine sxo_move rfl rfl rfl ?_
      refine sxo_case 3 (decide (0 ≤ x1)) [(29, .bool ((x10.2 : Int) == 0)), (35, .bool ((decide (0 ≤ x1)) && (decide (x1 ≤ 63))))] (fun h11 => ?_) (fun h11 => ?_) ?_
      · refine sxo_take (os := _) rfl ?_
        refine sxo_isT (k := 32) rfl h11 ?_
        refine sxo_move rfl rfl rfl ?_
        refine sxo_leq rfl rfl rfl rfl ?_
        refine sxo_pick (b := true) rfl rfl rfl rfl ?_
        refine sxo_again (d := 35) (v := .bool ((decide (0 ≤ x1)) && (decide (x1 ≤ 63)))) rfl (by rw [h11]; simp only [Bool.true_and]) ?_
        refine sxo_nil ?_
        exact sxq_case (lk_cons rfl (lk_cons rfl lk_nil))
      · refine sxo_take (os := _) rfl ?_
        refine sxo_isF (k := 32) rfl h11 ?_
        refine sxo_skip rfl rfl rfl ?_
        refine sxo_skip rfl rfl rfl ?_
        refine sxo_pick (b := false) rfl rfl rfl rfl ?_
        refine sxo_again (d := 35) (v := .bool ((decide (0 ≤ x1)) && (decide (x1 ≤ 63)))) rfl (by rw [h11]; simp only [Bool.false_and]) ?_
        refine sxo_nil ?_
        exact sxq_case (lk_cons rfl (lk_cons rfl lk_nil))
      refine sxo_take (os := _) rfl ?_
      refine sxo_eqb rfl Try.underlying4 rfl rfl rfl ?_
      refine sxo_assign rfl rfl rfl ?_
      refine sxo_nil ?_
      refine sxq_next ?_
      refine sxc_ret ?_
      refine sxq_thenR ?_
      exact sxq_doneP () (.inl rfl) (res1 rfl rfl) (fun h => by subst h; rfl) (fun h => by subst h; exact .nil)
    · refine sxc_skip ?_
      refine sxq_next ?_
      refine sxc_seq ?_
      refine sxc_region ?_
      refine sxo_move rfl rfl rfl ?_
      refine sxo_call ent15 rfl rfl rfl (fun x12 e12 => C_fib_Number F x1 x12 e12) .nil (fun x12 e12 => ?_)
      intro _
      refine sxo_move rfl rfl rfl ?_
      refine sxo_extract rfl rfl rfl rfl ?_
      refine sxo_extract rfl rfl rfl rfl ?_
      refine sxo_assign rfl rfl rfl ?_
      refine sxo_assign rfl rfl rfl ?_
      refine sxo_nil ?_
      refine sxq_next ?_
      refine sxc_seq ?_
      refine sxc_region ?_
      refine sxo_move rfl rfl rfl ?_
      refine sxo_add rfl rfl rfl rfl ?_
      refine sxo_call ent15 rfl rfl rfl (fun x13 e13 => C_fib_Number F (iadd .i64 x1 1) x13 e13) .nil (fun x13 e13 => ?_)
      intro _
      refine sxo_move rfl rfl rfl ?_
      refine sxo_extract rfl rfl rfl rfl ?_
      refine sxo_extract rfl rfl rfl rfl ?_
      refine sxo_assign rfl rfl rfl ?_
      refine sxo_assign rfl rfl rfl ?_
      refine sxo_nil ?_
      refine sxq_next ?_
      refine sxc_seq ?_
      refine sxc_region ?_
      refine sxo_move rfl rfl rfl ?_
      refine sxo_add rfl rfl rfl rfl ?_
      refine sxo_call ent15 rfl rfl rfl (fun x14 e14 => C_fib_Number F (iadd .i64 x1 2) x14 e14) .nil (fun x14 e14 => ?_)
      intro _
      refine sxo_move rfl rfl rfl ?_
      refine sxo_extract rfl rfl rfl rfl ?_
      refine sxo_extract rfl rfl rfl rfl ?_
      refine sxo_assign rfl rfl rfl ?_
      refine sxo_assign rfl rfl rfl ?_
      refine sxo_nil ?_
      refine sxq_next ?_
      refine sxc_seq ?_
      refine sxc_region ?_
      refine sxo_assign rfl rfl rfl ?_
      refine sxo_nil ?_
      refine sxq_next ?_
      refine sxc_join (fun ((x58, (a56, c57)) : (List Int × (Option Addr × Nat))) => [(5, .int .u64 x12.1), (6, .int .i64 x12.2), (7, .int .u64 x13.1), (8, .int .i64 x13.2), (9, .int .u64 x14.1), (10, .int .i64 x14.2), (11, .slice a56 x58.length c57)]) (fun ((x58, (a56, c57)) : (List Int × (Option Addr × Nat))) => []) (fun ((x58, (a56, c57)) : (List Int × (Option Addr × Nat))) => [Ro (eI .i64) 3 1 (.slice a56 x58.length c57) x58]) (fun ((x58, (a56, c57)) : (List Int × (Option Addr × Nat))) => []) (fun ((x58, _) : (List Int × (Option Addr × Nat))) => M_L_FibNumbers_j2 F x12 x13 x14 x58) ?_ ?_
      · refine sxc_seq ?_
        refine sxc_region ?_
        refine sxo_move rfl rfl rfl ?_
        refine sxo_rem rfl rfl rfl rfl rfl ?_
        refine sxo_assign rfl rfl rfl ?_
        refine sxo_nil ?_
        refine sxq_next ?_
        refine sxc_block ?_
        refine sxc_nilrow Int (eI .i64) 3 1 ?_
        refine sxc_loopP (fun (((x79, x80), (a77, c78)) : ((List Int × Int) × (Option Addr × Nat))) => [(0, .int .i64 x1), (5, .int .u64 x12.1), (6, .int .i64 x12.2), (7, .int .u64 x13.1), (8, .int .i64 x13.2), (9, .int .u64 x14.1), (10, .int .i64 x14.2), (11, .slice a77 x79.length c78), (12, .int .i64 x80)]) (fun (((x79, x80), (a77, c78)) : ((List Int × Int) × (Option Addr × Nat))) => []) (fun (((x79, x80), (a77, c78)) : ((List Int × Int) × (Option Addr × Nat))) => [Ro (eI .i64) 3 1 (.slice a77 x79.length c78) x79]) (fun (((x79, x80), (a77, c78)) : ((List Int × Int) × (Option Addr × Nat))) => []) (fun k (s : ((List Int × Int) × (Option Addr × Nat))) => M_L_FibNumbers_l3 F x1 x12 x13 x14 k s.1) ((([] : List Int), irem x1 2), (none, 0)) F (lk_cons rfl (lk_cons rfl (lk_cons rfl (lk_cons rfl (lk_cons rfl (lk_cons rfl (lk_cons rfl (lk_cons rfl (lk_cons rfl lk_nil))))))))) .nil (.cons 0 rfl .nil) fk_nil (fun _ => rfl) ?_
        intro k93
        rintro ⟨⟨x79, x80⟩, ⟨a77, c78⟩⟩
        try dsimp only
        refine sxc_meq (m' := M_L_FibNumbers_b3 F x1 x12 x13 x14 (M_L_FibNumbers_l3 F x1 x12 x13 x14 k93) x79 x80) rfl ?_
        refine sxc_seq ?_
        refine sxc_seq ?_
        refine sxc_region ?_
        refine sxo_move rfl rfl rfl ?_
        refine sxo_move rfl rfl rfl ?_
        refine sxo_leq rfl rfl rfl rfl ?_
        refine sxo_nil ?_
        refine sxq_next ?_
        refine sxc_if rfl (fun h105 => ?_) (fun h105 => ?_)
        · refine sxc_skip ?_
          refine sxq_next ?_
          refine sxc_seq ?_
          refine sxc_block ?_
          refine sxc_region ?_
          refine sxo_move rfl rfl rfl ?_
          refine sxo_move rfl rfl rfl ?_
          refine sxo_slit (vs := [.int .i64 x80]) (ys := ([x80] : List Int)) (eI_ok .i64) (by decide) rfl Try.underlying23 tf3 rfl rfl rfl rfl rfl (by decide) (fun a100 c101 => ?_)
          refine sxo_app 1 (eI_ok .i64) rfl Try.underlying23 tf3 rfl rfl rfl rfl rfl (.inl ⟨0, _, rfl⟩) rfl rfl (fun x102 e102 a103 c104 => ?_)
          refine sxo_assign rfl rfl rfl ?_
          refine sxo_nil ?_
          refine sxq_blkN ?_
          refine sxq_next ?_
          refine sxc_region ?_
          refine sxo_move rfl rfl rfl ?_
          refine sxo_add rfl rfl rfl rfl ?_
          refine sxo_assign rfl rfl rfl ?_
          refine sxo_nil ?_
          exact sxq_againP ((x102, iadd .i64 x80 2), (a103, c104)) (lk_cons rfl (lk_cons rfl (lk_cons rfl (lk_cons rfl (lk_cons rfl (lk_cons rfl (lk_cons rfl (lk_cons rfl (lk_cons rfl lk_nil))))))))) .nil (.cons 0 rfl .nil) fk_nil
        · refine sxc_exit ?_
          refine sxq_thenX ?_
          refine sxq_thenX ?_
          refine sxq_blkX ?_
          exact sxq_meetP (x79, (a77, c78)) (lk_cons rfl (lk_cons rfl (lk_cons rfl (lk_cons rfl (lk_cons rfl (lk_cons rfl (lk_cons rfl lk_nil))))))) .nil (.cons 0 rfl .nil) fk_nil
      · rintro ⟨x58, ⟨a56, c57⟩⟩
        try dsimp only
        refine sxc_seq ?_
        refine sxc_region ?_
        refine sxo_move rfl rfl rfl ?_
        refine sxo_call ent17 rfl rfl rfl (fun x59 e59 => C_fib_Sum F x58 a56 c57 x59 e59) (.consR 0 (Ro (eI .i64) 3 1 (.slice a56 x58.length c57) x58) rfl .nil) (fun x59 e59 => ?_)
        intro _
        refine sxo_move rfl rfl rfl ?_
        refine sxo_extract rfl rfl rfl rfl ?_
        refine sxo_extract rfl rfl rfl rfl ?_
        refine sxo_assign rfl rfl rfl ?_
        refine sxo_assign rfl rfl rfl ?_
        refine sxo_nil ?_
        refine sxq_next ?_
        refine sxc_seq ?_
        refine sxc_region ?_
        refine sxo_move rfl rfl rfl ?_
        refine sxo_eql rfl rfl rfl rfl ?_
        refine sxo_move rfl rfl rfl ?_
        refine sxo_case 3 ((x12.2 : Int) == 0) [(5, .int .u64 x12.1), (7, .int .u64 x13.1), (9, .int .u64 x14.1), (10, .int .i64 x14.2), (13, .int .u64 x59.1), (14, .int .i64 x59.2), (75, .bool (((x12.2 : Int) == 0) && ((x13.2 : Int) == 0)))] (fun h60 => ?_) (fun h60 => ?_) ?_
        · refine sxo_take (os := _) rfl ?_
          refine sxo_isT (k := 72) rfl h60 ?_
          refine sxo_move rfl rfl rfl ?_
          refine sxo_eql rfl rfl rfl rfl ?_
          refine sxo_pick (b := true) rfl rfl rfl rfl ?_
          refine sxo_again (d := 75) (v := .bool (((x12.2 : Int) == 0) && ((x13.2 : Int) == 0))) rfl (by rw [h60]; simp only [Bool.true_and]) ?_
          refine sxo_nil ?_
          exact sxq_case (lk_cons rfl (lk_cons rfl (lk_cons rfl (lk_cons rfl (lk_cons rfl (lk_cons rfl (lk_cons rfl lk_nil)))))))
        · refine sxo_take (os := _) rfl ?_
          refine sxo_isF (k := 72) rfl h60 ?_
          refine sxo_skip rfl rfl rfl ?_
          refine sxo_skip rfl rfl rfl ?_
          refine sxo_pick (b := false) rfl rfl rfl rfl ?_
          refine sxo_again (d := 75) (v := .bool (((x12.2 : Int) == 0) && ((x13.2 : Int) == 0))) rfl (by rw [h60]; simp only [Bool.false_and]) ?_
          refine sxo_nil ?_
          exact sxq_case (lk_cons rfl (lk_cons rfl (lk_cons rfl (lk_cons rfl (lk_cons rfl (lk_cons rfl (lk_cons rfl lk_nil)))))))
        refine sxo_take (os := _) rfl ?_
        refine sxo_move rfl rfl rfl ?_
        refine sxo_case 3 (((x12.2 : Int) == 0) && ((x13.2 : Int) == 0)) [(5, .int .u64 x12.1), (7, .int .u64 x13.1), (9, .int .u64 x14.1), (13, .int .u64 x59.1), (14, .int .i64 x59.2), (79, .bool ((((x12.2 : Int) == 0) && ((x13.2 : Int) == 0)) && ((x14.2 : Int) == 0)))] (fun h61 => ?_) (fun h61 => ?_) ?_
        · refine sxo_take (os := _) rfl ?_
          refine sxo_isT (k := 76) rfl h61 ?_
          refine sxo_move rfl rfl rfl ?_
          refine sxo_eql rfl rfl rfl rfl ?_
          refine sxo_pick (b := true) rfl rfl rfl rfl ?_
          refine sxo_again (d := 79) (v := .bool ((((x12.2 : Int) == 0) && ((x13.2 : Int) == 0)) && ((x14.2 : Int) == 0))) rfl (by rw [h61]; simp only [Bool.true_and]) ?_
          refine sxo_nil ?_
          exact sxq_case (lk_cons rfl (lk_cons rfl (lk_cons rfl (lk_cons rfl (lk_cons rfl (lk_cons rfl lk_nil))))))
        · refine sxo_take (os := _) rfl ?_
          refine sxo_isF (k := 76) rfl h61 ?_
          refine sxo_skip rfl rfl rfl ?_
          refine sxo_skip rfl rfl rfl ?_
          refine sxo_pick (b := false) rfl rfl rfl rfl ?_
          refine sxo_again (d := 79) (v := .bool ((((x12.2 : Int) == 0) && ((x13.2 : Int) == 0)) && ((x14.2 : Int) == 0))) rfl (by rw [h61]; simp only [Bool.false_and]) ?_
          refine sxo_nil ?_
          exact sxq_case (lk_cons rfl (lk_cons rfl (lk_cons rfl (lk_cons rfl (lk_cons rfl (lk_cons rfl lk_nil))))))
        refine sxo_take (os := _) rfl ?_
        refine sxo_move rfl rfl rfl ?_
        refine sxo_case 3 ((((x12.2 : Int) == 0) && ((x13.2 : Int) == 0)) && ((x14.2 : Int) == 0)) [(5, .int .u64 x12.1), (7, .int .u64 x13.1), (9, .int .u64 x14.1), (13, .int .u64 x59.1), (83, .bool (((((x12.2 : Int) == 0) && ((x13.2 : Int) == 0)) && ((x14.2 : Int) == 0)) && ((x59.2 : Int) == 0)))] (fun h62 => ?_) (fun h62 => ?_) ?_
        · refine sxo_take (os := _) rfl ?_
          refine sxo_isT (k := 80) rfl h62 ?_
          refine sxo_move rfl rfl rfl ?_
          refine sxo_eql rfl rfl rfl rfl ?_
          refine sxo_pick (b := true) rfl rfl rfl rfl ?_
          refine sxo_again (d := 83) (v := .bool (((((x12.2 : Int) == 0) && ((x13.2 : Int) == 0)) && ((x14.2 : Int) == 0)) && ((x59.2 : Int) == 0))) rfl (by rw [h62]; simp only [Bool.true_and]) ?_
          refine sxo_nil ?_
          exact sxq_case (lk_cons rfl (lk_cons rfl (lk_cons rfl (lk_cons rfl (lk_cons rfl lk_nil)))))
        · refine sxo_take (os := _) rfl ?_
          refine sxo_isF (k := 80) rfl h62 ?_
          refine sxo_skip rfl rfl rfl ?_
          refine sxo_skip rfl rfl rfl ?_
          refine sxo_pick (b := false) rfl rfl rfl rfl ?_
          refine sxo_again (d := 83) (v := .bool (((((x12.2 : Int) == 0) && ((x13.2 : Int) == 0)) && ((x14.2 : Int) == 0)) && ((x59.2 : Int) == 0))) rfl (by rw [h62]; simp only [Bool.false_and]) ?_
          refine sxo_nil ?_
          exact sxq_case (lk_cons rfl (lk_cons rfl (lk_cons rfl (lk_cons rfl (lk_cons rfl lk_nil)))))
        refine sxo_take (os := _) rfl ?_
        refine sxo_move rfl rfl rfl ?_
        refine sxo_case 6 (((((x12.2 : Int) == 0) && ((x13.2 : Int) == 0)) && ((x14.2 : Int) == 0)) && ((x59.2 : Int) == 0)) [(7, .int .u64 x13.1), (13, .int .u64 x59.1), (90, .bool ((((((x12.2 : Int) == 0) && ((x13.2 : Int) == 0)) && ((x14.2 : Int) == 0)) && ((x59.2 : Int) == 0)) && ((x14.1 : Int) == (iadd .u64 x12.1 x13.1))))] (fun h63 => ?_) (fun h63 => ?_) ?_
        · refine sxo_take (os := _) rfl ?_
          refine sxo_isT (k := 84) rfl h63 ?_
          refine sxo_move rfl rfl rfl ?_
          refine sxo_move rfl rfl rfl ?_
          refine sxo_move rfl rfl rfl ?_
          refine sxo_add rfl rfl rfl rfl ?_
          refine sxo_eql rfl rfl rfl rfl ?_
          refine sxo_pick (b := true) rfl rfl rfl rfl ?_
          refine sxo_again (d := 90) (v := .bool ((((((x12.2 : Int) == 0) && ((x13.2 : Int) == 0)) && ((x14.2 : Int) == 0)) && ((x59.2 : Int) == 0)) && ((x14.1 : Int) == (iadd .u64 x12.1 x13.1)))) rfl (by rw [h63]; simp only [Bool.true_and]) ?_
          refine sxo_nil ?_
          exact sxq_case (lk_cons rfl (lk_cons rfl (lk_cons rfl lk_nil)))
        · refine sxo_take (os := _) rfl ?_
          refine sxo_isF (k := 84) rfl h63 ?_
          refine sxo_skip rfl rfl rfl ?_
          refine sxo_skip rfl rfl rfl ?_
          refine sxo_skip rfl rfl rfl ?_
          refine sxo_skip rfl rfl rfl ?_
          refine sxo_skip rfl rfl rfl ?_
          refine sxo_pick (b := false) rfl rfl rfl rfl ?_
          refine sxo_again (d := 90) (v := .bool ((((((x12.2 : Int) == 0) && ((x13.2 : Int) == 0)) && ((x14.2 : Int) == 0)) && ((x59.2 : Int) == 0)) && ((x14.1 : Int) == (iadd .u64 x12.1 x13.1)))) rfl (by rw [h63]; simp only [Bool.false_and]) ?_
          refine sxo_nil ?_
          exact sxq_case (lk_cons rfl (lk_cons rfl (lk_cons rfl lk_nil)))
        refine sxo_take (os := _) rfl ?_
        refine sxo_move rfl rfl rfl ?_
        refine sxo_case 5 ((((((x12.2 : Int) == 0) && ((x13.2 : Int) == 0)) && ((x14.2 : Int) == 0)) && ((x59.2 : Int) == 0)) && ((x14.1 : Int) == (iadd .u64 x12.1 x13.1))) [(96, .bool (((((((x12.2 : Int) == 0) && ((x13.2 : Int) == 0)) && ((x14.2 : Int) == 0)) && ((x59.2 : Int) == 0)) && ((x14.1 : Int) == (iadd .u64 x12.1 x13.1))) && (((iadd .u64 x59.1 1) : Int) == x13.1)))] (fun h64 => ?_) (fun h64 => ?_) ?_
        · refine sxo_take (os := _) rfl ?_
          refine sxo_isT (k := 91) rfl h64 ?_
          refine sxo_move rfl rfl rfl ?_
          refine sxo_add rfl rfl rfl rfl ?_
          refine sxo_move rfl rfl rfl ?_
          refine sxo_eql rfl rfl rfl rfl ?_
          refine sxo_pick (b := true) rfl rfl rfl rfl ?_
          refine sxo_again (d := 96) (v := .bool (((((((x12.2 : Int) == 0) && ((x13.2 : Int) == 0)) && ((x14.2 : Int) == 0)) && ((x59.2 : Int) == 0)) && ((x14.1 : Int) == (iadd .u64 x12.1 x13.1))) && (((iadd .u64 x59.1 1) : Int) == x13.1))) rfl (by rw [h64]; simp only [Bool.true_and]) ?_
          refine sxo_nil ?_
          exact sxq_case (lk_cons rfl lk_nil)
        · refine sxo_take (os := _) rfl ?_
          refine sxo_isF (k := 91) rfl h64 ?_
          refine sxo_skip rfl rfl rfl ?_
          refine sxo_skip rfl rfl rfl ?_
          refine sxo_skip rfl rfl rfl ?_
          refine sxo_skip rfl rfl rfl ?_
          refine sxo_pick (b := false) rfl rfl rfl rfl ?_
          refine sxo_again (d := 96) (v := .bool (((((((x12.2 : Int) == 0) && ((x13.2 : Int) == 0)) && ((x14.2 : Int) == 0)) && ((x59.2 : Int) == 0)) && ((x14.1 : Int) == (iadd .u64 x12.1 x13.1))) && (((iadd .u64 x59.1 1) : Int) == x13.1))) rfl (by rw [h64]; simp only [Bool.false_and]) ?_
          refine sxo_nil ?_
          exact sxq_case (lk_cons rfl lk_nil)
        refine sxo_take (os := _) rfl ?_
        refine sxo_assign rfl rfl rfl ?_
        refine sxo_nil ?_
        refine sxq_next ?_
        refine sxc_ret ?_
        exact sxq_doneP () (.inl rfl) (res1 rfl rfl) (fun h => by subst h; rfl) (fun h => by subst h; exact .nil)

set_option maxHeartbeats 4000000 in
theorem C_L_FibLong (F : Nat) (x1 : Int) (x2 : Int) (r : Bool) (hm : M_L_FibLong F x1 x2 = some r) :
    Pure Try.prog 5 [.int .u64 x1, .int .u64 x2] [] Unit (fun _ => .bool r) (fun _ => []) (fun _ => []) := by
  refine pure_of Try.func5 rfl Try.ntmps5 rfl hm (fun w => ?_)
  refine sxc_env (l' := [(0, .int .u64 x1), (1, .int .u64 x2)]) rfl ?_
  refine sxc_seq ?_
  refine sxc_region ?_
  refine sxo_assign rfl rfl rfl ?_
  refine sxo_nil ?_
  refine sxq_next ?_
  refine sxc_seq ?_
  refine sxc_region ?_
  refine sxo_move rfl rfl rfl ?_
  refine sxo_call ent18 rfl rfl rfl (fun x3 e3 => C_fib_Code F x1 x3 e3) .nil (fun x3 e3 => ?_)
  rintro ⟨a4, c5⟩
  refine sxo_move rfl rfl rfl ?_
  refine sxo_extract rfl rfl rfl rfl ?_
  refine sxo_extract rfl rfl rfl rfl ?_
  refine sxo_alloc rfl tf26 rfl (fun g6 => ?_)
  refine sxo_storeB (i := 0) rfl rfl rfl tf26 rfl rfl rfl rfl rfl ?_
  refine sxo_assign rfl rfl rfl ?_
  refine sxo_nil ?_
  refine sxq_next ?_
  refine sxc_seq ?_
  refine sxc_region ?_
  refine sxo_move rfl rfl rfl ?_
  refine sxo_call ent18 rfl rfl rfl (fun x7 e7 => C_fib_Code F x2 x7 e7) .nil (fun x7 e7 => ?_)
  rintro ⟨a8, c9⟩
  refine sxo_move rfl rfl rfl ?_
  refine sxo_extract rfl rfl rfl rfl ?_
  refine sxo_extract rfl rfl rfl rfl ?_
  refine sxo_alloc rfl tf26 rfl (fun g10 => ?_)
  refine sxo_storeB (i := 0) rfl rfl rfl tf26 rfl rfl rfl rfl rfl ?_
  refine sxo_assign rfl rfl rfl ?_
  refine sxo_nil ?_
  refine sxq_next ?_
  refine sxc_seq ?_
  refine sxc_seq ?_
  refine sxc_region ?_
  refine sxo_call ent28 rfl rfl rfl (fun x13 e13 => C_L_fibBegun F  x13 e13) .nil (fun x13 e13 => ?_)
  intro _
  refine sxo_not rfl rfl rfl ?_
  refine sxo_nil ?_
  refine sxq_next ?_
  refine sxc_if rfl (fun h26 => ?_) (fun h26 => ?_)
  · refine sxc_seq ?_
    refine sxc_region ?_
    refine sxo_assign rfl rfl rfl ?_
    refine sxo_nil ?_
    refine sxq_next ?_
    refine sxc_ret ?_
    refine sxq_thenR ?_
    exact sxq_doneP () (.inl rfl) (res1 rfl rfl) (fun h => by subst h; rfl) (fun h => by subst h; exact .nil)
  · refine sxc_skip ?_
    refine sxq_next ?_
    refine sxc_seq ?_
    refine sxc_seq ?_
    refine sxc_region ?_
    refine sxo_move rfl rfl rfl ?_
    refine sxo_neq rfl rfl rfl rfl ?_
    refine sxo_move rfl rfl rfl ?_
    refine sxo_case 3 ((x3.2.2 : Int) != 0) [(0, .int .u64 x1), (1, .int .u64 x2), (5, .pointer (some ⟨g6, 0, none⟩)), (7, .pointer (some ⟨g10, 0, none⟩)), (30, .bool (((x3.2.2 : Int) != 0) || ((x7.2.2 : Int) != 0)))] (fun h17 => ?_) (fun h17 => ?_) ?_
    · refine sxo_take (os := _) rfl ?_
      refine sxo_isT (k := 27) rfl h17 ?_
      refine sxo_skip rfl rfl rfl ?_
      refine sxo_skip rfl rfl rfl ?_
      refine sxo_pick (b := true) rfl rfl rfl rfl ?_
      refine sxo_again (d := 30) (v := .bool (((x3.2.2 : Int) != 0) || ((x7.2.2 : Int) != 0))) rfl (by rw [h17]; simp only [Bool.true_or]) ?_
      refine sxo_nil ?_
      exact sxq_case (lk_cons rfl (lk_cons rfl (lk_cons rfl (lk_cons rfl (lk_cons rfl lk_nil)))))
    · refine sxo_take (os := _) rfl ?_
      refine sxo_isF (k := 27) rfl h17 ?_
      refine sxo_move rfl rfl rfl ?_
      refine sxo_neq rfl rfl rfl rfl ?_
      refine sxo_pick (b := false) rfl rfl rfl rfl ?_
      refine sxo_again (d := 30) (v := .bool (((x3.2.2 : Int) != 0) || ((x7.2.2 : Int) != 0))) rfl (by rw [h17]; simp only [Bool.false_or]) ?_
      refine sxo_nil ?_
      exact sxq_case (lk_cons rfl (lk_cons rfl (lk_cons rfl (lk_cons rfl (lk_cons rfl lk_nil)))))
    refine sxo_take (os := _) rfl ?_
    refine sxo_move rfl rfl rfl ?_
    refine sxo_case 4 (((x3.2.2 : Int) != 0) || ((x7.2.2 : Int) != 0)) [(0, .int .u64 x1), (5, .pointer (some ⟨g6, 0, none⟩)), (7, .pointer (some ⟨g10, 0, none⟩)), (35, .bool ((((x3.2.2 : Int) != 0) || ((x7.2.2 : Int) != 0)) || (decide (x2 < x1))))] (fun h18 => ?_) (fun h18 => ?_) ?_
    · refine sxo_take (os := _) rfl ?_
      refine sxo_isT (k := 31) rfl h18 ?_
      refine sxo_skip rfl rfl rfl ?_
      refine sxo_skip rfl rfl rfl ?_
      refine sxo_skip rfl rfl rfl ?_
      refine sxo_pick (b := true) rfl rfl rfl rfl ?_
      refine sxo_again (d := 35) (v := .bool ((((x3.2.2 : Int) != 0) || ((x7.2.2 : Int) != 0)) || (decide (x2 < x1)))) rfl (by rw [h18]; simp only [Bool.true_or]) ?_
      refine sxo_nil ?_
      exact sxq_case (lk_cons rfl (lk_cons rfl (lk_cons rfl (lk_cons rfl lk_nil))))
    · refine sxo_take (os := _) rfl ?_
      refine sxo_isF (k := 31) rfl h18 ?_
      refine sxo_move rfl rfl rfl ?_
      refine sxo_move rfl rfl rfl ?_
      refine sxo_gtr rfl rfl rfl rfl ?_
      refine sxo_pick (b := false) rfl rfl rfl rfl ?_
      refine sxo_again (d := 35) (v := .bool ((((x3.2.2 : Int) != 0) || ((x7.2.2 : Int) != 0)) || (decide (x2 < x1)))) rfl (by rw [h18]; simp only [Bool.false_or]) ?_
      refine sxo_nil ?_
      exact sxq_case (lk_cons rfl (lk_cons rfl (lk_cons rfl (lk_cons rfl lk_nil))))
    refine sxo_take (os := _) rfl ?_
    refine sxo_nil ?_
    refine sxq_next ?_
    refine sxc_if rfl (fun h25 => ?_) (fun h25 => ?_)
    · refine sxc_seq ?_
      refine sxc_region ?_
      refine sxo_assign rfl rfl rfl ?_
      refine sxo_nil ?_
      refine sxq_next ?_
      refine sxc_ret ?_
      refine sxq_thenR ?_
      exact sxq_doneP () (.inl rfl) (res1 rfl rfl) (fun h => by subst h; rfl) (fun h => by subst h; exact .nil)
    · refine sxc_skip ?_
      refine sxq_next ?_
      refine sxc_seq ?_
      refine sxc_region ?_
      refine sxo_fieldAddr rfl rfl ff26_0 rfl ?_
      refine sxo_loadB (i := 1) rfl rfl tf3 rfl rfl (fun _ => rfl) rfl rfl ?_
      refine sxo_sub rfl rfl rfl rfl ?_
      refine sxo_call ent15 rfl rfl rfl (fun x19 e19 => C_fib_Number F (isub .i64 x3.1 2) x19 e19) .nil (fun x19 e19 => ?_)
      intro _
      refine sxo_move rfl rfl rfl ?_
      refine sxo_extract rfl rfl rfl rfl ?_
      refine sxo_extract rfl rfl rfl rfl ?_
      refine sxo_assign rfl rfl rfl ?_
      refine sxo_assign rfl rfl rfl ?_
      refine sxo_nil ?_
      refine sxq_next ?_
      refine sxc_seq ?_
      refine sxc_region ?_
      refine sxo_fieldAddr rfl rfl ff26_0 rfl ?_
      refine sxo_loadB (i := 1) rfl rfl tf3 rfl rfl (fun _ => rfl) rfl rfl ?_
      refine sxo_sub rfl rfl rfl rfl ?_
      refine sxo_call ent15 rfl rfl rfl (fun x20 e20 => C_fib_Number F (isub .i64 x3.1 1) x20 e20) .nil (fun x20 e20 => ?_)
      intro _
      refine sxo_move rfl rfl rfl ?_
      refine sxo_extract rfl rfl rfl rfl ?_
      refine sxo_extract rfl rfl rfl rfl ?_
      refine sxo_assign rfl rfl rfl ?_
      refine sxo_assign rfl rfl rfl ?_
      refine sxo_nil ?_
      refine sxq_next ?_
      refine sxc_seq ?_
      refine sxc_region ?_
      refine sxo_fieldAddr rfl rfl ff26_0 rfl ?_
      refine sxo_loadB (i := 1) rfl rfl tf3 rfl rfl (fun _ => rfl) rfl rfl ?_
      refine sxo_fieldAddr rfl rfl ff26_0 rfl ?_
      refine sxo_loadB (i := 0) rfl rfl tf3 rfl rfl (fun _ => rfl) rfl rfl ?_
      refine sxo_leq rfl rfl rfl rfl ?_
      refine sxo_move rfl rfl rfl ?_
      refine sxo_case 3 (decide (x3.1 ≤ x7.1)) [(0, .int .u64 x1), (9, .int .u64 x19.1), (11, .int .u64 x20.1), (12, .int .i64 x20.2), (58, .bool ((decide (x3.1 ≤ x7.1)) && ((x19.2 : Int) == 0)))] (fun h21 => ?_) (fun h21 => ?_) ?_
      · refine sxo_take (os := _) rfl ?_
        refine sxo_isT (k := 55) rfl h21 ?_
        refine sxo_move rfl rfl rfl ?_
        refine sxo_eql rfl rfl rfl rfl ?_
        refine sxo_pick (b := true) rfl rfl rfl rfl ?_
        refine sxo_again (d := 58) (v := .bool ((decide (x3.1 ≤ x7.1)) && ((x19.2 : Int) == 0))) rfl (by rw [h21]; simp only [Bool.true_and]) ?_
        refine sxo_nil ?_
        exact sxq_case (lk_cons rfl (lk_cons rfl (lk_cons rfl (lk_cons rfl (lk_cons rfl lk_nil)))))
      · refine sxo_take (os := _) rfl ?_
        refine sxo_isF (k := 55) rfl h21 ?_
        refine sxo_skip rfl rfl rfl ?_
        refine sxo_skip rfl rfl rfl ?_
        refine sxo_pick (b := false) rfl rfl rfl rfl ?_
        refine sxo_again (d := 58) (v := .bool ((decide (x3.1 ≤ x7.1)) && ((x19.2 : Int) == 0))) rfl (by rw [h21]; simp only [Bool.false_and]) ?_
        refine sxo_nil ?_
        exact sxq_case (lk_cons rfl (lk_cons rfl (lk_cons rfl (lk_cons rfl (lk_cons rfl lk_nil)))))
      refine sxo_take (os := _) rfl ?_
      refine sxo_move rfl rfl rfl ?_
      refine sxo_case 3 ((decide (x3.1 ≤ x7.1)) && ((x19.2 : Int) == 0)) [(0, .int .u64 x1), (9, .int .u64 x19.1), (11, .int .u64 x20.1), (62, .bool (((decide (x3.1 ≤ x7.1)) && ((x19.2 : Int) == 0)) && ((x20.2 : Int) == 0)))] (fun h22 => ?_) (fun h22 => ?_) ?_
      · refine sxo_take (os := _) rfl ?_
        refine sxo_isT (k := 59) rfl h22 ?_
        refine sxo_move rfl rfl rfl ?_
        refine sxo_eql rfl rfl rfl rfl ?_
        refine sxo_pick (b := true) rfl rfl rfl rfl ?_
        refine sxo_again (d := 62) (v := .bool (((decide (x3.1 ≤ x7.1)) && ((x19.2 : Int) == 0)) && ((x20.2 : Int) == 0))) rfl (by rw [h22]; simp only [Bool.true_and]) ?_
        refine sxo_nil ?_
        exact sxq_case (lk_cons rfl (lk_cons rfl (lk_cons rfl (lk_cons rfl lk_nil))))
      · refine sxo_take (os := _) rfl ?_
        refine sxo_isF (k := 59) rfl h22 ?_
        refine sxo_skip rfl rfl rfl ?_
        refine sxo_skip rfl rfl rfl ?_
        refine sxo_pick (b := false) rfl rfl rfl rfl ?_
        refine sxo_again (d := 62) (v := .bool (((decide (x3.1 ≤ x7.1)) && ((x19.2 : Int) == 0)) && ((x20.2 : Int) == 0))) rfl (by rw [h22]; simp only [Bool.false_and]) ?_
        refine sxo_nil ?_
        exact sxq_case (lk_cons rfl (lk_cons rfl (lk_cons rfl (lk_cons rfl lk_nil))))
      refine sxo_take (os := _) rfl ?_
      refine sxo_move rfl rfl rfl ?_
      refine sxo_case 5 (((decide (x3.1 ≤ x7.1)) && ((x19.2 : Int) == 0)) && ((x20.2 : Int) == 0)) [(0, .int .u64 x1), (11, .int .u64 x20.1), (68, .bool ((((decide (x3.1 ≤ x7.1)) && ((x19.2 : Int) == 0)) && ((x20.2 : Int) == 0)) && (decide (x19.1 ≤ (iadd .u64 x1 1)))))] (fun h23 => ?_) (fun h23 => ?_) ?_
      · refine sxo_take (os := _) rfl ?_
        refine sxo_isT (k := 63) rfl h23 ?_
        refine sxo_move rfl rfl rfl ?_
        refine sxo_move rfl rfl rfl ?_
        refine sxo_add rfl rfl rfl rfl ?_
        refine sxo_leq rfl rfl rfl rfl ?_
        refine sxo_pick (b := true) rfl rfl rfl rfl ?_
        refine sxo_again (d := 68) (v := .bool ((((decide (x3.1 ≤ x7.1)) && ((x19.2 : Int) == 0)) && ((x20.2 : Int) == 0)) && (decide (x19.1 ≤ (iadd .u64 x1 1))))) rfl (by rw [h23]; simp only [Bool.true_and]) ?_
        refine sxo_nil ?_
        exact sxq_case (lk_cons rfl (lk_cons rfl (lk_cons rfl lk_nil)))
      · refine sxo_take (os := _) rfl ?_
        refine sxo_isF (k := 63) rfl h23 ?_
        refine sxo_skip rfl rfl rfl ?_
        refine sxo_skip rfl rfl rfl ?_
        refine sxo_skip rfl rfl rfl ?_
        refine sxo_skip rfl rfl rfl ?_
        refine sxo_pick (b := false) rfl rfl rfl rfl ?_
        refine sxo_again (d := 68) (v := .bool ((((decide (x3.1 ≤ x7.1)) && ((x19.2 : Int) == 0)) && ((x20.2 : Int) == 0)) && (decide (x19.1 ≤ (iadd .u64 x1 1))))) rfl (by rw [h23]; simp only [Bool.false_and]) ?_
        refine sxo_nil ?_
        exact sxq_case (lk_cons rfl (lk_cons rfl (lk_cons rfl lk_nil)))
      refine sxo_take (os := _) rfl ?_
      refine sxo_move rfl rfl rfl ?_
      refine sxo_case 5 ((((decide (x3.1 ≤ x7.1)) && ((x19.2 : Int) == 0)) && ((x20.2 : Int) == 0)) && (decide (x19.1 ≤ (iadd .u64 x1 1)))) [(74, .bool (((((decide (x3.1 ≤ x7.1)) && ((x19.2 : Int) == 0)) && ((x20.2 : Int) == 0)) && (decide (x19.1 ≤ (iadd .u64 x1 1)))) && (decide ((iadd .u64 x1 1) < x20.1))))] (fun h24 => ?_) (fun h24 => ?_) ?_
      · refine sxo_take (os := _) rfl ?_
        refine sxo_isT (k := 69) rfl h24 ?_
        refine sxo_move rfl rfl rfl ?_
        refine sxo_add rfl rfl rfl rfl ?_
        refine sxo_move rfl rfl rfl ?_
        refine sxo_lss rfl rfl rfl rfl ?_
        refine sxo_pick (b := true) rfl rfl rfl rfl ?_
        refine sxo_again (d := 74) (v := .bool (((((decide (x3.1 ≤ x7.1)) && ((x19.2 : Int) == 0)) && ((x20.2 : Int) == 0)) && (decide (x19.1 ≤ (iadd .u64 x1 1)))) && (decide ((iadd .u64 x1 1) < x20.1)))) rfl (by rw [h24]; simp only [Bool.true_and]) ?_
        refine sxo_nil ?_
        exact sxq_case (lk_cons rfl lk_nil)
      · refine sxo_take (os := _) rfl ?_
        refine sxo_isF (k := 69) rfl h24 ?_
        refine sxo_skip rfl rfl rfl ?_
        refine sxo_skip rfl rfl rfl ?_
        refine sxo_skip rfl rfl rfl ?_
        refine sxo_skip rfl rfl rfl ?_
        refine sxo_pick (b := false) rfl rfl rfl rfl ?_
        refine sxo_again (d := 74) (v := .bool (((((decide (x3.1 ≤ x7.1)) && ((x19.2 : Int) == 0)) && ((x20.2 : Int) == 0)) && (decide (x19.1 ≤ (iadd .u64 x1 1)))) && (decide ((iadd .u64 x1 1) < x20.1)))) rfl (by rw [h24]; simp only [Bool.false_and]) ?_
        refine sxo_nil ?_
        exact sxq_case (lk_cons rfl lk_nil)
      refine sxo_take (os := _) rfl ?_
      refine sxo_assign rfl rfl rfl ?_
      refine sxo_nil ?_
      refine sxq_next ?_
      refine sxc_ret ?_
      exact sxq_doneP () (.inl rfl) (res1 rfl rfl) (fun h => by subst h; rfl) (fun h => by subst h; exact .nil)

theorem C_bits_places (F : Nat) (x1 : Int) (x2 : List Int) (a3 : Option Addr) (c4 : Nat) (x5 : Int) (x6 : Int) (r : Unit) (hm : M_bits_places F x1 x2 x5 x6 = some r) :
    PureM Try.prog 66 [.agg #[.int .i64 x1, .slice a3 x2.length c4], .int .i64 x5, .int .i64 x6] [] [] [Sl (eI .u8) 1 (.slice a3 x2.length c4) x2] (Nat × Nat × Nat) (fun g => .func (.func 83) #[] #[.pointer (some ⟨g.1, 0, none⟩), .pointer (some ⟨g.2.1, 0, none⟩), .pointer (some ⟨g.2.2, 0, none⟩)]) (fun g => [⟨g.1, 3, [.int .i64 x5]⟩, ⟨g.2.1, 3, [.int .i64 x6]⟩, ⟨g.2.2, 26, [.int .i64 x1, .slice a3 x2.length c4]⟩]) (fun _ => []) := by
  refine pureM_of Try.func66 rfl Try.ntmps66 rfl hm (fun w => ?_)
  refine sxc_env (l' := [(0, .agg #[.int .i64 x1, .slice a3 x2.length c4]), (1, .int .i64 x5), (2, .int .i64 x6)]) rfl ?_
  refine sxc_seq ?_
  refine sxc_region ?_
  refine sxo_box rfl rfl rfl (fun g7 => ?_)
  refine sxo_box rfl rfl rfl (fun g8 => ?_)
  refine sxo_box rfl rfl rfl (fun g9 => ?_)
  refine sxo_assign rfl rfl rfl ?_
  refine sxo_nil ?_
  refine sxq_next ?_
  refine sxc_seq ?_
  refine sxc_region ?_
  refine sxo_makeFunc rfl rfl rfl ?_
  refine sxo_assign rfl rfl rfl ?_
  refine sxo_nil ?_
  refine sxq_next ?_
  refine sxc_ret ?_
  exact sxq_doneM (g8, g9, g7) (.inl rfl) (res1 rfl rfl) (fun h => by subst h; rfl) (fun h => by subst h; exact (.cons 1 rfl (.cons 0 rfl (.cons 0 rfl .nil)))) (fun h => by subst h; exact .nil)

theorem C_bits_places_1 (F : Nat) {σ τ : Type} {J : Rounds σ τ} {yy : σ → Int → Option (σ ⊕ τ)} {L : Nat} (hY : YieldC Try.prog L (fun (p : Int) => [.int .u64 p]) J yy) (s0 : σ) (gs0 : J.γ) (g1 : Nat) (x2 : Int) (g3 : Nat) (x4 : Int) (g5 : Nat) (x6 : Int) (x7 : List Int) (a8 : Option Addr) (c9 : Nat) (r : σ ⊕ τ) (hm : M_bits_places_1 F yy x2 x4 x6 x7 s0 = some r) :
    PureM Try.prog 83 ([.func (.yield L) #[] #[], .pointer (some ⟨g1, 0, none⟩), .pointer (some ⟨g3, 0, none⟩), .pointer (some ⟨g5, 0, none⟩)]) ([⟨g1, 3, [.int .i64 x2]⟩, ⟨g3, 3, [.int .i64 x4]⟩, ⟨g5, 26, [.int .i64 x6, .slice a8 x7.length c9]⟩] ++ J.IB s0 gs0) (J.IR s0 gs0) [J.F, Sl (eI .u8) 1 (.slice a8 x7.length c9) x7] (J.G r) (fun _ => .tuple #[]) (fun g => [⟨g1, 3, [.int .i64 x2]⟩, ⟨g3, 3, [.int .i64 x4]⟩, ⟨g5, 26, [.int .i64 x6, .slice a8 x7.length c9]⟩] ++ J.bs r g) (fun g => J.rs r g) := by
  refine pureM_of Try.func83 rfl Try.ntmps83 rfl hm (fun w => ?_)
  refine sxc_env (l' := [(0, .func (.yield L) #[] #[]), (1, .pointer (some ⟨g1, 0, none⟩)), (2, .pointer (some ⟨g3, 0, none⟩)), (3, .pointer (some ⟨g5, 0, none⟩))]) rfl ?_
  refine sxc_seq ?_
  refine sxc_region ?_
  refine sxo_loadB (i := 0) rfl rfl tf3 rfl rfl (fun _ => rfl) rfl rfl ?_
  refine sxo_assign rfl rfl rfl ?_
  refine sxo_nil ?_
  refine sxq_next ?_
  refine sxc_block ?_
  refine sxc_loopP (fun (((x22, x23), g24) : ((Int × σ) × J.γ)) => [(0, .func (.yield L) #[] #[]), (2, .pointer (some ⟨g3, 0, none⟩)), (3, .pointer (some ⟨g5, 0, none⟩)), (5, .int .i64 x22)]) (fun (((x22, x23), g24) : ((Int × σ) × J.γ)) => [⟨g1, 3, [.int .i64 x2]⟩, ⟨g3, 3, [.int .i64 x4]⟩, ⟨g5, 26, [.int .i64 x6, .slice a8 x7.length c9]⟩] ++ J.IB x23 g24) (fun (((x22, x23), g24) : ((Int × σ) × J.γ)) => [] ++ J.IR x23 g24) (fun (((x22, x23), g24) : ((Int × σ) × J.γ)) => [Sl (eI .u8) 1 (.slice a8 x7.length c9) x7, J.F]) (fun k (s : ((Int × σ) × J.γ)) => M_bits_places_1_l1 F yy x4 x6 x7 k s.1) ((x2, s0), gs0) F (lk_cons rfl (lk_cons rfl (lk_cons rfl (lk_cons rfl lk_nil)))) (.cons 0 rfl (.cons 0 rfl (.cons 0 rfl (pick_rest 0 rfl)))) (pick_rest 0 rfl) (fk_cons 1 rfl (fk_cons 0 rfl fk_nil)) (fun _ => rfl) ?_
  intro k37
  rintro ⟨⟨x22, x23⟩, g24⟩
  try dsimp only
  refine sxc_meq (m' := M_bits_places_1_b1 F yy x4 x6 x7 (M_bits_places_1_l1 F yy x4 x6 x7 k37) x22 x23) rfl ?_
  refine sxc_seq ?_
  refine sxc_seq ?_
  refine sxc_region ?_
  refine sxo_move rfl rfl rfl ?_
  refine sxo_loadB (i := 1) rfl rfl tf3 rfl rfl (fun _ => rfl) rfl rfl ?_
  refine sxo_lss rfl rfl rfl rfl ?_
  refine sxo_nil ?_
  refine sxq_next ?_
  refine sxc_if rfl (fun h49 => ?_) (fun h49 => ?_)
  · refine sxc_skip ?_
    refine sxq_next ?_
    refine sxc_seq ?_
    refine sxc_block ?_
    refine sxc_seq ?_
    refine sxc_region ?_
    refine sxo_move rfl rfl rfl ?_
    refine sxo_loadB (i := 2) rfl rfl tf26 rfl rfl (by simp) rfl rfl ?_
    refine sxo_move rfl rfl rfl ?_
    refine sxo_call ent76 rfl rfl rfl (fun x44 e44 => C_bits_At F x6 x7 a8 c9 x22 x44 e44) (.consF 0 rfl .nil) (fun x44 e44 => ?_)
    intro _
    refine sxo_yield hY x23 x44 g24 (B1 := [⟨g1, 3, [.int .i64 x2]⟩, ⟨g3, 3, [.int .i64 x4]⟩, ⟨g5, 26, [.int .i64 x6, .slice a8 x7.length c9]⟩]) (R1 := []) (j := 1) rfl rfl rfl rfl rfl rfl rfl (fun x45 _ g47 => ?_) (fun x46 _ g47 => ?_)
    · refine sxo_not rfl rfl rfl ?_
      refine sxo_nil ?_
      refine sxq_next ?_
      refine sxc_cond (b := false) rfl (fun h => by cases h) (fun _ => ?_)
      refine sxc_skip ?_
      refine sxq_blkN ?_
      refine sxq_next ?_
      refine sxc_region ?_
      refine sxo_move rfl rfl rfl ?_
      refine sxo_add rfl rfl rfl rfl ?_
      refine sxo_assign rfl rfl rfl ?_
      refine sxo_nil ?_
      exact sxq_againP ((iadd .i64 x22 1, x45), g47) (lk_cons rfl (lk_cons rfl (lk_cons rfl (lk_cons rfl lk_nil)))) (.cons 0 rfl (.cons 0 rfl (.cons 0 rfl (pick_rest 0 rfl)))) (pick_rest 0 rfl) (fk_cons 0 rfl (fk_cons 1 rfl fk_nil))
    · refine sxo_not rfl rfl rfl ?_
      refine sxo_nil ?_
      refine sxq_next ?_
      refine sxc_cond (b := true) rfl (fun _ => ?_) (fun h => by cases h)
      refine sxc_ret ?_
      refine sxq_blkR ?_
      refine sxq_thenR ?_
      refine sxq_thenR ?_
      refine sxq_blkR ?_
      exact sxq_doneI (B0 := [⟨g1, 3, [.int .i64 x2]⟩, ⟨g3, 3, [.int .i64 x4]⟩, ⟨g5, 26, [.int .i64 x6, .slice a8 x7.length c9]⟩]) (x := .inr x46) g47 (.inl rfl) (res0 rfl) (.cons 0 rfl (.cons 0 rfl (.cons 0 rfl (pick_rest 0 rfl)))) (pick_rest 0 rfl)
  · refine sxc_exit ?_
    refine sxq_thenX ?_
    refine sxq_thenX ?_
    refine sxq_blkX ?_
    exact sxq_doneI (B0 := [⟨g1, 3, [.int .i64 x2]⟩, ⟨g3, 3, [.int .i64 x4]⟩, ⟨g5, 26, [.int .i64 x6, .slice a8 x7.length c9]⟩]) (x := .inl x23) g24 (.inr rfl) (res0 rfl) (.cons 0 rfl (.cons 0 rfl (.cons 0 rfl (pick_rest 0 rfl)))) (pick_rest 0 rfl)

theorem C_bits_Both (F : Nat) (x1 : Int) (x2 : List Int) (a3 : Option Addr) (c4 : Nat) (x5 : Int) (x6 : List Int) (a7 : Option Addr) (c8 : Nat) (r : (Int × List Int)) (hm : M_bits_Both F x1 x2 x5 x6 = some r) :
    PureM Try.prog 64 [.agg #[.int .i64 x1, .slice a3 x2.length c4], .agg #[.int .i64 x5, .slice a7 x6.length c8]] [] [] [Sl (eI .u8) 1 (.slice a3 x2.length c4) x2, Sl (eI .u8) 1 (.slice a7 x6.length c8) x6] (Option Addr × Nat) (fun g => .agg #[.int .i64 r.1, .slice g.1 r.2.length g.2]) (fun _ => []) (fun g => [Ro (eI .u8) 5 1 (.slice g.1 r.2.length g.2) r.2]) := by
  refine pureX_of Try.func64 rfl Try.ntmps64 rfl hm (fun w => ?_)
  refine sxc_env (l' := [(0, .agg #[.int .i64 x1, .slice a3 x2.length c4]), (1, .agg #[.int .i64 x5, .slice a7 x6.length c8])]) rfl ?_
  refine sxc_seq ?_
  refine sxc_region ?_
  refine sxo_box rfl rfl rfl (fun g9 => ?_)
  refine sxo_box rfl rfl rfl (fun g10 => ?_)
  refine sxo_alloc rfl tf26 rfl (fun g11 => ?_)
  refine sxo_nil ?_
  refine sxq_next ?_
  refine sxc_seq ?_
  refine sxc_region ?_
  refine sxo_loadB (i := 2) rfl rfl tf26 rfl rfl (by simp) rfl rfl ?_
  refine sxo_callM ent82 rfl rfl rfl (fun x12 e12 => C_bits_own F x1 x2 a3 c4 x12 e12) .nil .nil (.consF 0 rfl .nil) (fun x12 e12 => ?_)
  rintro ⟨⟨a13, c14⟩, g15⟩
  refine sxo_alloc rfl tf89 rfl (fun g16 => ?_)
  refine sxo_storeB (i := 0) rfl rfl rfl tf89 rfl rfl rfl rfl rfl ?_
  refine sxo_nil ?_
  refine sxq_next ?_
  refine sxc_seq ?_
  refine sxc_seq ?_
  refine sxc_region ?_
  refine sxo_loadB (i := 3) rfl rfl tf26 rfl rfl (by simp) rfl rfl ?_
  refine sxo_fieldAddr rfl rfl ff26_0 rfl ?_
  refine sxo_loadB (i := 3) rfl rfl tf3 rfl rfl (fun _ => rfl) rfl rfl ?_
  refine sxo_callM ent66 rfl rfl rfl (fun x37 e37 => C_bits_places F x5 x6 a7 c8 0 x5 x37 e37) .nil .nil (.consF 1 rfl .nil) (fun x37 e37 => ?_)
  rintro ⟨g38, g39, g40⟩
  refine sxo_nil ?_
  refine sxq_next ?_
  refine sxc_block ?_
  refine sxc_range (encs := (fun (p : Int) => [.int .u64 p])) (y := (fun ((x45, x48) : (Int × List Int)) (x53 : Int) => M_bits_Both_r2 F x45 x48 x53)) (lb := [.pointer (some ⟨g38, 0, none⟩), .pointer (some ⟨g39, 0, none⟩), .pointer (some ⟨g40, 0, none⟩)]) (fun ((x45, x48) : (Int × List Int)) ((a46, c47) : (Option Addr × Nat)) => [⟨g16, 89, [.pointer (some ⟨g15, 0, none⟩)]⟩, ⟨g15, 91, [.int .i64 x45, .slice a46 x48.length c47]⟩, ⟨g11, 26, [.int .i64 0, .slice none 0 0]⟩, ⟨g10, 26, [.int .i64 x5, .slice a7 x6.length c8]⟩, ⟨g9, 26, [.int .i64 x1, .slice a3 x2.length c4]⟩]) (fun ((x45, x48) : (Int × List Int)) ((a46, c47) : (Option Addr × Nat)) => [Ro (eI .u8) 5 1 (.slice a46 x48.length c47) x48]) (fun (_ : Empty) (_ : Unit) => []) (fun (_ : Empty) (_ : Unit) => []) (fun _ => .skip) (x12.1, x12.2) (a13, c14) rfl ent83 (fun _ => rfl) rfl (.cons 0 rfl (.cons 0 rfl (.cons 0 rfl .nil))) (.cons 0 rfl (.cons 0 rfl (.cons 0 rfl (.cons 0 rfl (.cons 0 rfl .nil))))) (.cons 0 rfl .nil) (.consF 1 rfl .nil) (fun z hz _ _ _ hY => C_bits_places_1 F hY (x12.1, x12.2) (a13, c14) g38 0 g39 x5 g40 x5 x6 a7 c8 z hz) ?_ ?_ ?_
  · rintro rc2 L2 D2 ⟨x45, x48⟩ ⟨a46, c47⟩ x53 z w M _
    try dsimp only
    refine sxc_less [(0, .agg #[.int .i64 x1, .slice a3 x2.length c4]), (1, .agg #[.int .i64 x5, .slice a7 x6.length c8]), (2, .pointer (some ⟨g9, 0, none⟩)), (3, .pointer (some ⟨g10, 0, none⟩)), (4, .pointer (some ⟨g11, 0, none⟩)), (5, .pointer (some ⟨g16, 0, none⟩)), (7, .agg #[.int .i64 x1, .slice a3 x2.length c4]), (8, .pointer (some ⟨g15, 0, none⟩)), (9, .agg #[.int .i64 x5, .slice a7 x6.length c8]), (10, .pointer (some ⟨g10, 0, none⟩)), (11, .int .i64 x5), (12, .func (.func 83) #[] #[.pointer (some ⟨g38, 0, none⟩), .pointer (some ⟨g39, 0, none⟩), .pointer (some ⟨g40, 0, none⟩)]), (13, .int .u64 x53)] (lk_cons rfl (lk_cons rfl (lk_cons rfl (lk_cons rfl (lk_cons rfl (lk_cons rfl (lk_cons rfl (lk_cons rfl (lk_cons rfl (lk_cons rfl (lk_cons rfl (lk_cons rfl (lk_cons rfl lk_nil))))))))))))) ?_
    refine sxc_region ?_
    refine sxo_assign rfl rfl rfl ?_
    refine sxo_nil ?_
    refine sxq_begin (i := 5) rfl ?_
    refine sxc_block ?_
    refine sxc_region ?_
    refine sxo_loadB (i := 0) rfl rfl tf89 rfl rfl (fun _ => rfl) rfl rfl ?_
    refine sxo_move rfl rfl rfl ?_
    refine sxo_callM ent67 rfl rfl rfl (fun x54 e54 => C_bits_writer_bit F g15 x45 x48 a46 c47 x53 x54 e54) (.cons 1 rfl .nil) (.cons 0 rfl .nil) .nil (fun x54 e54 => ?_)
    rintro ⟨a55, c56⟩
    refine sxo_nil ?_
    refine sxq_blkN ?_
    exact sxq_round (rc := rc2) rfl (.cons 5 rfl .nil) rfl (a55, c56) (.cons 2 rfl (.cons 1 rfl (.cons 1 rfl (.cons 1 rfl (.cons 1 rfl (.cons 0 rfl (.cons 0 rfl .nil))))))) (.cons 0 rfl .nil)
  · rintro ⟨x45, x48⟩ _ ⟨a46, c47⟩ D2
    try dsimp only
    refine sxq_blkN ?_
    refine sxq_next ?_
    refine sxc_seq ?_
    refine sxc_region ?_
    refine sxo_loadB (i := 4) rfl rfl tf89 rfl rfl (fun _ => rfl) rfl rfl ?_
    refine sxo_nilCheck rfl rfl rfl ?_
    refine sxo_fieldAddr rfl rfl ff91_0 rfl ?_
    refine sxo_loadB (i := 5) rfl rfl tf26 rfl rfl (by simp) rfl rfl ?_
    refine sxo_storeB (i := 6) rfl rfl rfl tf26 rfl rfl rfl rfl rfl ?_
    refine sxo_nil ?_
    refine sxq_next ?_
    refine sxc_ret ?_
    exact sxq_doneX [D2] (a46, c47) (.inl rfl) rfl (.cons 0 rfl .nil) (resL (rs := [.cell 4 26]) rfl (.cell (i := 5) rfl tf26 rfl rfl (by simp) rfl ResOk.nil) rfl) (fun h => by subst h; rfl) (fun h => by subst h; exact .nil) (fun h => by subst h; exact (.cons 0 rfl .nil))
  · intro t; exact t.elim

theorem C_bits_Join (F : Nat) (x1 : Int) (x2 : List Int) (a3 : Option Addr) (c4 : Nat) (x5 : Int) (x6 : List Int) (a7 : Option Addr) (c8 : Nat) (r : (Int × List Int × Int)) (hm : M_bits_Join F x1 x2 x5 x6 = some r) :
    Pure Try.prog 41 [.agg #[.int .i64 x1, .slice a3 x2.length c4], .agg #[.int .i64 x5, .slice a7 x6.length c8]] [Sl (eI .u8) 1 (.slice a3 x2.length c4) x2, Sl (eI .u8) 1 (.slice a7 x6.length c8) x6] (Option Addr × Nat) (fun g => .tuple #[.agg #[.int .i64 r.1, .slice g.1 r.2.1.length g.2], .int .i64 r.2.2]) (fun g => [Ro (eI .u8) 5 1 (.slice g.1 r.2.1.length g.2) r.2.1]) (fun _ => []) := by
  refine pure_of Try.func41 rfl Try.ntmps41 rfl hm (fun w => ?_)
  refine sxc_env (l' := [(0, .agg #[.int .i64 x1, .slice a3 x2.length c4]), (1, .agg #[.int .i64 x5, .slice a7 x6.length c8])]) rfl ?_
  refine sxc_seq ?_
  refine sxc_region ?_
  refine sxo_box rfl rfl rfl (fun g9 => ?_)
  refine sxo_box rfl rfl rfl (fun g10 => ?_)
  refine sxo_alloc rfl tf26 rfl (fun g11 => ?_)
  refine sxo_assign rfl rfl rfl ?_
  refine sxo_nil ?_
  refine sxq_next ?_
  refine sxc_seq ?_
  refine sxc_region ?_
  refine sxo_loadB (i := 2) rfl rfl tf26 rfl rfl (by simp) rfl rfl ?_
  refine sxo_call ent63 rfl rfl rfl (fun x12 e12 => C_bits_Check F x1 x2 a3 c4 x12 e12) (.consF 0 rfl .nil) (fun x12 e12 => ?_)
  intro _
  refine sxo_assign rfl rfl rfl ?_
  refine sxo_nil ?_
  refine sxq_next ?_
  refine sxc_join (fun ((x15, _) : (Int × Unit)) => [(2, .pointer (some ⟨g9, 0, none⟩)), (3, .pointer (some ⟨g10, 0, none⟩)), (4, .pointer (some ⟨g11, 0, none⟩)), (6, .int .i64 x15)]) (fun ((x15, _) : (Int × Unit)) => [⟨g11, 26, [.int .i64 0, .slice none 0 0]⟩, ⟨g10, 26, [.int .i64 x5, .slice a7 x6.length c8]⟩, ⟨g9, 26, [.int .i64 x1, .slice a3 x2.length c4]⟩]) (fun ((x15, _) : (Int × Unit)) => []) (fun ((x15, _) : (Int × Unit)) => [Sl (eI .u8) 1 (.slice a7 x6.length c8) x6, Sl (eI .u8) 1 (.slice a3 x2.length c4) x2]) (fun ((x15, _) : (Int × Unit)) => M_bits_Join_j1 F x1 x2 x5 x6 x15) ?_ ?_
  · refine sxc_seq ?_
    refine sxc_region ?_
    refine sxo_move rfl rfl rfl ?_
    refine sxo_eql rfl rfl rfl rfl ?_
    refine sxo_nil ?_
    refine sxq_next ?_
    refine sxc_if rfl (fun h27 => ?_) (fun h27 => ?_)
    · refine sxc_region ?_
      refine sxo_loadB (i := 1) rfl rfl tf26 rfl rfl (by simp) rfl rfl ?_
      refine sxo_call ent63 rfl rfl rfl (fun x26 e26 => C_bits_Check F x5 x6 a7 c8 x26 e26) (.consF 1 rfl .nil) (fun x26 e26 => ?_)
      intro _
      refine sxo_assign rfl rfl rfl ?_
      refine sxo_nil ?_
      exact sxq_meetP (x26, ()) (lk_cons rfl (lk_cons rfl (lk_cons rfl (lk_cons rfl lk_nil)))) (.cons 0 rfl (.cons 0 rfl (.cons 0 rfl .nil))) .nil (fk_cons 1 rfl (fk_cons 0 rfl fk_nil))
    · refine sxc_skip ?_
      exact sxq_meetP (x12, ()) (lk_cons rfl (lk_cons rfl (lk_cons rfl (lk_cons rfl lk_nil)))) (.cons 0 rfl (.cons 0 rfl (.cons 0 rfl .nil))) .nil (fk_cons 1 rfl (fk_cons 0 rfl fk_nil))
  · rintro ⟨x15, _⟩
    try dsimp only
    refine sxc_join (fun ((x18, _) : (Int × Unit)) => [(2, .pointer (some ⟨g9, 0, none⟩)), (3, .pointer (some ⟨g10, 0, none⟩)), (4, .pointer (some ⟨g11, 0, none⟩)), (6, .int .i64 x18)]) (fun ((x18, _) : (Int × Unit)) => [⟨g11, 26, [.int .i64 0, .slice none 0 0]⟩, ⟨g10, 26, [.int .i64 x5, .slice a7 x6.length c8]⟩, ⟨g9, 26, [.int .i64 x1, .slice a3 x2.length c4]⟩]) (fun ((x18, _) : (Int × Unit)) => []) (fun ((x18, _) : (Int × Unit)) => [Sl (eI .u8) 1 (.slice a7 x6.length c8) x6, Sl (eI .u8) 1 (.slice a3 x2.length c4) x2]) (fun ((x18, _) : (Int × Unit)) => M_bits_Join_j2 F x1 x2 x5 x6 x18) ?_ ?_
    · refine sxc_seq ?_
      refine sxc_region ?_
      refine sxo_move rfl rfl rfl ?_
      refine sxo_eql rfl rfl rfl rfl ?_
      refine sxo_move rfl rfl rfl ?_
      refine sxo_case 7 ((x15 : Int) == 0) [(2, .pointer (some ⟨g9, 0, none⟩)), (3, .pointer (some ⟨g10, 0, none⟩)), (4, .pointer (some ⟨g11, 0, none⟩)), (6, .int .i64 x15), (22, .bool (((x15 : Int) == 0) && (decide (8192 < (iadd .i64 x1 x5)))))] (fun h24 => ?_) (fun h24 => ?_) ?_
      · refine sxo_take (os := _) rfl ?_
        refine sxo_isT (k := 15) rfl h24 ?_
        refine sxo_fieldAddr rfl rfl ff26_0 rfl ?_
        refine sxo_loadB (i := 2) rfl rfl tf3 rfl rfl (fun _ => rfl) rfl rfl ?_
        refine sxo_fieldAddr rfl rfl ff26_0 rfl ?_
        refine sxo_loadB (i := 1) rfl rfl tf3 rfl rfl (fun _ => rfl) rfl rfl ?_
        refine sxo_add rfl rfl rfl rfl ?_
        refine sxo_gtr rfl rfl rfl rfl ?_
        refine sxo_pick (b := true) rfl rfl rfl rfl ?_
        refine sxo_again (d := 22) (v := .bool (((x15 : Int) == 0) && (decide (8192 < (iadd .i64 x1 x5))))) rfl (by rw [h24]; simp only [Bool.true_and]) ?_
        refine sxo_nil ?_
        exact sxq_case (lk_cons rfl (lk_cons rfl (lk_cons rfl (lk_cons rfl (lk_cons rfl lk_nil)))))
      · refine sxo_take (os := _) rfl ?_
        refine sxo_isF (k := 15) rfl h24 ?_
        refine sxo_skip rfl rfl rfl ?_
        refine sxo_skip rfl rfl rfl ?_
        refine sxo_skip rfl rfl rfl ?_
        refine sxo_skip rfl rfl rfl ?_
        refine sxo_skip rfl rfl rfl ?_
        refine sxo_skip rfl rfl rfl ?_
        refine sxo_pick (b := false) rfl rfl rfl rfl ?_
        refine sxo_again (d := 22) (v := .bool (((x15 : Int) == 0) && (decide (8192 < (iadd .i64 x1 x5))))) rfl (by rw [h24]; simp only [Bool.false_and]) ?_
        refine sxo_nil ?_
        exact sxq_case (lk_cons rfl (lk_cons rfl (lk_cons rfl (lk_cons rfl (lk_cons rfl lk_nil)))))
      refine sxo_take (os := _) rfl ?_
      refine sxo_nil ?_
      refine sxq_next ?_
      refine sxc_if rfl (fun h25 => ?_) (fun h25 => ?_)
      · refine sxc_region ?_
        refine sxo_assign rfl rfl rfl ?_
        refine sxo_nil ?_
        exact sxq_meetP (8, ()) (lk_cons rfl (lk_cons rfl (lk_cons rfl (lk_cons rfl lk_nil)))) (.cons 0 rfl (.cons 0 rfl (.cons 0 rfl .nil))) .nil (fk_cons 0 rfl (fk_cons 1 rfl fk_nil))
      · refine sxc_skip ?_
        exact sxq_meetP (x15, ()) (lk_cons rfl (lk_cons rfl (lk_cons rfl (lk_cons rfl lk_nil)))) (.cons 0 rfl (.cons 0 rfl (.cons 0 rfl .nil))) .nil (fk_cons 0 rfl (fk_cons 1 rfl fk_nil))
    · rintro ⟨x18, _⟩
      try dsimp only
      refine sxc_seq ?_
      refine sxc_seq ?_
      refine sxc_region ?_
      refine sxo_move rfl rfl rfl ?_
      refine sxo_neq rfl rfl rfl rfl ?_
      refine sxo_nil ?_
      refine sxq_next ?_
      refine sxc_if rfl (fun h23 => ?_) (fun h23 => ?_)
      · refine sxc_seq ?_
        refine sxc_region ?_
        refine sxo_build (cells := [.int .i64 0, .slice none 0 0]) rfl st26 rfl (by kernel_rfl) rfl ?_
        refine sxo_move rfl rfl rfl ?_
        refine sxo_storeB (i := 0) rfl rfl rfl tf26 rfl rfl rfl rfl rfl ?_
        refine sxo_assign rfl rfl rfl ?_
        refine sxo_nil ?_
        refine sxq_next ?_
        refine sxc_ret ?_
        refine sxq_thenR ?_
        refine sxq_nilrow Int (eI .u8) 5 1 ?_
        exact sxq_doneP (none, 0) (.inl rfl) (resL (rs := [.cell 4 26, .tmp 5]) rfl (.cell (i := 0) rfl tf26 rfl rfl (by simp) rfl (.tmp rfl ResOk.nil)) rfl) (fun h => by subst h; rfl) (fun h => by subst h; exact (.cons 0 rfl .nil))
      · refine sxc_skip ?_
        refine sxq_next ?_
        refine sxc_seq ?_
        refine sxc_region ?_
        refine sxo_loadB (i := 2) rfl rfl tf26 rfl rfl (by simp) rfl rfl ?_
        refine sxo_loadB (i := 1) rfl rfl tf26 rfl rfl (by simp) rfl rfl ?_
        refine sxo_callM ent64 rfl rfl rfl (fun x20 e20 => C_bits_Both F x1 x2 a3 c4 x5 x6 a7 c8 x20 e20) .nil .nil (.consF 1 rfl (.consF 0 rfl .nil)) (fun x20 e20 => ?_)
        rintro ⟨a21, c22⟩
        refine sxo_storeB (i := 0) rfl rfl rfl tf26 rfl rfl rfl rfl rfl ?_
        refine sxo_assign rfl rfl rfl ?_
        refine sxo_nil ?_
        refine sxq_next ?_
        refine sxc_ret ?_
        exact sxq_doneP (a21, c22) (.inl rfl) (resL (rs := [.cell 4 26, .tmp 5]) rfl (.cell (i := 0) rfl tf26 rfl rfl (by simp) rfl (.tmp rfl ResOk.nil)) rfl) (fun h => by subst h; rfl) (fun h => by subst h; exact (.cons 0 rfl .nil))

theorem C_bits_Read (F : Nat) (x1 : Int) (x2 : List Int) (a3 : Option Addr) (c4 : Nat) (x5 : Int) (x6 : Int) (r : (Int × Bool)) (hm : M_bits_Read F x1 x2 x5 x6 = some r) :
    Pure Try.prog 65 [.agg #[.int .i64 x1, .slice a3 x2.length c4], .int .i64 x5, .int .i64 x6] [Sl (eI .u8) 1 (.slice a3 x2.length c4) x2] Unit (fun _ => .tuple #[.int .u64 r.1, .bool r.2]) (fun _ => []) (fun _ => []) := by
  refine pure_of Try.func65 rfl Try.ntmps65 rfl hm (fun w => ?_)
  refine sxc_env (l' := [(0, .agg #[.int .i64 x1, .slice a3 x2.length c4]), (1, .int .i64 x5), (2, .int .i64 x6)]) rfl ?_
  refine sxc_seq ?_
  refine sxc_region ?_
  refine sxo_box rfl rfl rfl (fun g7 => ?_)
  refine sxo_assign rfl rfl rfl ?_
  refine sxo_assign rfl rfl rfl ?_
  refine sxo_nil ?_
  refine sxq_next ?_
  refine sxc_seq ?_
  refine sxc_seq ?_
  refine sxc_region ?_
  refine sxo_fieldAddr rfl rfl ff26_0 rfl ?_
  refine sxo_loadB (i := 0) rfl rfl tf3 rfl rfl (fun _ => rfl) rfl rfl ?_
  refine sxo_move rfl rfl rfl ?_
  refine sxo_sub rfl rfl rfl rfl ?_
  refine sxo_move rfl rfl rfl ?_
  refine sxo_lss rfl rfl rfl rfl ?_
  refine sxo_nil ?_
  refine sxq_next ?_
  refine sxc_if rfl (fun h40 => ?_) (fun h40 => ?_)
  · refine sxc_seq ?_
    refine sxc_region ?_
    refine sxo_assign rfl rfl rfl ?_
    refine sxo_assign rfl rfl rfl ?_
    refine sxo_nil ?_
    refine sxq_next ?_
    refine sxc_ret ?_
    refine sxq_thenR ?_
    exact sxq_doneP () (.inl rfl) (res2 rfl rfl rfl) (fun h => by subst h; rfl) (fun h => by subst h; exact .nil)
  · refine sxc_skip ?_
    refine sxq_next ?_
    refine sxc_join (fun ((x24, _) : (Int × Unit)) => [(6, .int .u64 x24)]) (fun ((x24, _) : (Int × Unit)) => []) (fun ((x24, _) : (Int × Unit)) => []) (fun ((x24, _) : (Int × Unit)) => []) (fun ((x24, _) : (Int × Unit)) => M_bits_Read_j2 F x24) ?_ ?_
    · refine sxc_seq ?_
      refine sxc_region ?_
      refine sxo_move rfl rfl rfl ?_
      refine sxo_move rfl rfl rfl ?_
      refine sxo_nil ?_
      refine sxq_next ?_
      refine sxc_block ?_
      refine sxc_loopP (fun (((x29, x30), _) : ((Int × Int) × Unit)) => [(1, .int .i64 x5), (3, .pointer (some ⟨g7, 0, none⟩)), (6, .int .u64 x29), (15, .int .i64 x6), (16, .int .i64 x30)]) (fun (((x29, x30), _) : ((Int × Int) × Unit)) => [⟨g7, 26, [.int .i64 x1, .slice a3 x2.length c4]⟩]) (fun (((x29, x30), _) : ((Int × Int) × Unit)) => []) (fun (((x29, x30), _) : ((Int × Int) × Unit)) => [Sl (eI .u8) 1 (.slice a3 x2.length c4) x2]) (fun k (s : ((Int × Int) × Unit)) => M_bits_Read_l3 F x1 x2 x5 x6 k s.1) ((0, 0), ()) F (lk_cons rfl (lk_cons rfl (lk_cons rfl (lk_cons rfl (lk_cons rfl lk_nil))))) (.cons 0 rfl .nil) .nil (fk_cons 0 rfl fk_nil) (fun _ => rfl) ?_
      intro k35
      rintro ⟨⟨x29, x30⟩, _⟩
      try dsimp only
      refine sxc_meq (m' := M_bits_Read_b3 F x1 x2 x5 x6 (M_bits_Read_l3 F x1 x2 x5 x6 k35) x29 x30) rfl ?_
      refine sxc_seq ?_
      refine sxc_region ?_
      refine sxo_lss rfl rfl rfl rfl ?_
      refine sxo_nil ?_
      refine sxq_next ?_
      refine sxc_seq ?_
      refine sxc_if rfl (fun h39 => ?_) (fun h39 => ?_)
      · refine sxc_skip ?_
        refine sxq_next ?_
        refine sxc_seq ?_
        refine sxc_block ?_
        refine sxc_seq ?_
        refine sxc_region ?_
        refine sxo_move rfl rfl rfl ?_
        refine sxo_assign rfl rfl rfl ?_
        refine sxo_nil ?_
        refine sxq_next ?_
        refine sxc_region ?_
        refine sxo_move rfl rfl rfl ?_
        refine sxo_shl rfl rfl rfl rfl rfl ?_
        refine sxo_loadB (i := 0) rfl rfl tf26 rfl rfl (by simp) rfl rfl ?_
        refine sxo_move rfl rfl rfl ?_
        refine sxo_move rfl rfl rfl ?_
        refine sxo_add rfl rfl rfl rfl ?_
        refine sxo_call ent76 rfl rfl rfl (fun x38 e38 => C_bits_At F x1 x2 a3 c4 (iadd .i64 x5 x30) x38 e38) (.consF 0 rfl .nil) (fun x38 e38 => ?_)
        intro _
        refine sxo_or rfl rfl rfl rfl ?_
        refine sxo_assign rfl rfl rfl ?_
        refine sxo_nil ?_
        refine sxq_blkN ?_
        refine sxq_next ?_
        refine sxc_region ?_
        refine sxo_add rfl rfl rfl rfl ?_
        refine sxo_move rfl rfl rfl ?_
        refine sxo_nil ?_
        exact sxq_againP ((ior .u64 (ishl .u64 x29 1) x38, iadd .i64 x30 1), ()) (lk_cons rfl (lk_cons rfl (lk_cons rfl (lk_cons rfl (lk_cons rfl lk_nil))))) (.cons 0 rfl .nil) .nil (fk_cons 0 rfl fk_nil)
      · refine sxc_exit ?_
        refine sxq_thenX ?_
        refine sxq_thenX ?_
        refine sxq_blkX ?_
        exact sxq_meetP (x29, ()) (lk_cons rfl lk_nil) .nil .nil fk_nil
    · rintro ⟨x24, _⟩
      try dsimp only
      refine sxc_seq ?_
      refine sxc_region ?_
      refine sxo_move rfl rfl rfl ?_
      refine sxo_assign rfl rfl rfl ?_
      refine sxo_assign rfl rfl rfl ?_
      refine sxo_nil ?_
      refine sxq_next ?_
      refine sxc_ret ?_
      exact sxq_doneP () (.inl rfl) (res2 rfl rfl rfl) (fun h => by subst h; rfl) (fun h => by subst h; exact .nil)

theorem C_bits_Get (F : Nat) (x1 : Int) (x2 : List Int) (a3 : Option Addr) (c4 : Nat) (x5 : Int) (x6 : Int) (r : (Int × Int)) (hm : M_bits_Get F x1 x2 x5 x6 = some r) :
    Pure Try.prog 42 [.agg #[.int .i64 x1, .slice a3 x2.length c4], .int .i64 x5, .int .i64 x6] [Sl (eI .u8) 1 (.slice a3 x2.length c4) x2] Unit (fun _ => .tuple #[.int .u64 r.1, .int .i64 r.2]) (fun _ => []) (fun _ => []) := by
  refine pure_of Try.func42 rfl Try.ntmps42 rfl hm (fun w => ?_)
  refine sxc_env (l' := [(0, .agg #[.int .i64 x1, .slice a3 x2.length c4]), (1, .int .i64 x5), (2, .int .i64 x6)]) rfl ?_
  refine sxc_seq ?_
  refine sxc_region ?_
  refine sxo_box rfl rfl rfl (fun g7 => ?_)
  refine sxo_assign rfl rfl rfl ?_
  refine sxo_assign rfl rfl rfl ?_
  refine sxo_nil ?_
  refine sxq_next ?_
  refine sxc_seq ?_
  refine sxc_region ?_
  refine sxo_loadB (i := 0) rfl rfl tf26 rfl rfl (by simp) rfl rfl ?_
  refine sxo_call ent63 rfl rfl rfl (fun x8 e8 => C_bits_Check F x1 x2 a3 c4 x8 e8) (.consF 0 rfl .nil) (fun x8 e8 => ?_)
  intro _
  refine sxo_assign rfl rfl rfl ?_
  refine sxo_nil ?_
  refine sxq_next ?_
  refine sxc_join (fun ((x18, _) : (Int × Unit)) => [(1, .int .i64 x5), (2, .int .i64 x6), (3, .pointer (some ⟨g7, 0, none⟩)), (8, .int .i64 x18)]) (fun ((x18, _) : (Int × Unit)) => [⟨g7, 26, [.int .i64 x1, .slice a3 x2.length c4]⟩]) (fun ((x18, _) : (Int × Unit)) => []) (fun ((x18, _) : (Int × Unit)) => [Sl (eI .u8) 1 (.slice a3 x2.length c4) x2]) (fun ((x18, _) : (Int × Unit)) => M_bits_Get_j2 F x1 x2 x5 x6 x18) ?_ ?_
  · refine sxc_seq ?_
    refine sxc_region ?_
    refine sxo_move rfl rfl rfl ?_
    refine sxo_eql rfl rfl rfl rfl ?_
    refine sxo_move rfl rfl rfl ?_
    refine sxo_join 17 (fun ((x28, _) : (Bool × Unit)) => [(1, .int .i64 x5), (2, .int .i64 x6), (3, .pointer (some ⟨g7, 0, none⟩)), (8, .int .i64 x8), (32, .bool x28)]) (fun ((x28, _) : (Bool × Unit)) => [⟨g7, 26, [.int .i64 x1, .slice a3 x2.length c4]⟩]) (fun ((x28, _) : (Bool × Unit)) => []) (fun ((x28, _) : (Bool × Unit)) => [Sl (eI .u8) 1 (.slice a3 x2.length c4) x2]) (fun ((x28, _) : (Bool × Unit)) => M_bits_Get_j3 F x1 x2 x5 x6 x8 x28) ?_ ?_
    · refine sxo_take (os := _) rfl ?_
      refine sxo_if (fun h24 => ?_) (fun h24 => ?_)
      · refine sxo_isT (k := 15) rfl h24 ?_
        refine sxo_move rfl rfl rfl ?_
        refine sxo_lss rfl rfl rfl rfl ?_
        refine sxo_move rfl rfl rfl ?_
        refine sxo_case 3 (decide (x6 < 0)) [(1, .int .i64 x5), (2, .int .i64 x6), (3, .pointer (some ⟨g7, 0, none⟩)), (8, .int .i64 x8), (15, .bool true), (21, .bool ((decide (x6 < 0)) || (decide (64 < x6))))] (fun h30 => ?_) (fun h30 => ?_) ?_
        · refine sxo_take (os := _) rfl ?_
          refine sxo_isT (k := 18) rfl h30 ?_
          refine sxo_skip rfl rfl rfl ?_
          refine sxo_skip rfl rfl rfl ?_
          refine sxo_pick (b := true) rfl rfl rfl rfl ?_
          refine sxo_again (d := 21) (v := .bool ((decide (x6 < 0)) || (decide (64 < x6)))) rfl (by rw [h30]; simp only [Bool.true_or]) ?_
          refine sxo_nil ?_
          exact sxq_case (lk_cons rfl (lk_cons rfl (lk_cons rfl (lk_cons rfl (lk_cons rfl (lk_cons rfl lk_nil))))))
        · refine sxo_take (os := _) rfl ?_
          refine sxo_isF (k := 18) rfl h30 ?_
          refine sxo_move rfl rfl rfl ?_
          refine sxo_gtr rfl rfl rfl rfl ?_
          refine sxo_pick (b := false) rfl rfl rfl rfl ?_
          refine sxo_again (d := 21) (v := .bool ((decide (x6 < 0)) || (decide (64 < x6)))) rfl (by rw [h30]; simp only [Bool.false_or]) ?_
          refine sxo_nil ?_
          exact sxq_case (lk_cons rfl (lk_cons rfl (lk_cons rfl (lk_cons rfl (lk_cons rfl (lk_cons rfl lk_nil))))))
        refine sxo_take (os := _) rfl ?_
        refine sxo_move rfl rfl rfl ?_
        refine sxo_case 3 ((decide (x6 < 0)) || (decide (64 < x6))) [(1, .int .i64 x5), (2, .int .i64 x6), (3, .pointer (some ⟨g7, 0, none⟩)), (8, .int .i64 x8), (15, .bool true), (25, .bool (((decide (x6 < 0)) || (decide (64 < x6))) || (decide (x5 < 0))))] (fun h31 => ?_) (fun h31 => ?_) ?_
        · refine sxo_take (os := _) rfl ?_
          refine sxo_isT (k := 22) rfl h31 ?_
          refine sxo_skip rfl rfl rfl ?_
          refine sxo_skip rfl rfl rfl ?_
          refine sxo_pick (b := true) rfl rfl rfl rfl ?_
          refine sxo_again (d := 25) (v := .bool (((decide (x6 < 0)) || (decide (64 < x6))) || (decide (x5 < 0)))) rfl (by rw [h31]; simp only [Bool.true_or]) ?_
          refine sxo_nil ?_
          exact sxq_case (lk_cons rfl (lk_cons rfl (lk_cons rfl (lk_cons rfl (lk_cons rfl (lk_cons rfl lk_nil))))))
        · refine sxo_take (os := _) rfl ?_
          refine sxo_isF (k := 22) rfl h31 ?_
          refine sxo_move rfl rfl rfl ?_
          refine sxo_lss rfl rfl rfl rfl ?_
          refine sxo_pick (b := false) rfl rfl rfl rfl ?_
          refine sxo_again (d := 25) (v := .bool (((decide (x6 < 0)) || (decide (64 < x6))) || (decide (x5 < 0)))) rfl (by rw [h31]; simp only [Bool.false_or]) ?_
          refine sxo_nil ?_
          exact sxq_case (lk_cons rfl (lk_cons rfl (lk_cons rfl (lk_cons rfl (lk_cons rfl (lk_cons rfl lk_nil))))))
        refine sxo_take (os := _) rfl ?_
        refine sxo_move rfl rfl rfl ?_
        refine sxo_case 5 (((decide (x6 < 0)) || (decide (64 < x6))) || (decide (x5 < 0))) [(1, .int .i64 x5), (2, .int .i64 x6), (3, .pointer (some ⟨g7, 0, none⟩)), (8, .int .i64 x8), (15, .bool true), (31, .bool ((((decide (x6 < 0)) || (decide (64 < x6))) || (decide (x5 < 0))) || (decide (x1 < x5))))] (fun h32 => ?_) (fun h32 => ?_) ?_
        · refine sxo_take (os := _) rfl ?_
          refine sxo_isT (k := 26) rfl h32 ?_
          refine sxo_skip rfl rfl rfl ?_
          refine sxo_skip rfl rfl rfl ?_
          refine sxo_skip rfl rfl rfl ?_
          refine sxo_skip rfl rfl rfl ?_
          refine sxo_pick (b := true) rfl rfl rfl rfl ?_
          refine sxo_again (d := 31) (v := .bool ((((decide (x6 < 0)) || (decide (64 < x6))) || (decide (x5 < 0))) || (decide (x1 < x5)))) rfl (by rw [h32]; simp only [Bool.true_or]) ?_
          refine sxo_nil ?_
          exact sxq_case (lk_cons rfl (lk_cons rfl (lk_cons rfl (lk_cons rfl (lk_cons rfl (lk_cons rfl lk_nil))))))
        · refine sxo_take (os := _) rfl ?_
          refine sxo_isF (k := 26) rfl h32 ?_
          refine sxo_move rfl rfl rfl ?_
          refine sxo_fieldAddr rfl rfl ff26_0 rfl ?_
          refine sxo_loadB (i := 0) rfl rfl tf3 rfl rfl (fun _ => rfl) rfl rfl ?_
          refine sxo_gtr rfl rfl rfl rfl ?_
          refine sxo_pick (b := false) rfl rfl rfl rfl ?_
          refine sxo_again (d := 31) (v := .bool ((((decide (x6 < 0)) || (decide (64 < x6))) || (decide (x5 < 0))) || (decide (x1 < x5)))) rfl (by rw [h32]; simp only [Bool.false_or]) ?_
          refine sxo_nil ?_
          exact sxq_case (lk_cons rfl (lk_cons rfl (lk_cons rfl (lk_cons rfl (lk_cons rfl (lk_cons rfl lk_nil))))))
        refine sxo_take (os := _) rfl ?_
        refine sxo_pick (b := true) rfl rfl rfl rfl ?_
        refine sxo_nil ?_
        exact sxq_meetP (((((decide (x6 < 0)) || (decide (64 < x6))) || (decide (x5 < 0))) || (decide (x1 < x5))), ()) (lk_cons rfl (lk_cons rfl (lk_cons rfl (lk_cons rfl (lk_cons rfl lk_nil))))) (.cons 0 rfl .nil) .nil (fk_cons 0 rfl fk_nil)
      · refine sxo_isF (k := 15) rfl h24 ?_
        refine sxo_skip rfl rfl rfl ?_
        refine sxo_skip rfl rfl rfl ?_
        refine sxo_skip rfl rfl rfl ?_
        refine sxo_skip rfl rfl rfl ?_
        refine sxo_skip rfl rfl rfl ?_
        refine sxo_skip rfl rfl rfl ?_
        refine sxo_skip rfl rfl rfl ?_
        refine sxo_skip rfl rfl rfl ?_
        refine sxo_skip rfl rfl rfl ?_
        refine sxo_skip rfl rfl rfl ?_
        refine sxo_skip rfl rfl rfl ?_
        refine sxo_skip rfl rfl rfl ?_
        refine sxo_skip rfl rfl rfl ?_
        refine sxo_skip rfl rfl rfl ?_
        refine sxo_skip rfl rfl rfl ?_
        refine sxo_skip rfl rfl rfl ?_
        refine sxo_pick (b := false) rfl rfl rfl rfl ?_
        refine sxo_nil ?_
        exact sxq_meetP (false, ()) (lk_cons rfl (lk_cons rfl (lk_cons rfl (lk_cons rfl (lk_cons rfl lk_nil))))) (.cons 0 rfl .nil) .nil (fk_cons 0 rfl fk_nil)
    · rintro ⟨x28, _⟩
      try dsimp only
      refine sxo_take (os := _) rfl ?_
      refine sxo_nil ?_
      refine sxq_next ?_
      refine sxc_if rfl (fun h29 => ?_) (fun h29 => ?_)
      · refine sxc_region ?_
        refine sxo_assign rfl rfl rfl ?_
        refine sxo_nil ?_
        exact sxq_meetP (3, ()) (lk_cons rfl (lk_cons rfl (lk_cons rfl (lk_cons rfl lk_nil)))) (.cons 0 rfl .nil) .nil (fk_cons 0 rfl fk_nil)
      · refine sxc_skip ?_
        exact sxq_meetP (x8, ()) (lk_cons rfl (lk_cons rfl (lk_cons rfl (lk_cons rfl lk_nil)))) (.cons 0 rfl .nil) .nil (fk_cons 0 rfl fk_nil)
  · rintro ⟨x18, _⟩
    try dsimp only
    refine sxc_seq ?_
    refine sxc_seq ?_
    refine sxc_region ?_
    refine sxo_move rfl rfl rfl ?_
    refine sxo_neq rfl rfl rfl rfl ?_
    refine sxo_nil ?_
    refine sxq_next ?_
    refine sxc_if rfl (fun h23 => ?_) (fun h23 => ?_)
    · refine sxc_seq ?_
      refine sxc_region ?_
      refine sxo_move rfl rfl rfl ?_
      refine sxo_assign rfl rfl rfl ?_
      refine sxo_assign rfl rfl rfl ?_
      refine sxo_nil ?_
      refine sxq_next ?_
      refine sxc_ret ?_
      refine sxq_thenR ?_
      exact sxq_doneP () (.inl rfl) (res2 rfl rfl rfl) (fun h => by subst h; rfl) (fun h => by subst h; exact .nil)
    · refine sxc_skip ?_
      refine sxq_next ?_
      refine sxc_seq ?_
      refine sxc_region ?_
      refine sxo_loadB (i := 0) rfl rfl tf26 rfl rfl (by simp) rfl rfl ?_
      refine sxo_move rfl rfl rfl ?_
      refine sxo_move rfl rfl rfl ?_
      refine sxo_call ent65 rfl rfl rfl (fun x20 e20 => C_bits_Read F x1 x2 a3 c4 x5 x6 x20 e20) (.consF 0 rfl .nil) (fun x20 e20 => ?_)
      intro _
      refine sxo_move rfl rfl rfl ?_
      refine sxo_extract rfl rfl rfl rfl ?_
      refine sxo_extract rfl rfl rfl rfl ?_
      refine sxo_assign rfl rfl rfl ?_
      refine sxo_assign rfl rfl rfl ?_
      refine sxo_nil ?_
      refine sxq_next ?_
      refine sxc_seq ?_
      refine sxc_seq ?_
      refine sxc_region ?_
      refine sxo_move rfl rfl rfl ?_
      refine sxo_not rfl rfl rfl ?_
      refine sxo_nil ?_
      refine sxq_next ?_
      refine sxc_if rfl (fun h22 => ?_) (fun h22 => ?_)
      · refine sxc_seq ?_
        refine sxc_region ?_
        refine sxo_assign rfl rfl rfl ?_
        refine sxo_assign rfl rfl rfl ?_
        refine sxo_nil ?_
        refine sxq_next ?_
        refine sxc_ret ?_
        refine sxq_thenR ?_
        exact sxq_doneP () (.inl rfl) (res2 rfl rfl rfl) (fun h => by subst h; rfl) (fun h => by subst h; exact .nil)
      · refine sxc_skip ?_
        refine sxq_next ?_
        refine sxc_seq ?_
        refine sxc_region ?_
        refine sxo_move rfl rfl rfl ?_
        refine sxo_assign rfl rfl rfl ?_
        refine sxo_assign rfl rfl rfl ?_
        refine sxo_nil ?_
        refine sxq_next ?_
        refine sxc_ret ?_
        exact sxq_doneP () (.inl rfl) (res2 rfl rfl rfl) (fun h => by subst h; rfl) (fun h => by subst h; exact .nil)

set_option maxHeartbeats 4000000 in
theorem C_bits_Cut (F : Nat) (x1 : Int) (x2 : List Int) (a3 : Option Addr) (c4 : Nat) (x5 : Int) (x6 : Int) (r : (Int × List Int × Int)) (hm : M_bits_Cut F x1 x2 x5 x6 = some r) :
    PureM Try.prog 43 [.agg #[.int .i64 x1, .slice a3 x2.length c4], .int .i64 x5, .int .i64 x6] [] [] [Sl (eI .u8) 1 (.slice a3 x2.length c4) x2] (Option Addr × Nat) (fun g => .tuple #[.agg #[.int .i64 r.1, .slice g.1 r.2.1.length g.2], .int .i64 r.2.2]) (fun _ => []) (fun g => [Ro (eI .u8) 5 1 (.slice g.1 r.2.1.length g.2) r.2.1]) := by
  refine pureX_of Try.func43 rfl Try.ntmps43 rfl hm (fun w => ?_)
  refine sxc_env (l' := [(0, .agg #[.int .i64 x1, .slice a3 x2.length c4]), (1, .int .i64 x5), (2, .int .i64 x6)]) rfl ?_
  refine sxc_seq ?_
  refine sxc_region ?_
  refine sxo_box rfl rfl rfl (fun g7 => ?_)
  refine sxo_alloc rfl tf26 rfl (fun g8 => ?_)
  refine sxo_assign rfl rfl rfl ?_
  refine sxo_nil ?_
  refine sxq_next ?_
  refine sxc_seq ?_
  refine sxc_region ?_
  refine sxo_loadB (i := 1) rfl rfl tf26 rfl rfl (by simp) rfl rfl ?_
  refine sxo_call ent63 rfl rfl rfl (fun x9 e9 => C_bits_Check F x1 x2 a3 c4 x9 e9) (.consF 0 rfl .nil) (fun x9 e9 => ?_)
  intro _
  refine sxo_assign rfl rfl rfl ?_
  refine sxo_nil ?_
  refine sxq_next ?_
  refine sxc_join (fun ((x19, _) : (Int × Unit)) => [(1, .int .i64 x5), (2, .int .i64 x6), (3, .pointer (some ⟨g7, 0, none⟩)), (6, .pointer (some ⟨g8, 0, none⟩)), (7, .int .i64 0), (8, .int .i64 x19)]) (fun ((x19, _) : (Int × Unit)) => [⟨g8, 26, [.int .i64 0, .slice none 0 0]⟩, ⟨g7, 26, [.int .i64 x1, .slice a3 x2.length c4]⟩]) (fun ((x19, _) : (Int × Unit)) => []) (fun ((x19, _) : (Int × Unit)) => [Sl (eI .u8) 1 (.slice a3 x2.length c4) x2]) (fun ((x19, _) : (Int × Unit)) => M_bits_Cut_j2 F x1 x2 x5 x6 x19) ?_ ?_
  · refine sxc_seq ?_
    refine sxc_region ?_
    refine sxo_move rfl rfl rfl ?_
    refine sxo_eql rfl rfl rfl rfl ?_
    refine sxo_move rfl rfl rfl ?_
    refine sxo_join 20 (fun ((x68, _) : (Bool × Unit)) => [(1, .int .i64 x5), (2, .int .i64 x6), (3, .pointer (some ⟨g7, 0, none⟩)), (6, .pointer (some ⟨g8, 0, none⟩)), (7, .int .i64 0), (8, .int .i64 x9), (35, .bool x68)]) (fun ((x68, _) : (Bool × Unit)) => [⟨g8, 26, [.int .i64 0, .slice none 0 0]⟩, ⟨g7, 26, [.int .i64 x1, .slice a3 x2.length c4]⟩]) (fun ((x68, _) : (Bool × Unit)) => []) (fun ((x68, _) : (Bool × Unit)) => [Sl (eI .u8) 1 (.slice a3 x2.length c4) x2]) (fun ((x68, _) : (Bool × Unit)) => M_bits_Cut_j5 F x1 x2 x5 x6 x9 x68) ?_ ?_
    · refine sxo_take (os := _) rfl ?_
      refine sxo_if (fun h64 => ?_) (fun h64 => ?_)
      · refine sxo_isT (k := 15) rfl h64 ?_
        refine sxo_move rfl rfl rfl ?_
        refine sxo_lss rfl rfl rfl rfl ?_
        refine sxo_move rfl rfl rfl ?_
        refine sxo_case 5 (decide (x5 < 0)) [(1, .int .i64 x5), (2, .int .i64 x6), (3, .pointer (some ⟨g7, 0, none⟩)), (6, .pointer (some ⟨g8, 0, none⟩)), (7, .int .i64 0), (8, .int .i64 x9), (15, .bool true), (23, .bool ((decide (x5 < 0)) || (decide (x1 < x5))))] (fun h70 => ?_) (fun h70 => ?_) ?_
        · refine sxo_take (os := _) rfl ?_
          refine sxo_isT (k := 18) rfl h70 ?_
          refine sxo_skip rfl rfl rfl ?_
          refine sxo_skip rfl rfl rfl ?_
          refine sxo_skip rfl rfl rfl ?_
          refine sxo_skip rfl rfl rfl ?_
          refine sxo_pick (b := true) rfl rfl rfl rfl ?_
          refine sxo_again (d := 23) (v := .bool ((decide (x5 < 0)) || (decide (x1 < x5)))) rfl (by rw [h70]; simp only [Bool.true_or]) ?_
          refine sxo_nil ?_
          exact sxq_case (lk_cons rfl (lk_cons rfl (lk_cons rfl (lk_cons rfl (lk_cons rfl (lk_cons rfl (lk_cons rfl (lk_cons rfl lk_nil))))))))
        · refine sxo_take (os := _) rfl ?_
          refine sxo_isF (k := 18) rfl h70 ?_
          refine sxo_move rfl rfl rfl ?_
          refine sxo_fieldAddr rfl rfl ff26_0 rfl ?_
          refine sxo_loadB (i := 1) rfl rfl tf3 rfl rfl (fun _ => rfl) rfl rfl ?_
          refine sxo_gtr rfl rfl rfl rfl ?_
          refine sxo_pick (b := false) rfl rfl rfl rfl ?_
          refine sxo_again (d := 23) (v := .bool ((decide (x5 < 0)) || (decide (x1 < x5)))) rfl (by rw [h70]; simp only [Bool.false_or]) ?_
          refine sxo_nil ?_
          exact sxq_case (lk_cons rfl (lk_cons rfl (lk_cons rfl (lk_cons rfl (lk_cons rfl (lk_cons rfl (lk_cons rfl (lk_cons rfl lk_nil))))))))
        refine sxo_take (os := _) rfl ?_
        refine sxo_move rfl rfl rfl ?_
        refine sxo_case 4 ((decide (x5 < 0)) || (decide (x1 < x5))) [(1, .int .i64 x5), (2, .int .i64 x6), (3, .pointer (some ⟨g7, 0, none⟩)), (6, .pointer (some ⟨g8, 0, none⟩)), (7, .int .i64 0), (8, .int .i64 x9), (15, .bool true), (28, .bool (((decide (x5 < 0)) || (decide (x1 < x5))) || (decide (x6 < x5))))] (fun h71 => ?_) (fun h71 => ?_) ?_
        · refine sxo_take (os := _) rfl ?_
          refine sxo_isT (k := 24) rfl h71 ?_
          refine sxo_skip rfl rfl rfl ?_
          refine sxo_skip rfl rfl rfl ?_
          refine sxo_skip rfl rfl rfl ?_
          refine sxo_pick (b := true) rfl rfl rfl rfl ?_
          refine sxo_again (d := 28) (v := .bool (((decide (x5 < 0)) || (decide (x1 < x5))) || (decide (x6 < x5)))) rfl (by rw [h71]; simp only [Bool.true_or]) ?_
          refine sxo_nil ?_
          exact sxq_case (lk_cons rfl (lk_cons rfl (lk_cons rfl (lk_cons rfl (lk_cons rfl (lk_cons rfl (lk_cons rfl (lk_cons rfl lk_nil))))))))
        · refine sxo_take (os := _) rfl ?_
          refine sxo_isF (k := 24) rfl h71 ?_
          refine sxo_move rfl rfl rfl ?_
          refine sxo_move rfl rfl rfl ?_
          refine sxo_lss rfl rfl rfl rfl ?_
          refine sxo_pick (b := false) rfl rfl rfl rfl ?_
          refine sxo_again (d := 28) (v := .bool (((decide (x5 < 0)) || (decide (x1 < x5))) || (decide (x6 < x5)))) rfl (by rw [h71]; simp only [Bool.false_or]) ?_
          refine sxo_nil ?_
          exact sxq_case (lk_cons rfl (lk_cons rfl (lk_cons rfl (lk_cons rfl (lk_cons rfl (lk_cons rfl (lk_cons rfl (lk_cons rfl lk_nil))))))))
        refine sxo_take (os := _) rfl ?_
        refine sxo_move rfl rfl rfl ?_
        refine sxo_case 5 (((decide (x5 < 0)) || (decide (x1 < x5))) || (decide (x6 < x5))) [(1, .int .i64 x5), (2, .int .i64 x6), (3, .pointer (some ⟨g7, 0, none⟩)), (6, .pointer (some ⟨g8, 0, none⟩)), (7, .int .i64 0), (8, .int .i64 x9), (15, .bool true), (34, .bool ((((decide (x5 < 0)) || (decide (x1 < x5))) || (decide (x6 < x5))) || (decide (x1 < x6))))] (fun h72 => ?_) (fun h72 => ?_) ?_
        · refine sxo_take (os := _) rfl ?_
          refine sxo_isT (k := 29) rfl h72 ?_
          refine sxo_skip rfl rfl rfl ?_
          refine sxo_skip rfl rfl rfl ?_
          refine sxo_skip rfl rfl rfl ?_
          refine sxo_skip rfl rfl rfl ?_
          refine sxo_pick (b := true) rfl rfl rfl rfl ?_
          refine sxo_again (d := 34) (v := .bool ((((decide (x5 < 0)) || (decide (x1 < x5))) || (decide (x6 < x5))) || (decide (x1 < x6)))) rfl (by rw [h72]; simp only [Bool.true_or]) ?_
          refine sxo_nil ?_
          exact sxq_case (lk_cons rfl (lk_cons rfl (lk_cons rfl (lk_cons rfl (lk_cons rfl (lk_cons rfl (lk_cons rfl (lk_cons rfl lk_nil))))))))
        · refine sxo_take (os := _) rfl ?_
          refine sxo_isF (k := 29) rfl h72 ?_
          refine sxo_move rfl rfl rfl ?_
          refine sxo_fieldAddr rfl rfl ff26_0 rfl ?_
          refine sxo_loadB (i := 1) rfl rfl tf3 rfl rfl (fun _ => rfl) rfl rfl ?_
          refine sxo_gtr rfl rfl rfl rfl ?_
          refine sxo_pick (b := false) rfl rfl rfl rfl ?_
          refine sxo_again (d := 34) (v := .bool ((((decide (x5 < 0)) || (decide (x1 < x5))) || (decide (x6 < x5))) || (decide (x1 < x6)))) rfl (by rw [h72]; simp only [Bool.false_or]) ?_
          refine sxo_nil ?_
          exact sxq_case (lk_cons rfl (lk_cons rfl (lk_cons rfl (lk_cons rfl (lk_cons rfl (lk_cons rfl (lk_cons rfl (lk_cons rfl lk_nil))))))))
        refine sxo_take (os := _) rfl ?_
        refine sxo_pick (b := true) rfl rfl rfl rfl ?_
        refine sxo_nil ?_
        exact sxq_meetP (((((decide (x5 < 0)) || (decide (x1 < x5))) || (decide (x6 < x5))) || (decide (x1 < x6))), ()) (lk_cons rfl (lk_cons rfl (lk_cons rfl (lk_cons rfl (lk_cons rfl (lk_cons rfl (lk_cons rfl lk_nil))))))) (.cons 0 rfl (.cons 0 rfl .nil)) .nil (fk_cons 0 rfl fk_nil)
      · refine sxo_isF (k := 15) rfl h64 ?_
        refine sxo_skip rfl rfl rfl ?_
        refine sxo_skip rfl rfl rfl ?_
        refine sxo_skip rfl rfl rfl ?_
        refine sxo_skip rfl rfl rfl ?_
        refine sxo_skip rfl rfl rfl ?_
        refine sxo_skip rfl rfl rfl ?_
        refine sxo_skip rfl rfl rfl ?_
        refine sxo_skip rfl rfl rfl ?_
        refine sxo_skip rfl rfl rfl ?_
        refine sxo_skip rfl rfl rfl ?_
        refine sxo_skip rfl rfl rfl ?_
        refine sxo_skip rfl rfl rfl ?_
        refine sxo_skip rfl rfl rfl ?_
        refine sxo_skip rfl rfl rfl ?_
        refine sxo_skip rfl rfl rfl ?_
        refine sxo_skip rfl rfl rfl ?_
        refine sxo_skip rfl rfl rfl ?_
        refine sxo_skip rfl rfl rfl ?_
        refine sxo_skip rfl rfl rfl ?_
        refine sxo_pick (b := false) rfl rfl rfl rfl ?_
        refine sxo_nil ?_
        exact sxq_meetP (false, ()) (lk_cons rfl (lk_cons rfl (lk_cons rfl (lk_cons rfl (lk_cons rfl (lk_cons rfl (lk_cons rfl lk_nil))))))) (.cons 0 rfl (.cons 0 rfl .nil)) .nil (fk_cons 0 rfl fk_nil)
    · rintro ⟨x68, _⟩
      try dsimp only
      refine sxo_take (os := _) rfl ?_
      refine sxo_nil ?_
      refine sxq_next ?_
      refine sxc_if rfl (fun h69 => ?_) (fun h69 => ?_)
      · refine sxc_region ?_
        refine sxo_assign rfl rfl rfl ?_
        refine sxo_nil ?_
        exact sxq_meetP (3, ()) (lk_cons rfl (lk_cons rfl (lk_cons rfl (lk_cons rfl (lk_cons rfl (lk_cons rfl lk_nil)))))) (.cons 0 rfl (.cons 0 rfl .nil)) .nil (fk_cons 0 rfl fk_nil)
      · refine sxc_skip ?_
        exact sxq_meetP (x9, ()) (lk_cons rfl (lk_cons rfl (lk_cons rfl (lk_cons rfl (lk_cons rfl (lk_cons rfl lk_nil)))))) (.cons 0 rfl (.cons 0 rfl .nil)) .nil (fk_cons 0 rfl fk_nil)
  · rintro ⟨x19, _⟩
    try dsimp only
    refine sxc_seq ?_
    refine sxc_seq ?_
    refine sxc_region ?_
    refine sxo_move rfl rfl rfl ?_
    refine sxo_neq rfl rfl rfl rfl ?_
    refine sxo_nil ?_
    refine sxq_next ?_
    refine sxc_if rfl (fun h63 => ?_) (fun h63 => ?_)
    · refine sxc_seq ?_
      refine sxc_region ?_
      refine sxo_build (cells := [.int .i64 0, .slice none 0 0]) rfl st26 rfl (by kernel_rfl) rfl ?_
      refine sxo_move rfl rfl rfl ?_
      refine sxo_storeB (i := 0) rfl rfl rfl tf26 rfl rfl rfl rfl rfl ?_
      refine sxo_assign rfl rfl rfl ?_
      refine sxo_nil ?_
      refine sxq_next ?_
      refine sxc_ret ?_
      refine sxq_thenR ?_
      refine sxq_nilrow Int (eI .u8) 5 1 ?_
      exact sxq_doneX [] (none, 0) (.inl rfl) rfl .nil (resL (rs := [.cell 6 26, .tmp 7]) rfl (.cell (i := 0) rfl tf26 rfl rfl (by simp) rfl (.tmp rfl ResOk.nil)) rfl) (fun h => by subst h; rfl) (fun h => by subst h; exact .nil) (fun h => by subst h; exact (.cons 0 rfl .nil))
    · refine sxc_skip ?_
      refine sxq_next ?_
      refine sxc_seq ?_
      refine sxc_region ?_
      refine sxo_build (cells := [.int .i64 0, .slice none 0 0]) rfl st91 rfl (by kernel_rfl) rfl ?_
      refine sxo_box rfl rfl rfl (fun g21 => ?_)
      refine sxo_alloc rfl tf89 rfl (fun g22 => ?_)
      refine sxo_storeB (i := 0) rfl rfl rfl tf89 rfl rfl rfl rfl rfl ?_
      refine sxo_nil ?_
      refine sxq_next ?_
      refine sxc_seq ?_
      refine sxc_seq ?_
      refine sxc_region ?_
      refine sxo_loadB (i := 3) rfl rfl tf26 rfl rfl (by simp) rfl rfl ?_
      refine sxo_move rfl rfl rfl ?_
      refine sxo_move rfl rfl rfl ?_
      refine sxo_callM ent66 rfl rfl rfl (fun x43 e43 => C_bits_places F x1 x2 a3 c4 x5 x6 x43 e43) .nil .nil (.consF 0 rfl .nil) (fun x43 e43 => ?_)
      rintro ⟨g44, g45, g46⟩
      refine sxo_nil ?_
      refine sxq_next ?_
      refine sxc_block ?_
      refine sxc_nilrow Int (eI .u8) 5 1 ?_
      refine sxc_range (encs := (fun (p : Int) => [.int .u64 p])) (y := (fun ((x51, x54) : (Int × List Int)) (x59 : Int) => M_bits_Cut_r4 F x51 x54 x59)) (lb := [.pointer (some ⟨g44, 0, none⟩), .pointer (some ⟨g45, 0, none⟩), .pointer (some ⟨g46, 0, none⟩)]) (fun ((x51, x54) : (Int × List Int)) ((a52, c53) : (Option Addr × Nat)) => [⟨g22, 89, [.pointer (some ⟨g21, 0, none⟩)]⟩, ⟨g21, 91, [.int .i64 x51, .slice a52 x54.length c53]⟩, ⟨g8, 26, [.int .i64 0, .slice none 0 0]⟩, ⟨g7, 26, [.int .i64 x1, .slice a3 x2.length c4]⟩]) (fun ((x51, x54) : (Int × List Int)) ((a52, c53) : (Option Addr × Nat)) => [Ro (eI .u8) 5 1 (.slice a52 x54.length c53) x54]) (fun (_ : Empty) (_ : Unit) => []) (fun (_ : Empty) (_ : Unit) => []) (fun _ => .skip) (0, ([] : List Int)) (none, 0) rfl ent83 (fun _ => rfl) rfl (.cons 0 rfl (.cons 0 rfl (.cons 0 rfl .nil))) (.cons 0 rfl (.cons 0 rfl (.cons 0 rfl (.cons 0 rfl .nil)))) (.cons 0 rfl .nil) (.consF 0 rfl .nil) (fun z hz _ _ _ hY => C_bits_places_1 F hY (0, ([] : List Int)) (none, 0) g44 x5 g45 x6 g46 x1 x2 a3 c4 z hz) ?_ ?_ ?_
      · rintro rc4 L4 D4 ⟨x51, x54⟩ ⟨a52, c53⟩ x59 z w M _
        try dsimp only
        refine sxc_less [(1, .int .i64 x5), (2, .int .i64 x6), (3, .pointer (some ⟨g7, 0, none⟩)), (6, .pointer (some ⟨g8, 0, none⟩)), (7, .int .i64 0), (8, .int .i64 x19), (9, .pointer (some ⟨g22, 0, none⟩)), (36, .int .i64 x19), (37, .bool ((x19 : Int) != 0)), (40, .agg #[.int .i64 0, .slice none 0 0]), (41, .pointer (some ⟨g21, 0, none⟩)), (42, .agg #[.int .i64 x1, .slice a3 x2.length c4]), (43, .int .i64 x5), (44, .int .i64 x6), (45, .func (.func 83) #[] #[.pointer (some ⟨g44, 0, none⟩), .pointer (some ⟨g45, 0, none⟩), .pointer (some ⟨g46, 0, none⟩)]), (46, .int .u64 x59)] (lk_cons rfl (lk_cons rfl (lk_cons rfl (lk_cons rfl (lk_cons rfl (lk_cons rfl (lk_cons rfl (lk_cons rfl (lk_cons rfl (lk_cons rfl (lk_cons rfl (lk_cons rfl (lk_cons rfl (lk_cons rfl (lk_cons rfl (lk_cons rfl lk_nil)))))))))))))))) ?_
        refine sxc_region ?_
        refine sxo_assign rfl rfl rfl ?_
        refine sxo_nil ?_
        refine sxq_begin (i := 4) rfl ?_
        refine sxc_block ?_
        refine sxc_region ?_
        refine sxo_loadB (i := 0) rfl rfl tf89 rfl rfl (fun _ => rfl) rfl rfl ?_
        refine sxo_move rfl rfl rfl ?_
        refine sxo_callM ent67 rfl rfl rfl (fun x60 e60 => C_bits_writer_bit F g21 x51 x54 a52 c53 x59 x60 e60) (.cons 1 rfl .nil) (.cons 0 rfl .nil) .nil (fun x60 e60 => ?_)
        rintro ⟨a61, c62⟩
        refine sxo_nil ?_
        refine sxq_blkN ?_
        exact sxq_round (rc := rc4) rfl (.cons 4 rfl .nil) rfl (a61, c62) (.cons 2 rfl (.cons 1 rfl (.cons 1 rfl (.cons 1 rfl (.cons 0 rfl (.cons 0 rfl .nil)))))) (.cons 0 rfl .nil)
      · rintro ⟨x51, x54⟩ _ ⟨a52, c53⟩ D4
        try dsimp only
        refine sxq_blkN ?_
        refine sxq_next ?_
        refine sxc_seq ?_
        refine sxc_region ?_
        refine sxo_loadB (i := 4) rfl rfl tf89 rfl rfl (fun _ => rfl) rfl rfl ?_
        refine sxo_nilCheck rfl rfl rfl ?_
        refine sxo_fieldAddr rfl rfl ff91_0 rfl ?_
        refine sxo_loadB (i := 5) rfl rfl tf26 rfl rfl (by simp) rfl rfl ?_
        refine sxo_storeB (i := 6) rfl rfl rfl tf26 rfl rfl rfl rfl rfl ?_
        refine sxo_assign rfl rfl rfl ?_
        refine sxo_nil ?_
        refine sxq_next ?_
        refine sxc_ret ?_
        exact sxq_doneX [D4] (a52, c53) (.inl rfl) rfl (.cons 0 rfl .nil) (resL (rs := [.cell 6 26, .tmp 7]) rfl (.cell (i := 5) rfl tf26 rfl rfl (by simp) rfl (.tmp rfl ResOk.nil)) rfl) (fun h => by subst h; rfl) (fun h => by subst h; exact .nil) (fun h => by subst h; exact (.cons 0 rfl .nil))
      · intro t; exact t.elim

theorem C_bits_Put (F : Nat) (x1 : Int) (x2 : List Int) (a3 : Option Addr) (c4 : Nat) (x5 : Int) (x6 : Int) (r : (Int × List Int × Int)) (hm : M_bits_Put F x1 x2 x5 x6 = some r) :
    Pure Try.prog 44 [.agg #[.int .i64 x1, .slice a3 x2.length c4], .int .u64 x5, .int .i64 x6] [Sl (eI .u8) 1 (.slice a3 x2.length c4) x2] (Option Addr × Nat) (fun g => .tuple #[.agg #[.int .i64 r.1, .slice g.1 r.2.1.length g.2], .int .i64 r.2.2]) (fun g => [Ro (eI .u8) 5 1 (.slice g.1 r.2.1.length g.2) r.2.1]) (fun _ => []) := by
  refine pure_of Try.func44 rfl Try.ntmps44 rfl hm (fun w => ?_)
  refine sxc_env (l' := [(0, .agg #[.int .i64 x1, .slice a3 x2.length c4]), (1, .int .u64 x5), (2, .int .i64 x6)]) rfl ?_
  refine sxc_seq ?_
  refine sxc_region ?_
  refine sxo_box rfl rfl rfl (fun g7 => ?_)
  refine sxo_alloc rfl tf26 rfl (fun g8 => ?_)
  refine sxo_assign rfl rfl rfl ?_
  refine sxo_nil ?_
  refine sxq_next ?_
  refine sxc_seq ?_
  refine sxc_region ?_
  refine sxo_loadB (i := 1) rfl rfl tf26 rfl rfl (by simp) rfl rfl ?_
  refine sxo_call ent63 rfl rfl rfl (fun x9 e9 => C_bits_Check F x1 x2 a3 c4 x9 e9) (.consF 0 rfl .nil) (fun x9 e9 => ?_)
  intro _
  refine sxo_assign rfl rfl rfl ?_
  refine sxo_nil ?_
  refine sxq_next ?_
  refine sxc_join (fun ((x24, _) : (Int × Unit)) => [(1, .int .u64 x5), (2, .int .i64 x6), (3, .pointer (some ⟨g7, 0, none⟩)), (6, .pointer (some ⟨g8, 0, none⟩)), (8, .int .i64 x24)]) (fun ((x24, _) : (Int × Unit)) => [⟨g8, 26, [.int .i64 0, .slice none 0 0]⟩, ⟨g7, 26, [.int .i64 x1, .slice a3 x2.length c4]⟩]) (fun ((x24, _) : (Int × Unit)) => []) (fun ((x24, _) : (Int × Unit)) => [Sl (eI .u8) 1 (.slice a3 x2.length c4) x2]) (fun ((x24, _) : (Int × Unit)) => M_bits_Put_j4 F x1 x2 x5 x6 x24) ?_ ?_
  · refine sxc_block ?_
    refine sxc_seq ?_
    refine sxc_region ?_
    refine sxo_move rfl rfl rfl ?_
    refine sxo_neq rfl rfl rfl rfl ?_
    refine sxo_assign rfl rfl rfl ?_
    refine sxo_nil ?_
    refine sxq_next ?_
    refine sxc_if rfl (fun h43 => ?_) (fun h43 => ?_)
    · refine sxc_skip ?_
      refine sxq_blkN ?_
      exact sxq_meetP (x9, ()) (lk_cons rfl (lk_cons rfl (lk_cons rfl (lk_cons rfl (lk_cons rfl lk_nil))))) (.cons 0 rfl (.cons 0 rfl .nil)) .nil (fk_cons 0 rfl fk_nil)
    · refine sxc_seq ?_
      refine sxc_region ?_
      refine sxo_move rfl rfl rfl ?_
      refine sxo_lss rfl rfl rfl rfl ?_
      refine sxo_move rfl rfl rfl ?_
      refine sxo_case 3 (decide (x6 < 0)) [(1, .int .u64 x5), (2, .int .i64 x6), (3, .pointer (some ⟨g7, 0, none⟩)), (6, .pointer (some ⟨g8, 0, none⟩)), (8, .int .i64 x9), (20, .bool ((decide (x6 < 0)) || (decide (64 < x6))))] (fun h30 => ?_) (fun h30 => ?_) ?_
      · refine sxo_take (os := _) rfl ?_
        refine sxo_isT (k := 17) rfl h30 ?_
        refine sxo_skip rfl rfl rfl ?_
        refine sxo_skip rfl rfl rfl ?_
        refine sxo_pick (b := true) rfl rfl rfl rfl ?_
        refine sxo_again (d := 20) (v := .bool ((decide (x6 < 0)) || (decide (64 < x6)))) rfl (by rw [h30]; simp only [Bool.true_or]) ?_
        refine sxo_nil ?_
        exact sxq_case (lk_cons rfl (lk_cons rfl (lk_cons rfl (lk_cons rfl (lk_cons rfl (lk_cons rfl lk_nil))))))
      · refine sxo_take (os := _) rfl ?_
        refine sxo_isF (k := 17) rfl h30 ?_
        refine sxo_move rfl rfl rfl ?_
        refine sxo_gtr rfl rfl rfl rfl ?_
        refine sxo_pick (b := false) rfl rfl rfl rfl ?_
        refine sxo_again (d := 20) (v := .bool ((decide (x6 < 0)) || (decide (64 < x6)))) rfl (by rw [h30]; simp only [Bool.false_or]) ?_
        refine sxo_nil ?_
        exact sxq_case (lk_cons rfl (lk_cons rfl (lk_cons rfl (lk_cons rfl (lk_cons rfl (lk_cons rfl lk_nil))))))
      refine sxo_take (os := _) rfl ?_
      refine sxo_move rfl rfl rfl ?_
      refine sxo_join 9 (fun ((x36, _) : (Bool × Unit)) => [(1, .int .u64 x5), (2, .int .i64 x6), (3, .pointer (some ⟨g7, 0, none⟩)), (6, .pointer (some ⟨g8, 0, none⟩)), (8, .int .i64 x9), (30, .bool x36)]) (fun ((x36, _) : (Bool × Unit)) => [⟨g8, 26, [.int .i64 0, .slice none 0 0]⟩, ⟨g7, 26, [.int .i64 x1, .slice a3 x2.length c4]⟩]) (fun ((x36, _) : (Bool × Unit)) => []) (fun ((x36, _) : (Bool × Unit)) => [Sl (eI .u8) 1 (.slice a3 x2.length c4) x2]) (fun ((x36, _) : (Bool × Unit)) => M_bits_Put_j6 F x1 x2 x5 x6 x9 x36) ?_ ?_
      · refine sxo_take (os := _) rfl ?_
        refine sxo_if (fun h31 => ?_) (fun h31 => ?_)
        · refine sxo_isT (k := 21) rfl h31 ?_
          refine sxo_skip rfl rfl rfl ?_
          refine sxo_skip rfl rfl rfl ?_
          refine sxo_skip rfl rfl rfl ?_
          refine sxo_skip rfl rfl rfl ?_
          refine sxo_skip rfl rfl rfl ?_
          refine sxo_skip rfl rfl rfl ?_
          refine sxo_skip rfl rfl rfl ?_
          refine sxo_skip rfl rfl rfl ?_
          refine sxo_pick (b := true) rfl rfl rfl rfl ?_
          refine sxo_nil ?_
          exact sxq_meetP (true, ()) (lk_cons rfl (lk_cons rfl (lk_cons rfl (lk_cons rfl (lk_cons rfl (lk_cons rfl lk_nil)))))) (.cons 0 rfl (.cons 0 rfl .nil)) .nil (fk_cons 0 rfl fk_nil)
        · refine sxo_isF (k := 21) rfl h31 ?_
          refine sxo_move rfl rfl rfl ?_
          refine sxo_lss rfl rfl rfl rfl ?_
          refine sxo_move rfl rfl rfl ?_
          refine sxo_join 5 (fun ((x41, _) : (Bool × Unit)) => [(1, .int .u64 x5), (2, .int .i64 x6), (3, .pointer (some ⟨g7, 0, none⟩)), (6, .pointer (some ⟨g8, 0, none⟩)), (8, .int .i64 x9), (21, .bool false), (29, .bool x41)]) (fun ((x41, _) : (Bool × Unit)) => [⟨g8, 26, [.int .i64 0, .slice none 0 0]⟩, ⟨g7, 26, [.int .i64 x1, .slice a3 x2.length c4]⟩]) (fun ((x41, _) : (Bool × Unit)) => []) (fun ((x41, _) : (Bool × Unit)) => [Sl (eI .u8) 1 (.slice a3 x2.length c4) x2]) (fun ((x41, _) : (Bool × Unit)) => M_bits_Put_j7 F x1 x2 x5 x6 x9 x41) ?_ ?_
          · refine sxo_take (os := _) rfl ?_
            refine sxo_if (fun h39 => ?_) (fun h39 => ?_)
            · refine sxo_isT (k := 24) rfl h39 ?_
              refine sxo_move rfl rfl rfl ?_
              refine sxo_move rfl rfl rfl ?_
              refine sxo_chk (fun h42 => ?_)
              refine sxo_shr rfl rfl rfl rfl h42 ?_
              refine sxo_neq rfl rfl rfl rfl ?_
              refine sxo_pick (b := true) rfl rfl rfl rfl ?_
              refine sxo_nil ?_
              exact sxq_meetP ((((ishr .u64 x5 x6) : Int) != 0), ()) (lk_cons rfl (lk_cons rfl (lk_cons rfl (lk_cons rfl (lk_cons rfl (lk_cons rfl (lk_cons rfl lk_nil))))))) (.cons 0 rfl (.cons 0 rfl .nil)) .nil (fk_cons 0 rfl fk_nil)
            · refine sxo_isF (k := 24) rfl h39 ?_
              refine sxo_skip rfl rfl rfl ?_
              refine sxo_skip rfl rfl rfl ?_
              refine sxo_skip rfl rfl rfl ?_
              refine sxo_skip rfl rfl rfl ?_
              refine sxo_pick (b := false) rfl rfl rfl rfl ?_
              refine sxo_nil ?_
              exact sxq_meetP (false, ()) (lk_cons rfl (lk_cons rfl (lk_cons rfl (lk_cons rfl (lk_cons rfl (lk_cons rfl (lk_cons rfl lk_nil))))))) (.cons 0 rfl (.cons 0 rfl .nil)) .nil (fk_cons 0 rfl fk_nil)
          · rintro ⟨x41, _⟩
            try dsimp only
            refine sxo_take (os := _) rfl ?_
            refine sxo_pick (b := false) rfl rfl rfl rfl ?_
            refine sxo_nil ?_
            exact sxq_meetP (x41, ()) (lk_cons rfl (lk_cons rfl (lk_cons rfl (lk_cons rfl (lk_cons rfl (lk_cons rfl lk_nil)))))) (.cons 0 rfl (.cons 0 rfl .nil)) .nil (fk_cons 0 rfl fk_nil)
      · rintro ⟨x36, _⟩
        try dsimp only
        refine sxo_take (os := _) rfl ?_
        refine sxo_assign rfl rfl rfl ?_
        refine sxo_nil ?_
        refine sxq_next ?_
        refine sxc_if rfl (fun h38 => ?_) (fun h38 => ?_)
        · refine sxc_region ?_
          refine sxo_assign rfl rfl rfl ?_
          refine sxo_nil ?_
          refine sxq_blkN ?_
          exact sxq_meetP (3, ()) (lk_cons rfl (lk_cons rfl (lk_cons rfl (lk_cons rfl (lk_cons rfl lk_nil))))) (.cons 0 rfl (.cons 0 rfl .nil)) .nil (fk_cons 0 rfl fk_nil)
        · refine sxc_seq ?_
          refine sxc_region ?_
          refine sxo_fieldAddr rfl rfl ff26_0 rfl ?_
          refine sxo_loadB (i := 1) rfl rfl tf3 rfl rfl (fun _ => rfl) rfl rfl ?_
          refine sxo_move rfl rfl rfl ?_
          refine sxo_add rfl rfl rfl rfl ?_
          refine sxo_gtr rfl rfl rfl rfl ?_
          refine sxo_assign rfl rfl rfl ?_
          refine sxo_nil ?_
          refine sxq_next ?_
          refine sxc_if rfl (fun h37 => ?_) (fun h37 => ?_)
          · refine sxc_region ?_
            refine sxo_assign rfl rfl rfl ?_
            refine sxo_nil ?_
            refine sxq_blkN ?_
            exact sxq_meetP (8, ()) (lk_cons rfl (lk_cons rfl (lk_cons rfl (lk_cons rfl (lk_cons rfl lk_nil))))) (.cons 0 rfl (.cons 0 rfl .nil)) .nil (fk_cons 0 rfl fk_nil)
          · refine sxc_skip ?_
            refine sxq_blkN ?_
            exact sxq_meetP (x9, ()) (lk_cons rfl (lk_cons rfl (lk_cons rfl (lk_cons rfl (lk_cons rfl lk_nil))))) (.cons 0 rfl (.cons 0 rfl .nil)) .nil (fk_cons 0 rfl fk_nil)
  · rintro ⟨x24, _⟩
    try dsimp only
    refine sxc_seq ?_
    refine sxc_seq ?_
    refine sxc_region ?_
    refine sxo_move rfl rfl rfl ?_
    refine sxo_neq rfl rfl rfl rfl ?_
    refine sxo_nil ?_
    refine sxq_next ?_
    refine sxc_if rfl (fun h29 => ?_) (fun h29 => ?_)
    · refine sxc_seq ?_
      refine sxc_region ?_
      refine sxo_build (cells := [.int .i64 0, .slice none 0 0]) rfl st26 rfl (by kernel_rfl) rfl ?_
      refine sxo_move rfl rfl rfl ?_
      refine sxo_storeB (i := 0) rfl rfl rfl tf26 rfl rfl rfl rfl rfl ?_
      refine sxo_assign rfl rfl rfl ?_
      refine sxo_nil ?_
      refine sxq_next ?_
      refine sxc_ret ?_
      refine sxq_thenR ?_
      refine sxq_nilrow Int (eI .u8) 5 1 ?_
      exact sxq_doneP (none, 0) (.inl rfl) (resL (rs := [.cell 6 26, .tmp 7]) rfl (.cell (i := 0) rfl tf26 rfl rfl (by simp) rfl (.tmp rfl ResOk.nil)) rfl) (fun h => by subst h; rfl) (fun h => by subst h; exact (.cons 0 rfl .nil))
    · refine sxc_skip ?_
      refine sxq_next ?_
      refine sxc_seq ?_
      refine sxc_region ?_
      refine sxo_loadB (i := 1) rfl rfl tf26 rfl rfl (by simp) rfl rfl ?_
      refine sxo_move rfl rfl rfl ?_
      refine sxo_move rfl rfl rfl ?_
      refine sxo_call ent68 rfl rfl rfl (fun x26 e26 => C_bits_Add F x1 x2 a3 c4 x5 x6 x26 e26) (.consF 0 rfl .nil) (fun x26 e26 => ?_)
      rintro ⟨a27, c28⟩
      refine sxo_storeB (i := 0) rfl rfl rfl tf26 rfl rfl rfl rfl rfl ?_
      refine sxo_assign rfl rfl rfl ?_
      refine sxo_nil ?_
      refine sxq_next ?_
      refine sxc_ret ?_
      exact sxq_doneP (a27, c28) (.inl rfl) (resL (rs := [.cell 6 26, .tmp 7]) rfl (.cell (i := 0) rfl tf26 rfl rfl (by simp) rfl (.tmp rfl ResOk.nil)) rfl) (fun h => by subst h; rfl) (fun h => by subst h; exact (.cons 0 rfl .nil))

set_option maxHeartbeats 4000000 in
theorem C_L_bitsBegun (F : Nat)  (r : Bool) (hm : M_L_bitsBegun F  = some r) :
    Pure Try.prog 40 [] [] Unit (fun _ => .bool r) (fun _ => []) (fun _ => []) := by
  refine pure_of Try.func40 rfl Try.ntmps40 rfl hm (fun w => ?_)
  refine sxc_env (l' := []) rfl ?_
  refine sxc_seq ?_
  refine sxc_region ?_
  refine sxo_assign rfl rfl rfl ?_
  refine sxo_nil ?_
  refine sxq_next ?_
  refine sxc_seq ?_
  refine sxc_region ?_
  refine sxo_build (cells := [.int .i64 0, .slice none 0 0]) rfl st26 rfl (by kernel_rfl) rfl ?_
  refine sxo_nilrow' Int (eI .u8) 5 1 ?_
  refine sxo_call ent44 rfl rfl rfl (fun x1 e1 => C_bits_Put F 0 ([] : List Int) none 0 5 3 x1 e1) (.consR 0 (Ro (eI .u8) 5 1 (.slice none ([] : List Int).length 0) ([] : List Int)) rfl .nil) (fun x1 e1 => ?_)
  rintro ⟨a2, c3⟩
  refine sxo_move rfl rfl rfl ?_
  refine sxo_extract rfl rfl rfl rfl ?_
  refine sxo_extract rfl rfl rfl rfl ?_
  refine sxo_alloc rfl tf26 rfl (fun g4 => ?_)
  refine sxo_storeB (i := 0) rfl rfl rfl tf26 rfl rfl rfl rfl rfl ?_
  refine sxo_assign rfl rfl rfl ?_
  refine sxo_nil ?_
  refine sxq_next ?_
  refine sxc_seq ?_
  refine sxc_region ?_
  refine sxo_loadB (i := 0) rfl rfl tf26 rfl rfl (by simp) rfl rfl ?_
  refine sxo_call ent44 rfl rfl rfl (fun x5 e5 => C_bits_Put F x1.1 x1.2.1 a2 c3 9 7 x5 e5) (.consR 0 (Ro (eI .u8) 5 1 (.slice a2 x1.2.1.length c3) x1.2.1) rfl .nil) (fun x5 e5 => ?_)
  rintro ⟨a6, c7⟩
  refine sxo_move rfl rfl rfl ?_
  refine sxo_extract rfl rfl rfl rfl ?_
  refine sxo_extract rfl rfl rfl rfl ?_
  refine sxo_alloc rfl tf26 rfl (fun g8 => ?_)
  refine sxo_storeB (i := 0) rfl rfl rfl tf26 rfl rfl rfl rfl rfl ?_
  refine sxo_assign rfl rfl rfl ?_
  refine sxo_nil ?_
  refine sxq_next ?_
  refine sxc_seq ?_
  refine sxc_region ?_
  refine sxo_loadB (i := 0) rfl rfl tf26 rfl rfl (by simp) rfl rfl ?_
  refine sxo_call ent42 rfl rfl rfl (fun x9 e9 => C_bits_Get F x5.1 x5.2.1 a6 c7 3 7 x9 e9) (.consR 0 (Ro (eI .u8) 5 1 (.slice a6 x5.2.1.length c7) x5.2.1) rfl .nil) (fun x9 e9 => ?_)
  intro _
  refine sxo_move rfl rfl rfl ?_
  refine sxo_extract rfl rfl rfl rfl ?_
  refine sxo_extract rfl rfl rfl rfl ?_
  refine sxo_assign rfl rfl rfl ?_
  refine sxo_assign rfl rfl rfl ?_
  refine sxo_nil ?_
  refine sxq_next ?_
  refine sxc_seq ?_
  refine sxc_region ?_
  refine sxo_loadB (i := 1) rfl rfl tf26 rfl rfl (by simp) rfl rfl ?_
  refine sxo_loadB (i := 0) rfl rfl tf26 rfl rfl (by simp) rfl rfl ?_
  refine sxo_call ent41 rfl rfl rfl (fun x10 e10 => C_bits_Join F x1.1 x1.2.1 a2 c3 x5.1 x5.2.1 a6 c7 x10 e10) (.consR 1 (Ro (eI .u8) 5 1 (.slice a2 x1.2.1.length c3) x1.2.1) rfl (.consR 0 (Ro (eI .u8) 5 1 (.slice a6 x5.2.1.length c7) x5.2.1) rfl .nil)) (fun x10 e10 => ?_)
  rintro ⟨a11, c12⟩
  refine sxo_move rfl rfl rfl ?_
  refine sxo_extract rfl rfl rfl rfl ?_
  refine sxo_extract rfl rfl rfl rfl ?_
  refine sxo_alloc rfl tf26 rfl (fun g13 => ?_)
  refine sxo_storeB (i := 0) rfl rfl rfl tf26 rfl rfl rfl rfl rfl ?_
  refine sxo_assign rfl rfl rfl ?_
  refine sxo_nil ?_
  refine sxq_next ?_
  refine sxc_seq ?_
  refine sxc_region ?_
  refine sxo_loadB (i := 1) rfl rfl tf26 rfl rfl (by simp) rfl rfl ?_
  refine sxo_callM ent43 rfl rfl rfl (fun x14 e14 => C_bits_Cut F x5.1 x5.2.1 a6 c7 0 3 x14 e14) .nil .nil (.consR 1 (Ro (eI .u8) 5 1 (.slice a6 x5.2.1.length c7) x5.2.1) rfl .nil) (fun x14 e14 => ?_)
  rintro ⟨a15, c16⟩
  refine sxo_move rfl rfl rfl ?_
  refine sxo_extract rfl rfl rfl rfl ?_
  refine sxo_extract rfl rfl rfl rfl ?_
  refine sxo_alloc rfl tf26 rfl (fun g17 => ?_)
  refine sxo_storeB (i := 0) rfl rfl rfl tf26 rfl rfl rfl rfl rfl ?_
  refine sxo_assign rfl rfl rfl ?_
  refine sxo_nil ?_
  refine sxq_next ?_
  refine sxc_seq ?_
  refine sxc_region ?_
  refine sxo_loadB (i := 2) rfl rfl tf26 rfl rfl (by simp) rfl rfl ?_
  refine sxo_call ent42 rfl rfl rfl (fun x18 e18 => C_bits_Get F x5.1 x5.2.1 a6 c7 9 2 x18 e18) (.consR 2 (Ro (eI .u8) 5 1 (.slice a6 x5.2.1.length c7) x5.2.1) rfl .nil) (fun x18 e18 => ?_)
  intro _
  refine sxo_move rfl rfl rfl ?_
  refine sxo_extract rfl rfl rfl rfl ?_
  refine sxo_extract rfl rfl rfl rfl ?_
  refine sxo_assign rfl rfl rfl ?_
  refine sxo_assign rfl rfl rfl ?_
  refine sxo_nil ?_
  refine sxq_next ?_
  refine sxc_seq ?_
  refine sxc_region ?_
  refine sxo_loadB (i := 3) rfl rfl tf26 rfl rfl (by simp) rfl rfl ?_
  refine sxo_slit (vs := [.int .u8 160]) (ys := ([160] : List Int)) (eI_ok .u8) (by decide) rfl Try.underlying24 tf5 rfl rfl rfl rfl rfl (by decide) (fun a19 c20 => ?_)
  refine sxo_build (cells := [.int .i64 3, .slice a19 ([160] : List Int).length c20]) rfl st26 rfl (by kernel_rfl) rfl ?_
  refine sxo_call ent30 rfl rfl rfl (fun x21 e21 => C_R_SameBits F x1.1 x1.2.1 a2 c3 3 ([160] : List Int) a19 c20 x21 e21) (.consR 4 (Ro (eI .u8) 5 1 (.slice a2 x1.2.1.length c3) x1.2.1) rfl (.consR 0 (Ro (eI .u8) 5 1 (.slice a19 ([160] : List Int).length c20) ([160] : List Int)) rfl .nil)) (fun x21 e21 => ?_)
  intro _
  refine sxo_move rfl rfl rfl ?_
  refine sxo_case 3 x21 [(1, .pointer (some ⟨g4, 0, none⟩)), (3, .pointer (some ⟨g8, 0, none⟩)), (4, .int .i64 x5.2.2), (5, .int .u64 x9.1), (6, .int .i64 x9.2), (7, .pointer (some ⟨g13, 0, none⟩)), (8, .int .i64 x10.2.2), (9, .pointer (some ⟨g17, 0, none⟩)), (10, .int .i64 x14.2.2), (12, .int .i64 x18.2), (51, .bool (x21 && ((x1.2.2 : Int) == 0)))] (fun h22 => ?_) (fun h22 => ?_) ?_
  · refine sxo_take (os := _) rfl ?_
    refine sxo_isT (k := 48) rfl h22 ?_
    refine sxo_move rfl rfl rfl ?_
    refine sxo_eql rfl rfl rfl rfl ?_
    refine sxo_pick (b := true) rfl rfl rfl rfl ?_
    refine sxo_again (d := 51) (v := .bool (x21 && ((x1.2.2 : Int) == 0))) rfl (by rw [h22]; simp only [Bool.true_and]) ?_
    refine sxo_nil ?_
    exact sxq_case (lk_cons rfl (lk_cons rfl (lk_cons rfl (lk_cons rfl (lk_cons rfl (lk_cons rfl (lk_cons rfl (lk_cons rfl (lk_cons rfl (lk_cons rfl (lk_cons rfl lk_nil)))))))))))
  · refine sxo_take (os := _) rfl ?_
    refine sxo_isF (k := 48) rfl h22 ?_
    refine sxo_skip rfl rfl rfl ?_
    refine sxo_skip rfl rfl rfl ?_
    refine sxo_pick (b := false) rfl rfl rfl rfl ?_
    refine sxo_again (d := 51) (v := .bool (x21 && ((x1.2.2 : Int) == 0))) rfl (by rw [h22]; simp only [Bool.false_and]) ?_
    refine sxo_nil ?_
    exact sxq_case (lk_cons rfl (lk_cons rfl (lk_cons rfl (lk_cons rfl (lk_cons rfl (lk_cons rfl (lk_cons rfl (lk_cons rfl (lk_cons rfl (lk_cons rfl (lk_cons rfl lk_nil)))))))))))
  refine sxo_take (os := _) rfl ?_
  refine sxo_move rfl rfl rfl ?_
  refine sxo_join 5 (fun ((x27, _) : (Bool × Unit)) => [(1, .pointer (some ⟨g4, 0, none⟩)), (4, .int .i64 x5.2.2), (5, .int .u64 x9.1), (6, .int .i64 x9.2), (7, .pointer (some ⟨g13, 0, none⟩)), (8, .int .i64 x10.2.2), (9, .pointer (some ⟨g17, 0, none⟩)), (10, .int .i64 x14.2.2), (12, .int .i64 x18.2), (57, .bool x27)]) (fun ((x27, _) : (Bool × Unit)) => [⟨g17, 26, [.int .i64 x14.1, .slice a15 x14.2.1.length c16]⟩, ⟨g13, 26, [.int .i64 x10.1, .slice a11 x10.2.1.length c12]⟩, ⟨g4, 26, [.int .i64 x1.1, .slice a2 x1.2.1.length c3]⟩]) (fun ((x27, _) : (Bool × Unit)) => [Ro (eI .u8) 5 1 (.slice a15 x14.2.1.length c16) x14.2.1, Ro (eI .u8) 5 1 (.slice a11 x10.2.1.length c12) x10.2.1, Ro (eI .u8) 5 1 (.slice a2 x1.2.1.length c3) x1.2.1]) (fun ((x27, _) : (Bool × Unit)) => []) (fun ((x27, _) : (Bool × Unit)) => M_L_bitsBegun_j1 F x1 x5 x9 x10 x14 x18 x27) ?_ ?_
  · refine sxo_take (os := _) rfl ?_
    refine sxo_if (fun h23 => ?_) (fun h23 => ?_)
    · refine sxo_isT (k := 52) rfl h23 ?_
      refine sxo_loadB (i := 2) rfl rfl tf26 rfl rfl (by simp) rfl rfl ?_
      refine sxo_slit (vs := [.int .u8 162, .int .u8 64]) (ys := ([162, 64] : List Int)) (eI_ok .u8) (by decide) rfl Try.underlying24 tf5 rfl rfl rfl rfl rfl (by decide) (fun a47 c48 => ?_)
      refine sxo_build (cells := [.int .i64 10, .slice a47 ([162, 64] : List Int).length c48]) rfl st26 rfl (by kernel_rfl) rfl ?_
      refine sxo_call ent30 rfl rfl rfl (fun x49 e49 => C_R_SameBits F x5.1 x5.2.1 a6 c7 10 ([162, 64] : List Int) a47 c48 x49 e49) (.consR 4 (Ro (eI .u8) 5 1 (.slice a6 x5.2.1.length c7) x5.2.1) rfl (.consR 0 (Ro (eI .u8) 5 1 (.slice a47 ([162, 64] : List Int).length c48) ([162, 64] : List Int)) rfl .nil)) (fun x49 e49 => ?_)
      intro _
      refine sxo_pick (b := true) rfl rfl rfl rfl ?_
      refine sxo_nil ?_
      exact sxq_meetP (x49, ()) (lk_cons rfl (lk_cons rfl (lk_cons rfl (lk_cons rfl (lk_cons rfl (lk_cons rfl (lk_cons rfl (lk_cons rfl (lk_cons rfl (lk_cons rfl lk_nil)))))))))) (.cons 0 rfl (.cons 0 rfl (.cons 1 rfl .nil))) (.cons 2 rfl (.cons 2 rfl (.cons 3 rfl .nil))) fk_nil
    · refine sxo_isF (k := 52) rfl h23 ?_
      refine sxo_skip rfl rfl rfl ?_
      refine sxo_skip rfl rfl rfl ?_
      refine sxo_skip rfl rfl rfl ?_
      refine sxo_skip rfl rfl rfl ?_
      refine sxo_pick (b := false) rfl rfl rfl rfl ?_
      refine sxo_nil ?_
      exact sxq_meetP (false, ()) (lk_cons rfl (lk_cons rfl (lk_cons rfl (lk_cons rfl (lk_cons rfl (lk_cons rfl (lk_cons rfl (lk_cons rfl (lk_cons rfl (lk_cons rfl lk_nil)))))))))) (.cons 0 rfl (.cons 0 rfl (.cons 1 rfl .nil))) (.cons 1 rfl (.cons 1 rfl (.cons 2 rfl .nil))) fk_nil
  · rintro ⟨x27, _⟩
    try dsimp only
    refine sxo_take (os := _) rfl ?_
    refine sxo_move rfl rfl rfl ?_
    refine sxo_case 3 x27 [(1, .pointer (some ⟨g4, 0, none⟩)), (5, .int .u64 x9.1), (6, .int .i64 x9.2), (7, .pointer (some ⟨g13, 0, none⟩)), (8, .int .i64 x10.2.2), (9, .pointer (some ⟨g17, 0, none⟩)), (10, .int .i64 x14.2.2), (12, .int .i64 x18.2), (61, .bool (x27 && ((x5.2.2 : Int) == 0)))] (fun h28 => ?_) (fun h28 => ?_) ?_
    · refine sxo_take (os := _) rfl ?_
      refine sxo_isT (k := 58) rfl h28 ?_
      refine sxo_move rfl rfl rfl ?_
      refine sxo_eql rfl rfl rfl rfl ?_
      refine sxo_pick (b := true) rfl rfl rfl rfl ?_
      refine sxo_again (d := 61) (v := .bool (x27 && ((x5.2.2 : Int) == 0))) rfl (by rw [h28]; simp only [Bool.true_and]) ?_
      refine sxo_nil ?_
      exact sxq_case (lk_cons rfl (lk_cons rfl (lk_cons rfl (lk_cons rfl (lk_cons rfl (lk_cons rfl (lk_cons rfl (lk_cons rfl (lk_cons rfl lk_nil)))))))))
    · refine sxo_take (os := _) rfl ?_
      refine sxo_isF (k := 58) rfl h28 ?_
      refine sxo_skip rfl rfl rfl ?_
      refine sxo_skip rfl rfl rfl ?_
      refine sxo_pick (b := false) rfl rfl rfl rfl ?_
      refine sxo_again (d := 61) (v := .bool (x27 && ((x5.2.2 : Int) == 0))) rfl (by rw [h28]; simp only [Bool.false_and]) ?_
      refine sxo_nil ?_
      exact sxq_case (lk_cons rfl (lk_cons rfl (lk_cons rfl (lk_cons rfl (lk_cons rfl (lk_cons rfl (lk_cons rfl (lk_cons rfl (lk_cons rfl lk_nil)))))))))
    refine sxo_take (os := _) rfl ?_
    refine sxo_move rfl rfl rfl ?_
    refine sxo_case 3 (x27 && ((x5.2.2 : Int) == 0)) [(1, .pointer (some ⟨g4, 0, none⟩)), (6, .int .i64 x9.2), (7, .pointer (some ⟨g13, 0, none⟩)), (8, .int .i64 x10.2.2), (9, .pointer (some ⟨g17, 0, none⟩)), (10, .int .i64 x14.2.2), (12, .int .i64 x18.2), (65, .bool ((x27 && ((x5.2.2 : Int) == 0)) && ((x9.1 : Int) == 9)))] (fun h29 => ?_) (fun h29 => ?_) ?_
    · refine sxo_take (os := _) rfl ?_
      refine sxo_isT (k := 62) rfl h29 ?_
      refine sxo_move rfl rfl rfl ?_
      refine sxo_eql rfl rfl rfl rfl ?_
      refine sxo_pick (b := true) rfl rfl rfl rfl ?_
      refine sxo_again (d := 65) (v := .bool ((x27 && ((x5.2.2 : Int) == 0)) && ((x9.1 : Int) == 9))) rfl (by rw [h29]; simp only [Bool.true_and]) ?_
      refine sxo_nil ?_
      exact sxq_case (lk_cons rfl (lk_cons rfl (lk_cons rfl (lk_cons rfl (lk_cons rfl (lk_cons rfl (lk_cons rfl (lk_cons rfl lk_nil))))))))
    · refine sxo_take (os := _) rfl ?_
      refine sxo_isF (k := 62) rfl h29 ?_
      refine sxo_skip rfl rfl rfl ?_
      refine sxo_skip rfl rfl rfl ?_
      refine sxo_pick (b := false) rfl rfl rfl rfl ?_
      refine sxo_again (d := 65) (v := .bool ((x27 && ((x5.2.2 : Int) == 0)) && ((x9.1 : Int) == 9))) rfl (by rw [h29]; simp only [Bool.false_and]) ?_
      refine sxo_nil ?_
      exact sxq_case (lk_cons rfl (lk_cons rfl (lk_cons rfl (lk_cons rfl (lk_cons rfl (lk_cons rfl (lk_cons rfl (lk_cons rfl lk_nil))))))))
    refine sxo_take (os := _) rfl ?_
    refine sxo_move rfl rfl rfl ?_
    refine sxo_case 3 ((x27 && ((x5.2.2 : Int) == 0)) && ((x9.1 : Int) == 9)) [(1, .pointer (some ⟨g4, 0, none⟩)), (7, .pointer (some ⟨g13, 0, none⟩)), (8, .int .i64 x10.2.2), (9, .pointer (some ⟨g17, 0, none⟩)), (10, .int .i64 x14.2.2), (12, .int .i64 x18.2), (69, .bool (((x27 && ((x5.2.2 : Int) == 0)) && ((x9.1 : Int) == 9)) && ((x9.2 : Int) == 0)))] (fun h30 => ?_) (fun h30 => ?_) ?_
    · refine sxo_take (os := _) rfl ?_
      refine sxo_isT (k := 66) rfl h30 ?_
      refine sxo_move rfl rfl rfl ?_
      refine sxo_eql rfl rfl rfl rfl ?_
      refine sxo_pick (b := true) rfl rfl rfl rfl ?_
      refine sxo_again (d := 69) (v := .bool (((x27 && ((x5.2.2 : Int) == 0)) && ((x9.1 : Int) == 9)) && ((x9.2 : Int) == 0))) rfl (by rw [h30]; simp only [Bool.true_and]) ?_
      refine sxo_nil ?_
      exact sxq_case (lk_cons rfl (lk_cons rfl (lk_cons rfl (lk_cons rfl (lk_cons rfl (lk_cons rfl (lk_cons rfl lk_nil)))))))
    · refine sxo_take (os := _) rfl ?_
      refine sxo_isF (k := 66) rfl h30 ?_
      refine sxo_skip rfl rfl rfl ?_
      refine sxo_skip rfl rfl rfl ?_
      refine sxo_pick (b := false) rfl rfl rfl rfl ?_
      refine sxo_again (d := 69) (v := .bool (((x27 && ((x5.2.2 : Int) == 0)) && ((x9.1 : Int) == 9)) && ((x9.2 : Int) == 0))) rfl (by rw [h30]; simp only [Bool.false_and]) ?_
      refine sxo_nil ?_
      exact sxq_case (lk_cons rfl (lk_cons rfl (lk_cons rfl (lk_cons rfl (lk_cons rfl (lk_cons rfl (lk_cons rfl lk_nil)))))))
    refine sxo_take (os := _) rfl ?_
    refine sxo_move rfl rfl rfl ?_
    refine sxo_case 4 (((x27 && ((x5.2.2 : Int) == 0)) && ((x9.1 : Int) == 9)) && ((x9.2 : Int) == 0)) [(1, .pointer (some ⟨g4, 0, none⟩)), (8, .int .i64 x10.2.2), (9, .pointer (some ⟨g17, 0, none⟩)), (10, .int .i64 x14.2.2), (12, .int .i64 x18.2), (74, .bool ((((x27 && ((x5.2.2 : Int) == 0)) && ((x9.1 : Int) == 9)) && ((x9.2 : Int) == 0)) && ((x10.1 : Int) == 13)))] (fun h31 => ?_) (fun h31 => ?_) ?_
    · refine sxo_take (os := _) rfl ?_
      refine sxo_isT (k := 70) rfl h31 ?_
      refine sxo_fieldAddr rfl rfl ff26_0 rfl ?_
      refine sxo_loadB (i := 1) rfl rfl tf3 rfl rfl (fun _ => rfl) rfl rfl ?_
      refine sxo_eql rfl rfl rfl rfl ?_
      refine sxo_pick (b := true) rfl rfl rfl rfl ?_
      refine sxo_again (d := 74) (v := .bool ((((x27 && ((x5.2.2 : Int) == 0)) && ((x9.1 : Int) == 9)) && ((x9.2 : Int) == 0)) && ((x10.1 : Int) == 13))) rfl (by rw [h31]; simp only [Bool.true_and]) ?_
      refine sxo_nil ?_
      exact sxq_case (lk_cons rfl (lk_cons rfl (lk_cons rfl (lk_cons rfl (lk_cons rfl (lk_cons rfl lk_nil))))))
    · refine sxo_take (os := _) rfl ?_
      refine sxo_isF (k := 70) rfl h31 ?_
      refine sxo_skip rfl rfl rfl ?_
      refine sxo_skip rfl rfl rfl ?_
      refine sxo_skip rfl rfl rfl ?_
      refine sxo_pick (b := false) rfl rfl rfl rfl ?_
      refine sxo_again (d := 74) (v := .bool ((((x27 && ((x5.2.2 : Int) == 0)) && ((x9.1 : Int) == 9)) && ((x9.2 : Int) == 0)) && ((x10.1 : Int) == 13))) rfl (by rw [h31]; simp only [Bool.false_and]) ?_
      refine sxo_nil ?_
      exact sxq_case (lk_cons rfl (lk_cons rfl (lk_cons rfl (lk_cons rfl (lk_cons rfl (lk_cons rfl lk_nil))))))
    refine sxo_take (os := _) rfl ?_
    refine sxo_move rfl rfl rfl ?_
    refine sxo_case 3 ((((x27 && ((x5.2.2 : Int) == 0)) && ((x9.1 : Int) == 9)) && ((x9.2 : Int) == 0)) && ((x10.1 : Int) == 13)) [(1, .pointer (some ⟨g4, 0, none⟩)), (9, .pointer (some ⟨g17, 0, none⟩)), (10, .int .i64 x14.2.2), (12, .int .i64 x18.2), (78, .bool (((((x27 && ((x5.2.2 : Int) == 0)) && ((x9.1 : Int) == 9)) && ((x9.2 : Int) == 0)) && ((x10.1 : Int) == 13)) && ((x10.2.2 : Int) == 0)))] (fun h32 => ?_) (fun h32 => ?_) ?_
    · refine sxo_take (os := _) rfl ?_
      refine sxo_isT (k := 75) rfl h32 ?_
      refine sxo_move rfl rfl rfl ?_
      refine sxo_eql rfl rfl rfl rfl ?_
      refine sxo_pick (b := true) rfl rfl rfl rfl ?_
      refine sxo_again (d := 78) (v := .bool (((((x27 && ((x5.2.2 : Int) == 0)) && ((x9.1 : Int) == 9)) && ((x9.2 : Int) == 0)) && ((x10.1 : Int) == 13)) && ((x10.2.2 : Int) == 0))) rfl (by rw [h32]; simp only [Bool.true_and]) ?_
      refine sxo_nil ?_
      exact sxq_case (lk_cons rfl (lk_cons rfl (lk_cons rfl (lk_cons rfl (lk_cons rfl lk_nil)))))
    · refine sxo_take (os := _) rfl ?_
      refine sxo_isF (k := 75) rfl h32 ?_
      refine sxo_skip rfl rfl rfl ?_
      refine sxo_skip rfl rfl rfl ?_
      refine sxo_pick (b := false) rfl rfl rfl rfl ?_
      refine sxo_again (d := 78) (v := .bool (((((x27 && ((x5.2.2 : Int) == 0)) && ((x9.1 : Int) == 9)) && ((x9.2 : Int) == 0)) && ((x10.1 : Int) == 13)) && ((x10.2.2 : Int) == 0))) rfl (by rw [h32]; simp only [Bool.false_and]) ?_
      refine sxo_nil ?_
      exact sxq_case (lk_cons rfl (lk_cons rfl (lk_cons rfl (lk_cons rfl (lk_cons rfl lk_nil)))))
    refine sxo_take (os := _) rfl ?_
    refine sxo_move rfl rfl rfl ?_
    refine sxo_join 4 (fun ((x35, _) : (Bool × Unit)) => [(10, .int .i64 x14.2.2), (12, .int .i64 x18.2), (83, .bool x35)]) (fun ((x35, _) : (Bool × Unit)) => []) (fun ((x35, _) : (Bool × Unit)) => []) (fun ((x35, _) : (Bool × Unit)) => []) (fun ((x35, _) : (Bool × Unit)) => M_L_bitsBegun_j2 F x14 x18 x35) ?_ ?_
    · refine sxo_take (os := _) rfl ?_
      refine sxo_if (fun h33 => ?_) (fun h33 => ?_)
      · refine sxo_isT (k := 79) rfl h33 ?_
        refine sxo_loadB (i := 0) rfl rfl tf26 rfl rfl (by simp) rfl rfl ?_
        refine sxo_loadB (i := 2) rfl rfl tf26 rfl rfl (by simp) rfl rfl ?_
        refine sxo_call ent30 rfl rfl rfl (fun x46 e46 => C_R_SameBits F x14.1 x14.2.1 a15 c16 x1.1 x1.2.1 a2 c3 x46 e46) (.consR 0 (Ro (eI .u8) 5 1 (.slice a15 x14.2.1.length c16) x14.2.1) rfl (.consR 2 (Ro (eI .u8) 5 1 (.slice a2 x1.2.1.length c3) x1.2.1) rfl .nil)) (fun x46 e46 => ?_)
        intro _
        refine sxo_pick (b := true) rfl rfl rfl rfl ?_
        refine sxo_nil ?_
        exact sxq_meetP (x46, ()) (lk_cons rfl (lk_cons rfl (lk_cons rfl lk_nil))) .nil .nil fk_nil
      · refine sxo_isF (k := 79) rfl h33 ?_
        refine sxo_skip rfl rfl rfl ?_
        refine sxo_skip rfl rfl rfl ?_
        refine sxo_skip rfl rfl rfl ?_
        refine sxo_pick (b := false) rfl rfl rfl rfl ?_
        refine sxo_nil ?_
        exact sxq_meetP (false, ()) (lk_cons rfl (lk_cons rfl (lk_cons rfl lk_nil))) .nil .nil fk_nil
    · rintro ⟨x35, _⟩
      try dsimp only
      refine sxo_take (os := _) rfl ?_
      refine sxo_move rfl rfl rfl ?_
      refine sxo_case 3 x35 [(12, .int .i64 x18.2), (87, .bool (x35 && ((x14.2.2 : Int) == 0)))] (fun h36 => ?_) (fun h36 => ?_) ?_
      · refine sxo_take (os := _) rfl ?_
        refine sxo_isT (k := 84) rfl h36 ?_
        refine sxo_move rfl rfl rfl ?_
        refine sxo_eql rfl rfl rfl rfl ?_
        refine sxo_pick (b := true) rfl rfl rfl rfl ?_
        refine sxo_again (d := 87) (v := .bool (x35 && ((x14.2.2 : Int) == 0))) rfl (by rw [h36]; simp only [Bool.true_and]) ?_
        refine sxo_nil ?_
        exact sxq_case (lk_cons rfl (lk_cons rfl lk_nil))
      · refine sxo_take (os := _) rfl ?_
        refine sxo_isF (k := 84) rfl h36 ?_
        refine sxo_skip rfl rfl rfl ?_
        refine sxo_skip rfl rfl rfl ?_
        refine sxo_pick (b := false) rfl rfl rfl rfl ?_
        refine sxo_again (d := 87) (v := .bool (x35 && ((x14.2.2 : Int) == 0))) rfl (by rw [h36]; simp only [Bool.false_and]) ?_
        refine sxo_nil ?_
        exact sxq_case (lk_cons rfl (lk_cons rfl lk_nil))
      refine sxo_take (os := _) rfl ?_
      refine sxo_move rfl rfl rfl ?_
      refine sxo_case 3 (x35 && ((x14.2.2 : Int) == 0)) [(91, .bool ((x35 && ((x14.2.2 : Int) == 0)) && ((x18.2 : Int) == 7)))] (fun h37 => ?_) (fun h37 => ?_) ?_
      · refine sxo_take (os := _) rfl ?_
        refine sxo_isT (k := 88) rfl h37 ?_
        refine sxo_move rfl rfl rfl ?_
        refine sxo_eql rfl rfl rfl rfl ?_
        refine sxo_pick (b := true) rfl rfl rfl rfl ?_
        refine sxo_again (d := 91) (v := .bool ((x35 && ((x14.2.2 : Int) == 0)) && ((x18.2 : Int) == 7))) rfl (by rw [h37]; simp only [Bool.true_and]) ?_
        refine sxo_nil ?_
        exact sxq_case (lk_cons rfl lk_nil)
      · refine sxo_take (os := _) rfl ?_
        refine sxo_isF (k := 88) rfl h37 ?_
        refine sxo_skip rfl rfl rfl ?_
        refine sxo_skip rfl rfl rfl ?_
        refine sxo_pick (b := false) rfl rfl rfl rfl ?_
        refine sxo_again (d := 91) (v := .bool ((x35 && ((x14.2.2 : Int) == 0)) && ((x18.2 : Int) == 7))) rfl (by rw [h37]; simp only [Bool.false_and]) ?_
        refine sxo_nil ?_
        exact sxq_case (lk_cons rfl lk_nil)
      refine sxo_take (os := _) rfl ?_
      refine sxo_move rfl rfl rfl ?_
      refine sxo_join 5 (fun ((x42, _) : (Bool × Unit)) => [(97, .bool x42)]) (fun ((x42, _) : (Bool × Unit)) => []) (fun ((x42, _) : (Bool × Unit)) => []) (fun ((x42, _) : (Bool × Unit)) => []) (fun ((x42, _) : (Bool × Unit)) => M_L_bitsBegun_j3 F x42) ?_ ?_
      · refine sxo_take (os := _) rfl ?_
        refine sxo_if (fun h38 => ?_) (fun h38 => ?_)
        · refine sxo_isT (k := 92) rfl h38 ?_
          refine sxo_slit (vs := [.int .u8 1]) (ys := ([1] : List Int)) (eI_ok .u8) (by decide) rfl Try.underlying24 tf5 rfl rfl rfl rfl rfl (by decide) (fun a43 c44 => ?_)
          refine sxo_build (cells := [.int .i64 3, .slice a43 ([1] : List Int).length c44]) rfl st26 rfl (by kernel_rfl) rfl ?_
          refine sxo_call ent63 rfl rfl rfl (fun x45 e45 => C_bits_Check F 3 ([1] : List Int) a43 c44 x45 e45) (.consR 0 (Ro (eI .u8) 5 1 (.slice a43 ([1] : List Int).length c44) ([1] : List Int)) rfl .nil) (fun x45 e45 => ?_)
          intro _
          refine sxo_eql rfl rfl rfl rfl ?_
          refine sxo_pick (b := true) rfl rfl rfl rfl ?_
          refine sxo_nil ?_
          exact sxq_meetP (((x45 : Int) == 1), ()) (lk_cons rfl lk_nil) .nil .nil fk_nil
        · refine sxo_isF (k := 92) rfl h38 ?_
          refine sxo_skip rfl rfl rfl ?_
          refine sxo_skip rfl rfl rfl ?_
          refine sxo_skip rfl rfl rfl ?_
          refine sxo_skip rfl rfl rfl ?_
          refine sxo_pick (b := false) rfl rfl rfl rfl ?_
          refine sxo_nil ?_
          exact sxq_meetP (false, ()) (lk_cons rfl lk_nil) .nil .nil fk_nil
      · rintro ⟨x42, _⟩
        try dsimp only
        refine sxo_take (os := _) rfl ?_
        refine sxo_assign rfl rfl rfl ?_
        refine sxo_nil ?_
        refine sxq_next ?_
        refine sxc_ret ?_
        exact sxq_doneP () (.inl rfl) (res1 rfl rfl) (fun h => by subst h; rfl) (fun h => by subst h; exact .nil)

theorem C_L_FibBack (F : Nat) (x1 : Int) (x2 : Int) (x3 : List Int) (a4 : Option Addr) (c5 : Nat) (r : Bool) (hm : M_L_FibBack F x1 x2 x3 = some r) :
    Pure Try.prog 12 [.int .u64 x1, .agg #[.int .i64 x2, .slice a4 x3.length c5]] [Sl (eI .u8) 1 (.slice a4 x3.length c5) x3] Unit (fun _ => .bool r) (fun _ => []) (fun _ => []) := by
  refine pure_of Try.func12 rfl Try.ntmps12 rfl hm (fun w => ?_)
  refine sxc_env (l' := [(0, .int .u64 x1), (1, .agg #[.int .i64 x2, .slice a4 x3.length c5])]) rfl ?_
  refine sxc_seq ?_
  refine sxc_region ?_
  refine sxo_box rfl rfl rfl (fun g6 => ?_)
  refine sxo_assign rfl rfl rfl ?_
  refine sxo_nil ?_
  refine sxq_next ?_
  refine sxc_seq ?_
  refine sxc_region ?_
  refine sxo_move rfl rfl rfl ?_
  refine sxo_call ent18 rfl rfl rfl (fun x7 e7 => C_fib_Code F x1 x7 e7) .nil (fun x7 e7 => ?_)
  rintro ⟨a8, c9⟩
  refine sxo_move rfl rfl rfl ?_
  refine sxo_extract rfl rfl rfl rfl ?_
  refine sxo_extract rfl rfl rfl rfl ?_
  refine sxo_alloc rfl tf26 rfl (fun g10 => ?_)
  refine sxo_storeB (i := 0) rfl rfl rfl tf26 rfl rfl rfl rfl rfl ?_
  refine sxo_assign rfl rfl rfl ?_
  refine sxo_nil ?_
  refine sxq_next ?_
  refine sxc_seq ?_
  refine sxc_seq ?_
  refine sxc_region ?_
  refine sxo_call ent28 rfl rfl rfl (fun x17 e17 => C_L_fibBegun F  x17 e17) .nil (fun x17 e17 => ?_)
  intro _
  refine sxo_not rfl rfl rfl ?_
  refine sxo_move rfl rfl rfl ?_
  refine sxo_join 3 (fun ((x20, _) : (Bool × Unit)) => [(0, .int .u64 x1), (3, .pointer (some ⟨g6, 0, none⟩)), (5, .pointer (some ⟨g10, 0, none⟩)), (6, .int .i64 x7.2.2), (22, .bool x20)]) (fun ((x20, _) : (Bool × Unit)) => [⟨g10, 26, [.int .i64 x7.1, .slice a8 x7.2.1.length c9]⟩, ⟨g6, 26, [.int .i64 x2, .slice a4 x3.length c5]⟩]) (fun ((x20, _) : (Bool × Unit)) => [Ro (eI .u8) 5 1 (.slice a8 x7.2.1.length c9) x7.2.1]) (fun ((x20, _) : (Bool × Unit)) => [Sl (eI .u8) 1 (.slice a4 x3.length c5) x3]) (fun ((x20, _) : (Bool × Unit)) => M_L_FibBack_j2 F x1 x2 x3 x7 x20) ?_ ?_
  · refine sxo_take (os := _) rfl ?_
    refine sxo_if (fun h18 => ?_) (fun h18 => ?_)
    · refine sxo_isT (k := 19) rfl h18 ?_
      refine sxo_skip rfl rfl rfl ?_
      refine sxo_skip rfl rfl rfl ?_
      refine sxo_pick (b := true) rfl rfl rfl rfl ?_
      refine sxo_nil ?_
      exact sxq_meetP (true, ()) (lk_cons rfl (lk_cons rfl (lk_cons rfl (lk_cons rfl (lk_cons rfl lk_nil))))) (.cons 0 rfl (.cons 0 rfl .nil)) (.cons 0 rfl .nil) (fk_cons 0 rfl fk_nil)
    · refine sxo_isF (k := 19) rfl h18 ?_
      refine sxo_call ent40 rfl rfl rfl (fun x35 e35 => C_L_bitsBegun F  x35 e35) .nil (fun x35 e35 => ?_)
      intro _
      refine sxo_not rfl rfl rfl ?_
      refine sxo_pick (b := false) rfl rfl rfl rfl ?_
      refine sxo_nil ?_
      exact sxq_meetP ((!x35), ()) (lk_cons rfl (lk_cons rfl (lk_cons rfl (lk_cons rfl (lk_cons rfl lk_nil))))) (.cons 0 rfl (.cons 0 rfl .nil)) (.cons 0 rfl .nil) (fk_cons 0 rfl fk_nil)
  · rintro ⟨x20, _⟩
    try dsimp only
    refine sxo_take (os := _) rfl ?_
    refine sxo_nil ?_
    refine sxq_next ?_
    refine sxc_if rfl (fun h34 => ?_) (fun h34 => ?_)
    · refine sxc_seq ?_
      refine sxc_region ?_
      refine sxo_assign rfl rfl rfl ?_
      refine sxo_nil ?_
      refine sxq_next ?_
      refine sxc_ret ?_
      refine sxq_thenR ?_
      exact sxq_doneP () (.inl rfl) (res1 rfl rfl) (fun h => by subst h; rfl) (fun h => by subst h; exact .nil)
    · refine sxc_skip ?_
      refine sxq_next ?_
      refine sxc_seq ?_
      refine sxc_seq ?_
      refine sxc_region ?_
      refine sxo_move rfl rfl rfl ?_
      refine sxo_neq rfl rfl rfl rfl ?_
      refine sxo_nil ?_
      refine sxq_next ?_
      refine sxc_if rfl (fun h33 => ?_) (fun h33 => ?_)
      · refine sxc_seq ?_
        refine sxc_region ?_
        refine sxo_loadB (i := 0) rfl rfl tf26 rfl rfl (by simp) rfl rfl ?_
        refine sxo_build (cells := [.int .i64 0, .slice none 0 0]) rfl st26 rfl (by kernel_rfl) rfl ?_
        refine sxo_nilrow' Int (eI .u8) 5 1 ?_
        refine sxo_call ent30 rfl rfl rfl (fun x23 e23 => C_R_SameBits F x7.1 x7.2.1 a8 c9 0 ([] : List Int) none 0 x23 e23) (.consR 1 (Ro (eI .u8) 5 1 (.slice a8 x7.2.1.length c9) x7.2.1) rfl (.consR 0 (Ro (eI .u8) 5 1 (.slice none ([] : List Int).length 0) ([] : List Int)) rfl .nil)) (fun x23 e23 => ?_)
        intro _
        refine sxo_assign rfl rfl rfl ?_
        refine sxo_nil ?_
        refine sxq_next ?_
        refine sxc_ret ?_
        refine sxq_thenR ?_
        exact sxq_doneP () (.inl rfl) (res1 rfl rfl) (fun h => by subst h; rfl) (fun h => by subst h; exact .nil)
      · refine sxc_skip ?_
        refine sxq_next ?_
        refine sxc_seq ?_
        refine sxc_region ?_
        refine sxo_loadB (i := 0) rfl rfl tf26 rfl rfl (by simp) rfl rfl ?_
        refine sxo_loadB (i := 1) rfl rfl tf26 rfl rfl (by simp) rfl rfl ?_
        refine sxo_call ent41 rfl rfl rfl (fun x24 e24 => C_bits_Join F x7.1 x7.2.1 a8 c9 x2 x3 a4 c5 x24 e24) (.consR 0 (Ro (eI .u8) 5 1 (.slice a8 x7.2.1.length c9) x7.2.1) rfl (.consF 0 rfl .nil)) (fun x24 e24 => ?_)
        rintro ⟨a25, c26⟩
        refine sxo_move rfl rfl rfl ?_
        refine sxo_extract rfl rfl rfl rfl ?_
        refine sxo_extract rfl rfl rfl rfl ?_
        refine sxo_alloc rfl tf26 rfl (fun g27 => ?_)
        refine sxo_storeB (i := 0) rfl rfl rfl tf26 rfl rfl rfl rfl rfl ?_
        refine sxo_assign rfl rfl rfl ?_
        refine sxo_nil ?_
        refine sxq_next ?_
        refine sxc_seq ?_
        refine sxc_seq ?_
        refine sxc_region ?_
        refine sxo_move rfl rfl rfl ?_
        refine sxo_neq rfl rfl rfl rfl ?_
        refine sxo_nil ?_
        refine sxq_next ?_
        refine sxc_if rfl (fun h32 => ?_) (fun h32 => ?_)
        · refine sxc_seq ?_
          refine sxc_region ?_
          refine sxo_assign rfl rfl rfl ?_
          refine sxo_nil ?_
          refine sxq_next ?_
          refine sxc_ret ?_
          refine sxq_thenR ?_
          exact sxq_doneP () (.inl rfl) (res1 rfl rfl) (fun h => by subst h; rfl) (fun h => by subst h; exact .nil)
        · refine sxc_skip ?_
          refine sxq_next ?_
          refine sxc_seq ?_
          refine sxc_region ?_
          refine sxo_loadB (i := 0) rfl rfl tf26 rfl rfl (by simp) rfl rfl ?_
          refine sxo_call ent19 rfl rfl rfl (fun x29 e29 => C_fib_Read F x24.1 x24.2.1 a25 c26 0 x29 e29) (.consR 0 (Ro (eI .u8) 5 1 (.slice a25 x24.2.1.length c26) x24.2.1) rfl .nil) (fun x29 e29 => ?_)
          intro _
          refine sxo_move rfl rfl rfl ?_
          refine sxo_extract rfl rfl rfl rfl ?_
          refine sxo_extract rfl rfl rfl rfl ?_
          refine sxo_extract rfl rfl rfl rfl ?_
          refine sxo_assign rfl rfl rfl ?_
          refine sxo_assign rfl rfl rfl ?_
          refine sxo_assign rfl rfl rfl ?_
          refine sxo_nil ?_
          refine sxq_next ?_
          refine sxc_seq ?_
          refine sxc_region ?_
          refine sxo_move rfl rfl rfl ?_
          refine sxo_eql rfl rfl rfl rfl ?_
          refine sxo_move rfl rfl rfl ?_
          refine sxo_case 4 ((x29.2.2 : Int) == 0) [(5, .pointer (some ⟨g10, 0, none⟩)), (10, .int .i64 x29.2.1), (48, .bool (((x29.2.2 : Int) == 0) && ((x29.1 : Int) == x1)))] (fun h30 => ?_) (fun h30 => ?_) ?_
          · refine sxo_take (os := _) rfl ?_
            refine sxo_isT (k := 44) rfl h30 ?_
            refine sxo_move rfl rfl rfl ?_
            refine sxo_move rfl rfl rfl ?_
            refine sxo_eql rfl rfl rfl rfl ?_
            refine sxo_pick (b := true) rfl rfl rfl rfl ?_
            refine sxo_again (d := 48) (v := .bool (((x29.2.2 : Int) == 0) && ((x29.1 : Int) == x1))) rfl (by rw [h30]; simp only [Bool.true_and]) ?_
            refine sxo_nil ?_
            exact sxq_case (lk_cons rfl (lk_cons rfl (lk_cons rfl lk_nil)))
          · refine sxo_take (os := _) rfl ?_
            refine sxo_isF (k := 44) rfl h30 ?_
            refine sxo_skip rfl rfl rfl ?_
            refine sxo_skip rfl rfl rfl ?_
            refine sxo_skip rfl rfl rfl ?_
            refine sxo_pick (b := false) rfl rfl rfl rfl ?_
            refine sxo_again (d := 48) (v := .bool (((x29.2.2 : Int) == 0) && ((x29.1 : Int) == x1))) rfl (by rw [h30]; simp only [Bool.false_and]) ?_
            refine sxo_nil ?_
            exact sxq_case (lk_cons rfl (lk_cons rfl (lk_cons rfl lk_nil)))
          refine sxo_take (os := _) rfl ?_
          refine sxo_move rfl rfl rfl ?_
          refine sxo_case 5 (((x29.2.2 : Int) == 0) && ((x29.1 : Int) == x1)) [(54, .bool ((((x29.2.2 : Int) == 0) && ((x29.1 : Int) == x1)) && ((x29.2.1 : Int) == x7.1)))] (fun h31 => ?_) (fun h31 => ?_) ?_
          · refine sxo_take (os := _) rfl ?_
            refine sxo_isT (k := 49) rfl h31 ?_
            refine sxo_move rfl rfl rfl ?_
            refine sxo_fieldAddr rfl rfl ff26_0 rfl ?_
            refine sxo_loadB (i := 1) rfl rfl tf3 rfl rfl (fun _ => rfl) rfl rfl ?_
            refine sxo_eql rfl rfl rfl rfl ?_
            refine sxo_pick (b := true) rfl rfl rfl rfl ?_
            refine sxo_again (d := 54) (v := .bool ((((x29.2.2 : Int) == 0) && ((x29.1 : Int) == x1)) && ((x29.2.1 : Int) == x7.1))) rfl (by rw [h31]; simp only [Bool.true_and]) ?_
            refine sxo_nil ?_
            exact sxq_case (lk_cons rfl lk_nil)
          · refine sxo_take (os := _) rfl ?_
            refine sxo_isF (k := 49) rfl h31 ?_
            refine sxo_skip rfl rfl rfl ?_
            refine sxo_skip rfl rfl rfl ?_
            refine sxo_skip rfl rfl rfl ?_
            refine sxo_skip rfl rfl rfl ?_
            refine sxo_pick (b := false) rfl rfl rfl rfl ?_
            refine sxo_again (d := 54) (v := .bool ((((x29.2.2 : Int) == 0) && ((x29.1 : Int) == x1)) && ((x29.2.1 : Int) == x7.1))) rfl (by rw [h31]; simp only [Bool.false_and]) ?_
            refine sxo_nil ?_
            exact sxq_case (lk_cons rfl lk_nil)
          refine sxo_take (os := _) rfl ?_
          refine sxo_assign rfl rfl rfl ?_
          refine sxo_nil ?_
          refine sxq_next ?_
          refine sxc_ret ?_
          exact sxq_doneP () (.inl rfl) (res1 rfl rfl) (fun h => by subst h; rfl) (fun h => by subst h; exact .nil)

set_option maxHeartbeats 4000000 in
theorem C_L_FibNext (F : Nat) (x1 : Int) (x2 : Int) (x3 : Int) (r : Bool) (hm : M_L_FibNext F x1 x2 x3 = some r) :
    Pure Try.prog 13 [.int .u64 x1, .int .u64 x2, .int .i64 x3] [] Unit (fun _ => .bool r) (fun _ => []) (fun _ => []) := by
  refine pure_of Try.func13 rfl Try.ntmps13 rfl hm (fun w => ?_)
  refine sxc_env (l' := [(0, .int .u64 x1), (1, .int .u64 x2), (2, .int .i64 x3)]) rfl ?_
  refine sxc_seq ?_
  refine sxc_region ?_
  refine sxo_assign rfl rfl rfl ?_
  refine sxo_nil ?_
  refine sxq_next ?_
  refine sxc_seq ?_
  refine sxc_region ?_
  refine sxo_move rfl rfl rfl ?_
  refine sxo_call ent18 rfl rfl rfl (fun x4 e4 => C_fib_Code F x1 x4 e4) .nil (fun x4 e4 => ?_)
  rintro ⟨a5, c6⟩
  refine sxo_move rfl rfl rfl ?_
  refine sxo_extract rfl rfl rfl rfl ?_
  refine sxo_extract rfl rfl rfl rfl ?_
  refine sxo_alloc rfl tf26 rfl (fun g7 => ?_)
  refine sxo_storeB (i := 0) rfl rfl rfl tf26 rfl rfl rfl rfl rfl ?_
  refine sxo_assign rfl rfl rfl ?_
  refine sxo_nil ?_
  refine sxq_next ?_
  refine sxc_seq ?_
  refine sxc_region ?_
  refine sxo_move rfl rfl rfl ?_
  refine sxo_call ent18 rfl rfl rfl (fun x8 e8 => C_fib_Code F x2 x8 e8) .nil (fun x8 e8 => ?_)
  rintro ⟨a9, c10⟩
  refine sxo_move rfl rfl rfl ?_
  refine sxo_extract rfl rfl rfl rfl ?_
  refine sxo_extract rfl rfl rfl rfl ?_
  refine sxo_alloc rfl tf26 rfl (fun g11 => ?_)
  refine sxo_storeB (i := 0) rfl rfl rfl tf26 rfl rfl rfl rfl rfl ?_
  refine sxo_assign rfl rfl rfl ?_
  refine sxo_nil ?_
  refine sxq_next ?_
  refine sxc_seq ?_
  refine sxc_seq ?_
  refine sxc_region ?_
  refine sxo_call ent28 rfl rfl rfl (fun x18 e18 => C_L_fibBegun F  x18 e18) .nil (fun x18 e18 => ?_)
  intro _
  refine sxo_not rfl rfl rfl ?_
  refine sxo_move rfl rfl rfl ?_
  refine sxo_join 3 (fun ((x21, _) : (Bool × Unit)) => [(0, .int .u64 x1), (1, .int .u64 x2), (2, .int .i64 x3), (7, .pointer (some ⟨g7, 0, none⟩)), (8, .int .i64 x4.2.2), (9, .pointer (some ⟨g11, 0, none⟩)), (10, .int .i64 x8.2.2), (44, .bool x21)]) (fun ((x21, _) : (Bool × Unit)) => [⟨g11, 26, [.int .i64 x8.1, .slice a9 x8.2.1.length c10]⟩, ⟨g7, 26, [.int .i64 x4.1, .slice a5 x4.2.1.length c6]⟩]) (fun ((x21, _) : (Bool × Unit)) => [Ro (eI .u8) 5 1 (.slice a9 x8.2.1.length c10) x8.2.1, Ro (eI .u8) 5 1 (.slice a5 x4.2.1.length c6) x4.2.1]) (fun ((x21, _) : (Bool × Unit)) => []) (fun ((x21, _) : (Bool × Unit)) => M_L_FibNext_j2 F x1 x2 x3 x4 x8 x21) ?_ ?_
  · refine sxo_take (os := _) rfl ?_
    refine sxo_if (fun h19 => ?_) (fun h19 => ?_)
    · refine sxo_isT (k := 41) rfl h19 ?_
      refine sxo_skip rfl rfl rfl ?_
      refine sxo_skip rfl rfl rfl ?_
      refine sxo_pick (b := true) rfl rfl rfl rfl ?_
      refine sxo_nil ?_
      exact sxq_meetP (true, ()) (lk_cons rfl (lk_cons rfl (lk_cons rfl (lk_cons rfl (lk_cons rfl (lk_cons rfl (lk_cons rfl (lk_cons rfl lk_nil)))))))) (.cons 0 rfl (.cons 0 rfl .nil)) (.cons 0 rfl (.cons 0 rfl .nil)) fk_nil
    · refine sxo_isF (k := 41) rfl h19 ?_
      refine sxo_call ent40 rfl rfl rfl (fun x135 e135 => C_L_bitsBegun F  x135 e135) .nil (fun x135 e135 => ?_)
      intro _
      refine sxo_not rfl rfl rfl ?_
      refine sxo_pick (b := false) rfl rfl rfl rfl ?_
      refine sxo_nil ?_
      exact sxq_meetP ((!x135), ()) (lk_cons rfl (lk_cons rfl (lk_cons rfl (lk_cons rfl (lk_cons rfl (lk_cons rfl (lk_cons rfl (lk_cons rfl lk_nil)))))))) (.cons 0 rfl (.cons 0 rfl .nil)) (.cons 0 rfl (.cons 0 rfl .nil)) fk_nil
  · rintro ⟨x21, _⟩
    try dsimp only
    refine sxo_take (os := _) rfl ?_
    refine sxo_nil ?_
    refine sxq_next ?_
    refine sxc_if rfl (fun h134 => ?_) (fun h134 => ?_)
    · refine sxc_seq ?_
      refine sxc_region ?_
      refine sxo_assign rfl rfl rfl ?_
      refine sxo_nil ?_
      refine sxq_next ?_
      refine sxc_ret ?_
      refine sxq_thenR ?_
      exact sxq_doneP () (.inl rfl) (res1 rfl rfl) (fun h => by subst h; rfl) (fun h => by subst h; exact .nil)
    · refine sxc_skip ?_
      refine sxq_next ?_
      refine sxc_seq ?_
      refine sxc_seq ?_
      refine sxc_region ?_
      refine sxo_move rfl rfl rfl ?_
      refine sxo_neq rfl rfl rfl rfl ?_
      refine sxo_move rfl rfl rfl ?_
      refine sxo_case 3 ((x4.2.2 : Int) != 0) [(0, .int .u64 x1), (1, .int .u64 x2), (2, .int .i64 x3), (7, .pointer (some ⟨g7, 0, none⟩)), (9, .pointer (some ⟨g11, 0, none⟩)), (50, .bool (((x4.2.2 : Int) != 0) || ((x8.2.2 : Int) != 0)))] (fun h27 => ?_) (fun h27 => ?_) ?_
      · refine sxo_take (os := _) rfl ?_
        refine sxo_isT (k := 47) rfl h27 ?_
        refine sxo_skip rfl rfl rfl ?_
        refine sxo_skip rfl rfl rfl ?_
        refine sxo_pick (b := true) rfl rfl rfl rfl ?_
        refine sxo_again (d := 50) (v := .bool (((x4.2.2 : Int) != 0) || ((x8.2.2 : Int) != 0))) rfl (by rw [h27]; simp only [Bool.true_or]) ?_
        refine sxo_nil ?_
        exact sxq_case (lk_cons rfl (lk_cons rfl (lk_cons rfl (lk_cons rfl (lk_cons rfl (lk_cons rfl lk_nil))))))
      · refine sxo_take (os := _) rfl ?_
        refine sxo_isF (k := 47) rfl h27 ?_
        refine sxo_move rfl rfl rfl ?_
        refine sxo_neq rfl rfl rfl rfl ?_
        refine sxo_pick (b := false) rfl rfl rfl rfl ?_
        refine sxo_again (d := 50) (v := .bool (((x4.2.2 : Int) != 0) || ((x8.2.2 : Int) != 0))) rfl (by rw [h27]; simp only [Bool.false_or]) ?_
        refine sxo_nil ?_
        exact sxq_case (lk_cons rfl (lk_cons rfl (lk_cons rfl (lk_cons rfl (lk_cons rfl (lk_cons rfl lk_nil))))))
      refine sxo_take (os := _) rfl ?_
      refine sxo_move rfl rfl rfl ?_
      refine sxo_case 3 (((x4.2.2 : Int) != 0) || ((x8.2.2 : Int) != 0)) [(1, .int .u64 x2), (2, .int .i64 x3), (7, .pointer (some ⟨g7, 0, none⟩)), (9, .pointer (some ⟨g11, 0, none⟩)), (54, .bool ((((x4.2.2 : Int) != 0) || ((x8.2.2 : Int) != 0)) || (decide (274877906944 < x1))))] (fun h28 => ?_) (fun h28 => ?_) ?_
      · refine sxo_take (os := _) rfl ?_
        refine sxo_isT (k := 51) rfl h28 ?_
        refine sxo_skip rfl rfl rfl ?_
        refine sxo_skip rfl rfl rfl ?_
        refine sxo_pick (b := true) rfl rfl rfl rfl ?_
        refine sxo_again (d := 54) (v := .bool ((((x4.2.2 : Int) != 0) || ((x8.2.2 : Int) != 0)) || (decide (274877906944 < x1)))) rfl (by rw [h28]; simp only [Bool.true_or]) ?_
        refine sxo_nil ?_
        exact sxq_case (lk_cons rfl (lk_cons rfl (lk_cons rfl (lk_cons rfl (lk_cons rfl lk_nil)))))
      · refine sxo_take (os := _) rfl ?_
        refine sxo_isF (k := 51) rfl h28 ?_
        refine sxo_move rfl rfl rfl ?_
        refine sxo_gtr rfl rfl rfl rfl ?_
        refine sxo_pick (b := false) rfl rfl rfl rfl ?_
        refine sxo_again (d := 54) (v := .bool ((((x4.2.2 : Int) != 0) || ((x8.2.2 : Int) != 0)) || (decide (274877906944 < x1)))) rfl (by rw [h28]; simp only [Bool.false_or]) ?_
        refine sxo_nil ?_
        exact sxq_case (lk_cons rfl (lk_cons rfl (lk_cons rfl (lk_cons rfl (lk_cons rfl lk_nil)))))
      refine sxo_take (os := _) rfl ?_
      refine sxo_move rfl rfl rfl ?_
      refine sxo_case 3 ((((x4.2.2 : Int) != 0) || ((x8.2.2 : Int) != 0)) || (decide (274877906944 < x1))) [(1, .int .u64 x2), (2, .int .i64 x3), (7, .pointer (some ⟨g7, 0, none⟩)), (9, .pointer (some ⟨g11, 0, none⟩)), (58, .bool (((((x4.2.2 : Int) != 0) || ((x8.2.2 : Int) != 0)) || (decide (274877906944 < x1))) || (decide (x3 < 0))))] (fun h29 => ?_) (fun h29 => ?_) ?_
      · refine sxo_take (os := _) rfl ?_
        refine sxo_isT (k := 55) rfl h29 ?_
        refine sxo_skip rfl rfl rfl ?_
        refine sxo_skip rfl rfl rfl ?_
        refine sxo_pick (b := true) rfl rfl rfl rfl ?_
        refine sxo_again (d := 58) (v := .bool (((((x4.2.2 : Int) != 0) || ((x8.2.2 : Int) != 0)) || (decide (274877906944 < x1))) || (decide (x3 < 0)))) rfl (by rw [h29]; simp only [Bool.true_or]) ?_
        refine sxo_nil ?_
        exact sxq_case (lk_cons rfl (lk_cons rfl (lk_cons rfl (lk_cons rfl (lk_cons rfl lk_nil)))))
      · refine sxo_take (os := _) rfl ?_
        refine sxo_isF (k := 55) rfl h29 ?_
        refine sxo_move rfl rfl rfl ?_
        refine sxo_lss rfl rfl rfl rfl ?_
        refine sxo_pick (b := false) rfl rfl rfl rfl ?_
        refine sxo_again (d := 58) (v := .bool (((((x4.2.2 : Int) != 0) || ((x8.2.2 : Int) != 0)) || (decide (274877906944 < x1))) || (decide (x3 < 0)))) rfl (by rw [h29]; simp only [Bool.false_or]) ?_
        refine sxo_nil ?_
        exact sxq_case (lk_cons rfl (lk_cons rfl (lk_cons rfl (lk_cons rfl (lk_cons rfl lk_nil)))))
      refine sxo_take (os := _) rfl ?_
      refine sxo_move rfl rfl rfl ?_
      refine sxo_case 6 (((((x4.2.2 : Int) != 0) || ((x8.2.2 : Int) != 0)) || (decide (274877906944 < x1))) || (decide (x3 < 0))) [(1, .int .u64 x2), (2, .int .i64 x3), (7, .pointer (some ⟨g7, 0, none⟩)), (9, .pointer (some ⟨g11, 0, none⟩)), (65, .bool ((((((x4.2.2 : Int) != 0) || ((x8.2.2 : Int) != 0)) || (decide (274877906944 < x1))) || (decide (x3 < 0))) || (decide ((isub .i64 x4.1 3) ≤ x3))))] (fun h30 => ?_) (fun h30 => ?_) ?_
      · refine sxo_take (os := _) rfl ?_
        refine sxo_isT (k := 59) rfl h30 ?_
        refine sxo_skip rfl rfl rfl ?_
        refine sxo_skip rfl rfl rfl ?_
        refine sxo_skip rfl rfl rfl ?_
        refine sxo_skip rfl rfl rfl ?_
        refine sxo_skip rfl rfl rfl ?_
        refine sxo_pick (b := true) rfl rfl rfl rfl ?_
        refine sxo_again (d := 65) (v := .bool ((((((x4.2.2 : Int) != 0) || ((x8.2.2 : Int) != 0)) || (decide (274877906944 < x1))) || (decide (x3 < 0))) || (decide ((isub .i64 x4.1 3) ≤ x3)))) rfl (by rw [h30]; simp only [Bool.true_or]) ?_
        refine sxo_nil ?_
        exact sxq_case (lk_cons rfl (lk_cons rfl (lk_cons rfl (lk_cons rfl (lk_cons rfl lk_nil)))))
      · refine sxo_take (os := _) rfl ?_
        refine sxo_isF (k := 59) rfl h30 ?_
        refine sxo_move rfl rfl rfl ?_
        refine sxo_fieldAddr rfl rfl ff26_0 rfl ?_
        refine sxo_loadB (i := 1) rfl rfl tf3 rfl rfl (fun _ => rfl) rfl rfl ?_
        refine sxo_sub rfl rfl rfl rfl ?_
        refine sxo_geq rfl rfl rfl rfl ?_
        refine sxo_pick (b := false) rfl rfl rfl rfl ?_
        refine sxo_again (d := 65) (v := .bool ((((((x4.2.2 : Int) != 0) || ((x8.2.2 : Int) != 0)) || (decide (274877906944 < x1))) || (decide (x3 < 0))) || (decide ((isub .i64 x4.1 3) ≤ x3)))) rfl (by rw [h30]; simp only [Bool.false_or]) ?_
        refine sxo_nil ?_
        exact sxq_case (lk_cons rfl (lk_cons rfl (lk_cons rfl (lk_cons rfl (lk_cons rfl lk_nil)))))
      refine sxo_take (os := _) rfl ?_
      refine sxo_nil ?_
      refine sxq_next ?_
      refine sxc_if rfl (fun h133 => ?_) (fun h133 => ?_)
      · refine sxc_seq ?_
        refine sxc_region ?_
        refine sxo_assign rfl rfl rfl ?_
        refine sxo_nil ?_
        refine sxq_next ?_
        refine sxc_ret ?_
        refine sxq_thenR ?_
        exact sxq_doneP () (.inl rfl) (res1 rfl rfl) (fun h => by subst h; rfl) (fun h => by subst h; exact .nil)
      · refine sxc_skip ?_
        refine sxq_next ?_
        refine sxc_seq ?_
        refine sxc_region ?_
        refine sxo_loadB (i := 1) rfl rfl tf26 rfl rfl (by simp) rfl rfl ?_
        refine sxo_move rfl rfl rfl ?_
        refine sxo_call ent42 rfl rfl rfl (fun x31 e31 => C_bits_Get F x4.1 x4.2.1 a5 c6 x3 1 x31 e31) (.consR 1 (Ro (eI .u8) 5 1 (.slice a5 x4.2.1.length c6) x4.2.1) rfl .nil) (fun x31 e31 => ?_)
        intro _
        refine sxo_move rfl rfl rfl ?_
        refine sxo_extract rfl rfl rfl rfl ?_
        refine sxo_extract rfl rfl rfl rfl ?_
        refine sxo_assign rfl rfl rfl ?_
        refine sxo_assign rfl rfl rfl ?_
        refine sxo_nil ?_
        refine sxq_next ?_
        refine sxc_seq ?_
        refine sxc_region ?_
        refine sxo_loadB (i := 1) rfl rfl tf26 rfl rfl (by simp) rfl rfl ?_
        refine sxo_move rfl rfl rfl ?_
        refine sxo_callM ent43 rfl rfl rfl (fun x32 e32 => C_bits_Cut F x4.1 x4.2.1 a5 c6 0 x3 x32 e32) .nil .nil (.consR 1 (Ro (eI .u8) 5 1 (.slice a5 x4.2.1.length c6) x4.2.1) rfl .nil) (fun x32 e32 => ?_)
        rintro ⟨a33, c34⟩
        refine sxo_move rfl rfl rfl ?_
        refine sxo_extract rfl rfl rfl rfl ?_
        refine sxo_extract rfl rfl rfl rfl ?_
        refine sxo_alloc rfl tf26 rfl (fun g35 => ?_)
        refine sxo_storeB (i := 0) rfl rfl rfl tf26 rfl rfl rfl rfl rfl ?_
        refine sxo_assign rfl rfl rfl ?_
        refine sxo_nil ?_
        refine sxq_next ?_
        refine sxc_seq ?_
        refine sxc_region ?_
        refine sxo_loadB (i := 2) rfl rfl tf26 rfl rfl (by simp) rfl rfl ?_
        refine sxo_move rfl rfl rfl ?_
        refine sxo_add rfl rfl rfl rfl ?_
        refine sxo_fieldAddr rfl rfl ff26_0 rfl ?_
        refine sxo_loadB (i := 2) rfl rfl tf3 rfl rfl (fun _ => rfl) rfl rfl ?_
        refine sxo_callM ent43 rfl rfl rfl (fun x36 e36 => C_bits_Cut F x4.1 x4.2.1 a5 c6 (iadd .i64 x3 1) x4.1 x36 e36) .nil .nil (.consR 2 (Ro (eI .u8) 5 1 (.slice a5 x4.2.1.length c6) x4.2.1) rfl .nil) (fun x36 e36 => ?_)
        rintro ⟨a37, c38⟩
        refine sxo_move rfl rfl rfl ?_
        refine sxo_extract rfl rfl rfl rfl ?_
        refine sxo_extract rfl rfl rfl rfl ?_
        refine sxo_alloc rfl tf26 rfl (fun g39 => ?_)
        refine sxo_storeB (i := 0) rfl rfl rfl tf26 rfl rfl rfl rfl rfl ?_
        refine sxo_assign rfl rfl rfl ?_
        refine sxo_nil ?_
        refine sxq_next ?_
        refine sxc_seq ?_
        refine sxc_region ?_
        refine sxo_loadB (i := 1) rfl rfl tf26 rfl rfl (by simp) rfl rfl ?_
        refine sxo_move rfl rfl rfl ?_
        refine sxo_sub rfl rfl rfl rfl ?_
        refine sxo_call ent44 rfl rfl rfl (fun x40 e40 => C_bits_Put F x32.1 x32.2.1 a33 c34 (isub .u64 1 x31.1) 1 x40 e40) (.consR 1 (Ro (eI .u8) 5 1 (.slice a33 x32.2.1.length c34) x32.2.1) rfl .nil) (fun x40 e40 => ?_)
        rintro ⟨a41, c42⟩
        refine sxo_move rfl rfl rfl ?_
        refine sxo_extract rfl rfl rfl rfl ?_
        refine sxo_extract rfl rfl rfl rfl ?_
        refine sxo_storeB (i := 1) rfl rfl rfl tf26 rfl rfl rfl rfl rfl ?_
        refine sxo_assign rfl rfl rfl ?_
        refine sxo_nil ?_
        refine sxq_next ?_
        refine sxc_seq ?_
        refine sxc_region ?_
        refine sxo_loadB (i := 1) rfl rfl tf26 rfl rfl (by simp) rfl rfl ?_
        refine sxo_loadB (i := 0) rfl rfl tf26 rfl rfl (by simp) rfl rfl ?_
        refine sxo_call ent41 rfl rfl rfl (fun x43 e43 => C_bits_Join F x40.1 x40.2.1 a41 c42 x36.1 x36.2.1 a37 c38 x43 e43) (.consR 0 (Ro (eI .u8) 5 1 (.slice a41 x40.2.1.length c42) x40.2.1) rfl (.consR 1 (Ro (eI .u8) 5 1 (.slice a37 x36.2.1.length c38) x36.2.1) rfl .nil)) (fun x43 e43 => ?_)
        rintro ⟨a44, c45⟩
        refine sxo_move rfl rfl rfl ?_
        refine sxo_extract rfl rfl rfl rfl ?_
        refine sxo_extract rfl rfl rfl rfl ?_
        refine sxo_alloc rfl tf26 rfl (fun g46 => ?_)
        refine sxo_storeB (i := 0) rfl rfl rfl tf26 rfl rfl rfl rfl rfl ?_
        refine sxo_assign rfl rfl rfl ?_
        refine sxo_nil ?_
        refine sxq_next ?_
        refine sxc_seq ?_
        refine sxc_region ?_
        refine sxo_loadB (i := 0) rfl rfl tf26 rfl rfl (by simp) rfl rfl ?_
        refine sxo_loadB (i := 3) rfl rfl tf26 rfl rfl (by simp) rfl rfl ?_
        refine sxo_call ent41 rfl rfl rfl (fun x47 e47 => C_bits_Join F x43.1 x43.2.1 a44 c45 x8.1 x8.2.1 a9 c10 x47 e47) (.consR 0 (Ro (eI .u8) 5 1 (.slice a44 x43.2.1.length c45) x43.2.1) rfl (.consR 4 (Ro (eI .u8) 5 1 (.slice a9 x8.2.1.length c10) x8.2.1) rfl .nil)) (fun x47 e47 => ?_)
        rintro ⟨a48, c49⟩
        refine sxo_move rfl rfl rfl ?_
        refine sxo_extract rfl rfl rfl rfl ?_
        refine sxo_extract rfl rfl rfl rfl ?_
        refine sxo_alloc rfl tf26 rfl (fun g50 => ?_)
        refine sxo_storeB (i := 0) rfl rfl rfl tf26 rfl rfl rfl rfl rfl ?_
        refine sxo_assign rfl rfl rfl ?_
        refine sxo_nil ?_
        refine sxq_next ?_
        refine sxc_seq ?_
        refine sxc_seq ?_
        refine sxc_region ?_
        refine sxo_move rfl rfl rfl ?_
        refine sxo_neq rfl rfl rfl rfl ?_
        refine sxo_move rfl rfl rfl ?_
        refine sxo_case 3 ((x31.2 : Int) != 0) [(1, .int .u64 x2), (7, .pointer (some ⟨g7, 0, none⟩)), (16, .int .i64 x36.2.2), (17, .int .i64 x40.2.2), (19, .int .i64 x43.2.2), (20, .pointer (some ⟨g50, 0, none⟩)), (21, .int .i64 x47.2.2), (111, .bool (((x31.2 : Int) != 0) || ((x32.2.2 : Int) != 0)))] (fun h57 => ?_) (fun h57 => ?_) ?_
        · refine sxo_take (os := _) rfl ?_
          refine sxo_isT (k := 108) rfl h57 ?_
          refine sxo_skip rfl rfl rfl ?_
          refine sxo_skip rfl rfl rfl ?_
          refine sxo_pick (b := true) rfl rfl rfl rfl ?_
          refine sxo_again (d := 111) (v := .bool (((x31.2 : Int) != 0) || ((x32.2.2 : Int) != 0))) rfl (by rw [h57]; simp only [Bool.true_or]) ?_
          refine sxo_nil ?_
          exact sxq_case (lk_cons rfl (lk_cons rfl (lk_cons rfl (lk_cons rfl (lk_cons rfl (lk_cons rfl (lk_cons rfl (lk_cons rfl lk_nil))))))))
        · refine sxo_take (os := _) rfl ?_
          refine sxo_isF (k := 108) rfl h57 ?_
          refine sxo_move rfl rfl rfl ?_
          refine sxo_neq rfl rfl rfl rfl ?_
          refine sxo_pick (b := false) rfl rfl rfl rfl ?_
          refine sxo_again (d := 111) (v := .bool (((x31.2 : Int) != 0) || ((x32.2.2 : Int) != 0))) rfl (by rw [h57]; simp only [Bool.false_or]) ?_
          refine sxo_nil ?_
          exact sxq_case (lk_cons rfl (lk_cons rfl (lk_cons rfl (lk_cons rfl (lk_cons rfl (lk_cons rfl (lk_cons rfl (lk_cons rfl lk_nil))))))))
        refine sxo_take (os := _) rfl ?_
        refine sxo_move rfl rfl rfl ?_
        refine sxo_case 3 (((x31.2 : Int) != 0) || ((x32.2.2 : Int) != 0)) [(1, .int .u64 x2), (7, .pointer (some ⟨g7, 0, none⟩)), (17, .int .i64 x40.2.2), (19, .int .i64 x43.2.2), (20, .pointer (some ⟨g50, 0, none⟩)), (21, .int .i64 x47.2.2), (115, .bool ((((x31.2 : Int) != 0) || ((x32.2.2 : Int) != 0)) || ((x36.2.2 : Int) != 0)))] (fun h58 => ?_) (fun h58 => ?_) ?_
        · refine sxo_take (os := _) rfl ?_
          refine sxo_isT (k := 112) rfl h58 ?_
          refine sxo_skip rfl rfl rfl ?_
          refine sxo_skip rfl rfl rfl ?_
          refine sxo_pick (b := true) rfl rfl rfl rfl ?_
          refine sxo_again (d := 115) (v := .bool ((((x31.2 : Int) != 0) || ((x32.2.2 : Int) != 0)) || ((x36.2.2 : Int) != 0))) rfl (by rw [h58]; simp only [Bool.true_or]) ?_
          refine sxo_nil ?_
          exact sxq_case (lk_cons rfl (lk_cons rfl (lk_cons rfl (lk_cons rfl (lk_cons rfl (lk_cons rfl (lk_cons rfl lk_nil)))))))
        · refine sxo_take (os := _) rfl ?_
          refine sxo_isF (k := 112) rfl h58 ?_
          refine sxo_move rfl rfl rfl ?_
          refine sxo_neq rfl rfl rfl rfl ?_
          refine sxo_pick (b := false) rfl rfl rfl rfl ?_
          refine sxo_again (d := 115) (v := .bool ((((x31.2 : Int) != 0) || ((x32.2.2 : Int) != 0)) || ((x36.2.2 : Int) != 0))) rfl (by rw [h58]; simp only [Bool.false_or]) ?_
          refine sxo_nil ?_
          exact sxq_case (lk_cons rfl (lk_cons rfl (lk_cons rfl (lk_cons rfl (lk_cons rfl (lk_cons rfl (lk_cons rfl lk_nil)))))))
        refine sxo_take (os := _) rfl ?_
        refine sxo_move rfl rfl rfl ?_
        refine sxo_case 3 ((((x31.2 : Int) != 0) || ((x32.2.2 : Int) != 0)) || ((x36.2.2 : Int) != 0)) [(1, .int .u64 x2), (7, .pointer (some ⟨g7, 0, none⟩)), (19, .int .i64 x43.2.2), (20, .pointer (some ⟨g50, 0, none⟩)), (21, .int .i64 x47.2.2), (119, .bool (((((x31.2 : Int) != 0) || ((x32.2.2 : Int) != 0)) || ((x36.2.2 : Int) != 0)) || ((x40.2.2 : Int) != 0)))] (fun h59 => ?_) (fun h59 => ?_) ?_
        · refine sxo_take (os := _) rfl ?_
          refine sxo_isT (k := 116) rfl h59 ?_
          refine sxo_skip rfl rfl rfl ?_
          refine sxo_skip rfl rfl rfl ?_
          refine sxo_pick (b := true) rfl rfl rfl rfl ?_
          refine sxo_again (d := 119) (v := .bool (((((x31.2 : Int) != 0) || ((x32.2.2 : Int) != 0)) || ((x36.2.2 : Int) != 0)) || ((x40.2.2 : Int) != 0))) rfl (by rw [h59]; simp only [Bool.true_or]) ?_
          refine sxo_nil ?_
          exact sxq_case (lk_cons rfl (lk_cons rfl (lk_cons rfl (lk_cons rfl (lk_cons rfl (lk_cons rfl lk_nil))))))
        · refine sxo_take (os := _) rfl ?_
          refine sxo_isF (k := 116) rfl h59 ?_
          refine sxo_move rfl rfl rfl ?_
          refine sxo_neq rfl rfl rfl rfl ?_
          refine sxo_pick (b := false) rfl rfl rfl rfl ?_
          refine sxo_again (d := 119) (v := .bool (((((x31.2 : Int) != 0) || ((x32.2.2 : Int) != 0)) || ((x36.2.2 : Int) != 0)) || ((x40.2.2 : Int) != 0))) rfl (by rw [h59]; simp only [Bool.false_or]) ?_
          refine sxo_nil ?_
          exact sxq_case (lk_cons rfl (lk_cons rfl (lk_cons rfl (lk_cons rfl (lk_cons rfl (lk_cons rfl lk_nil))))))
        refine sxo_take (os := _) rfl ?_
        refine sxo_move rfl rfl rfl ?_
        refine sxo_case 3 (((((x31.2 : Int) != 0) || ((x32.2.2 : Int) != 0)) || ((x36.2.2 : Int) != 0)) || ((x40.2.2 : Int) != 0)) [(1, .int .u64 x2), (7, .pointer (some ⟨g7, 0, none⟩)), (20, .pointer (some ⟨g50, 0, none⟩)), (21, .int .i64 x47.2.2), (123, .bool ((((((x31.2 : Int) != 0) || ((x32.2.2 : Int) != 0)) || ((x36.2.2 : Int) != 0)) || ((x40.2.2 : Int) != 0)) || ((x43.2.2 : Int) != 0)))] (fun h60 => ?_) (fun h60 => ?_) ?_
        · refine sxo_take (os := _) rfl ?_
          refine sxo_isT (k := 120) rfl h60 ?_
          refine sxo_skip rfl rfl rfl ?_
          refine sxo_skip rfl rfl rfl ?_
          refine sxo_pick (b := true) rfl rfl rfl rfl ?_
          refine sxo_again (d := 123) (v := .bool ((((((x31.2 : Int) != 0) || ((x32.2.2 : Int) != 0)) || ((x36.2.2 : Int) != 0)) || ((x40.2.2 : Int) != 0)) || ((x43.2.2 : Int) != 0))) rfl (by rw [h60]; simp only [Bool.true_or]) ?_
          refine sxo_nil ?_
          exact sxq_case (lk_cons rfl (lk_cons rfl (lk_cons rfl (lk_cons rfl (lk_cons rfl lk_nil)))))
        · refine sxo_take (os := _) rfl ?_
          refine sxo_isF (k := 120) rfl h60 ?_
          refine sxo_move rfl rfl rfl ?_
          refine sxo_neq rfl rfl rfl rfl ?_
          refine sxo_pick (b := false) rfl rfl rfl rfl ?_
          refine sxo_again (d := 123) (v := .bool ((((((x31.2 : Int) != 0) || ((x32.2.2 : Int) != 0)) || ((x36.2.2 : Int) != 0)) || ((x40.2.2 : Int) != 0)) || ((x43.2.2 : Int) != 0))) rfl (by rw [h60]; simp only [Bool.false_or]) ?_
          refine sxo_nil ?_
          exact sxq_case (lk_cons rfl (lk_cons rfl (lk_cons rfl (lk_cons rfl (lk_cons rfl lk_nil)))))
        refine sxo_take (os := _) rfl ?_
        refine sxo_move rfl rfl rfl ?_
        refine sxo_case 3 ((((((x31.2 : Int) != 0) || ((x32.2.2 : Int) != 0)) || ((x36.2.2 : Int) != 0)) || ((x40.2.2 : Int) != 0)) || ((x43.2.2 : Int) != 0)) [(1, .int .u64 x2), (7, .pointer (some ⟨g7, 0, none⟩)), (20, .pointer (some ⟨g50, 0, none⟩)), (127, .bool (((((((x31.2 : Int) != 0) || ((x32.2.2 : Int) != 0)) || ((x36.2.2 : Int) != 0)) || ((x40.2.2 : Int) != 0)) || ((x43.2.2 : Int) != 0)) || ((x47.2.2 : Int) != 0)))] (fun h61 => ?_) (fun h61 => ?_) ?_
        · refine sxo_take (os := _) rfl ?_
          refine sxo_isT (k := 124) rfl h61 ?_
          refine sxo_skip rfl rfl rfl ?_
          refine sxo_skip rfl rfl rfl ?_
          refine sxo_pick (b := true) rfl rfl rfl rfl ?_
          refine sxo_again (d := 127) (v := .bool (((((((x31.2 : Int) != 0) || ((x32.2.2 : Int) != 0)) || ((x36.2.2 : Int) != 0)) || ((x40.2.2 : Int) != 0)) || ((x43.2.2 : Int) != 0)) || ((x47.2.2 : Int) != 0))) rfl (by rw [h61]; simp only [Bool.true_or]) ?_
          refine sxo_nil ?_
          exact sxq_case (lk_cons rfl (lk_cons rfl (lk_cons rfl (lk_cons rfl lk_nil))))
        · refine sxo_take (os := _) rfl ?_
          refine sxo_isF (k := 124) rfl h61 ?_
          refine sxo_move rfl rfl rfl ?_
          refine sxo_neq rfl rfl rfl rfl ?_
          refine sxo_pick (b := false) rfl rfl rfl rfl ?_
          refine sxo_again (d := 127) (v := .bool (((((((x31.2 : Int) != 0) || ((x32.2.2 : Int) != 0)) || ((x36.2.2 : Int) != 0)) || ((x40.2.2 : Int) != 0)) || ((x43.2.2 : Int) != 0)) || ((x47.2.2 : Int) != 0))) rfl (by rw [h61]; simp only [Bool.false_or]) ?_
          refine sxo_nil ?_
          exact sxq_case (lk_cons rfl (lk_cons rfl (lk_cons rfl (lk_cons rfl lk_nil))))
        refine sxo_take (os := _) rfl ?_
        refine sxo_nil ?_
        refine sxq_next ?_
        refine sxc_if rfl (fun h132 => ?_) (fun h132 => ?_)
        · refine sxc_seq ?_
          refine sxc_region ?_
          refine sxo_assign rfl rfl rfl ?_
          refine sxo_nil ?_
          refine sxq_next ?_
          refine sxc_ret ?_
          refine sxq_thenR ?_
          exact sxq_doneP () (.inl rfl) (res1 rfl rfl) (fun h => by subst h; rfl) (fun h => by subst h; exact .nil)
        · refine sxc_skip ?_
          refine sxq_next ?_
          refine sxc_join (fun ((_, _) : (Unit × Unit)) => []) (fun ((_, _) : (Unit × Unit)) => []) (fun ((_, _) : (Unit × Unit)) => []) (fun ((_, _) : (Unit × Unit)) => []) (fun ((_, _) : (Unit × Unit)) => M_L_FibNext_j4 F) ?_ ?_
          · refine sxc_seq ?_
            refine sxc_region ?_
            refine sxo_assign rfl rfl rfl ?_
            refine sxo_nil ?_
            refine sxq_next ?_
            refine sxc_block ?_
            refine sxc_loopP (fun ((x108, _) : (Int × Unit)) => [(1, .int .u64 x2), (7, .pointer (some ⟨g7, 0, none⟩)), (20, .pointer (some ⟨g50, 0, none⟩)), (22, .int .i64 x108)]) (fun ((x108, _) : (Int × Unit)) => [⟨g50, 26, [.int .i64 x47.1, .slice a48 x47.2.1.length c49]⟩, ⟨g7, 26, [.int .i64 x4.1, .slice a5 x4.2.1.length c6]⟩]) (fun ((x108, _) : (Int × Unit)) => [Ro (eI .u8) 5 1 (.slice a48 x47.2.1.length c49) x47.2.1, Ro (eI .u8) 5 1 (.slice a5 x4.2.1.length c6) x4.2.1]) (fun ((x108, _) : (Int × Unit)) => []) (fun k (s : (Int × Unit)) => M_L_FibNext_l5 F x2 x4 x47 k s.1) (0, ()) F (lk_cons rfl (lk_cons rfl (lk_cons rfl (lk_cons rfl lk_nil)))) (.cons 0 rfl (.cons 4 rfl .nil)) (.cons 0 rfl (.cons 5 rfl .nil)) fk_nil (fun _ => rfl) ?_
            intro k120
            rintro ⟨x108, _⟩
            try dsimp only
            refine sxc_meq (m' := M_L_FibNext_b5 F x2 x4 x47 (M_L_FibNext_l5 F x2 x4 x47 k120) x108) rfl ?_
            refine sxc_seq ?_
            refine sxc_seq ?_
            refine sxc_region ?_
            refine sxo_move rfl rfl rfl ?_
            refine sxo_fieldAddr rfl rfl ff26_0 rfl ?_
            refine sxo_loadB (i := 1) rfl rfl tf3 rfl rfl (fun _ => rfl) rfl rfl ?_
            refine sxo_lss rfl rfl rfl rfl ?_
            refine sxo_nil ?_
            refine sxq_next ?_
            refine sxc_if rfl (fun h131 => ?_) (fun h131 => ?_)
            · refine sxc_skip ?_
              refine sxq_next ?_
              refine sxc_block ?_
              refine sxc_seq ?_
              refine sxc_region ?_
              refine sxo_loadB (i := 0) rfl rfl tf26 rfl rfl (by simp) rfl rfl ?_
              refine sxo_move rfl rfl rfl ?_
              refine sxo_call ent19 rfl rfl rfl (fun x122 e122 => C_fib_Read F x47.1 x47.2.1 a48 c49 x108 x122 e122) (.consR 0 (Ro (eI .u8) 5 1 (.slice a48 x47.2.1.length c49) x47.2.1) rfl .nil) (fun x122 e122 => ?_)
              intro _
              refine sxo_move rfl rfl rfl ?_
              refine sxo_extract rfl rfl rfl rfl ?_
              refine sxo_extract rfl rfl rfl rfl ?_
              refine sxo_extract rfl rfl rfl rfl ?_
              refine sxo_assign rfl rfl rfl ?_
              refine sxo_assign rfl rfl rfl ?_
              refine sxo_assign rfl rfl rfl ?_
              refine sxo_nil ?_
              refine sxq_next ?_
              refine sxc_seq ?_
              refine sxc_seq ?_
              refine sxc_region ?_
              refine sxo_move rfl rfl rfl ?_
              refine sxo_neq rfl rfl rfl rfl ?_
              refine sxo_move rfl rfl rfl ?_
              refine sxo_case 4 ((x122.2.2 : Int) != 0) [(1, .int .u64 x2), (7, .pointer (some ⟨g7, 0, none⟩)), (20, .pointer (some ⟨g50, 0, none⟩)), (24, .int .i64 x122.2.1), (145, .bool (((x122.2.2 : Int) != 0) || (decide (x122.2.1 ≤ x108))))] (fun h125 => ?_) (fun h125 => ?_) ?_
              · refine sxo_take (os := _) rfl ?_
                refine sxo_isT (k := 141) rfl h125 ?_
                refine sxo_skip rfl rfl rfl ?_
                refine sxo_skip rfl rfl rfl ?_
                refine sxo_skip rfl rfl rfl ?_
                refine sxo_pick (b := true) rfl rfl rfl rfl ?_
                refine sxo_again (d := 145) (v := .bool (((x122.2.2 : Int) != 0) || (decide (x122.2.1 ≤ x108)))) rfl (by rw [h125]; simp only [Bool.true_or]) ?_
                refine sxo_nil ?_
                exact sxq_case (lk_cons rfl (lk_cons rfl (lk_cons rfl (lk_cons rfl (lk_cons rfl lk_nil)))))
              · refine sxo_take (os := _) rfl ?_
                refine sxo_isF (k := 141) rfl h125 ?_
                refine sxo_move rfl rfl rfl ?_
                refine sxo_move rfl rfl rfl ?_
                refine sxo_leq rfl rfl rfl rfl ?_
                refine sxo_pick (b := false) rfl rfl rfl rfl ?_
                refine sxo_again (d := 145) (v := .bool (((x122.2.2 : Int) != 0) || (decide (x122.2.1 ≤ x108)))) rfl (by rw [h125]; simp only [Bool.false_or]) ?_
                refine sxo_nil ?_
                exact sxq_case (lk_cons rfl (lk_cons rfl (lk_cons rfl (lk_cons rfl (lk_cons rfl lk_nil)))))
              refine sxo_take (os := _) rfl ?_
              refine sxo_nil ?_
              refine sxq_next ?_
              refine sxc_if rfl (fun h130 => ?_) (fun h130 => ?_)
              · refine sxc_seq ?_
                refine sxc_region ?_
                refine sxo_assign rfl rfl rfl ?_
                refine sxo_nil ?_
                refine sxq_next ?_
                refine sxc_ret ?_
                refine sxq_thenR ?_
                refine sxq_blkR ?_
                refine sxq_thenR ?_
                refine sxq_blkR ?_
                refine sxq_thenR ?_
                exact sxq_doneP () (.inl rfl) (res1 rfl rfl) (fun h => by subst h; rfl) (fun h => by subst h; exact .nil)
              · refine sxc_skip ?_
                refine sxq_next ?_
                refine sxc_seq ?_
                refine sxc_region ?_
                refine sxo_move rfl rfl rfl ?_
                refine sxo_assign rfl rfl rfl ?_
                refine sxo_nil ?_
                refine sxq_next ?_
                refine sxc_seq ?_
                refine sxc_region ?_
                refine sxo_move rfl rfl rfl ?_
                refine sxo_fieldAddr rfl rfl ff26_0 rfl ?_
                refine sxo_loadB (i := 1) rfl rfl tf3 rfl rfl (fun _ => rfl) rfl rfl ?_
                refine sxo_eql rfl rfl rfl rfl ?_
                refine sxo_nil ?_
                refine sxq_next ?_
                refine sxc_if rfl (fun h129 => ?_) (fun h129 => ?_)
                · refine sxc_seq ?_
                  refine sxc_region ?_
                  refine sxo_loadB (i := 0) rfl rfl tf26 rfl rfl (by simp) rfl rfl ?_
                  refine sxo_move rfl rfl rfl ?_
                  refine sxo_call ent19 rfl rfl rfl (fun x126 e126 => C_fib_Read F x47.1 x47.2.1 a48 c49 x122.2.1 x126 e126) (.consR 0 (Ro (eI .u8) 5 1 (.slice a48 x47.2.1.length c49) x47.2.1) rfl .nil) (fun x126 e126 => ?_)
                  intro _
                  refine sxo_move rfl rfl rfl ?_
                  refine sxo_extract rfl rfl rfl rfl ?_
                  refine sxo_extract rfl rfl rfl rfl ?_
                  refine sxo_extract rfl rfl rfl rfl ?_
                  refine sxo_assign rfl rfl rfl ?_
                  refine sxo_assign rfl rfl rfl ?_
                  refine sxo_assign rfl rfl rfl ?_
                  refine sxo_nil ?_
                  refine sxq_next ?_
                  refine sxc_seq ?_
                  refine sxc_region ?_
                  refine sxo_move rfl rfl rfl ?_
                  refine sxo_eql rfl rfl rfl rfl ?_
                  refine sxo_move rfl rfl rfl ?_
                  refine sxo_case 4 ((x126.2.2 : Int) == 0) [(20, .pointer (some ⟨g50, 0, none⟩)), (27, .int .i64 x126.2.1), (164, .bool (((x126.2.2 : Int) == 0) && ((x126.1 : Int) == x2)))] (fun h127 => ?_) (fun h127 => ?_) ?_
                  · refine sxo_take (os := _) rfl ?_
                    refine sxo_isT (k := 160) rfl h127 ?_
                    refine sxo_move rfl rfl rfl ?_
                    refine sxo_move rfl rfl rfl ?_
                    refine sxo_eql rfl rfl rfl rfl ?_
                    refine sxo_pick (b := true) rfl rfl rfl rfl ?_
                    refine sxo_again (d := 164) (v := .bool (((x126.2.2 : Int) == 0) && ((x126.1 : Int) == x2))) rfl (by rw [h127]; simp only [Bool.true_and]) ?_
                    refine sxo_nil ?_
                    exact sxq_case (lk_cons rfl (lk_cons rfl (lk_cons rfl lk_nil)))
                  · refine sxo_take (os := _) rfl ?_
                    refine sxo_isF (k := 160) rfl h127 ?_
                    refine sxo_skip rfl rfl rfl ?_
                    refine sxo_skip rfl rfl rfl ?_
                    refine sxo_skip rfl rfl rfl ?_
                    refine sxo_pick (b := false) rfl rfl rfl rfl ?_
                    refine sxo_again (d := 164) (v := .bool (((x126.2.2 : Int) == 0) && ((x126.1 : Int) == x2))) rfl (by rw [h127]; simp only [Bool.false_and]) ?_
                    refine sxo_nil ?_
                    exact sxq_case (lk_cons rfl (lk_cons rfl (lk_cons rfl lk_nil)))
                  refine sxo_take (os := _) rfl ?_
                  refine sxo_move rfl rfl rfl ?_
                  refine sxo_case 5 (((x126.2.2 : Int) == 0) && ((x126.1 : Int) == x2)) [(170, .bool ((((x126.2.2 : Int) == 0) && ((x126.1 : Int) == x2)) && ((x126.2.1 : Int) == x47.1)))] (fun h128 => ?_) (fun h128 => ?_) ?_
                  · refine sxo_take (os := _) rfl ?_
                    refine sxo_isT (k := 165) rfl h128 ?_
                    refine sxo_move rfl rfl rfl ?_
                    refine sxo_fieldAddr rfl rfl ff26_0 rfl ?_
                    refine sxo_loadB (i := 0) rfl rfl tf3 rfl rfl (fun _ => rfl) rfl rfl ?_
                    refine sxo_eql rfl rfl rfl rfl ?_
                    refine sxo_pick (b := true) rfl rfl rfl rfl ?_
                    refine sxo_again (d := 170) (v := .bool ((((x126.2.2 : Int) == 0) && ((x126.1 : Int) == x2)) && ((x126.2.1 : Int) == x47.1))) rfl (by rw [h128]; simp only [Bool.true_and]) ?_
                    refine sxo_nil ?_
                    exact sxq_case (lk_cons rfl lk_nil)
                  · refine sxo_take (os := _) rfl ?_
                    refine sxo_isF (k := 165) rfl h128 ?_
                    refine sxo_skip rfl rfl rfl ?_
                    refine sxo_skip rfl rfl rfl ?_
                    refine sxo_skip rfl rfl rfl ?_
                    refine sxo_skip rfl rfl rfl ?_
                    refine sxo_pick (b := false) rfl rfl rfl rfl ?_
                    refine sxo_again (d := 170) (v := .bool ((((x126.2.2 : Int) == 0) && ((x126.1 : Int) == x2)) && ((x126.2.1 : Int) == x47.1))) rfl (by rw [h128]; simp only [Bool.false_and]) ?_
                    refine sxo_nil ?_
                    exact sxq_case (lk_cons rfl lk_nil)
                  refine sxo_take (os := _) rfl ?_
                  refine sxo_assign rfl rfl rfl ?_
                  refine sxo_nil ?_
                  refine sxq_next ?_
                  refine sxc_ret ?_
                  refine sxq_blkR ?_
                  refine sxq_thenR ?_
                  refine sxq_blkR ?_
                  refine sxq_thenR ?_
                  exact sxq_doneP () (.inl rfl) (res1 rfl rfl) (fun h => by subst h; rfl) (fun h => by subst h; exact .nil)
                · refine sxc_skip ?_
                  refine sxq_blkN ?_
                  exact sxq_againP (x122.2.1, ()) (lk_cons rfl (lk_cons rfl (lk_cons rfl (lk_cons rfl lk_nil)))) (.cons 0 rfl (.cons 0 rfl .nil)) (.cons 0 rfl (.cons 0 rfl .nil)) fk_nil
            · refine sxc_exit ?_
              refine sxq_thenX ?_
              refine sxq_thenX ?_
              refine sxq_blkX ?_
              exact sxq_meetP ((), ()) lk_nil .nil .nil fk_nil
          · rintro ⟨_, _⟩
            try dsimp only
            refine sxc_seq ?_
            refine sxc_region ?_
            refine sxo_assign rfl rfl rfl ?_
            refine sxo_nil ?_
            refine sxq_next ?_
            refine sxc_ret ?_
            exact sxq_doneP () (.inl rfl) (res1 rfl rfl) (fun h => by subst h; rfl) (fun h => by subst h; exact .nil)
end Go.Proofs.Ytecangnmnkejfaa
