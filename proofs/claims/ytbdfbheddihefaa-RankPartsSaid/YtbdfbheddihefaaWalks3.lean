/- Each Go function of this seat computes what its model says, part 3. -/
import Derived.Test.YtbdfbheddihefaaWalks2
namespace Go.Proofs.Ytbdfbheddihefaa
open Go SX
set_option maxHeartbeats 4000000 in
theorem C_L_UnaryJoins (F : Nat) (x1 : List Int) (a2 : Option Addr) (c3 : Nat) (x4 : List Int) (a5 : Option Addr) (c6 : Nat) (r : Bool) (hm : M_L_UnaryJoins F x1 x4 = some r) :
    Pure Try.prog 9 [.slice a2 x1.length c3, .slice a5 x4.length c6] [Sl (eI .u64) 1 (.slice a2 x1.length c3) x1, Sl (eI .u64) 1 (.slice a5 x4.length c6) x4] Unit (fun _ => .bool r) (fun _ => []) (fun _ => []) := by
  refine pure_of Try.func9 rfl Try.ntmps9 rfl hm (fun w => ?_)
  refine sxc_env (l' := [(0, .slice a2 x1.length c3), (1, .slice a5 x4.length c6)]) rfl ?_
  refine sxc_seq ?_
  refine sxc_region ?_
  refine sxo_assign rfl rfl rfl ?_
  refine sxo_nil ?_
  refine sxq_next ?_
  refine sxc_seq ?_
  refine sxc_region ?_
  refine sxo_move rfl rfl rfl ?_
  refine sxo_call ent29 rfl rfl rfl (fun x7 e7 => C_unary_Many F x1 a2 c3 x7 e7) (.consF 0 rfl .nil) (fun x7 e7 => ?_)
  rintro ⟨a8, c9⟩
  refine sxo_move rfl rfl rfl ?_
  refine sxo_extract rfl rfl rfl rfl ?_
  refine sxo_extract rfl rfl rfl rfl ?_
  refine sxo_alloc rfl tf24 rfl (fun g10 => ?_)
  refine sxo_storeB (i := 0) rfl rfl rfl tf24 rfl rfl rfl rfl rfl ?_
  refine sxo_assign rfl rfl rfl ?_
  refine sxo_nil ?_
  refine sxq_next ?_
  refine sxc_seq ?_
  refine sxc_region ?_
  refine sxo_move rfl rfl rfl ?_
  refine sxo_call ent29 rfl rfl rfl (fun x11 e11 => C_unary_Many F x4 a5 c6 x11 e11) (.consF 1 rfl .nil) (fun x11 e11 => ?_)
  rintro ⟨a12, c13⟩
  refine sxo_move rfl rfl rfl ?_
  refine sxo_extract rfl rfl rfl rfl ?_
  refine sxo_extract rfl rfl rfl rfl ?_
  refine sxo_alloc rfl tf24 rfl (fun g14 => ?_)
  refine sxo_storeB (i := 0) rfl rfl rfl tf24 rfl rfl rfl rfl rfl ?_
  refine sxo_assign rfl rfl rfl ?_
  refine sxo_nil ?_
  refine sxq_next ?_
  refine sxc_seq ?_
  refine sxc_seq ?_
  refine sxc_region ?_
  refine sxo_call ent35 rfl rfl rfl (fun x21 e21 => C_L_unaryBegun F  x21 e21) .nil (fun x21 e21 => ?_)
  intro _
  refine sxo_not rfl rfl rfl ?_
  refine sxo_move rfl rfl rfl ?_
  refine sxo_join 3 (fun ((x24, _) : (Bool × Unit)) => [(0, .slice a2 x1.length c3), (1, .slice a5 x4.length c6), (5, .pointer (some ⟨g10, 0, none⟩)), (6, .int .i64 x7.2.2), (7, .pointer (some ⟨g14, 0, none⟩)), (8, .int .i64 x11.2.2), (31, .bool x24)]) (fun ((x24, _) : (Bool × Unit)) => [⟨g14, 24, [.int .i64 x11.1, .slice a12 x11.2.1.length c13]⟩, ⟨g10, 24, [.int .i64 x7.1, .slice a8 x7.2.1.length c9]⟩]) (fun ((x24, _) : (Bool × Unit)) => [Ro (eI .u8) 5 1 (.slice a12 x11.2.1.length c13) x11.2.1, Ro (eI .u8) 5 1 (.slice a8 x7.2.1.length c9) x7.2.1]) (fun ((x24, _) : (Bool × Unit)) => [Sl (eI .u64) 1 (.slice a2 x1.length c3) x1, Sl (eI .u64) 1 (.slice a5 x4.length c6) x4]) (fun ((x24, _) : (Bool × Unit)) => M_L_UnaryJoins_j2 F x1 x4 x7 x11 x24) ?_ ?_
  · refine sxo_take (os := _) rfl ?_
    refine sxo_if (fun h22 => ?_) (fun h22 => ?_)
    · refine sxo_isT (k := 28) rfl h22 ?_
      refine sxo_skip rfl rfl rfl ?_
      refine sxo_skip rfl rfl rfl ?_
      refine sxo_pick (b := true) rfl rfl rfl rfl ?_
      refine sxo_nil ?_
      exact sxq_meetP (true, ()) (lk_cons rfl (lk_cons rfl (lk_cons rfl (lk_cons rfl (lk_cons rfl (lk_cons rfl (lk_cons rfl lk_nil))))))) (.cons 0 rfl (.cons 0 rfl .nil)) (.cons 0 rfl (.cons 0 rfl .nil)) (fk_cons 0 rfl (fk_cons 1 rfl fk_nil))
    · refine sxo_isF (k := 28) rfl h22 ?_
      refine sxo_call ent38 rfl rfl rfl (fun x120 e120 => C_L_bitsBegun F  x120 e120) .nil (fun x120 e120 => ?_)
      intro _
      refine sxo_not rfl rfl rfl ?_
      refine sxo_pick (b := false) rfl rfl rfl rfl ?_
      refine sxo_nil ?_
      exact sxq_meetP ((!x120), ()) (lk_cons rfl (lk_cons rfl (lk_cons rfl (lk_cons rfl (lk_cons rfl (lk_cons rfl (lk_cons rfl lk_nil))))))) (.cons 0 rfl (.cons 0 rfl .nil)) (.cons 0 rfl (.cons 0 rfl .nil)) (fk_cons 0 rfl (fk_cons 1 rfl fk_nil))
  · rintro ⟨x24, _⟩
    try dsimp only
    refine sxo_take (os := _) rfl ?_
    refine sxo_nil ?_
    refine sxq_next ?_
    refine sxc_if rfl (fun h119 => ?_) (fun h119 => ?_)
    · refine sxc_seq ?_
      refine sxc_region ?_
      refine sxo_assign rfl rfl rfl ?_
      refine sxo_nil ?_
      refine sxq_next ?_
      refine sxc_ret ?_
      refine sxq_thenR ?_
      exact sxq_doneP () (.inl rfl) (res1 rfl rfl) (fun h => by subst h; rfl) (fun h => by subst h; exact .nil)
    · refine sxc_skip ?_
      refine sxq_next ?_
      refine sxc_seq ?_
      refine sxc_seq ?_
      refine sxc_region ?_
      refine sxo_move rfl rfl rfl ?_
      refine sxo_neq rfl rfl rfl rfl ?_
      refine sxo_move rfl rfl rfl ?_
      refine sxo_case 3 ((x7.2.2 : Int) != 0) [(0, .slice a2 x1.length c3), (1, .slice a5 x4.length c6), (5, .pointer (some ⟨g10, 0, none⟩)), (6, .int .i64 x7.2.2), (7, .pointer (some ⟨g14, 0, none⟩)), (37, .bool (((x7.2.2 : Int) != 0) || ((x11.2.2 : Int) != 0)))] (fun h31 => ?_) (fun h31 => ?_) ?_
      · refine sxo_take (os := _) rfl ?_
        refine sxo_isT (k := 34) rfl h31 ?_
        refine sxo_skip rfl rfl rfl ?_
        refine sxo_skip rfl rfl rfl ?_
        refine sxo_pick (b := true) rfl rfl rfl rfl ?_
        refine sxo_again (d := 37) (v := .bool (((x7.2.2 : Int) != 0) || ((x11.2.2 : Int) != 0))) rfl (by rw [h31]; simp only [Bool.true_or]) ?_
        refine sxo_nil ?_
        exact sxq_case (lk_cons rfl (lk_cons rfl (lk_cons rfl (lk_cons rfl (lk_cons rfl (lk_cons rfl lk_nil))))))
      · refine sxo_take (os := _) rfl ?_
        refine sxo_isF (k := 34) rfl h31 ?_
        refine sxo_move rfl rfl rfl ?_
        refine sxo_neq rfl rfl rfl rfl ?_
        refine sxo_pick (b := false) rfl rfl rfl rfl ?_
        refine sxo_again (d := 37) (v := .bool (((x7.2.2 : Int) != 0) || ((x11.2.2 : Int) != 0))) rfl (by rw [h31]; simp only [Bool.false_or]) ?_
        refine sxo_nil ?_
        exact sxq_case (lk_cons rfl (lk_cons rfl (lk_cons rfl (lk_cons rfl (lk_cons rfl (lk_cons rfl lk_nil))))))
      refine sxo_take (os := _) rfl ?_
      refine sxo_nil ?_
      refine sxq_next ?_
      refine sxc_if rfl (fun h118 => ?_) (fun h118 => ?_)
      · refine sxc_seq ?_
        refine sxc_region ?_
        refine sxo_move rfl rfl rfl ?_
        refine sxo_eql rfl rfl rfl rfl ?_
        refine sxo_move rfl rfl rfl ?_
        refine sxo_join 4 (fun ((x34, _) : (Bool × Unit)) => [(44, .bool x34)]) (fun ((x34, _) : (Bool × Unit)) => []) (fun ((x34, _) : (Bool × Unit)) => []) (fun ((x34, _) : (Bool × Unit)) => []) (fun ((x34, _) : (Bool × Unit)) => M_L_UnaryJoins_j4 F x34) ?_ ?_
        · refine sxo_take (os := _) rfl ?_
          refine sxo_if (fun h32 => ?_) (fun h32 => ?_)
          · refine sxo_isT (k := 40) rfl h32 ?_
            refine sxo_skip rfl rfl rfl ?_
            refine sxo_skip rfl rfl rfl ?_
            refine sxo_skip rfl rfl rfl ?_
            refine sxo_pick (b := true) rfl rfl rfl rfl ?_
            refine sxo_nil ?_
            exact sxq_meetP (true, ()) (lk_cons rfl lk_nil) .nil .nil fk_nil
          · refine sxo_isF (k := 40) rfl h32 ?_
            refine sxo_loadB (i := 1) rfl rfl tf24 rfl rfl (by simp) rfl rfl ?_
            refine sxo_build (cells := [.int .i64 0, .slice none 0 0]) rfl st24 rfl (by kernel_rfl) rfl ?_
            refine sxo_nilrow' Int (eI .u8) 5 1 ?_
            refine sxo_call ent36 rfl rfl rfl (fun x35 e35 => C_R_SameBits F x7.1 x7.2.1 a8 c9 0 ([] : List Int) none 0 x35 e35) (.consR 2 (Ro (eI .u8) 5 1 (.slice a8 x7.2.1.length c9) x7.2.1) rfl (.consR 0 (Ro (eI .u8) 5 1 (.slice none ([] : List Int).length 0) ([] : List Int)) rfl .nil)) (fun x35 e35 => ?_)
            intro _
            refine sxo_pick (b := false) rfl rfl rfl rfl ?_
            refine sxo_nil ?_
            exact sxq_meetP (x35, ()) (lk_cons rfl lk_nil) .nil .nil fk_nil
        · rintro ⟨x34, _⟩
          try dsimp only
          refine sxo_take (os := _) rfl ?_
          refine sxo_assign rfl rfl rfl ?_
          refine sxo_nil ?_
          refine sxq_next ?_
          refine sxc_ret ?_
          refine sxq_thenR ?_
          exact sxq_doneP () (.inl rfl) (res1 rfl rfl) (fun h => by subst h; rfl) (fun h => by subst h; exact .nil)
      · refine sxc_skip ?_
        refine sxq_next ?_
        refine sxc_seq ?_
        refine sxc_region ?_
        refine sxo_slit (vs := []) (ys := ([] : List Int)) (eI_ok .u64) (by decide) rfl Try.underlying46 tf45 rfl rfl rfl rfl rfl (by decide) (fun a36 c37 => ?_)
        refine sxo_move rfl rfl rfl ?_
        refine sxo_app 0 (eI_ok .u64) rfl Try.underlying46 tf45 rfl rfl rfl rfl rfl (.inr ⟨0, rfl⟩) rfl rfl (fun x38 e38 a39 c40 => ?_)
        refine sxo_move rfl rfl rfl ?_
        refine sxo_app 0 (eI_ok .u64) rfl Try.underlying46 tf45 rfl rfl rfl rfl rfl (.inr ⟨1, rfl⟩) rfl rfl (fun x41 e41 a42 c43 => ?_)
        refine sxo_call ent29 rfl rfl rfl (fun x44 e44 => C_unary_Many F x41 a42 c43 x44 e44) (.consR 0 (Ro (eI .u64) 45 1 (.slice a42 x41.length c43) x41) rfl .nil) (fun x44 e44 => ?_)
        rintro ⟨a45, c46⟩
        refine sxo_move rfl rfl rfl ?_
        refine sxo_extract rfl rfl rfl rfl ?_
        refine sxo_extract rfl rfl rfl rfl ?_
        refine sxo_alloc rfl tf24 rfl (fun g47 => ?_)
        refine sxo_storeB (i := 0) rfl rfl rfl tf24 rfl rfl rfl rfl rfl ?_
        refine sxo_assign rfl rfl rfl ?_
        refine sxo_nil ?_
        refine sxq_next ?_
        refine sxc_seq ?_
        refine sxc_region ?_
        refine sxo_loadB (i := 2) rfl rfl tf24 rfl rfl (by simp) rfl rfl ?_
        refine sxo_loadB (i := 1) rfl rfl tf24 rfl rfl (by simp) rfl rfl ?_
        refine sxo_call ent40 rfl rfl rfl (fun x48 e48 => C_bits_Join F x7.1 x7.2.1 a8 c9 x11.1 x11.2.1 a12 c13 x48 e48) (.consR 3 (Ro (eI .u8) 5 1 (.slice a8 x7.2.1.length c9) x7.2.1) rfl (.consR 2 (Ro (eI .u8) 5 1 (.slice a12 x11.2.1.length c13) x11.2.1) rfl .nil)) (fun x48 e48 => ?_)
        rintro ⟨a49, c50⟩
        refine sxo_move rfl rfl rfl ?_
        refine sxo_extract rfl rfl rfl rfl ?_
        refine sxo_extract rfl rfl rfl rfl ?_
        refine sxo_alloc rfl tf24 rfl (fun g51 => ?_)
        refine sxo_storeB (i := 0) rfl rfl rfl tf24 rfl rfl rfl rfl rfl ?_
        refine sxo_assign rfl rfl rfl ?_
        refine sxo_nil ?_
        refine sxq_next ?_
        refine sxc_seq ?_
        refine sxc_region ?_
        refine sxo_assign rfl rfl rfl ?_
        refine sxo_nil ?_
        refine sxq_next ?_
        refine sxc_join (fun ((x82, _) : (Int × Unit)) => [(0, .slice a2 x1.length c3), (9, .pointer (some ⟨g47, 0, none⟩)), (10, .int .i64 x44.2.2), (11, .pointer (some ⟨g51, 0, none⟩)), (12, .int .i64 x48.2.2), (13, .int .i64 x82)]) (fun ((x82, _) : (Int × Unit)) => [⟨g51, 24, [.int .i64 x48.1, .slice a49 x48.2.1.length c50]⟩, ⟨g47, 24, [.int .i64 x44.1, .slice a45 x44.2.1.length c46]⟩]) (fun ((x82, _) : (Int × Unit)) => [Ro (eI .u8) 5 1 (.slice a49 x48.2.1.length c50) x48.2.1, Ro (eI .u8) 5 1 (.slice a45 x44.2.1.length c46) x44.2.1]) (fun ((x82, _) : (Int × Unit)) => [Sl (eI .u64) 1 (.slice a2 x1.length c3) x1]) (fun ((x82, _) : (Int × Unit)) => M_L_UnaryJoins_j6 F x1 x44 x48 x82) ?_ ?_
        · refine sxc_seq ?_
          refine sxc_region ?_
          refine sxo_loadB (i := 3) rfl rfl tf24 rfl rfl (by simp) rfl rfl ?_
          refine sxo_call ent21 rfl rfl rfl (fun x88 e88 => C_R_BitList F x7.1 x7.2.1 a8 c9 x88 e88) (.consR 4 (Ro (eI .u8) 5 1 (.slice a8 x7.2.1.length c9) x7.2.1) rfl .nil) (fun x88 e88 => ?_)
          rintro ⟨a89, c90⟩
          refine sxo_len rfl Try.underlying25 rfl rfl ?_
          refine sxo_move rfl rfl rfl ?_
          refine sxo_nil ?_
          refine sxq_next ?_
          refine sxc_block ?_
          refine sxc_loopP (fun (((x99, x100), _) : ((Int × Int) × Unit)) => [(0, .slice a2 x1.length c3), (9, .pointer (some ⟨g47, 0, none⟩)), (10, .int .i64 x44.2.2), (11, .pointer (some ⟨g51, 0, none⟩)), (12, .int .i64 x48.2.2), (13, .int .i64 x99), (61, .slice a89 x88.length c90), (62, .int .i64 (x88.length : Int)), (63, .int .i64 x100)]) (fun (((x99, x100), _) : ((Int × Int) × Unit)) => [⟨g51, 24, [.int .i64 x48.1, .slice a49 x48.2.1.length c50]⟩, ⟨g47, 24, [.int .i64 x44.1, .slice a45 x44.2.1.length c46]⟩]) (fun (((x99, x100), _) : ((Int × Int) × Unit)) => [Ro (eI .i64) 3 1 (.slice a89 x88.length c90) x88, Ro (eI .u8) 5 1 (.slice a49 x48.2.1.length c50) x48.2.1, Ro (eI .u8) 5 1 (.slice a45 x44.2.1.length c46) x44.2.1]) (fun (((x99, x100), _) : ((Int × Int) × Unit)) => [Sl (eI .u64) 1 (.slice a2 x1.length c3) x1]) (fun k (s : ((Int × Int) × Unit)) => M_L_UnaryJoins_l8 F x1 x44 x48 x88 k s.1) ((0, 0), ()) F (lk_cons rfl (lk_cons rfl (lk_cons rfl (lk_cons rfl (lk_cons rfl (lk_cons rfl (lk_cons rfl (lk_cons rfl (lk_cons rfl lk_nil))))))))) (.cons 0 rfl (.cons 0 rfl .nil)) (.cons 0 rfl (.cons 0 rfl (.cons 0 rfl .nil))) (fk_cons 0 rfl fk_nil) (fun _ => rfl) ?_
          intro k109
          rintro ⟨⟨x99, x100⟩, _⟩
          try dsimp only
          refine sxc_meq (m' := M_L_UnaryJoins_b8 F x1 x44 x48 x88 (M_L_UnaryJoins_l8 F x1 x44 x48 x88 k109) x99 x100) rfl ?_
          refine sxc_seq ?_
          refine sxc_region ?_
          refine sxo_lss rfl rfl rfl rfl ?_
          refine sxo_nil ?_
          refine sxq_next ?_
          refine sxc_seq ?_
          refine sxc_if rfl (fun h117 => ?_) (fun h117 => ?_)
          · refine sxc_skip ?_
            refine sxq_next ?_
            refine sxc_seq ?_
            refine sxc_block ?_
            refine sxc_seq ?_
            refine sxc_region ?_
            refine sxo_indexR (j := 0) rfl Try.underlying25 tf3 rfl rfl rfl rfl (fun x114 e114 g115 h116 => ?_)
            refine sxo_loadR (j := 0) (y := x114) (eI_ok .i64) rfl rfl tf3 rfl h116 (idx_get e114).2.2 (fun _ => rfl) rfl rfl ?_
            refine sxo_assign rfl rfl rfl ?_
            refine sxo_nil ?_
            refine sxq_next ?_
            refine sxc_region ?_
            refine sxo_move rfl rfl rfl ?_
            refine sxo_move rfl rfl rfl ?_
            refine sxo_add rfl rfl rfl rfl ?_
            refine sxo_assign rfl rfl rfl ?_
            refine sxo_nil ?_
            refine sxq_blkN ?_
            refine sxq_next ?_
            refine sxc_region ?_
            refine sxo_add rfl rfl rfl rfl ?_
            refine sxo_move rfl rfl rfl ?_
            refine sxo_nil ?_
            exact sxq_againP ((iadd .i64 x99 x114, iadd .i64 x100 1), ()) (lk_cons rfl (lk_cons rfl (lk_cons rfl (lk_cons rfl (lk_cons rfl (lk_cons rfl (lk_cons rfl (lk_cons rfl (lk_cons rfl lk_nil))))))))) (.cons 0 rfl (.cons 0 rfl .nil)) (.cons 0 rfl (.cons 0 rfl (.cons 0 rfl .nil))) (fk_cons 0 rfl fk_nil)
          · refine sxc_exit ?_
            refine sxq_thenX ?_
            refine sxq_thenX ?_
            refine sxq_blkX ?_
            exact sxq_meetP (x99, ()) (lk_cons rfl (lk_cons rfl (lk_cons rfl (lk_cons rfl (lk_cons rfl (lk_cons rfl lk_nil)))))) (.cons 0 rfl (.cons 0 rfl .nil)) (.cons 1 rfl (.cons 1 rfl .nil)) (fk_cons 0 rfl fk_nil)
        · rintro ⟨x82, _⟩
          try dsimp only
          refine sxc_seq ?_
          refine sxc_region ?_
          refine sxo_move rfl rfl rfl ?_
          refine sxo_move rfl rfl rfl ?_
          refine sxo_eql rfl rfl rfl rfl ?_
          refine sxo_move rfl rfl rfl ?_
          refine sxo_join 4 (fun ((x85, _) : (Bool × Unit)) => [(0, .slice a2 x1.length c3), (13, .int .i64 x82), (78, .bool x85)]) (fun ((x85, _) : (Bool × Unit)) => []) (fun ((x85, _) : (Bool × Unit)) => []) (fun ((x85, _) : (Bool × Unit)) => [Sl (eI .u64) 1 (.slice a2 x1.length c3) x1]) (fun ((x85, _) : (Bool × Unit)) => M_L_UnaryJoins_j7 F x1 x82 x85) ?_ ?_
          · refine sxo_take (os := _) rfl ?_
            refine sxo_if (fun h83 => ?_) (fun h83 => ?_)
            · refine sxo_isT (k := 74) rfl h83 ?_
              refine sxo_loadB (i := 1) rfl rfl tf24 rfl rfl (by simp) rfl rfl ?_
              refine sxo_loadB (i := 0) rfl rfl tf24 rfl rfl (by simp) rfl rfl ?_
              refine sxo_call ent36 rfl rfl rfl (fun x87 e87 => C_R_SameBits F x44.1 x44.2.1 a45 c46 x48.1 x48.2.1 a49 c50 x87 e87) (.consR 1 (Ro (eI .u8) 5 1 (.slice a45 x44.2.1.length c46) x44.2.1) rfl (.consR 0 (Ro (eI .u8) 5 1 (.slice a49 x48.2.1.length c50) x48.2.1) rfl .nil)) (fun x87 e87 => ?_)
              intro _
              refine sxo_pick (b := true) rfl rfl rfl rfl ?_
              refine sxo_nil ?_
              exact sxq_meetP (x87, ()) (lk_cons rfl (lk_cons rfl (lk_cons rfl lk_nil))) .nil .nil (fk_cons 0 rfl fk_nil)
            · refine sxo_isF (k := 74) rfl h83 ?_
              refine sxo_skip rfl rfl rfl ?_
              refine sxo_skip rfl rfl rfl ?_
              refine sxo_skip rfl rfl rfl ?_
              refine sxo_pick (b := false) rfl rfl rfl rfl ?_
              refine sxo_nil ?_
              exact sxq_meetP (false, ()) (lk_cons rfl (lk_cons rfl (lk_cons rfl lk_nil))) .nil .nil (fk_cons 0 rfl fk_nil)
          · rintro ⟨x85, _⟩
            try dsimp only
            refine sxo_take (os := _) rfl ?_
            refine sxo_move rfl rfl rfl ?_
            refine sxo_case 5 x85 [(84, .bool (x85 && ((x82 : Int) == (x1.length : Int))))] (fun h86 => ?_) (fun h86 => ?_) ?_
            · refine sxo_take (os := _) rfl ?_
              refine sxo_isT (k := 79) rfl h86 ?_
              refine sxo_move rfl rfl rfl ?_
              refine sxo_move rfl rfl rfl ?_
              refine sxo_len rfl Try.underlying46 rfl rfl ?_
              refine sxo_eql rfl rfl rfl rfl ?_
              refine sxo_pick (b := true) rfl rfl rfl rfl ?_
              refine sxo_again (d := 84) (v := .bool (x85 && ((x82 : Int) == (x1.length : Int)))) rfl (by rw [h86]; simp only [Bool.true_and]) ?_
              refine sxo_nil ?_
              exact sxq_case (lk_cons rfl lk_nil)
            · refine sxo_take (os := _) rfl ?_
              refine sxo_isF (k := 79) rfl h86 ?_
              refine sxo_skip rfl rfl rfl ?_
              refine sxo_skip rfl rfl rfl ?_
              refine sxo_skip rfl rfl rfl ?_
              refine sxo_skip rfl rfl rfl ?_
              refine sxo_pick (b := false) rfl rfl rfl rfl ?_
              refine sxo_again (d := 84) (v := .bool (x85 && ((x82 : Int) == (x1.length : Int)))) rfl (by rw [h86]; simp only [Bool.false_and]) ?_
              refine sxo_nil ?_
              exact sxq_case (lk_cons rfl lk_nil)
            refine sxo_take (os := _) rfl ?_
            refine sxo_assign rfl rfl rfl ?_
            refine sxo_nil ?_
            refine sxq_next ?_
            refine sxc_ret ?_
            exact sxq_doneP () (.inl rfl) (res1 rfl rfl) (fun h => by subst h; rfl) (fun h => by subst h; exact .nil)

set_option maxHeartbeats 4000000 in
theorem C_L_RankBack (F : Nat) (x1 : Int) (x2 : List Int) (a3 : Option Addr) (c4 : Nat) (x5 : Int) (x6 : Int) (r : Bool) (hm : M_L_RankBack F x1 x2 x5 x6 = some r) :
    Pure Try.prog 10 [.agg #[.int .i64 x1, .slice a3 x2.length c4], .int .i64 x5, .int .i64 x6] [Sl (eI .u8) 1 (.slice a3 x2.length c4) x2] Unit (fun _ => .bool r) (fun _ => []) (fun _ => []) := by
  refine pure_of Try.func10 rfl Try.ntmps10 rfl hm (fun w => ?_)
  refine sxc_env (l' := [(0, .agg #[.int .i64 x1, .slice a3 x2.length c4]), (1, .int .i64 x5), (2, .int .i64 x6)]) rfl ?_
  refine sxc_seq ?_
  refine sxc_region ?_
  refine sxo_box rfl rfl rfl (fun g7 => ?_)
  refine sxo_assign rfl rfl rfl ?_
  refine sxo_nil ?_
  refine sxq_next ?_
  refine sxc_seq ?_
  refine sxc_region ?_
  refine sxo_loadB (i := 0) rfl rfl tf24 rfl rfl (by simp) rfl rfl ?_
  refine sxo_move rfl rfl rfl ?_
  refine sxo_call ent14 rfl rfl rfl (fun x8 e8 => C_rank_Select F x1 x2 a3 c4 1 x5 x8 e8) (.consF 0 rfl .nil) (fun x8 e8 => ?_)
  intro _
  refine sxo_move rfl rfl rfl ?_
  refine sxo_extract rfl rfl rfl rfl ?_
  refine sxo_extract rfl rfl rfl rfl ?_
  refine sxo_assign rfl rfl rfl ?_
  refine sxo_assign rfl rfl rfl ?_
  refine sxo_nil ?_
  refine sxq_next ?_
  refine sxc_seq ?_
  refine sxc_region ?_
  refine sxo_loadB (i := 0) rfl rfl tf24 rfl rfl (by simp) rfl rfl ?_
  refine sxo_move rfl rfl rfl ?_
  refine sxo_call ent14 rfl rfl rfl (fun x9 e9 => C_rank_Select F x1 x2 a3 c4 0 x5 x9 e9) (.consF 0 rfl .nil) (fun x9 e9 => ?_)
  intro _
  refine sxo_move rfl rfl rfl ?_
  refine sxo_extract rfl rfl rfl rfl ?_
  refine sxo_extract rfl rfl rfl rfl ?_
  refine sxo_assign rfl rfl rfl ?_
  refine sxo_assign rfl rfl rfl ?_
  refine sxo_nil ?_
  refine sxq_next ?_
  refine sxc_seq ?_
  refine sxc_seq ?_
  refine sxc_region ?_
  refine sxo_call ent24 rfl rfl rfl (fun x16 e16 => C_L_rankBegun F  x16 e16) .nil (fun x16 e16 => ?_)
  intro _
  refine sxo_not rfl rfl rfl ?_
  refine sxo_move rfl rfl rfl ?_
  refine sxo_join 3 (fun ((x19, _) : (Bool × Unit)) => [(1, .int .i64 x5), (2, .int .i64 x6), (3, .pointer (some ⟨g7, 0, none⟩)), (7, .int .i64 x8.1), (8, .int .i64 x8.2), (9, .int .i64 x9.1), (10, .int .i64 x9.2), (44, .bool x19)]) (fun ((x19, _) : (Bool × Unit)) => [⟨g7, 24, [.int .i64 x1, .slice a3 x2.length c4]⟩]) (fun ((x19, _) : (Bool × Unit)) => []) (fun ((x19, _) : (Bool × Unit)) => [Sl (eI .u8) 1 (.slice a3 x2.length c4) x2]) (fun ((x19, _) : (Bool × Unit)) => M_L_RankBack_j2 F x1 x2 x5 x6 x8 x9 x19) ?_ ?_
  · refine sxo_take (os := _) rfl ?_
    refine sxo_if (fun h17 => ?_) (fun h17 => ?_)
    · refine sxo_isT (k := 41) rfl h17 ?_
      refine sxo_skip rfl rfl rfl ?_
      refine sxo_skip rfl rfl rfl ?_
      refine sxo_pick (b := true) rfl rfl rfl rfl ?_
      refine sxo_nil ?_
      exact sxq_meetP (true, ()) (lk_cons rfl (lk_cons rfl (lk_cons rfl (lk_cons rfl (lk_cons rfl (lk_cons rfl (lk_cons rfl (lk_cons rfl lk_nil)))))))) (.cons 0 rfl .nil) .nil (fk_cons 0 rfl fk_nil)
    · refine sxo_isF (k := 41) rfl h17 ?_
      refine sxo_call ent38 rfl rfl rfl (fun x63 e63 => C_L_bitsBegun F  x63 e63) .nil (fun x63 e63 => ?_)
      intro _
      refine sxo_not rfl rfl rfl ?_
      refine sxo_pick (b := false) rfl rfl rfl rfl ?_
      refine sxo_nil ?_
      exact sxq_meetP ((!x63), ()) (lk_cons rfl (lk_cons rfl (lk_cons rfl (lk_cons rfl (lk_cons rfl (lk_cons rfl (lk_cons rfl (lk_cons rfl lk_nil)))))))) (.cons 0 rfl .nil) .nil (fk_cons 0 rfl fk_nil)
  · rintro ⟨x19, _⟩
    try dsimp only
    refine sxo_take (os := _) rfl ?_
    refine sxo_nil ?_
    refine sxq_next ?_
    refine sxc_if rfl (fun h62 => ?_) (fun h62 => ?_)
    · refine sxc_seq ?_
      refine sxc_region ?_
      refine sxo_assign rfl rfl rfl ?_
      refine sxo_nil ?_
      refine sxq_next ?_
      refine sxc_ret ?_
      refine sxq_thenR ?_
      exact sxq_doneP () (.inl rfl) (res1 rfl rfl) (fun h => by subst h; rfl) (fun h => by subst h; exact .nil)
    · refine sxc_skip ?_
      refine sxq_next ?_
      refine sxc_join (fun ((_, _) : (Unit × Unit)) => [(1, .int .i64 x5), (2, .int .i64 x6), (3, .pointer (some ⟨g7, 0, none⟩)), (9, .int .i64 x9.1), (10, .int .i64 x9.2)]) (fun ((_, _) : (Unit × Unit)) => [⟨g7, 24, [.int .i64 x1, .slice a3 x2.length c4]⟩]) (fun ((_, _) : (Unit × Unit)) => []) (fun ((_, _) : (Unit × Unit)) => [Sl (eI .u8) 1 (.slice a3 x2.length c4) x2]) (fun ((_, _) : (Unit × Unit)) => M_L_RankBack_j3 F x1 x2 x5 x6 x9) ?_ ?_
      · refine sxc_seq ?_
        refine sxc_region ?_
        refine sxo_move rfl rfl rfl ?_
        refine sxo_eql rfl rfl rfl rfl ?_
        refine sxo_nil ?_
        refine sxq_next ?_
        refine sxc_if rfl (fun h61 => ?_) (fun h61 => ?_)
        · refine sxc_seq ?_
          refine sxc_region ?_
          refine sxo_loadB (i := 0) rfl rfl tf24 rfl rfl (by simp) rfl rfl ?_
          refine sxo_move rfl rfl rfl ?_
          refine sxo_call ent13 rfl rfl rfl (fun x55 e55 => C_rank_Rank F x1 x2 a3 c4 x8.1 x55 e55) (.consF 0 rfl .nil) (fun x55 e55 => ?_)
          intro _
          refine sxo_move rfl rfl rfl ?_
          refine sxo_extract rfl rfl rfl rfl ?_
          refine sxo_extract rfl rfl rfl rfl ?_
          refine sxo_assign rfl rfl rfl ?_
          refine sxo_assign rfl rfl rfl ?_
          refine sxo_nil ?_
          refine sxq_next ?_
          refine sxc_seq ?_
          refine sxc_region ?_
          refine sxo_loadB (i := 0) rfl rfl tf24 rfl rfl (by simp) rfl rfl ?_
          refine sxo_move rfl rfl rfl ?_
          refine sxo_call ent41 rfl rfl rfl (fun x56 e56 => C_bits_Get F x1 x2 a3 c4 x8.1 1 x56 e56) (.consF 0 rfl .nil) (fun x56 e56 => ?_)
          intro _
          refine sxo_move rfl rfl rfl ?_
          refine sxo_extract rfl rfl rfl rfl ?_
          refine sxo_extract rfl rfl rfl rfl ?_
          refine sxo_assign rfl rfl rfl ?_
          refine sxo_assign rfl rfl rfl ?_
          refine sxo_nil ?_
          refine sxq_next ?_
          refine sxc_seq ?_
          refine sxc_region ?_
          refine sxo_move rfl rfl rfl ?_
          refine sxo_neq rfl rfl rfl rfl ?_
          refine sxo_move rfl rfl rfl ?_
          refine sxo_case 3 ((x55.2 : Int) != 0) [(1, .int .i64 x5), (2, .int .i64 x6), (3, .pointer (some ⟨g7, 0, none⟩)), (9, .int .i64 x9.1), (10, .int .i64 x9.2), (11, .int .i64 x55.1), (13, .int .u64 x56.1), (64, .bool (((x55.2 : Int) != 0) || ((x56.2 : Int) != 0)))] (fun h57 => ?_) (fun h57 => ?_) ?_
          · refine sxo_take (os := _) rfl ?_
            refine sxo_isT (k := 61) rfl h57 ?_
            refine sxo_skip rfl rfl rfl ?_
            refine sxo_skip rfl rfl rfl ?_
            refine sxo_pick (b := true) rfl rfl rfl rfl ?_
            refine sxo_again (d := 64) (v := .bool (((x55.2 : Int) != 0) || ((x56.2 : Int) != 0))) rfl (by rw [h57]; simp only [Bool.true_or]) ?_
            refine sxo_nil ?_
            exact sxq_case (lk_cons rfl (lk_cons rfl (lk_cons rfl (lk_cons rfl (lk_cons rfl (lk_cons rfl (lk_cons rfl (lk_cons rfl lk_nil))))))))
          · refine sxo_take (os := _) rfl ?_
            refine sxo_isF (k := 61) rfl h57 ?_
            refine sxo_move rfl rfl rfl ?_
            refine sxo_neq rfl rfl rfl rfl ?_
            refine sxo_pick (b := false) rfl rfl rfl rfl ?_
            refine sxo_again (d := 64) (v := .bool (((x55.2 : Int) != 0) || ((x56.2 : Int) != 0))) rfl (by rw [h57]; simp only [Bool.false_or]) ?_
            refine sxo_nil ?_
            exact sxq_case (lk_cons rfl (lk_cons rfl (lk_cons rfl (lk_cons rfl (lk_cons rfl (lk_cons rfl (lk_cons rfl (lk_cons rfl lk_nil))))))))
          refine sxo_take (os := _) rfl ?_
          refine sxo_move rfl rfl rfl ?_
          refine sxo_case 4 (((x55.2 : Int) != 0) || ((x56.2 : Int) != 0)) [(1, .int .i64 x5), (2, .int .i64 x6), (3, .pointer (some ⟨g7, 0, none⟩)), (9, .int .i64 x9.1), (10, .int .i64 x9.2), (13, .int .u64 x56.1), (69, .bool ((((x55.2 : Int) != 0) || ((x56.2 : Int) != 0)) || ((x55.1 : Int) != x5)))] (fun h58 => ?_) (fun h58 => ?_) ?_
          · refine sxo_take (os := _) rfl ?_
            refine sxo_isT (k := 65) rfl h58 ?_
            refine sxo_skip rfl rfl rfl ?_
            refine sxo_skip rfl rfl rfl ?_
            refine sxo_skip rfl rfl rfl ?_
            refine sxo_pick (b := true) rfl rfl rfl rfl ?_
            refine sxo_again (d := 69) (v := .bool ((((x55.2 : Int) != 0) || ((x56.2 : Int) != 0)) || ((x55.1 : Int) != x5))) rfl (by rw [h58]; simp only [Bool.true_or]) ?_
            refine sxo_nil ?_
            exact sxq_case (lk_cons rfl (lk_cons rfl (lk_cons rfl (lk_cons rfl (lk_cons rfl (lk_cons rfl (lk_cons rfl lk_nil)))))))
          · refine sxo_take (os := _) rfl ?_
            refine sxo_isF (k := 65) rfl h58 ?_
            refine sxo_move rfl rfl rfl ?_
            refine sxo_move rfl rfl rfl ?_
            refine sxo_neq rfl rfl rfl rfl ?_
            refine sxo_pick (b := false) rfl rfl rfl rfl ?_
            refine sxo_again (d := 69) (v := .bool ((((x55.2 : Int) != 0) || ((x56.2 : Int) != 0)) || ((x55.1 : Int) != x5))) rfl (by rw [h58]; simp only [Bool.false_or]) ?_
            refine sxo_nil ?_
            exact sxq_case (lk_cons rfl (lk_cons rfl (lk_cons rfl (lk_cons rfl (lk_cons rfl (lk_cons rfl (lk_cons rfl lk_nil)))))))
          refine sxo_take (os := _) rfl ?_
          refine sxo_move rfl rfl rfl ?_
          refine sxo_case 3 ((((x55.2 : Int) != 0) || ((x56.2 : Int) != 0)) || ((x55.1 : Int) != x5)) [(1, .int .i64 x5), (2, .int .i64 x6), (3, .pointer (some ⟨g7, 0, none⟩)), (9, .int .i64 x9.1), (10, .int .i64 x9.2), (73, .bool (((((x55.2 : Int) != 0) || ((x56.2 : Int) != 0)) || ((x55.1 : Int) != x5)) || ((x56.1 : Int) != 1)))] (fun h59 => ?_) (fun h59 => ?_) ?_
          · refine sxo_take (os := _) rfl ?_
            refine sxo_isT (k := 70) rfl h59 ?_
            refine sxo_skip rfl rfl rfl ?_
            refine sxo_skip rfl rfl rfl ?_
            refine sxo_pick (b := true) rfl rfl rfl rfl ?_
            refine sxo_again (d := 73) (v := .bool (((((x55.2 : Int) != 0) || ((x56.2 : Int) != 0)) || ((x55.1 : Int) != x5)) || ((x56.1 : Int) != 1))) rfl (by rw [h59]; simp only [Bool.true_or]) ?_
            refine sxo_nil ?_
            exact sxq_case (lk_cons rfl (lk_cons rfl (lk_cons rfl (lk_cons rfl (lk_cons rfl (lk_cons rfl lk_nil))))))
          · refine sxo_take (os := _) rfl ?_
            refine sxo_isF (k := 70) rfl h59 ?_
            refine sxo_move rfl rfl rfl ?_
            refine sxo_neq rfl rfl rfl rfl ?_
            refine sxo_pick (b := false) rfl rfl rfl rfl ?_
            refine sxo_again (d := 73) (v := .bool (((((x55.2 : Int) != 0) || ((x56.2 : Int) != 0)) || ((x55.1 : Int) != x5)) || ((x56.1 : Int) != 1))) rfl (by rw [h59]; simp only [Bool.false_or]) ?_
            refine sxo_nil ?_
            exact sxq_case (lk_cons rfl (lk_cons rfl (lk_cons rfl (lk_cons rfl (lk_cons rfl (lk_cons rfl lk_nil))))))
          refine sxo_take (os := _) rfl ?_
          refine sxo_nil ?_
          refine sxq_next ?_
          refine sxc_if rfl (fun h60 => ?_) (fun h60 => ?_)
          · refine sxc_seq ?_
            refine sxc_region ?_
            refine sxo_assign rfl rfl rfl ?_
            refine sxo_nil ?_
            refine sxq_next ?_
            refine sxc_ret ?_
            refine sxq_thenR ?_
            exact sxq_doneP () (.inl rfl) (res1 rfl rfl) (fun h => by subst h; rfl) (fun h => by subst h; exact .nil)
          · refine sxc_skip ?_
            exact sxq_meetP ((), ()) (lk_cons rfl (lk_cons rfl (lk_cons rfl (lk_cons rfl (lk_cons rfl lk_nil))))) (.cons 0 rfl .nil) .nil (fk_cons 0 rfl fk_nil)
        · refine sxc_skip ?_
          exact sxq_meetP ((), ()) (lk_cons rfl (lk_cons rfl (lk_cons rfl (lk_cons rfl (lk_cons rfl lk_nil))))) (.cons 0 rfl .nil) .nil (fk_cons 0 rfl fk_nil)
      · rintro ⟨_, _⟩
        try dsimp only
        refine sxc_join (fun ((_, _) : (Unit × Unit)) => [(2, .int .i64 x6), (3, .pointer (some ⟨g7, 0, none⟩))]) (fun ((_, _) : (Unit × Unit)) => [⟨g7, 24, [.int .i64 x1, .slice a3 x2.length c4]⟩]) (fun ((_, _) : (Unit × Unit)) => []) (fun ((_, _) : (Unit × Unit)) => [Sl (eI .u8) 1 (.slice a3 x2.length c4) x2]) (fun ((_, _) : (Unit × Unit)) => M_L_RankBack_j4 F x1 x2 x6) ?_ ?_
        · refine sxc_seq ?_
          refine sxc_region ?_
          refine sxo_move rfl rfl rfl ?_
          refine sxo_eql rfl rfl rfl rfl ?_
          refine sxo_nil ?_
          refine sxq_next ?_
          refine sxc_if rfl (fun h54 => ?_) (fun h54 => ?_)
          · refine sxc_seq ?_
            refine sxc_region ?_
            refine sxo_loadB (i := 0) rfl rfl tf24 rfl rfl (by simp) rfl rfl ?_
            refine sxo_move rfl rfl rfl ?_
            refine sxo_call ent13 rfl rfl rfl (fun x48 e48 => C_rank_Rank F x1 x2 a3 c4 x9.1 x48 e48) (.consF 0 rfl .nil) (fun x48 e48 => ?_)
            intro _
            refine sxo_move rfl rfl rfl ?_
            refine sxo_extract rfl rfl rfl rfl ?_
            refine sxo_extract rfl rfl rfl rfl ?_
            refine sxo_assign rfl rfl rfl ?_
            refine sxo_assign rfl rfl rfl ?_
            refine sxo_nil ?_
            refine sxq_next ?_
            refine sxc_seq ?_
            refine sxc_region ?_
            refine sxo_loadB (i := 0) rfl rfl tf24 rfl rfl (by simp) rfl rfl ?_
            refine sxo_move rfl rfl rfl ?_
            refine sxo_call ent41 rfl rfl rfl (fun x49 e49 => C_bits_Get F x1 x2 a3 c4 x9.1 1 x49 e49) (.consF 0 rfl .nil) (fun x49 e49 => ?_)
            intro _
            refine sxo_move rfl rfl rfl ?_
            refine sxo_extract rfl rfl rfl rfl ?_
            refine sxo_extract rfl rfl rfl rfl ?_
            refine sxo_assign rfl rfl rfl ?_
            refine sxo_assign rfl rfl rfl ?_
            refine sxo_nil ?_
            refine sxq_next ?_
            refine sxc_seq ?_
            refine sxc_region ?_
            refine sxo_move rfl rfl rfl ?_
            refine sxo_neq rfl rfl rfl rfl ?_
            refine sxo_move rfl rfl rfl ?_
            refine sxo_case 3 ((x48.2 : Int) != 0) [(1, .int .i64 x5), (2, .int .i64 x6), (3, .pointer (some ⟨g7, 0, none⟩)), (9, .int .i64 x9.1), (15, .int .i64 x48.1), (17, .int .u64 x49.1), (93, .bool (((x48.2 : Int) != 0) || ((x49.2 : Int) != 0)))] (fun h50 => ?_) (fun h50 => ?_) ?_
            · refine sxo_take (os := _) rfl ?_
              refine sxo_isT (k := 90) rfl h50 ?_
              refine sxo_skip rfl rfl rfl ?_
              refine sxo_skip rfl rfl rfl ?_
              refine sxo_pick (b := true) rfl rfl rfl rfl ?_
              refine sxo_again (d := 93) (v := .bool (((x48.2 : Int) != 0) || ((x49.2 : Int) != 0))) rfl (by rw [h50]; simp only [Bool.true_or]) ?_
              refine sxo_nil ?_
              exact sxq_case (lk_cons rfl (lk_cons rfl (lk_cons rfl (lk_cons rfl (lk_cons rfl (lk_cons rfl (lk_cons rfl lk_nil)))))))
            · refine sxo_take (os := _) rfl ?_
              refine sxo_isF (k := 90) rfl h50 ?_
              refine sxo_move rfl rfl rfl ?_
              refine sxo_neq rfl rfl rfl rfl ?_
              refine sxo_pick (b := false) rfl rfl rfl rfl ?_
              refine sxo_again (d := 93) (v := .bool (((x48.2 : Int) != 0) || ((x49.2 : Int) != 0))) rfl (by rw [h50]; simp only [Bool.false_or]) ?_
              refine sxo_nil ?_
              exact sxq_case (lk_cons rfl (lk_cons rfl (lk_cons rfl (lk_cons rfl (lk_cons rfl (lk_cons rfl (lk_cons rfl lk_nil)))))))
            refine sxo_take (os := _) rfl ?_
            refine sxo_move rfl rfl rfl ?_
            refine sxo_case 6 (((x48.2 : Int) != 0) || ((x49.2 : Int) != 0)) [(2, .int .i64 x6), (3, .pointer (some ⟨g7, 0, none⟩)), (17, .int .u64 x49.1), (100, .bool ((((x48.2 : Int) != 0) || ((x49.2 : Int) != 0)) || (((isub .i64 x9.1 x48.1) : Int) != x5)))] (fun h51 => ?_) (fun h51 => ?_) ?_
            · refine sxo_take (os := _) rfl ?_
              refine sxo_isT (k := 94) rfl h51 ?_
              refine sxo_skip rfl rfl rfl ?_
              refine sxo_skip rfl rfl rfl ?_
              refine sxo_skip rfl rfl rfl ?_
              refine sxo_skip rfl rfl rfl ?_
              refine sxo_skip rfl rfl rfl ?_
              refine sxo_pick (b := true) rfl rfl rfl rfl ?_
              refine sxo_again (d := 100) (v := .bool ((((x48.2 : Int) != 0) || ((x49.2 : Int) != 0)) || (((isub .i64 x9.1 x48.1) : Int) != x5))) rfl (by rw [h51]; simp only [Bool.true_or]) ?_
              refine sxo_nil ?_
              exact sxq_case (lk_cons rfl (lk_cons rfl (lk_cons rfl (lk_cons rfl lk_nil))))
            · refine sxo_take (os := _) rfl ?_
              refine sxo_isF (k := 94) rfl h51 ?_
              refine sxo_move rfl rfl rfl ?_
              refine sxo_move rfl rfl rfl ?_
              refine sxo_sub rfl rfl rfl rfl ?_
              refine sxo_move rfl rfl rfl ?_
              refine sxo_neq rfl rfl rfl rfl ?_
              refine sxo_pick (b := false) rfl rfl rfl rfl ?_
              refine sxo_again (d := 100) (v := .bool ((((x48.2 : Int) != 0) || ((x49.2 : Int) != 0)) || (((isub .i64 x9.1 x48.1) : Int) != x5))) rfl (by rw [h51]; simp only [Bool.false_or]) ?_
              refine sxo_nil ?_
              exact sxq_case (lk_cons rfl (lk_cons rfl (lk_cons rfl (lk_cons rfl lk_nil))))
            refine sxo_take (os := _) rfl ?_
            refine sxo_move rfl rfl rfl ?_
            refine sxo_case 3 ((((x48.2 : Int) != 0) || ((x49.2 : Int) != 0)) || (((isub .i64 x9.1 x48.1) : Int) != x5)) [(2, .int .i64 x6), (3, .pointer (some ⟨g7, 0, none⟩)), (104, .bool (((((x48.2 : Int) != 0) || ((x49.2 : Int) != 0)) || (((isub .i64 x9.1 x48.1) : Int) != x5)) || ((x49.1 : Int) != 0)))] (fun h52 => ?_) (fun h52 => ?_) ?_
            · refine sxo_take (os := _) rfl ?_
              refine sxo_isT (k := 101) rfl h52 ?_
              refine sxo_skip rfl rfl rfl ?_
              refine sxo_skip rfl rfl rfl ?_
              refine sxo_pick (b := true) rfl rfl rfl rfl ?_
              refine sxo_again (d := 104) (v := .bool (((((x48.2 : Int) != 0) || ((x49.2 : Int) != 0)) || (((isub .i64 x9.1 x48.1) : Int) != x5)) || ((x49.1 : Int) != 0))) rfl (by rw [h52]; simp only [Bool.true_or]) ?_
              refine sxo_nil ?_
              exact sxq_case (lk_cons rfl (lk_cons rfl (lk_cons rfl lk_nil)))
            · refine sxo_take (os := _) rfl ?_
              refine sxo_isF (k := 101) rfl h52 ?_
              refine sxo_move rfl rfl rfl ?_
              refine sxo_neq rfl rfl rfl rfl ?_
              refine sxo_pick (b := false) rfl rfl rfl rfl ?_
              refine sxo_again (d := 104) (v := .bool (((((x48.2 : Int) != 0) || ((x49.2 : Int) != 0)) || (((isub .i64 x9.1 x48.1) : Int) != x5)) || ((x49.1 : Int) != 0))) rfl (by rw [h52]; simp only [Bool.false_or]) ?_
              refine sxo_nil ?_
              exact sxq_case (lk_cons rfl (lk_cons rfl (lk_cons rfl lk_nil)))
            refine sxo_take (os := _) rfl ?_
            refine sxo_nil ?_
            refine sxq_next ?_
            refine sxc_if rfl (fun h53 => ?_) (fun h53 => ?_)
            · refine sxc_seq ?_
              refine sxc_region ?_
              refine sxo_assign rfl rfl rfl ?_
              refine sxo_nil ?_
              refine sxq_next ?_
              refine sxc_ret ?_
              refine sxq_thenR ?_
              exact sxq_doneP () (.inl rfl) (res1 rfl rfl) (fun h => by subst h; rfl) (fun h => by subst h; exact .nil)
            · refine sxc_skip ?_
              exact sxq_meetP ((), ()) (lk_cons rfl (lk_cons rfl lk_nil)) (.cons 0 rfl .nil) .nil (fk_cons 0 rfl fk_nil)
          · refine sxc_skip ?_
            exact sxq_meetP ((), ()) (lk_cons rfl (lk_cons rfl lk_nil)) (.cons 0 rfl .nil) .nil (fk_cons 0 rfl fk_nil)
        · rintro ⟨_, _⟩
          try dsimp only
          refine sxc_seq ?_
          refine sxc_region ?_
          refine sxo_loadB (i := 0) rfl rfl tf24 rfl rfl (by simp) rfl rfl ?_
          refine sxo_move rfl rfl rfl ?_
          refine sxo_call ent13 rfl rfl rfl (fun x34 e34 => C_rank_Rank F x1 x2 a3 c4 x6 x34 e34) (.consF 0 rfl .nil) (fun x34 e34 => ?_)
          intro _
          refine sxo_move rfl rfl rfl ?_
          refine sxo_extract rfl rfl rfl rfl ?_
          refine sxo_extract rfl rfl rfl rfl ?_
          refine sxo_assign rfl rfl rfl ?_
          refine sxo_assign rfl rfl rfl ?_
          refine sxo_nil ?_
          refine sxq_next ?_
          refine sxc_seq ?_
          refine sxc_region ?_
          refine sxo_loadB (i := 0) rfl rfl tf24 rfl rfl (by simp) rfl rfl ?_
          refine sxo_move rfl rfl rfl ?_
          refine sxo_call ent41 rfl rfl rfl (fun x35 e35 => C_bits_Get F x1 x2 a3 c4 x6 1 x35 e35) (.consF 0 rfl .nil) (fun x35 e35 => ?_)
          intro _
          refine sxo_move rfl rfl rfl ?_
          refine sxo_extract rfl rfl rfl rfl ?_
          refine sxo_extract rfl rfl rfl rfl ?_
          refine sxo_assign rfl rfl rfl ?_
          refine sxo_assign rfl rfl rfl ?_
          refine sxo_nil ?_
          refine sxq_next ?_
          refine sxc_seq ?_
          refine sxc_seq ?_
          refine sxc_region ?_
          refine sxo_move rfl rfl rfl ?_
          refine sxo_neq rfl rfl rfl rfl ?_
          refine sxo_move rfl rfl rfl ?_
          refine sxo_case 3 ((x34.2 : Int) != 0) [(2, .int .i64 x6), (3, .pointer (some ⟨g7, 0, none⟩)), (19, .int .i64 x34.1), (21, .int .u64 x35.1), (122, .bool (((x34.2 : Int) != 0) || ((x35.2 : Int) != 0)))] (fun h38 => ?_) (fun h38 => ?_) ?_
          · refine sxo_take (os := _) rfl ?_
            refine sxo_isT (k := 119) rfl h38 ?_
            refine sxo_skip rfl rfl rfl ?_
            refine sxo_skip rfl rfl rfl ?_
            refine sxo_pick (b := true) rfl rfl rfl rfl ?_
            refine sxo_again (d := 122) (v := .bool (((x34.2 : Int) != 0) || ((x35.2 : Int) != 0))) rfl (by rw [h38]; simp only [Bool.true_or]) ?_
            refine sxo_nil ?_
            exact sxq_case (lk_cons rfl (lk_cons rfl (lk_cons rfl (lk_cons rfl (lk_cons rfl lk_nil)))))
          · refine sxo_take (os := _) rfl ?_
            refine sxo_isF (k := 119) rfl h38 ?_
            refine sxo_move rfl rfl rfl ?_
            refine sxo_neq rfl rfl rfl rfl ?_
            refine sxo_pick (b := false) rfl rfl rfl rfl ?_
            refine sxo_again (d := 122) (v := .bool (((x34.2 : Int) != 0) || ((x35.2 : Int) != 0))) rfl (by rw [h38]; simp only [Bool.false_or]) ?_
            refine sxo_nil ?_
            exact sxq_case (lk_cons rfl (lk_cons rfl (lk_cons rfl (lk_cons rfl (lk_cons rfl lk_nil)))))
          refine sxo_take (os := _) rfl ?_
          refine sxo_nil ?_
          refine sxq_next ?_
          refine sxc_if rfl (fun h47 => ?_) (fun h47 => ?_)
          · refine sxc_seq ?_
            refine sxc_region ?_
            refine sxo_assign rfl rfl rfl ?_
            refine sxo_nil ?_
            refine sxq_next ?_
            refine sxc_ret ?_
            refine sxq_thenR ?_
            exact sxq_doneP () (.inl rfl) (res1 rfl rfl) (fun h => by subst h; rfl) (fun h => by subst h; exact .nil)
          · refine sxc_skip ?_
            refine sxq_next ?_
            refine sxc_seq ?_
            refine sxc_seq ?_
            refine sxc_region ?_
            refine sxo_move rfl rfl rfl ?_
            refine sxo_eql rfl rfl rfl rfl ?_
            refine sxo_nil ?_
            refine sxq_next ?_
            refine sxc_if rfl (fun h46 => ?_) (fun h46 => ?_)
            · refine sxc_seq ?_
              refine sxc_region ?_
              refine sxo_loadB (i := 0) rfl rfl tf24 rfl rfl (by simp) rfl rfl ?_
              refine sxo_move rfl rfl rfl ?_
              refine sxo_call ent14 rfl rfl rfl (fun x42 e42 => C_rank_Select F x1 x2 a3 c4 1 x34.1 x42 e42) (.consF 0 rfl .nil) (fun x42 e42 => ?_)
              intro _
              refine sxo_move rfl rfl rfl ?_
              refine sxo_extract rfl rfl rfl rfl ?_
              refine sxo_extract rfl rfl rfl rfl ?_
              refine sxo_assign rfl rfl rfl ?_
              refine sxo_assign rfl rfl rfl ?_
              refine sxo_nil ?_
              refine sxq_next ?_
              refine sxc_seq ?_
              refine sxc_region ?_
              refine sxo_move rfl rfl rfl ?_
              refine sxo_eql rfl rfl rfl rfl ?_
              refine sxo_move rfl rfl rfl ?_
              refine sxo_case 4 ((x42.2 : Int) == 0) [(137, .bool (((x42.2 : Int) == 0) && ((x42.1 : Int) == x6)))] (fun h43 => ?_) (fun h43 => ?_) ?_
              · refine sxo_take (os := _) rfl ?_
                refine sxo_isT (k := 133) rfl h43 ?_
                refine sxo_move rfl rfl rfl ?_
                refine sxo_move rfl rfl rfl ?_
                refine sxo_eql rfl rfl rfl rfl ?_
                refine sxo_pick (b := true) rfl rfl rfl rfl ?_
                refine sxo_again (d := 137) (v := .bool (((x42.2 : Int) == 0) && ((x42.1 : Int) == x6))) rfl (by rw [h43]; simp only [Bool.true_and]) ?_
                refine sxo_nil ?_
                exact sxq_case (lk_cons rfl lk_nil)
              · refine sxo_take (os := _) rfl ?_
                refine sxo_isF (k := 133) rfl h43 ?_
                refine sxo_skip rfl rfl rfl ?_
                refine sxo_skip rfl rfl rfl ?_
                refine sxo_skip rfl rfl rfl ?_
                refine sxo_pick (b := false) rfl rfl rfl rfl ?_
                refine sxo_again (d := 137) (v := .bool (((x42.2 : Int) == 0) && ((x42.1 : Int) == x6))) rfl (by rw [h43]; simp only [Bool.false_and]) ?_
                refine sxo_nil ?_
                exact sxq_case (lk_cons rfl lk_nil)
              refine sxo_take (os := _) rfl ?_
              refine sxo_assign rfl rfl rfl ?_
              refine sxo_nil ?_
              refine sxq_next ?_
              refine sxc_ret ?_
              refine sxq_thenR ?_
              exact sxq_doneP () (.inl rfl) (res1 rfl rfl) (fun h => by subst h; rfl) (fun h => by subst h; exact .nil)
            · refine sxc_skip ?_
              refine sxq_next ?_
              refine sxc_seq ?_
              refine sxc_region ?_
              refine sxo_loadB (i := 0) rfl rfl tf24 rfl rfl (by simp) rfl rfl ?_
              refine sxo_move rfl rfl rfl ?_
              refine sxo_move rfl rfl rfl ?_
              refine sxo_sub rfl rfl rfl rfl ?_
              refine sxo_call ent14 rfl rfl rfl (fun x44 e44 => C_rank_Select F x1 x2 a3 c4 0 (isub .i64 x6 x34.1) x44 e44) (.consF 0 rfl .nil) (fun x44 e44 => ?_)
              intro _
              refine sxo_move rfl rfl rfl ?_
              refine sxo_extract rfl rfl rfl rfl ?_
              refine sxo_extract rfl rfl rfl rfl ?_
              refine sxo_assign rfl rfl rfl ?_
              refine sxo_assign rfl rfl rfl ?_
              refine sxo_nil ?_
              refine sxq_next ?_
              refine sxc_seq ?_
              refine sxc_region ?_
              refine sxo_move rfl rfl rfl ?_
              refine sxo_eql rfl rfl rfl rfl ?_
              refine sxo_move rfl rfl rfl ?_
              refine sxo_case 4 ((x44.2 : Int) == 0) [(152, .bool (((x44.2 : Int) == 0) && ((x44.1 : Int) == x6)))] (fun h45 => ?_) (fun h45 => ?_) ?_
              · refine sxo_take (os := _) rfl ?_
                refine sxo_isT (k := 148) rfl h45 ?_
                refine sxo_move rfl rfl rfl ?_
                refine sxo_move rfl rfl rfl ?_
                refine sxo_eql rfl rfl rfl rfl ?_
                refine sxo_pick (b := true) rfl rfl rfl rfl ?_
                refine sxo_again (d := 152) (v := .bool (((x44.2 : Int) == 0) && ((x44.1 : Int) == x6))) rfl (by rw [h45]; simp only [Bool.true_and]) ?_
                refine sxo_nil ?_
                exact sxq_case (lk_cons rfl lk_nil)
              · refine sxo_take (os := _) rfl ?_
                refine sxo_isF (k := 148) rfl h45 ?_
                refine sxo_skip rfl rfl rfl ?_
                refine sxo_skip rfl rfl rfl ?_
                refine sxo_skip rfl rfl rfl ?_
                refine sxo_pick (b := false) rfl rfl rfl rfl ?_
                refine sxo_again (d := 152) (v := .bool (((x44.2 : Int) == 0) && ((x44.1 : Int) == x6))) rfl (by rw [h45]; simp only [Bool.false_and]) ?_
                refine sxo_nil ?_
                exact sxq_case (lk_cons rfl lk_nil)
              refine sxo_take (os := _) rfl ?_
              refine sxo_assign rfl rfl rfl ?_
              refine sxo_nil ?_
              refine sxq_next ?_
              refine sxc_ret ?_
              exact sxq_doneP () (.inl rfl) (res1 rfl rfl) (fun h => by subst h; rfl) (fun h => by subst h; exact .nil)

set_option maxHeartbeats 4000000 in
theorem C_L_RankParts (F : Nat) (x1 : Int) (x2 : List Int) (a3 : Option Addr) (c4 : Nat) (x5 : Int) (x6 : List Int) (a7 : Option Addr) (c8 : Nat) (x9 : Int) (r : Bool) (hm : M_L_RankParts F x1 x2 x5 x6 x9 = some r) :
    Pure Try.prog 11 [.agg #[.int .i64 x1, .slice a3 x2.length c4], .agg #[.int .i64 x5, .slice a7 x6.length c8], .int .i64 x9] [Sl (eI .u8) 1 (.slice a3 x2.length c4) x2, Sl (eI .u8) 1 (.slice a7 x6.length c8) x6] Unit (fun _ => .bool r) (fun _ => []) (fun _ => []) := by
  refine pure_of Try.func11 rfl Try.ntmps11 rfl hm (fun w => ?_)
  refine sxc_env (l' := [(0, .agg #[.int .i64 x1, .slice a3 x2.length c4]), (1, .agg #[.int .i64 x5, .slice a7 x6.length c8]), (2, .int .i64 x9)]) rfl ?_
  refine sxc_seq ?_
  refine sxc_region ?_
  refine sxo_box rfl rfl rfl (fun g10 => ?_)
  refine sxo_box rfl rfl rfl (fun g11 => ?_)
  refine sxo_assign rfl rfl rfl ?_
  refine sxo_nil ?_
  refine sxq_next ?_
  refine sxc_seq ?_
  refine sxc_region ?_
  refine sxo_loadB (i := 1) rfl rfl tf24 rfl rfl (by simp) rfl rfl ?_
  refine sxo_loadB (i := 0) rfl rfl tf24 rfl rfl (by simp) rfl rfl ?_
  refine sxo_call ent40 rfl rfl rfl (fun x12 e12 => C_bits_Join F x1 x2 a3 c4 x5 x6 a7 c8 x12 e12) (.consF 0 rfl (.consF 1 rfl .nil)) (fun x12 e12 => ?_)
  rintro ⟨a13, c14⟩
  refine sxo_move rfl rfl rfl ?_
  refine sxo_extract rfl rfl rfl rfl ?_
  refine sxo_extract rfl rfl rfl rfl ?_
  refine sxo_alloc rfl tf24 rfl (fun g15 => ?_)
  refine sxo_storeB (i := 0) rfl rfl rfl tf24 rfl rfl rfl rfl rfl ?_
  refine sxo_assign rfl rfl rfl ?_
  refine sxo_nil ?_
  refine sxq_next ?_
  refine sxc_seq ?_
  refine sxc_seq ?_
  refine sxc_region ?_
  refine sxo_call ent24 rfl rfl rfl (fun x22 e22 => C_L_rankBegun F  x22 e22) .nil (fun x22 e22 => ?_)
  intro _
  refine sxo_not rfl rfl rfl ?_
  refine sxo_move rfl rfl rfl ?_
  refine sxo_join 3 (fun ((x25, _) : (Bool × Unit)) => [(2, .int .i64 x9), (3, .pointer (some ⟨g10, 0, none⟩)), (4, .pointer (some ⟨g11, 0, none⟩)), (7, .pointer (some ⟨g15, 0, none⟩)), (8, .int .i64 x12.2.2), (26, .bool x25)]) (fun ((x25, _) : (Bool × Unit)) => [⟨g15, 24, [.int .i64 x12.1, .slice a13 x12.2.1.length c14]⟩, ⟨g11, 24, [.int .i64 x5, .slice a7 x6.length c8]⟩, ⟨g10, 24, [.int .i64 x1, .slice a3 x2.length c4]⟩]) (fun ((x25, _) : (Bool × Unit)) => [Ro (eI .u8) 5 1 (.slice a13 x12.2.1.length c14) x12.2.1]) (fun ((x25, _) : (Bool × Unit)) => [Sl (eI .u8) 1 (.slice a7 x6.length c8) x6, Sl (eI .u8) 1 (.slice a3 x2.length c4) x2]) (fun ((x25, _) : (Bool × Unit)) => M_L_RankParts_j2 F x1 x2 x5 x6 x9 x12 x25) ?_ ?_
  · refine sxo_take (os := _) rfl ?_
    refine sxo_if (fun h23 => ?_) (fun h23 => ?_)
    · refine sxo_isT (k := 23) rfl h23 ?_
      refine sxo_skip rfl rfl rfl ?_
      refine sxo_skip rfl rfl rfl ?_
      refine sxo_pick (b := true) rfl rfl rfl rfl ?_
      refine sxo_nil ?_
      exact sxq_meetP (true, ()) (lk_cons rfl (lk_cons rfl (lk_cons rfl (lk_cons rfl (lk_cons rfl (lk_cons rfl lk_nil)))))) (.cons 0 rfl (.cons 0 rfl (.cons 0 rfl .nil))) (.cons 0 rfl .nil) (fk_cons 1 rfl (fk_cons 0 rfl fk_nil))
    · refine sxo_isF (k := 23) rfl h23 ?_
      refine sxo_call ent38 rfl rfl rfl (fun x40 e40 => C_L_bitsBegun F  x40 e40) .nil (fun x40 e40 => ?_)
      intro _
      refine sxo_not rfl rfl rfl ?_
      refine sxo_pick (b := false) rfl rfl rfl rfl ?_
      refine sxo_nil ?_
      exact sxq_meetP ((!x40), ()) (lk_cons rfl (lk_cons rfl (lk_cons rfl (lk_cons rfl (lk_cons rfl (lk_cons rfl lk_nil)))))) (.cons 0 rfl (.cons 0 rfl (.cons 0 rfl .nil))) (.cons 0 rfl .nil) (fk_cons 1 rfl (fk_cons 0 rfl fk_nil))
  · rintro ⟨x25, _⟩
    try dsimp only
    refine sxo_take (os := _) rfl ?_
    refine sxo_nil ?_
    refine sxq_next ?_
    refine sxc_if rfl (fun h39 => ?_) (fun h39 => ?_)
    · refine sxc_seq ?_
      refine sxc_region ?_
      refine sxo_assign rfl rfl rfl ?_
      refine sxo_nil ?_
      refine sxq_next ?_
      refine sxc_ret ?_
      refine sxq_thenR ?_
      exact sxq_doneP () (.inl rfl) (res1 rfl rfl) (fun h => by subst h; rfl) (fun h => by subst h; exact .nil)
    · refine sxc_skip ?_
      refine sxq_next ?_
      refine sxc_seq ?_
      refine sxc_seq ?_
      refine sxc_region ?_
      refine sxo_move rfl rfl rfl ?_
      refine sxo_neq rfl rfl rfl rfl ?_
      refine sxo_move rfl rfl rfl ?_
      refine sxo_case 3 ((x12.2.2 : Int) != 0) [(2, .int .i64 x9), (3, .pointer (some ⟨g10, 0, none⟩)), (4, .pointer (some ⟨g11, 0, none⟩)), (7, .pointer (some ⟨g15, 0, none⟩)), (32, .bool (((x12.2.2 : Int) != 0) || (decide (x9 < 0))))] (fun h29 => ?_) (fun h29 => ?_) ?_
      · refine sxo_take (os := _) rfl ?_
        refine sxo_isT (k := 29) rfl h29 ?_
        refine sxo_skip rfl rfl rfl ?_
        refine sxo_skip rfl rfl rfl ?_
        refine sxo_pick (b := true) rfl rfl rfl rfl ?_
        refine sxo_again (d := 32) (v := .bool (((x12.2.2 : Int) != 0) || (decide (x9 < 0)))) rfl (by rw [h29]; simp only [Bool.true_or]) ?_
        refine sxo_nil ?_
        exact sxq_case (lk_cons rfl (lk_cons rfl (lk_cons rfl (lk_cons rfl (lk_cons rfl lk_nil)))))
      · refine sxo_take (os := _) rfl ?_
        refine sxo_isF (k := 29) rfl h29 ?_
        refine sxo_move rfl rfl rfl ?_
        refine sxo_lss rfl rfl rfl rfl ?_
        refine sxo_pick (b := false) rfl rfl rfl rfl ?_
        refine sxo_again (d := 32) (v := .bool (((x12.2.2 : Int) != 0) || (decide (x9 < 0)))) rfl (by rw [h29]; simp only [Bool.false_or]) ?_
        refine sxo_nil ?_
        exact sxq_case (lk_cons rfl (lk_cons rfl (lk_cons rfl (lk_cons rfl (lk_cons rfl lk_nil)))))
      refine sxo_take (os := _) rfl ?_
      refine sxo_move rfl rfl rfl ?_
      refine sxo_case 5 (((x12.2.2 : Int) != 0) || (decide (x9 < 0))) [(2, .int .i64 x9), (3, .pointer (some ⟨g10, 0, none⟩)), (4, .pointer (some ⟨g11, 0, none⟩)), (7, .pointer (some ⟨g15, 0, none⟩)), (38, .bool ((((x12.2.2 : Int) != 0) || (decide (x9 < 0))) || (decide (x5 < x9))))] (fun h30 => ?_) (fun h30 => ?_) ?_
      · refine sxo_take (os := _) rfl ?_
        refine sxo_isT (k := 33) rfl h30 ?_
        refine sxo_skip rfl rfl rfl ?_
        refine sxo_skip rfl rfl rfl ?_
        refine sxo_skip rfl rfl rfl ?_
        refine sxo_skip rfl rfl rfl ?_
        refine sxo_pick (b := true) rfl rfl rfl rfl ?_
        refine sxo_again (d := 38) (v := .bool ((((x12.2.2 : Int) != 0) || (decide (x9 < 0))) || (decide (x5 < x9)))) rfl (by rw [h30]; simp only [Bool.true_or]) ?_
        refine sxo_nil ?_
        exact sxq_case (lk_cons rfl (lk_cons rfl (lk_cons rfl (lk_cons rfl (lk_cons rfl lk_nil)))))
      · refine sxo_take (os := _) rfl ?_
        refine sxo_isF (k := 33) rfl h30 ?_
        refine sxo_move rfl rfl rfl ?_
        refine sxo_fieldAddr rfl rfl ff24_0 rfl ?_
        refine sxo_loadB (i := 1) rfl rfl tf3 rfl rfl (fun _ => rfl) rfl rfl ?_
        refine sxo_gtr rfl rfl rfl rfl ?_
        refine sxo_pick (b := false) rfl rfl rfl rfl ?_
        refine sxo_again (d := 38) (v := .bool ((((x12.2.2 : Int) != 0) || (decide (x9 < 0))) || (decide (x5 < x9)))) rfl (by rw [h30]; simp only [Bool.false_or]) ?_
        refine sxo_nil ?_
        exact sxq_case (lk_cons rfl (lk_cons rfl (lk_cons rfl (lk_cons rfl (lk_cons rfl lk_nil)))))
      refine sxo_take (os := _) rfl ?_
      refine sxo_nil ?_
      refine sxq_next ?_
      refine sxc_if rfl (fun h38 => ?_) (fun h38 => ?_)
      · refine sxc_seq ?_
        refine sxc_region ?_
        refine sxo_assign rfl rfl rfl ?_
        refine sxo_nil ?_
        refine sxq_next ?_
        refine sxc_ret ?_
        refine sxq_thenR ?_
        exact sxq_doneP () (.inl rfl) (res1 rfl rfl) (fun h => by subst h; rfl) (fun h => by subst h; exact .nil)
      · refine sxc_skip ?_
        refine sxq_next ?_
        refine sxc_seq ?_
        refine sxc_region ?_
        refine sxo_loadB (i := 2) rfl rfl tf24 rfl rfl (by simp) rfl rfl ?_
        refine sxo_fieldAddr rfl rfl ff24_0 rfl ?_
        refine sxo_loadB (i := 2) rfl rfl tf3 rfl rfl (fun _ => rfl) rfl rfl ?_
        refine sxo_call ent13 rfl rfl rfl (fun x31 e31 => C_rank_Rank F x1 x2 a3 c4 x1 x31 e31) (.consF 1 rfl .nil) (fun x31 e31 => ?_)
        intro _
        refine sxo_move rfl rfl rfl ?_
        refine sxo_extract rfl rfl rfl rfl ?_
        refine sxo_extract rfl rfl rfl rfl ?_
        refine sxo_assign rfl rfl rfl ?_
        refine sxo_assign rfl rfl rfl ?_
        refine sxo_nil ?_
        refine sxq_next ?_
        refine sxc_seq ?_
        refine sxc_region ?_
        refine sxo_loadB (i := 1) rfl rfl tf24 rfl rfl (by simp) rfl rfl ?_
        refine sxo_move rfl rfl rfl ?_
        refine sxo_call ent13 rfl rfl rfl (fun x32 e32 => C_rank_Rank F x5 x6 a7 c8 x9 x32 e32) (.consF 0 rfl .nil) (fun x32 e32 => ?_)
        intro _
        refine sxo_move rfl rfl rfl ?_
        refine sxo_extract rfl rfl rfl rfl ?_
        refine sxo_extract rfl rfl rfl rfl ?_
        refine sxo_assign rfl rfl rfl ?_
        refine sxo_assign rfl rfl rfl ?_
        refine sxo_nil ?_
        refine sxq_next ?_
        refine sxc_seq ?_
        refine sxc_region ?_
        refine sxo_loadB (i := 0) rfl rfl tf24 rfl rfl (by simp) rfl rfl ?_
        refine sxo_fieldAddr rfl rfl ff24_0 rfl ?_
        refine sxo_loadB (i := 2) rfl rfl tf3 rfl rfl (fun _ => rfl) rfl rfl ?_
        refine sxo_move rfl rfl rfl ?_
        refine sxo_add rfl rfl rfl rfl ?_
        refine sxo_call ent13 rfl rfl rfl (fun x33 e33 => C_rank_Rank F x12.1 x12.2.1 a13 c14 (iadd .i64 x1 x9) x33 e33) (.consR 0 (Ro (eI .u8) 5 1 (.slice a13 x12.2.1.length c14) x12.2.1) rfl .nil) (fun x33 e33 => ?_)
        intro _
        refine sxo_move rfl rfl rfl ?_
        refine sxo_extract rfl rfl rfl rfl ?_
        refine sxo_extract rfl rfl rfl rfl ?_
        refine sxo_assign rfl rfl rfl ?_
        refine sxo_assign rfl rfl rfl ?_
        refine sxo_nil ?_
        refine sxq_next ?_
        refine sxc_seq ?_
        refine sxc_region ?_
        refine sxo_move rfl rfl rfl ?_
        refine sxo_eql rfl rfl rfl rfl ?_
        refine sxo_move rfl rfl rfl ?_
        refine sxo_case 3 ((x31.2 : Int) == 0) [(2, .int .i64 x9), (9, .int .i64 x31.1), (11, .int .i64 x32.1), (13, .int .i64 x33.1), (14, .int .i64 x33.2), (66, .bool (((x31.2 : Int) == 0) && ((x32.2 : Int) == 0)))] (fun h34 => ?_) (fun h34 => ?_) ?_
        · refine sxo_take (os := _) rfl ?_
          refine sxo_isT (k := 63) rfl h34 ?_
          refine sxo_move rfl rfl rfl ?_
          refine sxo_eql rfl rfl rfl rfl ?_
          refine sxo_pick (b := true) rfl rfl rfl rfl ?_
          refine sxo_again (d := 66) (v := .bool (((x31.2 : Int) == 0) && ((x32.2 : Int) == 0))) rfl (by rw [h34]; simp only [Bool.true_and]) ?_
          refine sxo_nil ?_
          exact sxq_case (lk_cons rfl (lk_cons rfl (lk_cons rfl (lk_cons rfl (lk_cons rfl (lk_cons rfl lk_nil))))))
        · refine sxo_take (os := _) rfl ?_
          refine sxo_isF (k := 63) rfl h34 ?_
          refine sxo_skip rfl rfl rfl ?_
          refine sxo_skip rfl rfl rfl ?_
          refine sxo_pick (b := false) rfl rfl rfl rfl ?_
          refine sxo_again (d := 66) (v := .bool (((x31.2 : Int) == 0) && ((x32.2 : Int) == 0))) rfl (by rw [h34]; simp only [Bool.false_and]) ?_
          refine sxo_nil ?_
          exact sxq_case (lk_cons rfl (lk_cons rfl (lk_cons rfl (lk_cons rfl (lk_cons rfl (lk_cons rfl lk_nil))))))
        refine sxo_take (os := _) rfl ?_
        refine sxo_move rfl rfl rfl ?_
        refine sxo_case 3 (((x31.2 : Int) == 0) && ((x32.2 : Int) == 0)) [(2, .int .i64 x9), (9, .int .i64 x31.1), (11, .int .i64 x32.1), (13, .int .i64 x33.1), (70, .bool ((((x31.2 : Int) == 0) && ((x32.2 : Int) == 0)) && ((x33.2 : Int) == 0)))] (fun h35 => ?_) (fun h35 => ?_) ?_
        · refine sxo_take (os := _) rfl ?_
          refine sxo_isT (k := 67) rfl h35 ?_
          refine sxo_move rfl rfl rfl ?_
          refine sxo_eql rfl rfl rfl rfl ?_
          refine sxo_pick (b := true) rfl rfl rfl rfl ?_
          refine sxo_again (d := 70) (v := .bool ((((x31.2 : Int) == 0) && ((x32.2 : Int) == 0)) && ((x33.2 : Int) == 0))) rfl (by rw [h35]; simp only [Bool.true_and]) ?_
          refine sxo_nil ?_
          exact sxq_case (lk_cons rfl (lk_cons rfl (lk_cons rfl (lk_cons rfl (lk_cons rfl lk_nil)))))
        · refine sxo_take (os := _) rfl ?_
          refine sxo_isF (k := 67) rfl h35 ?_
          refine sxo_skip rfl rfl rfl ?_
          refine sxo_skip rfl rfl rfl ?_
          refine sxo_pick (b := false) rfl rfl rfl rfl ?_
          refine sxo_again (d := 70) (v := .bool ((((x31.2 : Int) == 0) && ((x32.2 : Int) == 0)) && ((x33.2 : Int) == 0))) rfl (by rw [h35]; simp only [Bool.false_and]) ?_
          refine sxo_nil ?_
          exact sxq_case (lk_cons rfl (lk_cons rfl (lk_cons rfl (lk_cons rfl (lk_cons rfl lk_nil)))))
        refine sxo_take (os := _) rfl ?_
        refine sxo_move rfl rfl rfl ?_
        refine sxo_case 6 ((((x31.2 : Int) == 0) && ((x32.2 : Int) == 0)) && ((x33.2 : Int) == 0)) [(2, .int .i64 x9), (11, .int .i64 x32.1), (77, .bool (((((x31.2 : Int) == 0) && ((x32.2 : Int) == 0)) && ((x33.2 : Int) == 0)) && ((x33.1 : Int) == (iadd .i64 x31.1 x32.1))))] (fun h36 => ?_) (fun h36 => ?_) ?_
        · refine sxo_take (os := _) rfl ?_
          refine sxo_isT (k := 71) rfl h36 ?_
          refine sxo_move rfl rfl rfl ?_
          refine sxo_move rfl rfl rfl ?_
          refine sxo_move rfl rfl rfl ?_
          refine sxo_add rfl rfl rfl rfl ?_
          refine sxo_eql rfl rfl rfl rfl ?_
          refine sxo_pick (b := true) rfl rfl rfl rfl ?_
          refine sxo_again (d := 77) (v := .bool (((((x31.2 : Int) == 0) && ((x32.2 : Int) == 0)) && ((x33.2 : Int) == 0)) && ((x33.1 : Int) == (iadd .i64 x31.1 x32.1)))) rfl (by rw [h36]; simp only [Bool.true_and]) ?_
          refine sxo_nil ?_
          exact sxq_case (lk_cons rfl (lk_cons rfl (lk_cons rfl lk_nil)))
        · refine sxo_take (os := _) rfl ?_
          refine sxo_isF (k := 71) rfl h36 ?_
          refine sxo_skip rfl rfl rfl ?_
          refine sxo_skip rfl rfl rfl ?_
          refine sxo_skip rfl rfl rfl ?_
          refine sxo_skip rfl rfl rfl ?_
          refine sxo_skip rfl rfl rfl ?_
          refine sxo_pick (b := false) rfl rfl rfl rfl ?_
          refine sxo_again (d := 77) (v := .bool (((((x31.2 : Int) == 0) && ((x32.2 : Int) == 0)) && ((x33.2 : Int) == 0)) && ((x33.1 : Int) == (iadd .i64 x31.1 x32.1)))) rfl (by rw [h36]; simp only [Bool.false_and]) ?_
          refine sxo_nil ?_
          exact sxq_case (lk_cons rfl (lk_cons rfl (lk_cons rfl lk_nil)))
        refine sxo_take (os := _) rfl ?_
        refine sxo_move rfl rfl rfl ?_
        refine sxo_case 4 (((((x31.2 : Int) == 0) && ((x32.2 : Int) == 0)) && ((x33.2 : Int) == 0)) && ((x33.1 : Int) == (iadd .i64 x31.1 x32.1))) [(82, .bool ((((((x31.2 : Int) == 0) && ((x32.2 : Int) == 0)) && ((x33.2 : Int) == 0)) && ((x33.1 : Int) == (iadd .i64 x31.1 x32.1))) && (decide (x32.1 ≤ x9))))] (fun h37 => ?_) (fun h37 => ?_) ?_
        · refine sxo_take (os := _) rfl ?_
          refine sxo_isT (k := 78) rfl h37 ?_
          refine sxo_move rfl rfl rfl ?_
          refine sxo_move rfl rfl rfl ?_
          refine sxo_leq rfl rfl rfl rfl ?_
          refine sxo_pick (b := true) rfl rfl rfl rfl ?_
          refine sxo_again (d := 82) (v := .bool ((((((x31.2 : Int) == 0) && ((x32.2 : Int) == 0)) && ((x33.2 : Int) == 0)) && ((x33.1 : Int) == (iadd .i64 x31.1 x32.1))) && (decide (x32.1 ≤ x9)))) rfl (by rw [h37]; simp only [Bool.true_and]) ?_
          refine sxo_nil ?_
          exact sxq_case (lk_cons rfl lk_nil)
        · refine sxo_take (os := _) rfl ?_
          refine sxo_isF (k := 78) rfl h37 ?_
          refine sxo_skip rfl rfl rfl ?_
          refine sxo_skip rfl rfl rfl ?_
          refine sxo_skip rfl rfl rfl ?_
          refine sxo_pick (b := false) rfl rfl rfl rfl ?_
          refine sxo_again (d := 82) (v := .bool ((((((x31.2 : Int) == 0) && ((x32.2 : Int) == 0)) && ((x33.2 : Int) == 0)) && ((x33.1 : Int) == (iadd .i64 x31.1 x32.1))) && (decide (x32.1 ≤ x9)))) rfl (by rw [h37]; simp only [Bool.false_and]) ?_
          refine sxo_nil ?_
          exact sxq_case (lk_cons rfl lk_nil)
        refine sxo_take (os := _) rfl ?_
        refine sxo_assign rfl rfl rfl ?_
        refine sxo_nil ?_
        refine sxq_next ?_
        refine sxc_ret ?_
        exact sxq_doneP () (.inl rfl) (res1 rfl rfl) (fun h => by subst h; rfl) (fun h => by subst h; exact .nil)

set_option maxHeartbeats 4000000 in
theorem C_L_RankEnds (F : Nat) (x1 : Int) (x2 : List Int) (a3 : Option Addr) (c4 : Nat) (x5 : Int) (r : Bool) (hm : M_L_RankEnds F x1 x2 x5 = some r) :
    Pure Try.prog 12 [.agg #[.int .i64 x1, .slice a3 x2.length c4], .int .i64 x5] [Sl (eI .u8) 1 (.slice a3 x2.length c4) x2] Unit (fun _ => .bool r) (fun _ => []) (fun _ => []) := by
  refine pure_of Try.func12 rfl Try.ntmps12 rfl hm (fun w => ?_)
  refine sxc_env (l' := [(0, .agg #[.int .i64 x1, .slice a3 x2.length c4]), (1, .int .i64 x5)]) rfl ?_
  refine sxc_seq ?_
  refine sxc_region ?_
  refine sxo_box rfl rfl rfl (fun g6 => ?_)
  refine sxo_assign rfl rfl rfl ?_
  refine sxo_nil ?_
  refine sxq_next ?_
  refine sxc_seq ?_
  refine sxc_seq ?_
  refine sxc_region ?_
  refine sxo_call ent24 rfl rfl rfl (fun x13 e13 => C_L_rankBegun F  x13 e13) .nil (fun x13 e13 => ?_)
  intro _
  refine sxo_not rfl rfl rfl ?_
  refine sxo_move rfl rfl rfl ?_
  refine sxo_join 3 (fun ((x16, _) : (Bool × Unit)) => [(1, .int .i64 x5), (2, .pointer (some ⟨g6, 0, none⟩)), (24, .bool x16)]) (fun ((x16, _) : (Bool × Unit)) => [⟨g6, 24, [.int .i64 x1, .slice a3 x2.length c4]⟩]) (fun ((x16, _) : (Bool × Unit)) => []) (fun ((x16, _) : (Bool × Unit)) => [Sl (eI .u8) 1 (.slice a3 x2.length c4) x2]) (fun ((x16, _) : (Bool × Unit)) => M_L_RankEnds_j2 F x1 x2 x5 x16) ?_ ?_
  · refine sxo_take (os := _) rfl ?_
    refine sxo_if (fun h14 => ?_) (fun h14 => ?_)
    · refine sxo_isT (k := 21) rfl h14 ?_
      refine sxo_skip rfl rfl rfl ?_
      refine sxo_skip rfl rfl rfl ?_
      refine sxo_pick (b := true) rfl rfl rfl rfl ?_
      refine sxo_nil ?_
      exact sxq_meetP (true, ()) (lk_cons rfl (lk_cons rfl (lk_cons rfl lk_nil))) (.cons 0 rfl .nil) .nil (fk_cons 0 rfl fk_nil)
    · refine sxo_isF (k := 21) rfl h14 ?_
      refine sxo_call ent38 rfl rfl rfl (fun x46 e46 => C_L_bitsBegun F  x46 e46) .nil (fun x46 e46 => ?_)
      intro _
      refine sxo_not rfl rfl rfl ?_
      refine sxo_pick (b := false) rfl rfl rfl rfl ?_
      refine sxo_nil ?_
      exact sxq_meetP ((!x46), ()) (lk_cons rfl (lk_cons rfl (lk_cons rfl lk_nil))) (.cons 0 rfl .nil) .nil (fk_cons 0 rfl fk_nil)
  · rintro ⟨x16, _⟩
    try dsimp only
    refine sxo_take (os := _) rfl ?_
    refine sxo_nil ?_
    refine sxq_next ?_
    refine sxc_if rfl (fun h45 => ?_) (fun h45 => ?_)
    · refine sxc_seq ?_
      refine sxc_region ?_
      refine sxo_assign rfl rfl rfl ?_
      refine sxo_nil ?_
      refine sxq_next ?_
      refine sxc_ret ?_
      refine sxq_thenR ?_
      exact sxq_doneP () (.inl rfl) (res1 rfl rfl) (fun h => by subst h; rfl) (fun h => by subst h; exact .nil)
    · refine sxc_skip ?_
      refine sxq_next ?_
      refine sxc_seq ?_
      refine sxc_seq ?_
      refine sxc_region ?_
      refine sxo_loadB (i := 0) rfl rfl tf24 rfl rfl (by simp) rfl rfl ?_
      refine sxo_call ent42 rfl rfl rfl (fun x19 e19 => C_bits_Check F x1 x2 a3 c4 x19 e19) (.consF 0 rfl .nil) (fun x19 e19 => ?_)
      intro _
      refine sxo_neq rfl rfl rfl rfl ?_
      refine sxo_nil ?_
      refine sxq_next ?_
      refine sxc_if rfl (fun h44 => ?_) (fun h44 => ?_)
      · refine sxc_seq ?_
        refine sxc_region ?_
        refine sxo_assign rfl rfl rfl ?_
        refine sxo_nil ?_
        refine sxq_next ?_
        refine sxc_ret ?_
        refine sxq_thenR ?_
        exact sxq_doneP () (.inl rfl) (res1 rfl rfl) (fun h => by subst h; rfl) (fun h => by subst h; exact .nil)
      · refine sxc_skip ?_
        refine sxq_next ?_
        refine sxc_seq ?_
        refine sxc_region ?_
        refine sxo_loadB (i := 0) rfl rfl tf24 rfl rfl (by simp) rfl rfl ?_
        refine sxo_call ent13 rfl rfl rfl (fun x20 e20 => C_rank_Rank F x1 x2 a3 c4 0 x20 e20) (.consF 0 rfl .nil) (fun x20 e20 => ?_)
        intro _
        refine sxo_move rfl rfl rfl ?_
        refine sxo_extract rfl rfl rfl rfl ?_
        refine sxo_extract rfl rfl rfl rfl ?_
        refine sxo_assign rfl rfl rfl ?_
        refine sxo_assign rfl rfl rfl ?_
        refine sxo_nil ?_
        refine sxq_next ?_
        refine sxc_seq ?_
        refine sxc_region ?_
        refine sxo_loadB (i := 0) rfl rfl tf24 rfl rfl (by simp) rfl rfl ?_
        refine sxo_fieldAddr rfl rfl ff24_0 rfl ?_
        refine sxo_loadB (i := 0) rfl rfl tf3 rfl rfl (fun _ => rfl) rfl rfl ?_
        refine sxo_call ent13 rfl rfl rfl (fun x21 e21 => C_rank_Rank F x1 x2 a3 c4 x1 x21 e21) (.consF 0 rfl .nil) (fun x21 e21 => ?_)
        intro _
        refine sxo_move rfl rfl rfl ?_
        refine sxo_extract rfl rfl rfl rfl ?_
        refine sxo_extract rfl rfl rfl rfl ?_
        refine sxo_assign rfl rfl rfl ?_
        refine sxo_assign rfl rfl rfl ?_
        refine sxo_nil ?_
        refine sxq_next ?_
        refine sxc_seq ?_
        refine sxc_region ?_
        refine sxo_loadB (i := 0) rfl rfl tf24 rfl rfl (by simp) rfl rfl ?_
        refine sxo_move rfl rfl rfl ?_
        refine sxo_call ent14 rfl rfl rfl (fun x22 e22 => C_rank_Select F x1 x2 a3 c4 1 x21.1 x22 e22) (.consF 0 rfl .nil) (fun x22 e22 => ?_)
        intro _
        refine sxo_move rfl rfl rfl ?_
        refine sxo_extract rfl rfl rfl rfl ?_
        refine sxo_extract rfl rfl rfl rfl ?_
        refine sxo_assign rfl rfl rfl ?_
        refine sxo_assign rfl rfl rfl ?_
        refine sxo_nil ?_
        refine sxq_next ?_
        refine sxc_seq ?_
        refine sxc_region ?_
        refine sxo_loadB (i := 0) rfl rfl tf24 rfl rfl (by simp) rfl rfl ?_
        refine sxo_fieldAddr rfl rfl ff24_0 rfl ?_
        refine sxo_loadB (i := 0) rfl rfl tf3 rfl rfl (fun _ => rfl) rfl rfl ?_
        refine sxo_move rfl rfl rfl ?_
        refine sxo_sub rfl rfl rfl rfl ?_
        refine sxo_call ent14 rfl rfl rfl (fun x23 e23 => C_rank_Select F x1 x2 a3 c4 0 (isub .i64 x1 x21.1) x23 e23) (.consF 0 rfl .nil) (fun x23 e23 => ?_)
        intro _
        refine sxo_move rfl rfl rfl ?_
        refine sxo_extract rfl rfl rfl rfl ?_
        refine sxo_extract rfl rfl rfl rfl ?_
        refine sxo_assign rfl rfl rfl ?_
        refine sxo_assign rfl rfl rfl ?_
        refine sxo_nil ?_
        refine sxq_next ?_
        refine sxc_seq ?_
        refine sxc_seq ?_
        refine sxc_region ?_
        refine sxo_move rfl rfl rfl ?_
        refine sxo_neq rfl rfl rfl rfl ?_
        refine sxo_move rfl rfl rfl ?_
        refine sxo_case 3 ((x20.2 : Int) != 0) [(1, .int .i64 x5), (2, .pointer (some ⟨g6, 0, none⟩)), (8, .int .i64 x21.2), (10, .int .i64 x22.2), (12, .int .i64 x23.2), (60, .bool (((x20.2 : Int) != 0) || ((x20.1 : Int) != 0)))] (fun h29 => ?_) (fun h29 => ?_) ?_
        · refine sxo_take (os := _) rfl ?_
          refine sxo_isT (k := 57) rfl h29 ?_
          refine sxo_skip rfl rfl rfl ?_
          refine sxo_skip rfl rfl rfl ?_
          refine sxo_pick (b := true) rfl rfl rfl rfl ?_
          refine sxo_again (d := 60) (v := .bool (((x20.2 : Int) != 0) || ((x20.1 : Int) != 0))) rfl (by rw [h29]; simp only [Bool.true_or]) ?_
          refine sxo_nil ?_
          exact sxq_case (lk_cons rfl (lk_cons rfl (lk_cons rfl (lk_cons rfl (lk_cons rfl (lk_cons rfl lk_nil))))))
        · refine sxo_take (os := _) rfl ?_
          refine sxo_isF (k := 57) rfl h29 ?_
          refine sxo_move rfl rfl rfl ?_
          refine sxo_neq rfl rfl rfl rfl ?_
          refine sxo_pick (b := false) rfl rfl rfl rfl ?_
          refine sxo_again (d := 60) (v := .bool (((x20.2 : Int) != 0) || ((x20.1 : Int) != 0))) rfl (by rw [h29]; simp only [Bool.false_or]) ?_
          refine sxo_nil ?_
          exact sxq_case (lk_cons rfl (lk_cons rfl (lk_cons rfl (lk_cons rfl (lk_cons rfl (lk_cons rfl lk_nil))))))
        refine sxo_take (os := _) rfl ?_
        refine sxo_move rfl rfl rfl ?_
        refine sxo_case 3 (((x20.2 : Int) != 0) || ((x20.1 : Int) != 0)) [(1, .int .i64 x5), (2, .pointer (some ⟨g6, 0, none⟩)), (10, .int .i64 x22.2), (12, .int .i64 x23.2), (64, .bool ((((x20.2 : Int) != 0) || ((x20.1 : Int) != 0)) || ((x21.2 : Int) != 0)))] (fun h30 => ?_) (fun h30 => ?_) ?_
        · refine sxo_take (os := _) rfl ?_
          refine sxo_isT (k := 61) rfl h30 ?_
          refine sxo_skip rfl rfl rfl ?_
          refine sxo_skip rfl rfl rfl ?_
          refine sxo_pick (b := true) rfl rfl rfl rfl ?_
          refine sxo_again (d := 64) (v := .bool ((((x20.2 : Int) != 0) || ((x20.1 : Int) != 0)) || ((x21.2 : Int) != 0))) rfl (by rw [h30]; simp only [Bool.true_or]) ?_
          refine sxo_nil ?_
          exact sxq_case (lk_cons rfl (lk_cons rfl (lk_cons rfl (lk_cons rfl (lk_cons rfl lk_nil)))))
        · refine sxo_take (os := _) rfl ?_
          refine sxo_isF (k := 61) rfl h30 ?_
          refine sxo_move rfl rfl rfl ?_
          refine sxo_neq rfl rfl rfl rfl ?_
          refine sxo_pick (b := false) rfl rfl rfl rfl ?_
          refine sxo_again (d := 64) (v := .bool ((((x20.2 : Int) != 0) || ((x20.1 : Int) != 0)) || ((x21.2 : Int) != 0))) rfl (by rw [h30]; simp only [Bool.false_or]) ?_
          refine sxo_nil ?_
          exact sxq_case (lk_cons rfl (lk_cons rfl (lk_cons rfl (lk_cons rfl (lk_cons rfl lk_nil)))))
        refine sxo_take (os := _) rfl ?_
        refine sxo_move rfl rfl rfl ?_
        refine sxo_case 3 ((((x20.2 : Int) != 0) || ((x20.1 : Int) != 0)) || ((x21.2 : Int) != 0)) [(1, .int .i64 x5), (2, .pointer (some ⟨g6, 0, none⟩)), (12, .int .i64 x23.2), (68, .bool (((((x20.2 : Int) != 0) || ((x20.1 : Int) != 0)) || ((x21.2 : Int) != 0)) || ((x22.2 : Int) != 5)))] (fun h31 => ?_) (fun h31 => ?_) ?_
        · refine sxo_take (os := _) rfl ?_
          refine sxo_isT (k := 65) rfl h31 ?_
          refine sxo_skip rfl rfl rfl ?_
          refine sxo_skip rfl rfl rfl ?_
          refine sxo_pick (b := true) rfl rfl rfl rfl ?_
          refine sxo_again (d := 68) (v := .bool (((((x20.2 : Int) != 0) || ((x20.1 : Int) != 0)) || ((x21.2 : Int) != 0)) || ((x22.2 : Int) != 5))) rfl (by rw [h31]; simp only [Bool.true_or]) ?_
          refine sxo_nil ?_
          exact sxq_case (lk_cons rfl (lk_cons rfl (lk_cons rfl (lk_cons rfl lk_nil))))
        · refine sxo_take (os := _) rfl ?_
          refine sxo_isF (k := 65) rfl h31 ?_
          refine sxo_move rfl rfl rfl ?_
          refine sxo_neq rfl rfl rfl rfl ?_
          refine sxo_pick (b := false) rfl rfl rfl rfl ?_
          refine sxo_again (d := 68) (v := .bool (((((x20.2 : Int) != 0) || ((x20.1 : Int) != 0)) || ((x21.2 : Int) != 0)) || ((x22.2 : Int) != 5))) rfl (by rw [h31]; simp only [Bool.false_or]) ?_
          refine sxo_nil ?_
          exact sxq_case (lk_cons rfl (lk_cons rfl (lk_cons rfl (lk_cons rfl lk_nil))))
        refine sxo_take (os := _) rfl ?_
        refine sxo_move rfl rfl rfl ?_
        refine sxo_case 3 (((((x20.2 : Int) != 0) || ((x20.1 : Int) != 0)) || ((x21.2 : Int) != 0)) || ((x22.2 : Int) != 5)) [(1, .int .i64 x5), (2, .pointer (some ⟨g6, 0, none⟩)), (72, .bool ((((((x20.2 : Int) != 0) || ((x20.1 : Int) != 0)) || ((x21.2 : Int) != 0)) || ((x22.2 : Int) != 5)) || ((x23.2 : Int) != 5)))] (fun h32 => ?_) (fun h32 => ?_) ?_
        · refine sxo_take (os := _) rfl ?_
          refine sxo_isT (k := 69) rfl h32 ?_
          refine sxo_skip rfl rfl rfl ?_
          refine sxo_skip rfl rfl rfl ?_
          refine sxo_pick (b := true) rfl rfl rfl rfl ?_
          refine sxo_again (d := 72) (v := .bool ((((((x20.2 : Int) != 0) || ((x20.1 : Int) != 0)) || ((x21.2 : Int) != 0)) || ((x22.2 : Int) != 5)) || ((x23.2 : Int) != 5))) rfl (by rw [h32]; simp only [Bool.true_or]) ?_
          refine sxo_nil ?_
          exact sxq_case (lk_cons rfl (lk_cons rfl (lk_cons rfl lk_nil)))
        · refine sxo_take (os := _) rfl ?_
          refine sxo_isF (k := 69) rfl h32 ?_
          refine sxo_move rfl rfl rfl ?_
          refine sxo_neq rfl rfl rfl rfl ?_
          refine sxo_pick (b := false) rfl rfl rfl rfl ?_
          refine sxo_again (d := 72) (v := .bool ((((((x20.2 : Int) != 0) || ((x20.1 : Int) != 0)) || ((x21.2 : Int) != 0)) || ((x22.2 : Int) != 5)) || ((x23.2 : Int) != 5))) rfl (by rw [h32]; simp only [Bool.false_or]) ?_
          refine sxo_nil ?_
          exact sxq_case (lk_cons rfl (lk_cons rfl (lk_cons rfl lk_nil)))
        refine sxo_take (os := _) rfl ?_
        refine sxo_nil ?_
        refine sxq_next ?_
        refine sxc_if rfl (fun h43 => ?_) (fun h43 => ?_)
        · refine sxc_seq ?_
          refine sxc_region ?_
          refine sxo_assign rfl rfl rfl ?_
          refine sxo_nil ?_
          refine sxq_next ?_
          refine sxc_ret ?_
          refine sxq_thenR ?_
          exact sxq_doneP () (.inl rfl) (res1 rfl rfl) (fun h => by subst h; rfl) (fun h => by subst h; exact .nil)
        · refine sxc_skip ?_
          refine sxq_next ?_
          refine sxc_seq ?_
          refine sxc_seq ?_
          refine sxc_region ?_
          refine sxo_move rfl rfl rfl ?_
          refine sxo_lss rfl rfl rfl rfl ?_
          refine sxo_move rfl rfl rfl ?_
          refine sxo_case 5 (decide (x5 < 0)) [(1, .int .i64 x5), (2, .pointer (some ⟨g6, 0, none⟩)), (80, .bool ((decide (x5 < 0)) || (decide (x1 ≤ x5))))] (fun h35 => ?_) (fun h35 => ?_) ?_
          · refine sxo_take (os := _) rfl ?_
            refine sxo_isT (k := 75) rfl h35 ?_
            refine sxo_skip rfl rfl rfl ?_
            refine sxo_skip rfl rfl rfl ?_
            refine sxo_skip rfl rfl rfl ?_
            refine sxo_skip rfl rfl rfl ?_
            refine sxo_pick (b := true) rfl rfl rfl rfl ?_
            refine sxo_again (d := 80) (v := .bool ((decide (x5 < 0)) || (decide (x1 ≤ x5)))) rfl (by rw [h35]; simp only [Bool.true_or]) ?_
            refine sxo_nil ?_
            exact sxq_case (lk_cons rfl (lk_cons rfl (lk_cons rfl lk_nil)))
          · refine sxo_take (os := _) rfl ?_
            refine sxo_isF (k := 75) rfl h35 ?_
            refine sxo_move rfl rfl rfl ?_
            refine sxo_fieldAddr rfl rfl ff24_0 rfl ?_
            refine sxo_loadB (i := 0) rfl rfl tf3 rfl rfl (fun _ => rfl) rfl rfl ?_
            refine sxo_geq rfl rfl rfl rfl ?_
            refine sxo_pick (b := false) rfl rfl rfl rfl ?_
            refine sxo_again (d := 80) (v := .bool ((decide (x5 < 0)) || (decide (x1 ≤ x5)))) rfl (by rw [h35]; simp only [Bool.false_or]) ?_
            refine sxo_nil ?_
            exact sxq_case (lk_cons rfl (lk_cons rfl (lk_cons rfl lk_nil)))
          refine sxo_take (os := _) rfl ?_
          refine sxo_nil ?_
          refine sxq_next ?_
          refine sxc_if rfl (fun h42 => ?_) (fun h42 => ?_)
          · refine sxc_seq ?_
            refine sxc_region ?_
            refine sxo_assign rfl rfl rfl ?_
            refine sxo_nil ?_
            refine sxq_next ?_
            refine sxc_ret ?_
            refine sxq_thenR ?_
            exact sxq_doneP () (.inl rfl) (res1 rfl rfl) (fun h => by subst h; rfl) (fun h => by subst h; exact .nil)
          · refine sxc_skip ?_
            refine sxq_next ?_
            refine sxc_seq ?_
            refine sxc_region ?_
            refine sxo_loadB (i := 0) rfl rfl tf24 rfl rfl (by simp) rfl rfl ?_
            refine sxo_move rfl rfl rfl ?_
            refine sxo_call ent13 rfl rfl rfl (fun x36 e36 => C_rank_Rank F x1 x2 a3 c4 x5 x36 e36) (.consF 0 rfl .nil) (fun x36 e36 => ?_)
            intro _
            refine sxo_move rfl rfl rfl ?_
            refine sxo_extract rfl rfl rfl rfl ?_
            refine sxo_extract rfl rfl rfl rfl ?_
            refine sxo_assign rfl rfl rfl ?_
            refine sxo_assign rfl rfl rfl ?_
            refine sxo_nil ?_
            refine sxq_next ?_
            refine sxc_seq ?_
            refine sxc_region ?_
            refine sxo_loadB (i := 0) rfl rfl tf24 rfl rfl (by simp) rfl rfl ?_
            refine sxo_move rfl rfl rfl ?_
            refine sxo_add rfl rfl rfl rfl ?_
            refine sxo_call ent13 rfl rfl rfl (fun x37 e37 => C_rank_Rank F x1 x2 a3 c4 (iadd .i64 x5 1) x37 e37) (.consF 0 rfl .nil) (fun x37 e37 => ?_)
            intro _
            refine sxo_move rfl rfl rfl ?_
            refine sxo_extract rfl rfl rfl rfl ?_
            refine sxo_extract rfl rfl rfl rfl ?_
            refine sxo_assign rfl rfl rfl ?_
            refine sxo_assign rfl rfl rfl ?_
            refine sxo_nil ?_
            refine sxq_next ?_
            refine sxc_seq ?_
            refine sxc_region ?_
            refine sxo_loadB (i := 0) rfl rfl tf24 rfl rfl (by simp) rfl rfl ?_
            refine sxo_move rfl rfl rfl ?_
            refine sxo_call ent41 rfl rfl rfl (fun x38 e38 => C_bits_Get F x1 x2 a3 c4 x5 1 x38 e38) (.consF 0 rfl .nil) (fun x38 e38 => ?_)
            intro _
            refine sxo_move rfl rfl rfl ?_
            refine sxo_extract rfl rfl rfl rfl ?_
            refine sxo_extract rfl rfl rfl rfl ?_
            refine sxo_assign rfl rfl rfl ?_
            refine sxo_assign rfl rfl rfl ?_
            refine sxo_nil ?_
            refine sxq_next ?_
            refine sxc_seq ?_
            refine sxc_region ?_
            refine sxo_move rfl rfl rfl ?_
            refine sxo_eql rfl rfl rfl rfl ?_
            refine sxo_move rfl rfl rfl ?_
            refine sxo_case 3 ((x36.2 : Int) == 0) [(13, .int .i64 x36.1), (15, .int .i64 x37.1), (17, .int .u64 x38.1), (18, .int .i64 x38.2), (105, .bool (((x36.2 : Int) == 0) && ((x37.2 : Int) == 0)))] (fun h39 => ?_) (fun h39 => ?_) ?_
            · refine sxo_take (os := _) rfl ?_
              refine sxo_isT (k := 102) rfl h39 ?_
              refine sxo_move rfl rfl rfl ?_
              refine sxo_eql rfl rfl rfl rfl ?_
              refine sxo_pick (b := true) rfl rfl rfl rfl ?_
              refine sxo_again (d := 105) (v := .bool (((x36.2 : Int) == 0) && ((x37.2 : Int) == 0))) rfl (by rw [h39]; simp only [Bool.true_and]) ?_
              refine sxo_nil ?_
              exact sxq_case (lk_cons rfl (lk_cons rfl (lk_cons rfl (lk_cons rfl (lk_cons rfl lk_nil)))))
            · refine sxo_take (os := _) rfl ?_
              refine sxo_isF (k := 102) rfl h39 ?_
              refine sxo_skip rfl rfl rfl ?_
              refine sxo_skip rfl rfl rfl ?_
              refine sxo_pick (b := false) rfl rfl rfl rfl ?_
              refine sxo_again (d := 105) (v := .bool (((x36.2 : Int) == 0) && ((x37.2 : Int) == 0))) rfl (by rw [h39]; simp only [Bool.false_and]) ?_
              refine sxo_nil ?_
              exact sxq_case (lk_cons rfl (lk_cons rfl (lk_cons rfl (lk_cons rfl (lk_cons rfl lk_nil)))))
            refine sxo_take (os := _) rfl ?_
            refine sxo_move rfl rfl rfl ?_
            refine sxo_case 3 (((x36.2 : Int) == 0) && ((x37.2 : Int) == 0)) [(13, .int .i64 x36.1), (15, .int .i64 x37.1), (17, .int .u64 x38.1), (109, .bool ((((x36.2 : Int) == 0) && ((x37.2 : Int) == 0)) && ((x38.2 : Int) == 0)))] (fun h40 => ?_) (fun h40 => ?_) ?_
            · refine sxo_take (os := _) rfl ?_
              refine sxo_isT (k := 106) rfl h40 ?_
              refine sxo_move rfl rfl rfl ?_
              refine sxo_eql rfl rfl rfl rfl ?_
              refine sxo_pick (b := true) rfl rfl rfl rfl ?_
              refine sxo_again (d := 109) (v := .bool ((((x36.2 : Int) == 0) && ((x37.2 : Int) == 0)) && ((x38.2 : Int) == 0))) rfl (by rw [h40]; simp only [Bool.true_and]) ?_
              refine sxo_nil ?_
              exact sxq_case (lk_cons rfl (lk_cons rfl (lk_cons rfl (lk_cons rfl lk_nil))))
            · refine sxo_take (os := _) rfl ?_
              refine sxo_isF (k := 106) rfl h40 ?_
              refine sxo_skip rfl rfl rfl ?_
              refine sxo_skip rfl rfl rfl ?_
              refine sxo_pick (b := false) rfl rfl rfl rfl ?_
              refine sxo_again (d := 109) (v := .bool ((((x36.2 : Int) == 0) && ((x37.2 : Int) == 0)) && ((x38.2 : Int) == 0))) rfl (by rw [h40]; simp only [Bool.false_and]) ?_
              refine sxo_nil ?_
              exact sxq_case (lk_cons rfl (lk_cons rfl (lk_cons rfl (lk_cons rfl lk_nil))))
            refine sxo_take (os := _) rfl ?_
            refine sxo_move rfl rfl rfl ?_
            refine sxo_case 7 ((((x36.2 : Int) == 0) && ((x37.2 : Int) == 0)) && ((x38.2 : Int) == 0)) [(117, .bool (((((x36.2 : Int) == 0) && ((x37.2 : Int) == 0)) && ((x38.2 : Int) == 0)) && ((x37.1 : Int) == (iadd .i64 x36.1 (iconv .i64 x38.1)))))] (fun h41 => ?_) (fun h41 => ?_) ?_
            · refine sxo_take (os := _) rfl ?_
              refine sxo_isT (k := 110) rfl h41 ?_
              refine sxo_move rfl rfl rfl ?_
              refine sxo_move rfl rfl rfl ?_
              refine sxo_move rfl rfl rfl ?_
              refine sxo_conv rfl Try.underlying45 Try.underlying3 rfl rfl ?_
              refine sxo_add rfl rfl rfl rfl ?_
              refine sxo_eql rfl rfl rfl rfl ?_
              refine sxo_pick (b := true) rfl rfl rfl rfl ?_
              refine sxo_again (d := 117) (v := .bool (((((x36.2 : Int) == 0) && ((x37.2 : Int) == 0)) && ((x38.2 : Int) == 0)) && ((x37.1 : Int) == (iadd .i64 x36.1 (iconv .i64 x38.1))))) rfl (by rw [h41]; simp only [Bool.true_and]) ?_
              refine sxo_nil ?_
              exact sxq_case (lk_cons rfl lk_nil)
            · refine sxo_take (os := _) rfl ?_
              refine sxo_isF (k := 110) rfl h41 ?_
              refine sxo_skip rfl rfl rfl ?_
              refine sxo_skip rfl rfl rfl ?_
              refine sxo_skip rfl rfl rfl ?_
              refine sxo_skip rfl rfl rfl ?_
              refine sxo_skip rfl rfl rfl ?_
              refine sxo_skip rfl rfl rfl ?_
              refine sxo_pick (b := false) rfl rfl rfl rfl ?_
              refine sxo_again (d := 117) (v := .bool (((((x36.2 : Int) == 0) && ((x37.2 : Int) == 0)) && ((x38.2 : Int) == 0)) && ((x37.1 : Int) == (iadd .i64 x36.1 (iconv .i64 x38.1))))) rfl (by rw [h41]; simp only [Bool.false_and]) ?_
              refine sxo_nil ?_
              exact sxq_case (lk_cons rfl lk_nil)
            refine sxo_take (os := _) rfl ?_
            refine sxo_assign rfl rfl rfl ?_
            refine sxo_nil ?_
            refine sxq_next ?_
            refine sxc_ret ?_
            exact sxq_doneP () (.inl rfl) (res1 rfl rfl) (fun h => by subst h; rfl) (fun h => by subst h; exact .nil)
end Go.Proofs.Ytbdfbheddihefaa
