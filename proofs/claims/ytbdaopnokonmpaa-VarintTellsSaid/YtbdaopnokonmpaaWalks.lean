/- Each Go function of this seat computes what its model says. -/
import Derived.Test.YtbdaopnokonmpaaRows
import Derived.Test.YtbdaopnokonmpaaModels
namespace Go.Proofs.Ytbdaopnokonmpaa
open Go SX
theorem tf5 : TyF Try.prog 5 false (.int .u8 0) 1 1 := .of (by kernel_rfl) (by kernel_rfl)
theorem tf22 : TyF Try.prog 22 false (.slice none 0 0) 1 24 := .of (by kernel_rfl) (by kernel_rfl)
theorem tf23 : TyF Try.prog 23 false (.slice none 0 0) 1 24 := .of (by kernel_rfl) (by kernel_rfl)
theorem tf24 : TyF Try.prog 24 false (.int .i64 0) 1 8 := .of (by kernel_rfl) (by kernel_rfl)
theorem tf27 : TyF Try.prog 27 false (.int .u64 0) 1 8 := .of (by kernel_rfl) (by kernel_rfl)
theorem mixed : Try.prog.follows .mixedOrders = true := by kernel_rfl
theorem ent9 : Enters Try.prog 9 := enters_of Try.func9 rfl rfl
theorem ent10 : Enters Try.prog 10 := enters_of Try.func10 rfl rfl
theorem ent11 : Enters Try.prog 11 := enters_of Try.func11 rfl rfl
theorem ent12 : Enters Try.prog 12 := enters_of Try.func12 rfl rfl
theorem ent13 : Enters Try.prog 13 := enters_of Try.func13 rfl rfl
theorem ent14 : Enters Try.prog 14 := enters_of Try.func14 rfl rfl
theorem ent15 : Enters Try.prog 15 := enters_of Try.func15 rfl rfl
theorem ent16 : Enters Try.prog 16 := enters_of Try.func16 rfl rfl
theorem ent17 : Enters Try.prog 17 := enters_of Try.func17 rfl rfl
theorem ent18 : Enters Try.prog 18 := enters_of Try.func18 rfl rfl
theorem ent19 : Enters Try.prog 19 := enters_of Try.func19 rfl rfl
theorem ent20 : Enters Try.prog 20 := enters_of Try.func20 rfl rfl
theorem ent21 : Enters Try.prog 21 := enters_of Try.func21 rfl rfl
theorem ent22 : Enters Try.prog 22 := enters_of Try.func22 rfl rfl
theorem ent23 : Enters Try.prog 23 := enters_of Try.func23 rfl rfl
theorem ent24 : Enters Try.prog 24 := enters_of Try.func24 rfl rfl
theorem ent25 : Enters Try.prog 25 := enters_of Try.func25 rfl rfl

theorem C_varint_Add (F : Nat) (x1 : List Int) (a2 : Option Addr) (c3 : Nat) (x4 : Int) (r : List Int) (hm : M_varint_Add F x1 x4 = some r) :
    PureM Try.prog 22 [.slice a2 x1.length c3, .int .u64 x4] [] [Ro (eI .u8) 5 1 (.slice a2 x1.length c3) x1] [] (Option Addr × Nat) (fun g => .slice g.1 r.length g.2) (fun _ => []) (fun g => [Ro (eI .u8) 5 1 (.slice g.1 r.length g.2) r]) := by
  refine pureM_of Try.func22 rfl Try.ntmps22 rfl hm (fun w => ?_)
  refine sxc_env (l' := [(0, .slice a2 x1.length c3), (1, .int .u64 x4)]) rfl ?_
  refine sxc_seq ?_
  refine sxc_region ?_
  refine sxo_assign rfl rfl rfl ?_
  refine sxo_nil ?_
  refine sxq_next ?_
  refine sxc_join (fun (((x48, x49), (a46, c47)) : ((List Int × Int) × (Option Addr × Nat))) => [(0, .slice a46 x48.length c47), (1, .int .u64 x49)]) (fun (((x48, x49), (a46, c47)) : ((List Int × Int) × (Option Addr × Nat))) => []) (fun (((x48, x49), (a46, c47)) : ((List Int × Int) × (Option Addr × Nat))) => [Ro (eI .u8) 5 1 (.slice a46 x48.length c47) x48]) (fun (((x48, x49), (a46, c47)) : ((List Int × Int) × (Option Addr × Nat))) => []) (fun (((x48, x49), _) : ((List Int × Int) × (Option Addr × Nat))) => M_varint_Add_j2 F x48 x49) ?_ ?_
  · refine sxc_block ?_
    refine sxc_loopP (fun (((x69, x70), (a67, c68)) : ((List Int × Int) × (Option Addr × Nat))) => [(0, .slice a67 x69.length c68), (1, .int .u64 x70)]) (fun (((x69, x70), (a67, c68)) : ((List Int × Int) × (Option Addr × Nat))) => []) (fun (((x69, x70), (a67, c68)) : ((List Int × Int) × (Option Addr × Nat))) => [Ro (eI .u8) 5 1 (.slice a67 x69.length c68) x69]) (fun (((x69, x70), (a67, c68)) : ((List Int × Int) × (Option Addr × Nat))) => []) (fun k (s : ((List Int × Int) × (Option Addr × Nat))) => M_varint_Add_l3 F k s.1) ((x1, x4), (a2, c3)) F (lk_cons rfl (lk_cons rfl lk_nil)) .nil (.cons 0 rfl .nil) fk_nil (fun _ => rfl) ?_
    intro k83
    rintro ⟨⟨x69, x70⟩, ⟨a67, c68⟩⟩
    try dsimp only
    refine sxc_meq (m' := M_varint_Add_b3 F (M_varint_Add_l3 F k83) x69 x70) rfl ?_
    refine sxc_seq ?_
    refine sxc_seq ?_
    refine sxc_region ?_
    refine sxo_move rfl rfl rfl ?_
    refine sxo_geq rfl rfl rfl rfl ?_
    refine sxo_nil ?_
    refine sxq_next ?_
    refine sxc_if rfl (fun h95 => ?_) (fun h95 => ?_)
    · refine sxc_skip ?_
      refine sxq_next ?_
      refine sxc_seq ?_
      refine sxc_block ?_
      refine sxc_region ?_
      refine sxo_move rfl rfl rfl ?_
      refine sxo_move rfl rfl rfl ?_
      refine sxo_conv rfl Try.underlying27 Try.underlying5 rfl rfl ?_
      refine sxo_or rfl rfl rfl rfl ?_
      refine sxo_slit (vs := [.int .u8 (ior .u8 (iconv .u8 x70) 128)]) (ys := ([ior .u8 (iconv .u8 x70) 128] : List Int)) (eI_ok .u8) (by decide) rfl Try.underlying23 tf5 rfl rfl rfl rfl rfl (by decide) (fun a90 c91 => ?_)
      refine sxo_app 1 (eI_ok .u8) rfl Try.underlying23 tf5 rfl rfl rfl rfl rfl (.inl ⟨0, _, rfl⟩) rfl rfl (fun x92 e92 a93 c94 => ?_)
      refine sxo_assign rfl rfl rfl ?_
      refine sxo_nil ?_
      refine sxq_blkN ?_
      refine sxq_next ?_
      refine sxc_region ?_
      refine sxo_move rfl rfl rfl ?_
      refine sxo_shr rfl rfl rfl rfl rfl ?_
      refine sxo_assign rfl rfl rfl ?_
      refine sxo_nil ?_
      exact sxq_againP ((x92, ishr .u64 x70 7), (a93, c94)) (lk_cons rfl (lk_cons rfl lk_nil)) .nil (.cons 0 rfl .nil) fk_nil
    · refine sxc_exit ?_
      refine sxq_thenX ?_
      refine sxq_thenX ?_
      refine sxq_blkX ?_
      exact sxq_meetP ((x69, x70), (a67, c68)) (lk_cons rfl (lk_cons rfl lk_nil)) .nil (.cons 0 rfl .nil) fk_nil
  · rintro ⟨⟨x48, x49⟩, ⟨a46, c47⟩⟩
    try dsimp only
    refine sxc_seq ?_
    refine sxc_region ?_
    refine sxo_move rfl rfl rfl ?_
    refine sxo_move rfl rfl rfl ?_
    refine sxo_conv rfl Try.underlying27 Try.underlying5 rfl rfl ?_
    refine sxo_slit (vs := [.int .u8 (iconv .u8 x49)]) (ys := ([iconv .u8 x49] : List Int)) (eI_ok .u8) (by decide) rfl Try.underlying23 tf5 rfl rfl rfl rfl rfl (by decide) (fun a50 c51 => ?_)
    refine sxo_app 1 (eI_ok .u8) rfl Try.underlying23 tf5 rfl rfl rfl rfl rfl (.inl ⟨0, _, rfl⟩) rfl rfl (fun x52 e52 a53 c54 => ?_)
    refine sxo_assign rfl rfl rfl ?_
    refine sxo_nil ?_
    refine sxq_next ?_
    refine sxc_ret ?_
    exact sxq_doneM (a53, c54) (.inl rfl) (res1 rfl rfl) (fun h => by subst h; rfl) (fun h => by subst h; exact .nil) (fun h => by subst h; exact (.cons 0 rfl .nil))

theorem C_varint_Write (F : Nat) (x1 : List Int) (a2 : Option Addr) (c3 : Nat) (r : (List Int × Int)) (hm : M_varint_Write F x1 = some r) :
    Pure Try.prog 9 [.slice a2 x1.length c3] [Sl (eI .u64) 1 (.slice a2 x1.length c3) x1] (Option Addr × Nat) (fun g => .tuple #[.slice g.1 r.1.length g.2, .int .i64 r.2]) (fun g => [Ro (eI .u8) 5 1 (.slice g.1 r.1.length g.2) r.1]) (fun _ => []) := by
  refine pure_of Try.func9 rfl Try.ntmps9 rfl hm (fun w => ?_)
  refine sxc_env (l' := [(0, .slice a2 x1.length c3)]) rfl ?_
  refine sxc_seq ?_
  refine sxc_region ?_
  refine sxo_assign rfl rfl rfl ?_
  refine sxo_assign rfl rfl rfl ?_
  refine sxo_nil ?_
  refine sxq_next ?_
  refine sxc_seq ?_
  refine sxc_region ?_
  refine sxo_assign rfl rfl rfl ?_
  refine sxo_nil ?_
  refine sxq_next ?_
  refine sxc_join (fun ((x59, (a57, c58)) : (List Int × (Option Addr × Nat))) => [(4, .slice a57 x59.length c58)]) (fun ((x59, (a57, c58)) : (List Int × (Option Addr × Nat))) => []) (fun ((x59, (a57, c58)) : (List Int × (Option Addr × Nat))) => [Ro (eI .u8) 5 1 (.slice a57 x59.length c58) x59]) (fun ((x59, (a57, c58)) : (List Int × (Option Addr × Nat))) => []) (fun ((x59, _) : (List Int × (Option Addr × Nat))) => M_varint_Write_j2 F x59) ?_ ?_
  · refine sxc_seq ?_
    refine sxc_region ?_
    refine sxo_move rfl rfl rfl ?_
    refine sxo_len rfl Try.underlying22 rfl rfl ?_
    refine sxo_move rfl rfl rfl ?_
    refine sxo_nil ?_
    refine sxq_next ?_
    refine sxc_block ?_
    refine sxc_nilrow Int (eI .u8) 5 1 ?_
    refine sxc_loopP (fun (((x78, x79), (a76, c77)) : ((List Int × Int) × (Option Addr × Nat))) => [(4, .slice a76 x78.length c77), (7, .slice a2 x1.length c3), (8, .int .i64 (x1.length : Int)), (9, .int .i64 x79)]) (fun (((x78, x79), (a76, c77)) : ((List Int × Int) × (Option Addr × Nat))) => []) (fun (((x78, x79), (a76, c77)) : ((List Int × Int) × (Option Addr × Nat))) => [Ro (eI .u8) 5 1 (.slice a76 x78.length c77) x78]) (fun (((x78, x79), (a76, c77)) : ((List Int × Int) × (Option Addr × Nat))) => [Sl (eI .u64) 1 (.slice a2 x1.length c3) x1]) (fun k (s : ((List Int × Int) × (Option Addr × Nat))) => M_varint_Write_l3 F x1 k s.1) ((([] : List Int), 0), (none, 0)) F (lk_cons rfl (lk_cons rfl (lk_cons rfl (lk_cons rfl lk_nil)))) .nil (.cons 0 rfl .nil) (fk_cons 0 rfl fk_nil) (fun _ => rfl) ?_
    intro k96
    rintro ⟨⟨x78, x79⟩, ⟨a76, c77⟩⟩
    try dsimp only
    refine sxc_meq (m' := M_varint_Write_b3 F x1 (M_varint_Write_l3 F x1 k96) x78 x79) rfl ?_
    refine sxc_seq ?_
    refine sxc_region ?_
    refine sxo_lss rfl rfl rfl rfl ?_
    refine sxo_nil ?_
    refine sxq_next ?_
    refine sxc_seq ?_
    refine sxc_if rfl (fun h112 => ?_) (fun h112 => ?_)
    · refine sxc_skip ?_
      refine sxq_next ?_
      refine sxc_seq ?_
      refine sxc_block ?_
      refine sxc_seq ?_
      refine sxc_region ?_
      refine sxo_indexF (j := 0) (eI_ok .u64) (by decide) rfl Try.underlying22 tf27 rfl rfl rfl rfl (fun x105 e105 b106 o107 => ?_)
      refine sxo_loadF (j := 0) rfl rfl tf27 rfl rfl (fun _ => rfl) rfl rfl ?_
      refine sxo_assign rfl rfl rfl ?_
      refine sxo_nil ?_
      refine sxq_next ?_
      refine sxc_seq ?_
      refine sxc_region ?_
      refine sxo_move rfl rfl rfl ?_
      refine sxo_move rfl rfl rfl ?_
      refine sxo_callM ent22 rfl rfl rfl (fun x108 e108 => C_varint_Add F x78 a76 c77 x105 x108 e108) .nil (.cons 0 rfl .nil) .nil (fun x108 e108 => ?_)
      rintro ⟨a109, c110⟩
      refine sxo_assign rfl rfl rfl ?_
      refine sxo_nil ?_
      refine sxq_next ?_
      refine sxc_seq ?_
      refine sxc_region ?_
      refine sxo_move rfl rfl rfl ?_
      refine sxo_len rfl Try.underlying23 rfl rfl ?_
      refine sxo_gtr rfl rfl rfl rfl ?_
      refine sxo_nil ?_
      refine sxq_next ?_
      refine sxc_if rfl (fun h111 => ?_) (fun h111 => ?_)
      · refine sxc_seq ?_
        refine sxc_region ?_
        refine sxo_assign rfl rfl rfl ?_
        refine sxo_assign rfl rfl rfl ?_
        refine sxo_nil ?_
        refine sxq_next ?_
        refine sxc_ret ?_
        refine sxq_blkR ?_
        refine sxq_thenR ?_
        refine sxq_thenR ?_
        refine sxq_blkR ?_
        refine sxq_thenR ?_
        refine sxq_nilrow Int (eI .u8) 5 1 ?_
        exact sxq_doneP (none, 0) (.inl rfl) (res2 rfl rfl rfl) (fun h => by subst h; rfl) (fun h => by subst h; exact (.cons 0 rfl .nil))
      · refine sxc_skip ?_
        refine sxq_blkN ?_
        refine sxq_next ?_
        refine sxc_region ?_
        refine sxo_add rfl rfl rfl rfl ?_
        refine sxo_move rfl rfl rfl ?_
        refine sxo_nil ?_
        exact sxq_againP ((x108, iadd .i64 x79 1), (a109, c110)) (lk_cons rfl (lk_cons rfl (lk_cons rfl (lk_cons rfl lk_nil)))) .nil (.cons 0 rfl .nil) (fk_cons 1 rfl fk_nil)
    · refine sxc_exit ?_
      refine sxq_thenX ?_
      refine sxq_thenX ?_
      refine sxq_blkX ?_
      exact sxq_meetP (x78, (a76, c77)) (lk_cons rfl lk_nil) .nil (.cons 0 rfl .nil) fk_nil
  · rintro ⟨x59, ⟨a57, c58⟩⟩
    try dsimp only
    refine sxc_seq ?_
    refine sxc_region ?_
    refine sxo_move rfl rfl rfl ?_
    refine sxo_assign rfl rfl rfl ?_
    refine sxo_assign rfl rfl rfl ?_
    refine sxo_nil ?_
    refine sxq_next ?_
    refine sxc_ret ?_
    exact sxq_doneP (a57, c58) (.inl rfl) (res2 rfl rfl rfl) (fun h => by subst h; rfl) (fun h => by subst h; exact (.cons 0 rfl .nil))

theorem C_varint_From (F : Nat) (x1 : List Int) (a2 : Option Addr) (c3 : Nat) (x4 : Int) (r : (Int × Int × Int)) (hm : M_varint_From F x1 x4 = some r) :
    Pure Try.prog 23 [.slice a2 x1.length c3, .int .i64 x4] [Sl (eI .u8) 1 (.slice a2 x1.length c3) x1] Unit (fun _ => .tuple #[.int .u64 r.1, .int .i64 r.2.1, .int .i64 r.2.2]) (fun _ => []) (fun _ => []) := by
  refine pure_of Try.func23 rfl Try.ntmps23 rfl hm (fun w => ?_)
  refine sxc_env (l' := [(0, .slice a2 x1.length c3), (1, .int .i64 x4)]) rfl ?_
  refine sxc_seq ?_
  refine sxc_region ?_
  refine sxo_assign rfl rfl rfl ?_
  refine sxo_assign rfl rfl rfl ?_
  refine sxo_assign rfl rfl rfl ?_
  refine sxo_nil ?_
  refine sxq_next ?_
  refine sxc_seq ?_
  refine sxc_region ?_
  refine sxo_assign rfl rfl rfl ?_
  refine sxo_nil ?_
  refine sxq_next ?_
  refine sxc_block ?_
  refine sxc_loopP (fun (((x37, x38), _) : ((Int × Int) × Unit)) => [(0, .slice a2 x1.length c3), (1, .int .i64 x4), (4, .int .u64 x37), (7, .int .i64 x38)]) (fun (((x37, x38), _) : ((Int × Int) × Unit)) => []) (fun (((x37, x38), _) : ((Int × Int) × Unit)) => []) (fun (((x37, x38), _) : ((Int × Int) × Unit)) => [Sl (eI .u8) 1 (.slice a2 x1.length c3) x1]) (fun k (s : ((Int × Int) × Unit)) => M_varint_From_l1 F x1 x4 k s.1) ((0, 0), ()) F (lk_cons rfl (lk_cons rfl (lk_cons rfl (lk_cons rfl lk_nil)))) .nil .nil (fk_cons 0 rfl fk_nil) (fun _ => rfl) ?_
  intro k71
  rintro ⟨⟨x37, x38⟩, _⟩
  try dsimp only
  refine sxc_meq (m' := M_varint_From_b1 F x1 x4 (M_varint_From_l1 F x1 x4 k71) x37 x38) rfl ?_
  refine sxc_seq ?_
  refine sxc_block ?_
  refine sxc_seq ?_
  refine sxc_seq ?_
  refine sxc_region ?_
  refine sxo_move rfl rfl rfl ?_
  refine sxo_move rfl rfl rfl ?_
  refine sxo_add rfl rfl rfl rfl ?_
  refine sxo_move rfl rfl rfl ?_
  refine sxo_len rfl Try.underlying23 rfl rfl ?_
  refine sxo_geq rfl rfl rfl rfl ?_
  refine sxo_nil ?_
  refine sxq_next ?_
  refine sxc_if rfl (fun h103 => ?_) (fun h103 => ?_)
  · refine sxc_seq ?_
    refine sxc_region ?_
    refine sxo_assign rfl rfl rfl ?_
    refine sxo_assign rfl rfl rfl ?_
    refine sxo_assign rfl rfl rfl ?_
    refine sxo_nil ?_
    refine sxq_next ?_
    refine sxc_ret ?_
    refine sxq_thenR ?_
    refine sxq_blkR ?_
    refine sxq_thenR ?_
    refine sxq_thenR ?_
    refine sxq_blkR ?_
    exact sxq_doneP () (.inl rfl) (res3 rfl rfl rfl rfl) (fun h => by subst h; rfl) (fun h => by subst h; exact .nil)
  · refine sxc_skip ?_
    refine sxq_next ?_
    refine sxc_seq ?_
    refine sxc_region ?_
    refine sxo_move rfl rfl rfl ?_
    refine sxo_move rfl rfl rfl ?_
    refine sxo_move rfl rfl rfl ?_
    refine sxo_add rfl rfl rfl rfl ?_
    refine sxo_indexF (j := 0) (eI_ok .u8) (by decide) rfl Try.underlying23 tf5 rfl rfl rfl rfl (fun x89 e89 b90 o91 => ?_)
    refine sxo_loadF (j := 0) rfl rfl tf5 rfl rfl (fun _ => rfl) rfl rfl ?_
    refine sxo_assign rfl rfl rfl ?_
    refine sxo_nil ?_
    refine sxq_next ?_
    refine sxc_seq ?_
    refine sxc_block ?_
    refine sxc_seq ?_
    refine sxc_region ?_
    refine sxo_move rfl rfl rfl ?_
    refine sxo_eql rfl rfl rfl rfl ?_
    refine sxo_move rfl rfl rfl ?_
    refine sxo_case 3 ((x38 : Int) == 9) [(0, .slice a2 x1.length c3), (1, .int .i64 x4), (4, .int .u64 x37), (7, .int .i64 x38), (8, .int .u8 x89), (29, .bool (((x38 : Int) == 9) && (decide (1 < x89))))] (fun h96 => ?_) (fun h96 => ?_) ?_
    · refine sxo_take (os := _) rfl ?_
      refine sxo_isT (k := 26) rfl h96 ?_
      refine sxo_move rfl rfl rfl ?_
      refine sxo_gtr rfl rfl rfl rfl ?_
      refine sxo_pick (b := true) rfl rfl rfl rfl ?_
      refine sxo_again (d := 29) (v := .bool (((x38 : Int) == 9) && (decide (1 < x89)))) rfl (by rw [h96]; simp only [Bool.true_and]) ?_
      refine sxo_nil ?_
      exact sxq_case (lk_cons rfl (lk_cons rfl (lk_cons rfl (lk_cons rfl (lk_cons rfl (lk_cons rfl lk_nil))))))
    · refine sxo_take (os := _) rfl ?_
      refine sxo_isF (k := 26) rfl h96 ?_
      refine sxo_skip rfl rfl rfl ?_
      refine sxo_skip rfl rfl rfl ?_
      refine sxo_pick (b := false) rfl rfl rfl rfl ?_
      refine sxo_again (d := 29) (v := .bool (((x38 : Int) == 9) && (decide (1 < x89)))) rfl (by rw [h96]; simp only [Bool.false_and]) ?_
      refine sxo_nil ?_
      exact sxq_case (lk_cons rfl (lk_cons rfl (lk_cons rfl (lk_cons rfl (lk_cons rfl (lk_cons rfl lk_nil))))))
    refine sxo_take (os := _) rfl ?_
    refine sxo_assign rfl rfl rfl ?_
    refine sxo_nil ?_
    refine sxq_next ?_
    refine sxc_if rfl (fun h102 => ?_) (fun h102 => ?_)
    · refine sxc_seq ?_
      refine sxc_region ?_
      refine sxo_assign rfl rfl rfl ?_
      refine sxo_assign rfl rfl rfl ?_
      refine sxo_assign rfl rfl rfl ?_
      refine sxo_nil ?_
      refine sxq_next ?_
      refine sxc_ret ?_
      refine sxq_blkR ?_
      refine sxq_thenR ?_
      refine sxq_blkR ?_
      refine sxq_thenR ?_
      refine sxq_thenR ?_
      refine sxq_blkR ?_
      exact sxq_doneP () (.inl rfl) (res3 rfl rfl rfl rfl) (fun h => by subst h; rfl) (fun h => by subst h; exact .nil)
    · refine sxc_seq ?_
      refine sxc_region ?_
      refine sxo_move rfl rfl rfl ?_
      refine sxo_gtr rfl rfl rfl rfl ?_
      refine sxo_move rfl rfl rfl ?_
      refine sxo_case 3 (decide (0 < x38)) [(0, .slice a2 x1.length c3), (1, .int .i64 x4), (4, .int .u64 x37), (7, .int .i64 x38), (8, .int .u8 x89), (36, .bool ((decide (0 < x38)) && ((x89 : Int) == 0)))] (fun h97 => ?_) (fun h97 => ?_) ?_
      · refine sxo_take (os := _) rfl ?_
        refine sxo_isT (k := 33) rfl h97 ?_
        refine sxo_move rfl rfl rfl ?_
        refine sxo_eql rfl rfl rfl rfl ?_
        refine sxo_pick (b := true) rfl rfl rfl rfl ?_
        refine sxo_again (d := 36) (v := .bool ((decide (0 < x38)) && ((x89 : Int) == 0))) rfl (by rw [h97]; simp only [Bool.true_and]) ?_
        refine sxo_nil ?_
        exact sxq_case (lk_cons rfl (lk_cons rfl (lk_cons rfl (lk_cons rfl (lk_cons rfl (lk_cons rfl lk_nil))))))
      · refine sxo_take (os := _) rfl ?_
        refine sxo_isF (k := 33) rfl h97 ?_
        refine sxo_skip rfl rfl rfl ?_
        refine sxo_skip rfl rfl rfl ?_
        refine sxo_pick (b := false) rfl rfl rfl rfl ?_
        refine sxo_again (d := 36) (v := .bool ((decide (0 < x38)) && ((x89 : Int) == 0))) rfl (by rw [h97]; simp only [Bool.false_and]) ?_
        refine sxo_nil ?_
        exact sxq_case (lk_cons rfl (lk_cons rfl (lk_cons rfl (lk_cons rfl (lk_cons rfl (lk_cons rfl lk_nil))))))
      refine sxo_take (os := _) rfl ?_
      refine sxo_assign rfl rfl rfl ?_
      refine sxo_nil ?_
      refine sxq_next ?_
      refine sxc_if rfl (fun h101 => ?_) (fun h101 => ?_)
      · refine sxc_seq ?_
        refine sxc_region ?_
        refine sxo_assign rfl rfl rfl ?_
        refine sxo_assign rfl rfl rfl ?_
        refine sxo_assign rfl rfl rfl ?_
        refine sxo_nil ?_
        refine sxq_next ?_
        refine sxc_ret ?_
        refine sxq_blkR ?_
        refine sxq_thenR ?_
        refine sxq_blkR ?_
        refine sxq_thenR ?_
        refine sxq_thenR ?_
        refine sxq_blkR ?_
        exact sxq_doneP () (.inl rfl) (res3 rfl rfl rfl rfl) (fun h => by subst h; rfl) (fun h => by subst h; exact .nil)
      · refine sxc_skip ?_
        refine sxq_blkN ?_
        refine sxq_next ?_
        refine sxc_seq ?_
        refine sxc_region ?_
        refine sxo_move rfl rfl rfl ?_
        refine sxo_move rfl rfl rfl ?_
        refine sxo_and rfl rfl rfl rfl ?_
        refine sxo_conv rfl Try.underlying5 Try.underlying27 rfl rfl ?_
        refine sxo_move rfl rfl rfl ?_
        refine sxo_mul rfl rfl rfl rfl ?_
        refine sxo_chk (fun h98 => ?_)
        refine sxo_shl rfl rfl rfl rfl h98 ?_
        refine sxo_or rfl rfl rfl rfl ?_
        refine sxo_assign rfl rfl rfl ?_
        refine sxo_lett (fun x99 e99 => ?_)
        refine sxo_again (d := 4) (v := .int .u64 x99) rfl (by rw [e99]) ?_
        refine sxo_nil ?_
        refine sxq_next ?_
        refine sxc_seq ?_
        refine sxc_region ?_
        refine sxo_move rfl rfl rfl ?_
        refine sxo_lss rfl rfl rfl rfl ?_
        refine sxo_nil ?_
        refine sxq_next ?_
        refine sxc_if rfl (fun h100 => ?_) (fun h100 => ?_)
        · refine sxc_seq ?_
          refine sxc_region ?_
          refine sxo_move rfl rfl rfl ?_
          refine sxo_move rfl rfl rfl ?_
          refine sxo_move rfl rfl rfl ?_
          refine sxo_add rfl rfl rfl rfl ?_
          refine sxo_add rfl rfl rfl rfl ?_
          refine sxo_assign rfl rfl rfl ?_
          refine sxo_assign rfl rfl rfl ?_
          refine sxo_assign rfl rfl rfl ?_
          refine sxo_nil ?_
          refine sxq_next ?_
          refine sxc_ret ?_
          refine sxq_blkR ?_
          refine sxq_thenR ?_
          refine sxq_thenR ?_
          refine sxq_blkR ?_
          exact sxq_doneP () (.inl rfl) (res3 rfl rfl rfl rfl) (fun h => by subst h; rfl) (fun h => by subst h; exact .nil)
        · refine sxc_skip ?_
          refine sxq_blkN ?_
          refine sxq_next ?_
          refine sxc_region ?_
          refine sxo_move rfl rfl rfl ?_
          refine sxo_add rfl rfl rfl rfl ?_
          refine sxo_assign rfl rfl rfl ?_
          refine sxo_nil ?_
          exact sxq_againP ((x99, iadd .i64 x38 1), ()) (lk_cons rfl (lk_cons rfl (lk_cons rfl (lk_cons rfl lk_nil)))) .nil .nil (fk_cons 1 rfl fk_nil)

theorem C_varint_Read (F : Nat) (x1 : List Int) (a2 : Option Addr) (c3 : Nat) (x4 : Int) (r : (Int × Int × Int)) (hm : M_varint_Read F x1 x4 = some r) :
    Pure Try.prog 10 [.slice a2 x1.length c3, .int .i64 x4] [Sl (eI .u8) 1 (.slice a2 x1.length c3) x1] Unit (fun _ => .tuple #[.int .u64 r.1, .int .i64 r.2.1, .int .i64 r.2.2]) (fun _ => []) (fun _ => []) := by
  refine pure_of Try.func10 rfl Try.ntmps10 rfl hm (fun w => ?_)
  refine sxc_env (l' := [(0, .slice a2 x1.length c3), (1, .int .i64 x4)]) rfl ?_
  refine sxc_seq ?_
  refine sxc_region ?_
  refine sxo_assign rfl rfl rfl ?_
  refine sxo_assign rfl rfl rfl ?_
  refine sxo_assign rfl rfl rfl ?_
  refine sxo_nil ?_
  refine sxq_next ?_
  refine sxc_seq ?_
  refine sxc_block ?_
  refine sxc_seq ?_
  refine sxc_region ?_
  refine sxo_move rfl rfl rfl ?_
  refine sxo_len rfl Try.underlying23 rfl rfl ?_
  refine sxo_gtr rfl rfl rfl rfl ?_
  refine sxo_assign rfl rfl rfl ?_
  refine sxo_nil ?_
  refine sxq_next ?_
  refine sxc_if rfl (fun h11 => ?_) (fun h11 => ?_)
  · refine sxc_seq ?_
    refine sxc_region ?_
    refine sxo_assign rfl rfl rfl ?_
    refine sxo_assign rfl rfl rfl ?_
    refine sxo_assign rfl rfl rfl ?_
    refine sxo_nil ?_
    refine sxq_next ?_
    refine sxc_ret ?_
    refine sxq_blkR ?_
    refine sxq_thenR ?_
    exact sxq_doneP () (.inl rfl) (res3 rfl rfl rfl rfl) (fun h => by subst h; rfl) (fun h => by subst h; exact .nil)
  · refine sxc_seq ?_
    refine sxc_region ?_
    refine sxo_move rfl rfl rfl ?_
    refine sxo_lss rfl rfl rfl rfl ?_
    refine sxo_move rfl rfl rfl ?_
    refine sxo_case 5 (decide (x4 < 0)) [(0, .slice a2 x1.length c3), (1, .int .i64 x4), (19, .bool ((decide (x4 < 0)) || (decide ((x1.length : Int) < x4))))] (fun h8 => ?_) (fun h8 => ?_) ?_
    · refine sxo_take (os := _) rfl ?_
      refine sxo_isT (k := 14) rfl h8 ?_
      refine sxo_skip rfl rfl rfl ?_
      refine sxo_skip rfl rfl rfl ?_
      refine sxo_skip rfl rfl rfl ?_
      refine sxo_skip rfl rfl rfl ?_
      refine sxo_pick (b := true) rfl rfl rfl rfl ?_
      refine sxo_again (d := 19) (v := .bool ((decide (x4 < 0)) || (decide ((x1.length : Int) < x4)))) rfl (by rw [h8]; simp only [Bool.true_or]) ?_
      refine sxo_nil ?_
      exact sxq_case (lk_cons rfl (lk_cons rfl (lk_cons rfl lk_nil)))
    · refine sxo_take (os := _) rfl ?_
      refine sxo_isF (k := 14) rfl h8 ?_
      refine sxo_move rfl rfl rfl ?_
      refine sxo_move rfl rfl rfl ?_
      refine sxo_len rfl Try.underlying23 rfl rfl ?_
      refine sxo_gtr rfl rfl rfl rfl ?_
      refine sxo_pick (b := false) rfl rfl rfl rfl ?_
      refine sxo_again (d := 19) (v := .bool ((decide (x4 < 0)) || (decide ((x1.length : Int) < x4)))) rfl (by rw [h8]; simp only [Bool.false_or]) ?_
      refine sxo_nil ?_
      exact sxq_case (lk_cons rfl (lk_cons rfl (lk_cons rfl lk_nil)))
    refine sxo_take (os := _) rfl ?_
    refine sxo_assign rfl rfl rfl ?_
    refine sxo_nil ?_
    refine sxq_next ?_
    refine sxc_if rfl (fun h10 => ?_) (fun h10 => ?_)
    · refine sxc_seq ?_
      refine sxc_region ?_
      refine sxo_assign rfl rfl rfl ?_
      refine sxo_assign rfl rfl rfl ?_
      refine sxo_assign rfl rfl rfl ?_
      refine sxo_nil ?_
      refine sxq_next ?_
      refine sxc_ret ?_
      refine sxq_blkR ?_
      refine sxq_thenR ?_
      exact sxq_doneP () (.inl rfl) (res3 rfl rfl rfl rfl) (fun h => by subst h; rfl) (fun h => by subst h; exact .nil)
    · refine sxc_skip ?_
      refine sxq_blkN ?_
      refine sxq_next ?_
      refine sxc_seq ?_
      refine sxc_region ?_
      refine sxo_move rfl rfl rfl ?_
      refine sxo_move rfl rfl rfl ?_
      refine sxo_call ent23 rfl rfl rfl (fun x9 e9 => C_varint_From F x1 a2 c3 x4 x9 e9) (.consF 0 rfl .nil) (fun x9 e9 => ?_)
      intro _
      refine sxo_extract rfl rfl rfl rfl ?_
      refine sxo_extract rfl rfl rfl rfl ?_
      refine sxo_extract rfl rfl rfl rfl ?_
      refine sxo_assign rfl rfl rfl ?_
      refine sxo_assign rfl rfl rfl ?_
      refine sxo_assign rfl rfl rfl ?_
      refine sxo_nil ?_
      refine sxq_next ?_
      refine sxc_ret ?_
      exact sxq_doneP () (.inl rfl) (res3 rfl rfl rfl rfl) (fun h => by subst h; rfl) (fun h => by subst h; exact .nil)

theorem C_varint_each (F : Nat) (x1 : List Int) (a2 : Option Addr) (c3 : Nat) (r : Unit) (hm : M_varint_each F x1 = some r) :
    PureM Try.prog 24 [.slice a2 x1.length c3] [] [] [Sl (eI .u8) 1 (.slice a2 x1.length c3) x1] Nat (fun g => .func (.func 25) #[] #[.pointer (some ⟨g, 0, none⟩)]) (fun g => [⟨g, 23, [.slice a2 x1.length c3]⟩]) (fun _ => []) := by
  refine pureM_of Try.func24 rfl Try.ntmps24 rfl hm (fun w => ?_)
  refine sxc_env (l' := [(0, .slice a2 x1.length c3)]) rfl ?_
  refine sxc_seq ?_
  refine sxc_region ?_
  refine sxo_box rfl rfl rfl (fun g4 => ?_)
  refine sxo_assign rfl rfl rfl ?_
  refine sxo_nil ?_
  refine sxq_next ?_
  refine sxc_seq ?_
  refine sxc_region ?_
  refine sxo_makeFunc rfl rfl rfl ?_
  refine sxo_assign rfl rfl rfl ?_
  refine sxo_nil ?_
  refine sxq_next ?_
  refine sxc_ret ?_
  exact sxq_doneM g4 (.inl rfl) (res1 rfl rfl) (fun h => by subst h; rfl) (fun h => by subst h; exact (.cons 0 rfl .nil)) (fun h => by subst h; exact .nil)

theorem C_varint_each_1 (F : Nat) {σ τ : Type} {J : Rounds σ τ} {yy : σ → (Int × Int) → Option (σ ⊕ τ)} {L : Nat} (hY : YieldC Try.prog L (fun (p : (Int × Int)) => [.int .u64 p.1, .int .i64 p.2]) J yy) (s0 : σ) (gs0 : J.γ) (g1 : Nat) (x2 : List Int) (a3 : Option Addr) (c4 : Nat) (r : σ ⊕ τ) (hm : M_varint_each_1 F yy x2 s0 = some r) :
    PureM Try.prog 25 ([.func (.yield L) #[] #[], .pointer (some ⟨g1, 0, none⟩)]) ([⟨g1, 23, [.slice a3 x2.length c4]⟩] ++ J.IB s0 gs0) (J.IR s0 gs0) [J.F, Sl (eI .u8) 1 (.slice a3 x2.length c4) x2] (J.G r) (fun _ => .tuple #[]) (fun g => [⟨g1, 23, [.slice a3 x2.length c4]⟩] ++ J.bs r g) (fun g => J.rs r g) := by
  refine pureM_of Try.func25 rfl Try.ntmps25 rfl hm (fun w => ?_)
  refine sxc_env (l' := [(0, .func (.yield L) #[] #[]), (1, .pointer (some ⟨g1, 0, none⟩))]) rfl ?_
  refine sxc_seq ?_
  refine sxc_region ?_
  refine sxo_assign rfl rfl rfl ?_
  refine sxo_nil ?_
  refine sxq_next ?_
  refine sxc_block ?_
  refine sxc_loopP (fun (((x18, x19), g20) : ((Int × σ) × J.γ)) => [(0, .func (.yield L) #[] #[]), (1, .pointer (some ⟨g1, 0, none⟩)), (3, .int .i64 x18)]) (fun (((x18, x19), g20) : ((Int × σ) × J.γ)) => [⟨g1, 23, [.slice a3 x2.length c4]⟩] ++ J.IB x19 g20) (fun (((x18, x19), g20) : ((Int × σ) × J.γ)) => [] ++ J.IR x19 g20) (fun (((x18, x19), g20) : ((Int × σ) × J.γ)) => [Sl (eI .u8) 1 (.slice a3 x2.length c4) x2, J.F]) (fun k (s : ((Int × σ) × J.γ)) => M_varint_each_1_l1 F yy x2 k s.1) ((0, s0), gs0) F (lk_cons rfl (lk_cons rfl (lk_cons rfl lk_nil))) (.cons 0 rfl (pick_rest 0 rfl)) (pick_rest 0 rfl) (fk_cons 1 rfl (fk_cons 0 rfl fk_nil)) (fun _ => rfl) ?_
  intro k34
  rintro ⟨⟨x18, x19⟩, g20⟩
  try dsimp only
  refine sxc_meq (m' := M_varint_each_1_b1 F yy x2 (M_varint_each_1_l1 F yy x2 k34) x18 x19) rfl ?_
  refine sxc_seq ?_
  refine sxc_seq ?_
  refine sxc_region ?_
  refine sxo_move rfl rfl rfl ?_
  refine sxo_loadB (i := 0) rfl rfl tf23 rfl rfl (fun _ => rfl) rfl rfl ?_
  refine sxo_len rfl Try.underlying23 rfl rfl ?_
  refine sxo_lss rfl rfl rfl rfl ?_
  refine sxo_nil ?_
  refine sxq_next ?_
  refine sxc_if rfl (fun h47 => ?_) (fun h47 => ?_)
  · refine sxc_skip ?_
    refine sxq_next ?_
    refine sxc_block ?_
    refine sxc_seq ?_
    refine sxc_region ?_
    refine sxo_loadB (i := 0) rfl rfl tf23 rfl rfl (fun _ => rfl) rfl rfl ?_
    refine sxo_move rfl rfl rfl ?_
    refine sxo_call ent23 rfl rfl rfl (fun x36 e36 => C_varint_From F x2 a3 c4 x18 x36 e36) (.consF 0 rfl .nil) (fun x36 e36 => ?_)
    intro _
    refine sxo_move rfl rfl rfl ?_
    refine sxo_extract rfl rfl rfl rfl ?_
    refine sxo_extract rfl rfl rfl rfl ?_
    refine sxo_extract rfl rfl rfl rfl ?_
    refine sxo_assign rfl rfl rfl ?_
    refine sxo_assign rfl rfl rfl ?_
    refine sxo_assign rfl rfl rfl ?_
    refine sxo_nil ?_
    refine sxq_next ?_
    refine sxc_seq ?_
    refine sxc_seq ?_
    refine sxc_region ?_
    refine sxo_move rfl rfl rfl ?_
    refine sxo_move rfl rfl rfl ?_
    refine sxo_move rfl rfl rfl ?_
    refine sxo_yield hY x19 (x36.1, x36.2.2) g20 (B1 := [⟨g1, 23, [.slice a3 x2.length c4]⟩]) (R1 := []) (j := 1) rfl rfl rfl rfl rfl rfl rfl (fun x42 _ g44 => ?_) (fun x43 _ g44 => ?_)
    · refine sxo_not rfl rfl rfl ?_
      refine sxo_move rfl rfl rfl ?_
      refine sxo_move rfl rfl rfl ?_
      refine sxo_neq rfl rfl rfl rfl ?_
      refine sxo_pick (b := false) rfl rfl rfl rfl ?_
      refine sxo_nil ?_
      refine sxq_next ?_
      refine sxc_if rfl (fun h46 => ?_) (fun h46 => ?_)
      · refine sxc_ret ?_
        refine sxq_thenR ?_
        refine sxq_blkR ?_
        refine sxq_thenR ?_
        refine sxq_blkR ?_
        exact sxq_doneI (B0 := [⟨g1, 23, [.slice a3 x2.length c4]⟩]) (x := .inl x42) g44 (.inl rfl) (res0 rfl) (.cons 0 rfl (pick_rest 0 rfl)) (pick_rest 0 rfl)
      · refine sxc_skip ?_
        refine sxq_next ?_
        refine sxc_region ?_
        refine sxo_move rfl rfl rfl ?_
        refine sxo_assign rfl rfl rfl ?_
        refine sxo_nil ?_
        refine sxq_blkN ?_
        exact sxq_againP ((x36.2.1, x42), g44) (lk_cons rfl (lk_cons rfl (lk_cons rfl lk_nil))) (.cons 0 rfl (pick_rest 0 rfl)) (pick_rest 0 rfl) (fk_cons 0 rfl (fk_cons 1 rfl fk_nil))
    · refine sxo_not rfl rfl rfl ?_
      refine sxo_move rfl rfl rfl ?_
      refine sxo_skip rfl rfl rfl ?_
      refine sxo_skip rfl rfl rfl ?_
      refine sxo_pick (b := true) rfl rfl rfl rfl ?_
      refine sxo_nil ?_
      refine sxq_next ?_
      refine sxc_cond (b := true) rfl (fun _ => ?_) (fun h => by cases h)
      refine sxc_ret ?_
      refine sxq_thenR ?_
      refine sxq_blkR ?_
      refine sxq_thenR ?_
      refine sxq_blkR ?_
      exact sxq_doneI (B0 := [⟨g1, 23, [.slice a3 x2.length c4]⟩]) (x := .inr x43) g44 (.inl rfl) (res0 rfl) (.cons 0 rfl (pick_rest 0 rfl)) (pick_rest 0 rfl)
  · refine sxc_exit ?_
    refine sxq_thenX ?_
    refine sxq_thenX ?_
    refine sxq_blkX ?_
    exact sxq_doneI (B0 := [⟨g1, 23, [.slice a3 x2.length c4]⟩]) (x := .inl x19) g20 (.inr rfl) (res0 rfl) (.cons 0 rfl (pick_rest 0 rfl)) (pick_rest 0 rfl)

theorem C_varint_All (F : Nat) (x1 : List Int) (a2 : Option Addr) (c3 : Nat) (r : (List Int × Int)) (hm : M_varint_All F x1 = some r) :
    PureM Try.prog 11 [.slice a2 x1.length c3] [] [] [Sl (eI .u8) 1 (.slice a2 x1.length c3) x1] (Option Addr × Nat) (fun g => .tuple #[.slice g.1 r.1.length g.2, .int .i64 r.2]) (fun _ => []) (fun g => [Ro (eI .u64) 27 1 (.slice g.1 r.1.length g.2) r.1]) := by
  refine pureX_of Try.func11 rfl Try.ntmps11 rfl hm (fun w => ?_)
  refine sxc_env (l' := [(0, .slice a2 x1.length c3)]) rfl ?_
  refine sxc_seq ?_
  refine sxc_region ?_
  refine sxo_alloc rfl tf22 rfl (fun g4 => ?_)
  refine sxo_alloc rfl tf24 rfl (fun g5 => ?_)
  refine sxo_nil ?_
  refine sxq_next ?_
  refine sxc_seq ?_
  refine sxc_seq ?_
  refine sxc_region ?_
  refine sxo_move rfl rfl rfl ?_
  refine sxo_len rfl Try.underlying23 rfl rfl ?_
  refine sxo_gtr rfl rfl rfl rfl ?_
  refine sxo_nil ?_
  refine sxq_next ?_
  refine sxc_if rfl (fun h80 => ?_) (fun h80 => ?_)
  · refine sxc_seq ?_
    refine sxc_region ?_
    refine sxo_storeB (i := 1) rfl rfl rfl tf22 rfl rfl rfl rfl rfl ?_
    refine sxo_storeB (i := 0) rfl rfl rfl tf24 rfl rfl rfl rfl rfl ?_
    refine sxo_nil ?_
    refine sxq_next ?_
    refine sxc_ret ?_
    refine sxq_thenR ?_
    refine sxq_nilrow Int (eI .u64) 27 1 ?_
    exact sxq_doneX [] (none, 0) (.inl rfl) rfl .nil (resL (rs := [.cell 2 22, .cell 3 24]) rfl (.cell (i := 1) rfl tf22 rfl rfl (fun _ => rfl) rfl (.cell (i := 0) rfl tf24 rfl rfl (fun _ => rfl) rfl ResOk.nil)) rfl) (fun h => by subst h; rfl) (fun h => by subst h; exact .nil) (fun h => by subst h; exact (.cons 0 rfl .nil))
  · refine sxc_skip ?_
    refine sxq_next ?_
    refine sxc_seq ?_
    refine sxc_region ?_
    refine sxo_alloc rfl tf22 rfl (fun g7 => ?_)
    refine sxo_nil ?_
    refine sxq_next ?_
    refine sxc_seq ?_
    refine sxc_seq ?_
    refine sxc_region ?_
    refine sxo_move rfl rfl rfl ?_
    refine sxo_callM ent24 rfl rfl rfl (fun x44 e44 => C_varint_each F x1 a2 c3 x44 e44) .nil .nil (.consF 0 rfl .nil) (fun x44 e44 => ?_)
    rintro g45
    refine sxo_nil ?_
    refine sxq_next ?_
    refine sxc_block ?_
    refine sxc_nilrow Int (eI .u64) 27 1 ?_
    refine sxc_range (encs := (fun (p : (Int × Int)) => [.int .u64 p.1, .int .i64 p.2])) (y := (fun (x57 : List Int) ((x71, x72) : (Int × Int)) => M_varint_All_r2 F x57 x71 x72)) (lb := [.pointer (some ⟨g45, 0, none⟩)]) (fun (x57 : List Int) ((a55, c56) : (Option Addr × Nat)) => [⟨g7, 22, [.slice a55 x57.length c56]⟩, ⟨g5, 24, [.int .i64 0]⟩, ⟨g4, 22, [.slice none 0 0]⟩]) (fun (x57 : List Int) ((a55, c56) : (Option Addr × Nat)) => [Ro (eI .u64) 27 1 (.slice a55 x57.length c56) x57]) (fun ((x69, x70) : (List Int × Int)) ((a67, c68) : (Option Addr × Nat)) => [⟨g7, 22, [.slice a67 x69.length c68]⟩, ⟨g5, 24, [.int .i64 x70]⟩, ⟨g4, 22, [.slice none 0 0]⟩]) (fun ((x69, x70) : (List Int × Int)) ((a67, c68) : (Option Addr × Nat)) => [Ro (eI .u64) 27 1 (.slice a67 x69.length c68) x69]) (fun _ => .ret) ([] : List Int) (none, 0) rfl ent25 (fun _ => rfl) rfl (.cons 0 rfl .nil) (.cons 0 rfl (.cons 0 rfl (.cons 0 rfl .nil))) (.cons 0 rfl .nil) (.consF 0 rfl .nil) (fun z hz _ _ _ hY => C_varint_each_1 F hY ([] : List Int) (none, 0) g45 x1 a2 c3 z hz) ?_ ?_ ?_
    · rintro rc2 L2 D2 x57 ⟨a55, c56⟩ ⟨x71, x72⟩ z w M _
      try dsimp only
      refine sxc_less [(0, .slice a2 x1.length c3), (2, .pointer (some ⟨g4, 0, none⟩)), (3, .pointer (some ⟨g5, 0, none⟩)), (4, .pointer (some ⟨g7, 0, none⟩)), (7, .slice a2 x1.length c3), (8, .int .i64 (x1.length : Int)), (9, .bool (decide (4096 < (x1.length : Int)))), (10, .slice a2 x1.length c3), (11, .func (.func 25) #[] #[.pointer (some ⟨g45, 0, none⟩)]), (12, .int .u64 x71), (13, .int .i64 x72)] (lk_cons rfl (lk_cons rfl (lk_cons rfl (lk_cons rfl (lk_cons rfl (lk_cons rfl (lk_cons rfl (lk_cons rfl (lk_cons rfl (lk_cons rfl (lk_cons rfl lk_nil))))))))))) ?_
      refine sxc_seq ?_
      refine sxc_region ?_
      refine sxo_assign rfl rfl rfl ?_
      refine sxo_nil ?_
      refine sxq_next ?_
      refine sxc_region ?_
      refine sxo_assign rfl rfl rfl ?_
      refine sxo_nil ?_
      refine sxq_begin (i := 3) rfl ?_
      refine sxc_block ?_
      refine sxc_seq ?_
      refine sxc_seq ?_
      refine sxc_region ?_
      refine sxo_move rfl rfl rfl ?_
      refine sxo_neq rfl rfl rfl rfl ?_
      refine sxo_nil ?_
      refine sxq_next ?_
      refine sxc_if rfl (fun h79 => ?_) (fun h79 => ?_)
      · refine sxc_seq ?_
        refine sxc_region ?_
        refine sxo_move rfl rfl rfl ?_
        refine sxo_storeB (i := 2) rfl rfl rfl tf22 rfl rfl rfl rfl rfl ?_
        refine sxo_storeB (i := 1) rfl rfl rfl tf24 rfl rfl rfl rfl rfl ?_
        refine sxo_nil ?_
        refine sxq_next ?_
        refine sxc_ret ?_
        refine sxq_thenR ?_
        refine sxq_blkR ?_
        exact sxq_round (rc := rc2) rfl (.cons 3 rfl .nil) rfl (a55, c56) (.cons 1 rfl (.cons 1 rfl (.cons 1 rfl (.cons 0 rfl (.cons 0 rfl .nil))))) (.cons 0 rfl .nil)
      · refine sxc_skip ?_
        refine sxq_next ?_
        refine sxc_region ?_
        refine sxo_loadB (i := 0) rfl rfl tf22 rfl rfl (fun _ => rfl) rfl rfl ?_
        refine sxo_move rfl rfl rfl ?_
        refine sxo_slit (vs := [.int .u64 x71]) (ys := ([x71] : List Int)) (eI_ok .u64) (by decide) rfl Try.underlying22 tf27 rfl rfl rfl rfl rfl (by decide) (fun a74 c75 => ?_)
        refine sxo_app 1 (eI_ok .u64) rfl Try.underlying22 tf27 rfl rfl rfl rfl rfl (.inl ⟨0, _, rfl⟩) rfl rfl (fun x76 e76 a77 c78 => ?_)
        refine sxo_storeB (i := 0) rfl rfl rfl tf22 rfl rfl rfl rfl rfl ?_
        refine sxo_nil ?_
        refine sxq_blkN ?_
        exact sxq_round (rc := rc2) rfl (.cons 3 rfl .nil) rfl (a77, c78) (.cons 1 rfl (.cons 1 rfl (.cons 1 rfl (.cons 0 rfl (.cons 0 rfl .nil))))) (.cons 0 rfl .nil)
    · rintro x57 _ ⟨a55, c56⟩ D2
      try dsimp only
      refine sxq_blkN ?_
      refine sxq_next ?_
      refine sxc_seq ?_
      refine sxc_region ?_
      refine sxo_loadB (i := 2) rfl rfl tf22 rfl rfl (fun _ => rfl) rfl rfl ?_
      refine sxo_storeB (i := 4) rfl rfl rfl tf22 rfl rfl rfl rfl rfl ?_
      refine sxo_storeB (i := 3) rfl rfl rfl tf24 rfl rfl rfl rfl rfl ?_
      refine sxo_nil ?_
      refine sxq_next ?_
      refine sxc_ret ?_
      exact sxq_doneX [D2] (a55, c56) (.inl rfl) rfl (.cons 0 rfl .nil) (resL (rs := [.cell 2 22, .cell 3 24]) rfl (.cell (i := 3) rfl tf22 rfl rfl (fun _ => rfl) rfl (.cell (i := 2) rfl tf24 rfl rfl (fun _ => rfl) rfl ResOk.nil)) rfl) (fun h => by subst h; rfl) (fun h => by subst h; exact .nil) (fun h => by subst h; exact (.cons 0 rfl .nil))
    · rintro ⟨x69, x70⟩ _ ⟨a67, c68⟩ D2
      try dsimp only
      refine sxc_ret ?_
      refine sxq_blkR ?_
      refine sxq_thenR ?_
      refine sxq_nilrow Int (eI .u64) 27 1 ?_
      exact sxq_doneX [D2] (none, 0) (.inl rfl) rfl (.cons 0 rfl .nil) (resL (rs := [.cell 2 22, .cell 3 24]) rfl (.cell (i := 3) rfl tf22 rfl rfl (fun _ => rfl) rfl (.cell (i := 2) rfl tf24 rfl rfl (fun _ => rfl) rfl ResOk.nil)) rfl) (fun h => by subst h; rfl) (fun h => by subst h; exact .nil) (fun h => by subst h; exact (.cons 0 rfl .nil))

theorem C_R_VarintBytes : ∀ (F : Nat) (x1 : Int) (r : List Int), M_R_VarintBytes F x1 = some r → Pure Try.prog 12 [.int .u64 x1] [] (Option Addr × Nat) (fun g => .slice g.1 r.length g.2) (fun g => [Ro (eI .u8) 5 1 (.slice g.1 r.length g.2) r]) (fun _ => []) := by
  intro F
  induction F with
  | zero => intro x1 r hm; exact absurd hm (by simp [M_R_VarintBytes])
  | succ F ih =>
    intro x1 r hm
    refine pure_of Try.func12 rfl Try.ntmps12 rfl hm (fun w => ?_)
    refine sxc_env (l' := [(0, .int .u64 x1)]) rfl ?_
    refine sxc_seq ?_
    refine sxc_region ?_
    refine sxo_assign rfl rfl rfl ?_
    refine sxo_nil ?_
    refine sxq_next ?_
    refine sxc_seq ?_
    refine sxc_seq ?_
    refine sxc_region ?_
    refine sxo_move rfl rfl rfl ?_
    refine sxo_lss rfl rfl rfl rfl ?_
    refine sxo_nil ?_
    refine sxq_next ?_
    refine sxc_if rfl (fun h15 => ?_) (fun h15 => ?_)
    · refine sxc_seq ?_
      refine sxc_region ?_
      refine sxo_move rfl rfl rfl ?_
      refine sxo_conv rfl Try.underlying27 Try.underlying5 rfl rfl ?_
      refine sxo_slit (vs := [.int .u8 (iconv .u8 x1)]) (ys := ([iconv .u8 x1] : List Int)) (eI_ok .u8) (by decide) rfl Try.underlying23 tf5 rfl rfl rfl rfl rfl (by decide) (fun a5 c6 => ?_)
      refine sxo_assign rfl rfl rfl ?_
      refine sxo_nil ?_
      refine sxq_next ?_
      refine sxc_ret ?_
      refine sxq_thenR ?_
      exact sxq_doneP (a5, c6) (.inl rfl) (res1 rfl rfl) (fun h => by subst h; rfl) (fun h => by subst h; exact (.cons 0 rfl .nil))
    · refine sxc_skip ?_
      refine sxq_next ?_
      refine sxc_seq ?_
      refine sxc_region ?_
      refine sxo_move rfl rfl rfl ?_
      refine sxo_rem rfl rfl rfl rfl rfl ?_
      refine sxo_add rfl rfl rfl rfl ?_
      refine sxo_conv rfl Try.underlying27 Try.underlying5 rfl rfl ?_
      refine sxo_slit (vs := [.int .u8 (iconv .u8 (iadd .u64 (irem x1 128) 128))]) (ys := ([iconv .u8 (iadd .u64 (irem x1 128) 128)] : List Int)) (eI_ok .u8) (by decide) rfl Try.underlying23 tf5 rfl rfl rfl rfl rfl (by decide) (fun a7 c8 => ?_)
      refine sxo_move rfl rfl rfl ?_
      refine sxo_quo rfl rfl rfl rfl rfl ?_
      refine sxo_call ent12 rfl rfl rfl (fun x9 e9 => ih (iquo .u64 x1 128) x9 e9) .nil (fun x9 e9 => ?_)
      rintro ⟨a10, c11⟩
      refine sxo_app 1 (eI_ok .u8) rfl Try.underlying23 tf5 rfl rfl rfl rfl rfl (.inl ⟨0, _, rfl⟩) rfl rfl (fun x12 e12 a13 c14 => ?_)
      refine sxo_assign rfl rfl rfl ?_
      refine sxo_nil ?_
      refine sxq_next ?_
      refine sxc_ret ?_
      exact sxq_doneP (a13, c14) (.inl rfl) (res1 rfl rfl) (fun h => by subst h; rfl) (fun h => by subst h; exact (.cons 0 rfl .nil))

theorem C_R_VarintRead (F : Nat) (x1 : List Int) (a2 : Option Addr) (c3 : Nat) (x4 : Int) (r : (Int × Int × Int)) (hm : M_R_VarintRead F x1 x4 = some r) :
    Pure Try.prog 13 [.slice a2 x1.length c3, .int .i64 x4] [Sl (eI .u8) 1 (.slice a2 x1.length c3) x1] Unit (fun _ => .tuple #[.int .u64 r.1, .int .i64 r.2.1, .int .i64 r.2.2]) (fun _ => []) (fun _ => []) := by
  refine pure_of Try.func13 rfl Try.ntmps13 rfl hm (fun w => ?_)
  refine sxc_env (l' := [(0, .slice a2 x1.length c3), (1, .int .i64 x4)]) rfl ?_
  refine sxc_seq ?_
  refine sxc_region ?_
  refine sxo_assign rfl rfl rfl ?_
  refine sxo_assign rfl rfl rfl ?_
  refine sxo_assign rfl rfl rfl ?_
  refine sxo_nil ?_
  refine sxq_next ?_
  refine sxc_seq ?_
  refine sxc_region ?_
  refine sxo_assign rfl rfl rfl ?_
  refine sxo_assign rfl rfl rfl ?_
  refine sxo_nil ?_
  refine sxq_next ?_
  refine sxc_join (fun ((_, _) : (Unit × Unit)) => []) (fun ((_, _) : (Unit × Unit)) => []) (fun ((_, _) : (Unit × Unit)) => []) (fun ((_, _) : (Unit × Unit)) => []) (fun ((_, _) : (Unit × Unit)) => M_R_VarintRead_j2 F) ?_ ?_
  · refine sxc_seq ?_
    refine sxc_region ?_
    refine sxo_move rfl rfl rfl ?_
    refine sxo_assign rfl rfl rfl ?_
    refine sxo_nil ?_
    refine sxq_next ?_
    refine sxc_block ?_
    refine sxc_loopP (fun (((x129, x130, x131), _) : ((Int × Int × Int) × Unit)) => [(0, .slice a2 x1.length c3), (1, .int .i64 x4), (7, .int .u64 x129), (8, .int .u64 x130), (9, .int .i64 x131)]) (fun (((x129, x130, x131), _) : ((Int × Int × Int) × Unit)) => []) (fun (((x129, x130, x131), _) : ((Int × Int × Int) × Unit)) => []) (fun (((x129, x130, x131), _) : ((Int × Int × Int) × Unit)) => [Sl (eI .u8) 1 (.slice a2 x1.length c3) x1]) (fun k (s : ((Int × Int × Int) × Unit)) => M_R_VarintRead_l3 F x1 x4 k s.1) ((0, 1, x4), ()) F (lk_cons rfl (lk_cons rfl (lk_cons rfl (lk_cons rfl (lk_cons rfl lk_nil))))) .nil .nil (fk_cons 0 rfl fk_nil) (fun _ => rfl) ?_
    intro k162
    rintro ⟨⟨x129, x130, x131⟩, _⟩
    try dsimp only
    refine sxc_meq (m' := M_R_VarintRead_b3 F x1 x4 (M_R_VarintRead_l3 F x1 x4 k162) x129 x130 x131) rfl ?_
    refine sxc_seq ?_
    refine sxc_seq ?_
    refine sxc_region ?_
    refine sxo_move rfl rfl rfl ?_
    refine sxo_move rfl rfl rfl ?_
    refine sxo_len rfl Try.underlying23 rfl rfl ?_
    refine sxo_lss rfl rfl rfl rfl ?_
    refine sxo_nil ?_
    refine sxq_next ?_
    refine sxc_if rfl (fun h192 => ?_) (fun h192 => ?_)
    · refine sxc_skip ?_
      refine sxq_next ?_
      refine sxc_seq ?_
      refine sxc_block ?_
      refine sxc_seq ?_
      refine sxc_region ?_
      refine sxo_move rfl rfl rfl ?_
      refine sxo_move rfl rfl rfl ?_
      refine sxo_indexF (j := 0) (eI_ok .u8) (by decide) rfl Try.underlying23 tf5 rfl rfl rfl rfl (fun x178 e178 b179 o180 => ?_)
      refine sxo_loadF (j := 0) rfl rfl tf5 rfl rfl (fun _ => rfl) rfl rfl ?_
      refine sxo_conv rfl Try.underlying5 Try.underlying27 rfl rfl ?_
      refine sxo_assign rfl rfl rfl ?_
      refine sxo_nil ?_
      refine sxq_next ?_
      refine sxc_seq ?_
      refine sxc_seq ?_
      refine sxc_region ?_
      refine sxo_move rfl rfl rfl ?_
      refine sxo_move rfl rfl rfl ?_
      refine sxo_sub rfl rfl rfl rfl ?_
      refine sxo_eql rfl rfl rfl rfl ?_
      refine sxo_move rfl rfl rfl ?_
      refine sxo_case 3 (((isub .i64 x131 x4) : Int) == 9) [(0, .slice a2 x1.length c3), (1, .int .i64 x4), (7, .int .u64 x129), (8, .int .u64 x130), (9, .int .i64 x131), (10, .int .u64 (iconv .u64 x178)), (30, .bool ((((isub .i64 x131 x4) : Int) == 9) && (decide (1 < (iconv .u64 x178)))))] (fun h183 => ?_) (fun h183 => ?_) ?_
      · refine sxo_take (os := _) rfl ?_
        refine sxo_isT (k := 27) rfl h183 ?_
        refine sxo_move rfl rfl rfl ?_
        refine sxo_gtr rfl rfl rfl rfl ?_
        refine sxo_pick (b := true) rfl rfl rfl rfl ?_
        refine sxo_again (d := 30) (v := .bool ((((isub .i64 x131 x4) : Int) == 9) && (decide (1 < (iconv .u64 x178))))) rfl (by rw [h183]; simp only [Bool.true_and]) ?_
        refine sxo_nil ?_
        exact sxq_case (lk_cons rfl (lk_cons rfl (lk_cons rfl (lk_cons rfl (lk_cons rfl (lk_cons rfl (lk_cons rfl lk_nil)))))))
      · refine sxo_take (os := _) rfl ?_
        refine sxo_isF (k := 27) rfl h183 ?_
        refine sxo_skip rfl rfl rfl ?_
        refine sxo_skip rfl rfl rfl ?_
        refine sxo_pick (b := false) rfl rfl rfl rfl ?_
        refine sxo_again (d := 30) (v := .bool ((((isub .i64 x131 x4) : Int) == 9) && (decide (1 < (iconv .u64 x178))))) rfl (by rw [h183]; simp only [Bool.false_and]) ?_
        refine sxo_nil ?_
        exact sxq_case (lk_cons rfl (lk_cons rfl (lk_cons rfl (lk_cons rfl (lk_cons rfl (lk_cons rfl (lk_cons rfl lk_nil)))))))
      refine sxo_take (os := _) rfl ?_
      refine sxo_nil ?_
      refine sxq_next ?_
      refine sxc_if rfl (fun h191 => ?_) (fun h191 => ?_)
      · refine sxc_seq ?_
        refine sxc_region ?_
        refine sxo_assign rfl rfl rfl ?_
        refine sxo_assign rfl rfl rfl ?_
        refine sxo_assign rfl rfl rfl ?_
        refine sxo_nil ?_
        refine sxq_next ?_
        refine sxc_ret ?_
        refine sxq_thenR ?_
        refine sxq_blkR ?_
        refine sxq_thenR ?_
        refine sxq_thenR ?_
        refine sxq_blkR ?_
        refine sxq_thenR ?_
        exact sxq_doneP () (.inl rfl) (res3 rfl rfl rfl rfl) (fun h => by subst h; rfl) (fun h => by subst h; exact .nil)
      · refine sxc_skip ?_
        refine sxq_next ?_
        refine sxc_seq ?_
        refine sxc_seq ?_
        refine sxc_region ?_
        refine sxo_move rfl rfl rfl ?_
        refine sxo_move rfl rfl rfl ?_
        refine sxo_gtr rfl rfl rfl rfl ?_
        refine sxo_move rfl rfl rfl ?_
        refine sxo_case 3 (decide (x4 < x131)) [(0, .slice a2 x1.length c3), (1, .int .i64 x4), (7, .int .u64 x129), (8, .int .u64 x130), (9, .int .i64 x131), (10, .int .u64 (iconv .u64 x178)), (37, .bool ((decide (x4 < x131)) && (((iconv .u64 x178) : Int) == 0)))] (fun h186 => ?_) (fun h186 => ?_) ?_
        · refine sxo_take (os := _) rfl ?_
          refine sxo_isT (k := 34) rfl h186 ?_
          refine sxo_move rfl rfl rfl ?_
          refine sxo_eql rfl rfl rfl rfl ?_
          refine sxo_pick (b := true) rfl rfl rfl rfl ?_
          refine sxo_again (d := 37) (v := .bool ((decide (x4 < x131)) && (((iconv .u64 x178) : Int) == 0))) rfl (by rw [h186]; simp only [Bool.true_and]) ?_
          refine sxo_nil ?_
          exact sxq_case (lk_cons rfl (lk_cons rfl (lk_cons rfl (lk_cons rfl (lk_cons rfl (lk_cons rfl (lk_cons rfl lk_nil)))))))
        · refine sxo_take (os := _) rfl ?_
          refine sxo_isF (k := 34) rfl h186 ?_
          refine sxo_skip rfl rfl rfl ?_
          refine sxo_skip rfl rfl rfl ?_
          refine sxo_pick (b := false) rfl rfl rfl rfl ?_
          refine sxo_again (d := 37) (v := .bool ((decide (x4 < x131)) && (((iconv .u64 x178) : Int) == 0))) rfl (by rw [h186]; simp only [Bool.false_and]) ?_
          refine sxo_nil ?_
          exact sxq_case (lk_cons rfl (lk_cons rfl (lk_cons rfl (lk_cons rfl (lk_cons rfl (lk_cons rfl (lk_cons rfl lk_nil)))))))
        refine sxo_take (os := _) rfl ?_
        refine sxo_nil ?_
        refine sxq_next ?_
        refine sxc_if rfl (fun h190 => ?_) (fun h190 => ?_)
        · refine sxc_seq ?_
          refine sxc_region ?_
          refine sxo_assign rfl rfl rfl ?_
          refine sxo_assign rfl rfl rfl ?_
          refine sxo_assign rfl rfl rfl ?_
          refine sxo_nil ?_
          refine sxq_next ?_
          refine sxc_ret ?_
          refine sxq_thenR ?_
          refine sxq_blkR ?_
          refine sxq_thenR ?_
          refine sxq_thenR ?_
          refine sxq_blkR ?_
          refine sxq_thenR ?_
          exact sxq_doneP () (.inl rfl) (res3 rfl rfl rfl rfl) (fun h => by subst h; rfl) (fun h => by subst h; exact .nil)
        · refine sxc_skip ?_
          refine sxq_next ?_
          refine sxc_seq ?_
          refine sxc_region ?_
          refine sxo_move rfl rfl rfl ?_
          refine sxo_move rfl rfl rfl ?_
          refine sxo_rem rfl rfl rfl rfl rfl ?_
          refine sxo_move rfl rfl rfl ?_
          refine sxo_mul rfl rfl rfl rfl ?_
          refine sxo_add rfl rfl rfl rfl ?_
          refine sxo_assign rfl rfl rfl ?_
          refine sxo_lett (fun x187 e187 => ?_)
          refine sxo_again (d := 7) (v := .int .u64 x187) rfl (by rw [e187]) ?_
          refine sxo_nil ?_
          refine sxq_next ?_
          refine sxc_seq ?_
          refine sxc_seq ?_
          refine sxc_region ?_
          refine sxo_move rfl rfl rfl ?_
          refine sxo_lss rfl rfl rfl rfl ?_
          refine sxo_nil ?_
          refine sxq_next ?_
          refine sxc_if rfl (fun h189 => ?_) (fun h189 => ?_)
          · refine sxc_seq ?_
            refine sxc_region ?_
            refine sxo_move rfl rfl rfl ?_
            refine sxo_move rfl rfl rfl ?_
            refine sxo_add rfl rfl rfl rfl ?_
            refine sxo_assign rfl rfl rfl ?_
            refine sxo_assign rfl rfl rfl ?_
            refine sxo_assign rfl rfl rfl ?_
            refine sxo_nil ?_
            refine sxq_next ?_
            refine sxc_ret ?_
            refine sxq_thenR ?_
            refine sxq_blkR ?_
            refine sxq_thenR ?_
            refine sxq_thenR ?_
            refine sxq_blkR ?_
            refine sxq_thenR ?_
            exact sxq_doneP () (.inl rfl) (res3 rfl rfl rfl rfl) (fun h => by subst h; rfl) (fun h => by subst h; exact .nil)
          · refine sxc_skip ?_
            refine sxq_next ?_
            refine sxc_region ?_
            refine sxo_move rfl rfl rfl ?_
            refine sxo_mul rfl rfl rfl rfl ?_
            refine sxo_assign rfl rfl rfl ?_
            refine sxo_nil ?_
            refine sxq_blkN ?_
            refine sxq_next ?_
            refine sxc_region ?_
            refine sxo_move rfl rfl rfl ?_
            refine sxo_add rfl rfl rfl rfl ?_
            refine sxo_assign rfl rfl rfl ?_
            refine sxo_nil ?_
            exact sxq_againP ((x187, imul .u64 x130 128, iadd .i64 x131 1), ()) (lk_cons rfl (lk_cons rfl (lk_cons rfl (lk_cons rfl (lk_cons rfl lk_nil))))) .nil .nil (fk_cons 1 rfl fk_nil)
    · refine sxc_exit ?_
      refine sxq_thenX ?_
      refine sxq_thenX ?_
      refine sxq_blkX ?_
      exact sxq_meetP ((), ()) lk_nil .nil .nil fk_nil
  · rintro ⟨_, _⟩
    try dsimp only
    refine sxc_seq ?_
    refine sxc_region ?_
    refine sxo_assign rfl rfl rfl ?_
    refine sxo_assign rfl rfl rfl ?_
    refine sxo_assign rfl rfl rfl ?_
    refine sxo_nil ?_
    refine sxq_next ?_
    refine sxc_ret ?_
    exact sxq_doneP () (.inl rfl) (res3 rfl rfl rfl rfl) (fun h => by subst h; rfl) (fun h => by subst h; exact .nil)

theorem C_R_VarintAll (F : Nat) (x1 : List Int) (a2 : Option Addr) (c3 : Nat) (r : (List Int × Int)) (hm : M_R_VarintAll F x1 = some r) :
    Pure Try.prog 14 [.slice a2 x1.length c3] [Sl (eI .u8) 1 (.slice a2 x1.length c3) x1] (Option Addr × Nat) (fun g => .tuple #[.slice g.1 r.1.length g.2, .int .i64 r.2]) (fun g => [Ro (eI .u64) 27 1 (.slice g.1 r.1.length g.2) r.1]) (fun _ => []) := by
  refine pure_of Try.func14 rfl Try.ntmps14 rfl hm (fun w => ?_)
  refine sxc_env (l' := [(0, .slice a2 x1.length c3)]) rfl ?_
  refine sxc_seq ?_
  refine sxc_region ?_
  refine sxo_assign rfl rfl rfl ?_
  refine sxo_assign rfl rfl rfl ?_
  refine sxo_nil ?_
  refine sxq_next ?_
  refine sxc_seq ?_
  refine sxc_seq ?_
  refine sxc_region ?_
  refine sxo_move rfl rfl rfl ?_
  refine sxo_len rfl Try.underlying23 rfl rfl ?_
  refine sxo_gtr rfl rfl rfl rfl ?_
  refine sxo_nil ?_
  refine sxq_next ?_
  refine sxc_if rfl (fun h78 => ?_) (fun h78 => ?_)
  · refine sxc_seq ?_
    refine sxc_region ?_
    refine sxo_assign rfl rfl rfl ?_
    refine sxo_assign rfl rfl rfl ?_
    refine sxo_nil ?_
    refine sxq_next ?_
    refine sxc_ret ?_
    refine sxq_thenR ?_
    refine sxq_nilrow Int (eI .u64) 27 1 ?_
    exact sxq_doneP (none, 0) (.inl rfl) (res2 rfl rfl rfl) (fun h => by subst h; rfl) (fun h => by subst h; exact (.cons 0 rfl .nil))
  · refine sxc_skip ?_
    refine sxq_next ?_
    refine sxc_seq ?_
    refine sxc_region ?_
    refine sxo_assign rfl rfl rfl ?_
    refine sxo_nil ?_
    refine sxq_next ?_
    refine sxc_seq ?_
    refine sxc_region ?_
    refine sxo_assign rfl rfl rfl ?_
    refine sxo_nil ?_
    refine sxq_next ?_
    refine sxc_join (fun ((x42, (a40, c41)) : (List Int × (Option Addr × Nat))) => [(4, .slice a40 x42.length c41)]) (fun ((x42, (a40, c41)) : (List Int × (Option Addr × Nat))) => []) (fun ((x42, (a40, c41)) : (List Int × (Option Addr × Nat))) => [Ro (eI .u64) 27 1 (.slice a40 x42.length c41) x42]) (fun ((x42, (a40, c41)) : (List Int × (Option Addr × Nat))) => []) (fun ((x42, _) : (List Int × (Option Addr × Nat))) => M_R_VarintAll_j2 F x42) ?_ ?_
    · refine sxc_block ?_
      refine sxc_nilrow Int (eI .u64) 27 1 ?_
      refine sxc_loopP (fun (((x55, x56), (a53, c54)) : ((List Int × Int) × (Option Addr × Nat))) => [(0, .slice a2 x1.length c3), (4, .slice a53 x55.length c54), (5, .int .i64 x56)]) (fun (((x55, x56), (a53, c54)) : ((List Int × Int) × (Option Addr × Nat))) => []) (fun (((x55, x56), (a53, c54)) : ((List Int × Int) × (Option Addr × Nat))) => [Ro (eI .u64) 27 1 (.slice a53 x55.length c54) x55]) (fun (((x55, x56), (a53, c54)) : ((List Int × Int) × (Option Addr × Nat))) => [Sl (eI .u8) 1 (.slice a2 x1.length c3) x1]) (fun k (s : ((List Int × Int) × (Option Addr × Nat))) => M_R_VarintAll_l3 F x1 k s.1) ((([] : List Int), 0), (none, 0)) F (lk_cons rfl (lk_cons rfl (lk_cons rfl lk_nil))) .nil (.cons 0 rfl .nil) (fk_cons 0 rfl fk_nil) (fun _ => rfl) ?_
      intro k67
      rintro ⟨⟨x55, x56⟩, ⟨a53, c54⟩⟩
      try dsimp only
      refine sxc_meq (m' := M_R_VarintAll_b3 F x1 (M_R_VarintAll_l3 F x1 k67) x55 x56) rfl ?_
      refine sxc_seq ?_
      refine sxc_seq ?_
      refine sxc_region ?_
      refine sxo_move rfl rfl rfl ?_
      refine sxo_move rfl rfl rfl ?_
      refine sxo_len rfl Try.underlying23 rfl rfl ?_
      refine sxo_lss rfl rfl rfl rfl ?_
      refine sxo_nil ?_
      refine sxq_next ?_
      refine sxc_if rfl (fun h77 => ?_) (fun h77 => ?_)
      · refine sxc_skip ?_
        refine sxq_next ?_
        refine sxc_block ?_
        refine sxc_seq ?_
        refine sxc_region ?_
        refine sxo_move rfl rfl rfl ?_
        refine sxo_move rfl rfl rfl ?_
        refine sxo_call ent13 rfl rfl rfl (fun x69 e69 => C_R_VarintRead F x1 a2 c3 x56 x69 e69) (.consF 0 rfl .nil) (fun x69 e69 => ?_)
        intro _
        refine sxo_move rfl rfl rfl ?_
        refine sxo_extract rfl rfl rfl rfl ?_
        refine sxo_extract rfl rfl rfl rfl ?_
        refine sxo_extract rfl rfl rfl rfl ?_
        refine sxo_assign rfl rfl rfl ?_
        refine sxo_assign rfl rfl rfl ?_
        refine sxo_assign rfl rfl rfl ?_
        refine sxo_nil ?_
        refine sxq_next ?_
        refine sxc_seq ?_
        refine sxc_seq ?_
        refine sxc_region ?_
        refine sxo_move rfl rfl rfl ?_
        refine sxo_neq rfl rfl rfl rfl ?_
        refine sxo_nil ?_
        refine sxq_next ?_
        refine sxc_if rfl (fun h76 => ?_) (fun h76 => ?_)
        · refine sxc_seq ?_
          refine sxc_region ?_
          refine sxo_move rfl rfl rfl ?_
          refine sxo_assign rfl rfl rfl ?_
          refine sxo_assign rfl rfl rfl ?_
          refine sxo_nil ?_
          refine sxq_next ?_
          refine sxc_ret ?_
          refine sxq_thenR ?_
          refine sxq_blkR ?_
          refine sxq_thenR ?_
          refine sxq_blkR ?_
          refine sxq_thenR ?_
          refine sxq_nilrow Int (eI .u64) 27 1 ?_
          exact sxq_doneP (none, 0) (.inl rfl) (res2 rfl rfl rfl) (fun h => by subst h; rfl) (fun h => by subst h; exact (.cons 0 rfl .nil))
        · refine sxc_skip ?_
          refine sxq_next ?_
          refine sxc_seq ?_
          refine sxc_region ?_
          refine sxo_move rfl rfl rfl ?_
          refine sxo_move rfl rfl rfl ?_
          refine sxo_slit (vs := [.int .u64 x69.1]) (ys := ([x69.1] : List Int)) (eI_ok .u64) (by decide) rfl Try.underlying22 tf27 rfl rfl rfl rfl rfl (by decide) (fun a71 c72 => ?_)
          refine sxo_app 1 (eI_ok .u64) rfl Try.underlying22 tf27 rfl rfl rfl rfl rfl (.inl ⟨0, _, rfl⟩) rfl rfl (fun x73 e73 a74 c75 => ?_)
          refine sxo_assign rfl rfl rfl ?_
          refine sxo_nil ?_
          refine sxq_next ?_
          refine sxc_region ?_
          refine sxo_move rfl rfl rfl ?_
          refine sxo_assign rfl rfl rfl ?_
          refine sxo_nil ?_
          refine sxq_blkN ?_
          exact sxq_againP ((x73, x69.2.1), (a74, c75)) (lk_cons rfl (lk_cons rfl (lk_cons rfl lk_nil))) .nil (.cons 0 rfl .nil) (fk_cons 0 rfl fk_nil)
      · refine sxc_exit ?_
        refine sxq_thenX ?_
        refine sxq_thenX ?_
        refine sxq_blkX ?_
        exact sxq_meetP (x55, (a53, c54)) (lk_cons rfl lk_nil) .nil (.cons 0 rfl .nil) fk_nil
    · rintro ⟨x42, ⟨a40, c41⟩⟩
      try dsimp only
      refine sxc_seq ?_
      refine sxc_region ?_
      refine sxo_move rfl rfl rfl ?_
      refine sxo_assign rfl rfl rfl ?_
      refine sxo_assign rfl rfl rfl ?_
      refine sxo_nil ?_
      refine sxq_next ?_
      refine sxc_ret ?_
      exact sxq_doneP (a40, c41) (.inl rfl) (res2 rfl rfl rfl) (fun h => by subst h; rfl) (fun h => by subst h; exact (.cons 0 rfl .nil))

theorem C_varint_Fold (F : Nat) (x1 : Int) (r : Int) (hm : M_varint_Fold F x1 = some r) :
    Pure Try.prog 16 [.int .i64 x1] [] Unit (fun _ => .int .u64 r) (fun _ => []) (fun _ => []) := by
  refine pure_of Try.func16 rfl Try.ntmps16 rfl hm (fun w => ?_)
  refine sxc_env (l' := [(0, .int .i64 x1)]) rfl ?_
  refine sxc_seq ?_
  refine sxc_region ?_
  refine sxo_assign rfl rfl rfl ?_
  refine sxo_nil ?_
  refine sxq_next ?_
  refine sxc_seq ?_
  refine sxc_region ?_
  refine sxo_move rfl rfl rfl ?_
  refine sxo_conv rfl Try.underlying2 Try.underlying27 rfl rfl ?_
  refine sxo_shl rfl rfl rfl rfl rfl ?_
  refine sxo_move rfl rfl rfl ?_
  refine sxo_shr rfl rfl rfl rfl rfl ?_
  refine sxo_conv rfl Try.underlying2 Try.underlying27 rfl rfl ?_
  refine sxo_xor rfl rfl rfl rfl ?_
  refine sxo_assign rfl rfl rfl ?_
  refine sxo_lett (fun x2 e2 => ?_)
  refine sxo_again (d := 2) (v := .int .u64 x2) rfl (by rw [e2]) ?_
  refine sxo_nil ?_
  refine sxq_next ?_
  refine sxc_ret ?_
  exact sxq_doneP () (.inl rfl) (res1 rfl rfl) (fun h => by subst h; rfl) (fun h => by subst h; exact .nil)

theorem C_varint_Unfold (F : Nat) (x1 : Int) (r : Int) (hm : M_varint_Unfold F x1 = some r) :
    Pure Try.prog 18 [.int .u64 x1] [] Unit (fun _ => .int .i64 r) (fun _ => []) (fun _ => []) := by
  refine pure_of Try.func18 rfl Try.ntmps18 rfl hm (fun w => ?_)
  refine sxc_env (l' := [(0, .int .u64 x1)]) rfl ?_
  refine sxc_seq ?_
  refine sxc_region ?_
  refine sxo_assign rfl rfl rfl ?_
  refine sxo_nil ?_
  refine sxq_next ?_
  refine sxc_seq ?_
  refine sxc_region ?_
  refine sxo_move rfl rfl rfl ?_
  refine sxo_shr rfl rfl rfl rfl rfl ?_
  refine sxo_conv rfl Try.underlying27 Try.underlying2 rfl rfl ?_
  refine sxo_move rfl rfl rfl ?_
  refine sxo_and rfl rfl rfl rfl ?_
  refine sxo_conv rfl Try.underlying27 Try.underlying2 rfl rfl ?_
  refine sxo_neg rfl rfl rfl ?_
  refine sxo_xor rfl rfl rfl rfl ?_
  refine sxo_assign rfl rfl rfl ?_
  refine sxo_lett (fun x2 e2 => ?_)
  refine sxo_again (d := 2) (v := .int .i64 x2) rfl (by rw [e2]) ?_
  refine sxo_nil ?_
  refine sxq_next ?_
  refine sxc_ret ?_
  exact sxq_doneP () (.inl rfl) (res1 rfl rfl) (fun h => by subst h; rfl) (fun h => by subst h; exact .nil)

theorem C_R_SameBytes (F : Nat) (x1 : List Int) (a2 : Option Addr) (c3 : Nat) (x4 : List Int) (a5 : Option Addr) (c6 : Nat) (r : Bool) (hm : M_R_SameBytes F x1 x4 = some r) :
    Pure Try.prog 19 [.slice a2 x1.length c3, .slice a5 x4.length c6] [Sl (eI .u8) 1 (.slice a2 x1.length c3) x1, Sl (eI .u8) 1 (.slice a5 x4.length c6) x4] Unit (fun _ => .bool r) (fun _ => []) (fun _ => []) := by
  refine pure_of Try.func19 rfl Try.ntmps19 rfl hm (fun w => ?_)
  refine sxc_env (l' := [(0, .slice a2 x1.length c3), (1, .slice a5 x4.length c6)]) rfl ?_
  refine sxc_seq ?_
  refine sxc_region ?_
  refine sxo_assign rfl rfl rfl ?_
  refine sxo_nil ?_
  refine sxq_next ?_
  refine sxc_seq ?_
  refine sxc_seq ?_
  refine sxc_region ?_
  refine sxo_move rfl rfl rfl ?_
  refine sxo_len rfl Try.underlying23 rfl rfl ?_
  refine sxo_move rfl rfl rfl ?_
  refine sxo_len rfl Try.underlying23 rfl rfl ?_
  refine sxo_neq rfl rfl rfl rfl ?_
  refine sxo_nil ?_
  refine sxq_next ?_
  refine sxc_if rfl (fun h228 => ?_) (fun h228 => ?_)
  · refine sxc_seq ?_
    refine sxc_region ?_
    refine sxo_assign rfl rfl rfl ?_
    refine sxo_nil ?_
    refine sxq_next ?_
    refine sxc_ret ?_
    refine sxq_thenR ?_
    exact sxq_doneP () (.inl rfl) (res1 rfl rfl) (fun h => by subst h; rfl) (fun h => by subst h; exact .nil)
  · refine sxc_skip ?_
    refine sxq_next ?_
    refine sxc_join (fun ((_, _) : (Unit × Unit)) => []) (fun ((_, _) : (Unit × Unit)) => []) (fun ((_, _) : (Unit × Unit)) => []) (fun ((_, _) : (Unit × Unit)) => []) (fun ((_, _) : (Unit × Unit)) => M_R_SameBytes_j2 F) ?_ ?_
    · refine sxc_seq ?_
      refine sxc_region ?_
      refine sxo_assign rfl rfl rfl ?_
      refine sxo_nil ?_
      refine sxq_next ?_
      refine sxc_block ?_
      refine sxc_loopP (fun ((x154, _) : (Int × Unit)) => [(0, .slice a2 x1.length c3), (1, .slice a5 x4.length c6), (5, .int .i64 x154)]) (fun ((x154, _) : (Int × Unit)) => []) (fun ((x154, _) : (Int × Unit)) => []) (fun ((x154, _) : (Int × Unit)) => [Sl (eI .u8) 1 (.slice a2 x1.length c3) x1, Sl (eI .u8) 1 (.slice a5 x4.length c6) x4]) (fun k (s : (Int × Unit)) => M_R_SameBytes_l3 F x1 x4 k s.1) (0, ()) F (lk_cons rfl (lk_cons rfl (lk_cons rfl lk_nil))) .nil .nil (fk_cons 0 rfl (fk_cons 1 rfl fk_nil)) (fun _ => rfl) ?_
      intro k191
      rintro ⟨x154, _⟩
      try dsimp only
      refine sxc_meq (m' := M_R_SameBytes_b3 F x1 x4 (M_R_SameBytes_l3 F x1 x4 k191) x154) rfl ?_
      refine sxc_seq ?_
      refine sxc_seq ?_
      refine sxc_region ?_
      refine sxo_move rfl rfl rfl ?_
      refine sxo_move rfl rfl rfl ?_
      refine sxo_len rfl Try.underlying23 rfl rfl ?_
      refine sxo_lss rfl rfl rfl rfl ?_
      refine sxo_nil ?_
      refine sxq_next ?_
      refine sxc_if rfl (fun h227 => ?_) (fun h227 => ?_)
      · refine sxc_skip ?_
        refine sxq_next ?_
        refine sxc_seq ?_
        refine sxc_block ?_
        refine sxc_seq ?_
        refine sxc_idxF (j := 0) (eI_ok .u8) (by decide) rfl (fun x218 e218 b219 o220 h221 => ?_)
        refine sxc_idxF (j := 2) (eI_ok .u8) (by decide) rfl (fun x222 e222 b223 o224 h225 => ?_)
        refine sxc_draw mixed [] [CellsAt b223 (o224 + x154.toNat * 1) ((eI .u8) x222), CellsAt b219 (o220 + x154.toNat * 1) ((eI .u8) x218), Sl (eI .u8) 1 (.slice a2 x1.length c3) x1, Sl (eI .u8) 1 (.slice a5 x4.length c6) x4] .nil (fk_cons 0 rfl (fk_cons 1 rfl (fk_cons 2 rfl (fk_cons 3 rfl fk_nil)))) 9 rfl ?_
        refine sxa_take 0 (.slice a2 x1.length c3) rfl rfl rfl rfl (by kernel_rfl) (by kernel_rfl) (by kernel_rfl) (show _ = #[true, false, false, false, false, false, false, false, false] from rfl) (yv_pv rfl) ?_
        refine sxa_take 1 (.int .i64 x154) rfl rfl rfl rfl (by kernel_rfl) (by kernel_rfl) (by kernel_rfl) (show _ = #[true, true, false, false, false, false, false, false, false] from rfl) (yv_pv rfl) ?_
        refine sxa_again (d := 17) (v := .slice (some ⟨b219, o220, none⟩) x1.length c3) rfl (by rw [h221]) ?_
        refine sxa_take 2 (.pointer (some ⟨b219, (o220 + x154.toNat * 1), none⟩)) rfl rfl rfl rfl (by kernel_rfl) (by kernel_rfl) (by kernel_rfl) (show _ = #[true, true, true, false, false, false, false, false, false] from rfl) (yv_idx Try.underlying23 tf5 rfl rfl (idx_get e218).1 (idx_lt e218)) ?_
        refine sxa_again (d := 17) (v := .slice a2 x1.length c3) rfl (by rw [h221]) ?_
        refine sxa_take 3 (.int .u8 x218) rfl rfl rfl rfl (by kernel_rfl) (by kernel_rfl) (by kernel_rfl) (show _ = #[true, true, true, true, false, false, false, false, false] from rfl) (yv_loadF (j := 1) rfl tf5 rfl rfl (fun _ => rfl) rfl) ?_
        refine sxa_take 4 (.slice a5 x4.length c6) rfl rfl rfl rfl (by kernel_rfl) (by kernel_rfl) (by kernel_rfl) (show _ = #[true, true, true, true, true, false, false, false, false] from rfl) (yv_pv rfl) ?_
        refine sxa_take 5 (.int .i64 x154) rfl rfl rfl rfl (by kernel_rfl) (by kernel_rfl) (by kernel_rfl) (show _ = #[true, true, true, true, true, true, false, false, false] from rfl) (yv_pv rfl) ?_
        refine sxa_again (d := 21) (v := .slice (some ⟨b223, o224, none⟩) x4.length c6) rfl (by rw [h225]) ?_
        refine sxa_take 6 (.pointer (some ⟨b223, (o224 + x154.toNat * 1), none⟩)) rfl rfl rfl rfl (by kernel_rfl) (by kernel_rfl) (by kernel_rfl) (show _ = #[true, true, true, true, true, true, true, false, false] from rfl) (yv_idx Try.underlying23 tf5 rfl rfl (idx_get e222).1 (idx_lt e222)) ?_
        refine sxa_again (d := 21) (v := .slice a5 x4.length c6) rfl (by rw [h225]) ?_
        refine sxa_take 7 (.int .u8 x222) rfl rfl rfl rfl (by kernel_rfl) (by kernel_rfl) (by kernel_rfl) (show _ = #[true, true, true, true, true, true, true, true, false] from rfl) (yv_loadF (j := 0) rfl tf5 rfl rfl (fun _ => rfl) rfl) ?_
        refine sxa_take 8 (.bool ((x218 : Int) != x222)) rfl rfl rfl rfl (by kernel_rfl) (by kernel_rfl) (by kernel_rfl) (show _ = #[true, true, true, true, true, true, true, true, true] from rfl) (yv_pv rfl) ?_
        refine sxa_done (by kernel_rfl) ?_
        refine sxq_np ?_ (by intro c h; cases h)
        refine sxq_next ?_
        refine sxc_if rfl (fun h226 => ?_) (fun h226 => ?_)
        · refine sxc_seq ?_
          refine sxc_region ?_
          refine sxo_assign rfl rfl rfl ?_
          refine sxo_nil ?_
          refine sxq_next ?_
          refine sxc_ret ?_
          refine sxq_blkR ?_
          refine sxq_thenR ?_
          refine sxq_thenR ?_
          refine sxq_blkR ?_
          refine sxq_thenR ?_
          exact sxq_doneP () (.inl rfl) (res1 rfl rfl) (fun h => by subst h; rfl) (fun h => by subst h; exact .nil)
        · refine sxc_skip ?_
          refine sxq_blkN ?_
          refine sxq_next ?_
          refine sxc_region ?_
          refine sxo_move rfl rfl rfl ?_
          refine sxo_add rfl rfl rfl rfl ?_
          refine sxo_assign rfl rfl rfl ?_
          refine sxo_nil ?_
          exact sxq_againP (iadd .i64 x154 1, ()) (lk_cons rfl (lk_cons rfl (lk_cons rfl lk_nil))) .nil .nil (fk_cons 2 rfl (fk_cons 3 rfl fk_nil))
      · refine sxc_exit ?_
        refine sxq_thenX ?_
        refine sxq_thenX ?_
        refine sxq_blkX ?_
        exact sxq_meetP ((), ()) lk_nil .nil .nil fk_nil
    · rintro ⟨_, _⟩
      try dsimp only
      refine sxc_seq ?_
      refine sxc_region ?_
      refine sxo_assign rfl rfl rfl ?_
      refine sxo_nil ?_
      refine sxq_next ?_
      refine sxc_ret ?_
      exact sxq_doneP () (.inl rfl) (res1 rfl rfl) (fun h => by subst h; rfl) (fun h => by subst h; exact .nil)

theorem C_R_SameNums (F : Nat) (x1 : List Int) (a2 : Option Addr) (c3 : Nat) (x4 : List Int) (a5 : Option Addr) (c6 : Nat) (r : Bool) (hm : M_R_SameNums F x1 x4 = some r) :
    Pure Try.prog 20 [.slice a2 x1.length c3, .slice a5 x4.length c6] [Sl (eI .u64) 1 (.slice a2 x1.length c3) x1, Sl (eI .u64) 1 (.slice a5 x4.length c6) x4] Unit (fun _ => .bool r) (fun _ => []) (fun _ => []) := by
  refine pure_of Try.func20 rfl Try.ntmps20 rfl hm (fun w => ?_)
  refine sxc_env (l' := [(0, .slice a2 x1.length c3), (1, .slice a5 x4.length c6)]) rfl ?_
  refine sxc_seq ?_
  refine sxc_region ?_
  refine sxo_assign rfl rfl rfl ?_
  refine sxo_nil ?_
  refine sxq_next ?_
  refine sxc_seq ?_
  refine sxc_seq ?_
  refine sxc_region ?_
  refine sxo_move rfl rfl rfl ?_
  refine sxo_len rfl Try.underlying22 rfl rfl ?_
  refine sxo_move rfl rfl rfl ?_
  refine sxo_len rfl Try.underlying22 rfl rfl ?_
  refine sxo_neq rfl rfl rfl rfl ?_
  refine sxo_nil ?_
  refine sxq_next ?_
  refine sxc_if rfl (fun h228 => ?_) (fun h228 => ?_)
  · refine sxc_seq ?_
    refine sxc_region ?_
    refine sxo_assign rfl rfl rfl ?_
    refine sxo_nil ?_
    refine sxq_next ?_
    refine sxc_ret ?_
    refine sxq_thenR ?_
    exact sxq_doneP () (.inl rfl) (res1 rfl rfl) (fun h => by subst h; rfl) (fun h => by subst h; exact .nil)
  · refine sxc_skip ?_
    refine sxq_next ?_
    refine sxc_join (fun ((_, _) : (Unit × Unit)) => []) (fun ((_, _) : (Unit × Unit)) => []) (fun ((_, _) : (Unit × Unit)) => []) (fun ((_, _) : (Unit × Unit)) => []) (fun ((_, _) : (Unit × Unit)) => M_R_SameNums_j2 F) ?_ ?_
    · refine sxc_seq ?_
      refine sxc_region ?_
      refine sxo_assign rfl rfl rfl ?_
      refine sxo_nil ?_
      refine sxq_next ?_
      refine sxc_block ?_
      refine sxc_loopP (fun ((x154, _) : (Int × Unit)) => [(0, .slice a2 x1.length c3), (1, .slice a5 x4.length c6), (5, .int .i64 x154)]) (fun ((x154, _) : (Int × Unit)) => []) (fun ((x154, _) : (Int × Unit)) => []) (fun ((x154, _) : (Int × Unit)) => [Sl (eI .u64) 1 (.slice a2 x1.length c3) x1, Sl (eI .u64) 1 (.slice a5 x4.length c6) x4]) (fun k (s : (Int × Unit)) => M_R_SameNums_l3 F x1 x4 k s.1) (0, ()) F (lk_cons rfl (lk_cons rfl (lk_cons rfl lk_nil))) .nil .nil (fk_cons 0 rfl (fk_cons 1 rfl fk_nil)) (fun _ => rfl) ?_
      intro k191
      rintro ⟨x154, _⟩
      try dsimp only
      refine sxc_meq (m' := M_R_SameNums_b3 F x1 x4 (M_R_SameNums_l3 F x1 x4 k191) x154) rfl ?_
      refine sxc_seq ?_
      refine sxc_seq ?_
      refine sxc_region ?_
      refine sxo_move rfl rfl rfl ?_
      refine sxo_move rfl rfl rfl ?_
      refine sxo_len rfl Try.underlying22 rfl rfl ?_
      refine sxo_lss rfl rfl rfl rfl ?_
      refine sxo_nil ?_
      refine sxq_next ?_
      refine sxc_if rfl (fun h227 => ?_) (fun h227 => ?_)
      · refine sxc_skip ?_
        refine sxq_next ?_
        refine sxc_seq ?_
        refine sxc_block ?_
        refine sxc_seq ?_
        refine sxc_idxF (j := 0) (eI_ok .u64) (by decide) rfl (fun x218 e218 b219 o220 h221 => ?_)
        refine sxc_idxF (j := 2) (eI_ok .u64) (by decide) rfl (fun x222 e222 b223 o224 h225 => ?_)
        refine sxc_draw mixed [] [CellsAt b223 (o224 + x154.toNat * 1) ((eI .u64) x222), CellsAt b219 (o220 + x154.toNat * 1) ((eI .u64) x218), Sl (eI .u64) 1 (.slice a2 x1.length c3) x1, Sl (eI .u64) 1 (.slice a5 x4.length c6) x4] .nil (fk_cons 0 rfl (fk_cons 1 rfl (fk_cons 2 rfl (fk_cons 3 rfl fk_nil)))) 9 rfl ?_
        refine sxa_take 0 (.slice a2 x1.length c3) rfl rfl rfl rfl (by kernel_rfl) (by kernel_rfl) (by kernel_rfl) (show _ = #[true, false, false, false, false, false, false, false, false] from rfl) (yv_pv rfl) ?_
        refine sxa_take 1 (.int .i64 x154) rfl rfl rfl rfl (by kernel_rfl) (by kernel_rfl) (by kernel_rfl) (show _ = #[true, true, false, false, false, false, false, false, false] from rfl) (yv_pv rfl) ?_
        refine sxa_again (d := 17) (v := .slice (some ⟨b219, o220, none⟩) x1.length c3) rfl (by rw [h221]) ?_
        refine sxa_take 2 (.pointer (some ⟨b219, (o220 + x154.toNat * 1), none⟩)) rfl rfl rfl rfl (by kernel_rfl) (by kernel_rfl) (by kernel_rfl) (show _ = #[true, true, true, false, false, false, false, false, false] from rfl) (yv_idx Try.underlying22 tf27 rfl rfl (idx_get e218).1 (idx_lt e218)) ?_
        refine sxa_again (d := 17) (v := .slice a2 x1.length c3) rfl (by rw [h221]) ?_
        refine sxa_take 3 (.int .u64 x218) rfl rfl rfl rfl (by kernel_rfl) (by kernel_rfl) (by kernel_rfl) (show _ = #[true, true, true, true, false, false, false, false, false] from rfl) (yv_loadF (j := 1) rfl tf27 rfl rfl (fun _ => rfl) rfl) ?_
        refine sxa_take 4 (.slice a5 x4.length c6) rfl rfl rfl rfl (by kernel_rfl) (by kernel_rfl) (by kernel_rfl) (show _ = #[true, true, true, true, true, false, false, false, false] from rfl) (yv_pv rfl) ?_
        refine sxa_take 5 (.int .i64 x154) rfl rfl rfl rfl (by kernel_rfl) (by kernel_rfl) (by kernel_rfl) (show _ = #[true, true, true, true, true, true, false, false, false] from rfl) (yv_pv rfl) ?_
        refine sxa_again (d := 21) (v := .slice (some ⟨b223, o224, none⟩) x4.length c6) rfl (by rw [h225]) ?_
        refine sxa_take 6 (.pointer (some ⟨b223, (o224 + x154.toNat * 1), none⟩)) rfl rfl rfl rfl (by kernel_rfl) (by kernel_rfl) (by kernel_rfl) (show _ = #[true, true, true, true, true, true, true, false, false] from rfl) (yv_idx Try.underlying22 tf27 rfl rfl (idx_get e222).1 (idx_lt e222)) ?_
        refine sxa_again (d := 21) (v := .slice a5 x4.length c6) rfl (by rw [h225]) ?_
        refine sxa_take 7 (.int .u64 x222) rfl rfl rfl rfl (by kernel_rfl) (by kernel_rfl) (by kernel_rfl) (show _ = #[true, true, true, true, true, true, true, true, false] from rfl) (yv_loadF (j := 0) rfl tf27 rfl rfl (fun _ => rfl) rfl) ?_
        refine sxa_take 8 (.bool ((x218 : Int) != x222)) rfl rfl rfl rfl (by kernel_rfl) (by kernel_rfl) (by kernel_rfl) (show _ = #[true, true, true, true, true, true, true, true, true] from rfl) (yv_pv rfl) ?_
        refine sxa_done (by kernel_rfl) ?_
        refine sxq_np ?_ (by intro c h; cases h)
        refine sxq_next ?_
        refine sxc_if rfl (fun h226 => ?_) (fun h226 => ?_)
        · refine sxc_seq ?_
          refine sxc_region ?_
          refine sxo_assign rfl rfl rfl ?_
          refine sxo_nil ?_
          refine sxq_next ?_
          refine sxc_ret ?_
          refine sxq_blkR ?_
          refine sxq_thenR ?_
          refine sxq_thenR ?_
          refine sxq_blkR ?_
          refine sxq_thenR ?_
          exact sxq_doneP () (.inl rfl) (res1 rfl rfl) (fun h => by subst h; rfl) (fun h => by subst h; exact .nil)
        · refine sxc_skip ?_
          refine sxq_blkN ?_
          refine sxq_next ?_
          refine sxc_region ?_
          refine sxo_move rfl rfl rfl ?_
          refine sxo_add rfl rfl rfl rfl ?_
          refine sxo_assign rfl rfl rfl ?_
          refine sxo_nil ?_
          exact sxq_againP (iadd .i64 x154 1, ()) (lk_cons rfl (lk_cons rfl (lk_cons rfl lk_nil))) .nil .nil (fk_cons 2 rfl (fk_cons 3 rfl fk_nil))
      · refine sxc_exit ?_
        refine sxq_thenX ?_
        refine sxq_thenX ?_
        refine sxq_blkX ?_
        exact sxq_meetP ((), ()) lk_nil .nil .nil fk_nil
    · rintro ⟨_, _⟩
      try dsimp only
      refine sxc_seq ?_
      refine sxc_region ?_
      refine sxo_assign rfl rfl rfl ?_
      refine sxo_nil ?_
      refine sxq_next ?_
      refine sxc_ret ?_
      exact sxq_doneP () (.inl rfl) (res1 rfl rfl) (fun h => by subst h; rfl) (fun h => by subst h; exact .nil)

theorem C_L_varintBegun (F : Nat)  (r : Bool) (hm : M_L_varintBegun F  = some r) :
    Pure Try.prog 15 [] [] Unit (fun _ => .bool r) (fun _ => []) (fun _ => []) := by
  refine pure_of Try.func15 rfl Try.ntmps15 rfl hm (fun w => ?_)
  refine sxc_env (l' := []) rfl ?_
  refine sxc_seq ?_
  refine sxc_region ?_
  refine sxo_assign rfl rfl rfl ?_
  refine sxo_nil ?_
  refine sxq_next ?_
  refine sxc_seq ?_
  refine sxc_region ?_
  refine sxo_slit (vs := [.int .u64 300, .int .u64 0]) (ys := ([300, 0] : List Int)) (eI_ok .u64) (by decide) rfl Try.underlying22 tf27 rfl rfl rfl rfl rfl (by decide) (fun a1 c2 => ?_)
  refine sxo_call ent9 rfl rfl rfl (fun x3 e3 => C_varint_Write F ([300, 0] : List Int) a1 c2 x3 e3) (.consR 0 (Ro (eI .u64) 27 1 (.slice a1 ([300, 0] : List Int).length c2) ([300, 0] : List Int)) rfl .nil) (fun x3 e3 => ?_)
  rintro ⟨a4, c5⟩
  refine sxo_move rfl rfl rfl ?_
  refine sxo_extract rfl rfl rfl rfl ?_
  refine sxo_extract rfl rfl rfl rfl ?_
  refine sxo_assign rfl rfl rfl ?_
  refine sxo_assign rfl rfl rfl ?_
  refine sxo_nil ?_
  refine sxq_next ?_
  refine sxc_seq ?_
  refine sxc_region ?_
  refine sxo_move rfl rfl rfl ?_
  refine sxo_call ent10 rfl rfl rfl (fun x6 e6 => C_varint_Read F x3.1 a4 c5 0 x6 e6) (.consR 0 (Ro (eI .u8) 5 1 (.slice a4 x3.1.length c5) x3.1) rfl .nil) (fun x6 e6 => ?_)
  intro _
  refine sxo_move rfl rfl rfl ?_
  refine sxo_extract rfl rfl rfl rfl ?_
  refine sxo_extract rfl rfl rfl rfl ?_
  refine sxo_extract rfl rfl rfl rfl ?_
  refine sxo_assign rfl rfl rfl ?_
  refine sxo_assign rfl rfl rfl ?_
  refine sxo_assign rfl rfl rfl ?_
  refine sxo_nil ?_
  refine sxq_next ?_
  refine sxc_seq ?_
  refine sxc_region ?_
  refine sxo_move rfl rfl rfl ?_
  refine sxo_callM ent11 rfl rfl rfl (fun x7 e7 => C_varint_All F x3.1 a4 c5 x7 e7) .nil .nil (.consR 0 (Ro (eI .u8) 5 1 (.slice a4 x3.1.length c5) x3.1) rfl .nil) (fun x7 e7 => ?_)
  rintro ⟨a8, c9⟩
  refine sxo_move rfl rfl rfl ?_
  refine sxo_extract rfl rfl rfl rfl ?_
  refine sxo_extract rfl rfl rfl rfl ?_
  refine sxo_assign rfl rfl rfl ?_
  refine sxo_assign rfl rfl rfl ?_
  refine sxo_nil ?_
  refine sxq_next ?_
  refine sxc_seq ?_
  refine sxc_region ?_
  refine sxo_slit (vs := [.int .u8 128, .int .u8 0]) (ys := ([128, 0] : List Int)) (eI_ok .u8) (by decide) rfl Try.underlying23 tf5 rfl rfl rfl rfl rfl (by decide) (fun a10 c11 => ?_)
  refine sxo_call ent10 rfl rfl rfl (fun x12 e12 => C_varint_Read F ([128, 0] : List Int) a10 c11 0 x12 e12) (.consR 0 (Ro (eI .u8) 5 1 (.slice a10 ([128, 0] : List Int).length c11) ([128, 0] : List Int)) rfl .nil) (fun x12 e12 => ?_)
  intro _
  refine sxo_move rfl rfl rfl ?_
  refine sxo_extract rfl rfl rfl rfl ?_
  refine sxo_extract rfl rfl rfl rfl ?_
  refine sxo_extract rfl rfl rfl rfl ?_
  refine sxo_assign rfl rfl rfl ?_
  refine sxo_assign rfl rfl rfl ?_
  refine sxo_assign rfl rfl rfl ?_
  refine sxo_nil ?_
  refine sxq_next ?_
  refine sxc_seq ?_
  refine sxc_region ?_
  refine sxo_slit (vs := [.int .u8 128]) (ys := ([128] : List Int)) (eI_ok .u8) (by decide) rfl Try.underlying23 tf5 rfl rfl rfl rfl rfl (by decide) (fun a13 c14 => ?_)
  refine sxo_call ent10 rfl rfl rfl (fun x15 e15 => C_varint_Read F ([128] : List Int) a13 c14 0 x15 e15) (.consR 0 (Ro (eI .u8) 5 1 (.slice a13 ([128] : List Int).length c14) ([128] : List Int)) rfl .nil) (fun x15 e15 => ?_)
  intro _
  refine sxo_move rfl rfl rfl ?_
  refine sxo_extract rfl rfl rfl rfl ?_
  refine sxo_extract rfl rfl rfl rfl ?_
  refine sxo_extract rfl rfl rfl rfl ?_
  refine sxo_assign rfl rfl rfl ?_
  refine sxo_assign rfl rfl rfl ?_
  refine sxo_assign rfl rfl rfl ?_
  refine sxo_nil ?_
  refine sxq_next ?_
  refine sxc_seq ?_
  refine sxc_region ?_
  refine sxo_move rfl rfl rfl ?_
  refine sxo_slit (vs := [.int .u8 172, .int .u8 2, .int .u8 0]) (ys := ([172, 2, 0] : List Int)) (eI_ok .u8) (by decide) rfl Try.underlying23 tf5 rfl rfl rfl rfl rfl (by decide) (fun a16 c17 => ?_)
  refine sxo_call ent19 rfl rfl rfl (fun x18 e18 => C_R_SameBytes F x3.1 a4 c5 ([172, 2, 0] : List Int) a16 c17 x18 e18) (.consR 4 (Ro (eI .u8) 5 1 (.slice a4 x3.1.length c5) x3.1) rfl (.consR 0 (Ro (eI .u8) 5 1 (.slice a16 ([172, 2, 0] : List Int).length c17) ([172, 2, 0] : List Int)) rfl .nil)) (fun x18 e18 => ?_)
  intro _
  refine sxo_move rfl rfl rfl ?_
  refine sxo_case 3 x18 [(3, .int .u64 x6.1), (4, .int .i64 x6.2.1), (5, .int .i64 x6.2.2), (6, .slice a8 x7.1.length c9), (7, .int .i64 x7.2), (10, .int .i64 x12.2.2), (13, .int .i64 x15.2.2), (48, .bool (x18 && ((x3.2 : Int) == 0)))] (fun h19 => ?_) (fun h19 => ?_) ?_
  · refine sxo_take (os := _) rfl ?_
    refine sxo_isT (k := 45) rfl h19 ?_
    refine sxo_move rfl rfl rfl ?_
    refine sxo_eql rfl rfl rfl rfl ?_
    refine sxo_pick (b := true) rfl rfl rfl rfl ?_
    refine sxo_again (d := 48) (v := .bool (x18 && ((x3.2 : Int) == 0))) rfl (by rw [h19]; simp only [Bool.true_and]) ?_
    refine sxo_nil ?_
    exact sxq_case (lk_cons rfl (lk_cons rfl (lk_cons rfl (lk_cons rfl (lk_cons rfl (lk_cons rfl (lk_cons rfl (lk_cons rfl lk_nil))))))))
  · refine sxo_take (os := _) rfl ?_
    refine sxo_isF (k := 45) rfl h19 ?_
    refine sxo_skip rfl rfl rfl ?_
    refine sxo_skip rfl rfl rfl ?_
    refine sxo_pick (b := false) rfl rfl rfl rfl ?_
    refine sxo_again (d := 48) (v := .bool (x18 && ((x3.2 : Int) == 0))) rfl (by rw [h19]; simp only [Bool.false_and]) ?_
    refine sxo_nil ?_
    exact sxq_case (lk_cons rfl (lk_cons rfl (lk_cons rfl (lk_cons rfl (lk_cons rfl (lk_cons rfl (lk_cons rfl (lk_cons rfl lk_nil))))))))
  refine sxo_take (os := _) rfl ?_
  refine sxo_move rfl rfl rfl ?_
  refine sxo_case 3 (x18 && ((x3.2 : Int) == 0)) [(4, .int .i64 x6.2.1), (5, .int .i64 x6.2.2), (6, .slice a8 x7.1.length c9), (7, .int .i64 x7.2), (10, .int .i64 x12.2.2), (13, .int .i64 x15.2.2), (52, .bool ((x18 && ((x3.2 : Int) == 0)) && ((x6.1 : Int) == 300)))] (fun h20 => ?_) (fun h20 => ?_) ?_
  · refine sxo_take (os := _) rfl ?_
    refine sxo_isT (k := 49) rfl h20 ?_
    refine sxo_move rfl rfl rfl ?_
    refine sxo_eql rfl rfl rfl rfl ?_
    refine sxo_pick (b := true) rfl rfl rfl rfl ?_
    refine sxo_again (d := 52) (v := .bool ((x18 && ((x3.2 : Int) == 0)) && ((x6.1 : Int) == 300))) rfl (by rw [h20]; simp only [Bool.true_and]) ?_
    refine sxo_nil ?_
    exact sxq_case (lk_cons rfl (lk_cons rfl (lk_cons rfl (lk_cons rfl (lk_cons rfl (lk_cons rfl (lk_cons rfl lk_nil)))))))
  · refine sxo_take (os := _) rfl ?_
    refine sxo_isF (k := 49) rfl h20 ?_
    refine sxo_skip rfl rfl rfl ?_
    refine sxo_skip rfl rfl rfl ?_
    refine sxo_pick (b := false) rfl rfl rfl rfl ?_
    refine sxo_again (d := 52) (v := .bool ((x18 && ((x3.2 : Int) == 0)) && ((x6.1 : Int) == 300))) rfl (by rw [h20]; simp only [Bool.false_and]) ?_
    refine sxo_nil ?_
    exact sxq_case (lk_cons rfl (lk_cons rfl (lk_cons rfl (lk_cons rfl (lk_cons rfl (lk_cons rfl (lk_cons rfl lk_nil)))))))
  refine sxo_take (os := _) rfl ?_
  refine sxo_move rfl rfl rfl ?_
  refine sxo_case 3 ((x18 && ((x3.2 : Int) == 0)) && ((x6.1 : Int) == 300)) [(5, .int .i64 x6.2.2), (6, .slice a8 x7.1.length c9), (7, .int .i64 x7.2), (10, .int .i64 x12.2.2), (13, .int .i64 x15.2.2), (56, .bool (((x18 && ((x3.2 : Int) == 0)) && ((x6.1 : Int) == 300)) && ((x6.2.1 : Int) == 2)))] (fun h21 => ?_) (fun h21 => ?_) ?_
  · refine sxo_take (os := _) rfl ?_
    refine sxo_isT (k := 53) rfl h21 ?_
    refine sxo_move rfl rfl rfl ?_
    refine sxo_eql rfl rfl rfl rfl ?_
    refine sxo_pick (b := true) rfl rfl rfl rfl ?_
    refine sxo_again (d := 56) (v := .bool (((x18 && ((x3.2 : Int) == 0)) && ((x6.1 : Int) == 300)) && ((x6.2.1 : Int) == 2))) rfl (by rw [h21]; simp only [Bool.true_and]) ?_
    refine sxo_nil ?_
    exact sxq_case (lk_cons rfl (lk_cons rfl (lk_cons rfl (lk_cons rfl (lk_cons rfl (lk_cons rfl lk_nil))))))
  · refine sxo_take (os := _) rfl ?_
    refine sxo_isF (k := 53) rfl h21 ?_
    refine sxo_skip rfl rfl rfl ?_
    refine sxo_skip rfl rfl rfl ?_
    refine sxo_pick (b := false) rfl rfl rfl rfl ?_
    refine sxo_again (d := 56) (v := .bool (((x18 && ((x3.2 : Int) == 0)) && ((x6.1 : Int) == 300)) && ((x6.2.1 : Int) == 2))) rfl (by rw [h21]; simp only [Bool.false_and]) ?_
    refine sxo_nil ?_
    exact sxq_case (lk_cons rfl (lk_cons rfl (lk_cons rfl (lk_cons rfl (lk_cons rfl (lk_cons rfl lk_nil))))))
  refine sxo_take (os := _) rfl ?_
  refine sxo_move rfl rfl rfl ?_
  refine sxo_case 3 (((x18 && ((x3.2 : Int) == 0)) && ((x6.1 : Int) == 300)) && ((x6.2.1 : Int) == 2)) [(6, .slice a8 x7.1.length c9), (7, .int .i64 x7.2), (10, .int .i64 x12.2.2), (13, .int .i64 x15.2.2), (60, .bool ((((x18 && ((x3.2 : Int) == 0)) && ((x6.1 : Int) == 300)) && ((x6.2.1 : Int) == 2)) && ((x6.2.2 : Int) == 0)))] (fun h22 => ?_) (fun h22 => ?_) ?_
  · refine sxo_take (os := _) rfl ?_
    refine sxo_isT (k := 57) rfl h22 ?_
    refine sxo_move rfl rfl rfl ?_
    refine sxo_eql rfl rfl rfl rfl ?_
    refine sxo_pick (b := true) rfl rfl rfl rfl ?_
    refine sxo_again (d := 60) (v := .bool ((((x18 && ((x3.2 : Int) == 0)) && ((x6.1 : Int) == 300)) && ((x6.2.1 : Int) == 2)) && ((x6.2.2 : Int) == 0))) rfl (by rw [h22]; simp only [Bool.true_and]) ?_
    refine sxo_nil ?_
    exact sxq_case (lk_cons rfl (lk_cons rfl (lk_cons rfl (lk_cons rfl (lk_cons rfl lk_nil)))))
  · refine sxo_take (os := _) rfl ?_
    refine sxo_isF (k := 57) rfl h22 ?_
    refine sxo_skip rfl rfl rfl ?_
    refine sxo_skip rfl rfl rfl ?_
    refine sxo_pick (b := false) rfl rfl rfl rfl ?_
    refine sxo_again (d := 60) (v := .bool ((((x18 && ((x3.2 : Int) == 0)) && ((x6.1 : Int) == 300)) && ((x6.2.1 : Int) == 2)) && ((x6.2.2 : Int) == 0))) rfl (by rw [h22]; simp only [Bool.false_and]) ?_
    refine sxo_nil ?_
    exact sxq_case (lk_cons rfl (lk_cons rfl (lk_cons rfl (lk_cons rfl (lk_cons rfl lk_nil)))))
  refine sxo_take (os := _) rfl ?_
  refine sxo_move rfl rfl rfl ?_
  refine sxo_join 4 (fun ((x27, _) : (Bool × Unit)) => [(7, .int .i64 x7.2), (10, .int .i64 x12.2.2), (13, .int .i64 x15.2.2), (65, .bool x27)]) (fun ((x27, _) : (Bool × Unit)) => []) (fun ((x27, _) : (Bool × Unit)) => []) (fun ((x27, _) : (Bool × Unit)) => []) (fun ((x27, _) : (Bool × Unit)) => M_L_varintBegun_j1 F x7 x12 x15 x27) ?_ ?_
  · refine sxo_take (os := _) rfl ?_
    refine sxo_if (fun h23 => ?_) (fun h23 => ?_)
    · refine sxo_isT (k := 61) rfl h23 ?_
      refine sxo_move rfl rfl rfl ?_
      refine sxo_slit (vs := [.int .u64 300, .int .u64 0]) (ys := ([300, 0] : List Int)) (eI_ok .u64) (by decide) rfl Try.underlying22 tf27 rfl rfl rfl rfl rfl (by decide) (fun a43 c44 => ?_)
      refine sxo_call ent20 rfl rfl rfl (fun x45 e45 => C_R_SameNums F x7.1 a8 c9 ([300, 0] : List Int) a43 c44 x45 e45) (.consR 4 (Ro (eI .u64) 27 1 (.slice a8 x7.1.length c9) x7.1) rfl (.consR 0 (Ro (eI .u64) 27 1 (.slice a43 ([300, 0] : List Int).length c44) ([300, 0] : List Int)) rfl .nil)) (fun x45 e45 => ?_)
      intro _
      refine sxo_pick (b := true) rfl rfl rfl rfl ?_
      refine sxo_nil ?_
      exact sxq_meetP (x45, ()) (lk_cons rfl (lk_cons rfl (lk_cons rfl (lk_cons rfl lk_nil)))) .nil .nil fk_nil
    · refine sxo_isF (k := 61) rfl h23 ?_
      refine sxo_skip rfl rfl rfl ?_
      refine sxo_skip rfl rfl rfl ?_
      refine sxo_skip rfl rfl rfl ?_
      refine sxo_pick (b := false) rfl rfl rfl rfl ?_
      refine sxo_nil ?_
      exact sxq_meetP (false, ()) (lk_cons rfl (lk_cons rfl (lk_cons rfl (lk_cons rfl lk_nil)))) .nil .nil fk_nil
  · rintro ⟨x27, _⟩
    try dsimp only
    refine sxo_take (os := _) rfl ?_
    refine sxo_move rfl rfl rfl ?_
    refine sxo_case 3 x27 [(10, .int .i64 x12.2.2), (13, .int .i64 x15.2.2), (69, .bool (x27 && ((x7.2 : Int) == 0)))] (fun h28 => ?_) (fun h28 => ?_) ?_
    · refine sxo_take (os := _) rfl ?_
      refine sxo_isT (k := 66) rfl h28 ?_
      refine sxo_move rfl rfl rfl ?_
      refine sxo_eql rfl rfl rfl rfl ?_
      refine sxo_pick (b := true) rfl rfl rfl rfl ?_
      refine sxo_again (d := 69) (v := .bool (x27 && ((x7.2 : Int) == 0))) rfl (by rw [h28]; simp only [Bool.true_and]) ?_
      refine sxo_nil ?_
      exact sxq_case (lk_cons rfl (lk_cons rfl (lk_cons rfl lk_nil)))
    · refine sxo_take (os := _) rfl ?_
      refine sxo_isF (k := 66) rfl h28 ?_
      refine sxo_skip rfl rfl rfl ?_
      refine sxo_skip rfl rfl rfl ?_
      refine sxo_pick (b := false) rfl rfl rfl rfl ?_
      refine sxo_again (d := 69) (v := .bool (x27 && ((x7.2 : Int) == 0))) rfl (by rw [h28]; simp only [Bool.false_and]) ?_
      refine sxo_nil ?_
      exact sxq_case (lk_cons rfl (lk_cons rfl (lk_cons rfl lk_nil)))
    refine sxo_take (os := _) rfl ?_
    refine sxo_move rfl rfl rfl ?_
    refine sxo_case 3 (x27 && ((x7.2 : Int) == 0)) [(13, .int .i64 x15.2.2), (73, .bool ((x27 && ((x7.2 : Int) == 0)) && ((x12.2.2 : Int) == 1)))] (fun h29 => ?_) (fun h29 => ?_) ?_
    · refine sxo_take (os := _) rfl ?_
      refine sxo_isT (k := 70) rfl h29 ?_
      refine sxo_move rfl rfl rfl ?_
      refine sxo_eql rfl rfl rfl rfl ?_
      refine sxo_pick (b := true) rfl rfl rfl rfl ?_
      refine sxo_again (d := 73) (v := .bool ((x27 && ((x7.2 : Int) == 0)) && ((x12.2.2 : Int) == 1))) rfl (by rw [h29]; simp only [Bool.true_and]) ?_
      refine sxo_nil ?_
      exact sxq_case (lk_cons rfl (lk_cons rfl lk_nil))
    · refine sxo_take (os := _) rfl ?_
      refine sxo_isF (k := 70) rfl h29 ?_
      refine sxo_skip rfl rfl rfl ?_
      refine sxo_skip rfl rfl rfl ?_
      refine sxo_pick (b := false) rfl rfl rfl rfl ?_
      refine sxo_again (d := 73) (v := .bool ((x27 && ((x7.2 : Int) == 0)) && ((x12.2.2 : Int) == 1))) rfl (by rw [h29]; simp only [Bool.false_and]) ?_
      refine sxo_nil ?_
      exact sxq_case (lk_cons rfl (lk_cons rfl lk_nil))
    refine sxo_take (os := _) rfl ?_
    refine sxo_move rfl rfl rfl ?_
    refine sxo_case 3 ((x27 && ((x7.2 : Int) == 0)) && ((x12.2.2 : Int) == 1)) [(77, .bool (((x27 && ((x7.2 : Int) == 0)) && ((x12.2.2 : Int) == 1)) && ((x15.2.2 : Int) == 7)))] (fun h30 => ?_) (fun h30 => ?_) ?_
    · refine sxo_take (os := _) rfl ?_
      refine sxo_isT (k := 74) rfl h30 ?_
      refine sxo_move rfl rfl rfl ?_
      refine sxo_eql rfl rfl rfl rfl ?_
      refine sxo_pick (b := true) rfl rfl rfl rfl ?_
      refine sxo_again (d := 77) (v := .bool (((x27 && ((x7.2 : Int) == 0)) && ((x12.2.2 : Int) == 1)) && ((x15.2.2 : Int) == 7))) rfl (by rw [h30]; simp only [Bool.true_and]) ?_
      refine sxo_nil ?_
      exact sxq_case (lk_cons rfl lk_nil)
    · refine sxo_take (os := _) rfl ?_
      refine sxo_isF (k := 74) rfl h30 ?_
      refine sxo_skip rfl rfl rfl ?_
      refine sxo_skip rfl rfl rfl ?_
      refine sxo_pick (b := false) rfl rfl rfl rfl ?_
      refine sxo_again (d := 77) (v := .bool (((x27 && ((x7.2 : Int) == 0)) && ((x12.2.2 : Int) == 1)) && ((x15.2.2 : Int) == 7))) rfl (by rw [h30]; simp only [Bool.false_and]) ?_
      refine sxo_nil ?_
      exact sxq_case (lk_cons rfl lk_nil)
    refine sxo_take (os := _) rfl ?_
    refine sxo_move rfl rfl rfl ?_
    refine sxo_join 3 (fun ((x33, _) : (Bool × Unit)) => [(81, .bool x33)]) (fun ((x33, _) : (Bool × Unit)) => []) (fun ((x33, _) : (Bool × Unit)) => []) (fun ((x33, _) : (Bool × Unit)) => []) (fun ((x33, _) : (Bool × Unit)) => M_L_varintBegun_j2 F x33) ?_ ?_
    · refine sxo_take (os := _) rfl ?_
      refine sxo_if (fun h31 => ?_) (fun h31 => ?_)
      · refine sxo_isT (k := 78) rfl h31 ?_
        refine sxo_call ent16 rfl rfl rfl (fun x42 e42 => C_varint_Fold F (-1) x42 e42) .nil (fun x42 e42 => ?_)
        intro _
        refine sxo_eql rfl rfl rfl rfl ?_
        refine sxo_pick (b := true) rfl rfl rfl rfl ?_
        refine sxo_nil ?_
        exact sxq_meetP (((x42 : Int) == 1), ()) (lk_cons rfl lk_nil) .nil .nil fk_nil
      · refine sxo_isF (k := 78) rfl h31 ?_
        refine sxo_skip rfl rfl rfl ?_
        refine sxo_skip rfl rfl rfl ?_
        refine sxo_pick (b := false) rfl rfl rfl rfl ?_
        refine sxo_nil ?_
        exact sxq_meetP (false, ()) (lk_cons rfl lk_nil) .nil .nil fk_nil
    · rintro ⟨x33, _⟩
      try dsimp only
      refine sxo_take (os := _) rfl ?_
      refine sxo_move rfl rfl rfl ?_
      refine sxo_join 3 (fun ((x36, _) : (Bool × Unit)) => [(85, .bool x36)]) (fun ((x36, _) : (Bool × Unit)) => []) (fun ((x36, _) : (Bool × Unit)) => []) (fun ((x36, _) : (Bool × Unit)) => []) (fun ((x36, _) : (Bool × Unit)) => M_L_varintBegun_j3 F x36) ?_ ?_
      · refine sxo_take (os := _) rfl ?_
        refine sxo_if (fun h34 => ?_) (fun h34 => ?_)
        · refine sxo_isT (k := 82) rfl h34 ?_
          refine sxo_call ent16 rfl rfl rfl (fun x41 e41 => C_varint_Fold F 2 x41 e41) .nil (fun x41 e41 => ?_)
          intro _
          refine sxo_eql rfl rfl rfl rfl ?_
          refine sxo_pick (b := true) rfl rfl rfl rfl ?_
          refine sxo_nil ?_
          exact sxq_meetP (((x41 : Int) == 4), ()) (lk_cons rfl lk_nil) .nil .nil fk_nil
        · refine sxo_isF (k := 82) rfl h34 ?_
          refine sxo_skip rfl rfl rfl ?_
          refine sxo_skip rfl rfl rfl ?_
          refine sxo_pick (b := false) rfl rfl rfl rfl ?_
          refine sxo_nil ?_
          exact sxq_meetP (false, ()) (lk_cons rfl lk_nil) .nil .nil fk_nil
      · rintro ⟨x36, _⟩
        try dsimp only
        refine sxo_take (os := _) rfl ?_
        refine sxo_move rfl rfl rfl ?_
        refine sxo_join 3 (fun ((x39, _) : (Bool × Unit)) => [(89, .bool x39)]) (fun ((x39, _) : (Bool × Unit)) => []) (fun ((x39, _) : (Bool × Unit)) => []) (fun ((x39, _) : (Bool × Unit)) => []) (fun ((x39, _) : (Bool × Unit)) => M_L_varintBegun_j4 F x39) ?_ ?_
        · refine sxo_take (os := _) rfl ?_
          refine sxo_if (fun h37 => ?_) (fun h37 => ?_)
          · refine sxo_isT (k := 86) rfl h37 ?_
            refine sxo_call ent18 rfl rfl rfl (fun x40 e40 => C_varint_Unfold F 3 x40 e40) .nil (fun x40 e40 => ?_)
            intro _
            refine sxo_eql rfl rfl rfl rfl ?_
            refine sxo_pick (b := true) rfl rfl rfl rfl ?_
            refine sxo_nil ?_
            exact sxq_meetP (((x40 : Int) == (-2)), ()) (lk_cons rfl lk_nil) .nil .nil fk_nil
          · refine sxo_isF (k := 86) rfl h37 ?_
            refine sxo_skip rfl rfl rfl ?_
            refine sxo_skip rfl rfl rfl ?_
            refine sxo_pick (b := false) rfl rfl rfl rfl ?_
            refine sxo_nil ?_
            exact sxq_meetP (false, ()) (lk_cons rfl lk_nil) .nil .nil fk_nil
        · rintro ⟨x39, _⟩
          try dsimp only
          refine sxo_take (os := _) rfl ?_
          refine sxo_assign rfl rfl rfl ?_
          refine sxo_nil ?_
          refine sxq_next ?_
          refine sxc_ret ?_
          exact sxq_doneP () (.inl rfl) (res1 rfl rfl) (fun h => by subst h; rfl) (fun h => by subst h; exact .nil)

theorem C_R_FoldOf (F : Nat) (x1 : Int) (r : Int) (hm : M_R_FoldOf F x1 = some r) :
    Pure Try.prog 17 [.int .i64 x1] [] Unit (fun _ => .int .u64 r) (fun _ => []) (fun _ => []) := by
  refine pure_of Try.func17 rfl Try.ntmps17 rfl hm (fun w => ?_)
  refine sxc_env (l' := [(0, .int .i64 x1)]) rfl ?_
  refine sxc_seq ?_
  refine sxc_region ?_
  refine sxo_assign rfl rfl rfl ?_
  refine sxo_nil ?_
  refine sxq_next ?_
  refine sxc_seq ?_
  refine sxc_seq ?_
  refine sxc_region ?_
  refine sxo_move rfl rfl rfl ?_
  refine sxo_lss rfl rfl rfl rfl ?_
  refine sxo_nil ?_
  refine sxq_next ?_
  refine sxc_if rfl (fun h5 => ?_) (fun h5 => ?_)
  · refine sxc_seq ?_
    refine sxc_region ?_
    refine sxo_move rfl rfl rfl ?_
    refine sxo_add rfl rfl rfl rfl ?_
    refine sxo_neg rfl rfl rfl ?_
    refine sxo_conv rfl Try.underlying2 Try.underlying27 rfl rfl ?_
    refine sxo_mul rfl rfl rfl rfl ?_
    refine sxo_add rfl rfl rfl rfl ?_
    refine sxo_assign rfl rfl rfl ?_
    refine sxo_lett (fun x4 e4 => ?_)
    refine sxo_again (d := 2) (v := .int .u64 x4) rfl (by rw [e4]) ?_
    refine sxo_nil ?_
    refine sxq_next ?_
    refine sxc_ret ?_
    refine sxq_thenR ?_
    exact sxq_doneP () (.inl rfl) (res1 rfl rfl) (fun h => by subst h; rfl) (fun h => by subst h; exact .nil)
  · refine sxc_skip ?_
    refine sxq_next ?_
    refine sxc_seq ?_
    refine sxc_region ?_
    refine sxo_move rfl rfl rfl ?_
    refine sxo_conv rfl Try.underlying2 Try.underlying27 rfl rfl ?_
    refine sxo_mul rfl rfl rfl rfl ?_
    refine sxo_assign rfl rfl rfl ?_
    refine sxo_nil ?_
    refine sxq_next ?_
    refine sxc_ret ?_
    exact sxq_doneP () (.inl rfl) (res1 rfl rfl) (fun h => by subst h; rfl) (fun h => by subst h; exact .nil)

theorem C_L_VarintTells (F : Nat) (x1 : Int) (x2 : List Int) (a3 : Option Addr) (c4 : Nat) (x5 : List Int) (a6 : Option Addr) (c7 : Nat) (x8 : Int) (r : Bool) (hm : M_L_VarintTells F x1 x2 x5 x8 = some r) :
    Pure Try.prog 3 [.int .i64 x1, .slice a3 x2.length c4, .slice a6 x5.length c7, .int .i64 x8] [Sl (eI .u64) 1 (.slice a3 x2.length c4) x2, Sl (eI .u8) 1 (.slice a6 x5.length c7) x5] Unit (fun _ => .bool r) (fun _ => []) (fun _ => []) := by
  refine pure_of Try.func3 rfl Try.ntmps3 rfl hm (fun w => ?_)
  refine sxc_env (l' := [(0, .int .i64 x1), (1, .slice a3 x2.length c4), (2, .slice a6 x5.length c7), (3, .int .i64 x8)]) rfl ?_
  refine sxc_seq ?_
  refine sxc_region ?_
  refine sxo_assign rfl rfl rfl ?_
  refine sxo_nil ?_
  refine sxq_next ?_
  refine sxc_seq ?_
  refine sxc_region ?_
  refine sxo_move rfl rfl rfl ?_
  refine sxo_call ent9 rfl rfl rfl (fun x9 e9 => C_varint_Write F x2 a3 c4 x9 e9) (.consF 0 rfl .nil) (fun x9 e9 => ?_)
  rintro ⟨a10, c11⟩
  refine sxo_move rfl rfl rfl ?_
  refine sxo_extract rfl rfl rfl rfl ?_
  refine sxo_extract rfl rfl rfl rfl ?_
  refine sxo_assign rfl rfl rfl ?_
  refine sxo_assign rfl rfl rfl ?_
  refine sxo_nil ?_
  refine sxq_next ?_
  refine sxc_seq ?_
  refine sxc_region ?_
  refine sxo_move rfl rfl rfl ?_
  refine sxo_move rfl rfl rfl ?_
  refine sxo_call ent10 rfl rfl rfl (fun x12 e12 => C_varint_Read F x5 a6 c7 x8 x12 e12) (.consF 1 rfl .nil) (fun x12 e12 => ?_)
  intro _
  refine sxo_move rfl rfl rfl ?_
  refine sxo_extract rfl rfl rfl rfl ?_
  refine sxo_extract rfl rfl rfl rfl ?_
  refine sxo_extract rfl rfl rfl rfl ?_
  refine sxo_assign rfl rfl rfl ?_
  refine sxo_assign rfl rfl rfl ?_
  refine sxo_assign rfl rfl rfl ?_
  refine sxo_nil ?_
  refine sxq_next ?_
  refine sxc_seq ?_
  refine sxc_region ?_
  refine sxo_move rfl rfl rfl ?_
  refine sxo_callM ent11 rfl rfl rfl (fun x13 e13 => C_varint_All F x5 a6 c7 x13 e13) .nil .nil (.consF 1 rfl .nil) (fun x13 e13 => ?_)
  rintro ⟨a14, c15⟩
  refine sxo_move rfl rfl rfl ?_
  refine sxo_extract rfl rfl rfl rfl ?_
  refine sxo_extract rfl rfl rfl rfl ?_
  refine sxo_assign rfl rfl rfl ?_
  refine sxo_assign rfl rfl rfl ?_
  refine sxo_nil ?_
  refine sxq_next ?_
  refine sxc_seq ?_
  refine sxc_region ?_
  refine sxo_assign rfl rfl rfl ?_
  refine sxo_nil ?_
  refine sxq_next ?_
  refine sxc_join (fun ((x89, (a87, c88)) : (List Int × (Option Addr × Nat))) => [(0, .int .i64 x1), (2, .slice a6 x5.length c7), (3, .int .i64 x8), (9, .slice a10 x9.1.length c11), (10, .int .i64 x9.2), (11, .int .u64 x12.1), (12, .int .i64 x12.2.1), (13, .int .i64 x12.2.2), (14, .slice a14 x13.1.length c15), (15, .int .i64 x13.2), (16, .slice a87 x89.length c88)]) (fun ((x89, (a87, c88)) : (List Int × (Option Addr × Nat))) => []) (fun ((x89, (a87, c88)) : (List Int × (Option Addr × Nat))) => [Ro (eI .u8) 5 1 (.slice a10 x9.1.length c11) x9.1, Ro (eI .u64) 27 1 (.slice a14 x13.1.length c15) x13.1, Ro (eI .u8) 5 1 (.slice a87 x89.length c88) x89]) (fun ((x89, (a87, c88)) : (List Int × (Option Addr × Nat))) => [Sl (eI .u8) 1 (.slice a6 x5.length c7) x5]) (fun ((x89, _) : (List Int × (Option Addr × Nat))) => M_L_VarintTells_j2 F x1 x5 x8 x9 x12 x13 x89) ?_ ?_
  · refine sxc_seq ?_
    refine sxc_region ?_
    refine sxo_assign rfl rfl rfl ?_
    refine sxo_nil ?_
    refine sxq_next ?_
    refine sxc_block ?_
    refine sxc_nilrow Int (eI .u8) 5 1 ?_
    refine sxc_loopP (fun (((x160, x161), (a158, c159)) : ((List Int × Int) × (Option Addr × Nat))) => [(0, .int .i64 x1), (1, .slice a3 x2.length c4), (2, .slice a6 x5.length c7), (3, .int .i64 x8), (9, .slice a10 x9.1.length c11), (10, .int .i64 x9.2), (11, .int .u64 x12.1), (12, .int .i64 x12.2.1), (13, .int .i64 x12.2.2), (14, .slice a14 x13.1.length c15), (15, .int .i64 x13.2), (16, .slice a158 x160.length c159), (17, .int .i64 x161)]) (fun (((x160, x161), (a158, c159)) : ((List Int × Int) × (Option Addr × Nat))) => []) (fun (((x160, x161), (a158, c159)) : ((List Int × Int) × (Option Addr × Nat))) => [Ro (eI .u8) 5 1 (.slice a10 x9.1.length c11) x9.1, Ro (eI .u64) 27 1 (.slice a14 x13.1.length c15) x13.1, Ro (eI .u8) 5 1 (.slice a158 x160.length c159) x160]) (fun (((x160, x161), (a158, c159)) : ((List Int × Int) × (Option Addr × Nat))) => [Sl (eI .u64) 1 (.slice a3 x2.length c4) x2, Sl (eI .u8) 1 (.slice a6 x5.length c7) x5]) (fun k (s : ((List Int × Int) × (Option Addr × Nat))) => M_L_VarintTells_l9 F x1 x2 x5 x8 x9 x12 x13 k s.1) ((([] : List Int), 0), (none, 0)) F (lk_cons rfl (lk_cons rfl (lk_cons rfl (lk_cons rfl (lk_cons rfl (lk_cons rfl (lk_cons rfl (lk_cons rfl (lk_cons rfl (lk_cons rfl (lk_cons rfl (lk_cons rfl (lk_cons rfl lk_nil))))))))))))) .nil (.cons 2 rfl (.cons 1 rfl (.cons 0 rfl .nil))) (fk_cons 0 rfl (fk_cons 1 rfl fk_nil)) (fun _ => rfl) ?_
    intro k184
    rintro ⟨⟨x160, x161⟩, ⟨a158, c159⟩⟩
    try dsimp only
    refine sxc_meq (m' := M_L_VarintTells_b9 F x1 x2 x5 x8 x9 x12 x13 (M_L_VarintTells_l9 F x1 x2 x5 x8 x9 x12 x13 k184) x160 x161) rfl ?_
    refine sxc_seq ?_
    refine sxc_seq ?_
    refine sxc_region ?_
    refine sxo_move rfl rfl rfl ?_
    refine sxo_move rfl rfl rfl ?_
    refine sxo_len rfl Try.underlying22 rfl rfl ?_
    refine sxo_lss rfl rfl rfl rfl ?_
    refine sxo_move rfl rfl rfl ?_
    refine sxo_case 4 (decide (x161 < (x2.length : Int))) [(0, .int .i64 x1), (1, .slice a3 x2.length c4), (2, .slice a6 x5.length c7), (3, .int .i64 x8), (9, .slice a10 x9.1.length c11), (10, .int .i64 x9.2), (11, .int .u64 x12.1), (12, .int .i64 x12.2.1), (13, .int .i64 x12.2.2), (14, .slice a14 x13.1.length c15), (15, .int .i64 x13.2), (16, .slice a158 x160.length c159), (17, .int .i64 x161), (49, .bool ((decide (x161 < (x2.length : Int))) && (decide ((x160.length : Int) < 5000))))] (fun h187 => ?_) (fun h187 => ?_) ?_
    · refine sxo_take (os := _) rfl ?_
      refine sxo_isT (k := 45) rfl h187 ?_
      refine sxo_move rfl rfl rfl ?_
      refine sxo_len rfl Try.underlying23 rfl rfl ?_
      refine sxo_lss rfl rfl rfl rfl ?_
      refine sxo_pick (b := true) rfl rfl rfl rfl ?_
      refine sxo_again (d := 49) (v := .bool ((decide (x161 < (x2.length : Int))) && (decide ((x160.length : Int) < 5000)))) rfl (by rw [h187]; simp only [Bool.true_and]) ?_
      refine sxo_nil ?_
      exact sxq_case (lk_cons rfl (lk_cons rfl (lk_cons rfl (lk_cons rfl (lk_cons rfl (lk_cons rfl (lk_cons rfl (lk_cons rfl (lk_cons rfl (lk_cons rfl (lk_cons rfl (lk_cons rfl (lk_cons rfl (lk_cons rfl lk_nil))))))))))))))
    · refine sxo_take (os := _) rfl ?_
      refine sxo_isF (k := 45) rfl h187 ?_
      refine sxo_skip rfl rfl rfl ?_
      refine sxo_skip rfl rfl rfl ?_
      refine sxo_skip rfl rfl rfl ?_
      refine sxo_pick (b := false) rfl rfl rfl rfl ?_
      refine sxo_again (d := 49) (v := .bool ((decide (x161 < (x2.length : Int))) && (decide ((x160.length : Int) < 5000)))) rfl (by rw [h187]; simp only [Bool.false_and]) ?_
      refine sxo_nil ?_
      exact sxq_case (lk_cons rfl (lk_cons rfl (lk_cons rfl (lk_cons rfl (lk_cons rfl (lk_cons rfl (lk_cons rfl (lk_cons rfl (lk_cons rfl (lk_cons rfl (lk_cons rfl (lk_cons rfl (lk_cons rfl (lk_cons rfl lk_nil))))))))))))))
    refine sxo_take (os := _) rfl ?_
    refine sxo_nil ?_
    refine sxq_next ?_
    refine sxc_if rfl (fun h206 => ?_) (fun h206 => ?_)
    · refine sxc_skip ?_
      refine sxq_next ?_
      refine sxc_seq ?_
      refine sxc_block ?_
      refine sxc_region ?_
      refine sxo_move rfl rfl rfl ?_
      refine sxo_move rfl rfl rfl ?_
      refine sxo_move rfl rfl rfl ?_
      refine sxo_indexF (j := 0) (eI_ok .u64) (by decide) rfl Try.underlying22 tf27 rfl rfl rfl rfl (fun x197 e197 b198 o199 => ?_)
      refine sxo_loadF (j := 0) rfl rfl tf27 rfl rfl (fun _ => rfl) rfl rfl ?_
      refine sxo_call ent12 rfl rfl rfl (fun x200 e200 => C_R_VarintBytes F x197 x200 e200) .nil (fun x200 e200 => ?_)
      rintro ⟨a201, c202⟩
      refine sxo_app 3 (eI_ok .u8) rfl Try.underlying23 tf5 rfl rfl rfl rfl rfl (.inl ⟨0, _, rfl⟩) rfl rfl (fun x203 e203 a204 c205 => ?_)
      refine sxo_assign rfl rfl rfl ?_
      refine sxo_nil ?_
      refine sxq_blkN ?_
      refine sxq_next ?_
      refine sxc_region ?_
      refine sxo_move rfl rfl rfl ?_
      refine sxo_add rfl rfl rfl rfl ?_
      refine sxo_assign rfl rfl rfl ?_
      refine sxo_nil ?_
      exact sxq_againP ((x203, iadd .i64 x161 1), (a204, c205)) (lk_cons rfl (lk_cons rfl (lk_cons rfl (lk_cons rfl (lk_cons rfl (lk_cons rfl (lk_cons rfl (lk_cons rfl (lk_cons rfl (lk_cons rfl (lk_cons rfl (lk_cons rfl (lk_cons rfl lk_nil))))))))))))) .nil (.cons 2 rfl (.cons 2 rfl (.cons 0 rfl .nil))) (fk_cons 1 rfl (fk_cons 2 rfl fk_nil))
    · refine sxc_exit ?_
      refine sxq_thenX ?_
      refine sxq_thenX ?_
      refine sxq_blkX ?_
      exact sxq_meetP (x160, (a158, c159)) (lk_cons rfl (lk_cons rfl (lk_cons rfl (lk_cons rfl (lk_cons rfl (lk_cons rfl (lk_cons rfl (lk_cons rfl (lk_cons rfl (lk_cons rfl (lk_cons rfl lk_nil))))))))))) .nil (.cons 0 rfl (.cons 0 rfl (.cons 0 rfl .nil))) (fk_cons 1 rfl fk_nil)
  · rintro ⟨x89, ⟨a87, c88⟩⟩
    try dsimp only
    refine sxc_seq ?_
    refine sxc_region ?_
    refine sxo_assign rfl rfl rfl ?_
    refine sxo_nil ?_
    refine sxq_next ?_
    refine sxc_join (fun (((x93, x94), (a91, c92)) : ((List Int × Int) × (Option Addr × Nat))) => [(0, .int .i64 x1), (2, .slice a6 x5.length c7), (3, .int .i64 x8), (9, .slice a10 x9.1.length c11), (10, .int .i64 x9.2), (11, .int .u64 x12.1), (12, .int .i64 x12.2.1), (13, .int .i64 x12.2.2), (14, .slice a14 x13.1.length c15), (15, .int .i64 x13.2), (16, .slice a91 x93.length c92), (18, .int .i64 x94)]) (fun (((x93, x94), (a91, c92)) : ((List Int × Int) × (Option Addr × Nat))) => []) (fun (((x93, x94), (a91, c92)) : ((List Int × Int) × (Option Addr × Nat))) => [Ro (eI .u8) 5 1 (.slice a10 x9.1.length c11) x9.1, Ro (eI .u64) 27 1 (.slice a14 x13.1.length c15) x13.1, Ro (eI .u8) 5 1 (.slice a91 x93.length c92) x93]) (fun (((x93, x94), (a91, c92)) : ((List Int × Int) × (Option Addr × Nat))) => [Sl (eI .u8) 1 (.slice a6 x5.length c7) x5]) (fun (((x93, x94), _) : ((List Int × Int) × (Option Addr × Nat))) => M_L_VarintTells_j3 F x1 x5 x8 x9 x12 x13 x93 x94) ?_ ?_
    · refine sxc_seq ?_
      refine sxc_region ?_
      refine sxo_move rfl rfl rfl ?_
      refine sxo_len rfl Try.underlying23 rfl rfl ?_
      refine sxo_gtr rfl rfl rfl rfl ?_
      refine sxo_nil ?_
      refine sxq_next ?_
      refine sxc_if rfl (fun h135 => ?_) (fun h135 => ?_)
      · refine sxc_region ?_
        refine sxo_assign rfl rfl rfl ?_
        refine sxo_assign rfl rfl rfl ?_
        refine sxo_nil ?_
        refine sxq_nilrow Int (eI .u8) 5 1 ?_
        exact sxq_meetP ((([] : List Int), 2), (none, 0)) (lk_cons rfl (lk_cons rfl (lk_cons rfl (lk_cons rfl (lk_cons rfl (lk_cons rfl (lk_cons rfl (lk_cons rfl (lk_cons rfl (lk_cons rfl (lk_cons rfl (lk_cons rfl lk_nil)))))))))))) .nil (.cons 1 rfl (.cons 1 rfl (.cons 0 rfl .nil))) (fk_cons 0 rfl fk_nil)
      · refine sxc_skip ?_
        exact sxq_meetP ((x89, 0), (a87, c88)) (lk_cons rfl (lk_cons rfl (lk_cons rfl (lk_cons rfl (lk_cons rfl (lk_cons rfl (lk_cons rfl (lk_cons rfl (lk_cons rfl (lk_cons rfl (lk_cons rfl (lk_cons rfl lk_nil)))))))))))) .nil (.cons 0 rfl (.cons 0 rfl (.cons 0 rfl .nil))) (fk_cons 0 rfl fk_nil)
    · rintro ⟨⟨x93, x94⟩, ⟨a91, c92⟩⟩
      try dsimp only
      refine sxc_seq ?_
      refine sxc_region ?_
      refine sxo_assign rfl rfl rfl ?_
      refine sxo_assign rfl rfl rfl ?_
      refine sxo_assign rfl rfl rfl ?_
      refine sxo_nil ?_
      refine sxq_next ?_
      refine sxc_join (fun (((x99, x100, x101), _) : ((Int × Int × Int) × Unit)) => [(0, .int .i64 x1), (2, .slice a6 x5.length c7), (9, .slice a10 x9.1.length c11), (10, .int .i64 x9.2), (11, .int .u64 x12.1), (12, .int .i64 x12.2.1), (13, .int .i64 x12.2.2), (14, .slice a14 x13.1.length c15), (15, .int .i64 x13.2), (16, .slice a91 x93.length c92), (18, .int .i64 x94), (19, .int .i64 x99), (20, .int .u64 x100), (21, .int .i64 x101)]) (fun (((x99, x100, x101), _) : ((Int × Int × Int) × Unit)) => []) (fun (((x99, x100, x101), _) : ((Int × Int × Int) × Unit)) => [Ro (eI .u8) 5 1 (.slice a10 x9.1.length c11) x9.1, Ro (eI .u64) 27 1 (.slice a14 x13.1.length c15) x13.1, Ro (eI .u8) 5 1 (.slice a91 x93.length c92) x93]) (fun (((x99, x100, x101), _) : ((Int × Int × Int) × Unit)) => [Sl (eI .u8) 1 (.slice a6 x5.length c7) x5]) (fun (((x99, x100, x101), _) : ((Int × Int × Int) × Unit)) => M_L_VarintTells_j4 F x1 x5 x9 x12 x13 x93 x94 x99 x100 x101) ?_ ?_
      · refine sxc_seq ?_
        refine sxc_region ?_
        refine sxo_move rfl rfl rfl ?_
        refine sxo_len rfl Try.underlying23 rfl rfl ?_
        refine sxo_gtr rfl rfl rfl rfl ?_
        refine sxo_nil ?_
        refine sxq_next ?_
        refine sxc_if rfl (fun h134 => ?_) (fun h134 => ?_)
        · refine sxc_region ?_
          refine sxo_assign rfl rfl rfl ?_
          refine sxo_nil ?_
          exact sxq_meetP ((2, 0, 0), ()) (lk_cons rfl (lk_cons rfl (lk_cons rfl (lk_cons rfl (lk_cons rfl (lk_cons rfl (lk_cons rfl (lk_cons rfl (lk_cons rfl (lk_cons rfl (lk_cons rfl (lk_cons rfl (lk_cons rfl (lk_cons rfl lk_nil)))))))))))))) .nil (.cons 0 rfl (.cons 0 rfl (.cons 0 rfl .nil))) (fk_cons 0 rfl fk_nil)
        · refine sxc_seq ?_
          refine sxc_region ?_
          refine sxo_move rfl rfl rfl ?_
          refine sxo_lss rfl rfl rfl rfl ?_
          refine sxo_move rfl rfl rfl ?_
          refine sxo_case 5 (decide (x8 < 0)) [(0, .int .i64 x1), (2, .slice a6 x5.length c7), (3, .int .i64 x8), (9, .slice a10 x9.1.length c11), (10, .int .i64 x9.2), (11, .int .u64 x12.1), (12, .int .i64 x12.2.1), (13, .int .i64 x12.2.2), (14, .slice a14 x13.1.length c15), (15, .int .i64 x13.2), (16, .slice a91 x93.length c92), (18, .int .i64 x94), (20, .int .u64 0), (21, .int .i64 0), (72, .bool ((decide (x8 < 0)) || (decide ((x5.length : Int) < x8))))] (fun h131 => ?_) (fun h131 => ?_) ?_
          · refine sxo_take (os := _) rfl ?_
            refine sxo_isT (k := 67) rfl h131 ?_
            refine sxo_skip rfl rfl rfl ?_
            refine sxo_skip rfl rfl rfl ?_
            refine sxo_skip rfl rfl rfl ?_
            refine sxo_skip rfl rfl rfl ?_
            refine sxo_pick (b := true) rfl rfl rfl rfl ?_
            refine sxo_again (d := 72) (v := .bool ((decide (x8 < 0)) || (decide ((x5.length : Int) < x8)))) rfl (by rw [h131]; simp only [Bool.true_or]) ?_
            refine sxo_nil ?_
            exact sxq_case (lk_cons rfl (lk_cons rfl (lk_cons rfl (lk_cons rfl (lk_cons rfl (lk_cons rfl (lk_cons rfl (lk_cons rfl (lk_cons rfl (lk_cons rfl (lk_cons rfl (lk_cons rfl (lk_cons rfl (lk_cons rfl (lk_cons rfl lk_nil)))))))))))))))
          · refine sxo_take (os := _) rfl ?_
            refine sxo_isF (k := 67) rfl h131 ?_
            refine sxo_move rfl rfl rfl ?_
            refine sxo_move rfl rfl rfl ?_
            refine sxo_len rfl Try.underlying23 rfl rfl ?_
            refine sxo_gtr rfl rfl rfl rfl ?_
            refine sxo_pick (b := false) rfl rfl rfl rfl ?_
            refine sxo_again (d := 72) (v := .bool ((decide (x8 < 0)) || (decide ((x5.length : Int) < x8)))) rfl (by rw [h131]; simp only [Bool.false_or]) ?_
            refine sxo_nil ?_
            exact sxq_case (lk_cons rfl (lk_cons rfl (lk_cons rfl (lk_cons rfl (lk_cons rfl (lk_cons rfl (lk_cons rfl (lk_cons rfl (lk_cons rfl (lk_cons rfl (lk_cons rfl (lk_cons rfl (lk_cons rfl (lk_cons rfl (lk_cons rfl lk_nil)))))))))))))))
          refine sxo_take (os := _) rfl ?_
          refine sxo_nil ?_
          refine sxq_next ?_
          refine sxc_if rfl (fun h133 => ?_) (fun h133 => ?_)
          · refine sxc_region ?_
            refine sxo_assign rfl rfl rfl ?_
            refine sxo_nil ?_
            exact sxq_meetP ((3, 0, 0), ()) (lk_cons rfl (lk_cons rfl (lk_cons rfl (lk_cons rfl (lk_cons rfl (lk_cons rfl (lk_cons rfl (lk_cons rfl (lk_cons rfl (lk_cons rfl (lk_cons rfl (lk_cons rfl (lk_cons rfl (lk_cons rfl lk_nil)))))))))))))) .nil (.cons 0 rfl (.cons 0 rfl (.cons 0 rfl .nil))) (fk_cons 0 rfl fk_nil)
          · refine sxc_region ?_
            refine sxo_move rfl rfl rfl ?_
            refine sxo_move rfl rfl rfl ?_
            refine sxo_call ent13 rfl rfl rfl (fun x132 e132 => C_R_VarintRead F x5 a6 c7 x8 x132 e132) (.consF 0 rfl .nil) (fun x132 e132 => ?_)
            intro _
            refine sxo_move rfl rfl rfl ?_
            refine sxo_extract rfl rfl rfl rfl ?_
            refine sxo_extract rfl rfl rfl rfl ?_
            refine sxo_extract rfl rfl rfl rfl ?_
            refine sxo_assign rfl rfl rfl ?_
            refine sxo_assign rfl rfl rfl ?_
            refine sxo_assign rfl rfl rfl ?_
            refine sxo_nil ?_
            exact sxq_meetP ((x132.2.2, x132.1, x132.2.1), ()) (lk_cons rfl (lk_cons rfl (lk_cons rfl (lk_cons rfl (lk_cons rfl (lk_cons rfl (lk_cons rfl (lk_cons rfl (lk_cons rfl (lk_cons rfl (lk_cons rfl (lk_cons rfl (lk_cons rfl (lk_cons rfl lk_nil)))))))))))))) .nil (.cons 0 rfl (.cons 0 rfl (.cons 0 rfl .nil))) (fk_cons 0 rfl fk_nil)
      · rintro ⟨⟨x99, x100, x101⟩, _⟩
        try dsimp only
        refine sxc_seq ?_
        refine sxc_region ?_
        refine sxo_move rfl rfl rfl ?_
        refine sxo_call ent14 rfl rfl rfl (fun x102 e102 => C_R_VarintAll F x5 a6 c7 x102 e102) (.consF 0 rfl .nil) (fun x102 e102 => ?_)
        rintro ⟨a103, c104⟩
        refine sxo_move rfl rfl rfl ?_
        refine sxo_extract rfl rfl rfl rfl ?_
        refine sxo_extract rfl rfl rfl rfl ?_
        refine sxo_assign rfl rfl rfl ?_
        refine sxo_assign rfl rfl rfl ?_
        refine sxo_nil ?_
        refine sxq_next ?_
        refine sxc_seq ?_
        refine sxc_region ?_
        refine sxo_call ent15 rfl rfl rfl (fun x105 e105 => C_L_varintBegun F  x105 e105) .nil (fun x105 e105 => ?_)
        intro _
        refine sxo_move rfl rfl rfl ?_
        refine sxo_join 6 (fun ((x109, _) : (Bool × Unit)) => [(0, .int .i64 x1), (9, .slice a10 x9.1.length c11), (10, .int .i64 x9.2), (11, .int .u64 x12.1), (12, .int .i64 x12.2.1), (13, .int .i64 x12.2.2), (14, .slice a14 x13.1.length c15), (15, .int .i64 x13.2), (16, .slice a91 x93.length c92), (18, .int .i64 x94), (19, .int .i64 x99), (20, .int .u64 x100), (21, .int .i64 x101), (22, .slice a103 x102.1.length c104), (23, .int .i64 x102.2), (92, .bool x109)]) (fun ((x109, _) : (Bool × Unit)) => []) (fun ((x109, _) : (Bool × Unit)) => [Ro (eI .u8) 5 1 (.slice a10 x9.1.length c11) x9.1, Ro (eI .u64) 27 1 (.slice a14 x13.1.length c15) x13.1, Ro (eI .u8) 5 1 (.slice a91 x93.length c92) x93, Ro (eI .u64) 27 1 (.slice a103 x102.1.length c104) x102.1]) (fun ((x109, _) : (Bool × Unit)) => []) (fun ((x109, _) : (Bool × Unit)) => M_L_VarintTells_j5 F x1 x9 x12 x13 x93 x94 x99 x100 x101 x102 x109) ?_ ?_
        · refine sxo_take (os := _) rfl ?_
          refine sxo_if (fun h106 => ?_) (fun h106 => ?_)
          · refine sxo_isT (k := 86) rfl h106 ?_
            refine sxo_move rfl rfl rfl ?_
            refine sxo_call ent16 rfl rfl rfl (fun x129 e129 => C_varint_Fold F x1 x129 e129) .nil (fun x129 e129 => ?_)
            intro _
            refine sxo_move rfl rfl rfl ?_
            refine sxo_call ent17 rfl rfl rfl (fun x130 e130 => C_R_FoldOf F x1 x130 e130) .nil (fun x130 e130 => ?_)
            intro _
            refine sxo_eql rfl rfl rfl rfl ?_
            refine sxo_pick (b := true) rfl rfl rfl rfl ?_
            refine sxo_nil ?_
            exact sxq_meetP (((x129 : Int) == x130), ()) (lk_cons rfl (lk_cons rfl (lk_cons rfl (lk_cons rfl (lk_cons rfl (lk_cons rfl (lk_cons rfl (lk_cons rfl (lk_cons rfl (lk_cons rfl (lk_cons rfl (lk_cons rfl (lk_cons rfl (lk_cons rfl (lk_cons rfl (lk_cons rfl lk_nil)))))))))))))))) .nil (.cons 1 rfl (.cons 1 rfl (.cons 1 rfl (.cons 0 rfl .nil)))) fk_nil
          · refine sxo_isF (k := 86) rfl h106 ?_
            refine sxo_skip rfl rfl rfl ?_
            refine sxo_skip rfl rfl rfl ?_
            refine sxo_skip rfl rfl rfl ?_
            refine sxo_skip rfl rfl rfl ?_
            refine sxo_skip rfl rfl rfl ?_
            refine sxo_pick (b := false) rfl rfl rfl rfl ?_
            refine sxo_nil ?_
            exact sxq_meetP (false, ()) (lk_cons rfl (lk_cons rfl (lk_cons rfl (lk_cons rfl (lk_cons rfl (lk_cons rfl (lk_cons rfl (lk_cons rfl (lk_cons rfl (lk_cons rfl (lk_cons rfl (lk_cons rfl (lk_cons rfl (lk_cons rfl (lk_cons rfl (lk_cons rfl lk_nil)))))))))))))))) .nil (.cons 1 rfl (.cons 1 rfl (.cons 1 rfl (.cons 0 rfl .nil)))) fk_nil
        · rintro ⟨x109, _⟩
          try dsimp only
          refine sxo_take (os := _) rfl ?_
          refine sxo_move rfl rfl rfl ?_
          refine sxo_join 6 (fun ((x113, _) : (Bool × Unit)) => [(9, .slice a10 x9.1.length c11), (10, .int .i64 x9.2), (11, .int .u64 x12.1), (12, .int .i64 x12.2.1), (13, .int .i64 x12.2.2), (14, .slice a14 x13.1.length c15), (15, .int .i64 x13.2), (16, .slice a91 x93.length c92), (18, .int .i64 x94), (19, .int .i64 x99), (20, .int .u64 x100), (21, .int .i64 x101), (22, .slice a103 x102.1.length c104), (23, .int .i64 x102.2), (99, .bool x113)]) (fun ((x113, _) : (Bool × Unit)) => []) (fun ((x113, _) : (Bool × Unit)) => [Ro (eI .u8) 5 1 (.slice a10 x9.1.length c11) x9.1, Ro (eI .u64) 27 1 (.slice a14 x13.1.length c15) x13.1, Ro (eI .u8) 5 1 (.slice a91 x93.length c92) x93, Ro (eI .u64) 27 1 (.slice a103 x102.1.length c104) x102.1]) (fun ((x113, _) : (Bool × Unit)) => []) (fun ((x113, _) : (Bool × Unit)) => M_L_VarintTells_j6 F x9 x12 x13 x93 x94 x99 x100 x101 x102 x113) ?_ ?_
          · refine sxo_take (os := _) rfl ?_
            refine sxo_if (fun h110 => ?_) (fun h110 => ?_)
            · refine sxo_isT (k := 93) rfl h110 ?_
              refine sxo_move rfl rfl rfl ?_
              refine sxo_call ent17 rfl rfl rfl (fun x127 e127 => C_R_FoldOf F x1 x127 e127) .nil (fun x127 e127 => ?_)
              intro _
              refine sxo_call ent18 rfl rfl rfl (fun x128 e128 => C_varint_Unfold F x127 x128 e128) .nil (fun x128 e128 => ?_)
              intro _
              refine sxo_move rfl rfl rfl ?_
              refine sxo_eql rfl rfl rfl rfl ?_
              refine sxo_pick (b := true) rfl rfl rfl rfl ?_
              refine sxo_nil ?_
              exact sxq_meetP (((x128 : Int) == x1), ()) (lk_cons rfl (lk_cons rfl (lk_cons rfl (lk_cons rfl (lk_cons rfl (lk_cons rfl (lk_cons rfl (lk_cons rfl (lk_cons rfl (lk_cons rfl (lk_cons rfl (lk_cons rfl (lk_cons rfl (lk_cons rfl (lk_cons rfl lk_nil))))))))))))))) .nil (.cons 0 rfl (.cons 0 rfl (.cons 0 rfl (.cons 0 rfl .nil)))) fk_nil
            · refine sxo_isF (k := 93) rfl h110 ?_
              refine sxo_skip rfl rfl rfl ?_
              refine sxo_skip rfl rfl rfl ?_
              refine sxo_skip rfl rfl rfl ?_
              refine sxo_skip rfl rfl rfl ?_
              refine sxo_skip rfl rfl rfl ?_
              refine sxo_pick (b := false) rfl rfl rfl rfl ?_
              refine sxo_nil ?_
              exact sxq_meetP (false, ()) (lk_cons rfl (lk_cons rfl (lk_cons rfl (lk_cons rfl (lk_cons rfl (lk_cons rfl (lk_cons rfl (lk_cons rfl (lk_cons rfl (lk_cons rfl (lk_cons rfl (lk_cons rfl (lk_cons rfl (lk_cons rfl (lk_cons rfl lk_nil))))))))))))))) .nil (.cons 0 rfl (.cons 0 rfl (.cons 0 rfl (.cons 0 rfl .nil)))) fk_nil
          · rintro ⟨x113, _⟩
            try dsimp only
            refine sxo_take (os := _) rfl ?_
            refine sxo_move rfl rfl rfl ?_
            refine sxo_join 4 (fun ((x116, _) : (Bool × Unit)) => [(10, .int .i64 x9.2), (11, .int .u64 x12.1), (12, .int .i64 x12.2.1), (13, .int .i64 x12.2.2), (14, .slice a14 x13.1.length c15), (15, .int .i64 x13.2), (18, .int .i64 x94), (19, .int .i64 x99), (20, .int .u64 x100), (21, .int .i64 x101), (22, .slice a103 x102.1.length c104), (23, .int .i64 x102.2), (104, .bool x116)]) (fun ((x116, _) : (Bool × Unit)) => []) (fun ((x116, _) : (Bool × Unit)) => [Ro (eI .u64) 27 1 (.slice a14 x13.1.length c15) x13.1, Ro (eI .u64) 27 1 (.slice a103 x102.1.length c104) x102.1]) (fun ((x116, _) : (Bool × Unit)) => []) (fun ((x116, _) : (Bool × Unit)) => M_L_VarintTells_j7 F x9 x12 x13 x94 x99 x100 x101 x102 x116) ?_ ?_
            · refine sxo_take (os := _) rfl ?_
              refine sxo_if (fun h114 => ?_) (fun h114 => ?_)
              · refine sxo_isT (k := 100) rfl h114 ?_
                refine sxo_move rfl rfl rfl ?_
                refine sxo_move rfl rfl rfl ?_
                refine sxo_call ent19 rfl rfl rfl (fun x126 e126 => C_R_SameBytes F x9.1 a10 c11 x93 a91 c92 x126 e126) (.consR 0 (Ro (eI .u8) 5 1 (.slice a10 x9.1.length c11) x9.1) rfl (.consR 2 (Ro (eI .u8) 5 1 (.slice a91 x93.length c92) x93) rfl .nil)) (fun x126 e126 => ?_)
                intro _
                refine sxo_pick (b := true) rfl rfl rfl rfl ?_
                refine sxo_nil ?_
                exact sxq_meetP (x126, ()) (lk_cons rfl (lk_cons rfl (lk_cons rfl (lk_cons rfl (lk_cons rfl (lk_cons rfl (lk_cons rfl (lk_cons rfl (lk_cons rfl (lk_cons rfl (lk_cons rfl (lk_cons rfl (lk_cons rfl lk_nil))))))))))))) .nil (.cons 1 rfl (.cons 2 rfl .nil)) fk_nil
              · refine sxo_isF (k := 100) rfl h114 ?_
                refine sxo_skip rfl rfl rfl ?_
                refine sxo_skip rfl rfl rfl ?_
                refine sxo_skip rfl rfl rfl ?_
                refine sxo_pick (b := false) rfl rfl rfl rfl ?_
                refine sxo_nil ?_
                exact sxq_meetP (false, ()) (lk_cons rfl (lk_cons rfl (lk_cons rfl (lk_cons rfl (lk_cons rfl (lk_cons rfl (lk_cons rfl (lk_cons rfl (lk_cons rfl (lk_cons rfl (lk_cons rfl (lk_cons rfl (lk_cons rfl lk_nil))))))))))))) .nil (.cons 1 rfl (.cons 2 rfl .nil)) fk_nil
            · rintro ⟨x116, _⟩
              try dsimp only
              refine sxo_take (os := _) rfl ?_
              refine sxo_move rfl rfl rfl ?_
              refine sxo_case 4 x116 [(11, .int .u64 x12.1), (12, .int .i64 x12.2.1), (13, .int .i64 x12.2.2), (14, .slice a14 x13.1.length c15), (15, .int .i64 x13.2), (19, .int .i64 x99), (20, .int .u64 x100), (21, .int .i64 x101), (22, .slice a103 x102.1.length c104), (23, .int .i64 x102.2), (109, .bool (x116 && ((x9.2 : Int) == x94)))] (fun h117 => ?_) (fun h117 => ?_) ?_
              · refine sxo_take (os := _) rfl ?_
                refine sxo_isT (k := 105) rfl h117 ?_
                refine sxo_move rfl rfl rfl ?_
                refine sxo_move rfl rfl rfl ?_
                refine sxo_eql rfl rfl rfl rfl ?_
                refine sxo_pick (b := true) rfl rfl rfl rfl ?_
                refine sxo_again (d := 109) (v := .bool (x116 && ((x9.2 : Int) == x94))) rfl (by rw [h117]; simp only [Bool.true_and]) ?_
                refine sxo_nil ?_
                exact sxq_case (lk_cons rfl (lk_cons rfl (lk_cons rfl (lk_cons rfl (lk_cons rfl (lk_cons rfl (lk_cons rfl (lk_cons rfl (lk_cons rfl (lk_cons rfl (lk_cons rfl lk_nil)))))))))))
              · refine sxo_take (os := _) rfl ?_
                refine sxo_isF (k := 105) rfl h117 ?_
                refine sxo_skip rfl rfl rfl ?_
                refine sxo_skip rfl rfl rfl ?_
                refine sxo_skip rfl rfl rfl ?_
                refine sxo_pick (b := false) rfl rfl rfl rfl ?_
                refine sxo_again (d := 109) (v := .bool (x116 && ((x9.2 : Int) == x94))) rfl (by rw [h117]; simp only [Bool.false_and]) ?_
                refine sxo_nil ?_
                exact sxq_case (lk_cons rfl (lk_cons rfl (lk_cons rfl (lk_cons rfl (lk_cons rfl (lk_cons rfl (lk_cons rfl (lk_cons rfl (lk_cons rfl (lk_cons rfl (lk_cons rfl lk_nil)))))))))))
              refine sxo_take (os := _) rfl ?_
              refine sxo_move rfl rfl rfl ?_
              refine sxo_case 4 (x116 && ((x9.2 : Int) == x94)) [(12, .int .i64 x12.2.1), (13, .int .i64 x12.2.2), (14, .slice a14 x13.1.length c15), (15, .int .i64 x13.2), (19, .int .i64 x99), (21, .int .i64 x101), (22, .slice a103 x102.1.length c104), (23, .int .i64 x102.2), (114, .bool ((x116 && ((x9.2 : Int) == x94)) && ((x12.1 : Int) == x100)))] (fun h118 => ?_) (fun h118 => ?_) ?_
              · refine sxo_take (os := _) rfl ?_
                refine sxo_isT (k := 110) rfl h118 ?_
                refine sxo_move rfl rfl rfl ?_
                refine sxo_move rfl rfl rfl ?_
                refine sxo_eql rfl rfl rfl rfl ?_
                refine sxo_pick (b := true) rfl rfl rfl rfl ?_
                refine sxo_again (d := 114) (v := .bool ((x116 && ((x9.2 : Int) == x94)) && ((x12.1 : Int) == x100))) rfl (by rw [h118]; simp only [Bool.true_and]) ?_
                refine sxo_nil ?_
                exact sxq_case (lk_cons rfl (lk_cons rfl (lk_cons rfl (lk_cons rfl (lk_cons rfl (lk_cons rfl (lk_cons rfl (lk_cons rfl (lk_cons rfl lk_nil)))))))))
              · refine sxo_take (os := _) rfl ?_
                refine sxo_isF (k := 110) rfl h118 ?_
                refine sxo_skip rfl rfl rfl ?_
                refine sxo_skip rfl rfl rfl ?_
                refine sxo_skip rfl rfl rfl ?_
                refine sxo_pick (b := false) rfl rfl rfl rfl ?_
                refine sxo_again (d := 114) (v := .bool ((x116 && ((x9.2 : Int) == x94)) && ((x12.1 : Int) == x100))) rfl (by rw [h118]; simp only [Bool.false_and]) ?_
                refine sxo_nil ?_
                exact sxq_case (lk_cons rfl (lk_cons rfl (lk_cons rfl (lk_cons rfl (lk_cons rfl (lk_cons rfl (lk_cons rfl (lk_cons rfl (lk_cons rfl lk_nil)))))))))
              refine sxo_take (os := _) rfl ?_
              refine sxo_move rfl rfl rfl ?_
              refine sxo_case 4 ((x116 && ((x9.2 : Int) == x94)) && ((x12.1 : Int) == x100)) [(13, .int .i64 x12.2.2), (14, .slice a14 x13.1.length c15), (15, .int .i64 x13.2), (19, .int .i64 x99), (22, .slice a103 x102.1.length c104), (23, .int .i64 x102.2), (119, .bool (((x116 && ((x9.2 : Int) == x94)) && ((x12.1 : Int) == x100)) && ((x12.2.1 : Int) == x101)))] (fun h119 => ?_) (fun h119 => ?_) ?_
              · refine sxo_take (os := _) rfl ?_
                refine sxo_isT (k := 115) rfl h119 ?_
                refine sxo_move rfl rfl rfl ?_
                refine sxo_move rfl rfl rfl ?_
                refine sxo_eql rfl rfl rfl rfl ?_
                refine sxo_pick (b := true) rfl rfl rfl rfl ?_
                refine sxo_again (d := 119) (v := .bool (((x116 && ((x9.2 : Int) == x94)) && ((x12.1 : Int) == x100)) && ((x12.2.1 : Int) == x101))) rfl (by rw [h119]; simp only [Bool.true_and]) ?_
                refine sxo_nil ?_
                exact sxq_case (lk_cons rfl (lk_cons rfl (lk_cons rfl (lk_cons rfl (lk_cons rfl (lk_cons rfl (lk_cons rfl lk_nil)))))))
              · refine sxo_take (os := _) rfl ?_
                refine sxo_isF (k := 115) rfl h119 ?_
                refine sxo_skip rfl rfl rfl ?_
                refine sxo_skip rfl rfl rfl ?_
                refine sxo_skip rfl rfl rfl ?_
                refine sxo_pick (b := false) rfl rfl rfl rfl ?_
                refine sxo_again (d := 119) (v := .bool (((x116 && ((x9.2 : Int) == x94)) && ((x12.1 : Int) == x100)) && ((x12.2.1 : Int) == x101))) rfl (by rw [h119]; simp only [Bool.false_and]) ?_
                refine sxo_nil ?_
                exact sxq_case (lk_cons rfl (lk_cons rfl (lk_cons rfl (lk_cons rfl (lk_cons rfl (lk_cons rfl (lk_cons rfl lk_nil)))))))
              refine sxo_take (os := _) rfl ?_
              refine sxo_move rfl rfl rfl ?_
              refine sxo_case 4 (((x116 && ((x9.2 : Int) == x94)) && ((x12.1 : Int) == x100)) && ((x12.2.1 : Int) == x101)) [(14, .slice a14 x13.1.length c15), (15, .int .i64 x13.2), (22, .slice a103 x102.1.length c104), (23, .int .i64 x102.2), (124, .bool ((((x116 && ((x9.2 : Int) == x94)) && ((x12.1 : Int) == x100)) && ((x12.2.1 : Int) == x101)) && ((x12.2.2 : Int) == x99)))] (fun h120 => ?_) (fun h120 => ?_) ?_
              · refine sxo_take (os := _) rfl ?_
                refine sxo_isT (k := 120) rfl h120 ?_
                refine sxo_move rfl rfl rfl ?_
                refine sxo_move rfl rfl rfl ?_
                refine sxo_eql rfl rfl rfl rfl ?_
                refine sxo_pick (b := true) rfl rfl rfl rfl ?_
                refine sxo_again (d := 124) (v := .bool ((((x116 && ((x9.2 : Int) == x94)) && ((x12.1 : Int) == x100)) && ((x12.2.1 : Int) == x101)) && ((x12.2.2 : Int) == x99))) rfl (by rw [h120]; simp only [Bool.true_and]) ?_
                refine sxo_nil ?_
                exact sxq_case (lk_cons rfl (lk_cons rfl (lk_cons rfl (lk_cons rfl (lk_cons rfl lk_nil)))))
              · refine sxo_take (os := _) rfl ?_
                refine sxo_isF (k := 120) rfl h120 ?_
                refine sxo_skip rfl rfl rfl ?_
                refine sxo_skip rfl rfl rfl ?_
                refine sxo_skip rfl rfl rfl ?_
                refine sxo_pick (b := false) rfl rfl rfl rfl ?_
                refine sxo_again (d := 124) (v := .bool ((((x116 && ((x9.2 : Int) == x94)) && ((x12.1 : Int) == x100)) && ((x12.2.1 : Int) == x101)) && ((x12.2.2 : Int) == x99))) rfl (by rw [h120]; simp only [Bool.false_and]) ?_
                refine sxo_nil ?_
                exact sxq_case (lk_cons rfl (lk_cons rfl (lk_cons rfl (lk_cons rfl (lk_cons rfl lk_nil)))))
              refine sxo_take (os := _) rfl ?_
              refine sxo_move rfl rfl rfl ?_
              refine sxo_join 4 (fun ((x123, _) : (Bool × Unit)) => [(15, .int .i64 x13.2), (23, .int .i64 x102.2), (129, .bool x123)]) (fun ((x123, _) : (Bool × Unit)) => []) (fun ((x123, _) : (Bool × Unit)) => []) (fun ((x123, _) : (Bool × Unit)) => []) (fun ((x123, _) : (Bool × Unit)) => M_L_VarintTells_j8 F x13 x102 x123) ?_ ?_
              · refine sxo_take (os := _) rfl ?_
                refine sxo_if (fun h121 => ?_) (fun h121 => ?_)
                · refine sxo_isT (k := 125) rfl h121 ?_
                  refine sxo_move rfl rfl rfl ?_
                  refine sxo_move rfl rfl rfl ?_
                  refine sxo_call ent20 rfl rfl rfl (fun x125 e125 => C_R_SameNums F x13.1 a14 c15 x102.1 a103 c104 x125 e125) (.consR 0 (Ro (eI .u64) 27 1 (.slice a14 x13.1.length c15) x13.1) rfl (.consR 1 (Ro (eI .u64) 27 1 (.slice a103 x102.1.length c104) x102.1) rfl .nil)) (fun x125 e125 => ?_)
                  intro _
                  refine sxo_pick (b := true) rfl rfl rfl rfl ?_
                  refine sxo_nil ?_
                  exact sxq_meetP (x125, ()) (lk_cons rfl (lk_cons rfl (lk_cons rfl lk_nil))) .nil .nil fk_nil
                · refine sxo_isF (k := 125) rfl h121 ?_
                  refine sxo_skip rfl rfl rfl ?_
                  refine sxo_skip rfl rfl rfl ?_
                  refine sxo_skip rfl rfl rfl ?_
                  refine sxo_pick (b := false) rfl rfl rfl rfl ?_
                  refine sxo_nil ?_
                  exact sxq_meetP (false, ()) (lk_cons rfl (lk_cons rfl (lk_cons rfl lk_nil))) .nil .nil fk_nil
              · rintro ⟨x123, _⟩
                try dsimp only
                refine sxo_take (os := _) rfl ?_
                refine sxo_move rfl rfl rfl ?_
                refine sxo_case 4 x123 [(134, .bool (x123 && ((x13.2 : Int) == x102.2)))] (fun h124 => ?_) (fun h124 => ?_) ?_
                · refine sxo_take (os := _) rfl ?_
                  refine sxo_isT (k := 130) rfl h124 ?_
                  refine sxo_move rfl rfl rfl ?_
                  refine sxo_move rfl rfl rfl ?_
                  refine sxo_eql rfl rfl rfl rfl ?_
                  refine sxo_pick (b := true) rfl rfl rfl rfl ?_
                  refine sxo_again (d := 134) (v := .bool (x123 && ((x13.2 : Int) == x102.2))) rfl (by rw [h124]; simp only [Bool.true_and]) ?_
                  refine sxo_nil ?_
                  exact sxq_case (lk_cons rfl lk_nil)
                · refine sxo_take (os := _) rfl ?_
                  refine sxo_isF (k := 130) rfl h124 ?_
                  refine sxo_skip rfl rfl rfl ?_
                  refine sxo_skip rfl rfl rfl ?_
                  refine sxo_skip rfl rfl rfl ?_
                  refine sxo_pick (b := false) rfl rfl rfl rfl ?_
                  refine sxo_again (d := 134) (v := .bool (x123 && ((x13.2 : Int) == x102.2))) rfl (by rw [h124]; simp only [Bool.false_and]) ?_
                  refine sxo_nil ?_
                  exact sxq_case (lk_cons rfl lk_nil)
                refine sxo_take (os := _) rfl ?_
                refine sxo_assign rfl rfl rfl ?_
                refine sxo_nil ?_
                refine sxq_next ?_
                refine sxc_ret ?_
                exact sxq_doneP () (.inl rfl) (res1 rfl rfl) (fun h => by subst h; rfl) (fun h => by subst h; exact .nil)

theorem C_L_VarintFold_1 (F : Nat) (x1 : Int) (r : Int) (hm : M_L_VarintFold_1 F x1 = some r) :
    Pure Try.prog 21 [.int .i64 x1] [] Unit (fun _ => .int .u64 r) (fun _ => []) (fun _ => []) := by
  refine pure_of Try.func21 rfl Try.ntmps21 rfl hm (fun w => ?_)
  refine sxc_env (l' := [(0, .int .i64 x1)]) rfl ?_
  refine sxc_seq ?_
  refine sxc_region ?_
  refine sxo_assign rfl rfl rfl ?_
  refine sxo_nil ?_
  refine sxq_next ?_
  refine sxc_seq ?_
  refine sxc_seq ?_
  refine sxc_region ?_
  refine sxo_move rfl rfl rfl ?_
  refine sxo_lss rfl rfl rfl rfl ?_
  refine sxo_nil ?_
  refine sxq_next ?_
  refine sxc_if rfl (fun h5 => ?_) (fun h5 => ?_)
  · refine sxc_seq ?_
    refine sxc_region ?_
    refine sxo_move rfl rfl rfl ?_
    refine sxo_add rfl rfl rfl rfl ?_
    refine sxo_neg rfl rfl rfl ?_
    refine sxo_conv rfl Try.underlying2 Try.underlying27 rfl rfl ?_
    refine sxo_add rfl rfl rfl rfl ?_
    refine sxo_assign rfl rfl rfl ?_
    refine sxo_lett (fun x4 e4 => ?_)
    refine sxo_again (d := 2) (v := .int .u64 x4) rfl (by rw [e4]) ?_
    refine sxo_nil ?_
    refine sxq_next ?_
    refine sxc_ret ?_
    refine sxq_thenR ?_
    exact sxq_doneP () (.inl rfl) (res1 rfl rfl) (fun h => by subst h; rfl) (fun h => by subst h; exact .nil)
  · refine sxc_skip ?_
    refine sxq_next ?_
    refine sxc_seq ?_
    refine sxc_region ?_
    refine sxo_move rfl rfl rfl ?_
    refine sxo_conv rfl Try.underlying2 Try.underlying27 rfl rfl ?_
    refine sxo_assign rfl rfl rfl ?_
    refine sxo_nil ?_
    refine sxq_next ?_
    refine sxc_ret ?_
    exact sxq_doneP () (.inl rfl) (res1 rfl rfl) (fun h => by subst h; rfl) (fun h => by subst h; exact .nil)

theorem C_L_VarintFold (F : Nat) (x1 : Int) (x2 : Int) (x3 : Int) (r : Bool) (hm : M_L_VarintFold F x1 x2 x3 = some r) :
    Pure Try.prog 4 [.int .i64 x1, .int .i64 x2, .int .u64 x3] [] Unit (fun _ => .bool r) (fun _ => []) (fun _ => []) := by
  refine pure_of Try.func4 rfl Try.ntmps4 rfl hm (fun w => ?_)
  refine sxc_env (l' := [(0, .int .i64 x1), (1, .int .i64 x2), (2, .int .u64 x3)]) rfl ?_
  refine sxc_seq ?_
  refine sxc_region ?_
  refine sxo_assign rfl rfl rfl ?_
  refine sxo_nil ?_
  refine sxq_next ?_
  refine sxc_seq ?_
  refine sxc_seq ?_
  refine sxc_region ?_
  refine sxo_call ent15 rfl rfl rfl (fun x6 e6 => C_L_varintBegun F  x6 e6) .nil (fun x6 e6 => ?_)
  intro _
  refine sxo_not rfl rfl rfl ?_
  refine sxo_nil ?_
  refine sxq_next ?_
  refine sxc_if rfl (fun h33 => ?_) (fun h33 => ?_)
  · refine sxc_seq ?_
    refine sxc_region ?_
    refine sxo_assign rfl rfl rfl ?_
    refine sxo_nil ?_
    refine sxq_next ?_
    refine sxc_ret ?_
    refine sxq_thenR ?_
    exact sxq_doneP () (.inl rfl) (res1 rfl rfl) (fun h => by subst h; rfl) (fun h => by subst h; exact .nil)
  · refine sxc_skip ?_
    refine sxq_next ?_
    refine sxc_seq ?_
    refine sxc_seq ?_
    refine sxc_region ?_
    refine sxo_move rfl rfl rfl ?_
    refine sxo_call ent16 rfl rfl rfl (fun x16 e16 => C_varint_Fold F x1 x16 e16) .nil (fun x16 e16 => ?_)
    intro _
    refine sxo_call ent18 rfl rfl rfl (fun x17 e17 => C_varint_Unfold F x16 x17 e17) .nil (fun x17 e17 => ?_)
    intro _
    refine sxo_move rfl rfl rfl ?_
    refine sxo_neq rfl rfl rfl rfl ?_
    refine sxo_move rfl rfl rfl ?_
    refine sxo_join 6 (fun ((x21, _) : (Bool × Unit)) => [(0, .int .i64 x1), (1, .int .i64 x2), (21, .bool x21)]) (fun ((x21, _) : (Bool × Unit)) => []) (fun ((x21, _) : (Bool × Unit)) => []) (fun ((x21, _) : (Bool × Unit)) => []) (fun ((x21, _) : (Bool × Unit)) => M_L_VarintFold_j2 F x1 x2 x21) ?_ ?_
    · refine sxo_take (os := _) rfl ?_
      refine sxo_if (fun h18 => ?_) (fun h18 => ?_)
      · refine sxo_isT (k := 15) rfl h18 ?_
        refine sxo_skip rfl rfl rfl ?_
        refine sxo_skip rfl rfl rfl ?_
        refine sxo_skip rfl rfl rfl ?_
        refine sxo_skip rfl rfl rfl ?_
        refine sxo_skip rfl rfl rfl ?_
        refine sxo_pick (b := true) rfl rfl rfl rfl ?_
        refine sxo_nil ?_
        exact sxq_meetP (true, ()) (lk_cons rfl (lk_cons rfl (lk_cons rfl lk_nil))) .nil .nil fk_nil
      · refine sxo_isF (k := 15) rfl h18 ?_
        refine sxo_move rfl rfl rfl ?_
        refine sxo_call ent18 rfl rfl rfl (fun x31 e31 => C_varint_Unfold F x3 x31 e31) .nil (fun x31 e31 => ?_)
        intro _
        refine sxo_call ent16 rfl rfl rfl (fun x32 e32 => C_varint_Fold F x31 x32 e32) .nil (fun x32 e32 => ?_)
        intro _
        refine sxo_move rfl rfl rfl ?_
        refine sxo_neq rfl rfl rfl rfl ?_
        refine sxo_pick (b := false) rfl rfl rfl rfl ?_
        refine sxo_nil ?_
        exact sxq_meetP (((x32 : Int) != x3), ()) (lk_cons rfl (lk_cons rfl (lk_cons rfl lk_nil))) .nil .nil fk_nil
    · rintro ⟨x21, _⟩
      try dsimp only
      refine sxo_take (os := _) rfl ?_
      refine sxo_nil ?_
      refine sxq_next ?_
      refine sxc_if rfl (fun h30 => ?_) (fun h30 => ?_)
      · refine sxc_seq ?_
        refine sxc_region ?_
        refine sxo_assign rfl rfl rfl ?_
        refine sxo_nil ?_
        refine sxq_next ?_
        refine sxc_ret ?_
        refine sxq_thenR ?_
        exact sxq_doneP () (.inl rfl) (res1 rfl rfl) (fun h => by subst h; rfl) (fun h => by subst h; exact .nil)
      · refine sxc_skip ?_
        refine sxq_next ?_
        refine sxc_seq ?_
        refine sxc_region ?_
        refine sxo_assign rfl rfl rfl ?_
        refine sxo_nil ?_
        refine sxq_next ?_
        refine sxc_seq ?_
        refine sxc_region ?_
        refine sxo_move rfl rfl rfl ?_
        refine sxo_move rfl rfl rfl ?_
        refine sxo_callV ent21 rfl rfl rfl rfl (fun x22 e22 => C_L_VarintFold_1 F x1 x22 e22) .nil (fun x22 e22 => ?_)
        intro _
        refine sxo_move rfl rfl rfl ?_
        refine sxo_move rfl rfl rfl ?_
        refine sxo_callV ent21 rfl rfl rfl rfl (fun x23 e23 => C_L_VarintFold_1 F x2 x23 e23) .nil (fun x23 e23 => ?_)
        intro _
        refine sxo_geq rfl rfl rfl rfl ?_
        refine sxo_move rfl rfl rfl ?_
        refine sxo_join 6 (fun ((x27, _) : (Bool × Unit)) => [(35, .bool x27)]) (fun ((x27, _) : (Bool × Unit)) => []) (fun ((x27, _) : (Bool × Unit)) => []) (fun ((x27, _) : (Bool × Unit)) => []) (fun ((x27, _) : (Bool × Unit)) => M_L_VarintFold_j3 F x27) ?_ ?_
        · refine sxo_take (os := _) rfl ?_
          refine sxo_if (fun h24 => ?_) (fun h24 => ?_)
          · refine sxo_isT (k := 29) rfl h24 ?_
            refine sxo_skip rfl rfl rfl ?_
            refine sxo_skip rfl rfl rfl ?_
            refine sxo_skip rfl rfl rfl ?_
            refine sxo_skip rfl rfl rfl ?_
            refine sxo_skip rfl rfl rfl ?_
            refine sxo_pick (b := true) rfl rfl rfl rfl ?_
            refine sxo_nil ?_
            exact sxq_meetP (true, ()) (lk_cons rfl lk_nil) .nil .nil fk_nil
          · refine sxo_isF (k := 29) rfl h24 ?_
            refine sxo_move rfl rfl rfl ?_
            refine sxo_call ent16 rfl rfl rfl (fun x28 e28 => C_varint_Fold F x1 x28 e28) .nil (fun x28 e28 => ?_)
            intro _
            refine sxo_move rfl rfl rfl ?_
            refine sxo_call ent16 rfl rfl rfl (fun x29 e29 => C_varint_Fold F x2 x29 e29) .nil (fun x29 e29 => ?_)
            intro _
            refine sxo_lss rfl rfl rfl rfl ?_
            refine sxo_pick (b := false) rfl rfl rfl rfl ?_
            refine sxo_nil ?_
            exact sxq_meetP ((decide (x28 < x29)), ()) (lk_cons rfl lk_nil) .nil .nil fk_nil
        · rintro ⟨x27, _⟩
          try dsimp only
          refine sxo_take (os := _) rfl ?_
          refine sxo_assign rfl rfl rfl ?_
          refine sxo_nil ?_
          refine sxq_next ?_
          refine sxc_ret ?_
          exact sxq_doneP () (.inl rfl) (res1 rfl rfl) (fun h => by subst h; rfl) (fun h => by subst h; exact .nil)

theorem C_L_VarintBack (F : Nat) (x1 : List Int) (a2 : Option Addr) (c3 : Nat) (x4 : List Int) (a5 : Option Addr) (c6 : Nat) (r : Bool) (hm : M_L_VarintBack F x1 x4 = some r) :
    Pure Try.prog 5 [.slice a2 x1.length c3, .slice a5 x4.length c6] [Sl (eI .u64) 1 (.slice a2 x1.length c3) x1, Sl (eI .u8) 1 (.slice a5 x4.length c6) x4] Unit (fun _ => .bool r) (fun _ => []) (fun _ => []) := by
  refine pure_of Try.func5 rfl Try.ntmps5 rfl hm (fun w => ?_)
  refine sxc_env (l' := [(0, .slice a2 x1.length c3), (1, .slice a5 x4.length c6)]) rfl ?_
  refine sxc_seq ?_
  refine sxc_region ?_
  refine sxo_assign rfl rfl rfl ?_
  refine sxo_nil ?_
  refine sxq_next ?_
  refine sxc_seq ?_
  refine sxc_region ?_
  refine sxo_move rfl rfl rfl ?_
  refine sxo_call ent9 rfl rfl rfl (fun x7 e7 => C_varint_Write F x1 a2 c3 x7 e7) (.consF 0 rfl .nil) (fun x7 e7 => ?_)
  rintro ⟨a8, c9⟩
  refine sxo_move rfl rfl rfl ?_
  refine sxo_extract rfl rfl rfl rfl ?_
  refine sxo_extract rfl rfl rfl rfl ?_
  refine sxo_assign rfl rfl rfl ?_
  refine sxo_assign rfl rfl rfl ?_
  refine sxo_nil ?_
  refine sxq_next ?_
  refine sxc_seq ?_
  refine sxc_region ?_
  refine sxo_move rfl rfl rfl ?_
  refine sxo_callM ent11 rfl rfl rfl (fun x10 e10 => C_varint_All F x4 a5 c6 x10 e10) .nil .nil (.consF 1 rfl .nil) (fun x10 e10 => ?_)
  rintro ⟨a11, c12⟩
  refine sxo_move rfl rfl rfl ?_
  refine sxo_extract rfl rfl rfl rfl ?_
  refine sxo_extract rfl rfl rfl rfl ?_
  refine sxo_assign rfl rfl rfl ?_
  refine sxo_assign rfl rfl rfl ?_
  refine sxo_nil ?_
  refine sxq_next ?_
  refine sxc_seq ?_
  refine sxc_seq ?_
  refine sxc_region ?_
  refine sxo_call ent15 rfl rfl rfl (fun x15 e15 => C_L_varintBegun F  x15 e15) .nil (fun x15 e15 => ?_)
  intro _
  refine sxo_not rfl rfl rfl ?_
  refine sxo_nil ?_
  refine sxq_next ?_
  refine sxc_if rfl (fun h43 => ?_) (fun h43 => ?_)
  · refine sxc_seq ?_
    refine sxc_region ?_
    refine sxo_assign rfl rfl rfl ?_
    refine sxo_nil ?_
    refine sxq_next ?_
    refine sxc_ret ?_
    refine sxq_thenR ?_
    exact sxq_doneP () (.inl rfl) (res1 rfl rfl) (fun h => by subst h; rfl) (fun h => by subst h; exact .nil)
  · refine sxc_skip ?_
    refine sxq_next ?_
    refine sxc_join (fun ((_, _) : (Unit × Unit)) => [(1, .slice a5 x4.length c6), (7, .slice a11 x10.1.length c12), (8, .int .i64 x10.2)]) (fun ((_, _) : (Unit × Unit)) => []) (fun ((_, _) : (Unit × Unit)) => [Ro (eI .u64) 27 1 (.slice a11 x10.1.length c12) x10.1]) (fun ((_, _) : (Unit × Unit)) => [Sl (eI .u8) 1 (.slice a5 x4.length c6) x4]) (fun ((_, _) : (Unit × Unit)) => M_L_VarintBack_j2 F x4 x10) ?_ ?_
    · refine sxc_seq ?_
      refine sxc_region ?_
      refine sxo_move rfl rfl rfl ?_
      refine sxo_eql rfl rfl rfl rfl ?_
      refine sxo_nil ?_
      refine sxq_next ?_
      refine sxc_if rfl (fun h42 => ?_) (fun h42 => ?_)
      · refine sxc_seq ?_
        refine sxc_region ?_
        refine sxo_move rfl rfl rfl ?_
        refine sxo_callM ent11 rfl rfl rfl (fun x34 e34 => C_varint_All F x7.1 a8 c9 x34 e34) .nil .nil (.consR 1 (Ro (eI .u8) 5 1 (.slice a8 x7.1.length c9) x7.1) rfl .nil) (fun x34 e34 => ?_)
        rintro ⟨a35, c36⟩
        refine sxo_move rfl rfl rfl ?_
        refine sxo_extract rfl rfl rfl rfl ?_
        refine sxo_extract rfl rfl rfl rfl ?_
        refine sxo_assign rfl rfl rfl ?_
        refine sxo_assign rfl rfl rfl ?_
        refine sxo_nil ?_
        refine sxq_next ?_
        refine sxc_seq ?_
        refine sxc_region ?_
        refine sxo_move rfl rfl rfl ?_
        refine sxo_neq rfl rfl rfl rfl ?_
        refine sxo_move rfl rfl rfl ?_
        refine sxo_join 5 (fun ((x39, _) : (Bool × Unit)) => [(1, .slice a5 x4.length c6), (7, .slice a11 x10.1.length c12), (8, .int .i64 x10.2), (39, .bool x39)]) (fun ((x39, _) : (Bool × Unit)) => []) (fun ((x39, _) : (Bool × Unit)) => [Ro (eI .u64) 27 1 (.slice a11 x10.1.length c12) x10.1]) (fun ((x39, _) : (Bool × Unit)) => [Sl (eI .u8) 1 (.slice a5 x4.length c6) x4]) (fun ((x39, _) : (Bool × Unit)) => M_L_VarintBack_j4 F x4 x10 x39) ?_ ?_
        · refine sxo_take (os := _) rfl ?_
          refine sxo_if (fun h37 => ?_) (fun h37 => ?_)
          · refine sxo_isT (k := 34) rfl h37 ?_
            refine sxo_skip rfl rfl rfl ?_
            refine sxo_skip rfl rfl rfl ?_
            refine sxo_skip rfl rfl rfl ?_
            refine sxo_skip rfl rfl rfl ?_
            refine sxo_pick (b := true) rfl rfl rfl rfl ?_
            refine sxo_nil ?_
            exact sxq_meetP (true, ()) (lk_cons rfl (lk_cons rfl (lk_cons rfl (lk_cons rfl lk_nil)))) .nil (.cons 1 rfl .nil) (fk_cons 1 rfl fk_nil)
          · refine sxo_isF (k := 34) rfl h37 ?_
            refine sxo_move rfl rfl rfl ?_
            refine sxo_move rfl rfl rfl ?_
            refine sxo_call ent20 rfl rfl rfl (fun x41 e41 => C_R_SameNums F x34.1 a35 c36 x1 a2 c3 x41 e41) (.consR 0 (Ro (eI .u64) 27 1 (.slice a35 x34.1.length c36) x34.1) rfl (.consF 0 rfl .nil)) (fun x41 e41 => ?_)
            intro _
            refine sxo_not rfl rfl rfl ?_
            refine sxo_pick (b := false) rfl rfl rfl rfl ?_
            refine sxo_nil ?_
            exact sxq_meetP ((!x41), ()) (lk_cons rfl (lk_cons rfl (lk_cons rfl (lk_cons rfl lk_nil)))) .nil (.cons 1 rfl .nil) (fk_cons 1 rfl fk_nil)
        · rintro ⟨x39, _⟩
          try dsimp only
          refine sxo_take (os := _) rfl ?_
          refine sxo_nil ?_
          refine sxq_next ?_
          refine sxc_if rfl (fun h40 => ?_) (fun h40 => ?_)
          · refine sxc_seq ?_
            refine sxc_region ?_
            refine sxo_assign rfl rfl rfl ?_
            refine sxo_nil ?_
            refine sxq_next ?_
            refine sxc_ret ?_
            refine sxq_thenR ?_
            exact sxq_doneP () (.inl rfl) (res1 rfl rfl) (fun h => by subst h; rfl) (fun h => by subst h; exact .nil)
          · refine sxc_skip ?_
            exact sxq_meetP ((), ()) (lk_cons rfl (lk_cons rfl (lk_cons rfl lk_nil))) .nil (.cons 0 rfl .nil) (fk_cons 0 rfl fk_nil)
      · refine sxc_skip ?_
        exact sxq_meetP ((), ()) (lk_cons rfl (lk_cons rfl (lk_cons rfl lk_nil))) .nil (.cons 0 rfl .nil) (fk_cons 1 rfl fk_nil)
    · rintro ⟨_, _⟩
      try dsimp only
      refine sxc_seq ?_
      refine sxc_seq ?_
      refine sxc_region ?_
      refine sxo_move rfl rfl rfl ?_
      refine sxo_neq rfl rfl rfl rfl ?_
      refine sxo_nil ?_
      refine sxq_next ?_
      refine sxc_if rfl (fun h33 => ?_) (fun h33 => ?_)
      · refine sxc_seq ?_
        refine sxc_region ?_
        refine sxo_move rfl rfl rfl ?_
        refine sxo_len rfl Try.underlying22 rfl rfl ?_
        refine sxo_eql rfl rfl rfl rfl ?_
        refine sxo_assign rfl rfl rfl ?_
        refine sxo_nil ?_
        refine sxq_next ?_
        refine sxc_ret ?_
        refine sxq_thenR ?_
        exact sxq_doneP () (.inl rfl) (res1 rfl rfl) (fun h => by subst h; rfl) (fun h => by subst h; exact .nil)
      · refine sxc_skip ?_
        refine sxq_next ?_
        refine sxc_seq ?_
        refine sxc_region ?_
        refine sxo_move rfl rfl rfl ?_
        refine sxo_call ent9 rfl rfl rfl (fun x26 e26 => C_varint_Write F x10.1 a11 c12 x26 e26) (.consR 0 (Ro (eI .u64) 27 1 (.slice a11 x10.1.length c12) x10.1) rfl .nil) (fun x26 e26 => ?_)
        rintro ⟨a27, c28⟩
        refine sxo_move rfl rfl rfl ?_
        refine sxo_extract rfl rfl rfl rfl ?_
        refine sxo_extract rfl rfl rfl rfl ?_
        refine sxo_assign rfl rfl rfl ?_
        refine sxo_assign rfl rfl rfl ?_
        refine sxo_nil ?_
        refine sxq_next ?_
        refine sxc_seq ?_
        refine sxc_region ?_
        refine sxo_move rfl rfl rfl ?_
        refine sxo_eql rfl rfl rfl rfl ?_
        refine sxo_move rfl rfl rfl ?_
        refine sxo_join 4 (fun ((x31, _) : (Bool × Unit)) => [(56, .bool x31)]) (fun ((x31, _) : (Bool × Unit)) => []) (fun ((x31, _) : (Bool × Unit)) => []) (fun ((x31, _) : (Bool × Unit)) => []) (fun ((x31, _) : (Bool × Unit)) => M_L_VarintBack_j3 F x31) ?_ ?_
        · refine sxo_take (os := _) rfl ?_
          refine sxo_if (fun h29 => ?_) (fun h29 => ?_)
          · refine sxo_isT (k := 52) rfl h29 ?_
            refine sxo_move rfl rfl rfl ?_
            refine sxo_move rfl rfl rfl ?_
            refine sxo_call ent19 rfl rfl rfl (fun x32 e32 => C_R_SameBytes F x26.1 a27 c28 x4 a5 c6 x32 e32) (.consR 0 (Ro (eI .u8) 5 1 (.slice a27 x26.1.length c28) x26.1) rfl (.consF 0 rfl .nil)) (fun x32 e32 => ?_)
            intro _
            refine sxo_pick (b := true) rfl rfl rfl rfl ?_
            refine sxo_nil ?_
            exact sxq_meetP (x32, ()) (lk_cons rfl lk_nil) .nil .nil fk_nil
          · refine sxo_isF (k := 52) rfl h29 ?_
            refine sxo_skip rfl rfl rfl ?_
            refine sxo_skip rfl rfl rfl ?_
            refine sxo_skip rfl rfl rfl ?_
            refine sxo_pick (b := false) rfl rfl rfl rfl ?_
            refine sxo_nil ?_
            exact sxq_meetP (false, ()) (lk_cons rfl lk_nil) .nil .nil fk_nil
        · rintro ⟨x31, _⟩
          try dsimp only
          refine sxo_take (os := _) rfl ?_
          refine sxo_assign rfl rfl rfl ?_
          refine sxo_nil ?_
          refine sxq_next ?_
          refine sxc_ret ?_
          exact sxq_doneP () (.inl rfl) (res1 rfl rfl) (fun h => by subst h; rfl) (fun h => by subst h; exact .nil)

theorem C_L_VarintLong (F : Nat) (x1 : Int) (x2 : Int) (r : Bool) (hm : M_L_VarintLong F x1 x2 = some r) :
    Pure Try.prog 6 [.int .u64 x1, .int .u64 x2] [] Unit (fun _ => .bool r) (fun _ => []) (fun _ => []) := by
  refine pure_of Try.func6 rfl Try.ntmps6 rfl hm (fun w => ?_)
  refine sxc_env (l' := [(0, .int .u64 x1), (1, .int .u64 x2)]) rfl ?_
  refine sxc_seq ?_
  refine sxc_region ?_
  refine sxo_assign rfl rfl rfl ?_
  refine sxo_nil ?_
  refine sxq_next ?_
  refine sxc_seq ?_
  refine sxc_region ?_
  refine sxo_move rfl rfl rfl ?_
  refine sxo_slit (vs := [.int .u64 x1]) (ys := ([x1] : List Int)) (eI_ok .u64) (by decide) rfl Try.underlying22 tf27 rfl rfl rfl rfl rfl (by decide) (fun a3 c4 => ?_)
  refine sxo_call ent9 rfl rfl rfl (fun x5 e5 => C_varint_Write F ([x1] : List Int) a3 c4 x5 e5) (.consR 0 (Ro (eI .u64) 27 1 (.slice a3 ([x1] : List Int).length c4) ([x1] : List Int)) rfl .nil) (fun x5 e5 => ?_)
  rintro ⟨a6, c7⟩
  refine sxo_move rfl rfl rfl ?_
  refine sxo_extract rfl rfl rfl rfl ?_
  refine sxo_extract rfl rfl rfl rfl ?_
  refine sxo_assign rfl rfl rfl ?_
  refine sxo_assign rfl rfl rfl ?_
  refine sxo_nil ?_
  refine sxq_next ?_
  refine sxc_seq ?_
  refine sxc_region ?_
  refine sxo_move rfl rfl rfl ?_
  refine sxo_slit (vs := [.int .u64 x2]) (ys := ([x2] : List Int)) (eI_ok .u64) (by decide) rfl Try.underlying22 tf27 rfl rfl rfl rfl rfl (by decide) (fun a8 c9 => ?_)
  refine sxo_call ent9 rfl rfl rfl (fun x10 e10 => C_varint_Write F ([x2] : List Int) a8 c9 x10 e10) (.consR 0 (Ro (eI .u64) 27 1 (.slice a8 ([x2] : List Int).length c9) ([x2] : List Int)) rfl .nil) (fun x10 e10 => ?_)
  rintro ⟨a11, c12⟩
  refine sxo_move rfl rfl rfl ?_
  refine sxo_extract rfl rfl rfl rfl ?_
  refine sxo_extract rfl rfl rfl rfl ?_
  refine sxo_assign rfl rfl rfl ?_
  refine sxo_assign rfl rfl rfl ?_
  refine sxo_nil ?_
  refine sxq_next ?_
  refine sxc_seq ?_
  refine sxc_region ?_
  refine sxo_call ent15 rfl rfl rfl (fun x13 e13 => C_L_varintBegun F  x13 e13) .nil (fun x13 e13 => ?_)
  intro _
  refine sxo_move rfl rfl rfl ?_
  refine sxo_case 3 x13 [(0, .int .u64 x1), (1, .int .u64 x2), (5, .slice a6 x5.1.length c7), (7, .slice a11 x10.1.length c12), (8, .int .i64 x10.2), (25, .bool (x13 && ((x5.2 : Int) == 0)))] (fun h14 => ?_) (fun h14 => ?_) ?_
  · refine sxo_take (os := _) rfl ?_
    refine sxo_isT (k := 22) rfl h14 ?_
    refine sxo_move rfl rfl rfl ?_
    refine sxo_eql rfl rfl rfl rfl ?_
    refine sxo_pick (b := true) rfl rfl rfl rfl ?_
    refine sxo_again (d := 25) (v := .bool (x13 && ((x5.2 : Int) == 0))) rfl (by rw [h14]; simp only [Bool.true_and]) ?_
    refine sxo_nil ?_
    exact sxq_case (lk_cons rfl (lk_cons rfl (lk_cons rfl (lk_cons rfl (lk_cons rfl (lk_cons rfl lk_nil))))))
  · refine sxo_take (os := _) rfl ?_
    refine sxo_isF (k := 22) rfl h14 ?_
    refine sxo_skip rfl rfl rfl ?_
    refine sxo_skip rfl rfl rfl ?_
    refine sxo_pick (b := false) rfl rfl rfl rfl ?_
    refine sxo_again (d := 25) (v := .bool (x13 && ((x5.2 : Int) == 0))) rfl (by rw [h14]; simp only [Bool.false_and]) ?_
    refine sxo_nil ?_
    exact sxq_case (lk_cons rfl (lk_cons rfl (lk_cons rfl (lk_cons rfl (lk_cons rfl (lk_cons rfl lk_nil))))))
  refine sxo_take (os := _) rfl ?_
  refine sxo_move rfl rfl rfl ?_
  refine sxo_case 3 (x13 && ((x5.2 : Int) == 0)) [(0, .int .u64 x1), (1, .int .u64 x2), (5, .slice a6 x5.1.length c7), (7, .slice a11 x10.1.length c12), (29, .bool ((x13 && ((x5.2 : Int) == 0)) && ((x10.2 : Int) == 0)))] (fun h15 => ?_) (fun h15 => ?_) ?_
  · refine sxo_take (os := _) rfl ?_
    refine sxo_isT (k := 26) rfl h15 ?_
    refine sxo_move rfl rfl rfl ?_
    refine sxo_eql rfl rfl rfl rfl ?_
    refine sxo_pick (b := true) rfl rfl rfl rfl ?_
    refine sxo_again (d := 29) (v := .bool ((x13 && ((x5.2 : Int) == 0)) && ((x10.2 : Int) == 0))) rfl (by rw [h15]; simp only [Bool.true_and]) ?_
    refine sxo_nil ?_
    exact sxq_case (lk_cons rfl (lk_cons rfl (lk_cons rfl (lk_cons rfl (lk_cons rfl lk_nil)))))
  · refine sxo_take (os := _) rfl ?_
    refine sxo_isF (k := 26) rfl h15 ?_
    refine sxo_skip rfl rfl rfl ?_
    refine sxo_skip rfl rfl rfl ?_
    refine sxo_pick (b := false) rfl rfl rfl rfl ?_
    refine sxo_again (d := 29) (v := .bool ((x13 && ((x5.2 : Int) == 0)) && ((x10.2 : Int) == 0))) rfl (by rw [h15]; simp only [Bool.false_and]) ?_
    refine sxo_nil ?_
    exact sxq_case (lk_cons rfl (lk_cons rfl (lk_cons rfl (lk_cons rfl (lk_cons rfl lk_nil)))))
  refine sxo_take (os := _) rfl ?_
  refine sxo_move rfl rfl rfl ?_
  refine sxo_case 4 ((x13 && ((x5.2 : Int) == 0)) && ((x10.2 : Int) == 0)) [(0, .int .u64 x1), (1, .int .u64 x2), (5, .slice a6 x5.1.length c7), (7, .slice a11 x10.1.length c12), (34, .bool (((x13 && ((x5.2 : Int) == 0)) && ((x10.2 : Int) == 0)) && (decide (1 ≤ (x5.1.length : Int)))))] (fun h16 => ?_) (fun h16 => ?_) ?_
  · refine sxo_take (os := _) rfl ?_
    refine sxo_isT (k := 30) rfl h16 ?_
    refine sxo_move rfl rfl rfl ?_
    refine sxo_len rfl Try.underlying23 rfl rfl ?_
    refine sxo_geq rfl rfl rfl rfl ?_
    refine sxo_pick (b := true) rfl rfl rfl rfl ?_
    refine sxo_again (d := 34) (v := .bool (((x13 && ((x5.2 : Int) == 0)) && ((x10.2 : Int) == 0)) && (decide (1 ≤ (x5.1.length : Int))))) rfl (by rw [h16]; simp only [Bool.true_and]) ?_
    refine sxo_nil ?_
    exact sxq_case (lk_cons rfl (lk_cons rfl (lk_cons rfl (lk_cons rfl (lk_cons rfl lk_nil)))))
  · refine sxo_take (os := _) rfl ?_
    refine sxo_isF (k := 30) rfl h16 ?_
    refine sxo_skip rfl rfl rfl ?_
    refine sxo_skip rfl rfl rfl ?_
    refine sxo_skip rfl rfl rfl ?_
    refine sxo_pick (b := false) rfl rfl rfl rfl ?_
    refine sxo_again (d := 34) (v := .bool (((x13 && ((x5.2 : Int) == 0)) && ((x10.2 : Int) == 0)) && (decide (1 ≤ (x5.1.length : Int))))) rfl (by rw [h16]; simp only [Bool.false_and]) ?_
    refine sxo_nil ?_
    exact sxq_case (lk_cons rfl (lk_cons rfl (lk_cons rfl (lk_cons rfl (lk_cons rfl lk_nil)))))
  refine sxo_take (os := _) rfl ?_
  refine sxo_move rfl rfl rfl ?_
  refine sxo_case 4 (((x13 && ((x5.2 : Int) == 0)) && ((x10.2 : Int) == 0)) && (decide (1 ≤ (x5.1.length : Int)))) [(0, .int .u64 x1), (1, .int .u64 x2), (5, .slice a6 x5.1.length c7), (7, .slice a11 x10.1.length c12), (39, .bool ((((x13 && ((x5.2 : Int) == 0)) && ((x10.2 : Int) == 0)) && (decide (1 ≤ (x5.1.length : Int)))) && (decide ((x10.1.length : Int) ≤ 10))))] (fun h17 => ?_) (fun h17 => ?_) ?_
  · refine sxo_take (os := _) rfl ?_
    refine sxo_isT (k := 35) rfl h17 ?_
    refine sxo_move rfl rfl rfl ?_
    refine sxo_len rfl Try.underlying23 rfl rfl ?_
    refine sxo_leq rfl rfl rfl rfl ?_
    refine sxo_pick (b := true) rfl rfl rfl rfl ?_
    refine sxo_again (d := 39) (v := .bool ((((x13 && ((x5.2 : Int) == 0)) && ((x10.2 : Int) == 0)) && (decide (1 ≤ (x5.1.length : Int)))) && (decide ((x10.1.length : Int) ≤ 10)))) rfl (by rw [h17]; simp only [Bool.true_and]) ?_
    refine sxo_nil ?_
    exact sxq_case (lk_cons rfl (lk_cons rfl (lk_cons rfl (lk_cons rfl (lk_cons rfl lk_nil)))))
  · refine sxo_take (os := _) rfl ?_
    refine sxo_isF (k := 35) rfl h17 ?_
    refine sxo_skip rfl rfl rfl ?_
    refine sxo_skip rfl rfl rfl ?_
    refine sxo_skip rfl rfl rfl ?_
    refine sxo_pick (b := false) rfl rfl rfl rfl ?_
    refine sxo_again (d := 39) (v := .bool ((((x13 && ((x5.2 : Int) == 0)) && ((x10.2 : Int) == 0)) && (decide (1 ≤ (x5.1.length : Int)))) && (decide ((x10.1.length : Int) ≤ 10)))) rfl (by rw [h17]; simp only [Bool.false_and]) ?_
    refine sxo_nil ?_
    exact sxq_case (lk_cons rfl (lk_cons rfl (lk_cons rfl (lk_cons rfl (lk_cons rfl lk_nil)))))
  refine sxo_take (os := _) rfl ?_
  refine sxo_move rfl rfl rfl ?_
  refine sxo_join 11 (fun ((x20, _) : (Bool × Unit)) => [(51, .bool x20)]) (fun ((x20, _) : (Bool × Unit)) => []) (fun ((x20, _) : (Bool × Unit)) => []) (fun ((x20, _) : (Bool × Unit)) => []) (fun ((x20, _) : (Bool × Unit)) => M_L_VarintLong_j1 F x20) ?_ ?_
  · refine sxo_take (os := _) rfl ?_
    refine sxo_if (fun h18 => ?_) (fun h18 => ?_)
    · refine sxo_isT (k := 40) rfl h18 ?_
      refine sxo_move rfl rfl rfl ?_
      refine sxo_move rfl rfl rfl ?_
      refine sxo_gtr rfl rfl rfl rfl ?_
      refine sxo_move rfl rfl rfl ?_
      refine sxo_case 6 (decide (x2 < x1)) [(40, .bool true), (50, .bool ((decide (x2 < x1)) || (decide ((x5.1.length : Int) ≤ (x10.1.length : Int)))))] (fun h21 => ?_) (fun h21 => ?_) ?_
      · refine sxo_take (os := _) rfl ?_
        refine sxo_isT (k := 44) rfl h21 ?_
        refine sxo_skip rfl rfl rfl ?_
        refine sxo_skip rfl rfl rfl ?_
        refine sxo_skip rfl rfl rfl ?_
        refine sxo_skip rfl rfl rfl ?_
        refine sxo_skip rfl rfl rfl ?_
        refine sxo_pick (b := true) rfl rfl rfl rfl ?_
        refine sxo_again (d := 50) (v := .bool ((decide (x2 < x1)) || (decide ((x5.1.length : Int) ≤ (x10.1.length : Int))))) rfl (by rw [h21]; simp only [Bool.true_or]) ?_
        refine sxo_nil ?_
        exact sxq_case (lk_cons rfl (lk_cons rfl lk_nil))
      · refine sxo_take (os := _) rfl ?_
        refine sxo_isF (k := 44) rfl h21 ?_
        refine sxo_move rfl rfl rfl ?_
        refine sxo_len rfl Try.underlying23 rfl rfl ?_
        refine sxo_move rfl rfl rfl ?_
        refine sxo_len rfl Try.underlying23 rfl rfl ?_
        refine sxo_leq rfl rfl rfl rfl ?_
        refine sxo_pick (b := false) rfl rfl rfl rfl ?_
        refine sxo_again (d := 50) (v := .bool ((decide (x2 < x1)) || (decide ((x5.1.length : Int) ≤ (x10.1.length : Int))))) rfl (by rw [h21]; simp only [Bool.false_or]) ?_
        refine sxo_nil ?_
        exact sxq_case (lk_cons rfl (lk_cons rfl lk_nil))
      refine sxo_take (os := _) rfl ?_
      refine sxo_pick (b := true) rfl rfl rfl rfl ?_
      refine sxo_nil ?_
      exact sxq_meetP (((decide (x2 < x1)) || (decide ((x5.1.length : Int) ≤ (x10.1.length : Int)))), ()) (lk_cons rfl lk_nil) .nil .nil fk_nil
    · refine sxo_isF (k := 40) rfl h18 ?_
      refine sxo_skip rfl rfl rfl ?_
      refine sxo_skip rfl rfl rfl ?_
      refine sxo_skip rfl rfl rfl ?_
      refine sxo_skip rfl rfl rfl ?_
      refine sxo_skip rfl rfl rfl ?_
      refine sxo_skip rfl rfl rfl ?_
      refine sxo_skip rfl rfl rfl ?_
      refine sxo_skip rfl rfl rfl ?_
      refine sxo_skip rfl rfl rfl ?_
      refine sxo_skip rfl rfl rfl ?_
      refine sxo_pick (b := false) rfl rfl rfl rfl ?_
      refine sxo_nil ?_
      exact sxq_meetP (false, ()) (lk_cons rfl lk_nil) .nil .nil fk_nil
  · rintro ⟨x20, _⟩
    try dsimp only
    refine sxo_take (os := _) rfl ?_
    refine sxo_assign rfl rfl rfl ?_
    refine sxo_nil ?_
    refine sxq_next ?_
    refine sxc_ret ?_
    exact sxq_doneP () (.inl rfl) (res1 rfl rfl) (fun h => by subst h; rfl) (fun h => by subst h; exact .nil)

theorem C_L_VarintJoins (F : Nat) (x1 : List Int) (a2 : Option Addr) (c3 : Nat) (x4 : List Int) (a5 : Option Addr) (c6 : Nat) (r : Bool) (hm : M_L_VarintJoins F x1 x4 = some r) :
    Pure Try.prog 7 [.slice a2 x1.length c3, .slice a5 x4.length c6] [Sl (eI .u8) 1 (.slice a2 x1.length c3) x1, Sl (eI .u8) 1 (.slice a5 x4.length c6) x4] Unit (fun _ => .bool r) (fun _ => []) (fun _ => []) := by
  refine pure_of Try.func7 rfl Try.ntmps7 rfl hm (fun w => ?_)
  refine sxc_env (l' := [(0, .slice a2 x1.length c3), (1, .slice a5 x4.length c6)]) rfl ?_
  refine sxc_seq ?_
  refine sxc_region ?_
  refine sxo_assign rfl rfl rfl ?_
  refine sxo_nil ?_
  refine sxq_next ?_
  refine sxc_seq ?_
  refine sxc_region ?_
  refine sxo_move rfl rfl rfl ?_
  refine sxo_callM ent11 rfl rfl rfl (fun x7 e7 => C_varint_All F x1 a2 c3 x7 e7) .nil .nil (.consF 0 rfl .nil) (fun x7 e7 => ?_)
  rintro ⟨a8, c9⟩
  refine sxo_move rfl rfl rfl ?_
  refine sxo_extract rfl rfl rfl rfl ?_
  refine sxo_extract rfl rfl rfl rfl ?_
  refine sxo_assign rfl rfl rfl ?_
  refine sxo_assign rfl rfl rfl ?_
  refine sxo_nil ?_
  refine sxq_next ?_
  refine sxc_seq ?_
  refine sxc_region ?_
  refine sxo_move rfl rfl rfl ?_
  refine sxo_callM ent11 rfl rfl rfl (fun x10 e10 => C_varint_All F x4 a5 c6 x10 e10) .nil .nil (.consF 1 rfl .nil) (fun x10 e10 => ?_)
  rintro ⟨a11, c12⟩
  refine sxo_move rfl rfl rfl ?_
  refine sxo_extract rfl rfl rfl rfl ?_
  refine sxo_extract rfl rfl rfl rfl ?_
  refine sxo_assign rfl rfl rfl ?_
  refine sxo_assign rfl rfl rfl ?_
  refine sxo_nil ?_
  refine sxq_next ?_
  refine sxc_seq ?_
  refine sxc_seq ?_
  refine sxc_region ?_
  refine sxo_call ent15 rfl rfl rfl (fun x15 e15 => C_L_varintBegun F  x15 e15) .nil (fun x15 e15 => ?_)
  intro _
  refine sxo_not rfl rfl rfl ?_
  refine sxo_nil ?_
  refine sxq_next ?_
  refine sxc_if rfl (fun h75 => ?_) (fun h75 => ?_)
  · refine sxc_seq ?_
    refine sxc_region ?_
    refine sxo_assign rfl rfl rfl ?_
    refine sxo_nil ?_
    refine sxq_next ?_
    refine sxc_ret ?_
    refine sxq_thenR ?_
    exact sxq_doneP () (.inl rfl) (res1 rfl rfl) (fun h => by subst h; rfl) (fun h => by subst h; exact .nil)
  · refine sxc_skip ?_
    refine sxq_next ?_
    refine sxc_seq ?_
    refine sxc_seq ?_
    refine sxc_region ?_
    refine sxo_move rfl rfl rfl ?_
    refine sxo_neq rfl rfl rfl rfl ?_
    refine sxo_move rfl rfl rfl ?_
    refine sxo_case 3 ((x7.2 : Int) != 0) [(0, .slice a2 x1.length c3), (1, .slice a5 x4.length c6), (5, .slice a8 x7.1.length c9), (6, .int .i64 x7.2), (7, .slice a11 x10.1.length c12), (28, .bool (((x7.2 : Int) != 0) || ((x10.2 : Int) != 0)))] (fun h19 => ?_) (fun h19 => ?_) ?_
    · refine sxo_take (os := _) rfl ?_
      refine sxo_isT (k := 25) rfl h19 ?_
      refine sxo_skip rfl rfl rfl ?_
      refine sxo_skip rfl rfl rfl ?_
      refine sxo_pick (b := true) rfl rfl rfl rfl ?_
      refine sxo_again (d := 28) (v := .bool (((x7.2 : Int) != 0) || ((x10.2 : Int) != 0))) rfl (by rw [h19]; simp only [Bool.true_or]) ?_
      refine sxo_nil ?_
      exact sxq_case (lk_cons rfl (lk_cons rfl (lk_cons rfl (lk_cons rfl (lk_cons rfl (lk_cons rfl lk_nil))))))
    · refine sxo_take (os := _) rfl ?_
      refine sxo_isF (k := 25) rfl h19 ?_
      refine sxo_move rfl rfl rfl ?_
      refine sxo_neq rfl rfl rfl rfl ?_
      refine sxo_pick (b := false) rfl rfl rfl rfl ?_
      refine sxo_again (d := 28) (v := .bool (((x7.2 : Int) != 0) || ((x10.2 : Int) != 0))) rfl (by rw [h19]; simp only [Bool.false_or]) ?_
      refine sxo_nil ?_
      exact sxq_case (lk_cons rfl (lk_cons rfl (lk_cons rfl (lk_cons rfl (lk_cons rfl (lk_cons rfl lk_nil))))))
    refine sxo_take (os := _) rfl ?_
    refine sxo_nil ?_
    refine sxq_next ?_
    refine sxc_if rfl (fun h74 => ?_) (fun h74 => ?_)
    · refine sxc_seq ?_
      refine sxc_region ?_
      refine sxo_move rfl rfl rfl ?_
      refine sxo_eql rfl rfl rfl rfl ?_
      refine sxo_move rfl rfl rfl ?_
      refine sxo_case 4 ((x7.2 : Int) == 0) [(35, .bool (((x7.2 : Int) == 0) || (((x7.1.length : Int) : Int) == 0)))] (fun h20 => ?_) (fun h20 => ?_) ?_
      · refine sxo_take (os := _) rfl ?_
        refine sxo_isT (k := 31) rfl h20 ?_
        refine sxo_skip rfl rfl rfl ?_
        refine sxo_skip rfl rfl rfl ?_
        refine sxo_skip rfl rfl rfl ?_
        refine sxo_pick (b := true) rfl rfl rfl rfl ?_
        refine sxo_again (d := 35) (v := .bool (((x7.2 : Int) == 0) || (((x7.1.length : Int) : Int) == 0))) rfl (by rw [h20]; simp only [Bool.true_or]) ?_
        refine sxo_nil ?_
        exact sxq_case (lk_cons rfl lk_nil)
      · refine sxo_take (os := _) rfl ?_
        refine sxo_isF (k := 31) rfl h20 ?_
        refine sxo_move rfl rfl rfl ?_
        refine sxo_len rfl Try.underlying22 rfl rfl ?_
        refine sxo_eql rfl rfl rfl rfl ?_
        refine sxo_pick (b := false) rfl rfl rfl rfl ?_
        refine sxo_again (d := 35) (v := .bool (((x7.2 : Int) == 0) || (((x7.1.length : Int) : Int) == 0))) rfl (by rw [h20]; simp only [Bool.false_or]) ?_
        refine sxo_nil ?_
        exact sxq_case (lk_cons rfl lk_nil)
      refine sxo_take (os := _) rfl ?_
      refine sxo_assign rfl rfl rfl ?_
      refine sxo_nil ?_
      refine sxq_next ?_
      refine sxc_ret ?_
      refine sxq_thenR ?_
      exact sxq_doneP () (.inl rfl) (res1 rfl rfl) (fun h => by subst h; rfl) (fun h => by subst h; exact .nil)
    · refine sxc_skip ?_
      refine sxq_next ?_
      refine sxc_seq ?_
      refine sxc_region ?_
      refine sxo_slit (vs := []) (ys := ([] : List Int)) (eI_ok .u8) (by decide) rfl Try.underlying23 tf5 rfl rfl rfl rfl rfl (by decide) (fun a21 c22 => ?_)
      refine sxo_move rfl rfl rfl ?_
      refine sxo_app 0 (eI_ok .u8) rfl Try.underlying23 tf5 rfl rfl rfl rfl rfl (.inr ⟨0, rfl⟩) rfl rfl (fun x23 e23 a24 c25 => ?_)
      refine sxo_move rfl rfl rfl ?_
      refine sxo_app 0 (eI_ok .u8) rfl Try.underlying23 tf5 rfl rfl rfl rfl rfl (.inr ⟨1, rfl⟩) rfl rfl (fun x26 e26 a27 c28 => ?_)
      refine sxo_callM ent11 rfl rfl rfl (fun x29 e29 => C_varint_All F x26 a27 c28 x29 e29) .nil .nil (.consR 0 (Ro (eI .u8) 5 1 (.slice a27 x26.length c28) x26) rfl .nil) (fun x29 e29 => ?_)
      rintro ⟨a30, c31⟩
      refine sxo_move rfl rfl rfl ?_
      refine sxo_extract rfl rfl rfl rfl ?_
      refine sxo_extract rfl rfl rfl rfl ?_
      refine sxo_assign rfl rfl rfl ?_
      refine sxo_assign rfl rfl rfl ?_
      refine sxo_nil ?_
      refine sxq_next ?_
      refine sxc_seq ?_
      refine sxc_region ?_
      refine sxo_move rfl rfl rfl ?_
      refine sxo_eql rfl rfl rfl rfl ?_
      refine sxo_move rfl rfl rfl ?_
      refine sxo_join 12 (fun ((x53, _) : (Bool × Unit)) => [(59, .bool x53)]) (fun ((x53, _) : (Bool × Unit)) => []) (fun ((x53, _) : (Bool × Unit)) => []) (fun ((x53, _) : (Bool × Unit)) => []) (fun ((x53, _) : (Bool × Unit)) => M_L_VarintJoins_j2 F x53) ?_ ?_
      · refine sxo_take (os := _) rfl ?_
        refine sxo_if (fun h32 => ?_) (fun h32 => ?_)
        · refine sxo_isT (k := 47) rfl h32 ?_
          refine sxo_skip rfl rfl rfl ?_
          refine sxo_skip rfl rfl rfl ?_
          refine sxo_skip rfl rfl rfl ?_
          refine sxo_skip rfl rfl rfl ?_
          refine sxo_skip rfl rfl rfl ?_
          refine sxo_skip rfl rfl rfl ?_
          refine sxo_skip rfl rfl rfl ?_
          refine sxo_skip rfl rfl rfl ?_
          refine sxo_skip rfl rfl rfl ?_
          refine sxo_skip rfl rfl rfl ?_
          refine sxo_skip rfl rfl rfl ?_
          refine sxo_pick (b := true) rfl rfl rfl rfl ?_
          refine sxo_nil ?_
          exact sxq_meetP (true, ()) (lk_cons rfl lk_nil) .nil .nil fk_nil
        · refine sxo_isF (k := 47) rfl h32 ?_
          refine sxo_move rfl rfl rfl ?_
          refine sxo_eql rfl rfl rfl rfl ?_
          refine sxo_move rfl rfl rfl ?_
          refine sxo_join 8 (fun ((x64, _) : (Bool × Unit)) => [(47, .bool false), (58, .bool x64)]) (fun ((x64, _) : (Bool × Unit)) => []) (fun ((x64, _) : (Bool × Unit)) => []) (fun ((x64, _) : (Bool × Unit)) => []) (fun ((x64, _) : (Bool × Unit)) => M_L_VarintJoins_j3 F x64) ?_ ?_
          · refine sxo_take (os := _) rfl ?_
            refine sxo_if (fun h54 => ?_) (fun h54 => ?_)
            · refine sxo_isT (k := 50) rfl h54 ?_
              refine sxo_move rfl rfl rfl ?_
              refine sxo_slit (vs := []) (ys := ([] : List Int)) (eI_ok .u64) (by decide) rfl Try.underlying22 tf27 rfl rfl rfl rfl rfl (by decide) (fun a65 c66 => ?_)
              refine sxo_move rfl rfl rfl ?_
              refine sxo_app 0 (eI_ok .u64) rfl Try.underlying22 tf27 rfl rfl rfl rfl rfl (.inl ⟨4, _, rfl⟩) rfl rfl (fun x67 e67 a68 c69 => ?_)
              refine sxo_move rfl rfl rfl ?_
              refine sxo_app 0 (eI_ok .u64) rfl Try.underlying22 tf27 rfl rfl rfl rfl rfl (.inl ⟨3, _, rfl⟩) rfl rfl (fun x70 e70 a71 c72 => ?_)
              refine sxo_call ent20 rfl rfl rfl (fun x73 e73 => C_R_SameNums F x29.1 a30 c31 x70 a71 c72 x73 e73) (.consR 1 (Ro (eI .u64) 27 1 (.slice a30 x29.1.length c31) x29.1) rfl (.consR 0 (Ro (eI .u64) 27 1 (.slice a71 x70.length c72) x70) rfl .nil)) (fun x73 e73 => ?_)
              intro _
              refine sxo_pick (b := true) rfl rfl rfl rfl ?_
              refine sxo_nil ?_
              exact sxq_meetP (x73, ()) (lk_cons rfl (lk_cons rfl lk_nil)) .nil .nil fk_nil
            · refine sxo_isF (k := 50) rfl h54 ?_
              refine sxo_skip rfl rfl rfl ?_
              refine sxo_skip rfl rfl rfl ?_
              refine sxo_skip rfl rfl rfl ?_
              refine sxo_skip rfl rfl rfl ?_
              refine sxo_skip rfl rfl rfl ?_
              refine sxo_skip rfl rfl rfl ?_
              refine sxo_skip rfl rfl rfl ?_
              refine sxo_pick (b := false) rfl rfl rfl rfl ?_
              refine sxo_nil ?_
              exact sxq_meetP (false, ()) (lk_cons rfl (lk_cons rfl lk_nil)) .nil .nil fk_nil
          · rintro ⟨x64, _⟩
            try dsimp only
            refine sxo_take (os := _) rfl ?_
            refine sxo_pick (b := false) rfl rfl rfl rfl ?_
            refine sxo_nil ?_
            exact sxq_meetP (x64, ()) (lk_cons rfl lk_nil) .nil .nil fk_nil
      · rintro ⟨x53, _⟩
        try dsimp only
        refine sxo_take (os := _) rfl ?_
        refine sxo_assign rfl rfl rfl ?_
        refine sxo_nil ?_
        refine sxq_next ?_
        refine sxc_ret ?_
        exact sxq_doneP () (.inl rfl) (res1 rfl rfl) (fun h => by subst h; rfl) (fun h => by subst h; exact .nil)

theorem C_L_VarintCut (F : Nat) (x1 : Int) (x2 : Int) (r : Bool) (hm : M_L_VarintCut F x1 x2 = some r) :
    Pure Try.prog 8 [.int .u64 x1, .int .i64 x2] [] Unit (fun _ => .bool r) (fun _ => []) (fun _ => []) := by
  refine pure_of Try.func8 rfl Try.ntmps8 rfl hm (fun w => ?_)
  refine sxc_env (l' := [(0, .int .u64 x1), (1, .int .i64 x2)]) rfl ?_
  refine sxc_seq ?_
  refine sxc_region ?_
  refine sxo_assign rfl rfl rfl ?_
  refine sxo_nil ?_
  refine sxq_next ?_
  refine sxc_seq ?_
  refine sxc_region ?_
  refine sxo_move rfl rfl rfl ?_
  refine sxo_slit (vs := [.int .u64 x1]) (ys := ([x1] : List Int)) (eI_ok .u64) (by decide) rfl Try.underlying22 tf27 rfl rfl rfl rfl rfl (by decide) (fun a3 c4 => ?_)
  refine sxo_call ent9 rfl rfl rfl (fun x5 e5 => C_varint_Write F ([x1] : List Int) a3 c4 x5 e5) (.consR 0 (Ro (eI .u64) 27 1 (.slice a3 ([x1] : List Int).length c4) ([x1] : List Int)) rfl .nil) (fun x5 e5 => ?_)
  rintro ⟨a6, c7⟩
  refine sxo_move rfl rfl rfl ?_
  refine sxo_extract rfl rfl rfl rfl ?_
  refine sxo_extract rfl rfl rfl rfl ?_
  refine sxo_assign rfl rfl rfl ?_
  refine sxo_assign rfl rfl rfl ?_
  refine sxo_nil ?_
  refine sxq_next ?_
  refine sxc_seq ?_
  refine sxc_seq ?_
  refine sxc_region ?_
  refine sxo_call ent15 rfl rfl rfl (fun x11 e11 => C_L_varintBegun F  x11 e11) .nil (fun x11 e11 => ?_)
  intro _
  refine sxo_not rfl rfl rfl ?_
  refine sxo_move rfl rfl rfl ?_
  refine sxo_case 3 (!x11) [(0, .int .u64 x1), (1, .int .i64 x2), (5, .slice a6 x5.1.length c7), (24, .bool ((!x11) || ((x5.2 : Int) != 0)))] (fun h12 => ?_) (fun h12 => ?_) ?_
  · refine sxo_take (os := _) rfl ?_
    refine sxo_isT (k := 21) rfl h12 ?_
    refine sxo_skip rfl rfl rfl ?_
    refine sxo_skip rfl rfl rfl ?_
    refine sxo_pick (b := true) rfl rfl rfl rfl ?_
    refine sxo_again (d := 24) (v := .bool ((!x11) || ((x5.2 : Int) != 0))) rfl (by rw [h12]; simp only [Bool.true_or]) ?_
    refine sxo_nil ?_
    exact sxq_case (lk_cons rfl (lk_cons rfl (lk_cons rfl (lk_cons rfl lk_nil))))
  · refine sxo_take (os := _) rfl ?_
    refine sxo_isF (k := 21) rfl h12 ?_
    refine sxo_move rfl rfl rfl ?_
    refine sxo_neq rfl rfl rfl rfl ?_
    refine sxo_pick (b := false) rfl rfl rfl rfl ?_
    refine sxo_again (d := 24) (v := .bool ((!x11) || ((x5.2 : Int) != 0))) rfl (by rw [h12]; simp only [Bool.false_or]) ?_
    refine sxo_nil ?_
    exact sxq_case (lk_cons rfl (lk_cons rfl (lk_cons rfl (lk_cons rfl lk_nil))))
  refine sxo_take (os := _) rfl ?_
  refine sxo_nil ?_
  refine sxq_next ?_
  refine sxc_if rfl (fun h25 => ?_) (fun h25 => ?_)
  · refine sxc_seq ?_
    refine sxc_region ?_
    refine sxo_assign rfl rfl rfl ?_
    refine sxo_nil ?_
    refine sxq_next ?_
    refine sxc_ret ?_
    refine sxq_thenR ?_
    exact sxq_doneP () (.inl rfl) (res1 rfl rfl) (fun h => by subst h; rfl) (fun h => by subst h; exact .nil)
  · refine sxc_skip ?_
    refine sxq_next ?_
    refine sxc_seq ?_
    refine sxc_seq ?_
    refine sxc_region ?_
    refine sxo_move rfl rfl rfl ?_
    refine sxo_lss rfl rfl rfl rfl ?_
    refine sxo_move rfl rfl rfl ?_
    refine sxo_case 5 (decide (x2 < 0)) [(0, .int .u64 x1), (1, .int .i64 x2), (5, .slice a6 x5.1.length c7), (32, .bool ((decide (x2 < 0)) || (decide ((x5.1.length : Int) ≤ x2))))] (fun h15 => ?_) (fun h15 => ?_) ?_
    · refine sxo_take (os := _) rfl ?_
      refine sxo_isT (k := 27) rfl h15 ?_
      refine sxo_skip rfl rfl rfl ?_
      refine sxo_skip rfl rfl rfl ?_
      refine sxo_skip rfl rfl rfl ?_
      refine sxo_skip rfl rfl rfl ?_
      refine sxo_pick (b := true) rfl rfl rfl rfl ?_
      refine sxo_again (d := 32) (v := .bool ((decide (x2 < 0)) || (decide ((x5.1.length : Int) ≤ x2)))) rfl (by rw [h15]; simp only [Bool.true_or]) ?_
      refine sxo_nil ?_
      exact sxq_case (lk_cons rfl (lk_cons rfl (lk_cons rfl (lk_cons rfl lk_nil))))
    · refine sxo_take (os := _) rfl ?_
      refine sxo_isF (k := 27) rfl h15 ?_
      refine sxo_move rfl rfl rfl ?_
      refine sxo_move rfl rfl rfl ?_
      refine sxo_len rfl Try.underlying23 rfl rfl ?_
      refine sxo_geq rfl rfl rfl rfl ?_
      refine sxo_pick (b := false) rfl rfl rfl rfl ?_
      refine sxo_again (d := 32) (v := .bool ((decide (x2 < 0)) || (decide ((x5.1.length : Int) ≤ x2)))) rfl (by rw [h15]; simp only [Bool.false_or]) ?_
      refine sxo_nil ?_
      exact sxq_case (lk_cons rfl (lk_cons rfl (lk_cons rfl (lk_cons rfl lk_nil))))
    refine sxo_take (os := _) rfl ?_
    refine sxo_nil ?_
    refine sxq_next ?_
    refine sxc_if rfl (fun h24 => ?_) (fun h24 => ?_)
    · refine sxc_seq ?_
      refine sxc_region ?_
      refine sxo_assign rfl rfl rfl ?_
      refine sxo_nil ?_
      refine sxq_next ?_
      refine sxc_ret ?_
      refine sxq_thenR ?_
      exact sxq_doneP () (.inl rfl) (res1 rfl rfl) (fun h => by subst h; rfl) (fun h => by subst h; exact .nil)
    · refine sxc_skip ?_
      refine sxq_next ?_
      refine sxc_seq ?_
      refine sxc_region ?_
      refine sxo_move rfl rfl rfl ?_
      refine sxo_move rfl rfl rfl ?_
      refine sxo_freeze 0 rfl ?_
      refine sxo_cut (j := 0) (eI_ok .u8) rfl Try.underlying23 tf5 rfl rfl rfl rfl rfl (fun x16 e16 a17 c18 => ?_)
      refine sxo_call ent10 rfl rfl rfl (fun x19 e19 => C_varint_Read F x16 a17 c18 0 x19 e19) (.consF 0 rfl .nil) (fun x19 e19 => ?_)
      intro _
      refine sxo_move rfl rfl rfl ?_
      refine sxo_extract rfl rfl rfl rfl ?_
      refine sxo_extract rfl rfl rfl rfl ?_
      refine sxo_extract rfl rfl rfl rfl ?_
      refine sxo_assign rfl rfl rfl ?_
      refine sxo_assign rfl rfl rfl ?_
      refine sxo_assign rfl rfl rfl ?_
      refine sxo_nil ?_
      refine sxq_next ?_
      refine sxc_seq ?_
      refine sxc_region ?_
      refine sxo_move rfl rfl rfl ?_
      refine sxo_call ent10 rfl rfl rfl (fun x20 e20 => C_varint_Read F x5.1 a6 c7 0 x20 e20) (.consF 1 rfl .nil) (fun x20 e20 => ?_)
      intro _
      refine sxo_move rfl rfl rfl ?_
      refine sxo_extract rfl rfl rfl rfl ?_
      refine sxo_extract rfl rfl rfl rfl ?_
      refine sxo_extract rfl rfl rfl rfl ?_
      refine sxo_assign rfl rfl rfl ?_
      refine sxo_assign rfl rfl rfl ?_
      refine sxo_assign rfl rfl rfl ?_
      refine sxo_nil ?_
      refine sxq_next ?_
      refine sxc_seq ?_
      refine sxc_region ?_
      refine sxo_move rfl rfl rfl ?_
      refine sxo_eql rfl rfl rfl rfl ?_
      refine sxo_move rfl rfl rfl ?_
      refine sxo_case 3 ((x19.2.2 : Int) == 7) [(0, .int .u64 x1), (5, .slice a6 x5.1.length c7), (10, .int .u64 x20.1), (11, .int .i64 x20.2.1), (52, .bool (((x19.2.2 : Int) == 7) && ((x20.2.2 : Int) == 0)))] (fun h21 => ?_) (fun h21 => ?_) ?_
      · refine sxo_take (os := _) rfl ?_
        refine sxo_isT (k := 49) rfl h21 ?_
        refine sxo_move rfl rfl rfl ?_
        refine sxo_eql rfl rfl rfl rfl ?_
        refine sxo_pick (b := true) rfl rfl rfl rfl ?_
        refine sxo_again (d := 52) (v := .bool (((x19.2.2 : Int) == 7) && ((x20.2.2 : Int) == 0))) rfl (by rw [h21]; simp only [Bool.true_and]) ?_
        refine sxo_nil ?_
        exact sxq_case (lk_cons rfl (lk_cons rfl (lk_cons rfl (lk_cons rfl (lk_cons rfl lk_nil)))))
      · refine sxo_take (os := _) rfl ?_
        refine sxo_isF (k := 49) rfl h21 ?_
        refine sxo_skip rfl rfl rfl ?_
        refine sxo_skip rfl rfl rfl ?_
        refine sxo_pick (b := false) rfl rfl rfl rfl ?_
        refine sxo_again (d := 52) (v := .bool (((x19.2.2 : Int) == 7) && ((x20.2.2 : Int) == 0))) rfl (by rw [h21]; simp only [Bool.false_and]) ?_
        refine sxo_nil ?_
        exact sxq_case (lk_cons rfl (lk_cons rfl (lk_cons rfl (lk_cons rfl (lk_cons rfl lk_nil)))))
      refine sxo_take (os := _) rfl ?_
      refine sxo_move rfl rfl rfl ?_
      refine sxo_case 4 (((x19.2.2 : Int) == 7) && ((x20.2.2 : Int) == 0)) [(5, .slice a6 x5.1.length c7), (11, .int .i64 x20.2.1), (57, .bool ((((x19.2.2 : Int) == 7) && ((x20.2.2 : Int) == 0)) && ((x20.1 : Int) == x1)))] (fun h22 => ?_) (fun h22 => ?_) ?_
      · refine sxo_take (os := _) rfl ?_
        refine sxo_isT (k := 53) rfl h22 ?_
        refine sxo_move rfl rfl rfl ?_
        refine sxo_move rfl rfl rfl ?_
        refine sxo_eql rfl rfl rfl rfl ?_
        refine sxo_pick (b := true) rfl rfl rfl rfl ?_
        refine sxo_again (d := 57) (v := .bool ((((x19.2.2 : Int) == 7) && ((x20.2.2 : Int) == 0)) && ((x20.1 : Int) == x1))) rfl (by rw [h22]; simp only [Bool.true_and]) ?_
        refine sxo_nil ?_
        exact sxq_case (lk_cons rfl (lk_cons rfl (lk_cons rfl lk_nil)))
      · refine sxo_take (os := _) rfl ?_
        refine sxo_isF (k := 53) rfl h22 ?_
        refine sxo_skip rfl rfl rfl ?_
        refine sxo_skip rfl rfl rfl ?_
        refine sxo_skip rfl rfl rfl ?_
        refine sxo_pick (b := false) rfl rfl rfl rfl ?_
        refine sxo_again (d := 57) (v := .bool ((((x19.2.2 : Int) == 7) && ((x20.2.2 : Int) == 0)) && ((x20.1 : Int) == x1))) rfl (by rw [h22]; simp only [Bool.false_and]) ?_
        refine sxo_nil ?_
        exact sxq_case (lk_cons rfl (lk_cons rfl (lk_cons rfl lk_nil)))
      refine sxo_take (os := _) rfl ?_
      refine sxo_move rfl rfl rfl ?_
      refine sxo_case 5 ((((x19.2.2 : Int) == 7) && ((x20.2.2 : Int) == 0)) && ((x20.1 : Int) == x1)) [(63, .bool (((((x19.2.2 : Int) == 7) && ((x20.2.2 : Int) == 0)) && ((x20.1 : Int) == x1)) && ((x20.2.1 : Int) == (x5.1.length : Int))))] (fun h23 => ?_) (fun h23 => ?_) ?_
      · refine sxo_take (os := _) rfl ?_
        refine sxo_isT (k := 58) rfl h23 ?_
        refine sxo_move rfl rfl rfl ?_
        refine sxo_move rfl rfl rfl ?_
        refine sxo_len rfl Try.underlying23 rfl rfl ?_
        refine sxo_eql rfl rfl rfl rfl ?_
        refine sxo_pick (b := true) rfl rfl rfl rfl ?_
        refine sxo_again (d := 63) (v := .bool (((((x19.2.2 : Int) == 7) && ((x20.2.2 : Int) == 0)) && ((x20.1 : Int) == x1)) && ((x20.2.1 : Int) == (x5.1.length : Int)))) rfl (by rw [h23]; simp only [Bool.true_and]) ?_
        refine sxo_nil ?_
        exact sxq_case (lk_cons rfl lk_nil)
      · refine sxo_take (os := _) rfl ?_
        refine sxo_isF (k := 58) rfl h23 ?_
        refine sxo_skip rfl rfl rfl ?_
        refine sxo_skip rfl rfl rfl ?_
        refine sxo_skip rfl rfl rfl ?_
        refine sxo_skip rfl rfl rfl ?_
        refine sxo_pick (b := false) rfl rfl rfl rfl ?_
        refine sxo_again (d := 63) (v := .bool (((((x19.2.2 : Int) == 7) && ((x20.2.2 : Int) == 0)) && ((x20.1 : Int) == x1)) && ((x20.2.1 : Int) == (x5.1.length : Int)))) rfl (by rw [h23]; simp only [Bool.false_and]) ?_
        refine sxo_nil ?_
        exact sxq_case (lk_cons rfl lk_nil)
      refine sxo_take (os := _) rfl ?_
      refine sxo_assign rfl rfl rfl ?_
      refine sxo_nil ?_
      refine sxq_next ?_
      refine sxc_ret ?_
      exact sxq_doneP () (.inl rfl) (res1 rfl rfl) (fun h => by subst h; rfl) (fun h => by subst h; exact .nil)
end Go.Proofs.Ytbdaopnokonmpaa
