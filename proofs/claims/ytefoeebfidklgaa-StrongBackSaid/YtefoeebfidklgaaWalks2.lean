/- Each Go function of this seat computes what its model says, part 2. -/
import Derived.Test.YtefoeebfidklgaaWalks
namespace Go.Proofs.Ytefoeebfidklgaa
open Go SX
theorem C_slices_AppendSeq_int_int_slices_Values_int_int_1 (F : Nat) (x1 : List Int) (a2 : Option Addr) (c3 : Nat) (g4 : Nat) (x5 : List Int) (a6 : Option Addr) (c7 : Nat) (r : List Int) (hm : M_slices_AppendSeq_int_int_slices_Values_int_int_1 F x1 x5 = some r) :
    PureM Try.prog 78 [.slice a2 x1.length c3, .func (.func 62) #[] #[.pointer (some ⟨g4, 0, none⟩)]] [⟨g4, 25, [.slice a6 x5.length c7]⟩] [Ro (eI .i64) 3 1 (.slice a2 x1.length c3) x1] [Sl (eI .i64) 1 (.slice a6 x5.length c7) x5] (Option Addr × Nat) (fun g => .slice g.1 r.length g.2) (fun _ => [⟨g4, 25, [.slice a6 x5.length c7]⟩]) (fun g => [Ro (eI .i64) 3 1 (.slice g.1 r.length g.2) r]) := by
  refine pureX_of Try.func78 rfl Try.ntmps78 rfl hm (fun w => ?_)
  refine sxc_env (l' := [(0, .slice a2 x1.length c3), (1, .func (.func 62) #[] #[.pointer (some ⟨g4, 0, none⟩)])]) rfl ?_
  refine sxc_seq ?_
  refine sxc_region ?_
  refine sxo_box rfl rfl rfl (fun g8 => ?_)
  refine sxo_assign rfl rfl rfl ?_
  refine sxo_nil ?_
  refine sxq_next ?_
  refine sxc_seq ?_
  refine sxc_seq ?_
  refine sxc_region ?_
  refine sxo_move rfl rfl rfl ?_
  refine sxo_nil ?_
  refine sxq_next ?_
  refine sxc_block ?_
  refine sxc_range (encs := (fun (p : Int) => [.int .i64 p])) (y := (fun (x38 : List Int) (x45 : Int) => M_slices_AppendSeq_int_int_slices_Values_int_int_1_r2 F x38 x45)) (lb := [.pointer (some ⟨g4, 0, none⟩)]) (fun (x38 : List Int) ((a36, c37) : (Option Addr × Nat)) => [⟨g8, 25, [.slice a36 x38.length c37]⟩]) (fun (x38 : List Int) ((a36, c37) : (Option Addr × Nat)) => [Ro (eI .i64) 3 1 (.slice a36 x38.length c37) x38]) (fun (_ : Empty) (_ : Unit) => []) (fun (_ : Empty) (_ : Unit) => []) (fun _ => .skip) x1 (a2, c3) rfl ent62 (fun _ => rfl) rfl (.cons 1 rfl .nil) (.cons 0 rfl .nil) (.cons 0 rfl .nil) (.consF 0 rfl .nil) (fun z hz _ _ _ hY => C_slices_Values_int_int_1 F hY x1 (a2, c3) g4 x5 a6 c7 z hz) ?_ ?_ ?_
  · rintro rc1 L1 D1 x38 ⟨a36, c37⟩ x45 z w M _
    try dsimp only
    refine sxc_less [(0, .slice a2 x1.length c3), (1, .func (.func 62) #[] #[.pointer (some ⟨g4, 0, none⟩)]), (2, .pointer (some ⟨g8, 0, none⟩)), (4, .slice none 0 0), (6, .func (.func 62) #[] #[.pointer (some ⟨g4, 0, none⟩)]), (7, .int .i64 x45)] (lk_cons rfl (lk_cons rfl (lk_cons rfl (lk_cons rfl (lk_cons rfl (lk_cons rfl lk_nil)))))) ?_
    refine sxc_region ?_
    refine sxo_assign rfl rfl rfl ?_
    refine sxo_nil ?_
    refine sxq_begin (i := 1) rfl ?_
    refine sxc_block ?_
    refine sxc_region ?_
    refine sxo_loadB (i := 0) rfl rfl tf25 rfl rfl (fun _ => rfl) rfl rfl ?_
    refine sxo_move rfl rfl rfl ?_
    refine sxo_slit (vs := [.int .i64 x45]) (ys := ([x45] : List Int)) (eI_ok .i64) (by decide) rfl Try.underlying25 tf3 rfl rfl rfl rfl rfl (by decide) (fun a46 c47 => ?_)
    refine sxo_app 1 (eI_ok .i64) rfl Try.underlying25 tf3 rfl rfl rfl rfl rfl (.inl ⟨0, _, rfl⟩) rfl rfl (fun x48 e48 a49 c50 => ?_)
    refine sxo_storeB (i := 0) rfl rfl rfl tf25 rfl rfl rfl rfl rfl ?_
    refine sxo_nil ?_
    refine sxq_blkN ?_
    exact sxq_round (rc := rc1) rfl (.cons 1 rfl .nil) rfl (a49, c50) (.cons 1 rfl (.cons 0 rfl (.cons 0 rfl .nil))) (.cons 0 rfl .nil)
  · rintro x38 _ ⟨a36, c37⟩ D1
    try dsimp only
    refine sxq_blkN ?_
    refine sxq_next ?_
    refine sxc_seq ?_
    refine sxc_region ?_
    refine sxo_loadB (i := 2) rfl rfl tf25 rfl rfl (fun _ => rfl) rfl rfl ?_
    refine sxo_assign rfl rfl rfl ?_
    refine sxo_nil ?_
    refine sxq_next ?_
    refine sxc_ret ?_
    exact sxq_doneX [D1] (a36, c37) (.inl rfl) rfl (.cons 0 rfl .nil) (res1 rfl rfl) (fun h => by subst h; rfl) (fun h => by subst h; exact (.cons 0 rfl .nil)) (fun h => by subst h; exact (.cons 0 rfl .nil))
  · intro t; exact t.elim

theorem C_slices_Collect_int_slices_Values_int_int_1 (F : Nat) (g1 : Nat) (x2 : List Int) (a3 : Option Addr) (c4 : Nat) (r : List Int) (hm : M_slices_Collect_int_slices_Values_int_int_1 F x2 = some r) :
    PureM Try.prog 60 [.func (.func 62) #[] #[.pointer (some ⟨g1, 0, none⟩)]] [⟨g1, 25, [.slice a3 x2.length c4]⟩] [] [Sl (eI .i64) 1 (.slice a3 x2.length c4) x2] (Option Addr × Nat) (fun g => .slice g.1 r.length g.2) (fun _ => [⟨g1, 25, [.slice a3 x2.length c4]⟩]) (fun g => [Ro (eI .i64) 3 1 (.slice g.1 r.length g.2) r]) := by
  refine pureM_of Try.func60 rfl Try.ntmps60 rfl hm (fun w => ?_)
  refine sxc_env (l' := [(0, .func (.func 62) #[] #[.pointer (some ⟨g1, 0, none⟩)])]) rfl ?_
  refine sxc_seq ?_
  refine sxc_region ?_
  refine sxo_assign rfl rfl rfl ?_
  refine sxo_nil ?_
  refine sxq_next ?_
  refine sxc_seq ?_
  refine sxc_region ?_
  refine sxo_move rfl rfl rfl ?_
  refine sxo_nilrow' Int (eI .i64) 3 1 ?_
  refine sxo_callM ent78 rfl rfl rfl (fun x5 e5 => C_slices_AppendSeq_int_int_slices_Values_int_int_1 F ([] : List Int) none 0 g1 x2 a3 c4 x5 e5) (.cons 0 rfl .nil) (.cons 0 rfl .nil) (.consF 0 rfl .nil) (fun x5 e5 => ?_)
  rintro ⟨a6, c7⟩
  refine sxo_assign rfl rfl rfl ?_
  refine sxo_nil ?_
  refine sxq_next ?_
  refine sxc_ret ?_
  exact sxq_doneM (a6, c7) (.inl rfl) (res1 rfl rfl) (fun h => by subst h; rfl) (fun h => by subst h; exact (.cons 0 rfl .nil)) (fun h => by subst h; exact (.cons 0 rfl .nil))

theorem C_slices_Sorted_int_slices_Values_int_int_1 (F : Nat) (g1 : Nat) (x2 : List Int) (a3 : Option Addr) (c4 : Nat) (r : List Int) (hm : M_slices_Sorted_int_slices_Values_int_int_1 F x2 = some r) :
    PureM Try.prog 36 [.func (.func 62) #[] #[.pointer (some ⟨g1, 0, none⟩)]] [⟨g1, 25, [.slice a3 x2.length c4]⟩] [] [Sl (eI .i64) 1 (.slice a3 x2.length c4) x2] (Option Addr × Nat) (fun g => .slice g.1 r.length g.2) (fun _ => [⟨g1, 25, [.slice a3 x2.length c4]⟩]) (fun g => [Ro (eI .i64) 3 1 (.slice g.1 r.length g.2) r]) := by
  refine pureM_of Try.func36 rfl Try.ntmps36 rfl hm (fun w => ?_)
  refine sxc_env (l' := [(0, .func (.func 62) #[] #[.pointer (some ⟨g1, 0, none⟩)])]) rfl ?_
  refine sxc_seq ?_
  refine sxc_region ?_
  refine sxo_assign rfl rfl rfl ?_
  refine sxo_nil ?_
  refine sxq_next ?_
  refine sxc_seq ?_
  refine sxc_region ?_
  refine sxo_move rfl rfl rfl ?_
  refine sxo_callM ent60 rfl rfl rfl (fun x5 e5 => C_slices_Collect_int_slices_Values_int_int_1 F g1 x2 a3 c4 x5 e5) (.cons 0 rfl .nil) .nil (.consF 0 rfl .nil) (fun x5 e5 => ?_)
  rintro ⟨a6, c7⟩
  refine sxo_assign rfl rfl rfl ?_
  refine sxo_nil ?_
  refine sxq_next ?_
  refine sxc_seq ?_
  refine sxc_region ?_
  refine sxo_move rfl rfl rfl ?_
  refine sxo_callM ent61 rfl rfl rfl (fun x8 e8 => C_slices_Sort_int_int F x5 a6 c7 x8 e8) .nil (.cons 0 rfl .nil) .nil (fun x8 e8 => ?_)
  intro _
  refine sxo_chk (fun h9 => ?_)
  replace h9 := of_decide_eq_true h9
  refine sxo_again (d := 3) (v := .slice a6 x8.length c7) rfl (by rw [h9] <;> rfl) ?_
  refine sxo_again (d := 5) (v := .slice a6 x8.length c7) rfl (by rw [h9] <;> rfl) ?_
  refine sxo_again (d := 6) (v := .slice a6 x8.length c7) rfl (by rw [h9] <;> rfl) ?_
  refine sxo_nil ?_
  refine sxq_next ?_
  refine sxc_seq ?_
  refine sxc_region ?_
  refine sxo_move rfl rfl rfl ?_
  refine sxo_assign rfl rfl rfl ?_
  refine sxo_nil ?_
  refine sxq_next ?_
  refine sxc_ret ?_
  exact sxq_doneM (a6, c7) (.inl rfl) (res1 rfl rfl) (fun h => by subst h; rfl) (fun h => by subst h; exact (.cons 0 rfl .nil)) (fun h => by subst h; exact (.cons 0 rfl .nil))

set_option maxHeartbeats 4000000 in
theorem C_strong_Shrink (F : Nat) (x1 : List (List Int)) (a2 : Option Addr) (c3 : (Nat × List (Option Addr × Nat))) (r : (List (List Int) × List Int × Int)) (hm : M_strong_Shrink F x1 = some r) :
    PureM Try.prog 13 [.agg #[.slice a2 x1.length c3.1]] [] [] [SlN eN25 iN25 1 (.slice a2 x1.length c3.1) x1 c3.2] ((Option Addr × (Nat × List (Option Addr × Nat))) × (Option Addr × Nat)) (fun g => .tuple #[.agg #[.slice g.1.1 r.1.length g.1.2.1], .slice g.2.1 r.2.1.length g.2.2, .int .i64 r.2.2]) (fun _ => []) (fun g => [RoN eN25 rN25 25 1 (.slice g.1.1 r.1.length g.1.2.1) r.1 g.1.2.2 [], Ro (eI .i64) 3 1 (.slice g.2.1 r.2.1.length g.2.2) r.2.1]) := by
  refine pureX_of Try.func13 rfl Try.ntmps13 rfl hm (fun w => ?_)
  refine sxc_env (l' := [(0, .agg #[.slice a2 x1.length c3.1])]) rfl ?_
  refine sxc_seq ?_
  refine sxc_region ?_
  refine sxo_box rfl rfl rfl (fun g4 => ?_)
  refine sxo_alloc rfl tf24 rfl (fun g5 => ?_)
  refine sxo_assign rfl rfl rfl ?_
  refine sxo_assign rfl rfl rfl ?_
  refine sxo_nil ?_
  refine sxq_next ?_
  refine sxc_seq ?_
  refine sxc_seq ?_
  refine sxc_region ?_
  refine sxo_loadB (i := 1) rfl rfl tf24 rfl rfl (by simp) rfl rfl ?_
  refine sxo_call ent31 rfl rfl rfl (fun x8 e8 => C_graph_Check F x1 a2 c3 x8 e8) (.consF 0 rfl .nil) (fun x8 e8 => ?_)
  intro _
  refine sxo_assign rfl rfl rfl ?_
  refine sxo_nil ?_
  refine sxq_next ?_
  refine sxc_seq ?_
  refine sxc_region ?_
  refine sxo_move rfl rfl rfl ?_
  refine sxo_neq rfl rfl rfl rfl ?_
  refine sxo_nil ?_
  refine sxq_next ?_
  refine sxc_if rfl (fun h371 => ?_) (fun h371 => ?_)
  · refine sxc_seq ?_
    refine sxc_region ?_
    refine sxo_build (cells := [.slice none 0 0]) rfl st24 rfl (by kernel_rfl) rfl ?_
    refine sxo_move rfl rfl rfl ?_
    refine sxo_storeB (i := 0) rfl rfl rfl tf24 rfl rfl rfl rfl rfl ?_
    refine sxo_assign rfl rfl rfl ?_
    refine sxo_assign rfl rfl rfl ?_
    refine sxo_nil ?_
    refine sxq_next ?_
    refine sxc_ret ?_
    refine sxq_thenR ?_
    refine sxq_nilN (List Int) (Option Addr × Nat) eN25 rN25 25 1 ?_
    refine sxq_nilrow Int (eI .i64) 3 1 ?_
    exact sxq_doneX [] ((none, (0, ([] : List (Option Addr × Nat)))), (none, 0)) (.inl rfl) rfl .nil (resL (rs := [.cell 2 24, .tmp 3, .tmp 4]) rfl (.cell (i := 0) rfl tf24 rfl rfl (by simp) rfl (.tmp rfl (.tmp rfl ResOk.nil))) rfl) (fun h => by subst h; rfl) (fun h => by subst h; exact .nil) (fun h => by subst h; exact (.cons 1 rfl (.cons 0 rfl .nil)))
  · refine sxc_skip ?_
    refine sxq_next ?_
    refine sxc_seq ?_
    refine sxc_region ?_
    refine sxo_loadB (i := 1) rfl rfl tf24 rfl rfl (by simp) rfl rfl ?_
    refine sxo_call ent32 rfl rfl rfl (fun x9 e9 => C_strong_parts F x1 a2 c3 x9 e9) (.consF 0 rfl .nil) (fun x9 e9 => ?_)
    rintro ⟨a10, c11⟩
    refine sxo_alloc rfl tf25 rfl (fun g12 => ?_)
    refine sxo_storeB (i := 0) rfl rfl rfl tf25 rfl rfl rfl rfl rfl ?_
    refine sxo_nil ?_
    refine sxq_next ?_
    refine sxc_seq ?_
    refine sxc_region ?_
    refine sxo_loadB (i := 0) rfl rfl tf25 rfl rfl (fun _ => rfl) rfl rfl ?_
    refine sxo_callM ent37 rfl rfl rfl (fun x13 e13 => C_slices_Values_int_int F x9 a10 c11 x13 e13) .nil .nil (.consR 0 (Ro (eI .i64) 3 1 (.slice a10 x9.length c11) x9) rfl .nil) (fun x13 e13 => ?_)
    rintro g14
    refine sxo_callM ent36 rfl rfl rfl (fun x15 e15 => C_slices_Sorted_int_slices_Values_int_int_1 F g14 x9 a10 c11 x15 e15) (.cons 0 rfl .nil) .nil (.consR 0 (Ro (eI .i64) 3 1 (.slice a10 x9.length c11) x9) rfl .nil) (fun x15 e15 => ?_)
    rintro ⟨a16, c17⟩
    refine sxo_callM ent35 rfl rfl rfl (fun x18 e18 => C_slices_Compact_int_int F x15 a16 c17 x18 e18) .nil (.cons 0 rfl .nil) .nil (fun x18 e18 => ?_)
    rintro ⟨a19, c20⟩
    refine sxo_assign rfl rfl rfl ?_
    refine sxo_nil ?_
    refine sxq_next ?_
    refine sxc_join (fun ((x96, _) : (List Int × Unit)) => [(1, .pointer (some ⟨g4, 0, none⟩)), (2, .pointer (some ⟨g5, 0, none⟩)), (3, .slice none 0 0), (4, .int .i64 0), (6, .pointer (some ⟨g12, 0, none⟩)), (7, .slice a19 x18.length c20)]) (fun ((x96, _) : (List Int × Unit)) => [⟨g12, 25, [.slice a10 x96.length c11]⟩, ⟨g5, 24, [.slice none 0 0]⟩, ⟨g4, 24, [.slice a2 x1.length c3.1]⟩]) (fun ((x96, _) : (List Int × Unit)) => [Ro (eI .i64) 3 1 (.slice a19 x18.length c20) x18, Ro (eI .i64) 3 1 (.slice a10 x96.length c11) x96]) (fun ((x96, _) : (List Int × Unit)) => [SlN eN25 iN25 1 (.slice a2 x1.length c3.1) x1 c3.2]) (fun ((x96, _) : (List Int × Unit)) => M_strong_Shrink_j2 F x1 x18 x96) ?_ ?_
    · refine sxc_seq ?_
      refine sxc_region ?_
      refine sxo_loadB (i := 1) rfl rfl tf25 rfl rfl (fun _ => rfl) rfl rfl ?_
      refine sxo_len rfl Try.underlying25 rfl rfl ?_
      refine sxo_move rfl rfl rfl ?_
      refine sxo_nil ?_
      refine sxq_next ?_
      refine sxc_block ?_
      refine sxc_loopP (fun (((x320, x321), _) : ((List Int × Int) × Unit)) => [(1, .pointer (some ⟨g4, 0, none⟩)), (2, .pointer (some ⟨g5, 0, none⟩)), (3, .slice none 0 0), (4, .int .i64 0), (6, .pointer (some ⟨g12, 0, none⟩)), (7, .slice a19 x18.length c20), (30, .slice a10 x320.length c11), (31, .int .i64 (x9.length : Int)), (32, .int .i64 x321)]) (fun (((x320, x321), _) : ((List Int × Int) × Unit)) => [⟨g12, 25, [.slice a10 x320.length c11]⟩, ⟨g5, 24, [.slice none 0 0]⟩, ⟨g4, 24, [.slice a2 x1.length c3.1]⟩]) (fun (((x320, x321), _) : ((List Int × Int) × Unit)) => [Ro (eI .i64) 3 1 (.slice a19 x18.length c20) x18, Ro (eI .i64) 3 1 (.slice a10 x320.length c11) x320]) (fun (((x320, x321), _) : ((List Int × Int) × Unit)) => [SlN eN25 iN25 1 (.slice a2 x1.length c3.1) x1 c3.2]) (fun k (s : ((List Int × Int) × Unit)) => M_strong_Shrink_l5 F x1 x9 x18 k s.1) ((x9, 0), ()) F (lk_cons rfl (lk_cons rfl (lk_cons rfl (lk_cons rfl (lk_cons rfl (lk_cons rfl (lk_cons rfl (lk_cons rfl (lk_cons rfl lk_nil))))))))) (.cons 1 rfl (.cons 1 rfl (.cons 1 rfl .nil))) (.cons 0 rfl (.cons 0 rfl .nil)) (fk_cons 0 rfl fk_nil) (fun _ => rfl) ?_
      intro k346
      rintro ⟨⟨x320, x321⟩, _⟩
      try dsimp only
      refine sxc_meq (m' := M_strong_Shrink_b5 F x1 x9 x18 (M_strong_Shrink_l5 F x1 x9 x18 k346) x320 x321) rfl ?_
      refine sxc_seq ?_
      refine sxc_region ?_
      refine sxo_lss rfl rfl rfl rfl ?_
      refine sxo_nil ?_
      refine sxq_next ?_
      refine sxc_seq ?_
      refine sxc_if rfl (fun h370 => ?_) (fun h370 => ?_)
      · refine sxc_skip ?_
        refine sxq_next ?_
        refine sxc_seq ?_
        refine sxc_block ?_
        refine sxc_seq ?_
        refine sxc_region ?_
        refine sxo_move rfl rfl rfl ?_
        refine sxo_indexR (j := 1) rfl Try.underlying25 tf3 rfl rfl rfl rfl (fun x359 e359 g360 h361 => ?_)
        refine sxo_loadR (j := 1) (y := x359) (eI_ok .i64) rfl rfl tf3 rfl h361 (idx_get e359).2.2 (fun _ => rfl) rfl rfl ?_
        refine sxo_assign rfl rfl rfl ?_
        refine sxo_assign rfl rfl rfl ?_
        refine sxo_nil ?_
        refine sxq_next ?_
        refine sxc_idxO (j := 1) rfl (fun x362 e362 g363 h364 => ?_)
        replace h364 : a10 = some ⟨g363, 0, none⟩ := h364
        have h365 := own_of (k := x320.length) (c := c11) h364
        refine sxb_draw mixed [] [⟨g12, 25, [.slice a10 x320.length c11]⟩, ⟨g5, 24, [.slice none 0 0]⟩, ⟨g4, 24, [.slice a2 x1.length c3.1]⟩] [SlN eN25 iN25 1 (.slice a2 x1.length c3.1) x1 c3.2] (.cons 0 rfl (.cons 0 rfl (.cons 0 rfl .nil))) (gk_F 0 rfl gk_nil) 10 rfl ?_
        refine sxb_takeB 0 (.slice a10 x320.length c11) rfl rfl rfl rfl (by kernel_rfl) (by kernel_rfl) (by kernel_rfl) (by kernel_rfl) (by kernel_rfl) rfl (show _ = #[true, false, false, false, false, false, false, false, false, false] from rfl) (yv_loadB (i := 0) rfl tf25 rfl rfl (fun _ => rfl) rfl) ?_
        refine sxb_takeP 1 (.int .i64 x321) rfl rfl rfl rfl (by kernel_rfl) (by kernel_rfl) (by kernel_rfl) (by kernel_rfl) (by kernel_rfl) rfl (show _ = #[true, true, false, false, false, false, false, false, false, false] from rfl) (yv_pv rfl) ?_
        refine sxb_takeP 2 (.slice a19 x18.length c20) rfl rfl rfl rfl (by kernel_rfl) (by kernel_rfl) (by kernel_rfl) (by kernel_rfl) (by kernel_rfl) rfl (show _ = #[true, true, true, false, false, false, false, false, false, false] from rfl) (yv_pv rfl) ?_
        refine sxb_takeP 3 (.int .i64 x359) rfl rfl rfl rfl (by kernel_rfl) (by kernel_rfl) (by kernel_rfl) (by kernel_rfl) (by kernel_rfl) rfl (show _ = #[true, true, true, true, false, false, false, false, false, false] from rfl) (yv_pv rfl) ?_
        refine sxb_step 4 rfl (by kernel_rfl) (show _ = #[true, true, true, true, true, false, false, false, false, false] from rfl) ?_
        refine sxo_call ent38 rfl rfl rfl (fun x366 e366 => C_slices_BinarySearch_int_int F x18 a19 c20 x359 x366 e366) (.consR 0 (Ro (eI .i64) 3 1 (.slice a19 x18.length c20) x18) rfl .nil) (fun x366 e366 => ?_)
        intro _
        refine sxo_nil ?_
        refine sxq_anyB (.cons 0 rfl (.cons 0 rfl (.cons 0 rfl .nil))) (gk_F 0 rfl gk_nil) ?_
        refine sxb_takeP 5 (.tuple #[.int .i64 x366.1, .bool x366.2]) rfl rfl rfl rfl (by kernel_rfl) (by kernel_rfl) (by kernel_rfl) (by kernel_rfl) (by kernel_rfl) rfl (show _ = #[true, true, true, true, true, true, false, false, false, false] from rfl) (yv_pv rfl) ?_
        refine sxb_takeP 6 (.int .i64 x366.1) rfl rfl rfl rfl (by kernel_rfl) (by kernel_rfl) (by kernel_rfl) (by kernel_rfl) (by kernel_rfl) rfl (show _ = #[true, true, true, true, true, true, true, false, false, false] from rfl) (yv_pv rfl) ?_
        refine sxb_takeP 7 (.bool x366.2) rfl rfl rfl rfl (by kernel_rfl) (by kernel_rfl) (by kernel_rfl) (by kernel_rfl) (by kernel_rfl) rfl (show _ = #[true, true, true, true, true, true, true, true, false, false] from rfl) (yv_pv rfl) ?_
        refine sxb_again (d := 38) (v := .slice (some ⟨g363, 0, none⟩) x320.length c11) rfl (by rw [h364] <;> rfl) ?_
        refine sxb_takeP 8 (.pointer (some ⟨g363, x321.toNat * 1, none⟩)) rfl rfl rfl rfl (by kernel_rfl) (by kernel_rfl) (by kernel_rfl) (by kernel_rfl) (by kernel_rfl) rfl (show _ = #[true, true, true, true, true, true, true, true, true, false] from rfl) (yv_idxO Try.underlying25 tf3 rfl rfl (idx_get e362).1 (idx_lt e362)) ?_
        refine sxb_again (d := 38) (v := .slice a10 x320.length c11) rfl (by rw [h364] <;> rfl) ?_
        refine sxb_step 9 rfl (by kernel_rfl) (show _ = #[true, true, true, true, true, true, true, true, true, true] from rfl) ?_
        refine sxo_storeL (j := 1) (y' := x366.1) (eI_ok .i64) rfl rfl rfl tf3 rfl (own_of h364) (idx_get e362).2.1 rfl (fun x367 e367 h368 => ?_)
        have h369 : x367.length = x320.length := by rw [← e367, List.length_set]
        refine sxo_again (d := 30) (v := .slice a10 x367.length c11) rfl h368 ?_
        refine sxo_again (d := 38) (v := .slice a10 x367.length c11) rfl h368 ?_
        refine sxo_blkAgain (i := 0) (cs' := [.slice a10 x367.length c11]) rfl (by rw [h368] <;> rfl) ?_
        refine sxo_nil ?_
        refine sxq_anyB (.cons 0 (by rw [h369]; rfl) (.cons 0 rfl (.cons 0 rfl .nil))) (gk_F 0 rfl gk_nil) ?_
        refine sxb_done (by kernel_rfl) ?_
        refine sxq_np ?_ (by intro c h; cases h)
        refine sxq_blkN ?_
        refine sxq_next ?_
        refine sxc_region ?_
        refine sxo_add rfl rfl rfl rfl ?_
        refine sxo_move rfl rfl rfl ?_
        refine sxo_nil ?_
        exact sxq_againP ((x367, iadd .i64 x321 1), ()) (lk_cons rfl (lk_cons rfl (lk_cons rfl (lk_cons rfl (lk_cons rfl (lk_cons rfl (lk_cons rfl (lk_cons rfl (lk_cons rfl lk_nil))))))))) (.cons 0 rfl (.cons 0 rfl (.cons 0 rfl .nil))) (.cons 1 rfl (.cons 0 rfl .nil)) (fk_cons 0 rfl fk_nil)
      · refine sxc_exit ?_
        refine sxq_thenX ?_
        refine sxq_thenX ?_
        refine sxq_blkX ?_
        exact sxq_meetP (x320, ()) (lk_cons rfl (lk_cons rfl (lk_cons rfl (lk_cons rfl (lk_cons rfl (lk_cons rfl lk_nil)))))) (.cons 0 rfl (.cons 0 rfl (.cons 0 rfl .nil))) (.cons 0 rfl (.cons 0 rfl .nil)) (fk_cons 0 rfl fk_nil)
    · rintro ⟨x96, _⟩
      try dsimp only
      refine sxc_seq ?_
      refine sxc_region ?_
      refine sxo_makeMap (k0 := .i64) (k1 := .i64) rfl rfl (fun g97 => ?_)
      refine sxo_alloc rfl tf66 rfl (fun g98 => ?_)
      refine sxo_storeB (i := 0) rfl rfl rfl tf66 rfl rfl rfl rfl rfl ?_
      refine sxo_nil ?_
      refine sxq_next ?_
      refine sxc_seq ?_
      refine sxc_region ?_
      refine sxo_alloc rfl tf51 rfl (fun g99 => ?_)
      refine sxo_nil ?_
      refine sxq_next ?_
      refine sxc_seq ?_
      refine sxc_seq ?_
      refine sxc_region ?_
      refine sxo_loadB (i := 5) rfl rfl tf24 rfl rfl (by simp) rfl rfl ?_
      refine sxo_callM ent39 rfl rfl rfl (fun x196 e196 => C_graph_All F x1 a2 c3 x196 e196) .nil .nil (.consF 0 rfl .nil) (fun x196 e196 => ?_)
      rintro g197
      refine sxo_nil ?_
      refine sxq_next ?_
      refine sxc_block ?_
      refine sxc_nilrow (Int × Int) eS48 48 2 ?_
      refine sxc_range (encs := (fun (p : (Int × Int)) => [.agg #[.int .i64 p.1, .int .i64 p.2]])) (y := (fun ((x230, x231) : (List (Int × Int) × List (Int × Int))) ((x262, x263) : (Int × Int)) => M_strong_Shrink_r4 F x96 x230 x231 x262 x263)) (lb := [.pointer (some ⟨g197, 0, none⟩)]) (fun ((x230, x231) : (List (Int × Int) × List (Int × Int))) ((a228, c229) : (Option Addr × Nat)) => [⟨g99, 51, [.slice a228 x230.length c229]⟩, ⟨g98, 66, [.map (some g97)]⟩, (blkO g97 (mapO .i64 .i64 x231)), ⟨g12, 25, [.slice a10 x96.length c11]⟩, ⟨g5, 24, [.slice none 0 0]⟩, ⟨g4, 24, [.slice a2 x1.length c3.1]⟩]) (fun ((x230, x231) : (List (Int × Int) × List (Int × Int))) ((a228, c229) : (Option Addr × Nat)) => [Ro (eI .i64) 3 1 (.slice a19 x18.length c20) x18, Ro eS48 48 2 (.slice a228 x230.length c229) x230, Ro (eI .i64) 3 1 (.slice a10 x96.length c11) x96]) (fun (_ : Empty) (_ : Unit) => []) (fun (_ : Empty) (_ : Unit) => []) (fun _ => .skip) (([] : List (Int × Int)), ([] : List (Int × Int))) (none, 0) rfl ent65 (fun _ => rfl) rfl (.cons 0 rfl .nil) (.cons 0 rfl (.cons 0 rfl (.cons 0 rfl (.cons 0 rfl (.cons 0 rfl (.cons 0 rfl .nil)))))) (.cons 1 rfl (.cons 0 rfl (.cons 0 rfl .nil))) (.consF 0 rfl .nil) (fun z hz _ _ _ hY => C_graph_All_1 F hY (([] : List (Int × Int)), ([] : List (Int × Int))) (none, 0) g197 x1 a2 c3 z hz) ?_ ?_ ?_
      · rintro rc1 L1 D1 ⟨x230, x231⟩ ⟨a228, c229⟩ ⟨x262, x263⟩ z w M _
        try dsimp only
        refine sxc_less [(1, .pointer (some ⟨g4, 0, none⟩)), (2, .pointer (some ⟨g5, 0, none⟩)), (3, .slice none 0 0), (4, .int .i64 0), (6, .pointer (some ⟨g12, 0, none⟩)), (7, .slice a19 x18.length c20), (10, .pointer (some ⟨g98, 0, none⟩)), (11, .pointer (some ⟨g99, 0, none⟩)), (47, .map (some g97)), (48, .agg #[.slice a2 x1.length c3.1]), (49, .func (.func 65) #[] #[.pointer (some ⟨g197, 0, none⟩)]), (50, .agg #[.int .i64 x262, .int .i64 x263])] (lk_cons rfl (lk_cons rfl (lk_cons rfl (lk_cons rfl (lk_cons rfl (lk_cons rfl (lk_cons rfl (lk_cons rfl (lk_cons rfl (lk_cons rfl (lk_cons rfl (lk_cons rfl lk_nil)))))))))))) ?_
        refine sxc_region ?_
        refine sxo_alloc rfl tf48 rfl (fun g264 => ?_)
        refine sxo_storeB (i := 0) rfl rfl rfl tf48 rfl rfl rfl rfl rfl ?_
        refine sxo_nil ?_
        refine sxq_begin (i := 7) rfl ?_
        refine sxc_block ?_
        refine sxc_seq ?_
        refine sxc_idxO (j := 2) rfl (fun x274 e274 g275 h276 => ?_)
        replace h276 : a10 = some ⟨g275, 0, none⟩ := h276
        have h277 := own_of (k := x96.length) (c := c11) h276
        refine sxc_idxO (j := 2) rfl (fun x278 e278 g279 h280 => ?_)
        replace h280 : a10 = some ⟨g279, 0, none⟩ := h280
        have h281 := own_of (k := x96.length) (c := c11) h280
        refine sxb_draw mixed [] [⟨g264, 48, [.int .i64 x262, .int .i64 x263]⟩, ⟨g99, 51, [.slice a228 x230.length c229]⟩, ⟨g98, 66, [.map (some g97)]⟩, (blkO g97 (mapO .i64 .i64 x231)), ⟨g12, 25, [.slice a10 x96.length c11]⟩, ⟨g5, 24, [.slice none 0 0]⟩, ⟨g4, 24, [.slice a2 x1.length c3.1]⟩, (blkO L1 (.loop (bsy rc1))), (dblk D1)] [SlN eN25 iN25 1 (.slice a2 x1.length c3.1) x1 c3.2, CellsAt g275 (x262.toNat * 1) ((eI .i64) x274), CellsAt g279 (x263.toNat * 1) ((eI .i64) x278)] (.cons 0 rfl (.cons 0 rfl (.cons 0 rfl (.cons 0 rfl (.cons 0 rfl (.cons 0 rfl (.cons 0 rfl (.cons 0 rfl (.cons 0 rfl .nil))))))))) (gk_F 0 rfl (gk_R 2 rfl (at_row (eI_ok .i64) e274 h276) (gk_R 2 rfl (at_row (eI_ok .i64) e278 h280) gk_nil))) 13 rfl ?_
        refine sxb_takeB 0 (.slice a10 x96.length c11) rfl rfl rfl rfl (by kernel_rfl) (by kernel_rfl) (by kernel_rfl) (by kernel_rfl) (by kernel_rfl) rfl (show _ = #[true, false, false, false, false, false, false, false, false, false, false, false, false] from rfl) (yv_loadB (i := 4) rfl tf25 rfl rfl (fun _ => rfl) rfl) ?_
        refine sxb_takeP 1 (.pointer (some ⟨g264, 0, none⟩)) rfl rfl rfl rfl (by kernel_rfl) (by kernel_rfl) (by kernel_rfl) (by kernel_rfl) (by kernel_rfl) rfl (show _ = #[true, true, false, false, false, false, false, false, false, false, false, false, false] from rfl) (yv_fieldAddr rfl ff48_0) ?_
        refine sxb_takeB 2 (.int .i64 x262) rfl rfl rfl rfl (by kernel_rfl) (by kernel_rfl) (by kernel_rfl) (by kernel_rfl) (by kernel_rfl) rfl (show _ = #[true, true, true, false, false, false, false, false, false, false, false, false, false] from rfl) (yv_loadB (i := 0) rfl tf3 rfl rfl (fun _ => rfl) rfl) ?_
        refine sxb_again (d := 51) (v := .slice (some ⟨g275, 0, none⟩) x96.length c11) rfl (by rw [h276] <;> rfl) ?_
        refine sxb_takeP 3 (.pointer (some ⟨g275, x262.toNat * 1, none⟩)) rfl rfl rfl rfl (by kernel_rfl) (by kernel_rfl) (by kernel_rfl) (by kernel_rfl) (by kernel_rfl) rfl (show _ = #[true, true, true, true, false, false, false, false, false, false, false, false, false] from rfl) (yv_idxO Try.underlying25 tf3 rfl rfl (idx_get e274).1 (idx_lt e274)) ?_
        refine sxb_again (d := 51) (v := .slice a10 x96.length c11) rfl (by rw [h276] <;> rfl) ?_
        refine sxb_take 4 (.int .i64 x274) [] rfl rfl rfl rfl (by kernel_rfl) (by kernel_rfl) (by kernel_rfl) (by kernel_rfl) (by kernel_rfl) (by kernel_rfl) rfl (show _ = #[true, true, true, true, true, false, false, false, false, false, false, false, false] from rfl) (yv_loadF (j := 1) rfl tf3 rfl rfl (fun _ => rfl) rfl) ?_
        refine sxb_takeB 5 (.slice a10 x96.length c11) rfl rfl rfl rfl (by kernel_rfl) (by kernel_rfl) (by kernel_rfl) (by kernel_rfl) (by kernel_rfl) rfl (show _ = #[true, true, true, true, true, true, false, false, false, false, false, false, false] from rfl) (yv_loadB (i := 4) rfl tf25 rfl rfl (fun _ => rfl) rfl) ?_
        refine sxb_takeP 6 (.pointer (some ⟨g264, 1, none⟩)) rfl rfl rfl rfl (by kernel_rfl) (by kernel_rfl) (by kernel_rfl) (by kernel_rfl) (by kernel_rfl) rfl (show _ = #[true, true, true, true, true, true, true, false, false, false, false, false, false] from rfl) (yv_fieldAddr rfl ff48_1) ?_
        refine sxb_takeB 7 (.int .i64 x263) rfl rfl rfl rfl (by kernel_rfl) (by kernel_rfl) (by kernel_rfl) (by kernel_rfl) (by kernel_rfl) rfl (show _ = #[true, true, true, true, true, true, true, true, false, false, false, false, false] from rfl) (yv_loadB (i := 0) rfl tf3 rfl rfl (fun _ => rfl) rfl) ?_
        refine sxb_again (d := 56) (v := .slice (some ⟨g279, 0, none⟩) x96.length c11) rfl (by rw [h280] <;> rfl) ?_
        refine sxb_takeP 8 (.pointer (some ⟨g279, x263.toNat * 1, none⟩)) rfl rfl rfl rfl (by kernel_rfl) (by kernel_rfl) (by kernel_rfl) (by kernel_rfl) (by kernel_rfl) rfl (show _ = #[true, true, true, true, true, true, true, true, true, false, false, false, false] from rfl) (yv_idxO Try.underlying25 tf3 rfl rfl (idx_get e278).1 (idx_lt e278)) ?_
        refine sxb_again (d := 56) (v := .slice a10 x96.length c11) rfl (by rw [h280] <;> rfl) ?_
        refine sxb_take 9 (.int .i64 x278) [] rfl rfl rfl rfl (by kernel_rfl) (by kernel_rfl) (by kernel_rfl) (by kernel_rfl) (by kernel_rfl) (by kernel_rfl) rfl (show _ = #[true, true, true, true, true, true, true, true, true, true, false, false, false] from rfl) (yv_loadF (j := 2) rfl tf3 rfl rfl (fun _ => rfl) rfl) ?_
        refine sxb_takeP 10 (.agg #[.int .i64 x274, .int .i64 x278]) rfl rfl rfl rfl (by kernel_rfl) (by kernel_rfl) (by kernel_rfl) (by kernel_rfl) (by kernel_rfl) rfl (show _ = #[true, true, true, true, true, true, true, true, true, true, true, false, false] from rfl) (yv_build (cells := [.int .i64 x274, .int .i64 x278]) st48 rfl (by kernel_rfl)) ?_
        refine sxb_step 11 rfl (by kernel_rfl) (show _ = #[true, true, true, true, true, true, true, true, true, true, true, true, false] from rfl) ?_
        refine sxo_alloc rfl tf48 rfl (fun g282 => ?_)
        refine sxo_nil ?_
        refine sxq_anyB (.cons 1 rfl (.cons 1 rfl (.cons 1 rfl (.cons 1 rfl (.cons 1 rfl (.cons 1 rfl (.cons 1 rfl (.cons 1 rfl (.cons 1 rfl .nil))))))))) (gk_F 0 rfl (gk_R 2 rfl (at_row (eI_ok .i64) e274 h276) (gk_R 2 rfl (at_row (eI_ok .i64) e278 h280) gk_nil))) ?_
        refine sxb_step 12 rfl (by kernel_rfl) (show _ = #[true, true, true, true, true, true, true, true, true, true, true, true, true] from rfl) ?_
        refine sxo_storeB (i := 0) rfl rfl rfl tf48 rfl rfl rfl rfl rfl ?_
        refine sxo_nil ?_
        refine sxq_anyB (.cons 1 rfl (.cons 1 rfl (.cons 1 rfl (.cons 1 rfl (.cons 1 rfl (.cons 1 rfl (.cons 1 rfl (.cons 1 rfl (.cons 1 rfl .nil))))))))) (gk_F 0 rfl (gk_R 2 rfl (at_row (eI_ok .i64) e274 h276) (gk_R 2 rfl (at_row (eI_ok .i64) e278 h280) gk_nil))) ?_
        refine sxb_done (by kernel_rfl) ?_
        refine sxq_np ?_ (by intro c h; cases h)
        refine sxq_next ?_
        refine sxc_seq ?_
        refine sxc_region ?_
        refine sxo_loadB (i := 3) rfl rfl tf66 rfl rfl (fun _ => rfl) rfl rfl ?_
        refine sxo_loadB (i := 0) rfl rfl tf48 rfl rfl (by simp) rfl rfl ?_
        refine sxo_lookupS (i := 4) (p := (x274, x278)) rfl Try.underlying66 se48 tf69 rfl rfl rfl rfl ?_
        refine sxo_move rfl rfl rfl ?_
        refine sxo_extract rfl rfl rfl rfl ?_
        refine sxo_extract rfl rfl rfl rfl ?_
        refine sxo_alloc rfl tf69 rfl (fun g283 => ?_)
        refine sxo_storeB (i := 0) rfl rfl rfl tf69 rfl rfl rfl rfl rfl ?_
        refine sxo_assign rfl rfl rfl ?_
        refine sxo_nil ?_
        refine sxq_next ?_
        refine sxc_seq ?_
        refine sxc_region ?_
        refine sxo_move rfl rfl rfl ?_
        refine sxo_not rfl rfl rfl ?_
        refine sxo_move rfl rfl rfl ?_
        refine sxo_case 6 (!(decide (((x274, x278) : Int × Int) ∈ x231))) [(1, .pointer (some ⟨g4, 0, none⟩)), (2, .pointer (some ⟨g5, 0, none⟩)), (6, .pointer (some ⟨g12, 0, none⟩)), (10, .pointer (some ⟨g98, 0, none⟩)), (11, .pointer (some ⟨g99, 0, none⟩)), (13, .pointer (some ⟨g282, 0, none⟩)), (76, .bool ((!(decide (((x274, x278) : Int × Int) ∈ x231))) && ((x274 : Int) != x278)))] (fun h284 => ?_) (fun h284 => ?_) ?_
        · refine sxo_take (os := _) rfl ?_
          refine sxo_isT (k := 70) rfl h284 ?_
          refine sxo_fieldAddr rfl rfl ff48_0 rfl ?_
          refine sxo_loadB (i := 1) rfl rfl tf3 rfl rfl (fun _ => rfl) rfl rfl ?_
          refine sxo_fieldAddr rfl rfl ff48_1 rfl ?_
          refine sxo_loadB (i := 1) rfl rfl tf3 rfl rfl (fun _ => rfl) rfl rfl ?_
          refine sxo_neq rfl rfl rfl rfl ?_
          refine sxo_pick (b := true) rfl rfl rfl rfl ?_
          refine sxo_again (d := 76) (v := .bool ((!(decide (((x274, x278) : Int × Int) ∈ x231))) && ((x274 : Int) != x278))) rfl (by rw [h284]; simp only [Bool.true_and]) ?_
          refine sxo_nil ?_
          exact sxq_case (lk_cons rfl (lk_cons rfl (lk_cons rfl (lk_cons rfl (lk_cons rfl (lk_cons rfl (lk_cons rfl lk_nil)))))))
        · refine sxo_take (os := _) rfl ?_
          refine sxo_isF (k := 70) rfl h284 ?_
          refine sxo_skip rfl rfl rfl ?_
          refine sxo_skip rfl rfl rfl ?_
          refine sxo_skip rfl rfl rfl ?_
          refine sxo_skip rfl rfl rfl ?_
          refine sxo_skip rfl rfl rfl ?_
          refine sxo_pick (b := false) rfl rfl rfl rfl ?_
          refine sxo_again (d := 76) (v := .bool ((!(decide (((x274, x278) : Int × Int) ∈ x231))) && ((x274 : Int) != x278))) rfl (by rw [h284]; simp only [Bool.false_and]) ?_
          refine sxo_nil ?_
          exact sxq_case (lk_cons rfl (lk_cons rfl (lk_cons rfl (lk_cons rfl (lk_cons rfl (lk_cons rfl (lk_cons rfl lk_nil)))))))
        refine sxo_take (os := _) rfl ?_
        refine sxo_nil ?_
        refine sxq_next ?_
        refine sxc_if rfl (fun h291 => ?_) (fun h291 => ?_)
        · refine sxc_seq ?_
          refine sxc_region ?_
          refine sxo_loadB (i := 4) rfl rfl tf66 rfl rfl (fun _ => rfl) rfl rfl ?_
          refine sxo_loadB (i := 1) rfl rfl tf48 rfl rfl (by simp) rfl rfl ?_
          refine sxo_build (cells := []) rfl st69 rfl (by kernel_rfl) rfl ?_
          refine sxo_mapPut (i := 5) (p := (x274, x278)) rfl Try.underlying66 se48 rfl rfl rfl rfl (fun x285 e285 => ?_)
          refine sxo_nil ?_
          refine sxq_next ?_
          refine sxc_region ?_
          refine sxo_loadB (i := 3) rfl rfl tf51 rfl rfl (fun _ => rfl) rfl rfl ?_
          refine sxo_loadB (i := 1) rfl rfl tf48 rfl rfl (by simp) rfl rfl ?_
          refine sxo_slit (vs := [.agg #[.int .i64 x274, .int .i64 x278]]) (ys := ([(x274, x278)] : List (Int × Int))) eS48_ok (by decide) rfl Try.underlying51 tf48 rfl rfl rfl rfl rfl (by decide) (fun a286 c287 => ?_)
          refine sxo_app 2 eS48_ok rfl Try.underlying51 tf48 rfl rfl rfl rfl rfl (.inl ⟨0, _, rfl⟩) rfl rfl (fun x288 e288 a289 c290 => ?_)
          refine sxo_storeB (i := 3) rfl rfl rfl tf51 rfl rfl rfl rfl rfl ?_
          refine sxo_nil ?_
          refine sxq_blkN ?_
          exact sxq_round (rc := rc1) rfl (.cons 9 rfl .nil) rfl (a289, c290) (.cons 4 rfl (.cons 4 rfl (.cons 4 rfl (.cons 4 rfl (.cons 4 rfl (.cons 4 rfl (.cons 0 rfl (.cons 3 rfl .nil)))))))) (.cons 2 rfl (.cons 0 rfl (.cons 1 rfl .nil)))
        · refine sxc_skip ?_
          refine sxq_blkN ?_
          exact sxq_round (rc := rc1) rfl (.cons 9 rfl .nil) rfl (a228, c229) (.cons 4 rfl (.cons 4 rfl (.cons 4 rfl (.cons 4 rfl (.cons 4 rfl (.cons 4 rfl (.cons 0 rfl (.cons 3 rfl .nil)))))))) (.cons 0 rfl (.cons 0 rfl (.cons 0 rfl .nil)))
      · rintro ⟨x230, x231⟩ _ ⟨a228, c229⟩ D1
        try dsimp only
        refine sxq_blkN ?_
        refine sxq_next ?_
        refine sxc_seq ?_
        refine sxc_region ?_
        refine sxo_move rfl rfl rfl ?_
        refine sxo_len rfl Try.underlying25 rfl rfl ?_
        refine sxo_loadB (i := 2) rfl rfl tf51 rfl rfl (fun _ => rfl) rfl rfl ?_
        refine sxo_call ent30 rfl rfl rfl (fun x292 e292 => C_graph_Of F (x18.length : Int) x230 a228 c229 x292 e292) (.consR 1 (Ro eS48 48 2 (.slice a228 x230.length c229) x230) rfl .nil) (fun x292 e292 => ?_)
        rintro ⟨a293, c294⟩
        refine sxo_move rfl rfl rfl ?_
        refine sxo_extract rfl rfl rfl rfl ?_
        refine sxo_extract rfl rfl rfl rfl ?_
        refine sxo_alloc rfl tf24 rfl (fun g295 => ?_)
        refine sxo_storeB (i := 0) rfl rfl rfl tf24 rfl rfl rfl rfl rfl ?_
        refine sxo_assign rfl rfl rfl ?_
        refine sxo_nil ?_
        refine sxq_next ?_
        refine sxc_seq ?_
        refine sxb_draw mixed [] [⟨g295, 24, [.slice a293 x292.1.length c294.1]⟩, (dblk D1), ⟨g197, 24, [.slice a2 x1.length c3.1]⟩, ⟨g99, 51, [.slice a228 x230.length c229]⟩, ⟨g98, 66, [.map (some g97)]⟩, (blkO g97 (mapO .i64 .i64 x231)), ⟨g12, 25, [.slice a10 x96.length c11]⟩, ⟨g4, 24, [.slice a2 x1.length c3.1]⟩] [SlN eN25 iN25 1 (.slice a2 x1.length c3.1) x1 c3.2] (.cons 0 rfl (.cons 0 rfl (.cons 0 rfl (.cons 0 rfl (.cons 0 rfl (.cons 0 rfl (.cons 0 rfl (.cons 1 rfl .nil)))))))) (gk_F 0 rfl gk_nil) 6 rfl ?_
        refine sxb_takeB 0 (.agg #[.slice a293 x292.1.length c294.1]) rfl rfl rfl rfl (by kernel_rfl) (by kernel_rfl) (by kernel_rfl) (by kernel_rfl) (by kernel_rfl) rfl (show _ = #[true, false, false, false, false, false] from rfl) (yv_loadB (i := 0) rfl tf24 rfl rfl (by simp) rfl) ?_
        refine sxb_takeB 1 (.slice a10 x96.length c11) rfl rfl rfl rfl (by kernel_rfl) (by kernel_rfl) (by kernel_rfl) (by kernel_rfl) (by kernel_rfl) rfl (show _ = #[true, true, false, false, false, false] from rfl) (yv_loadB (i := 6) rfl tf25 rfl rfl (fun _ => rfl) rfl) ?_
        refine sxb_takeP 2 (.int .i64 x292.2) rfl rfl rfl rfl (by kernel_rfl) (by kernel_rfl) (by kernel_rfl) (by kernel_rfl) (by kernel_rfl) rfl (show _ = #[true, true, true, false, false, false] from rfl) (yv_pv rfl) ?_
        refine sxb_step 3 rfl (by kernel_rfl) (show _ = #[true, true, true, true, false, false] from rfl) ?_
        refine sxo_storeB (i := 7) rfl rfl rfl tf24 rfl rfl rfl rfl rfl ?_
        refine sxo_nil ?_
        refine sxq_anyB (.cons 0 rfl (.cons 0 rfl (.cons 0 rfl (.cons 0 rfl (.cons 0 rfl (.cons 0 rfl (.cons 0 rfl (.cons 1 rfl .nil)))))))) (gk_F 0 rfl gk_nil) ?_
        refine sxb_takeP 4 (.slice a10 x96.length c11) rfl rfl rfl rfl (by kernel_rfl) (by kernel_rfl) (by kernel_rfl) (by kernel_rfl) (by kernel_rfl) rfl (show _ = #[true, true, true, true, true, false] from rfl) (yv_pv rfl) ?_
        refine sxb_takeP 5 (.int .i64 x292.2) rfl rfl rfl rfl (by kernel_rfl) (by kernel_rfl) (by kernel_rfl) (by kernel_rfl) (by kernel_rfl) rfl (show _ = #[true, true, true, true, true, true] from rfl) (yv_pv rfl) ?_
        refine sxb_done (by kernel_rfl) ?_
        refine sxq_np ?_ (by intro c h; cases h)
        refine sxq_next ?_
        refine sxc_ret ?_
        exact sxq_doneX [D1] ((a293, c294), (a10, c11)) (.inl rfl) rfl (.cons 1 rfl .nil) (resL (rs := [.cell 2 24, .tmp 3, .tmp 4]) rfl (.cell (i := 6) rfl tf24 rfl rfl (by simp) rfl (.tmp rfl (.tmp rfl ResOk.nil))) rfl) (fun h => by subst h; rfl) (fun h => by subst h; exact .nil) (fun h => by subst h; exact (.cons 0 rfl (.cons 2 rfl .nil)))
      · intro t; exact t.elim

theorem C_R_SameInts (F : Nat) (x1 : List Int) (a2 : Option Addr) (c3 : Nat) (x4 : List Int) (a5 : Option Addr) (c6 : Nat) (r : Bool) (hm : M_R_SameInts F x1 x4 = some r) :
    Pure Try.prog 19 [.slice a2 x1.length c3, .slice a5 x4.length c6] [Sl (eI .i64) 1 (.slice a2 x1.length c3) x1, Sl (eI .i64) 1 (.slice a5 x4.length c6) x4] Unit (fun _ => .bool r) (fun _ => []) (fun _ => []) := by
  refine pure_of Try.func19 rfl Try.ntmps19 rfl hm (fun w => ?_)
  refine sxc_env (l' := [(0, .slice a2 x1.length c3), (1, .slice a5 x4.length c6)]) rfl ?_
  refine sxc_seq ?_
  refine sxc_region ?_
  refine sxo_assign rfl rfl rfl ?_
  refine sxo_nil ?_
  refine sxq_next ?_
  refine sxc_seq ?_
  refine sxc_seq ?_
  refine sxc_region ?_
  refine sxo_move rfl rfl rfl ?_
  refine sxo_len rfl Try.underlying25 rfl rfl ?_
  refine sxo_move rfl rfl rfl ?_
  refine sxo_len rfl Try.underlying25 rfl rfl ?_
  refine sxo_neq rfl rfl rfl rfl ?_
  refine sxo_nil ?_
  refine sxq_next ?_
  refine sxc_if rfl (fun h228 => ?_) (fun h228 => ?_)
  · refine sxc_seq ?_
    refine sxc_region ?_
    refine sxo_assign rfl rfl rfl ?_
    refine sxo_nil ?_
    refine sxq_next ?_
    refine sxc_ret ?_
    refine sxq_thenR ?_
    exact sxq_doneP () (.inl rfl) (res1 rfl rfl) (fun h => by subst h; rfl) (fun h => by subst h; exact .nil)
  · refine sxc_skip ?_
    refine sxq_next ?_
    refine sxc_join (fun ((_, _) : (Unit × Unit)) => []) (fun ((_, _) : (Unit × Unit)) => []) (fun ((_, _) : (Unit × Unit)) => []) (fun ((_, _) : (Unit × Unit)) => []) (fun ((_, _) : (Unit × Unit)) => M_R_SameInts_j2 F) ?_ ?_
    · refine sxc_seq ?_
      refine sxc_region ?_
      refine sxo_assign rfl rfl rfl ?_
      refine sxo_nil ?_
      refine sxq_next ?_
      refine sxc_block ?_
      refine sxc_loopP (fun ((x154, _) : (Int × Unit)) => [(0, .slice a2 x1.length c3), (1, .slice a5 x4.length c6), (5, .int .i64 x154)]) (fun ((x154, _) : (Int × Unit)) => []) (fun ((x154, _) : (Int × Unit)) => []) (fun ((x154, _) : (Int × Unit)) => [Sl (eI .i64) 1 (.slice a2 x1.length c3) x1, Sl (eI .i64) 1 (.slice a5 x4.length c6) x4]) (fun k (s : (Int × Unit)) => M_R_SameInts_l3 F x1 x4 k s.1) (0, ()) F (lk_cons rfl (lk_cons rfl (lk_cons rfl lk_nil))) .nil .nil (fk_cons 0 rfl (fk_cons 1 rfl fk_nil)) (fun _ => rfl) ?_
      intro k191
      rintro ⟨x154, _⟩
      try dsimp only
      refine sxc_meq (m' := M_R_SameInts_b3 F x1 x4 (M_R_SameInts_l3 F x1 x4 k191) x154) rfl ?_
      refine sxc_seq ?_
      refine sxc_seq ?_
      refine sxc_region ?_
      refine sxo_move rfl rfl rfl ?_
      refine sxo_move rfl rfl rfl ?_
      refine sxo_len rfl Try.underlying25 rfl rfl ?_
      refine sxo_lss rfl rfl rfl rfl ?_
      refine sxo_nil ?_
      refine sxq_next ?_
      refine sxc_if rfl (fun h227 => ?_) (fun h227 => ?_)
      · refine sxc_skip ?_
        refine sxq_next ?_
        refine sxc_seq ?_
        refine sxc_block ?_
        refine sxc_seq ?_
        refine sxc_idxF (j := 0) (eI_ok .i64) (by decide) rfl (fun x218 e218 b219 o220 h221 => ?_)
        replace h221 : a2 = some ⟨b219, o220, none⟩ := h221
        refine sxc_idxF (j := 2) (eI_ok .i64) (by decide) rfl (fun x222 e222 b223 o224 h225 => ?_)
        replace h225 : a5 = some ⟨b223, o224, none⟩ := h225
        refine sxb_draw mixed [] [] [CellsAt b223 (o224 + x154.toNat * 1) ((eI .i64) x222), CellsAt b219 (o220 + x154.toNat * 1) ((eI .i64) x218), Sl (eI .i64) 1 (.slice a2 x1.length c3) x1, Sl (eI .i64) 1 (.slice a5 x4.length c6) x4] .nil (gk_F 0 rfl (gk_F 1 rfl (gk_F 2 rfl (gk_F 3 rfl gk_nil)))) 9 rfl ?_
        refine sxb_takeP 0 (.slice a2 x1.length c3) rfl rfl rfl rfl (by kernel_rfl) (by kernel_rfl) (by kernel_rfl) (by kernel_rfl) (by kernel_rfl) rfl (show _ = #[true, false, false, false, false, false, false, false, false] from rfl) (yv_pv rfl) ?_
        refine sxb_takeP 1 (.int .i64 x154) rfl rfl rfl rfl (by kernel_rfl) (by kernel_rfl) (by kernel_rfl) (by kernel_rfl) (by kernel_rfl) rfl (show _ = #[true, true, false, false, false, false, false, false, false] from rfl) (yv_pv rfl) ?_
        refine sxb_again (d := 17) (v := .slice (some ⟨b219, o220, none⟩) x1.length c3) rfl (by rw [h221] <;> rfl) ?_
        refine sxb_takeP 2 (.pointer (some ⟨b219, (o220 + x154.toNat * 1), none⟩)) rfl rfl rfl rfl (by kernel_rfl) (by kernel_rfl) (by kernel_rfl) (by kernel_rfl) (by kernel_rfl) rfl (show _ = #[true, true, true, false, false, false, false, false, false] from rfl) (yv_idx Try.underlying25 tf3 rfl rfl (idx_get e218).1 (idx_lt e218)) ?_
        refine sxb_again (d := 17) (v := .slice a2 x1.length c3) rfl (by rw [h221] <;> rfl) ?_
        refine sxb_take 3 (.int .i64 x218) [] rfl rfl rfl rfl (by kernel_rfl) (by kernel_rfl) (by kernel_rfl) (by kernel_rfl) (by kernel_rfl) (by kernel_rfl) rfl (show _ = #[true, true, true, true, false, false, false, false, false] from rfl) (yv_loadF (j := 1) rfl tf3 rfl rfl (fun _ => rfl) rfl) ?_
        refine sxb_takeP 4 (.slice a5 x4.length c6) rfl rfl rfl rfl (by kernel_rfl) (by kernel_rfl) (by kernel_rfl) (by kernel_rfl) (by kernel_rfl) rfl (show _ = #[true, true, true, true, true, false, false, false, false] from rfl) (yv_pv rfl) ?_
        refine sxb_takeP 5 (.int .i64 x154) rfl rfl rfl rfl (by kernel_rfl) (by kernel_rfl) (by kernel_rfl) (by kernel_rfl) (by kernel_rfl) rfl (show _ = #[true, true, true, true, true, true, false, false, false] from rfl) (yv_pv rfl) ?_
        refine sxb_again (d := 21) (v := .slice (some ⟨b223, o224, none⟩) x4.length c6) rfl (by rw [h225] <;> rfl) ?_
        refine sxb_takeP 6 (.pointer (some ⟨b223, (o224 + x154.toNat * 1), none⟩)) rfl rfl rfl rfl (by kernel_rfl) (by kernel_rfl) (by kernel_rfl) (by kernel_rfl) (by kernel_rfl) rfl (show _ = #[true, true, true, true, true, true, true, false, false] from rfl) (yv_idx Try.underlying25 tf3 rfl rfl (idx_get e222).1 (idx_lt e222)) ?_
        refine sxb_again (d := 21) (v := .slice a5 x4.length c6) rfl (by rw [h225] <;> rfl) ?_
        refine sxb_take 7 (.int .i64 x222) [] rfl rfl rfl rfl (by kernel_rfl) (by kernel_rfl) (by kernel_rfl) (by kernel_rfl) (by kernel_rfl) (by kernel_rfl) rfl (show _ = #[true, true, true, true, true, true, true, true, false] from rfl) (yv_loadF (j := 0) rfl tf3 rfl rfl (fun _ => rfl) rfl) ?_
        refine sxb_takeP 8 (.bool ((x218 : Int) != x222)) rfl rfl rfl rfl (by kernel_rfl) (by kernel_rfl) (by kernel_rfl) (by kernel_rfl) (by kernel_rfl) rfl (show _ = #[true, true, true, true, true, true, true, true, true] from rfl) (yv_pv rfl) ?_
        refine sxb_done (by kernel_rfl) ?_
        refine sxq_np ?_ (by intro c h; cases h)
        refine sxq_next ?_
        refine sxc_if rfl (fun h226 => ?_) (fun h226 => ?_)
        · refine sxc_seq ?_
          refine sxc_region ?_
          refine sxo_assign rfl rfl rfl ?_
          refine sxo_nil ?_
          refine sxq_next ?_
          refine sxc_ret ?_
          refine sxq_blkR ?_
          refine sxq_thenR ?_
          refine sxq_thenR ?_
          refine sxq_blkR ?_
          refine sxq_thenR ?_
          exact sxq_doneP () (.inl rfl) (res1 rfl rfl) (fun h => by subst h; rfl) (fun h => by subst h; exact .nil)
        · refine sxc_skip ?_
          refine sxq_blkN ?_
          refine sxq_next ?_
          refine sxc_region ?_
          refine sxo_move rfl rfl rfl ?_
          refine sxo_add rfl rfl rfl rfl ?_
          refine sxo_assign rfl rfl rfl ?_
          refine sxo_nil ?_
          exact sxq_againP (iadd .i64 x154 1, ()) (lk_cons rfl (lk_cons rfl (lk_cons rfl lk_nil))) .nil .nil (fk_cons 2 rfl (fk_cons 3 rfl fk_nil))
      · refine sxc_exit ?_
        refine sxq_thenX ?_
        refine sxq_thenX ?_
        refine sxq_blkX ?_
        exact sxq_meetP ((), ()) lk_nil .nil .nil fk_nil
    · rintro ⟨_, _⟩
      try dsimp only
      refine sxc_seq ?_
      refine sxc_region ?_
      refine sxo_assign rfl rfl rfl ?_
      refine sxo_nil ?_
      refine sxq_next ?_
      refine sxc_ret ?_
      exact sxq_doneP () (.inl rfl) (res1 rfl rfl) (fun h => by subst h; rfl) (fun h => by subst h; exact .nil)

theorem C_L_someGraph (F : Nat)  (r : List (List Int)) (hm : M_L_someGraph F  = some r) :
    Pure Try.prog 42 [] [] (Option Addr × (Nat × List (Option Addr × Nat))) (fun g => .agg #[.slice g.1 r.length g.2.1]) (fun g => [RoN eN25 rN25 25 1 (.slice g.1 r.length g.2.1) r g.2.2 []]) (fun _ => []) := by
  refine pure_of Try.func42 rfl Try.ntmps42 rfl hm (fun w => ?_)
  refine sxc_env (l' := []) rfl ?_
  refine sxc_seq ?_
  refine sxc_region ?_
  refine sxo_alloc rfl tf24 rfl (fun g1 => ?_)
  refine sxo_nil ?_
  refine sxq_next ?_
  refine sxc_seq ?_
  refine sxc_region ?_
  refine sxo_slit (vs := [.int .i64 1, .int .i64 2, .int .i64 3, .int .i64 5]) (ys := ([1, 2, 3, 5] : List Int)) (eI_ok .i64) (by decide) rfl Try.underlying25 tf3 rfl rfl rfl rfl rfl (by decide) (fun a2 c3 => ?_)
  refine sxo_slit (vs := [.int .i64 1, .int .i64 2, .int .i64 3, .int .i64 5]) (ys := ([1, 2, 3, 5] : List Int)) (eI_ok .i64) (by decide) rfl Try.underlying25 tf3 rfl rfl rfl rfl rfl (by decide) (fun a4 c5 => ?_)
  refine sxo_slit (vs := [.int .i64 0, .int .i64 1, .int .i64 2, .int .i64 3, .int .i64 5]) (ys := ([0, 1, 2, 3, 5] : List Int)) (eI_ok .i64) (by decide) rfl Try.underlying25 tf3 rfl rfl rfl rfl rfl (by decide) (fun a6 c7 => ?_)
  refine sxo_slit (vs := [.int .i64 4]) (ys := ([4] : List Int)) (eI_ok .i64) (by decide) rfl Try.underlying25 tf3 rfl rfl rfl rfl rfl (by decide) (fun a8 c9 => ?_)
  refine sxo_slit (vs := [.int .i64 1, .int .i64 2, .int .i64 3]) (ys := ([1, 2, 3] : List Int)) (eI_ok .i64) (by decide) rfl Try.underlying25 tf3 rfl rfl rfl rfl rfl (by decide) (fun a10 c11 => ?_)
  refine sxo_nilrow' Int (eI .i64) 3 1 ?_
  refine sxo_slit (vs := [.slice a2 ([1, 2, 3, 5] : List Int).length c3, .slice a4 ([1, 2, 3, 5] : List Int).length c5, .slice a6 ([0, 1, 2, 3, 5] : List Int).length c7, .slice none ([] : List Int).length 0, .slice a8 ([4] : List Int).length c9, .slice a10 ([1, 2, 3] : List Int).length c11]) (ys := ([(([1, 2, 3, 5] : List Int), (a2, c3)), (([1, 2, 3, 5] : List Int), (a4, c5)), (([0, 1, 2, 3, 5] : List Int), (a6, c7)), (([] : List Int), (none, 0)), (([4] : List Int), (a8, c9)), (([1, 2, 3] : List Int), (a10, c11))] : List (List Int × (Option Addr × Nat)))) eN25_ok (by decide) rfl Try.underlying22 tf25 rfl rfl rfl rfl rfl (by decide) (fun a12 c13 => ?_)
  refine sxo_nestOf (rin := rN25) (i := 0) ([([1, 2, 3, 5] : List Int), ([1, 2, 3, 5] : List Int), ([0, 1, 2, 3, 5] : List Int), ([] : List Int), ([4] : List Int), ([1, 2, 3] : List Int)] : List (List Int)) ([(a2, c3), (a4, c5), (a6, c7), (none, 0), (a8, c9), (a10, c11)] : List (Option Addr × Nat)) rfl rfl (.cons 5 rfl (.cons 4 rfl (.cons 3 rfl (.cons 0 rfl (.cons 1 rfl (.cons 0 rfl .nil)))))) ?_
  refine sxo_build (cells := [.slice a12 ([([1, 2, 3, 5] : List Int), ([1, 2, 3, 5] : List Int), ([0, 1, 2, 3, 5] : List Int), ([] : List Int), ([4] : List Int), ([1, 2, 3] : List Int)] : List (List Int)).length c13]) rfl st24 rfl (by kernel_rfl) rfl ?_
  refine sxo_storeB (i := 0) rfl rfl rfl tf24 rfl rfl rfl rfl rfl ?_
  refine sxo_nil ?_
  refine sxq_next ?_
  refine sxc_ret ?_
  exact sxq_doneP (a12, (c13, ([(a2, c3), (a4, c5), (a6, c7), (none, 0), (a8, c9), (a10, c11)] : List (Option Addr × Nat)))) (.inl rfl) (resL (rs := [.cell 0 24]) rfl (.cell (i := 0) rfl tf24 rfl rfl (by simp) rfl ResOk.nil) rfl) (fun h => by subst h; rfl) (fun h => by subst h; exact (.cons 0 rfl .nil))

theorem C_R_SameLists (F : Nat) (x1 : List (List Int)) (a2 : Option Addr) (c3 : (Nat × List (Option Addr × Nat))) (x4 : List (List Int)) (a5 : Option Addr) (c6 : (Nat × List (Option Addr × Nat))) (r : Bool) (hm : M_R_SameLists F x1 x4 = some r) :
    Pure Try.prog 43 [.slice a2 x1.length c3.1, .slice a5 x4.length c6.1] [SlN eN25 iN25 1 (.slice a2 x1.length c3.1) x1 c3.2, SlN eN25 iN25 1 (.slice a5 x4.length c6.1) x4 c6.2] Unit (fun _ => .bool r) (fun _ => []) (fun _ => []) := by
  refine pure_of Try.func43 rfl Try.ntmps43 rfl hm (fun w => ?_)
  refine sxc_env (l' := [(0, .slice a2 x1.length c3.1), (1, .slice a5 x4.length c6.1)]) rfl ?_
  refine sxc_seq ?_
  refine sxc_region ?_
  refine sxo_assign rfl rfl rfl ?_
  refine sxo_nil ?_
  refine sxq_next ?_
  refine sxc_seq ?_
  refine sxc_seq ?_
  refine sxc_region ?_
  refine sxo_move rfl rfl rfl ?_
  refine sxo_len rfl Try.underlying22 rfl rfl ?_
  refine sxo_move rfl rfl rfl ?_
  refine sxo_len rfl Try.underlying22 rfl rfl ?_
  refine sxo_neq rfl rfl rfl rfl ?_
  refine sxo_nil ?_
  refine sxq_next ?_
  refine sxc_if rfl (fun h300 => ?_) (fun h300 => ?_)
  · refine sxc_seq ?_
    refine sxc_region ?_
    refine sxo_assign rfl rfl rfl ?_
    refine sxo_nil ?_
    refine sxq_next ?_
    refine sxc_ret ?_
    refine sxq_thenR ?_
    exact sxq_doneP () (.inl rfl) (res1 rfl rfl) (fun h => by subst h; rfl) (fun h => by subst h; exact .nil)
  · refine sxc_skip ?_
    refine sxq_next ?_
    refine sxc_join (fun ((_, _) : (Unit × Unit)) => []) (fun ((_, _) : (Unit × Unit)) => []) (fun ((_, _) : (Unit × Unit)) => []) (fun ((_, _) : (Unit × Unit)) => []) (fun ((_, _) : (Unit × Unit)) => M_R_SameLists_j2 F) ?_ ?_
    · refine sxc_seq ?_
      refine sxc_region ?_
      refine sxo_assign rfl rfl rfl ?_
      refine sxo_nil ?_
      refine sxq_next ?_
      refine sxc_block ?_
      refine sxc_loopP (fun ((x202, _) : (Int × Unit)) => [(0, .slice a2 x1.length c3.1), (1, .slice a5 x4.length c6.1), (5, .int .i64 x202)]) (fun ((x202, _) : (Int × Unit)) => []) (fun ((x202, _) : (Int × Unit)) => []) (fun ((x202, _) : (Int × Unit)) => [SlN eN25 iN25 1 (.slice a2 x1.length c3.1) x1 c3.2, SlN eN25 iN25 1 (.slice a5 x4.length c6.1) x4 c6.2]) (fun k (s : (Int × Unit)) => M_R_SameLists_l3 F x1 x4 k s.1) (0, ()) F (lk_cons rfl (lk_cons rfl (lk_cons rfl lk_nil))) .nil .nil (fk_cons 0 rfl (fk_cons 1 rfl fk_nil)) (fun _ => rfl) ?_
      intro k251
      rintro ⟨x202, _⟩
      try dsimp only
      refine sxc_meq (m' := M_R_SameLists_b3 F x1 x4 (M_R_SameLists_l3 F x1 x4 k251) x202) rfl ?_
      refine sxc_seq ?_
      refine sxc_seq ?_
      refine sxc_region ?_
      refine sxo_move rfl rfl rfl ?_
      refine sxo_move rfl rfl rfl ?_
      refine sxo_len rfl Try.underlying22 rfl rfl ?_
      refine sxo_lss rfl rfl rfl rfl ?_
      refine sxo_nil ?_
      refine sxq_next ?_
      refine sxc_if rfl (fun h299 => ?_) (fun h299 => ?_)
      · refine sxc_skip ?_
        refine sxq_next ?_
        refine sxc_seq ?_
        refine sxc_block ?_
        refine sxc_seq ?_
        refine sxc_idxN (j := 0) eN25_ok (by decide) rfl (fun x287 e287 g291 b288 o289 h290 => ?_)
        replace h290 : a2 = some ⟨b288, o289, none⟩ := h290
        refine sxc_idxN (j := 3) eN25_ok (by decide) rfl (fun x292 e292 g296 b293 o294 h295 => ?_)
        replace h295 : a5 = some ⟨b293, o294, none⟩ := h295
        refine sxb_draw mixed [] [] [CellsAt b293 (o294 + x202.toNat * 1) (eN25 (x292, g296)), Sl (eI .i64) 1 (.slice g296.1 x292.length g296.2) x292, CellsAt b288 (o289 + x202.toNat * 1) (eN25 (x287, g291)), Sl (eI .i64) 1 (.slice g291.1 x287.length g291.2) x287, SlN eN25 iN25 1 (.slice a2 x1.length c3.1) x1 c3.2, SlN eN25 iN25 1 (.slice a5 x4.length c6.1) x4 c6.2] .nil (gk_F 0 rfl (gk_F 1 rfl (gk_F 2 rfl (gk_F 3 rfl (gk_F 4 rfl (gk_F 5 rfl gk_nil)))))) 10 rfl ?_
        refine sxb_takeP 0 (.slice a2 x1.length c3.1) rfl rfl rfl rfl (by kernel_rfl) (by kernel_rfl) (by kernel_rfl) (by kernel_rfl) (by kernel_rfl) rfl (show _ = #[true, false, false, false, false, false, false, false, false, false] from rfl) (yv_pv rfl) ?_
        refine sxb_takeP 1 (.int .i64 x202) rfl rfl rfl rfl (by kernel_rfl) (by kernel_rfl) (by kernel_rfl) (by kernel_rfl) (by kernel_rfl) rfl (show _ = #[true, true, false, false, false, false, false, false, false, false] from rfl) (yv_pv rfl) ?_
        refine sxb_again (d := 17) (v := .slice (some ⟨b288, o289, none⟩) x1.length c3.1) rfl (by rw [h290] <;> rfl) ?_
        refine sxb_takeP 2 (.pointer (some ⟨b288, (o289 + x202.toNat * 1), none⟩)) rfl rfl rfl rfl (by kernel_rfl) (by kernel_rfl) (by kernel_rfl) (by kernel_rfl) (by kernel_rfl) rfl (show _ = #[true, true, true, false, false, false, false, false, false, false] from rfl) (yv_idx Try.underlying22 tf25 rfl rfl (idx_get e287).1 (idx_lt e287)) ?_
        refine sxb_again (d := 17) (v := .slice a2 x1.length c3.1) rfl (by rw [h290] <;> rfl) ?_
        refine sxb_take 3 (.slice g291.1 x287.length g291.2) [] rfl rfl rfl rfl (by kernel_rfl) (by kernel_rfl) (by kernel_rfl) (by kernel_rfl) (by kernel_rfl) (by kernel_rfl) rfl (show _ = #[true, true, true, true, false, false, false, false, false, false] from rfl) (yv_loadF (j := 2) rfl tf25 rfl rfl (fun _ => rfl) rfl) ?_
        refine sxb_takeP 4 (.slice a5 x4.length c6.1) rfl rfl rfl rfl (by kernel_rfl) (by kernel_rfl) (by kernel_rfl) (by kernel_rfl) (by kernel_rfl) rfl (show _ = #[true, true, true, true, true, false, false, false, false, false] from rfl) (yv_pv rfl) ?_
        refine sxb_takeP 5 (.int .i64 x202) rfl rfl rfl rfl (by kernel_rfl) (by kernel_rfl) (by kernel_rfl) (by kernel_rfl) (by kernel_rfl) rfl (show _ = #[true, true, true, true, true, true, false, false, false, false] from rfl) (yv_pv rfl) ?_
        refine sxb_again (d := 21) (v := .slice (some ⟨b293, o294, none⟩) x4.length c6.1) rfl (by rw [h295] <;> rfl) ?_
        refine sxb_takeP 6 (.pointer (some ⟨b293, (o294 + x202.toNat * 1), none⟩)) rfl rfl rfl rfl (by kernel_rfl) (by kernel_rfl) (by kernel_rfl) (by kernel_rfl) (by kernel_rfl) rfl (show _ = #[true, true, true, true, true, true, true, false, false, false] from rfl) (yv_idx Try.underlying22 tf25 rfl rfl (idx_get e292).1 (idx_lt e292)) ?_
        refine sxb_again (d := 21) (v := .slice a5 x4.length c6.1) rfl (by rw [h295] <;> rfl) ?_
        refine sxb_take 7 (.slice g296.1 x292.length g296.2) [] rfl rfl rfl rfl (by kernel_rfl) (by kernel_rfl) (by kernel_rfl) (by kernel_rfl) (by kernel_rfl) (by kernel_rfl) rfl (show _ = #[true, true, true, true, true, true, true, true, false, false] from rfl) (yv_loadF (j := 0) rfl tf25 rfl rfl (fun _ => rfl) rfl) ?_
        refine sxb_step 8 rfl (by kernel_rfl) (show _ = #[true, true, true, true, true, true, true, true, true, false] from rfl) ?_
        refine sxo_call ent19 rfl rfl rfl (fun x297 e297 => C_R_SameInts F x287 g291.1 g291.2 x292 g296.1 g296.2 x297 e297) (.consF 3 rfl (.consF 1 rfl .nil)) (fun x297 e297 => ?_)
        intro _
        refine sxo_nil ?_
        refine sxq_anyB .nil (gk_F 0 rfl (gk_F 1 rfl (gk_F 2 rfl (gk_F 3 rfl (gk_F 4 rfl (gk_F 5 rfl gk_nil)))))) ?_
        refine sxb_takeP 9 (.bool (!x297)) rfl rfl rfl rfl (by kernel_rfl) (by kernel_rfl) (by kernel_rfl) (by kernel_rfl) (by kernel_rfl) rfl (show _ = #[true, true, true, true, true, true, true, true, true, true] from rfl) (yv_pv rfl) ?_
        refine sxb_done (by kernel_rfl) ?_
        refine sxq_np ?_ (by intro c h; cases h)
        refine sxq_next ?_
        refine sxc_if rfl (fun h298 => ?_) (fun h298 => ?_)
        · refine sxc_seq ?_
          refine sxc_region ?_
          refine sxo_assign rfl rfl rfl ?_
          refine sxo_nil ?_
          refine sxq_next ?_
          refine sxc_ret ?_
          refine sxq_blkR ?_
          refine sxq_thenR ?_
          refine sxq_thenR ?_
          refine sxq_blkR ?_
          refine sxq_thenR ?_
          exact sxq_doneP () (.inl rfl) (res1 rfl rfl) (fun h => by subst h; rfl) (fun h => by subst h; exact .nil)
        · refine sxc_skip ?_
          refine sxq_blkN ?_
          refine sxq_next ?_
          refine sxc_region ?_
          refine sxo_move rfl rfl rfl ?_
          refine sxo_add rfl rfl rfl rfl ?_
          refine sxo_assign rfl rfl rfl ?_
          refine sxo_nil ?_
          exact sxq_againP (iadd .i64 x202 1, ()) (lk_cons rfl (lk_cons rfl (lk_cons rfl lk_nil))) .nil .nil (fk_cons 4 rfl (fk_cons 5 rfl fk_nil))
      · refine sxc_exit ?_
        refine sxq_thenX ?_
        refine sxq_thenX ?_
        refine sxq_blkX ?_
        exact sxq_meetP ((), ()) lk_nil .nil .nil fk_nil
    · rintro ⟨_, _⟩
      try dsimp only
      refine sxc_seq ?_
      refine sxc_region ?_
      refine sxo_assign rfl rfl rfl ?_
      refine sxo_nil ?_
      refine sxq_next ?_
      refine sxc_ret ?_
      exact sxq_doneP () (.inl rfl) (res1 rfl rfl) (fun h => by subst h; rfl) (fun h => by subst h; exact .nil)

set_option maxHeartbeats 4000000 in
theorem C_L_strongBegun (F : Nat)  (r : Bool) (hm : M_L_strongBegun F  = some r) :
    Pure Try.prog 18 [] [] Unit (fun _ => .bool r) (fun _ => []) (fun _ => []) := by
  refine pure_of Try.func18 rfl Try.ntmps18 rfl hm (fun w => ?_)
  refine sxc_env (l' := []) rfl ?_
  refine sxc_seq ?_
  refine sxc_region ?_
  refine sxo_assign rfl rfl rfl ?_
  refine sxo_nil ?_
  refine sxq_next ?_
  refine sxc_seq ?_
  refine sxc_region ?_
  refine sxo_call ent42 rfl rfl rfl (fun x1 e1 => C_L_someGraph F  x1 e1) .nil (fun x1 e1 => ?_)
  rintro ⟨a2, c3⟩
  refine sxo_call ent11 rfl rfl rfl (fun x4 e4 => C_strong_Parts F x1 a2 c3 x4 e4) (.consG 0 rfl (nest_sl rN25_in) .nil) (fun x4 e4 => ?_)
  rintro ⟨a5, c6⟩
  refine sxo_move rfl rfl rfl ?_
  refine sxo_extract rfl rfl rfl rfl ?_
  refine sxo_extract rfl rfl rfl rfl ?_
  refine sxo_assign rfl rfl rfl ?_
  refine sxo_assign rfl rfl rfl ?_
  refine sxo_nil ?_
  refine sxq_next ?_
  refine sxc_seq ?_
  refine sxc_region ?_
  refine sxo_slit (vs := [.int .i64 0]) (ys := ([0] : List Int)) (eI_ok .i64) (by decide) rfl Try.underlying25 tf3 rfl rfl rfl rfl rfl (by decide) (fun a7 c8 => ?_)
  refine sxo_slit (vs := [.int .i64 0, .int .i64 1]) (ys := ([0, 1] : List Int)) (eI_ok .i64) (by decide) rfl Try.underlying25 tf3 rfl rfl rfl rfl rfl (by decide) (fun a9 c10 => ?_)
  refine sxo_nilrow' Int (eI .i64) 3 1 ?_
  refine sxo_freeze 0 rfl ?_
  refine sxo_freeze 1 rfl ?_
  refine sxo_freeze 0 rfl ?_
  refine sxo_slit (vs := [.slice none 0 0, .slice a7 ([0] : List Int).length c8, .slice a9 ([0, 1] : List Int).length c10]) (ys := ([(([] : List Int), (none, 0)), (([0] : List Int), (a7, c8)), (([0, 1] : List Int), (a9, c10))] : List (List Int × (Option Addr × Nat)))) eN25_ok (by decide) rfl Try.underlying22 tf25 rfl rfl rfl rfl rfl (by decide) (fun a11 c12 => ?_)
  refine sxo_nestF (inn := iN25) ([([] : List Int), ([0] : List Int), ([0, 1] : List Int)] : List (List Int)) ([(none, 0), (a7, c8), (a9, c10)] : List (Option Addr × Nat)) 0 rfl rfl (fk_cons 2 rfl (fk_cons 1 rfl (fk_cons 0 rfl fk_nil))) ?_
  refine sxo_build (cells := [.slice a11 ([([] : List Int), ([0] : List Int), ([0, 1] : List Int)] : List (List Int)).length c12]) rfl st24 rfl (by kernel_rfl) rfl ?_
  refine sxo_call ent12 rfl rfl rfl (fun x13 e13 => C_strong_Order F ([([] : List Int), ([0] : List Int), ([0, 1] : List Int)] : List (List Int)) a11 (c12, ([(none, 0), (a7, c8), (a9, c10)] : List (Option Addr × Nat))) x13 e13) (.consF 0 rfl .nil) (fun x13 e13 => ?_)
  rintro ⟨a14, c15⟩
  refine sxo_move rfl rfl rfl ?_
  refine sxo_extract rfl rfl rfl rfl ?_
  refine sxo_extract rfl rfl rfl rfl ?_
  refine sxo_assign rfl rfl rfl ?_
  refine sxo_assign rfl rfl rfl ?_
  refine sxo_nil ?_
  refine sxq_next ?_
  refine sxc_seq ?_
  refine sxc_region ?_
  refine sxo_call ent42 rfl rfl rfl (fun x16 e16 => C_L_someGraph F  x16 e16) .nil (fun x16 e16 => ?_)
  rintro ⟨a17, c18⟩
  refine sxo_callM ent13 rfl rfl rfl (fun x19 e19 => C_strong_Shrink F x16 a17 c18 x19 e19) .nil .nil (.consG 0 rfl (nest_sl rN25_in) .nil) (fun x19 e19 => ?_)
  rintro ⟨⟨a20, c21⟩, ⟨a22, c23⟩⟩
  refine sxo_move rfl rfl rfl ?_
  refine sxo_extract rfl rfl rfl rfl ?_
  refine sxo_extract rfl rfl rfl rfl ?_
  refine sxo_extract rfl rfl rfl rfl ?_
  refine sxo_alloc rfl tf24 rfl (fun g24 => ?_)
  refine sxo_storeB (i := 0) rfl rfl rfl tf24 rfl rfl rfl rfl rfl ?_
  refine sxo_assign rfl rfl rfl ?_
  refine sxo_assign rfl rfl rfl ?_
  refine sxo_nil ?_
  refine sxq_next ?_
  refine sxc_seq ?_
  refine sxc_region ?_
  refine sxo_call ent42 rfl rfl rfl (fun x25 e25 => C_L_someGraph F  x25 e25) .nil (fun x25 e25 => ?_)
  rintro ⟨a26, c27⟩
  refine sxo_call ent12 rfl rfl rfl (fun x28 e28 => C_strong_Order F x25 a26 c27 x28 e28) (.consG 0 rfl (nest_sl rN25_in) .nil) (fun x28 e28 => ?_)
  rintro ⟨a29, c30⟩
  refine sxo_move rfl rfl rfl ?_
  refine sxo_extract rfl rfl rfl rfl ?_
  refine sxo_extract rfl rfl rfl rfl ?_
  refine sxo_assign rfl rfl rfl ?_
  refine sxo_assign rfl rfl rfl ?_
  refine sxo_nil ?_
  refine sxq_next ?_
  refine sxc_seq ?_
  refine sxc_region ?_
  refine sxo_move rfl rfl rfl ?_
  refine sxo_slit (vs := [.int .i64 0, .int .i64 0, .int .i64 0, .int .i64 3, .int .i64 4, .int .i64 0]) (ys := ([0, 0, 0, 3, 4, 0] : List Int)) (eI_ok .i64) (by decide) rfl Try.underlying25 tf3 rfl rfl rfl rfl rfl (by decide) (fun a31 c32 => ?_)
  refine sxo_call ent19 rfl rfl rfl (fun x33 e33 => C_R_SameInts F x4.1 a5 c6 ([0, 0, 0, 3, 4, 0] : List Int) a31 c32 x33 e33) (.consR 7 (Ro (eI .i64) 3 1 (.slice a5 x4.1.length c6) x4.1) rfl (.consR 0 (Ro (eI .i64) 3 1 (.slice a31 ([0, 0, 0, 3, 4, 0] : List Int).length c32) ([0, 0, 0, 3, 4, 0] : List Int)) rfl .nil)) (fun x33 e33 => ?_)
  intro _
  refine sxo_move rfl rfl rfl ?_
  refine sxo_case 3 x33 [(3, .slice a14 x13.1.length c15), (4, .int .i64 x13.2), (5, .pointer (some ⟨g24, 0, none⟩)), (6, .slice a22 x19.2.1.length c23), (7, .int .i64 x19.2.2), (9, .int .i64 x28.2), (40, .bool (x33 && ((x4.2 : Int) == 0)))] (fun h34 => ?_) (fun h34 => ?_) ?_
  · refine sxo_take (os := _) rfl ?_
    refine sxo_isT (k := 37) rfl h34 ?_
    refine sxo_move rfl rfl rfl ?_
    refine sxo_eql rfl rfl rfl rfl ?_
    refine sxo_pick (b := true) rfl rfl rfl rfl ?_
    refine sxo_again (d := 40) (v := .bool (x33 && ((x4.2 : Int) == 0))) rfl (by rw [h34]; simp only [Bool.true_and]) ?_
    refine sxo_nil ?_
    exact sxq_case (lk_cons rfl (lk_cons rfl (lk_cons rfl (lk_cons rfl (lk_cons rfl (lk_cons rfl (lk_cons rfl lk_nil)))))))
  · refine sxo_take (os := _) rfl ?_
    refine sxo_isF (k := 37) rfl h34 ?_
    refine sxo_skip rfl rfl rfl ?_
    refine sxo_skip rfl rfl rfl ?_
    refine sxo_pick (b := false) rfl rfl rfl rfl ?_
    refine sxo_again (d := 40) (v := .bool (x33 && ((x4.2 : Int) == 0))) rfl (by rw [h34]; simp only [Bool.false_and]) ?_
    refine sxo_nil ?_
    exact sxq_case (lk_cons rfl (lk_cons rfl (lk_cons rfl (lk_cons rfl (lk_cons rfl (lk_cons rfl (lk_cons rfl lk_nil)))))))
  refine sxo_take (os := _) rfl ?_
  refine sxo_move rfl rfl rfl ?_
  refine sxo_join 4 (fun ((x39, _) : (Bool × Unit)) => [(4, .int .i64 x13.2), (5, .pointer (some ⟨g24, 0, none⟩)), (6, .slice a22 x19.2.1.length c23), (7, .int .i64 x19.2.2), (9, .int .i64 x28.2), (45, .bool x39)]) (fun ((x39, _) : (Bool × Unit)) => [⟨g24, 24, [.slice a20 x19.1.length c21.1]⟩]) (fun ((x39, _) : (Bool × Unit)) => [Ro (eI .i64) 3 1 (.slice a22 x19.2.1.length c23) x19.2.1, RoN eN25 rN25 25 1 (.slice a20 x19.1.length c21.1) x19.1 c21.2 []]) (fun ((x39, _) : (Bool × Unit)) => []) (fun ((x39, _) : (Bool × Unit)) => M_L_strongBegun_j1 F x13 x19 x28 x39) ?_ ?_
  · refine sxo_take (os := _) rfl ?_
    refine sxo_if (fun h35 => ?_) (fun h35 => ?_)
    · refine sxo_isT (k := 41) rfl h35 ?_
      refine sxo_move rfl rfl rfl ?_
      refine sxo_slit (vs := [.int .i64 2, .int .i64 1, .int .i64 0]) (ys := ([2, 1, 0] : List Int)) (eI_ok .i64) (by decide) rfl Try.underlying25 tf3 rfl rfl rfl rfl rfl (by decide) (fun a63 c64 => ?_)
      refine sxo_call ent19 rfl rfl rfl (fun x65 e65 => C_R_SameInts F x13.1 a14 c15 ([2, 1, 0] : List Int) a63 c64 x65 e65) (.consR 7 (Ro (eI .i64) 3 1 (.slice a14 x13.1.length c15) x13.1) rfl (.consR 0 (Ro (eI .i64) 3 1 (.slice a63 ([2, 1, 0] : List Int).length c64) ([2, 1, 0] : List Int)) rfl .nil)) (fun x65 e65 => ?_)
      intro _
      refine sxo_pick (b := true) rfl rfl rfl rfl ?_
      refine sxo_nil ?_
      exact sxq_meetP (x65, ()) (lk_cons rfl (lk_cons rfl (lk_cons rfl (lk_cons rfl (lk_cons rfl (lk_cons rfl lk_nil)))))) (.cons 0 rfl .nil) (.cons 5 rfl (.cons 4 rfl .nil)) fk_nil
    · refine sxo_isF (k := 41) rfl h35 ?_
      refine sxo_skip rfl rfl rfl ?_
      refine sxo_skip rfl rfl rfl ?_
      refine sxo_skip rfl rfl rfl ?_
      refine sxo_pick (b := false) rfl rfl rfl rfl ?_
      refine sxo_nil ?_
      exact sxq_meetP (false, ()) (lk_cons rfl (lk_cons rfl (lk_cons rfl (lk_cons rfl (lk_cons rfl (lk_cons rfl lk_nil)))))) (.cons 0 rfl .nil) (.cons 4 rfl (.cons 3 rfl .nil)) fk_nil
  · rintro ⟨x39, _⟩
    try dsimp only
    refine sxo_take (os := _) rfl ?_
    refine sxo_move rfl rfl rfl ?_
    refine sxo_case 3 x39 [(5, .pointer (some ⟨g24, 0, none⟩)), (6, .slice a22 x19.2.1.length c23), (7, .int .i64 x19.2.2), (9, .int .i64 x28.2), (49, .bool (x39 && ((x13.2 : Int) == 0)))] (fun h40 => ?_) (fun h40 => ?_) ?_
    · refine sxo_take (os := _) rfl ?_
      refine sxo_isT (k := 46) rfl h40 ?_
      refine sxo_move rfl rfl rfl ?_
      refine sxo_eql rfl rfl rfl rfl ?_
      refine sxo_pick (b := true) rfl rfl rfl rfl ?_
      refine sxo_again (d := 49) (v := .bool (x39 && ((x13.2 : Int) == 0))) rfl (by rw [h40]; simp only [Bool.true_and]) ?_
      refine sxo_nil ?_
      exact sxq_case (lk_cons rfl (lk_cons rfl (lk_cons rfl (lk_cons rfl (lk_cons rfl lk_nil)))))
    · refine sxo_take (os := _) rfl ?_
      refine sxo_isF (k := 46) rfl h40 ?_
      refine sxo_skip rfl rfl rfl ?_
      refine sxo_skip rfl rfl rfl ?_
      refine sxo_pick (b := false) rfl rfl rfl rfl ?_
      refine sxo_again (d := 49) (v := .bool (x39 && ((x13.2 : Int) == 0))) rfl (by rw [h40]; simp only [Bool.false_and]) ?_
      refine sxo_nil ?_
      exact sxq_case (lk_cons rfl (lk_cons rfl (lk_cons rfl (lk_cons rfl (lk_cons rfl lk_nil)))))
    refine sxo_take (os := _) rfl ?_
    refine sxo_move rfl rfl rfl ?_
    refine sxo_join 6 (fun ((x47, _) : (Bool × Unit)) => [(6, .slice a22 x19.2.1.length c23), (7, .int .i64 x19.2.2), (9, .int .i64 x28.2), (56, .bool x47)]) (fun ((x47, _) : (Bool × Unit)) => []) (fun ((x47, _) : (Bool × Unit)) => [Ro (eI .i64) 3 1 (.slice a22 x19.2.1.length c23) x19.2.1]) (fun ((x47, _) : (Bool × Unit)) => []) (fun ((x47, _) : (Bool × Unit)) => M_L_strongBegun_j2 F x19 x28 x47) ?_ ?_
    · refine sxo_take (os := _) rfl ?_
      refine sxo_if (fun h41 => ?_) (fun h41 => ?_)
      · refine sxo_isT (k := 50) rfl h41 ?_
        refine sxo_fieldAddr rfl rfl ff24_0 rfl ?_
        refine sxo_loadB (i := 0) rfl rfl tf22 rfl rfl (fun _ => rfl) rfl rfl ?_
        refine sxo_slit (vs := [.int .i64 1]) (ys := ([1] : List Int)) (eI_ok .i64) (by decide) rfl Try.underlying25 tf3 rfl rfl rfl rfl rfl (by decide) (fun a58 c59 => ?_)
        refine sxo_freeze 0 rfl ?_
        refine sxo_nilrow' Int (eI .i64) 3 1 ?_
        refine sxo_freeze 0 rfl ?_
        refine sxo_nilrow' Int (eI .i64) 3 1 ?_
        refine sxo_slit (vs := [.slice a58 ([1] : List Int).length c59, .slice none 0 0, .slice none 0 0]) (ys := ([(([1] : List Int), (a58, c59)), (([] : List Int), (none, 0)), (([] : List Int), (none, 0))] : List (List Int × (Option Addr × Nat)))) eN25_ok (by decide) rfl Try.underlying22 tf25 rfl rfl rfl rfl rfl (by decide) (fun a60 c61 => ?_)
        refine sxo_nestF (inn := iN25) ([([1] : List Int), ([] : List Int), ([] : List Int)] : List (List Int)) ([(a58, c59), (none, 0), (none, 0)] : List (Option Addr × Nat)) 0 rfl rfl (fk_cons 1 rfl (fk_cons 0 rfl (fk_cons 0 rfl fk_nil))) ?_
        refine sxo_call ent43 rfl rfl rfl (fun x62 e62 => C_R_SameLists F x19.1 a20 c21 ([([1] : List Int), ([] : List Int), ([] : List Int)] : List (List Int)) a60 (c61, ([(a58, c59), (none, 0), (none, 0)] : List (Option Addr × Nat))) x62 e62) (.consG 2 rfl (nest_sl rN25_in) (.consF 0 rfl .nil)) (fun x62 e62 => ?_)
        intro _
        refine sxo_pick (b := true) rfl rfl rfl rfl ?_
        refine sxo_nil ?_
        exact sxq_meetP (x62, ()) (lk_cons rfl (lk_cons rfl (lk_cons rfl (lk_cons rfl lk_nil)))) .nil (.cons 1 rfl .nil) fk_nil
      · refine sxo_isF (k := 50) rfl h41 ?_
        refine sxo_skip rfl rfl rfl ?_
        refine sxo_skip rfl rfl rfl ?_
        refine sxo_skip rfl rfl rfl ?_
        refine sxo_skip rfl rfl rfl ?_
        refine sxo_skip rfl rfl rfl ?_
        refine sxo_pick (b := false) rfl rfl rfl rfl ?_
        refine sxo_nil ?_
        exact sxq_meetP (false, ()) (lk_cons rfl (lk_cons rfl (lk_cons rfl (lk_cons rfl lk_nil)))) .nil (.cons 0 rfl .nil) fk_nil
    · rintro ⟨x47, _⟩
      try dsimp only
      refine sxo_take (os := _) rfl ?_
      refine sxo_move rfl rfl rfl ?_
      refine sxo_join 4 (fun ((x52, _) : (Bool × Unit)) => [(7, .int .i64 x19.2.2), (9, .int .i64 x28.2), (61, .bool x52)]) (fun ((x52, _) : (Bool × Unit)) => []) (fun ((x52, _) : (Bool × Unit)) => []) (fun ((x52, _) : (Bool × Unit)) => []) (fun ((x52, _) : (Bool × Unit)) => M_L_strongBegun_j3 F x19 x28 x52) ?_ ?_
      · refine sxo_take (os := _) rfl ?_
        refine sxo_if (fun h48 => ?_) (fun h48 => ?_)
        · refine sxo_isT (k := 57) rfl h48 ?_
          refine sxo_move rfl rfl rfl ?_
          refine sxo_slit (vs := [.int .i64 0, .int .i64 0, .int .i64 0, .int .i64 1, .int .i64 2, .int .i64 0]) (ys := ([0, 0, 0, 1, 2, 0] : List Int)) (eI_ok .i64) (by decide) rfl Try.underlying25 tf3 rfl rfl rfl rfl rfl (by decide) (fun a55 c56 => ?_)
          refine sxo_call ent19 rfl rfl rfl (fun x57 e57 => C_R_SameInts F x19.2.1 a22 c23 ([0, 0, 0, 1, 2, 0] : List Int) a55 c56 x57 e57) (.consR 1 (Ro (eI .i64) 3 1 (.slice a22 x19.2.1.length c23) x19.2.1) rfl (.consR 0 (Ro (eI .i64) 3 1 (.slice a55 ([0, 0, 0, 1, 2, 0] : List Int).length c56) ([0, 0, 0, 1, 2, 0] : List Int)) rfl .nil)) (fun x57 e57 => ?_)
          intro _
          refine sxo_pick (b := true) rfl rfl rfl rfl ?_
          refine sxo_nil ?_
          exact sxq_meetP (x57, ()) (lk_cons rfl (lk_cons rfl (lk_cons rfl lk_nil))) .nil .nil fk_nil
        · refine sxo_isF (k := 57) rfl h48 ?_
          refine sxo_skip rfl rfl rfl ?_
          refine sxo_skip rfl rfl rfl ?_
          refine sxo_skip rfl rfl rfl ?_
          refine sxo_pick (b := false) rfl rfl rfl rfl ?_
          refine sxo_nil ?_
          exact sxq_meetP (false, ()) (lk_cons rfl (lk_cons rfl (lk_cons rfl lk_nil))) .nil .nil fk_nil
      · rintro ⟨x52, _⟩
        try dsimp only
        refine sxo_take (os := _) rfl ?_
        refine sxo_move rfl rfl rfl ?_
        refine sxo_case 3 x52 [(9, .int .i64 x28.2), (65, .bool (x52 && ((x19.2.2 : Int) == 0)))] (fun h53 => ?_) (fun h53 => ?_) ?_
        · refine sxo_take (os := _) rfl ?_
          refine sxo_isT (k := 62) rfl h53 ?_
          refine sxo_move rfl rfl rfl ?_
          refine sxo_eql rfl rfl rfl rfl ?_
          refine sxo_pick (b := true) rfl rfl rfl rfl ?_
          refine sxo_again (d := 65) (v := .bool (x52 && ((x19.2.2 : Int) == 0))) rfl (by rw [h53]; simp only [Bool.true_and]) ?_
          refine sxo_nil ?_
          exact sxq_case (lk_cons rfl (lk_cons rfl lk_nil))
        · refine sxo_take (os := _) rfl ?_
          refine sxo_isF (k := 62) rfl h53 ?_
          refine sxo_skip rfl rfl rfl ?_
          refine sxo_skip rfl rfl rfl ?_
          refine sxo_pick (b := false) rfl rfl rfl rfl ?_
          refine sxo_again (d := 65) (v := .bool (x52 && ((x19.2.2 : Int) == 0))) rfl (by rw [h53]; simp only [Bool.false_and]) ?_
          refine sxo_nil ?_
          exact sxq_case (lk_cons rfl (lk_cons rfl lk_nil))
        refine sxo_take (os := _) rfl ?_
        refine sxo_move rfl rfl rfl ?_
        refine sxo_case 3 (x52 && ((x19.2.2 : Int) == 0)) [(69, .bool ((x52 && ((x19.2.2 : Int) == 0)) && ((x28.2 : Int) == 4)))] (fun h54 => ?_) (fun h54 => ?_) ?_
        · refine sxo_take (os := _) rfl ?_
          refine sxo_isT (k := 66) rfl h54 ?_
          refine sxo_move rfl rfl rfl ?_
          refine sxo_eql rfl rfl rfl rfl ?_
          refine sxo_pick (b := true) rfl rfl rfl rfl ?_
          refine sxo_again (d := 69) (v := .bool ((x52 && ((x19.2.2 : Int) == 0)) && ((x28.2 : Int) == 4))) rfl (by rw [h54]; simp only [Bool.true_and]) ?_
          refine sxo_nil ?_
          exact sxq_case (lk_cons rfl lk_nil)
        · refine sxo_take (os := _) rfl ?_
          refine sxo_isF (k := 66) rfl h54 ?_
          refine sxo_skip rfl rfl rfl ?_
          refine sxo_skip rfl rfl rfl ?_
          refine sxo_pick (b := false) rfl rfl rfl rfl ?_
          refine sxo_again (d := 69) (v := .bool ((x52 && ((x19.2.2 : Int) == 0)) && ((x28.2 : Int) == 4))) rfl (by rw [h54]; simp only [Bool.false_and]) ?_
          refine sxo_nil ?_
          exact sxq_case (lk_cons rfl lk_nil)
        refine sxo_take (os := _) rfl ?_
        refine sxo_assign rfl rfl rfl ?_
        refine sxo_nil ?_
        refine sxq_next ?_
        refine sxc_ret ?_
        exact sxq_doneP () (.inl rfl) (res1 rfl rfl) (fun h => by subst h; rfl) (fun h => by subst h; exact .nil)

theorem C_R_HasInt (F : Nat) (x1 : List Int) (a2 : Option Addr) (c3 : Nat) (x4 : Int) (r : Bool) (hm : M_R_HasInt F x1 x4 = some r) :
    Pure Try.prog 23 [.slice a2 x1.length c3, .int .i64 x4] [Sl (eI .i64) 1 (.slice a2 x1.length c3) x1] Unit (fun _ => .bool r) (fun _ => []) (fun _ => []) := by
  refine pure_of Try.func23 rfl Try.ntmps23 rfl hm (fun w => ?_)
  refine sxc_env (l' := [(0, .slice a2 x1.length c3), (1, .int .i64 x4)]) rfl ?_
  refine sxc_seq ?_
  refine sxc_region ?_
  refine sxo_assign rfl rfl rfl ?_
  refine sxo_nil ?_
  refine sxq_next ?_
  refine sxc_join (fun ((_, _) : (Unit × Unit)) => []) (fun ((_, _) : (Unit × Unit)) => []) (fun ((_, _) : (Unit × Unit)) => []) (fun ((_, _) : (Unit × Unit)) => []) (fun ((_, _) : (Unit × Unit)) => M_R_HasInt_j2 F) ?_ ?_
  · refine sxc_seq ?_
    refine sxc_region ?_
    refine sxo_assign rfl rfl rfl ?_
    refine sxo_nil ?_
    refine sxq_next ?_
    refine sxc_block ?_
    refine sxc_loopP (fun ((x47, _) : (Int × Unit)) => [(0, .slice a2 x1.length c3), (1, .int .i64 x4), (5, .int .i64 x47)]) (fun ((x47, _) : (Int × Unit)) => []) (fun ((x47, _) : (Int × Unit)) => []) (fun ((x47, _) : (Int × Unit)) => [Sl (eI .i64) 1 (.slice a2 x1.length c3) x1]) (fun k (s : (Int × Unit)) => M_R_HasInt_l3 F x1 x4 k s.1) (0, ()) F (lk_cons rfl (lk_cons rfl (lk_cons rfl lk_nil))) .nil .nil (fk_cons 0 rfl fk_nil) (fun _ => rfl) ?_
    intro k58
    rintro ⟨x47, _⟩
    try dsimp only
    refine sxc_meq (m' := M_R_HasInt_b3 F x1 x4 (M_R_HasInt_l3 F x1 x4 k58) x47) rfl ?_
    refine sxc_seq ?_
    refine sxc_seq ?_
    refine sxc_region ?_
    refine sxo_move rfl rfl rfl ?_
    refine sxo_move rfl rfl rfl ?_
    refine sxo_len rfl Try.underlying25 rfl rfl ?_
    refine sxo_lss rfl rfl rfl rfl ?_
    refine sxo_nil ?_
    refine sxq_next ?_
    refine sxc_if rfl (fun h68 => ?_) (fun h68 => ?_)
    · refine sxc_skip ?_
      refine sxq_next ?_
      refine sxc_seq ?_
      refine sxc_block ?_
      refine sxc_seq ?_
      refine sxc_region ?_
      refine sxo_move rfl rfl rfl ?_
      refine sxo_move rfl rfl rfl ?_
      refine sxo_indexF (j := 0) (eI_ok .i64) (by decide) rfl Try.underlying25 tf3 rfl rfl rfl rfl (fun x64 e64 b65 o66 => ?_)
      refine sxo_loadF (j := 0) rfl rfl tf3 rfl rfl (fun _ => rfl) rfl rfl ?_
      refine sxo_move rfl rfl rfl ?_
      refine sxo_eql rfl rfl rfl rfl ?_
      refine sxo_nil ?_
      refine sxq_next ?_
      refine sxc_if rfl (fun h67 => ?_) (fun h67 => ?_)
      · refine sxc_seq ?_
        refine sxc_region ?_
        refine sxo_assign rfl rfl rfl ?_
        refine sxo_nil ?_
        refine sxq_next ?_
        refine sxc_ret ?_
        refine sxq_blkR ?_
        refine sxq_thenR ?_
        refine sxq_thenR ?_
        refine sxq_blkR ?_
        refine sxq_thenR ?_
        exact sxq_doneP () (.inl rfl) (res1 rfl rfl) (fun h => by subst h; rfl) (fun h => by subst h; exact .nil)
      · refine sxc_skip ?_
        refine sxq_blkN ?_
        refine sxq_next ?_
        refine sxc_region ?_
        refine sxo_move rfl rfl rfl ?_
        refine sxo_add rfl rfl rfl rfl ?_
        refine sxo_assign rfl rfl rfl ?_
        refine sxo_nil ?_
        exact sxq_againP (iadd .i64 x47 1, ()) (lk_cons rfl (lk_cons rfl (lk_cons rfl lk_nil))) .nil .nil (fk_cons 1 rfl fk_nil)
    · refine sxc_exit ?_
      refine sxq_thenX ?_
      refine sxq_thenX ?_
      refine sxq_blkX ?_
      exact sxq_meetP ((), ()) lk_nil .nil .nil fk_nil
  · rintro ⟨_, _⟩
    try dsimp only
    refine sxc_seq ?_
    refine sxc_region ?_
    refine sxo_assign rfl rfl rfl ?_
    refine sxo_nil ?_
    refine sxq_next ?_
    refine sxc_ret ?_
    exact sxq_doneP () (.inl rfl) (res1 rfl rfl) (fun h => by subst h; rfl) (fun h => by subst h; exact .nil)

theorem C_R_Leads (F : Nat) (x1 : List (List Int)) (a2 : Option Addr) (c3 : (Nat × List (Option Addr × Nat))) (x4 : Int) (x5 : Int) (r : Bool) (hm : M_R_Leads F x1 x4 x5 = some r) :
    Pure Try.prog 21 [.agg #[.slice a2 x1.length c3.1], .int .i64 x4, .int .i64 x5] [SlN eN25 iN25 1 (.slice a2 x1.length c3.1) x1 c3.2] Unit (fun _ => .bool r) (fun _ => []) (fun _ => []) := by
  refine pure_of Try.func21 rfl Try.ntmps21 rfl hm (fun w => ?_)
  refine sxc_env (l' := [(0, .agg #[.slice a2 x1.length c3.1]), (1, .int .i64 x4), (2, .int .i64 x5)]) rfl ?_
  refine sxc_seq ?_
  refine sxc_region ?_
  refine sxo_box rfl rfl rfl (fun g6 => ?_)
  refine sxo_assign rfl rfl rfl ?_
  refine sxo_nil ?_
  refine sxq_next ?_
  refine sxc_seq ?_
  refine sxc_region ?_
  refine sxo_fieldAddr rfl rfl ff24_0 rfl ?_
  refine sxo_loadB (i := 0) rfl rfl tf22 rfl rfl (fun _ => rfl) rfl rfl ?_
  refine sxo_move rfl rfl rfl ?_
  refine sxo_indexN (j := 0) eN25_ok (by decide) rfl Try.underlying22 tf25 rfl rfl rfl rfl (fun x7 e7 g10 b8 o9 => ?_)
  refine sxo_loadF (j := 0) rfl rfl tf25 rfl rfl (fun _ => rfl) rfl rfl ?_
  refine sxo_move rfl rfl rfl ?_
  refine sxo_call ent23 rfl rfl rfl (fun x11 e11 => C_R_HasInt F x7 g10.1 g10.2 x5 x11 e11) (.consF 1 rfl .nil) (fun x11 e11 => ?_)
  intro _
  refine sxo_assign rfl rfl rfl ?_
  refine sxo_nil ?_
  refine sxq_next ?_
  refine sxc_ret ?_
  exact sxq_doneP () (.inl rfl) (res1 rfl rfl) (fun h => by subst h; rfl) (fun h => by subst h; exact .nil)

theorem C_graph_turned (F : Nat) (x1 : List (List Int)) (a2 : Option Addr) (c3 : (Nat × List (Option Addr × Nat))) (r : List (Int × Int)) (hm : M_graph_turned F x1 = some r) :
    PureM Try.prog 47 [.agg #[.slice a2 x1.length c3.1]] [] [] [SlN eN25 iN25 1 (.slice a2 x1.length c3.1) x1 c3.2] (Option Addr × Nat) (fun g => .slice g.1 r.length g.2) (fun _ => []) (fun g => [Ro eS48 48 2 (.slice g.1 r.length g.2) r]) := by
  refine pureX_of Try.func47 rfl Try.ntmps47 rfl hm (fun w => ?_)
  refine sxc_env (l' := [(0, .agg #[.slice a2 x1.length c3.1])]) rfl ?_
  refine sxc_seq ?_
  refine sxc_region ?_
  refine sxo_box rfl rfl rfl (fun g4 => ?_)
  refine sxo_assign rfl rfl rfl ?_
  refine sxo_nil ?_
  refine sxq_next ?_
  refine sxc_seq ?_
  refine sxc_region ?_
  refine sxo_alloc rfl tf51 rfl (fun g5 => ?_)
  refine sxo_nil ?_
  refine sxq_next ?_
  refine sxc_seq ?_
  refine sxc_seq ?_
  refine sxc_region ?_
  refine sxo_loadB (i := 1) rfl rfl tf24 rfl rfl (by simp) rfl rfl ?_
  refine sxo_callM ent39 rfl rfl rfl (fun x35 e35 => C_graph_All F x1 a2 c3 x35 e35) .nil .nil (.consF 0 rfl .nil) (fun x35 e35 => ?_)
  rintro g36
  refine sxo_nil ?_
  refine sxq_next ?_
  refine sxc_block ?_
  refine sxc_nilrow (Int × Int) eS48 48 2 ?_
  refine sxc_range (encs := (fun (p : (Int × Int)) => [.agg #[.int .i64 p.1, .int .i64 p.2]])) (y := (fun (x47 : List (Int × Int)) ((x56, x57) : (Int × Int)) => M_graph_turned_r2 F x47 x56 x57)) (lb := [.pointer (some ⟨g36, 0, none⟩)]) (fun (x47 : List (Int × Int)) ((a45, c46) : (Option Addr × Nat)) => [⟨g5, 51, [.slice a45 x47.length c46]⟩, ⟨g4, 24, [.slice a2 x1.length c3.1]⟩]) (fun (x47 : List (Int × Int)) ((a45, c46) : (Option Addr × Nat)) => [Ro eS48 48 2 (.slice a45 x47.length c46) x47]) (fun (_ : Empty) (_ : Unit) => []) (fun (_ : Empty) (_ : Unit) => []) (fun _ => .skip) ([] : List (Int × Int)) (none, 0) rfl ent65 (fun _ => rfl) rfl (.cons 0 rfl .nil) (.cons 0 rfl (.cons 0 rfl .nil)) (.cons 0 rfl .nil) (.consF 0 rfl .nil) (fun z hz _ _ _ hY => C_graph_All_1 F hY ([] : List (Int × Int)) (none, 0) g36 x1 a2 c3 z hz) ?_ ?_ ?_
  · rintro rc1 L1 D1 x47 ⟨a45, c46⟩ ⟨x56, x57⟩ z w M _
    try dsimp only
    refine sxc_less [(0, .agg #[.slice a2 x1.length c3.1]), (1, .pointer (some ⟨g4, 0, none⟩)), (2, .slice none 0 0), (3, .pointer (some ⟨g5, 0, none⟩)), (5, .agg #[.slice a2 x1.length c3.1]), (6, .func (.func 65) #[] #[.pointer (some ⟨g36, 0, none⟩)]), (7, .agg #[.int .i64 x56, .int .i64 x57])] (lk_cons rfl (lk_cons rfl (lk_cons rfl (lk_cons rfl (lk_cons rfl (lk_cons rfl (lk_cons rfl lk_nil))))))) ?_
    refine sxc_region ?_
    refine sxo_alloc rfl tf48 rfl (fun g58 => ?_)
    refine sxo_storeB (i := 0) rfl rfl rfl tf48 rfl rfl rfl rfl rfl ?_
    refine sxo_nil ?_
    refine sxq_begin (i := 3) rfl ?_
    refine sxc_block ?_
    refine sxc_region ?_
    refine sxo_loadB (i := 1) rfl rfl tf51 rfl rfl (fun _ => rfl) rfl rfl ?_
    refine sxo_fieldAddr rfl rfl ff48_1 rfl ?_
    refine sxo_loadB (i := 0) rfl rfl tf3 rfl rfl (fun _ => rfl) rfl rfl ?_
    refine sxo_fieldAddr rfl rfl ff48_0 rfl ?_
    refine sxo_loadB (i := 0) rfl rfl tf3 rfl rfl (fun _ => rfl) rfl rfl ?_
    refine sxo_build (cells := [.int .i64 x57, .int .i64 x56]) rfl st48 rfl (by kernel_rfl) rfl ?_
    refine sxo_slit (vs := [.agg #[.int .i64 x57, .int .i64 x56]]) (ys := ([(x57, x56)] : List (Int × Int))) eS48_ok (by decide) rfl Try.underlying51 tf48 rfl rfl rfl rfl rfl (by decide) (fun a59 c60 => ?_)
    refine sxo_app 1 eS48_ok rfl Try.underlying51 tf48 rfl rfl rfl rfl rfl (.inl ⟨0, _, rfl⟩) rfl rfl (fun x61 e61 a62 c63 => ?_)
    refine sxo_storeB (i := 1) rfl rfl rfl tf51 rfl rfl rfl rfl rfl ?_
    refine sxo_nil ?_
    refine sxq_blkN ?_
    exact sxq_round (rc := rc1) rfl (.cons 3 rfl .nil) rfl (a62, c63) (.cons 2 rfl (.cons 2 rfl (.cons 0 rfl (.cons 1 rfl .nil)))) (.cons 0 rfl .nil)
  · rintro x47 _ ⟨a45, c46⟩ D1
    try dsimp only
    refine sxq_blkN ?_
    refine sxq_next ?_
    refine sxc_seq ?_
    refine sxc_region ?_
    refine sxo_loadB (i := 2) rfl rfl tf51 rfl rfl (fun _ => rfl) rfl rfl ?_
    refine sxo_assign rfl rfl rfl ?_
    refine sxo_nil ?_
    refine sxq_next ?_
    refine sxc_ret ?_
    exact sxq_doneX [D1] (a45, c46) (.inl rfl) rfl (.cons 0 rfl .nil) (res1 rfl rfl) (fun h => by subst h; rfl) (fun h => by subst h; exact .nil) (fun h => by subst h; exact (.cons 0 rfl .nil))
  · intro t; exact t.elim

theorem C_graph_Turn (F : Nat) (x1 : List (List Int)) (a2 : Option Addr) (c3 : (Nat × List (Option Addr × Nat))) (r : (List (List Int) × Int)) (hm : M_graph_Turn F x1 = some r) :
    Pure Try.prog 24 [.agg #[.slice a2 x1.length c3.1]] [SlN eN25 iN25 1 (.slice a2 x1.length c3.1) x1 c3.2] (Option Addr × (Nat × List (Option Addr × Nat))) (fun g => .tuple #[.agg #[.slice g.1 r.1.length g.2.1], .int .i64 r.2]) (fun g => [RoN eN25 rN25 25 1 (.slice g.1 r.1.length g.2.1) r.1 g.2.2 []]) (fun _ => []) := by
  refine pure_of Try.func24 rfl Try.ntmps24 rfl hm (fun w => ?_)
  refine sxc_env (l' := [(0, .agg #[.slice a2 x1.length c3.1])]) rfl ?_
  refine sxc_seq ?_
  refine sxc_region ?_
  refine sxo_box rfl rfl rfl (fun g4 => ?_)
  refine sxo_alloc rfl tf24 rfl (fun g5 => ?_)
  refine sxo_assign rfl rfl rfl ?_
  refine sxo_nil ?_
  refine sxq_next ?_
  refine sxc_seq ?_
  refine sxc_seq ?_
  refine sxc_region ?_
  refine sxo_loadB (i := 1) rfl rfl tf24 rfl rfl (by simp) rfl rfl ?_
  refine sxo_call ent31 rfl rfl rfl (fun x8 e8 => C_graph_Check F x1 a2 c3 x8 e8) (.consF 0 rfl .nil) (fun x8 e8 => ?_)
  intro _
  refine sxo_assign rfl rfl rfl ?_
  refine sxo_nil ?_
  refine sxq_next ?_
  refine sxc_seq ?_
  refine sxc_region ?_
  refine sxo_move rfl rfl rfl ?_
  refine sxo_neq rfl rfl rfl rfl ?_
  refine sxo_nil ?_
  refine sxq_next ?_
  refine sxc_if rfl (fun h31 => ?_) (fun h31 => ?_)
  · refine sxc_seq ?_
    refine sxc_region ?_
    refine sxo_build (cells := [.slice none 0 0]) rfl st24 rfl (by kernel_rfl) rfl ?_
    refine sxo_move rfl rfl rfl ?_
    refine sxo_storeB (i := 0) rfl rfl rfl tf24 rfl rfl rfl rfl rfl ?_
    refine sxo_assign rfl rfl rfl ?_
    refine sxo_nil ?_
    refine sxq_next ?_
    refine sxc_ret ?_
    refine sxq_thenR ?_
    refine sxq_nilN (List Int) (Option Addr × Nat) eN25 rN25 25 1 ?_
    exact sxq_doneP (none, (0, ([] : List (Option Addr × Nat)))) (.inl rfl) (resL (rs := [.cell 2 24, .tmp 3]) rfl (.cell (i := 0) rfl tf24 rfl rfl (by simp) rfl (.tmp rfl ResOk.nil)) rfl) (fun h => by subst h; rfl) (fun h => by subst h; exact (.cons 0 rfl .nil))
  · refine sxc_skip ?_
    refine sxq_next ?_
    refine sxc_seq ?_
    refine sxb_draw mixed [] [⟨g4, 24, [.slice a2 x1.length c3.1]⟩] [SlN eN25 iN25 1 (.slice a2 x1.length c3.1) x1 c3.2] (.cons 1 rfl .nil) (gk_F 0 rfl gk_nil) 10 rfl ?_
    refine sxb_takeP 0 (.pointer (some ⟨g4, 0, none⟩)) rfl rfl rfl rfl (by kernel_rfl) (by kernel_rfl) (by kernel_rfl) (by kernel_rfl) (by kernel_rfl) rfl (show _ = #[true, false, false, false, false, false, false, false, false, false] from rfl) (yv_fieldAddr rfl ff24_0) ?_
    refine sxb_takeB 1 (.slice a2 x1.length c3.1) rfl rfl rfl rfl (by kernel_rfl) (by kernel_rfl) (by kernel_rfl) (by kernel_rfl) (by kernel_rfl) rfl (show _ = #[true, true, false, false, false, false, false, false, false, false] from rfl) (yv_loadB (i := 0) rfl tf22 rfl rfl (fun _ => rfl) rfl) ?_
    refine sxb_takeP 2 (.int .i64 (x1.length : Int)) rfl rfl rfl rfl (by kernel_rfl) (by kernel_rfl) (by kernel_rfl) (by kernel_rfl) (by kernel_rfl) rfl (show _ = #[true, true, true, false, false, false, false, false, false, false] from rfl) (yv_len Try.underlying22 rfl) ?_
    refine sxb_takeB 3 (.agg #[.slice a2 x1.length c3.1]) rfl rfl rfl rfl (by kernel_rfl) (by kernel_rfl) (by kernel_rfl) (by kernel_rfl) (by kernel_rfl) rfl (show _ = #[true, true, true, true, false, false, false, false, false, false] from rfl) (yv_loadB (i := 0) rfl tf24 rfl rfl (by simp) rfl) ?_
    refine sxb_step 4 rfl (by kernel_rfl) (show _ = #[true, true, true, true, true, false, false, false, false, false] from rfl) ?_
    refine sxo_callM ent47 rfl rfl rfl (fun x20 e20 => C_graph_turned F x1 a2 c3 x20 e20) .nil .nil (.consF 0 rfl .nil) (fun x20 e20 => ?_)
    rintro ⟨a21, c22⟩
    refine sxo_nil ?_
    refine sxq_anyB (.cons 1 rfl .nil) (gk_F 0 rfl gk_nil) ?_
    refine sxb_step 5 rfl (by kernel_rfl) (show _ = #[true, true, true, true, true, true, false, false, false, false] from rfl) ?_
    refine sxo_callM ent46 rfl rfl rfl (fun x23 e23 => C_slices_Values_api_Arc_api_Arc F x20 a21 c22 x23 e23) .nil .nil (.consR 0 (Ro eS48 48 2 (.slice a21 x20.length c22) x20) rfl .nil) (fun x23 e23 => ?_)
    rintro g24
    refine sxo_nil ?_
    refine sxq_anyB (.cons 2 rfl .nil) (gk_F 0 rfl gk_nil) ?_
    refine sxb_step 6 rfl (by kernel_rfl) (show _ = #[true, true, true, true, true, true, true, false, false, false] from rfl) ?_
    refine sxo_callM ent45 rfl rfl rfl (fun x25 e25 => C_slices_SortedFunc_api_Arc_slices_Values_api_Arc_api_Arc_1_graph_order F g24 x20 a21 c22 x25 e25) (.cons 0 rfl .nil) .nil (.consR 0 (Ro eS48 48 2 (.slice a21 x20.length c22) x20) rfl .nil) (fun x25 e25 => ?_)
    rintro ⟨a26, c27⟩
    refine sxo_nil ?_
    refine sxq_anyB (.cons 2 rfl .nil) (gk_F 0 rfl gk_nil) ?_
    refine sxb_step 7 rfl (by kernel_rfl) (show _ = #[true, true, true, true, true, true, true, true, false, false] from rfl) ?_
    refine sxo_call ent44 rfl rfl rfl (fun x28 e28 => C_graph_Built F (x1.length : Int) x25 a26 c27 x28 e28) (.consR 0 (Ro eS48 48 2 (.slice a26 x25.length c27) x25) rfl .nil) (fun x28 e28 => ?_)
    rintro ⟨a29, c30⟩
    refine sxo_nil ?_
    refine sxq_anyB (.cons 2 rfl .nil) (gk_F 0 rfl gk_nil) ?_
    refine sxb_step 8 rfl (by kernel_rfl) (show _ = #[true, true, true, true, true, true, true, true, true, false] from rfl) ?_
    refine sxo_storeB (i := 1) rfl rfl rfl tf24 rfl rfl rfl rfl rfl ?_
    refine sxo_nil ?_
    refine sxq_anyB (.cons 2 rfl .nil) (gk_F 0 rfl gk_nil) ?_
    refine sxb_takeP 9 (.int .i64 0) rfl rfl rfl rfl (by kernel_rfl) (by kernel_rfl) (by kernel_rfl) (by kernel_rfl) (by kernel_rfl) rfl (show _ = #[true, true, true, true, true, true, true, true, true, true] from rfl) (yv_pv rfl) ?_
    refine sxb_done (by kernel_rfl) ?_
    refine sxq_np ?_ (by intro c h; cases h)
    refine sxq_next ?_
    refine sxc_ret ?_
    exact sxq_doneP (a29, c30) (.inl rfl) (resL (rs := [.cell 2 24, .tmp 3]) rfl (.cell (i := 1) rfl tf24 rfl rfl (by simp) rfl (.tmp rfl ResOk.nil)) rfl) (fun h => by subst h; rfl) (fun h => by subst h; exact (.cons 0 rfl .nil))

theorem C_slices_AppendSeq_api_Arc_api_Arc_graph_All_1 (F : Nat) (x1 : List (Int × Int)) (a2 : Option Addr) (c3 : Nat) (g4 : Nat) (x5 : List (List Int)) (a6 : Option Addr) (c7 : (Nat × List (Option Addr × Nat))) (r : List (Int × Int)) (hm : M_slices_AppendSeq_api_Arc_api_Arc_graph_All_1 F x1 x5 = some r) :
    PureM Try.prog 75 [.slice a2 x1.length c3, .func (.func 65) #[] #[.pointer (some ⟨g4, 0, none⟩)]] [⟨g4, 24, [.slice a6 x5.length c7.1]⟩] [Ro eS48 48 2 (.slice a2 x1.length c3) x1] [SlN eN25 iN25 1 (.slice a6 x5.length c7.1) x5 c7.2] (Option Addr × Nat) (fun g => .slice g.1 r.length g.2) (fun _ => [⟨g4, 24, [.slice a6 x5.length c7.1]⟩]) (fun g => [Ro eS48 48 2 (.slice g.1 r.length g.2) r]) := by
  refine pureX_of Try.func75 rfl Try.ntmps75 rfl hm (fun w => ?_)
  refine sxc_env (l' := [(0, .slice a2 x1.length c3), (1, .func (.func 65) #[] #[.pointer (some ⟨g4, 0, none⟩)])]) rfl ?_
  refine sxc_seq ?_
  refine sxc_region ?_
  refine sxo_box rfl rfl rfl (fun g8 => ?_)
  refine sxo_assign rfl rfl rfl ?_
  refine sxo_nil ?_
  refine sxq_next ?_
  refine sxc_seq ?_
  refine sxc_seq ?_
  refine sxc_region ?_
  refine sxo_move rfl rfl rfl ?_
  refine sxo_nil ?_
  refine sxq_next ?_
  refine sxc_block ?_
  refine sxc_range (encs := (fun (p : (Int × Int)) => [.agg #[.int .i64 p.1, .int .i64 p.2]])) (y := (fun (x46 : List (Int × Int)) ((x55, x56) : (Int × Int)) => M_slices_AppendSeq_api_Arc_api_Arc_graph_All_1_r2 F x46 x55 x56)) (lb := [.pointer (some ⟨g4, 0, none⟩)]) (fun (x46 : List (Int × Int)) ((a44, c45) : (Option Addr × Nat)) => [⟨g8, 51, [.slice a44 x46.length c45]⟩]) (fun (x46 : List (Int × Int)) ((a44, c45) : (Option Addr × Nat)) => [Ro eS48 48 2 (.slice a44 x46.length c45) x46]) (fun (_ : Empty) (_ : Unit) => []) (fun (_ : Empty) (_ : Unit) => []) (fun _ => .skip) x1 (a2, c3) rfl ent65 (fun _ => rfl) rfl (.cons 1 rfl .nil) (.cons 0 rfl .nil) (.cons 0 rfl .nil) (.consF 0 rfl .nil) (fun z hz _ _ _ hY => C_graph_All_1 F hY x1 (a2, c3) g4 x5 a6 c7 z hz) ?_ ?_ ?_
  · rintro rc1 L1 D1 x46 ⟨a44, c45⟩ ⟨x55, x56⟩ z w M _
    try dsimp only
    refine sxc_less [(0, .slice a2 x1.length c3), (1, .func (.func 65) #[] #[.pointer (some ⟨g4, 0, none⟩)]), (2, .pointer (some ⟨g8, 0, none⟩)), (4, .slice none 0 0), (6, .func (.func 65) #[] #[.pointer (some ⟨g4, 0, none⟩)]), (7, .agg #[.int .i64 x55, .int .i64 x56])] (lk_cons rfl (lk_cons rfl (lk_cons rfl (lk_cons rfl (lk_cons rfl (lk_cons rfl lk_nil)))))) ?_
    refine sxc_region ?_
    refine sxo_alloc rfl tf48 rfl (fun g57 => ?_)
    refine sxo_storeB (i := 0) rfl rfl rfl tf48 rfl rfl rfl rfl rfl ?_
    refine sxo_nil ?_
    refine sxq_begin (i := 2) rfl ?_
    refine sxc_block ?_
    refine sxc_region ?_
    refine sxo_loadB (i := 1) rfl rfl tf51 rfl rfl (fun _ => rfl) rfl rfl ?_
    refine sxo_loadB (i := 0) rfl rfl tf48 rfl rfl (by simp) rfl rfl ?_
    refine sxo_slit (vs := [.agg #[.int .i64 x55, .int .i64 x56]]) (ys := ([(x55, x56)] : List (Int × Int))) eS48_ok (by decide) rfl Try.underlying51 tf48 rfl rfl rfl rfl rfl (by decide) (fun a58 c59 => ?_)
    refine sxo_app 1 eS48_ok rfl Try.underlying51 tf48 rfl rfl rfl rfl rfl (.inl ⟨0, _, rfl⟩) rfl rfl (fun x60 e60 a61 c62 => ?_)
    refine sxo_storeB (i := 1) rfl rfl rfl tf51 rfl rfl rfl rfl rfl ?_
    refine sxo_nil ?_
    refine sxq_blkN ?_
    exact sxq_round (rc := rc1) rfl (.cons 2 rfl .nil) rfl (a61, c62) (.cons 2 rfl (.cons 0 rfl (.cons 1 rfl .nil))) (.cons 0 rfl .nil)
  · rintro x46 _ ⟨a44, c45⟩ D1
    try dsimp only
    refine sxq_blkN ?_
    refine sxq_next ?_
    refine sxc_seq ?_
    refine sxc_region ?_
    refine sxo_loadB (i := 2) rfl rfl tf51 rfl rfl (fun _ => rfl) rfl rfl ?_
    refine sxo_assign rfl rfl rfl ?_
    refine sxo_nil ?_
    refine sxq_next ?_
    refine sxc_ret ?_
    exact sxq_doneX [D1] (a44, c45) (.inl rfl) rfl (.cons 0 rfl .nil) (res1 rfl rfl) (fun h => by subst h; rfl) (fun h => by subst h; exact (.cons 0 rfl .nil)) (fun h => by subst h; exact (.cons 0 rfl .nil))
  · intro t; exact t.elim

theorem C_slices_Collect_api_Arc_graph_All_1 (F : Nat) (g1 : Nat) (x2 : List (List Int)) (a3 : Option Addr) (c4 : (Nat × List (Option Addr × Nat))) (r : List (Int × Int)) (hm : M_slices_Collect_api_Arc_graph_All_1 F x2 = some r) :
    PureM Try.prog 55 [.func (.func 65) #[] #[.pointer (some ⟨g1, 0, none⟩)]] [⟨g1, 24, [.slice a3 x2.length c4.1]⟩] [] [SlN eN25 iN25 1 (.slice a3 x2.length c4.1) x2 c4.2] (Option Addr × Nat) (fun g => .slice g.1 r.length g.2) (fun _ => [⟨g1, 24, [.slice a3 x2.length c4.1]⟩]) (fun g => [Ro eS48 48 2 (.slice g.1 r.length g.2) r]) := by
  refine pureM_of Try.func55 rfl Try.ntmps55 rfl hm (fun w => ?_)
  refine sxc_env (l' := [(0, .func (.func 65) #[] #[.pointer (some ⟨g1, 0, none⟩)])]) rfl ?_
  refine sxc_seq ?_
  refine sxc_region ?_
  refine sxo_assign rfl rfl rfl ?_
  refine sxo_nil ?_
  refine sxq_next ?_
  refine sxc_seq ?_
  refine sxc_region ?_
  refine sxo_move rfl rfl rfl ?_
  refine sxo_nilrow' (Int × Int) eS48 48 2 ?_
  refine sxo_callM ent75 rfl rfl rfl (fun x5 e5 => C_slices_AppendSeq_api_Arc_api_Arc_graph_All_1 F ([] : List (Int × Int)) none 0 g1 x2 a3 c4 x5 e5) (.cons 0 rfl .nil) (.cons 0 rfl .nil) (.consF 0 rfl .nil) (fun x5 e5 => ?_)
  rintro ⟨a6, c7⟩
  refine sxo_assign rfl rfl rfl ?_
  refine sxo_nil ?_
  refine sxq_next ?_
  refine sxc_ret ?_
  exact sxq_doneM (a6, c7) (.inl rfl) (res1 rfl rfl) (fun h => by subst h; rfl) (fun h => by subst h; exact (.cons 0 rfl .nil)) (fun h => by subst h; exact (.cons 0 rfl .nil))

theorem C_graph_Arcs (F : Nat) (x1 : List (List Int)) (a2 : Option Addr) (c3 : (Nat × List (Option Addr × Nat))) (r : (List (Int × Int) × Int)) (hm : M_graph_Arcs F x1 = some r) :
    Pure Try.prog 28 [.agg #[.slice a2 x1.length c3.1]] [SlN eN25 iN25 1 (.slice a2 x1.length c3.1) x1 c3.2] (Option Addr × Nat) (fun g => .tuple #[.slice g.1 r.1.length g.2, .int .i64 r.2]) (fun g => [Ro eS48 48 2 (.slice g.1 r.1.length g.2) r.1]) (fun _ => []) := by
  refine pure_of Try.func28 rfl Try.ntmps28 rfl hm (fun w => ?_)
  refine sxc_env (l' := [(0, .agg #[.slice a2 x1.length c3.1])]) rfl ?_
  refine sxc_seq ?_
  refine sxc_region ?_
  refine sxo_box rfl rfl rfl (fun g4 => ?_)
  refine sxo_assign rfl rfl rfl ?_
  refine sxo_assign rfl rfl rfl ?_
  refine sxo_nil ?_
  refine sxq_next ?_
  refine sxc_seq ?_
  refine sxc_seq ?_
  refine sxc_region ?_
  refine sxo_loadB (i := 0) rfl rfl tf24 rfl rfl (by simp) rfl rfl ?_
  refine sxo_call ent31 rfl rfl rfl (fun x7 e7 => C_graph_Check F x1 a2 c3 x7 e7) (.consF 0 rfl .nil) (fun x7 e7 => ?_)
  intro _
  refine sxo_assign rfl rfl rfl ?_
  refine sxo_nil ?_
  refine sxq_next ?_
  refine sxc_seq ?_
  refine sxc_region ?_
  refine sxo_move rfl rfl rfl ?_
  refine sxo_neq rfl rfl rfl rfl ?_
  refine sxo_nil ?_
  refine sxq_next ?_
  refine sxc_if rfl (fun h13 => ?_) (fun h13 => ?_)
  · refine sxc_seq ?_
    refine sxc_region ?_
    refine sxo_move rfl rfl rfl ?_
    refine sxo_assign rfl rfl rfl ?_
    refine sxo_assign rfl rfl rfl ?_
    refine sxo_nil ?_
    refine sxq_next ?_
    refine sxc_ret ?_
    refine sxq_thenR ?_
    refine sxq_nilrow (Int × Int) eS48 48 2 ?_
    exact sxq_doneP (none, 0) (.inl rfl) (res2 rfl rfl rfl) (fun h => by subst h; rfl) (fun h => by subst h; exact (.cons 0 rfl .nil))
  · refine sxc_skip ?_
    refine sxq_next ?_
    refine sxc_seq ?_
    refine sxc_region ?_
    refine sxo_loadB (i := 0) rfl rfl tf24 rfl rfl (by simp) rfl rfl ?_
    refine sxo_callM ent39 rfl rfl rfl (fun x8 e8 => C_graph_All F x1 a2 c3 x8 e8) .nil .nil (.consF 0 rfl .nil) (fun x8 e8 => ?_)
    rintro g9
    refine sxo_callM ent55 rfl rfl rfl (fun x10 e10 => C_slices_Collect_api_Arc_graph_All_1 F g9 x1 a2 c3 x10 e10) (.cons 0 rfl .nil) .nil (.consF 0 rfl .nil) (fun x10 e10 => ?_)
    rintro ⟨a11, c12⟩
    refine sxo_assign rfl rfl rfl ?_
    refine sxo_assign rfl rfl rfl ?_
    refine sxo_nil ?_
    refine sxq_next ?_
    refine sxc_ret ?_
    exact sxq_doneP (a11, c12) (.inl rfl) (res2 rfl rfl rfl) (fun h => by subst h; rfl) (fun h => by subst h; exact (.cons 0 rfl .nil))

set_option maxHeartbeats 4000000 in
theorem C_slices_Compact_api_Arc_api_Arc (F : Nat) (x1 : List (Int × Int)) (a2 : Option Addr) (c3 : Nat) (r : List (Int × Int)) (hm : M_slices_Compact_api_Arc_api_Arc F x1 = some r) :
    PureM Try.prog 70 [.slice a2 x1.length c3] [] [Ro eS48 48 2 (.slice a2 x1.length c3) x1] [] (Option Addr × Nat) (fun g => .slice g.1 r.length g.2) (fun _ => []) (fun g => [Ro eS48 48 2 (.slice g.1 r.length g.2) r]) := by
  refine pureM_of Try.func70 rfl Try.ntmps70 rfl hm (fun w => ?_)
  refine sxc_env (l' := [(0, .slice a2 x1.length c3)]) rfl ?_
  refine sxc_seq ?_
  refine sxc_region ?_
  refine sxo_assign rfl rfl rfl ?_
  refine sxo_nil ?_
  refine sxq_next ?_
  refine sxc_seq ?_
  refine sxc_seq ?_
  refine sxc_region ?_
  refine sxo_move rfl rfl rfl ?_
  refine sxo_len rfl Try.underlying51 rfl rfl ?_
  refine sxo_lss rfl rfl rfl rfl ?_
  refine sxo_nil ?_
  refine sxq_next ?_
  refine sxc_if rfl (fun h2961 => ?_) (fun h2961 => ?_)
  · refine sxc_seq ?_
    refine sxc_region ?_
    refine sxo_move rfl rfl rfl ?_
    refine sxo_assign rfl rfl rfl ?_
    refine sxo_nil ?_
    refine sxq_next ?_
    refine sxc_ret ?_
    refine sxq_thenR ?_
    exact sxq_doneM (a2, c3) (.inl rfl) (res1 rfl rfl) (fun h => by subst h; rfl) (fun h => by subst h; exact .nil) (fun h => by subst h; exact (.cons 0 rfl .nil))
  · refine sxc_skip ?_
    refine sxq_next ?_
    refine sxc_join (fun ((_, _) : (Unit × Unit)) => [(0, .slice a2 x1.length c3)]) (fun ((_, _) : (Unit × Unit)) => []) (fun ((_, _) : (Unit × Unit)) => [Ro eS48 48 2 (.slice a2 x1.length c3) x1]) (fun ((_, _) : (Unit × Unit)) => []) (fun ((_, _) : (Unit × Unit)) => M_slices_Compact_api_Arc_api_Arc_j59 F x1) ?_ ?_
    · refine sxc_seq ?_
      refine sxc_region ?_
      refine sxo_assign rfl rfl rfl ?_
      refine sxo_nil ?_
      refine sxq_next ?_
      refine sxc_block ?_
      refine sxc_loopP (fun ((x1975, _) : (Int × Unit)) => [(0, .slice a2 x1.length c3), (3, .int .i64 x1975)]) (fun ((x1975, _) : (Int × Unit)) => []) (fun ((x1975, _) : (Int × Unit)) => [Ro eS48 48 2 (.slice a2 x1.length c3) x1]) (fun ((x1975, _) : (Int × Unit)) => []) (fun k (s : (Int × Unit)) => M_slices_Compact_api_Arc_api_Arc_l98 F x1 k s.1) (1, ()) F (lk_cons rfl (lk_cons rfl lk_nil)) .nil (.cons 0 rfl .nil) fk_nil (fun _ => rfl) ?_
      intro k2468
      rintro ⟨x1975, _⟩
      try dsimp only
      refine sxc_meq (m' := M_slices_Compact_api_Arc_api_Arc_b98 F x1 (M_slices_Compact_api_Arc_api_Arc_l98 F x1 k2468) x1975) rfl ?_
      refine sxc_seq ?_
      refine sxc_seq ?_
      refine sxc_region ?_
      refine sxo_move rfl rfl rfl ?_
      refine sxo_move rfl rfl rfl ?_
      refine sxo_len rfl Try.underlying51 rfl rfl ?_
      refine sxo_lss rfl rfl rfl rfl ?_
      refine sxo_nil ?_
      refine sxq_next ?_
      refine sxc_if rfl (fun h2960 => ?_) (fun h2960 => ?_)
      · refine sxc_skip ?_
        refine sxq_next ?_
        refine sxc_join (fun ((_, _) : (Unit × Unit)) => [(0, .slice a2 x1.length c3), (3, .int .i64 x1975)]) (fun ((_, _) : (Unit × Unit)) => []) (fun ((_, _) : (Unit × Unit)) => [Ro eS48 48 2 (.slice a2 x1.length c3) x1]) (fun ((_, _) : (Unit × Unit)) => []) (fun ((_, _) : (Unit × Unit)) => M_slices_Compact_api_Arc_api_Arc_j108 F (M_slices_Compact_api_Arc_api_Arc_l98 F x1 k2468) x1975) ?_ ?_
        · refine sxc_block ?_
          refine sxc_seq ?_
          refine sxc_idxO (j := 0) rfl (fun x2723 e2723 g2724 h2725 => ?_)
          replace h2725 : a2 = some ⟨g2724, 0, none⟩ := h2725
          have h2726 := own_of (k := x1.length) (c := c3) h2725
          refine sxc_idxO (j := 0) rfl (fun x2727 e2727 g2728 h2729 => ?_)
          replace h2729 : a2 = some ⟨g2728, 0, none⟩ := h2729
          have h2730 := own_of (k := x1.length) (c := c3) h2729
          refine sxb_draw mixed [] [] [CellsAt g2724 (x1975.toNat * 2) (eS48 x2723), CellsAt g2728 ((isub .i64 x1975 1).toNat * 2) (eS48 x2727)] .nil (gk_R 0 rfl (at_row eS48_ok e2723 h2725) (gk_R 0 rfl (at_row eS48_ok e2727 h2729) gk_nil)) 10 rfl ?_
          refine sxb_takeP 0 (.slice a2 x1.length c3) rfl rfl rfl rfl (by kernel_rfl) (by kernel_rfl) (by kernel_rfl) (by kernel_rfl) (by kernel_rfl) rfl (show _ = #[true, false, false, false, false, false, false, false, false, false] from rfl) (yv_pv rfl) ?_
          refine sxb_takeP 1 (.int .i64 x1975) rfl rfl rfl rfl (by kernel_rfl) (by kernel_rfl) (by kernel_rfl) (by kernel_rfl) (by kernel_rfl) rfl (show _ = #[true, true, false, false, false, false, false, false, false, false] from rfl) (yv_pv rfl) ?_
          refine sxb_again (d := 16) (v := .slice (some ⟨g2724, 0, none⟩) x1.length c3) rfl (by rw [h2725] <;> rfl) ?_
          refine sxb_takeP 2 (.pointer (some ⟨g2724, x1975.toNat * 2, none⟩)) rfl rfl rfl rfl (by kernel_rfl) (by kernel_rfl) (by kernel_rfl) (by kernel_rfl) (by kernel_rfl) rfl (show _ = #[true, true, true, false, false, false, false, false, false, false] from rfl) (yv_idxO Try.underlying51 tf48 rfl rfl (idx_get e2723).1 (idx_lt e2723)) ?_
          refine sxb_again (d := 16) (v := .slice a2 x1.length c3) rfl (by rw [h2725] <;> rfl) ?_
          refine sxb_take 3 (.agg #[.int .i64 x2723.1, .int .i64 x2723.2]) [] rfl rfl rfl rfl (by kernel_rfl) (by kernel_rfl) (by kernel_rfl) (by kernel_rfl) (by kernel_rfl) (by kernel_rfl) rfl (show _ = #[true, true, true, true, false, false, false, false, false, false] from rfl) (yv_loadF (j := 0) rfl tf48 rfl rfl (by simp) rfl) ?_
          refine sxb_takeP 4 (.slice a2 x1.length c3) rfl rfl rfl rfl (by kernel_rfl) (by kernel_rfl) (by kernel_rfl) (by kernel_rfl) (by kernel_rfl) rfl (show _ = #[true, true, true, true, true, false, false, false, false, false] from rfl) (yv_pv rfl) ?_
          refine sxb_takeP 5 (.int .i64 x1975) rfl rfl rfl rfl (by kernel_rfl) (by kernel_rfl) (by kernel_rfl) (by kernel_rfl) (by kernel_rfl) rfl (show _ = #[true, true, true, true, true, true, false, false, false, false] from rfl) (yv_pv rfl) ?_
          refine sxb_takeP 6 (.int .i64 (isub .i64 x1975 1)) rfl rfl rfl rfl (by kernel_rfl) (by kernel_rfl) (by kernel_rfl) (by kernel_rfl) (by kernel_rfl) rfl (show _ = #[true, true, true, true, true, true, true, false, false, false] from rfl) (yv_pv rfl) ?_
          refine sxb_again (d := 20) (v := .slice (some ⟨g2728, 0, none⟩) x1.length c3) rfl (by rw [h2729] <;> rfl) ?_
          refine sxb_takeP 7 (.pointer (some ⟨g2728, (isub .i64 x1975 1).toNat * 2, none⟩)) rfl rfl rfl rfl (by kernel_rfl) (by kernel_rfl) (by kernel_rfl) (by kernel_rfl) (by kernel_rfl) rfl (show _ = #[true, true, true, true, true, true, true, true, false, false] from rfl) (yv_idxO Try.underlying51 tf48 rfl rfl (idx_get e2727).1 (idx_lt e2727)) ?_
          refine sxb_again (d := 20) (v := .slice a2 x1.length c3) rfl (by rw [h2729] <;> rfl) ?_
          refine sxb_take 8 (.agg #[.int .i64 x2727.1, .int .i64 x2727.2]) [] rfl rfl rfl rfl (by kernel_rfl) (by kernel_rfl) (by kernel_rfl) (by kernel_rfl) (by kernel_rfl) (by kernel_rfl) rfl (show _ = #[true, true, true, true, true, true, true, true, true, false] from rfl) (yv_loadF (j := 1) rfl tf48 rfl rfl (by simp) rfl) ?_
          refine sxb_takeP 9 (.bool (((x2723.1 : Int) == x2727.1) && ((x2723.2 : Int) == x2727.2))) rfl rfl rfl rfl (by kernel_rfl) (by kernel_rfl) (by kernel_rfl) (by kernel_rfl) (by kernel_rfl) rfl (show _ = #[true, true, true, true, true, true, true, true, true, true] from rfl) (yv_eql2 rfl rfl se48) ?_
          refine sxb_done (by kernel_rfl) ?_
          refine sxq_np ?_ (by intro c h; cases h)
          refine sxq_next ?_
          refine sxc_if rfl (fun h2959 => ?_) (fun h2959 => ?_)
          · refine sxc_seq ?_
            refine sxc_region ?_
            refine sxo_move rfl rfl rfl ?_
            refine sxo_move rfl rfl rfl ?_
            refine sxo_cutW (j := 0) rfl Try.underlying51 tf48 rfl rfl rfl rfl (fun h2731 g2732 h2733 => ?_)
            refine sxo_assign rfl rfl rfl ?_
            refine sxo_nil ?_
            refine sxq_next ?_
            refine sxc_join (fun (((x2842, x2843), _) : ((List (Int × Int) × Int) × Unit)) => [(0, .slice a2 x2842.length c3), (3, .int .i64 x2843)]) (fun (((x2842, x2843), _) : ((List (Int × Int) × Int) × Unit)) => []) (fun (((x2842, x2843), _) : ((List (Int × Int) × Int) × Unit)) => [Ro eS48 48 2 (.slice a2 x2842.length c3) x2842]) (fun (((x2842, x2843), _) : ((List (Int × Int) × Int) × Unit)) => []) (fun (((x2842, x2843), _) : ((List (Int × Int) × Int) × Unit)) => M_slices_Compact_api_Arc_api_Arc_j113 F x2842 x2843) ?_ ?_
            · refine sxc_seq ?_
              refine sxc_region ?_
              refine sxo_assign rfl rfl rfl ?_
              refine sxo_nil ?_
              refine sxq_next ?_
              refine sxc_block ?_
              refine sxc_loopP (fun (((x2879, x2880, x2881), _) : ((List (Int × Int) × Int × Int) × Unit)) => [(0, .slice a2 x2879.length c3), (3, .int .i64 x2880), (4, .slice (some ⟨g2732, x1975.toNat * 2, none⟩) (x1.length - x1975.toNat) (c3 - x1975.toNat)), (5, .int .i64 x2881)]) (fun (((x2879, x2880, x2881), _) : ((List (Int × Int) × Int × Int) × Unit)) => []) (fun (((x2879, x2880, x2881), _) : ((List (Int × Int) × Int × Int) × Unit)) => [Ro eS48 48 2 (.slice a2 x2879.length c3) x2879]) (fun (((x2879, x2880, x2881), _) : ((List (Int × Int) × Int × Int) × Unit)) => []) (fun k (s : ((List (Int × Int) × Int × Int) × Unit)) => M_slices_Compact_api_Arc_api_Arc_l116 F x1 x1975 k s.1) ((x1, x1975, 1), ()) F (lk_cons rfl (lk_cons rfl (lk_cons rfl (lk_cons rfl lk_nil)))) .nil (.cons 0 rfl .nil) fk_nil (fun _ => rfl) ?_
              intro k2920
              rintro ⟨⟨x2879, x2880, x2881⟩, _⟩
              try dsimp only
              refine sxc_meq (m' := M_slices_Compact_api_Arc_api_Arc_b116 F x1 x1975 (M_slices_Compact_api_Arc_api_Arc_l116 F x1 x1975 k2920) x2879 x2880 x2881) rfl ?_
              refine sxc_seq ?_
              refine sxc_seq ?_
              refine sxc_region ?_
              refine sxo_move rfl rfl rfl ?_
              refine sxo_move rfl rfl rfl ?_
              refine sxo_len rfl Try.underlying51 rfl rfl ?_
              refine sxo_lss rfl rfl rfl rfl ?_
              refine sxo_nil ?_
              refine sxq_next ?_
              refine sxc_if rfl (fun h2958 => ?_) (fun h2958 => ?_)
              · refine sxc_skip ?_
                refine sxq_next ?_
                refine sxc_join (fun (((x2939, x2940), _) : ((List (Int × Int) × Int) × Unit)) => [(0, .slice a2 x2939.length c3), (3, .int .i64 x2940), (4, .slice (some ⟨g2732, x1975.toNat * 2, none⟩) (x1.length - x1975.toNat) (c3 - x1975.toNat)), (5, .int .i64 x2881)]) (fun (((x2939, x2940), _) : ((List (Int × Int) × Int) × Unit)) => []) (fun (((x2939, x2940), _) : ((List (Int × Int) × Int) × Unit)) => [Ro eS48 48 2 (.slice a2 x2939.length c3) x2939]) (fun (((x2939, x2940), _) : ((List (Int × Int) × Int) × Unit)) => []) (fun (((x2939, x2940), _) : ((List (Int × Int) × Int) × Unit)) => M_slices_Compact_api_Arc_api_Arc_j117 F (M_slices_Compact_api_Arc_api_Arc_l116 F x1 x1975 k2920) x2881 x2939 x2940) ?_ ?_
                · refine sxc_block ?_
                  refine sxc_seq ?_
                  refine sxc_chk (fun h2945 => ?_)
                  replace h2945 := of_decide_eq_true h2945
                  refine sxc_bind (fun x2946 e2946 => ?_)
                  refine sxc_chk (fun h2947 => ?_)
                  replace h2947 := of_decide_eq_true h2947
                  refine sxc_bind (fun x2948 e2948 => ?_)
                  refine sxb_draw mixed [] [] [CellsAt g2732 (x1975.toNat * 2 + x2881.toNat * 2) (eS48 x2946), CellsAt g2732 (x1975.toNat * 2 + (isub .i64 x2881 1).toNat * 2) (eS48 x2948)] .nil (gk_R 0 rfl (at_rowW eS48_ok e2946 h2733) (gk_R 0 rfl (at_rowW eS48_ok e2948 h2733) gk_nil)) 10 rfl ?_
                  refine sxb_takeP 0 (.slice (some ⟨g2732, x1975.toNat * 2, none⟩) (x1.length - x1975.toNat) (c3 - x1975.toNat)) rfl rfl rfl rfl (by kernel_rfl) (by kernel_rfl) (by kernel_rfl) (by kernel_rfl) (by kernel_rfl) rfl (show _ = #[true, false, false, false, false, false, false, false, false, false] from rfl) (yv_pv rfl) ?_
                  refine sxb_takeP 1 (.int .i64 x2881) rfl rfl rfl rfl (by kernel_rfl) (by kernel_rfl) (by kernel_rfl) (by kernel_rfl) (by kernel_rfl) rfl (show _ = #[true, true, false, false, false, false, false, false, false, false] from rfl) (yv_pv rfl) ?_
                  refine sxb_takeP 2 (.pointer (some ⟨g2732, x1975.toNat * 2 + x2881.toNat * 2, none⟩)) rfl rfl rfl rfl (by kernel_rfl) (by kernel_rfl) (by kernel_rfl) (by kernel_rfl) (by kernel_rfl) rfl (show _ = #[true, true, true, false, false, false, false, false, false, false] from rfl) (yv_idx Try.underlying51 tf48 rfl rfl (win_lt h2945 e2946).1 (win_lt h2945 e2946).2) ?_
                  refine sxb_take 3 (.agg #[.int .i64 x2946.1, .int .i64 x2946.2]) [] rfl rfl rfl rfl (by kernel_rfl) (by kernel_rfl) (by kernel_rfl) (by kernel_rfl) (by kernel_rfl) (by kernel_rfl) rfl (show _ = #[true, true, true, true, false, false, false, false, false, false] from rfl) (yv_loadF (j := 0) rfl tf48 rfl rfl (by simp) rfl) ?_
                  refine sxb_takeP 4 (.slice (some ⟨g2732, x1975.toNat * 2, none⟩) (x1.length - x1975.toNat) (c3 - x1975.toNat)) rfl rfl rfl rfl (by kernel_rfl) (by kernel_rfl) (by kernel_rfl) (by kernel_rfl) (by kernel_rfl) rfl (show _ = #[true, true, true, true, true, false, false, false, false, false] from rfl) (yv_pv rfl) ?_
                  refine sxb_takeP 5 (.int .i64 x2881) rfl rfl rfl rfl (by kernel_rfl) (by kernel_rfl) (by kernel_rfl) (by kernel_rfl) (by kernel_rfl) rfl (show _ = #[true, true, true, true, true, true, false, false, false, false] from rfl) (yv_pv rfl) ?_
                  refine sxb_takeP 6 (.int .i64 (isub .i64 x2881 1)) rfl rfl rfl rfl (by kernel_rfl) (by kernel_rfl) (by kernel_rfl) (by kernel_rfl) (by kernel_rfl) rfl (show _ = #[true, true, true, true, true, true, true, false, false, false] from rfl) (yv_pv rfl) ?_
                  refine sxb_takeP 7 (.pointer (some ⟨g2732, x1975.toNat * 2 + (isub .i64 x2881 1).toNat * 2, none⟩)) rfl rfl rfl rfl (by kernel_rfl) (by kernel_rfl) (by kernel_rfl) (by kernel_rfl) (by kernel_rfl) rfl (show _ = #[true, true, true, true, true, true, true, true, false, false] from rfl) (yv_idx Try.underlying51 tf48 rfl rfl (win_lt h2947 e2948).1 (win_lt h2947 e2948).2) ?_
                  refine sxb_take 8 (.agg #[.int .i64 x2948.1, .int .i64 x2948.2]) [] rfl rfl rfl rfl (by kernel_rfl) (by kernel_rfl) (by kernel_rfl) (by kernel_rfl) (by kernel_rfl) (by kernel_rfl) rfl (show _ = #[true, true, true, true, true, true, true, true, true, false] from rfl) (yv_loadF (j := 1) rfl tf48 rfl rfl (by simp) rfl) ?_
                  refine sxb_takeP 9 (.bool (!(((x2946.1 : Int) == x2948.1) && ((x2946.2 : Int) == x2948.2)))) rfl rfl rfl rfl (by kernel_rfl) (by kernel_rfl) (by kernel_rfl) (by kernel_rfl) (by kernel_rfl) rfl (show _ = #[true, true, true, true, true, true, true, true, true, true] from rfl) (yv_neq2 rfl rfl se48) ?_
                  refine sxb_done (by kernel_rfl) ?_
                  refine sxq_np ?_ (by intro c h; cases h)
                  refine sxq_next ?_
                  refine sxc_if rfl (fun h2957 => ?_) (fun h2957 => ?_)
                  · refine sxc_seq ?_
                    refine sxc_region ?_
                    refine sxo_move rfl rfl rfl ?_
                    refine sxo_move rfl rfl rfl ?_
                    refine sxo_move rfl rfl rfl ?_
                    refine sxo_move rfl rfl rfl ?_
                    refine sxo_chk (fun h2949 => ?_)
                    replace h2949 := of_decide_eq_true h2949
                    refine sxo_indexW (xs := x2879) h2949 rfl Try.underlying51 tf48 rfl rfl rfl (fun x2950 e2950 => ?_)
                    refine sxo_loadW (j := 0) eS48_ok rfl rfl tf48 rfl h2733 e2950 (by simp) rfl rfl ?_
                    refine sxo_indexR (j := 0) rfl Try.underlying51 tf48 rfl rfl rfl rfl (fun x2951 e2951 g2952 h2953 => ?_)
                    refine sxo_storeL (j := 0) (y' := (x2950.1, x2950.2)) eS48_ok rfl rfl rfl tf48 rfl h2953 (idx_get e2951).2.1 rfl (fun x2954 e2954 h2955 => ?_)
                    have h2956 : x2954.length = x2879.length := by rw [← e2954, List.length_set]
                    refine sxo_again (d := 0) (v := .slice a2 x2954.length c3) rfl h2955 ?_
                    refine sxo_again (d := 45) (v := .slice a2 x2954.length c3) rfl h2955 ?_
                    refine sxo_nil ?_
                    refine sxq_next ?_
                    refine sxc_region ?_
                    refine sxo_move rfl rfl rfl ?_
                    refine sxo_add rfl rfl rfl rfl ?_
                    refine sxo_assign rfl rfl rfl ?_
                    refine sxo_nil ?_
                    refine sxq_blkN ?_
                    exact sxq_meetP ((x2954, iadd .i64 x2880 1), ()) (lk_cons rfl (lk_cons rfl (lk_cons rfl (lk_cons rfl lk_nil)))) .nil (.cons 0 rfl .nil) fk_nil
                  · refine sxc_skip ?_
                    refine sxq_blkN ?_
                    exact sxq_meetP ((x2879, x2880), ()) (lk_cons rfl (lk_cons rfl (lk_cons rfl (lk_cons rfl lk_nil)))) .nil (.cons 0 rfl .nil) fk_nil
                · rintro ⟨⟨x2939, x2940⟩, _⟩
                  try dsimp only
                  refine sxc_region ?_
                  refine sxo_move rfl rfl rfl ?_
                  refine sxo_add rfl rfl rfl rfl ?_
                  refine sxo_assign rfl rfl rfl ?_
                  refine sxo_nil ?_
                  exact sxq_againP ((x2939, x2940, iadd .i64 x2881 1), ()) (lk_cons rfl (lk_cons rfl (lk_cons rfl (lk_cons rfl lk_nil)))) .nil (.cons 0 rfl .nil) fk_nil
              · refine sxc_exit ?_
                refine sxq_thenX ?_
                refine sxq_thenX ?_
                refine sxq_blkX ?_
                exact sxq_meetP ((x2879, x2880), ()) (lk_cons rfl (lk_cons rfl lk_nil)) .nil (.cons 0 rfl .nil) fk_nil
            · rintro ⟨⟨x2842, x2843⟩, _⟩
              try dsimp only
              refine sxc_seq ?_
              refine sxc_region ?_
              refine sxo_move rfl rfl rfl ?_
              refine sxo_move rfl rfl rfl ?_
              refine sxo_cutW (j := 0) rfl Try.underlying51 tf48 rfl rfl rfl rfl (fun h2844 g2845 h2846 => ?_)
              refine sxo_clearW (j := 0) (zy := ((0 : Int), (0 : Int))) eS48_ok (by decide) rfl (by have := h2844; omega) rfl Try.underlying51 tf48 rfl rfl rfl h2846 (fun x2847 e2847 h2848 => ?_)
              have h2849 : x2847.length = x2842.length := by have := congrArg List.length e2847; simp only [List.length_append, List.length_take, List.length_replicate] at this; have := h2844; omega
              refine sxo_again (d := 0) (v := .slice a2 x2847.length c3) rfl (by rw [h2848] <;> rfl) ?_
              refine sxo_again (d := 54) (v := .slice a2 x2847.length c3) rfl (by rw [h2848] <;> rfl) ?_
              refine sxo_nil ?_
              refine sxq_next ?_
              refine sxc_seq ?_
              refine sxc_region ?_
              refine sxo_move rfl rfl rfl ?_
              refine sxo_move rfl rfl rfl ?_
              refine sxo_cutR (i := 0) eS48_ok rfl Try.underlying51 tf48 rfl rfl rfl rfl (fun x2850 e2850 => ?_)
              refine sxo_assign rfl rfl rfl ?_
              refine sxo_nil ?_
              refine sxq_next ?_
              refine sxc_ret ?_
              refine sxq_blkR ?_
              refine sxq_thenR ?_
              refine sxq_thenR ?_
              refine sxq_blkR ?_
              refine sxq_thenR ?_
              exact sxq_doneM (a2, c3) (.inl rfl) (res1 rfl rfl) (fun h => by subst h; rfl) (fun h => by subst h; exact .nil) (fun h => by subst h; exact (.cons 0 rfl .nil))
          · refine sxc_skip ?_
            refine sxq_blkN ?_
            exact sxq_meetP ((), ()) (lk_cons rfl (lk_cons rfl lk_nil)) .nil (.cons 0 rfl .nil) fk_nil
        · rintro ⟨_, _⟩
          try dsimp only
          refine sxc_region ?_
          refine sxo_move rfl rfl rfl ?_
          refine sxo_add rfl rfl rfl rfl ?_
          refine sxo_assign rfl rfl rfl ?_
          refine sxo_nil ?_
          exact sxq_againP (iadd .i64 x1975 1, ()) (lk_cons rfl (lk_cons rfl lk_nil)) .nil (.cons 0 rfl .nil) fk_nil
      · refine sxc_exit ?_
        refine sxq_thenX ?_
        refine sxq_thenX ?_
        refine sxq_blkX ?_
        exact sxq_meetP ((), ()) (lk_cons rfl lk_nil) .nil (.cons 0 rfl .nil) fk_nil
    · rintro ⟨_, _⟩
      try dsimp only
      refine sxc_seq ?_
      refine sxc_region ?_
      refine sxo_move rfl rfl rfl ?_
      refine sxo_assign rfl rfl rfl ?_
      refine sxo_nil ?_
      refine sxq_next ?_
      refine sxc_ret ?_
      exact sxq_doneM (a2, c3) (.inl rfl) (res1 rfl rfl) (fun h => by subst h; rfl) (fun h => by subst h; exact .nil) (fun h => by subst h; exact (.cons 0 rfl .nil))

theorem C_graph_Both (F : Nat) (x1 : List (List Int)) (a2 : Option Addr) (c3 : (Nat × List (Option Addr × Nat))) (r : (List (List Int) × Int)) (hm : M_graph_Both F x1 = some r) :
    Pure Try.prog 49 [.agg #[.slice a2 x1.length c3.1]] [SlN eN25 iN25 1 (.slice a2 x1.length c3.1) x1 c3.2] (Option Addr × (Nat × List (Option Addr × Nat))) (fun g => .tuple #[.agg #[.slice g.1 r.1.length g.2.1], .int .i64 r.2]) (fun g => [RoN eN25 rN25 25 1 (.slice g.1 r.1.length g.2.1) r.1 g.2.2 []]) (fun _ => []) := by
  refine pure_of Try.func49 rfl Try.ntmps49 rfl hm (fun w => ?_)
  refine sxc_env (l' := [(0, .agg #[.slice a2 x1.length c3.1])]) rfl ?_
  refine sxc_seq ?_
  refine sxc_region ?_
  refine sxo_box rfl rfl rfl (fun g4 => ?_)
  refine sxo_alloc rfl tf24 rfl (fun g5 => ?_)
  refine sxo_assign rfl rfl rfl ?_
  refine sxo_nil ?_
  refine sxq_next ?_
  refine sxc_seq ?_
  refine sxc_seq ?_
  refine sxc_region ?_
  refine sxo_loadB (i := 1) rfl rfl tf24 rfl rfl (by simp) rfl rfl ?_
  refine sxo_call ent31 rfl rfl rfl (fun x8 e8 => C_graph_Check F x1 a2 c3 x8 e8) (.consF 0 rfl .nil) (fun x8 e8 => ?_)
  intro _
  refine sxo_assign rfl rfl rfl ?_
  refine sxo_nil ?_
  refine sxq_next ?_
  refine sxc_seq ?_
  refine sxc_region ?_
  refine sxo_move rfl rfl rfl ?_
  refine sxo_neq rfl rfl rfl rfl ?_
  refine sxo_nil ?_
  refine sxq_next ?_
  refine sxc_if rfl (fun h41 => ?_) (fun h41 => ?_)
  · refine sxc_seq ?_
    refine sxc_region ?_
    refine sxo_build (cells := [.slice none 0 0]) rfl st24 rfl (by kernel_rfl) rfl ?_
    refine sxo_move rfl rfl rfl ?_
    refine sxo_storeB (i := 0) rfl rfl rfl tf24 rfl rfl rfl rfl rfl ?_
    refine sxo_assign rfl rfl rfl ?_
    refine sxo_nil ?_
    refine sxq_next ?_
    refine sxc_ret ?_
    refine sxq_thenR ?_
    refine sxq_nilN (List Int) (Option Addr × Nat) eN25 rN25 25 1 ?_
    exact sxq_doneP (none, (0, ([] : List (Option Addr × Nat)))) (.inl rfl) (resL (rs := [.cell 2 24, .tmp 3]) rfl (.cell (i := 0) rfl tf24 rfl rfl (by simp) rfl (.tmp rfl ResOk.nil)) rfl) (fun h => by subst h; rfl) (fun h => by subst h; exact (.cons 0 rfl .nil))
  · refine sxc_skip ?_
    refine sxq_next ?_
    refine sxc_seq ?_
    refine sxb_draw mixed [] [⟨g5, 24, [.slice none 0 0]⟩, ⟨g4, 24, [.slice a2 x1.length c3.1]⟩] [SlN eN25 iN25 1 (.slice a2 x1.length c3.1) x1 c3.2] (.cons 0 rfl (.cons 0 rfl .nil)) (gk_F 0 rfl gk_nil) 7 rfl ?_
    refine sxb_takeB 0 (.agg #[.slice a2 x1.length c3.1]) rfl rfl rfl rfl (by kernel_rfl) (by kernel_rfl) (by kernel_rfl) (by kernel_rfl) (by kernel_rfl) rfl (show _ = #[true, false, false, false, false, false, false] from rfl) (yv_loadB (i := 1) rfl tf24 rfl rfl (by simp) rfl) ?_
    refine sxb_takeB 3 (.agg #[.slice a2 x1.length c3.1]) rfl rfl rfl rfl (by kernel_rfl) (by kernel_rfl) (by kernel_rfl) (by kernel_rfl) (by kernel_rfl) rfl (show _ = #[true, false, false, true, false, false, false] from rfl) (yv_loadB (i := 1) rfl tf24 rfl rfl (by simp) rfl) ?_
    refine sxb_step 1 rfl (by kernel_rfl) (show _ = #[true, true, false, true, false, false, false] from rfl) ?_
    refine sxo_callM ent39 rfl rfl rfl (fun x20 e20 => C_graph_All F x1 a2 c3 x20 e20) .nil .nil (.consF 0 rfl .nil) (fun x20 e20 => ?_)
    rintro g21
    refine sxo_nil ?_
    refine sxq_anyB (.cons 1 rfl (.cons 1 rfl .nil)) (gk_F 0 rfl gk_nil) ?_
    refine sxb_step 2 rfl (by kernel_rfl) (show _ = #[true, true, true, true, false, false, false] from rfl) ?_
    refine sxo_callM ent55 rfl rfl rfl (fun x22 e22 => C_slices_Collect_api_Arc_graph_All_1 F g21 x1 a2 c3 x22 e22) (.cons 0 rfl .nil) .nil (.consF 0 rfl .nil) (fun x22 e22 => ?_)
    rintro ⟨a23, c24⟩
    refine sxo_nil ?_
    refine sxq_anyB (.cons 1 rfl (.cons 1 rfl .nil)) (gk_F 0 rfl gk_nil) ?_
    refine sxb_step 4 rfl (by kernel_rfl) (show _ = #[true, true, true, true, true, false, false] from rfl) ?_
    refine sxo_callM ent47 rfl rfl rfl (fun x25 e25 => C_graph_turned F x1 a2 c3 x25 e25) .nil .nil (.consF 0 rfl .nil) (fun x25 e25 => ?_)
    rintro ⟨a26, c27⟩
    refine sxo_nil ?_
    refine sxq_anyB (.cons 1 rfl (.cons 1 rfl .nil)) (gk_F 0 rfl gk_nil) ?_
    refine sxb_step 5 rfl (by kernel_rfl) (show _ = #[true, true, true, true, true, true, false] from rfl) ?_
    refine sxo_app 1 eS48_ok rfl Try.underlying51 tf48 rfl rfl rfl rfl rfl (.inl ⟨0, _, rfl⟩) rfl rfl (fun x28 e28 a29 c30 => ?_)
    refine sxo_nil ?_
    refine sxq_anyB (.cons 1 rfl (.cons 1 rfl .nil)) (gk_F 0 rfl gk_nil) ?_
    refine sxb_takeP 6 (.slice a29 x28.length c30) rfl rfl rfl rfl (by kernel_rfl) (by kernel_rfl) (by kernel_rfl) (by kernel_rfl) (by kernel_rfl) rfl (show _ = #[true, true, true, true, true, true, true] from rfl) (yv_pv rfl) ?_
    refine sxb_done (by kernel_rfl) ?_
    refine sxq_np ?_ (by intro c h; cases h)
    refine sxq_next ?_
    refine sxc_seq ?_
    refine sxc_region ?_
    refine sxo_move rfl rfl rfl ?_
    refine sxo_callM ent66 rfl rfl rfl (fun x31 e31 => C_slices_SortFunc_api_Arc_api_Arc_graph_order F x28 a29 c30 x31 e31) .nil (.cons 0 rfl .nil) .nil (fun x31 e31 => ?_)
    intro _
    refine sxo_chk (fun h32 => ?_)
    replace h32 := of_decide_eq_true h32
    refine sxo_again (d := 5) (v := .slice a29 x31.length c30) rfl (by rw [h32] <;> rfl) ?_
    refine sxo_again (d := 17) (v := .slice a29 x31.length c30) rfl (by rw [h32] <;> rfl) ?_
    refine sxo_again (d := 18) (v := .slice a29 x31.length c30) rfl (by rw [h32] <;> rfl) ?_
    refine sxo_nil ?_
    refine sxq_next ?_
    refine sxc_seq ?_
    refine sxc_region ?_
    refine sxo_move rfl rfl rfl ?_
    refine sxo_callM ent70 rfl rfl rfl (fun x33 e33 => C_slices_Compact_api_Arc_api_Arc F x31 a29 c30 x33 e33) .nil (.cons 0 rfl .nil) .nil (fun x33 e33 => ?_)
    rintro ⟨a34, c35⟩
    refine sxo_assign rfl rfl rfl ?_
    refine sxo_nil ?_
    refine sxq_next ?_
    refine sxc_seq ?_
    refine sxc_seq ?_
    refine sxc_region ?_
    refine sxo_move rfl rfl rfl ?_
    refine sxo_len rfl Try.underlying51 rfl rfl ?_
    refine sxo_gtr rfl rfl rfl rfl ?_
    refine sxo_nil ?_
    refine sxq_next ?_
    refine sxc_if rfl (fun h40 => ?_) (fun h40 => ?_)
    · refine sxc_seq ?_
      refine sxc_region ?_
      refine sxo_build (cells := [.slice none 0 0]) rfl st24 rfl (by kernel_rfl) rfl ?_
      refine sxo_storeB (i := 1) rfl rfl rfl tf24 rfl rfl rfl rfl rfl ?_
      refine sxo_assign rfl rfl rfl ?_
      refine sxo_nil ?_
      refine sxq_next ?_
      refine sxc_ret ?_
      refine sxq_thenR ?_
      refine sxq_nilN (List Int) (Option Addr × Nat) eN25 rN25 25 1 ?_
      exact sxq_doneP (none, (0, ([] : List (Option Addr × Nat)))) (.inl rfl) (resL (rs := [.cell 2 24, .tmp 3]) rfl (.cell (i := 1) rfl tf24 rfl rfl (by simp) rfl (.tmp rfl ResOk.nil)) rfl) (fun h => by subst h; rfl) (fun h => by subst h; exact (.cons 0 rfl .nil))
    · refine sxc_skip ?_
      refine sxq_next ?_
      refine sxc_seq ?_
      refine sxc_region ?_
      refine sxo_fieldAddr rfl rfl ff24_0 rfl ?_
      refine sxo_loadB (i := 2) rfl rfl tf22 rfl rfl (fun _ => rfl) rfl rfl ?_
      refine sxo_len rfl Try.underlying22 rfl rfl ?_
      refine sxo_move rfl rfl rfl ?_
      refine sxo_call ent44 rfl rfl rfl (fun x37 e37 => C_graph_Built F (x1.length : Int) x33 a34 c35 x37 e37) (.consR 0 (Ro eS48 48 2 (.slice a34 x33.length c35) x33) rfl .nil) (fun x37 e37 => ?_)
      rintro ⟨a38, c39⟩
      refine sxo_storeB (i := 1) rfl rfl rfl tf24 rfl rfl rfl rfl rfl ?_
      refine sxo_assign rfl rfl rfl ?_
      refine sxo_nil ?_
      refine sxq_next ?_
      refine sxc_ret ?_
      exact sxq_doneP (a38, c39) (.inl rfl) (resL (rs := [.cell 2 24, .tmp 3]) rfl (.cell (i := 1) rfl tf24 rfl rfl (by simp) rfl (.tmp rfl ResOk.nil)) rfl) (fun h => by subst h; rfl) (fun h => by subst h; exact (.cons 0 rfl .nil))

theorem C_R_SameArcs (F : Nat) (x1 : List (Int × Int)) (a2 : Option Addr) (c3 : Nat) (x4 : List (Int × Int)) (a5 : Option Addr) (c6 : Nat) (r : Bool) (hm : M_R_SameArcs F x1 x4 = some r) :
    Pure Try.prog 50 [.slice a2 x1.length c3, .slice a5 x4.length c6] [Sl eS48 2 (.slice a2 x1.length c3) x1, Sl eS48 2 (.slice a5 x4.length c6) x4] Unit (fun _ => .bool r) (fun _ => []) (fun _ => []) := by
  refine pure_of Try.func50 rfl Try.ntmps50 rfl hm (fun w => ?_)
  refine sxc_env (l' := [(0, .slice a2 x1.length c3), (1, .slice a5 x4.length c6)]) rfl ?_
  refine sxc_seq ?_
  refine sxc_region ?_
  refine sxo_assign rfl rfl rfl ?_
  refine sxo_nil ?_
  refine sxq_next ?_
  refine sxc_seq ?_
  refine sxc_seq ?_
  refine sxc_region ?_
  refine sxo_move rfl rfl rfl ?_
  refine sxo_len rfl Try.underlying51 rfl rfl ?_
  refine sxo_move rfl rfl rfl ?_
  refine sxo_len rfl Try.underlying51 rfl rfl ?_
  refine sxo_neq rfl rfl rfl rfl ?_
  refine sxo_nil ?_
  refine sxq_next ?_
  refine sxc_if rfl (fun h228 => ?_) (fun h228 => ?_)
  · refine sxc_seq ?_
    refine sxc_region ?_
    refine sxo_assign rfl rfl rfl ?_
    refine sxo_nil ?_
    refine sxq_next ?_
    refine sxc_ret ?_
    refine sxq_thenR ?_
    exact sxq_doneP () (.inl rfl) (res1 rfl rfl) (fun h => by subst h; rfl) (fun h => by subst h; exact .nil)
  · refine sxc_skip ?_
    refine sxq_next ?_
    refine sxc_join (fun ((_, _) : (Unit × Unit)) => []) (fun ((_, _) : (Unit × Unit)) => []) (fun ((_, _) : (Unit × Unit)) => []) (fun ((_, _) : (Unit × Unit)) => []) (fun ((_, _) : (Unit × Unit)) => M_R_SameArcs_j2 F) ?_ ?_
    · refine sxc_seq ?_
      refine sxc_region ?_
      refine sxo_assign rfl rfl rfl ?_
      refine sxo_nil ?_
      refine sxq_next ?_
      refine sxc_block ?_
      refine sxc_loopP (fun ((x154, _) : (Int × Unit)) => [(0, .slice a2 x1.length c3), (1, .slice a5 x4.length c6), (5, .int .i64 x154)]) (fun ((x154, _) : (Int × Unit)) => []) (fun ((x154, _) : (Int × Unit)) => []) (fun ((x154, _) : (Int × Unit)) => [Sl eS48 2 (.slice a2 x1.length c3) x1, Sl eS48 2 (.slice a5 x4.length c6) x4]) (fun k (s : (Int × Unit)) => M_R_SameArcs_l3 F x1 x4 k s.1) (0, ()) F (lk_cons rfl (lk_cons rfl (lk_cons rfl lk_nil))) .nil .nil (fk_cons 0 rfl (fk_cons 1 rfl fk_nil)) (fun _ => rfl) ?_
      intro k191
      rintro ⟨x154, _⟩
      try dsimp only
      refine sxc_meq (m' := M_R_SameArcs_b3 F x1 x4 (M_R_SameArcs_l3 F x1 x4 k191) x154) rfl ?_
      refine sxc_seq ?_
      refine sxc_seq ?_
      refine sxc_region ?_
      refine sxo_move rfl rfl rfl ?_
      refine sxo_move rfl rfl rfl ?_
      refine sxo_len rfl Try.underlying51 rfl rfl ?_
      refine sxo_lss rfl rfl rfl rfl ?_
      refine sxo_nil ?_
      refine sxq_next ?_
      refine sxc_if rfl (fun h227 => ?_) (fun h227 => ?_)
      · refine sxc_skip ?_
        refine sxq_next ?_
        refine sxc_seq ?_
        refine sxc_block ?_
        refine sxc_seq ?_
        refine sxc_idxF (j := 0) eS48_ok (by decide) rfl (fun x218 e218 b219 o220 h221 => ?_)
        replace h221 : a2 = some ⟨b219, o220, none⟩ := h221
        refine sxc_idxF (j := 2) eS48_ok (by decide) rfl (fun x222 e222 b223 o224 h225 => ?_)
        replace h225 : a5 = some ⟨b223, o224, none⟩ := h225
        refine sxb_draw mixed [] [] [CellsAt b223 (o224 + x154.toNat * 2) (eS48 x222), CellsAt b219 (o220 + x154.toNat * 2) (eS48 x218), Sl eS48 2 (.slice a2 x1.length c3) x1, Sl eS48 2 (.slice a5 x4.length c6) x4] .nil (gk_F 0 rfl (gk_F 1 rfl (gk_F 2 rfl (gk_F 3 rfl gk_nil)))) 9 rfl ?_
        refine sxb_takeP 0 (.slice a2 x1.length c3) rfl rfl rfl rfl (by kernel_rfl) (by kernel_rfl) (by kernel_rfl) (by kernel_rfl) (by kernel_rfl) rfl (show _ = #[true, false, false, false, false, false, false, false, false] from rfl) (yv_pv rfl) ?_
        refine sxb_takeP 1 (.int .i64 x154) rfl rfl rfl rfl (by kernel_rfl) (by kernel_rfl) (by kernel_rfl) (by kernel_rfl) (by kernel_rfl) rfl (show _ = #[true, true, false, false, false, false, false, false, false] from rfl) (yv_pv rfl) ?_
        refine sxb_again (d := 17) (v := .slice (some ⟨b219, o220, none⟩) x1.length c3) rfl (by rw [h221] <;> rfl) ?_
        refine sxb_takeP 2 (.pointer (some ⟨b219, (o220 + x154.toNat * 2), none⟩)) rfl rfl rfl rfl (by kernel_rfl) (by kernel_rfl) (by kernel_rfl) (by kernel_rfl) (by kernel_rfl) rfl (show _ = #[true, true, true, false, false, false, false, false, false] from rfl) (yv_idx Try.underlying51 tf48 rfl rfl (idx_get e218).1 (idx_lt e218)) ?_
        refine sxb_again (d := 17) (v := .slice a2 x1.length c3) rfl (by rw [h221] <;> rfl) ?_
        refine sxb_take 3 (.agg #[.int .i64 x218.1, .int .i64 x218.2]) [] rfl rfl rfl rfl (by kernel_rfl) (by kernel_rfl) (by kernel_rfl) (by kernel_rfl) (by kernel_rfl) (by kernel_rfl) rfl (show _ = #[true, true, true, true, false, false, false, false, false] from rfl) (yv_loadF (j := 1) rfl tf48 rfl rfl (by simp) rfl) ?_
        refine sxb_takeP 4 (.slice a5 x4.length c6) rfl rfl rfl rfl (by kernel_rfl) (by kernel_rfl) (by kernel_rfl) (by kernel_rfl) (by kernel_rfl) rfl (show _ = #[true, true, true, true, true, false, false, false, false] from rfl) (yv_pv rfl) ?_
        refine sxb_takeP 5 (.int .i64 x154) rfl rfl rfl rfl (by kernel_rfl) (by kernel_rfl) (by kernel_rfl) (by kernel_rfl) (by kernel_rfl) rfl (show _ = #[true, true, true, true, true, true, false, false, false] from rfl) (yv_pv rfl) ?_
        refine sxb_again (d := 21) (v := .slice (some ⟨b223, o224, none⟩) x4.length c6) rfl (by rw [h225] <;> rfl) ?_
        refine sxb_takeP 6 (.pointer (some ⟨b223, (o224 + x154.toNat * 2), none⟩)) rfl rfl rfl rfl (by kernel_rfl) (by kernel_rfl) (by kernel_rfl) (by kernel_rfl) (by kernel_rfl) rfl (show _ = #[true, true, true, true, true, true, true, false, false] from rfl) (yv_idx Try.underlying51 tf48 rfl rfl (idx_get e222).1 (idx_lt e222)) ?_
        refine sxb_again (d := 21) (v := .slice a5 x4.length c6) rfl (by rw [h225] <;> rfl) ?_
        refine sxb_take 7 (.agg #[.int .i64 x222.1, .int .i64 x222.2]) [] rfl rfl rfl rfl (by kernel_rfl) (by kernel_rfl) (by kernel_rfl) (by kernel_rfl) (by kernel_rfl) (by kernel_rfl) rfl (show _ = #[true, true, true, true, true, true, true, true, false] from rfl) (yv_loadF (j := 0) rfl tf48 rfl rfl (by simp) rfl) ?_
        refine sxb_takeP 8 (.bool (!(((x218.1 : Int) == x222.1) && ((x218.2 : Int) == x222.2)))) rfl rfl rfl rfl (by kernel_rfl) (by kernel_rfl) (by kernel_rfl) (by kernel_rfl) (by kernel_rfl) rfl (show _ = #[true, true, true, true, true, true, true, true, true] from rfl) (yv_neq2 rfl rfl se48) ?_
        refine sxb_done (by kernel_rfl) ?_
        refine sxq_np ?_ (by intro c h; cases h)
        refine sxq_next ?_
        refine sxc_if rfl (fun h226 => ?_) (fun h226 => ?_)
        · refine sxc_seq ?_
          refine sxc_region ?_
          refine sxo_assign rfl rfl rfl ?_
          refine sxo_nil ?_
          refine sxq_next ?_
          refine sxc_ret ?_
          refine sxq_blkR ?_
          refine sxq_thenR ?_
          refine sxq_thenR ?_
          refine sxq_blkR ?_
          refine sxq_thenR ?_
          exact sxq_doneP () (.inl rfl) (res1 rfl rfl) (fun h => by subst h; rfl) (fun h => by subst h; exact .nil)
        · refine sxc_skip ?_
          refine sxq_blkN ?_
          refine sxq_next ?_
          refine sxc_region ?_
          refine sxo_move rfl rfl rfl ?_
          refine sxo_add rfl rfl rfl rfl ?_
          refine sxo_assign rfl rfl rfl ?_
          refine sxo_nil ?_
          exact sxq_againP (iadd .i64 x154 1, ()) (lk_cons rfl (lk_cons rfl (lk_cons rfl lk_nil))) .nil .nil (fk_cons 2 rfl (fk_cons 3 rfl fk_nil))
      · refine sxc_exit ?_
        refine sxq_thenX ?_
        refine sxq_thenX ?_
        refine sxq_blkX ?_
        exact sxq_meetP ((), ()) lk_nil .nil .nil fk_nil
    · rintro ⟨_, _⟩
      try dsimp only
      refine sxc_seq ?_
      refine sxc_region ?_
      refine sxo_assign rfl rfl rfl ?_
      refine sxo_nil ?_
      refine sxq_next ?_
      refine sxc_ret ?_
      exact sxq_doneP () (.inl rfl) (res1 rfl rfl) (fun h => by subst h; rfl) (fun h => by subst h; exact .nil)

set_option maxHeartbeats 4000000 in
theorem C_L_graphBegun (F : Nat)  (r : Bool) (hm : M_L_graphBegun F  = some r) :
    Pure Try.prog 25 [] [] Unit (fun _ => .bool r) (fun _ => []) (fun _ => []) := by
  refine pure_of Try.func25 rfl Try.ntmps25 rfl hm (fun w => ?_)
  refine sxc_env (l' := []) rfl ?_
  refine sxc_seq ?_
  refine sxc_region ?_
  refine sxo_assign rfl rfl rfl ?_
  refine sxo_nil ?_
  refine sxq_next ?_
  refine sxc_seq ?_
  refine sxc_region ?_
  refine sxo_build (cells := [.int .i64 2, .int .i64 0]) rfl st48 rfl (by kernel_rfl) rfl ?_
  refine sxo_build (cells := [.int .i64 0, .int .i64 1]) rfl st48 rfl (by kernel_rfl) rfl ?_
  refine sxo_build (cells := [.int .i64 0, .int .i64 0]) rfl st48 rfl (by kernel_rfl) rfl ?_
  refine sxo_slit (vs := [.agg #[.int .i64 2, .int .i64 0], .agg #[.int .i64 0, .int .i64 1], .agg #[.int .i64 0, .int .i64 0]]) (ys := ([(2, 0), (0, 1), (0, 0)] : List (Int × Int))) eS48_ok (by decide) rfl Try.underlying51 tf48 rfl rfl rfl rfl rfl (by decide) (fun a1 c2 => ?_)
  refine sxo_call ent30 rfl rfl rfl (fun x3 e3 => C_graph_Of F 3 ([(2, 0), (0, 1), (0, 0)] : List (Int × Int)) a1 c2 x3 e3) (.consR 0 (Ro eS48 48 2 (.slice a1 ([(2, 0), (0, 1), (0, 0)] : List (Int × Int)).length c2) ([(2, 0), (0, 1), (0, 0)] : List (Int × Int))) rfl .nil) (fun x3 e3 => ?_)
  rintro ⟨a4, c5⟩
  refine sxo_move rfl rfl rfl ?_
  refine sxo_extract rfl rfl rfl rfl ?_
  refine sxo_extract rfl rfl rfl rfl ?_
  refine sxo_alloc rfl tf24 rfl (fun g6 => ?_)
  refine sxo_storeB (i := 0) rfl rfl rfl tf24 rfl rfl rfl rfl rfl ?_
  refine sxo_assign rfl rfl rfl ?_
  refine sxo_nil ?_
  refine sxq_next ?_
  refine sxc_seq ?_
  refine sxc_region ?_
  refine sxo_loadB (i := 0) rfl rfl tf24 rfl rfl (by simp) rfl rfl ?_
  refine sxo_call ent28 rfl rfl rfl (fun x7 e7 => C_graph_Arcs F x3.1 a4 c5 x7 e7) (.consG 0 rfl (nest_sl rN25_in) .nil) (fun x7 e7 => ?_)
  rintro ⟨a8, c9⟩
  refine sxo_move rfl rfl rfl ?_
  refine sxo_extract rfl rfl rfl rfl ?_
  refine sxo_extract rfl rfl rfl rfl ?_
  refine sxo_assign rfl rfl rfl ?_
  refine sxo_assign rfl rfl rfl ?_
  refine sxo_nil ?_
  refine sxq_next ?_
  refine sxc_seq ?_
  refine sxc_region ?_
  refine sxo_loadB (i := 0) rfl rfl tf24 rfl rfl (by simp) rfl rfl ?_
  refine sxo_call ent24 rfl rfl rfl (fun x10 e10 => C_graph_Turn F x3.1 a4 c5 x10 e10) (.consG 1 rfl (nest_sl rN25_in) .nil) (fun x10 e10 => ?_)
  rintro ⟨a11, c12⟩
  refine sxo_move rfl rfl rfl ?_
  refine sxo_extract rfl rfl rfl rfl ?_
  refine sxo_extract rfl rfl rfl rfl ?_
  refine sxo_alloc rfl tf24 rfl (fun g13 => ?_)
  refine sxo_storeB (i := 0) rfl rfl rfl tf24 rfl rfl rfl rfl rfl ?_
  refine sxo_assign rfl rfl rfl ?_
  refine sxo_nil ?_
  refine sxq_next ?_
  refine sxc_seq ?_
  refine sxc_region ?_
  refine sxo_loadB (i := 1) rfl rfl tf24 rfl rfl (by simp) rfl rfl ?_
  refine sxo_call ent49 rfl rfl rfl (fun x14 e14 => C_graph_Both F x3.1 a4 c5 x14 e14) (.consG 2 rfl (nest_sl rN25_in) .nil) (fun x14 e14 => ?_)
  rintro ⟨a15, c16⟩
  refine sxo_move rfl rfl rfl ?_
  refine sxo_extract rfl rfl rfl rfl ?_
  refine sxo_extract rfl rfl rfl rfl ?_
  refine sxo_alloc rfl tf24 rfl (fun g17 => ?_)
  refine sxo_storeB (i := 0) rfl rfl rfl tf24 rfl rfl rfl rfl rfl ?_
  refine sxo_assign rfl rfl rfl ?_
  refine sxo_nil ?_
  refine sxq_next ?_
  refine sxc_seq ?_
  refine sxc_region ?_
  refine sxo_loadB (i := 2) rfl rfl tf24 rfl rfl (by simp) rfl rfl ?_
  refine sxo_callM ent33 rfl rfl rfl (fun x18 e18 => C_graph_Degrees F x3.1 a4 c5 x18 e18) .nil .nil (.consG 3 rfl (nest_sl rN25_in) .nil) (fun x18 e18 => ?_)
  rintro ⟨⟨a19, c20⟩, ⟨a21, c22⟩⟩
  refine sxo_move rfl rfl rfl ?_
  refine sxo_extract rfl rfl rfl rfl ?_
  refine sxo_extract rfl rfl rfl rfl ?_
  refine sxo_extract rfl rfl rfl rfl ?_
  refine sxo_assign rfl rfl rfl ?_
  refine sxo_assign rfl rfl rfl ?_
  refine sxo_assign rfl rfl rfl ?_
  refine sxo_nil ?_
  refine sxq_next ?_
  refine sxc_seq ?_
  refine sxc_region ?_
  refine sxo_build (cells := [.int .i64 0, .int .i64 0]) rfl st48 rfl (by kernel_rfl) rfl ?_
  refine sxo_build (cells := [.int .i64 0, .int .i64 0]) rfl st48 rfl (by kernel_rfl) rfl ?_
  refine sxo_slit (vs := [.agg #[.int .i64 0, .int .i64 0], .agg #[.int .i64 0, .int .i64 0]]) (ys := ([(0, 0), (0, 0)] : List (Int × Int))) eS48_ok (by decide) rfl Try.underlying51 tf48 rfl rfl rfl rfl rfl (by decide) (fun a23 c24 => ?_)
  refine sxo_call ent30 rfl rfl rfl (fun x25 e25 => C_graph_Of F 1 ([(0, 0), (0, 0)] : List (Int × Int)) a23 c24 x25 e25) (.consR 0 (Ro eS48 48 2 (.slice a23 ([(0, 0), (0, 0)] : List (Int × Int)).length c24) ([(0, 0), (0, 0)] : List (Int × Int))) rfl .nil) (fun x25 e25 => ?_)
  rintro ⟨a26, c27⟩
  refine sxo_move rfl rfl rfl ?_
  refine sxo_extract rfl rfl rfl rfl ?_
  refine sxo_extract rfl rfl rfl rfl ?_
  refine sxo_alloc rfl tf24 rfl (fun g28 => ?_)
  refine sxo_storeB (i := 0) rfl rfl rfl tf24 rfl rfl rfl rfl rfl ?_
  refine sxo_assign rfl rfl rfl ?_
  refine sxo_nil ?_
  refine sxq_next ?_
  refine sxc_seq ?_
  refine sxc_region ?_
  refine sxo_fieldAddr rfl rfl ff24_0 rfl ?_
  refine sxo_loadB (i := 3) rfl rfl tf22 rfl rfl (fun _ => rfl) rfl rfl ?_
  refine sxo_slit (vs := [.int .i64 0, .int .i64 1]) (ys := ([0, 1] : List Int)) (eI_ok .i64) (by decide) rfl Try.underlying25 tf3 rfl rfl rfl rfl rfl (by decide) (fun a29 c30 => ?_)
  refine sxo_slit (vs := [.int .i64 0]) (ys := ([0] : List Int)) (eI_ok .i64) (by decide) rfl Try.underlying25 tf3 rfl rfl rfl rfl rfl (by decide) (fun a31 c32 => ?_)
  refine sxo_freeze 1 rfl ?_
  refine sxo_nilrow' Int (eI .i64) 3 1 ?_
  refine sxo_freeze 0 rfl ?_
  refine sxo_freeze 0 rfl ?_
  refine sxo_slit (vs := [.slice a29 ([0, 1] : List Int).length c30, .slice none 0 0, .slice a31 ([0] : List Int).length c32]) (ys := ([(([0, 1] : List Int), (a29, c30)), (([] : List Int), (none, 0)), (([0] : List Int), (a31, c32))] : List (List Int × (Option Addr × Nat)))) eN25_ok (by decide) rfl Try.underlying22 tf25 rfl rfl rfl rfl rfl (by decide) (fun a33 c34 => ?_)
  refine sxo_nestF (inn := iN25) ([([0, 1] : List Int), ([] : List Int), ([0] : List Int)] : List (List Int)) ([(a29, c30), (none, 0), (a31, c32)] : List (Option Addr × Nat)) 0 rfl rfl (fk_cons 2 rfl (fk_cons 1 rfl (fk_cons 0 rfl fk_nil))) ?_
  refine sxo_call ent43 rfl rfl rfl (fun x35 e35 => C_R_SameLists F x3.1 a4 c5 ([([0, 1] : List Int), ([] : List Int), ([0] : List Int)] : List (List Int)) a33 (c34, ([(a29, c30), (none, 0), (a31, c32)] : List (Option Addr × Nat))) x35 e35) (.consG 7 rfl (nest_sl rN25_in) (.consF 0 rfl .nil)) (fun x35 e35 => ?_)
  intro _
  refine sxo_move rfl rfl rfl ?_
  refine sxo_case 3 x35 [(3, .slice a8 x7.1.length c9), (4, .int .i64 x7.2), (5, .pointer (some ⟨g13, 0, none⟩)), (6, .int .i64 x10.2), (7, .pointer (some ⟨g17, 0, none⟩)), (8, .int .i64 x14.2), (9, .slice a19 x18.1.length c20), (10, .slice a21 x18.2.1.length c22), (11, .int .i64 x18.2.2), (13, .int .i64 x25.2), (59, .bool (x35 && ((x3.2 : Int) == 0)))] (fun h36 => ?_) (fun h36 => ?_) ?_
  · refine sxo_take (os := _) rfl ?_
    refine sxo_isT (k := 56) rfl h36 ?_
    refine sxo_move rfl rfl rfl ?_
    refine sxo_eql rfl rfl rfl rfl ?_
    refine sxo_pick (b := true) rfl rfl rfl rfl ?_
    refine sxo_again (d := 59) (v := .bool (x35 && ((x3.2 : Int) == 0))) rfl (by rw [h36]; simp only [Bool.true_and]) ?_
    refine sxo_nil ?_
    exact sxq_case (lk_cons rfl (lk_cons rfl (lk_cons rfl (lk_cons rfl (lk_cons rfl (lk_cons rfl (lk_cons rfl (lk_cons rfl (lk_cons rfl (lk_cons rfl (lk_cons rfl lk_nil)))))))))))
  · refine sxo_take (os := _) rfl ?_
    refine sxo_isF (k := 56) rfl h36 ?_
    refine sxo_skip rfl rfl rfl ?_
    refine sxo_skip rfl rfl rfl ?_
    refine sxo_pick (b := false) rfl rfl rfl rfl ?_
    refine sxo_again (d := 59) (v := .bool (x35 && ((x3.2 : Int) == 0))) rfl (by rw [h36]; simp only [Bool.false_and]) ?_
    refine sxo_nil ?_
    exact sxq_case (lk_cons rfl (lk_cons rfl (lk_cons rfl (lk_cons rfl (lk_cons rfl (lk_cons rfl (lk_cons rfl (lk_cons rfl (lk_cons rfl (lk_cons rfl (lk_cons rfl lk_nil)))))))))))
  refine sxo_take (os := _) rfl ?_
  refine sxo_move rfl rfl rfl ?_
  refine sxo_join 7 (fun ((x41, _) : (Bool × Unit)) => [(4, .int .i64 x7.2), (5, .pointer (some ⟨g13, 0, none⟩)), (6, .int .i64 x10.2), (7, .pointer (some ⟨g17, 0, none⟩)), (8, .int .i64 x14.2), (9, .slice a19 x18.1.length c20), (10, .slice a21 x18.2.1.length c22), (11, .int .i64 x18.2.2), (13, .int .i64 x25.2), (67, .bool x41)]) (fun ((x41, _) : (Bool × Unit)) => [⟨g17, 24, [.slice a15 x14.1.length c16.1]⟩, ⟨g13, 24, [.slice a11 x10.1.length c12.1]⟩]) (fun ((x41, _) : (Bool × Unit)) => [Ro (eI .i64) 3 1 (.slice a19 x18.1.length c20) x18.1, Ro (eI .i64) 3 1 (.slice a21 x18.2.1.length c22) x18.2.1, RoN eN25 rN25 25 1 (.slice a15 x14.1.length c16.1) x14.1 c16.2 [], RoN eN25 rN25 25 1 (.slice a11 x10.1.length c12.1) x10.1 c12.2 []]) (fun ((x41, _) : (Bool × Unit)) => []) (fun ((x41, _) : (Bool × Unit)) => M_L_graphBegun_j1 F x7 x10 x14 x18 x25 x41) ?_ ?_
  · refine sxo_take (os := _) rfl ?_
    refine sxo_if (fun h37 => ?_) (fun h37 => ?_)
    · refine sxo_isT (k := 60) rfl h37 ?_
      refine sxo_move rfl rfl rfl ?_
      refine sxo_build (cells := [.int .i64 0, .int .i64 0]) rfl st48 rfl (by kernel_rfl) rfl ?_
      refine sxo_build (cells := [.int .i64 0, .int .i64 1]) rfl st48 rfl (by kernel_rfl) rfl ?_
      refine sxo_build (cells := [.int .i64 2, .int .i64 0]) rfl st48 rfl (by kernel_rfl) rfl ?_
      refine sxo_slit (vs := [.agg #[.int .i64 0, .int .i64 0], .agg #[.int .i64 0, .int .i64 1], .agg #[.int .i64 2, .int .i64 0]]) (ys := ([(0, 0), (0, 1), (2, 0)] : List (Int × Int))) eS48_ok (by decide) rfl Try.underlying51 tf48 rfl rfl rfl rfl rfl (by decide) (fun a111 c112 => ?_)
      refine sxo_call ent50 rfl rfl rfl (fun x113 e113 => C_R_SameArcs F x7.1 a8 c9 ([(0, 0), (0, 1), (2, 0)] : List (Int × Int)) a111 c112 x113 e113) (.consR 7 (Ro eS48 48 2 (.slice a8 x7.1.length c9) x7.1) rfl (.consR 0 (Ro eS48 48 2 (.slice a111 ([(0, 0), (0, 1), (2, 0)] : List (Int × Int)).length c112) ([(0, 0), (0, 1), (2, 0)] : List (Int × Int))) rfl .nil)) (fun x113 e113 => ?_)
      intro _
      refine sxo_pick (b := true) rfl rfl rfl rfl ?_
      refine sxo_nil ?_
      exact sxq_meetP (x113, ()) (lk_cons rfl (lk_cons rfl (lk_cons rfl (lk_cons rfl (lk_cons rfl (lk_cons rfl (lk_cons rfl (lk_cons rfl (lk_cons rfl (lk_cons rfl lk_nil)))))))))) (.cons 1 rfl (.cons 1 rfl .nil)) (.cons 3 rfl (.cons 3 rfl (.cons 3 rfl (.cons 3 rfl .nil)))) fk_nil
    · refine sxo_isF (k := 60) rfl h37 ?_
      refine sxo_skip rfl rfl rfl ?_
      refine sxo_skip rfl rfl rfl ?_
      refine sxo_skip rfl rfl rfl ?_
      refine sxo_skip rfl rfl rfl ?_
      refine sxo_skip rfl rfl rfl ?_
      refine sxo_skip rfl rfl rfl ?_
      refine sxo_pick (b := false) rfl rfl rfl rfl ?_
      refine sxo_nil ?_
      exact sxq_meetP (false, ()) (lk_cons rfl (lk_cons rfl (lk_cons rfl (lk_cons rfl (lk_cons rfl (lk_cons rfl (lk_cons rfl (lk_cons rfl (lk_cons rfl (lk_cons rfl lk_nil)))))))))) (.cons 1 rfl (.cons 1 rfl .nil)) (.cons 2 rfl (.cons 2 rfl (.cons 2 rfl (.cons 2 rfl .nil)))) fk_nil
  · rintro ⟨x41, _⟩
    try dsimp only
    refine sxo_take (os := _) rfl ?_
    refine sxo_move rfl rfl rfl ?_
    refine sxo_case 3 x41 [(5, .pointer (some ⟨g13, 0, none⟩)), (6, .int .i64 x10.2), (7, .pointer (some ⟨g17, 0, none⟩)), (8, .int .i64 x14.2), (9, .slice a19 x18.1.length c20), (10, .slice a21 x18.2.1.length c22), (11, .int .i64 x18.2.2), (13, .int .i64 x25.2), (71, .bool (x41 && ((x7.2 : Int) == 0)))] (fun h42 => ?_) (fun h42 => ?_) ?_
    · refine sxo_take (os := _) rfl ?_
      refine sxo_isT (k := 68) rfl h42 ?_
      refine sxo_move rfl rfl rfl ?_
      refine sxo_eql rfl rfl rfl rfl ?_
      refine sxo_pick (b := true) rfl rfl rfl rfl ?_
      refine sxo_again (d := 71) (v := .bool (x41 && ((x7.2 : Int) == 0))) rfl (by rw [h42]; simp only [Bool.true_and]) ?_
      refine sxo_nil ?_
      exact sxq_case (lk_cons rfl (lk_cons rfl (lk_cons rfl (lk_cons rfl (lk_cons rfl (lk_cons rfl (lk_cons rfl (lk_cons rfl (lk_cons rfl lk_nil)))))))))
    · refine sxo_take (os := _) rfl ?_
      refine sxo_isF (k := 68) rfl h42 ?_
      refine sxo_skip rfl rfl rfl ?_
      refine sxo_skip rfl rfl rfl ?_
      refine sxo_pick (b := false) rfl rfl rfl rfl ?_
      refine sxo_again (d := 71) (v := .bool (x41 && ((x7.2 : Int) == 0))) rfl (by rw [h42]; simp only [Bool.false_and]) ?_
      refine sxo_nil ?_
      exact sxq_case (lk_cons rfl (lk_cons rfl (lk_cons rfl (lk_cons rfl (lk_cons rfl (lk_cons rfl (lk_cons rfl (lk_cons rfl (lk_cons rfl lk_nil)))))))))
    refine sxo_take (os := _) rfl ?_
    refine sxo_move rfl rfl rfl ?_
    refine sxo_join 7 (fun ((x51, _) : (Bool × Unit)) => [(6, .int .i64 x10.2), (7, .pointer (some ⟨g17, 0, none⟩)), (8, .int .i64 x14.2), (9, .slice a19 x18.1.length c20), (10, .slice a21 x18.2.1.length c22), (11, .int .i64 x18.2.2), (13, .int .i64 x25.2), (79, .bool x51)]) (fun ((x51, _) : (Bool × Unit)) => [⟨g17, 24, [.slice a15 x14.1.length c16.1]⟩]) (fun ((x51, _) : (Bool × Unit)) => [Ro (eI .i64) 3 1 (.slice a19 x18.1.length c20) x18.1, Ro (eI .i64) 3 1 (.slice a21 x18.2.1.length c22) x18.2.1, RoN eN25 rN25 25 1 (.slice a15 x14.1.length c16.1) x14.1 c16.2 []]) (fun ((x51, _) : (Bool × Unit)) => []) (fun ((x51, _) : (Bool × Unit)) => M_L_graphBegun_j2 F x10 x14 x18 x25 x51) ?_ ?_
    · refine sxo_take (os := _) rfl ?_
      refine sxo_if (fun h43 => ?_) (fun h43 => ?_)
      · refine sxo_isT (k := 72) rfl h43 ?_
        refine sxo_fieldAddr rfl rfl ff24_0 rfl ?_
        refine sxo_loadB (i := 1) rfl rfl tf22 rfl rfl (fun _ => rfl) rfl rfl ?_
        refine sxo_slit (vs := [.int .i64 0, .int .i64 2]) (ys := ([0, 2] : List Int)) (eI_ok .i64) (by decide) rfl Try.underlying25 tf3 rfl rfl rfl rfl rfl (by decide) (fun a104 c105 => ?_)
        refine sxo_slit (vs := [.int .i64 0]) (ys := ([0] : List Int)) (eI_ok .i64) (by decide) rfl Try.underlying25 tf3 rfl rfl rfl rfl rfl (by decide) (fun a106 c107 => ?_)
        refine sxo_freeze 1 rfl ?_
        refine sxo_freeze 0 rfl ?_
        refine sxo_nilrow' Int (eI .i64) 3 1 ?_
        refine sxo_freeze 0 rfl ?_
        refine sxo_slit (vs := [.slice a104 ([0, 2] : List Int).length c105, .slice a106 ([0] : List Int).length c107, .slice none 0 0]) (ys := ([(([0, 2] : List Int), (a104, c105)), (([0] : List Int), (a106, c107)), (([] : List Int), (none, 0))] : List (List Int × (Option Addr × Nat)))) eN25_ok (by decide) rfl Try.underlying22 tf25 rfl rfl rfl rfl rfl (by decide) (fun a108 c109 => ?_)
        refine sxo_nestF (inn := iN25) ([([0, 2] : List Int), ([0] : List Int), ([] : List Int)] : List (List Int)) ([(a104, c105), (a106, c107), (none, 0)] : List (Option Addr × Nat)) 0 rfl rfl (fk_cons 2 rfl (fk_cons 1 rfl (fk_cons 0 rfl fk_nil))) ?_
        refine sxo_call ent43 rfl rfl rfl (fun x110 e110 => C_R_SameLists F x10.1 a11 c12 ([([0, 2] : List Int), ([0] : List Int), ([] : List Int)] : List (List Int)) a108 (c109, ([(a104, c105), (a106, c107), (none, 0)] : List (Option Addr × Nat))) x110 e110) (.consG 3 rfl (nest_sl rN25_in) (.consF 0 rfl .nil)) (fun x110 e110 => ?_)
        intro _
        refine sxo_pick (b := true) rfl rfl rfl rfl ?_
        refine sxo_nil ?_
        exact sxq_meetP (x110, ()) (lk_cons rfl (lk_cons rfl (lk_cons rfl (lk_cons rfl (lk_cons rfl (lk_cons rfl (lk_cons rfl (lk_cons rfl lk_nil)))))))) (.cons 0 rfl .nil) (.cons 0 rfl (.cons 0 rfl (.cons 0 rfl .nil))) fk_nil
      · refine sxo_isF (k := 72) rfl h43 ?_
        refine sxo_skip rfl rfl rfl ?_
        refine sxo_skip rfl rfl rfl ?_
        refine sxo_skip rfl rfl rfl ?_
        refine sxo_skip rfl rfl rfl ?_
        refine sxo_skip rfl rfl rfl ?_
        refine sxo_skip rfl rfl rfl ?_
        refine sxo_pick (b := false) rfl rfl rfl rfl ?_
        refine sxo_nil ?_
        exact sxq_meetP (false, ()) (lk_cons rfl (lk_cons rfl (lk_cons rfl (lk_cons rfl (lk_cons rfl (lk_cons rfl (lk_cons rfl (lk_cons rfl lk_nil)))))))) (.cons 0 rfl .nil) (.cons 0 rfl (.cons 0 rfl (.cons 0 rfl .nil))) fk_nil
    · rintro ⟨x51, _⟩
      try dsimp only
      refine sxo_take (os := _) rfl ?_
      refine sxo_move rfl rfl rfl ?_
      refine sxo_case 3 x51 [(7, .pointer (some ⟨g17, 0, none⟩)), (8, .int .i64 x14.2), (9, .slice a19 x18.1.length c20), (10, .slice a21 x18.2.1.length c22), (11, .int .i64 x18.2.2), (13, .int .i64 x25.2), (83, .bool (x51 && ((x10.2 : Int) == 0)))] (fun h52 => ?_) (fun h52 => ?_) ?_
      · refine sxo_take (os := _) rfl ?_
        refine sxo_isT (k := 80) rfl h52 ?_
        refine sxo_move rfl rfl rfl ?_
        refine sxo_eql rfl rfl rfl rfl ?_
        refine sxo_pick (b := true) rfl rfl rfl rfl ?_
        refine sxo_again (d := 83) (v := .bool (x51 && ((x10.2 : Int) == 0))) rfl (by rw [h52]; simp only [Bool.true_and]) ?_
        refine sxo_nil ?_
        exact sxq_case (lk_cons rfl (lk_cons rfl (lk_cons rfl (lk_cons rfl (lk_cons rfl (lk_cons rfl (lk_cons rfl lk_nil)))))))
      · refine sxo_take (os := _) rfl ?_
        refine sxo_isF (k := 80) rfl h52 ?_
        refine sxo_skip rfl rfl rfl ?_
        refine sxo_skip rfl rfl rfl ?_
        refine sxo_pick (b := false) rfl rfl rfl rfl ?_
        refine sxo_again (d := 83) (v := .bool (x51 && ((x10.2 : Int) == 0))) rfl (by rw [h52]; simp only [Bool.false_and]) ?_
        refine sxo_nil ?_
        exact sxq_case (lk_cons rfl (lk_cons rfl (lk_cons rfl (lk_cons rfl (lk_cons rfl (lk_cons rfl (lk_cons rfl lk_nil)))))))
      refine sxo_take (os := _) rfl ?_
      refine sxo_move rfl rfl rfl ?_
      refine sxo_join 8 (fun ((x63, _) : (Bool × Unit)) => [(8, .int .i64 x14.2), (9, .slice a19 x18.1.length c20), (10, .slice a21 x18.2.1.length c22), (11, .int .i64 x18.2.2), (13, .int .i64 x25.2), (92, .bool x63)]) (fun ((x63, _) : (Bool × Unit)) => []) (fun ((x63, _) : (Bool × Unit)) => [Ro (eI .i64) 3 1 (.slice a19 x18.1.length c20) x18.1, Ro (eI .i64) 3 1 (.slice a21 x18.2.1.length c22) x18.2.1]) (fun ((x63, _) : (Bool × Unit)) => []) (fun ((x63, _) : (Bool × Unit)) => M_L_graphBegun_j3 F x14 x18 x25 x63) ?_ ?_
      · refine sxo_take (os := _) rfl ?_
        refine sxo_if (fun h53 => ?_) (fun h53 => ?_)
        · refine sxo_isT (k := 84) rfl h53 ?_
          refine sxo_fieldAddr rfl rfl ff24_0 rfl ?_
          refine sxo_loadB (i := 0) rfl rfl tf22 rfl rfl (fun _ => rfl) rfl rfl ?_
          refine sxo_slit (vs := [.int .i64 0, .int .i64 1, .int .i64 2]) (ys := ([0, 1, 2] : List Int)) (eI_ok .i64) (by decide) rfl Try.underlying25 tf3 rfl rfl rfl rfl rfl (by decide) (fun a95 c96 => ?_)
          refine sxo_slit (vs := [.int .i64 0]) (ys := ([0] : List Int)) (eI_ok .i64) (by decide) rfl Try.underlying25 tf3 rfl rfl rfl rfl rfl (by decide) (fun a97 c98 => ?_)
          refine sxo_slit (vs := [.int .i64 0]) (ys := ([0] : List Int)) (eI_ok .i64) (by decide) rfl Try.underlying25 tf3 rfl rfl rfl rfl rfl (by decide) (fun a99 c100 => ?_)
          refine sxo_freeze 2 rfl ?_
          refine sxo_freeze 1 rfl ?_
          refine sxo_freeze 0 rfl ?_
          refine sxo_slit (vs := [.slice a95 ([0, 1, 2] : List Int).length c96, .slice a97 ([0] : List Int).length c98, .slice a99 ([0] : List Int).length c100]) (ys := ([(([0, 1, 2] : List Int), (a95, c96)), (([0] : List Int), (a97, c98)), (([0] : List Int), (a99, c100))] : List (List Int × (Option Addr × Nat)))) eN25_ok (by decide) rfl Try.underlying22 tf25 rfl rfl rfl rfl rfl (by decide) (fun a101 c102 => ?_)
          refine sxo_nestF (inn := iN25) ([([0, 1, 2] : List Int), ([0] : List Int), ([0] : List Int)] : List (List Int)) ([(a95, c96), (a97, c98), (a99, c100)] : List (Option Addr × Nat)) 0 rfl rfl (fk_cons 2 rfl (fk_cons 1 rfl (fk_cons 0 rfl fk_nil))) ?_
          refine sxo_call ent43 rfl rfl rfl (fun x103 e103 => C_R_SameLists F x14.1 a15 c16 ([([0, 1, 2] : List Int), ([0] : List Int), ([0] : List Int)] : List (List Int)) a101 (c102, ([(a95, c96), (a97, c98), (a99, c100)] : List (Option Addr × Nat))) x103 e103) (.consG 2 rfl (nest_sl rN25_in) (.consF 0 rfl .nil)) (fun x103 e103 => ?_)
          intro _
          refine sxo_pick (b := true) rfl rfl rfl rfl ?_
          refine sxo_nil ?_
          exact sxq_meetP (x103, ()) (lk_cons rfl (lk_cons rfl (lk_cons rfl (lk_cons rfl (lk_cons rfl (lk_cons rfl lk_nil)))))) .nil (.cons 0 rfl (.cons 0 rfl .nil)) fk_nil
        · refine sxo_isF (k := 84) rfl h53 ?_
          refine sxo_skip rfl rfl rfl ?_
          refine sxo_skip rfl rfl rfl ?_
          refine sxo_skip rfl rfl rfl ?_
          refine sxo_skip rfl rfl rfl ?_
          refine sxo_skip rfl rfl rfl ?_
          refine sxo_skip rfl rfl rfl ?_
          refine sxo_skip rfl rfl rfl ?_
          refine sxo_pick (b := false) rfl rfl rfl rfl ?_
          refine sxo_nil ?_
          exact sxq_meetP (false, ()) (lk_cons rfl (lk_cons rfl (lk_cons rfl (lk_cons rfl (lk_cons rfl (lk_cons rfl lk_nil)))))) .nil (.cons 0 rfl (.cons 0 rfl .nil)) fk_nil
      · rintro ⟨x63, _⟩
        try dsimp only
        refine sxo_take (os := _) rfl ?_
        refine sxo_move rfl rfl rfl ?_
        refine sxo_case 3 x63 [(9, .slice a19 x18.1.length c20), (10, .slice a21 x18.2.1.length c22), (11, .int .i64 x18.2.2), (13, .int .i64 x25.2), (96, .bool (x63 && ((x14.2 : Int) == 0)))] (fun h64 => ?_) (fun h64 => ?_) ?_
        · refine sxo_take (os := _) rfl ?_
          refine sxo_isT (k := 93) rfl h64 ?_
          refine sxo_move rfl rfl rfl ?_
          refine sxo_eql rfl rfl rfl rfl ?_
          refine sxo_pick (b := true) rfl rfl rfl rfl ?_
          refine sxo_again (d := 96) (v := .bool (x63 && ((x14.2 : Int) == 0))) rfl (by rw [h64]; simp only [Bool.true_and]) ?_
          refine sxo_nil ?_
          exact sxq_case (lk_cons rfl (lk_cons rfl (lk_cons rfl (lk_cons rfl (lk_cons rfl lk_nil)))))
        · refine sxo_take (os := _) rfl ?_
          refine sxo_isF (k := 93) rfl h64 ?_
          refine sxo_skip rfl rfl rfl ?_
          refine sxo_skip rfl rfl rfl ?_
          refine sxo_pick (b := false) rfl rfl rfl rfl ?_
          refine sxo_again (d := 96) (v := .bool (x63 && ((x14.2 : Int) == 0))) rfl (by rw [h64]; simp only [Bool.false_and]) ?_
          refine sxo_nil ?_
          exact sxq_case (lk_cons rfl (lk_cons rfl (lk_cons rfl (lk_cons rfl (lk_cons rfl lk_nil)))))
        refine sxo_take (os := _) rfl ?_
        refine sxo_move rfl rfl rfl ?_
        refine sxo_join 4 (fun ((x69, _) : (Bool × Unit)) => [(10, .slice a21 x18.2.1.length c22), (11, .int .i64 x18.2.2), (13, .int .i64 x25.2), (101, .bool x69)]) (fun ((x69, _) : (Bool × Unit)) => []) (fun ((x69, _) : (Bool × Unit)) => [Ro (eI .i64) 3 1 (.slice a21 x18.2.1.length c22) x18.2.1]) (fun ((x69, _) : (Bool × Unit)) => []) (fun ((x69, _) : (Bool × Unit)) => M_L_graphBegun_j4 F x18 x25 x69) ?_ ?_
        · refine sxo_take (os := _) rfl ?_
          refine sxo_if (fun h65 => ?_) (fun h65 => ?_)
          · refine sxo_isT (k := 97) rfl h65 ?_
            refine sxo_move rfl rfl rfl ?_
            refine sxo_slit (vs := [.int .i64 2, .int .i64 0, .int .i64 1]) (ys := ([2, 0, 1] : List Int)) (eI_ok .i64) (by decide) rfl Try.underlying25 tf3 rfl rfl rfl rfl rfl (by decide) (fun a92 c93 => ?_)
            refine sxo_call ent19 rfl rfl rfl (fun x94 e94 => C_R_SameInts F x18.1 a19 c20 ([2, 0, 1] : List Int) a92 c93 x94 e94) (.consR 1 (Ro (eI .i64) 3 1 (.slice a19 x18.1.length c20) x18.1) rfl (.consR 0 (Ro (eI .i64) 3 1 (.slice a92 ([2, 0, 1] : List Int).length c93) ([2, 0, 1] : List Int)) rfl .nil)) (fun x94 e94 => ?_)
            intro _
            refine sxo_pick (b := true) rfl rfl rfl rfl ?_
            refine sxo_nil ?_
            exact sxq_meetP (x94, ()) (lk_cons rfl (lk_cons rfl (lk_cons rfl (lk_cons rfl lk_nil)))) .nil (.cons 2 rfl .nil) fk_nil
          · refine sxo_isF (k := 97) rfl h65 ?_
            refine sxo_skip rfl rfl rfl ?_
            refine sxo_skip rfl rfl rfl ?_
            refine sxo_skip rfl rfl rfl ?_
            refine sxo_pick (b := false) rfl rfl rfl rfl ?_
            refine sxo_nil ?_
            exact sxq_meetP (false, ()) (lk_cons rfl (lk_cons rfl (lk_cons rfl (lk_cons rfl lk_nil)))) .nil (.cons 1 rfl .nil) fk_nil
        · rintro ⟨x69, _⟩
          try dsimp only
          refine sxo_take (os := _) rfl ?_
          refine sxo_move rfl rfl rfl ?_
          refine sxo_join 4 (fun ((x74, _) : (Bool × Unit)) => [(11, .int .i64 x18.2.2), (13, .int .i64 x25.2), (106, .bool x74)]) (fun ((x74, _) : (Bool × Unit)) => []) (fun ((x74, _) : (Bool × Unit)) => []) (fun ((x74, _) : (Bool × Unit)) => []) (fun ((x74, _) : (Bool × Unit)) => M_L_graphBegun_j5 F x18 x25 x74) ?_ ?_
          · refine sxo_take (os := _) rfl ?_
            refine sxo_if (fun h70 => ?_) (fun h70 => ?_)
            · refine sxo_isT (k := 102) rfl h70 ?_
              refine sxo_move rfl rfl rfl ?_
              refine sxo_slit (vs := [.int .i64 2, .int .i64 1, .int .i64 0]) (ys := ([2, 1, 0] : List Int)) (eI_ok .i64) (by decide) rfl Try.underlying25 tf3 rfl rfl rfl rfl rfl (by decide) (fun a89 c90 => ?_)
              refine sxo_call ent19 rfl rfl rfl (fun x91 e91 => C_R_SameInts F x18.2.1 a21 c22 ([2, 1, 0] : List Int) a89 c90 x91 e91) (.consR 1 (Ro (eI .i64) 3 1 (.slice a21 x18.2.1.length c22) x18.2.1) rfl (.consR 0 (Ro (eI .i64) 3 1 (.slice a89 ([2, 1, 0] : List Int).length c90) ([2, 1, 0] : List Int)) rfl .nil)) (fun x91 e91 => ?_)
              intro _
              refine sxo_pick (b := true) rfl rfl rfl rfl ?_
              refine sxo_nil ?_
              exact sxq_meetP (x91, ()) (lk_cons rfl (lk_cons rfl (lk_cons rfl lk_nil))) .nil .nil fk_nil
            · refine sxo_isF (k := 102) rfl h70 ?_
              refine sxo_skip rfl rfl rfl ?_
              refine sxo_skip rfl rfl rfl ?_
              refine sxo_skip rfl rfl rfl ?_
              refine sxo_pick (b := false) rfl rfl rfl rfl ?_
              refine sxo_nil ?_
              exact sxq_meetP (false, ()) (lk_cons rfl (lk_cons rfl (lk_cons rfl lk_nil))) .nil .nil fk_nil
          · rintro ⟨x74, _⟩
            try dsimp only
            refine sxo_take (os := _) rfl ?_
            refine sxo_move rfl rfl rfl ?_
            refine sxo_case 3 x74 [(13, .int .i64 x25.2), (110, .bool (x74 && ((x18.2.2 : Int) == 0)))] (fun h75 => ?_) (fun h75 => ?_) ?_
            · refine sxo_take (os := _) rfl ?_
              refine sxo_isT (k := 107) rfl h75 ?_
              refine sxo_move rfl rfl rfl ?_
              refine sxo_eql rfl rfl rfl rfl ?_
              refine sxo_pick (b := true) rfl rfl rfl rfl ?_
              refine sxo_again (d := 110) (v := .bool (x74 && ((x18.2.2 : Int) == 0))) rfl (by rw [h75]; simp only [Bool.true_and]) ?_
              refine sxo_nil ?_
              exact sxq_case (lk_cons rfl (lk_cons rfl lk_nil))
            · refine sxo_take (os := _) rfl ?_
              refine sxo_isF (k := 107) rfl h75 ?_
              refine sxo_skip rfl rfl rfl ?_
              refine sxo_skip rfl rfl rfl ?_
              refine sxo_pick (b := false) rfl rfl rfl rfl ?_
              refine sxo_again (d := 110) (v := .bool (x74 && ((x18.2.2 : Int) == 0))) rfl (by rw [h75]; simp only [Bool.false_and]) ?_
              refine sxo_nil ?_
              exact sxq_case (lk_cons rfl (lk_cons rfl lk_nil))
            refine sxo_take (os := _) rfl ?_
            refine sxo_move rfl rfl rfl ?_
            refine sxo_case 3 (x74 && ((x18.2.2 : Int) == 0)) [(114, .bool ((x74 && ((x18.2.2 : Int) == 0)) && ((x25.2 : Int) == 6)))] (fun h76 => ?_) (fun h76 => ?_) ?_
            · refine sxo_take (os := _) rfl ?_
              refine sxo_isT (k := 111) rfl h76 ?_
              refine sxo_move rfl rfl rfl ?_
              refine sxo_eql rfl rfl rfl rfl ?_
              refine sxo_pick (b := true) rfl rfl rfl rfl ?_
              refine sxo_again (d := 114) (v := .bool ((x74 && ((x18.2.2 : Int) == 0)) && ((x25.2 : Int) == 6))) rfl (by rw [h76]; simp only [Bool.true_and]) ?_
              refine sxo_nil ?_
              exact sxq_case (lk_cons rfl lk_nil)
            · refine sxo_take (os := _) rfl ?_
              refine sxo_isF (k := 111) rfl h76 ?_
              refine sxo_skip rfl rfl rfl ?_
              refine sxo_skip rfl rfl rfl ?_
              refine sxo_pick (b := false) rfl rfl rfl rfl ?_
              refine sxo_again (d := 114) (v := .bool ((x74 && ((x18.2.2 : Int) == 0)) && ((x25.2 : Int) == 6))) rfl (by rw [h76]; simp only [Bool.false_and]) ?_
              refine sxo_nil ?_
              exact sxq_case (lk_cons rfl lk_nil)
            refine sxo_take (os := _) rfl ?_
            refine sxo_move rfl rfl rfl ?_
            refine sxo_join 6 (fun ((x83, _) : (Bool × Unit)) => [(121, .bool x83)]) (fun ((x83, _) : (Bool × Unit)) => []) (fun ((x83, _) : (Bool × Unit)) => []) (fun ((x83, _) : (Bool × Unit)) => []) (fun ((x83, _) : (Bool × Unit)) => M_L_graphBegun_j6 F x83) ?_ ?_
            · refine sxo_take (os := _) rfl ?_
              refine sxo_if (fun h77 => ?_) (fun h77 => ?_)
              · refine sxo_isT (k := 115) rfl h77 ?_
                refine sxo_slit (vs := [.int .i64 1]) (ys := ([1] : List Int)) (eI_ok .i64) (by decide) rfl Try.underlying25 tf3 rfl rfl rfl rfl rfl (by decide) (fun a84 c85 => ?_)
                refine sxo_freeze 0 rfl ?_
                refine sxo_slit (vs := [.slice a84 ([1] : List Int).length c85]) (ys := ([(([1] : List Int), (a84, c85))] : List (List Int × (Option Addr × Nat)))) eN25_ok (by decide) rfl Try.underlying22 tf25 rfl rfl rfl rfl rfl (by decide) (fun a86 c87 => ?_)
                refine sxo_nestF (inn := iN25) ([([1] : List Int)] : List (List Int)) ([(a84, c85)] : List (Option Addr × Nat)) 0 rfl rfl (fk_cons 0 rfl fk_nil) ?_
                refine sxo_build (cells := [.slice a86 ([([1] : List Int)] : List (List Int)).length c87]) rfl st24 rfl (by kernel_rfl) rfl ?_
                refine sxo_call ent31 rfl rfl rfl (fun x88 e88 => C_graph_Check F ([([1] : List Int)] : List (List Int)) a86 (c87, ([(a84, c85)] : List (Option Addr × Nat))) x88 e88) (.consF 0 rfl .nil) (fun x88 e88 => ?_)
                intro _
                refine sxo_eql rfl rfl rfl rfl ?_
                refine sxo_pick (b := true) rfl rfl rfl rfl ?_
                refine sxo_nil ?_
                exact sxq_meetP (((x88 : Int) == 3), ()) (lk_cons rfl lk_nil) .nil .nil fk_nil
              · refine sxo_isF (k := 115) rfl h77 ?_
                refine sxo_skip rfl rfl rfl ?_
                refine sxo_skip rfl rfl rfl ?_
                refine sxo_skip rfl rfl rfl ?_
                refine sxo_skip rfl rfl rfl ?_
                refine sxo_skip rfl rfl rfl ?_
                refine sxo_pick (b := false) rfl rfl rfl rfl ?_
                refine sxo_nil ?_
                exact sxq_meetP (false, ()) (lk_cons rfl lk_nil) .nil .nil fk_nil
            · rintro ⟨x83, _⟩
              try dsimp only
              refine sxo_take (os := _) rfl ?_
              refine sxo_assign rfl rfl rfl ?_
              refine sxo_nil ?_
              refine sxq_next ?_
              refine sxc_ret ?_
              exact sxq_doneP () (.inl rfl) (res1 rfl rfl) (fun h => by subst h; rfl) (fun h => by subst h; exact .nil)

set_option maxHeartbeats 4000000 in
theorem C_L_StrongBack (F : Nat) (x1 : List (List Int)) (a2 : Option Addr) (c3 : (Nat × List (Option Addr × Nat))) (x4 : Int) (x5 : Int) (r : Bool) (hm : M_L_StrongBack F x1 x4 x5 = some r) :
    Pure Try.prog 7 [.agg #[.slice a2 x1.length c3.1], .agg #[.int .i64 x4, .int .i64 x5]] [SlN eN25 iN25 1 (.slice a2 x1.length c3.1) x1 c3.2] Unit (fun _ => .bool r) (fun _ => []) (fun _ => []) := by
  refine pure_of Try.func7 rfl Try.ntmps7 rfl hm (fun w => ?_)
  refine sxc_env (l' := [(0, .agg #[.slice a2 x1.length c3.1]), (1, .agg #[.int .i64 x4, .int .i64 x5])]) rfl ?_
  refine sxc_seq ?_
  refine sxc_region ?_
  refine sxo_box rfl rfl rfl (fun g6 => ?_)
  refine sxo_box rfl rfl rfl (fun g7 => ?_)
  refine sxo_assign rfl rfl rfl ?_
  refine sxo_nil ?_
  refine sxq_next ?_
  refine sxc_seq ?_
  refine sxc_region ?_
  refine sxo_loadB (i := 1) rfl rfl tf24 rfl rfl (by simp) rfl rfl ?_
  refine sxo_call ent12 rfl rfl rfl (fun x8 e8 => C_strong_Order F x1 a2 c3 x8 e8) (.consF 0 rfl .nil) (fun x8 e8 => ?_)
  rintro ⟨a9, c10⟩
  refine sxo_move rfl rfl rfl ?_
  refine sxo_extract rfl rfl rfl rfl ?_
  refine sxo_extract rfl rfl rfl rfl ?_
  refine sxo_assign rfl rfl rfl ?_
  refine sxo_assign rfl rfl rfl ?_
  refine sxo_nil ?_
  refine sxq_next ?_
  refine sxc_seq ?_
  refine sxc_region ?_
  refine sxo_loadB (i := 1) rfl rfl tf24 rfl rfl (by simp) rfl rfl ?_
  refine sxo_call ent24 rfl rfl rfl (fun x11 e11 => C_graph_Turn F x1 a2 c3 x11 e11) (.consF 0 rfl .nil) (fun x11 e11 => ?_)
  rintro ⟨a12, c13⟩
  refine sxo_move rfl rfl rfl ?_
  refine sxo_extract rfl rfl rfl rfl ?_
  refine sxo_extract rfl rfl rfl rfl ?_
  refine sxo_alloc rfl tf24 rfl (fun g14 => ?_)
  refine sxo_storeB (i := 0) rfl rfl rfl tf24 rfl rfl rfl rfl rfl ?_
  refine sxo_assign rfl rfl rfl ?_
  refine sxo_nil ?_
  refine sxq_next ?_
  refine sxc_seq ?_
  refine sxc_seq ?_
  refine sxc_region ?_
  refine sxo_call ent18 rfl rfl rfl (fun x21 e21 => C_L_strongBegun F  x21 e21) .nil (fun x21 e21 => ?_)
  intro _
  refine sxo_not rfl rfl rfl ?_
  refine sxo_move rfl rfl rfl ?_
  refine sxo_join 3 (fun ((x24, _) : (Bool × Unit)) => [(2, .pointer (some ⟨g6, 0, none⟩)), (3, .pointer (some ⟨g7, 0, none⟩)), (5, .slice a9 x8.1.length c10), (6, .int .i64 x8.2), (7, .pointer (some ⟨g14, 0, none⟩)), (8, .int .i64 x11.2), (28, .bool x24)]) (fun ((x24, _) : (Bool × Unit)) => [⟨g14, 24, [.slice a12 x11.1.length c13.1]⟩, ⟨g7, 48, [.int .i64 x4, .int .i64 x5]⟩, ⟨g6, 24, [.slice a2 x1.length c3.1]⟩]) (fun ((x24, _) : (Bool × Unit)) => [Ro (eI .i64) 3 1 (.slice a9 x8.1.length c10) x8.1, RoN eN25 rN25 25 1 (.slice a12 x11.1.length c13.1) x11.1 c13.2 []]) (fun ((x24, _) : (Bool × Unit)) => [SlN eN25 iN25 1 (.slice a2 x1.length c3.1) x1 c3.2]) (fun ((x24, _) : (Bool × Unit)) => M_L_StrongBack_j2 F x1 x4 x5 x8 x11 x24) ?_ ?_
  · refine sxo_take (os := _) rfl ?_
    refine sxo_if (fun h22 => ?_) (fun h22 => ?_)
    · refine sxo_isT (k := 25) rfl h22 ?_
      refine sxo_skip rfl rfl rfl ?_
      refine sxo_skip rfl rfl rfl ?_
      refine sxo_pick (b := true) rfl rfl rfl rfl ?_
      refine sxo_nil ?_
      exact sxq_meetP (true, ()) (lk_cons rfl (lk_cons rfl (lk_cons rfl (lk_cons rfl (lk_cons rfl (lk_cons rfl (lk_cons rfl lk_nil))))))) (.cons 0 rfl (.cons 0 rfl (.cons 0 rfl .nil))) (.cons 1 rfl (.cons 0 rfl .nil)) (fk_cons 0 rfl fk_nil)
    · refine sxo_isF (k := 25) rfl h22 ?_
      refine sxo_call ent25 rfl rfl rfl (fun x417 e417 => C_L_graphBegun F  x417 e417) .nil (fun x417 e417 => ?_)
      intro _
      refine sxo_not rfl rfl rfl ?_
      refine sxo_pick (b := false) rfl rfl rfl rfl ?_
      refine sxo_nil ?_
      exact sxq_meetP ((!x417), ()) (lk_cons rfl (lk_cons rfl (lk_cons rfl (lk_cons rfl (lk_cons rfl (lk_cons rfl (lk_cons rfl lk_nil))))))) (.cons 0 rfl (.cons 0 rfl (.cons 0 rfl .nil))) (.cons 1 rfl (.cons 0 rfl .nil)) (fk_cons 0 rfl fk_nil)
  · rintro ⟨x24, _⟩
    try dsimp only
    refine sxo_take (os := _) rfl ?_
    refine sxo_nil ?_
    refine sxq_next ?_
    refine sxc_if rfl (fun h416 => ?_) (fun h416 => ?_)
    · refine sxc_seq ?_
      refine sxc_region ?_
      refine sxo_assign rfl rfl rfl ?_
      refine sxo_nil ?_
      refine sxq_next ?_
      refine sxc_ret ?_
      refine sxq_thenR ?_
      exact sxq_doneP () (.inl rfl) (res1 rfl rfl) (fun h => by subst h; rfl) (fun h => by subst h; exact .nil)
    · refine sxc_skip ?_
      refine sxq_next ?_
      refine sxc_seq ?_
      refine sxc_region ?_
      refine sxo_fieldAddr rfl rfl ff24_0 rfl ?_
      refine sxo_loadB (i := 2) rfl rfl tf22 rfl rfl (fun _ => rfl) rfl rfl ?_
      refine sxo_len rfl Try.underlying22 rfl rfl ?_
      refine sxo_assign rfl rfl rfl ?_
      refine sxo_nil ?_
      refine sxq_next ?_
      refine sxc_seq ?_
      refine sxc_seq ?_
      refine sxc_region ?_
      refine sxo_move rfl rfl rfl ?_
      refine sxo_neq rfl rfl rfl rfl ?_
      refine sxo_move rfl rfl rfl ?_
      refine sxo_case 3 ((x8.2 : Int) != 0) [(3, .pointer (some ⟨g7, 0, none⟩)), (5, .slice a9 x8.1.length c10), (7, .pointer (some ⟨g14, 0, none⟩)), (9, .int .i64 (x1.length : Int)), (37, .bool (((x8.2 : Int) != 0) || ((x11.2 : Int) != 0)))] (fun h35 => ?_) (fun h35 => ?_) ?_
      · refine sxo_take (os := _) rfl ?_
        refine sxo_isT (k := 34) rfl h35 ?_
        refine sxo_skip rfl rfl rfl ?_
        refine sxo_skip rfl rfl rfl ?_
        refine sxo_pick (b := true) rfl rfl rfl rfl ?_
        refine sxo_again (d := 37) (v := .bool (((x8.2 : Int) != 0) || ((x11.2 : Int) != 0))) rfl (by rw [h35]; simp only [Bool.true_or]) ?_
        refine sxo_nil ?_
        exact sxq_case (lk_cons rfl (lk_cons rfl (lk_cons rfl (lk_cons rfl (lk_cons rfl lk_nil)))))
      · refine sxo_take (os := _) rfl ?_
        refine sxo_isF (k := 34) rfl h35 ?_
        refine sxo_move rfl rfl rfl ?_
        refine sxo_neq rfl rfl rfl rfl ?_
        refine sxo_pick (b := false) rfl rfl rfl rfl ?_
        refine sxo_again (d := 37) (v := .bool (((x8.2 : Int) != 0) || ((x11.2 : Int) != 0))) rfl (by rw [h35]; simp only [Bool.false_or]) ?_
        refine sxo_nil ?_
        exact sxq_case (lk_cons rfl (lk_cons rfl (lk_cons rfl (lk_cons rfl (lk_cons rfl lk_nil)))))
      refine sxo_take (os := _) rfl ?_
      refine sxo_move rfl rfl rfl ?_
      refine sxo_case 4 (((x8.2 : Int) != 0) || ((x11.2 : Int) != 0)) [(3, .pointer (some ⟨g7, 0, none⟩)), (5, .slice a9 x8.1.length c10), (7, .pointer (some ⟨g14, 0, none⟩)), (9, .int .i64 (x1.length : Int)), (42, .bool ((((x8.2 : Int) != 0) || ((x11.2 : Int) != 0)) || (decide (x4 < 0))))] (fun h36 => ?_) (fun h36 => ?_) ?_
      · refine sxo_take (os := _) rfl ?_
        refine sxo_isT (k := 38) rfl h36 ?_
        refine sxo_skip rfl rfl rfl ?_
        refine sxo_skip rfl rfl rfl ?_
        refine sxo_skip rfl rfl rfl ?_
        refine sxo_pick (b := true) rfl rfl rfl rfl ?_
        refine sxo_again (d := 42) (v := .bool ((((x8.2 : Int) != 0) || ((x11.2 : Int) != 0)) || (decide (x4 < 0)))) rfl (by rw [h36]; simp only [Bool.true_or]) ?_
        refine sxo_nil ?_
        exact sxq_case (lk_cons rfl (lk_cons rfl (lk_cons rfl (lk_cons rfl (lk_cons rfl lk_nil)))))
      · refine sxo_take (os := _) rfl ?_
        refine sxo_isF (k := 38) rfl h36 ?_
        refine sxo_fieldAddr rfl rfl ff48_0 rfl ?_
        refine sxo_loadB (i := 1) rfl rfl tf3 rfl rfl (fun _ => rfl) rfl rfl ?_
        refine sxo_lss rfl rfl rfl rfl ?_
        refine sxo_pick (b := false) rfl rfl rfl rfl ?_
        refine sxo_again (d := 42) (v := .bool ((((x8.2 : Int) != 0) || ((x11.2 : Int) != 0)) || (decide (x4 < 0)))) rfl (by rw [h36]; simp only [Bool.false_or]) ?_
        refine sxo_nil ?_
        exact sxq_case (lk_cons rfl (lk_cons rfl (lk_cons rfl (lk_cons rfl (lk_cons rfl lk_nil)))))
      refine sxo_take (os := _) rfl ?_
      refine sxo_move rfl rfl rfl ?_
      refine sxo_case 5 ((((x8.2 : Int) != 0) || ((x11.2 : Int) != 0)) || (decide (x4 < 0))) [(3, .pointer (some ⟨g7, 0, none⟩)), (5, .slice a9 x8.1.length c10), (7, .pointer (some ⟨g14, 0, none⟩)), (9, .int .i64 (x1.length : Int)), (48, .bool (((((x8.2 : Int) != 0) || ((x11.2 : Int) != 0)) || (decide (x4 < 0))) || (decide ((x1.length : Int) ≤ x4))))] (fun h37 => ?_) (fun h37 => ?_) ?_
      · refine sxo_take (os := _) rfl ?_
        refine sxo_isT (k := 43) rfl h37 ?_
        refine sxo_skip rfl rfl rfl ?_
        refine sxo_skip rfl rfl rfl ?_
        refine sxo_skip rfl rfl rfl ?_
        refine sxo_skip rfl rfl rfl ?_
        refine sxo_pick (b := true) rfl rfl rfl rfl ?_
        refine sxo_again (d := 48) (v := .bool (((((x8.2 : Int) != 0) || ((x11.2 : Int) != 0)) || (decide (x4 < 0))) || (decide ((x1.length : Int) ≤ x4)))) rfl (by rw [h37]; simp only [Bool.true_or]) ?_
        refine sxo_nil ?_
        exact sxq_case (lk_cons rfl (lk_cons rfl (lk_cons rfl (lk_cons rfl (lk_cons rfl lk_nil)))))
      · refine sxo_take (os := _) rfl ?_
        refine sxo_isF (k := 43) rfl h37 ?_
        refine sxo_fieldAddr rfl rfl ff48_0 rfl ?_
        refine sxo_loadB (i := 1) rfl rfl tf3 rfl rfl (fun _ => rfl) rfl rfl ?_
        refine sxo_move rfl rfl rfl ?_
        refine sxo_geq rfl rfl rfl rfl ?_
        refine sxo_pick (b := false) rfl rfl rfl rfl ?_
        refine sxo_again (d := 48) (v := .bool (((((x8.2 : Int) != 0) || ((x11.2 : Int) != 0)) || (decide (x4 < 0))) || (decide ((x1.length : Int) ≤ x4)))) rfl (by rw [h37]; simp only [Bool.false_or]) ?_
        refine sxo_nil ?_
        exact sxq_case (lk_cons rfl (lk_cons rfl (lk_cons rfl (lk_cons rfl (lk_cons rfl lk_nil)))))
      refine sxo_take (os := _) rfl ?_
      refine sxo_move rfl rfl rfl ?_
      refine sxo_case 4 (((((x8.2 : Int) != 0) || ((x11.2 : Int) != 0)) || (decide (x4 < 0))) || (decide ((x1.length : Int) ≤ x4))) [(3, .pointer (some ⟨g7, 0, none⟩)), (5, .slice a9 x8.1.length c10), (7, .pointer (some ⟨g14, 0, none⟩)), (9, .int .i64 (x1.length : Int)), (53, .bool ((((((x8.2 : Int) != 0) || ((x11.2 : Int) != 0)) || (decide (x4 < 0))) || (decide ((x1.length : Int) ≤ x4))) || (decide (x5 < 0))))] (fun h38 => ?_) (fun h38 => ?_) ?_
      · refine sxo_take (os := _) rfl ?_
        refine sxo_isT (k := 49) rfl h38 ?_
        refine sxo_skip rfl rfl rfl ?_
        refine sxo_skip rfl rfl rfl ?_
        refine sxo_skip rfl rfl rfl ?_
        refine sxo_pick (b := true) rfl rfl rfl rfl ?_
        refine sxo_again (d := 53) (v := .bool ((((((x8.2 : Int) != 0) || ((x11.2 : Int) != 0)) || (decide (x4 < 0))) || (decide ((x1.length : Int) ≤ x4))) || (decide (x5 < 0)))) rfl (by rw [h38]; simp only [Bool.true_or]) ?_
        refine sxo_nil ?_
        exact sxq_case (lk_cons rfl (lk_cons rfl (lk_cons rfl (lk_cons rfl (lk_cons rfl lk_nil)))))
      · refine sxo_take (os := _) rfl ?_
        refine sxo_isF (k := 49) rfl h38 ?_
        refine sxo_fieldAddr rfl rfl ff48_1 rfl ?_
        refine sxo_loadB (i := 1) rfl rfl tf3 rfl rfl (fun _ => rfl) rfl rfl ?_
        refine sxo_lss rfl rfl rfl rfl ?_
        refine sxo_pick (b := false) rfl rfl rfl rfl ?_
        refine sxo_again (d := 53) (v := .bool ((((((x8.2 : Int) != 0) || ((x11.2 : Int) != 0)) || (decide (x4 < 0))) || (decide ((x1.length : Int) ≤ x4))) || (decide (x5 < 0)))) rfl (by rw [h38]; simp only [Bool.false_or]) ?_
        refine sxo_nil ?_
        exact sxq_case (lk_cons rfl (lk_cons rfl (lk_cons rfl (lk_cons rfl (lk_cons rfl lk_nil)))))
      refine sxo_take (os := _) rfl ?_
      refine sxo_move rfl rfl rfl ?_
      refine sxo_case 5 ((((((x8.2 : Int) != 0) || ((x11.2 : Int) != 0)) || (decide (x4 < 0))) || (decide ((x1.length : Int) ≤ x4))) || (decide (x5 < 0))) [(3, .pointer (some ⟨g7, 0, none⟩)), (5, .slice a9 x8.1.length c10), (7, .pointer (some ⟨g14, 0, none⟩)), (59, .bool (((((((x8.2 : Int) != 0) || ((x11.2 : Int) != 0)) || (decide (x4 < 0))) || (decide ((x1.length : Int) ≤ x4))) || (decide (x5 < 0))) || (decide ((x1.length : Int) ≤ x5))))] (fun h39 => ?_) (fun h39 => ?_) ?_
      · refine sxo_take (os := _) rfl ?_
        refine sxo_isT (k := 54) rfl h39 ?_
        refine sxo_skip rfl rfl rfl ?_
        refine sxo_skip rfl rfl rfl ?_
        refine sxo_skip rfl rfl rfl ?_
        refine sxo_skip rfl rfl rfl ?_
        refine sxo_pick (b := true) rfl rfl rfl rfl ?_
        refine sxo_again (d := 59) (v := .bool (((((((x8.2 : Int) != 0) || ((x11.2 : Int) != 0)) || (decide (x4 < 0))) || (decide ((x1.length : Int) ≤ x4))) || (decide (x5 < 0))) || (decide ((x1.length : Int) ≤ x5)))) rfl (by rw [h39]; simp only [Bool.true_or]) ?_
        refine sxo_nil ?_
        exact sxq_case (lk_cons rfl (lk_cons rfl (lk_cons rfl (lk_cons rfl lk_nil))))
      · refine sxo_take (os := _) rfl ?_
        refine sxo_isF (k := 54) rfl h39 ?_
        refine sxo_fieldAddr rfl rfl ff48_1 rfl ?_
        refine sxo_loadB (i := 1) rfl rfl tf3 rfl rfl (fun _ => rfl) rfl rfl ?_
        refine sxo_move rfl rfl rfl ?_
        refine sxo_geq rfl rfl rfl rfl ?_
        refine sxo_pick (b := false) rfl rfl rfl rfl ?_
        refine sxo_again (d := 59) (v := .bool (((((((x8.2 : Int) != 0) || ((x11.2 : Int) != 0)) || (decide (x4 < 0))) || (decide ((x1.length : Int) ≤ x4))) || (decide (x5 < 0))) || (decide ((x1.length : Int) ≤ x5)))) rfl (by rw [h39]; simp only [Bool.false_or]) ?_
        refine sxo_nil ?_
        exact sxq_case (lk_cons rfl (lk_cons rfl (lk_cons rfl (lk_cons rfl lk_nil))))
      refine sxo_take (os := _) rfl ?_
      refine sxo_move rfl rfl rfl ?_
      refine sxo_join 8 (fun ((x42, _) : (Bool × Unit)) => [(3, .pointer (some ⟨g7, 0, none⟩)), (5, .slice a9 x8.1.length c10), (68, .bool x42)]) (fun ((x42, _) : (Bool × Unit)) => [⟨g7, 48, [.int .i64 x4, .int .i64 x5]⟩]) (fun ((x42, _) : (Bool × Unit)) => [Ro (eI .i64) 3 1 (.slice a9 x8.1.length c10) x8.1]) (fun ((x42, _) : (Bool × Unit)) => []) (fun ((x42, _) : (Bool × Unit)) => M_L_StrongBack_j4 F x4 x5 x8 x42) ?_ ?_
      · refine sxo_take (os := _) rfl ?_
        refine sxo_if (fun h40 => ?_) (fun h40 => ?_)
        · refine sxo_isT (k := 60) rfl h40 ?_
          refine sxo_skip rfl rfl rfl ?_
          refine sxo_skip rfl rfl rfl ?_
          refine sxo_skip rfl rfl rfl ?_
          refine sxo_skip rfl rfl rfl ?_
          refine sxo_skip rfl rfl rfl ?_
          refine sxo_skip rfl rfl rfl ?_
          refine sxo_skip rfl rfl rfl ?_
          refine sxo_pick (b := true) rfl rfl rfl rfl ?_
          refine sxo_nil ?_
          exact sxq_meetP (true, ()) (lk_cons rfl (lk_cons rfl (lk_cons rfl lk_nil))) (.cons 1 rfl .nil) (.cons 0 rfl .nil) fk_nil
        · refine sxo_isF (k := 60) rfl h40 ?_
          refine sxo_loadB (i := 0) rfl rfl tf24 rfl rfl (by simp) rfl rfl ?_
          refine sxo_fieldAddr rfl rfl ff48_0 rfl ?_
          refine sxo_loadB (i := 1) rfl rfl tf3 rfl rfl (fun _ => rfl) rfl rfl ?_
          refine sxo_fieldAddr rfl rfl ff48_1 rfl ?_
          refine sxo_loadB (i := 1) rfl rfl tf3 rfl rfl (fun _ => rfl) rfl rfl ?_
          refine sxo_call ent21 rfl rfl rfl (fun x415 e415 => C_R_Leads F x11.1 a12 c13 x4 x5 x415 e415) (.consG 1 rfl (nest_sl rN25_in) .nil) (fun x415 e415 => ?_)
          intro _
          refine sxo_not rfl rfl rfl ?_
          refine sxo_pick (b := false) rfl rfl rfl rfl ?_
          refine sxo_nil ?_
          exact sxq_meetP ((!x415), ()) (lk_cons rfl (lk_cons rfl (lk_cons rfl lk_nil))) (.cons 1 rfl .nil) (.cons 0 rfl .nil) fk_nil
      · rintro ⟨x42, _⟩
        try dsimp only
        refine sxo_take (os := _) rfl ?_
        refine sxo_nil ?_
        refine sxq_next ?_
        refine sxc_if rfl (fun h414 => ?_) (fun h414 => ?_)
        · refine sxc_seq ?_
          refine sxc_region ?_
          refine sxo_assign rfl rfl rfl ?_
          refine sxo_nil ?_
          refine sxq_next ?_
          refine sxc_ret ?_
          refine sxq_thenR ?_
          exact sxq_doneP () (.inl rfl) (res1 rfl rfl) (fun h => by subst h; rfl) (fun h => by subst h; exact .nil)
        · refine sxc_skip ?_
          refine sxq_next ?_
          refine sxc_seq ?_
          refine sxc_region ?_
          refine sxo_assign rfl rfl rfl ?_
          refine sxo_assign rfl rfl rfl ?_
          refine sxo_nil ?_
          refine sxq_next ?_
          refine sxc_join (fun (((x227, x228), _) : ((Int × Int) × Unit)) => [(10, .int .i64 x227), (11, .int .i64 x228)]) (fun (((x227, x228), _) : ((Int × Int) × Unit)) => []) (fun (((x227, x228), _) : ((Int × Int) × Unit)) => []) (fun (((x227, x228), _) : ((Int × Int) × Unit)) => []) (fun (((x227, x228), _) : ((Int × Int) × Unit)) => M_L_StrongBack_j15 F x227 x228) ?_ ?_
          · refine sxc_seq ?_
            refine sxc_region ?_
            refine sxo_assign rfl rfl rfl ?_
            refine sxo_nil ?_
            refine sxq_next ?_
            refine sxc_block ?_
            refine sxc_loopP (fun (((x290, x291, x292), _) : ((Int × Int × Int) × Unit)) => [(3, .pointer (some ⟨g7, 0, none⟩)), (5, .slice a9 x8.1.length c10), (10, .int .i64 x290), (11, .int .i64 x291), (12, .int .i64 x292)]) (fun (((x290, x291, x292), _) : ((Int × Int × Int) × Unit)) => [⟨g7, 48, [.int .i64 x4, .int .i64 x5]⟩]) (fun (((x290, x291, x292), _) : ((Int × Int × Int) × Unit)) => [Ro (eI .i64) 3 1 (.slice a9 x8.1.length c10) x8.1]) (fun (((x290, x291, x292), _) : ((Int × Int × Int) × Unit)) => []) (fun k (s : ((Int × Int × Int) × Unit)) => M_L_StrongBack_l22 F x4 x5 x8 k s.1) ((-1, -1, 0), ()) F (lk_cons rfl (lk_cons rfl (lk_cons rfl (lk_cons rfl (lk_cons rfl lk_nil))))) (.cons 0 rfl .nil) (.cons 0 rfl .nil) fk_nil (fun _ => rfl) ?_
            intro k353
            rintro ⟨⟨x290, x291, x292⟩, _⟩
            try dsimp only
            refine sxc_meq (m' := M_L_StrongBack_b22 F x4 x5 x8 (M_L_StrongBack_l22 F x4 x5 x8 k353) x290 x291 x292) rfl ?_
            refine sxc_seq ?_
            refine sxc_seq ?_
            refine sxc_region ?_
            refine sxo_move rfl rfl rfl ?_
            refine sxo_move rfl rfl rfl ?_
            refine sxo_len rfl Try.underlying25 rfl rfl ?_
            refine sxo_lss rfl rfl rfl rfl ?_
            refine sxo_nil ?_
            refine sxq_next ?_
            refine sxc_if rfl (fun h413 => ?_) (fun h413 => ?_)
            · refine sxc_skip ?_
              refine sxq_next ?_
              refine sxc_join (fun (((x383, x384), _) : ((Int × Int) × Unit)) => [(3, .pointer (some ⟨g7, 0, none⟩)), (5, .slice a9 x8.1.length c10), (10, .int .i64 x383), (11, .int .i64 x384), (12, .int .i64 x292)]) (fun (((x383, x384), _) : ((Int × Int) × Unit)) => [⟨g7, 48, [.int .i64 x4, .int .i64 x5]⟩]) (fun (((x383, x384), _) : ((Int × Int) × Unit)) => [Ro (eI .i64) 3 1 (.slice a9 x8.1.length c10) x8.1]) (fun (((x383, x384), _) : ((Int × Int) × Unit)) => []) (fun (((x383, x384), _) : ((Int × Int) × Unit)) => M_L_StrongBack_j24 F (M_L_StrongBack_l22 F x4 x5 x8 k353) x292 x383 x384) ?_ ?_
              · refine sxc_block ?_
                refine sxc_join (fun ((x394, _) : (Int × Unit)) => [(3, .pointer (some ⟨g7, 0, none⟩)), (5, .slice a9 x8.1.length c10), (10, .int .i64 x394), (11, .int .i64 x291), (12, .int .i64 x292)]) (fun ((x394, _) : (Int × Unit)) => [⟨g7, 48, [.int .i64 x4, .int .i64 x5]⟩]) (fun ((x394, _) : (Int × Unit)) => [Ro (eI .i64) 3 1 (.slice a9 x8.1.length c10) x8.1]) (fun ((x394, _) : (Int × Unit)) => []) (fun ((x394, _) : (Int × Unit)) => M_L_StrongBack_j25 F (M_L_StrongBack_l22 F x4 x5 x8 k353) x5 x8 x291 x292 x394) ?_ ?_
                · refine sxc_seq ?_
                  refine sxc_idxO (j := 0) rfl (fun x408 e408 g409 h410 => ?_)
                  replace h410 : a9 = some ⟨g409, 0, none⟩ := h410
                  have h411 := own_of (k := x8.1.length) (c := c10) h410
                  refine sxb_draw mixed [] [⟨g7, 48, [.int .i64 x4, .int .i64 x5]⟩] [CellsAt g409 (x292.toNat * 1) ((eI .i64) x408)] (.cons 0 rfl .nil) (gk_R 0 rfl (at_row (eI_ok .i64) e408 h410) gk_nil) 7 rfl ?_
                  refine sxb_takeP 0 (.slice a9 x8.1.length c10) rfl rfl rfl rfl (by kernel_rfl) (by kernel_rfl) (by kernel_rfl) (by kernel_rfl) (by kernel_rfl) rfl (show _ = #[true, false, false, false, false, false, false] from rfl) (yv_pv rfl) ?_
                  refine sxb_takeP 1 (.int .i64 x292) rfl rfl rfl rfl (by kernel_rfl) (by kernel_rfl) (by kernel_rfl) (by kernel_rfl) (by kernel_rfl) rfl (show _ = #[true, true, false, false, false, false, false] from rfl) (yv_pv rfl) ?_
                  refine sxb_again (d := 75) (v := .slice (some ⟨g409, 0, none⟩) x8.1.length c10) rfl (by rw [h410] <;> rfl) ?_
                  refine sxb_takeP 2 (.pointer (some ⟨g409, x292.toNat * 1, none⟩)) rfl rfl rfl rfl (by kernel_rfl) (by kernel_rfl) (by kernel_rfl) (by kernel_rfl) (by kernel_rfl) rfl (show _ = #[true, true, true, false, false, false, false] from rfl) (yv_idxO Try.underlying25 tf3 rfl rfl (idx_get e408).1 (idx_lt e408)) ?_
                  refine sxb_again (d := 75) (v := .slice a9 x8.1.length c10) rfl (by rw [h410] <;> rfl) ?_
                  refine sxb_take 3 (.int .i64 x408) [] rfl rfl rfl rfl (by kernel_rfl) (by kernel_rfl) (by kernel_rfl) (by kernel_rfl) (by kernel_rfl) (by kernel_rfl) rfl (show _ = #[true, true, true, true, false, false, false] from rfl) (yv_loadF (j := 0) rfl tf3 rfl rfl (fun _ => rfl) rfl) ?_
                  refine sxb_takeP 4 (.pointer (some ⟨g7, 0, none⟩)) rfl rfl rfl rfl (by kernel_rfl) (by kernel_rfl) (by kernel_rfl) (by kernel_rfl) (by kernel_rfl) rfl (show _ = #[true, true, true, true, true, false, false] from rfl) (yv_fieldAddr rfl ff48_0) ?_
                  refine sxb_takeB 5 (.int .i64 x4) rfl rfl rfl rfl (by kernel_rfl) (by kernel_rfl) (by kernel_rfl) (by kernel_rfl) (by kernel_rfl) rfl (show _ = #[true, true, true, true, true, true, false] from rfl) (yv_loadB (i := 0) rfl tf3 rfl rfl (fun _ => rfl) rfl) ?_
                  refine sxb_takeP 6 (.bool ((x408 : Int) == x4)) rfl rfl rfl rfl (by kernel_rfl) (by kernel_rfl) (by kernel_rfl) (by kernel_rfl) (by kernel_rfl) rfl (show _ = #[true, true, true, true, true, true, true] from rfl) (yv_pv rfl) ?_
                  refine sxb_done (by kernel_rfl) ?_
                  refine sxq_np ?_ (by intro c h; cases h)
                  refine sxq_next ?_
                  refine sxc_if rfl (fun h412 => ?_) (fun h412 => ?_)
                  · refine sxc_region ?_
                    refine sxo_move rfl rfl rfl ?_
                    refine sxo_assign rfl rfl rfl ?_
                    refine sxo_nil ?_
                    exact sxq_meetP (x292, ()) (lk_cons rfl (lk_cons rfl (lk_cons rfl (lk_cons rfl (lk_cons rfl lk_nil))))) (.cons 0 rfl .nil) (.cons 0 rfl .nil) fk_nil
                  · refine sxc_skip ?_
                    exact sxq_meetP (x290, ()) (lk_cons rfl (lk_cons rfl (lk_cons rfl (lk_cons rfl (lk_cons rfl lk_nil))))) (.cons 0 rfl .nil) (.cons 0 rfl .nil) fk_nil
                · rintro ⟨x394, _⟩
                  try dsimp only
                  refine sxc_seq ?_
                  refine sxc_idxO (j := 0) rfl (fun x399 e399 g400 h401 => ?_)
                  replace h401 : a9 = some ⟨g400, 0, none⟩ := h401
                  have h402 := own_of (k := x8.1.length) (c := c10) h401
                  refine sxb_draw mixed [] [⟨g7, 48, [.int .i64 x4, .int .i64 x5]⟩] [CellsAt g400 (x292.toNat * 1) ((eI .i64) x399)] (.cons 0 rfl .nil) (gk_R 0 rfl (at_row (eI_ok .i64) e399 h401) gk_nil) 7 rfl ?_
                  refine sxb_takeP 0 (.slice a9 x8.1.length c10) rfl rfl rfl rfl (by kernel_rfl) (by kernel_rfl) (by kernel_rfl) (by kernel_rfl) (by kernel_rfl) rfl (show _ = #[true, false, false, false, false, false, false] from rfl) (yv_pv rfl) ?_
                  refine sxb_takeP 1 (.int .i64 x292) rfl rfl rfl rfl (by kernel_rfl) (by kernel_rfl) (by kernel_rfl) (by kernel_rfl) (by kernel_rfl) rfl (show _ = #[true, true, false, false, false, false, false] from rfl) (yv_pv rfl) ?_
                  refine sxb_again (d := 83) (v := .slice (some ⟨g400, 0, none⟩) x8.1.length c10) rfl (by rw [h401] <;> rfl) ?_
                  refine sxb_takeP 2 (.pointer (some ⟨g400, x292.toNat * 1, none⟩)) rfl rfl rfl rfl (by kernel_rfl) (by kernel_rfl) (by kernel_rfl) (by kernel_rfl) (by kernel_rfl) rfl (show _ = #[true, true, true, false, false, false, false] from rfl) (yv_idxO Try.underlying25 tf3 rfl rfl (idx_get e399).1 (idx_lt e399)) ?_
                  refine sxb_again (d := 83) (v := .slice a9 x8.1.length c10) rfl (by rw [h401] <;> rfl) ?_
                  refine sxb_take 3 (.int .i64 x399) [] rfl rfl rfl rfl (by kernel_rfl) (by kernel_rfl) (by kernel_rfl) (by kernel_rfl) (by kernel_rfl) (by kernel_rfl) rfl (show _ = #[true, true, true, true, false, false, false] from rfl) (yv_loadF (j := 0) rfl tf3 rfl rfl (fun _ => rfl) rfl) ?_
                  refine sxb_takeP 4 (.pointer (some ⟨g7, 1, none⟩)) rfl rfl rfl rfl (by kernel_rfl) (by kernel_rfl) (by kernel_rfl) (by kernel_rfl) (by kernel_rfl) rfl (show _ = #[true, true, true, true, true, false, false] from rfl) (yv_fieldAddr rfl ff48_1) ?_
                  refine sxb_takeB 5 (.int .i64 x5) rfl rfl rfl rfl (by kernel_rfl) (by kernel_rfl) (by kernel_rfl) (by kernel_rfl) (by kernel_rfl) rfl (show _ = #[true, true, true, true, true, true, false] from rfl) (yv_loadB (i := 0) rfl tf3 rfl rfl (fun _ => rfl) rfl) ?_
                  refine sxb_takeP 6 (.bool ((x399 : Int) == x5)) rfl rfl rfl rfl (by kernel_rfl) (by kernel_rfl) (by kernel_rfl) (by kernel_rfl) (by kernel_rfl) rfl (show _ = #[true, true, true, true, true, true, true] from rfl) (yv_pv rfl) ?_
                  refine sxb_done (by kernel_rfl) ?_
                  refine sxq_np ?_ (by intro c h; cases h)
                  refine sxq_next ?_
                  refine sxc_if rfl (fun h403 => ?_) (fun h403 => ?_)
                  · refine sxc_region ?_
                    refine sxo_move rfl rfl rfl ?_
                    refine sxo_assign rfl rfl rfl ?_
                    refine sxo_nil ?_
                    refine sxq_blkN ?_
                    exact sxq_meetP ((x394, x292), ()) (lk_cons rfl (lk_cons rfl (lk_cons rfl (lk_cons rfl (lk_cons rfl lk_nil))))) (.cons 0 rfl .nil) (.cons 0 rfl .nil) fk_nil
                  · refine sxc_skip ?_
                    refine sxq_blkN ?_
                    exact sxq_meetP ((x394, x291), ()) (lk_cons rfl (lk_cons rfl (lk_cons rfl (lk_cons rfl (lk_cons rfl lk_nil))))) (.cons 0 rfl .nil) (.cons 0 rfl .nil) fk_nil
              · rintro ⟨⟨x383, x384⟩, _⟩
                try dsimp only
                refine sxc_region ?_
                refine sxo_move rfl rfl rfl ?_
                refine sxo_add rfl rfl rfl rfl ?_
                refine sxo_assign rfl rfl rfl ?_
                refine sxo_nil ?_
                exact sxq_againP ((x383, x384, iadd .i64 x292 1), ()) (lk_cons rfl (lk_cons rfl (lk_cons rfl (lk_cons rfl (lk_cons rfl lk_nil))))) (.cons 0 rfl .nil) (.cons 0 rfl .nil) fk_nil
            · refine sxc_exit ?_
              refine sxq_thenX ?_
              refine sxq_thenX ?_
              refine sxq_blkX ?_
              exact sxq_meetP ((x290, x291), ()) (lk_cons rfl (lk_cons rfl lk_nil)) .nil .nil fk_nil
          · rintro ⟨⟨x227, x228⟩, _⟩
            try dsimp only
            refine sxc_seq ?_
            refine sxc_region ?_
            refine sxo_move rfl rfl rfl ?_
            refine sxo_geq rfl rfl rfl rfl ?_
            refine sxo_move rfl rfl rfl ?_
            refine sxo_case 4 (decide (0 ≤ x228)) [(97, .bool ((decide (0 ≤ x228)) && (decide (x228 < x227))))] (fun h229 => ?_) (fun h229 => ?_) ?_
            · refine sxo_take (os := _) rfl ?_
              refine sxo_isT (k := 93) rfl h229 ?_
              refine sxo_move rfl rfl rfl ?_
              refine sxo_move rfl rfl rfl ?_
              refine sxo_gtr rfl rfl rfl rfl ?_
              refine sxo_pick (b := true) rfl rfl rfl rfl ?_
              refine sxo_again (d := 97) (v := .bool ((decide (0 ≤ x228)) && (decide (x228 < x227)))) rfl (by rw [h229]; simp only [Bool.true_and]) ?_
              refine sxo_nil ?_
              exact sxq_case (lk_cons rfl lk_nil)
            · refine sxo_take (os := _) rfl ?_
              refine sxo_isF (k := 93) rfl h229 ?_
              refine sxo_skip rfl rfl rfl ?_
              refine sxo_skip rfl rfl rfl ?_
              refine sxo_skip rfl rfl rfl ?_
              refine sxo_pick (b := false) rfl rfl rfl rfl ?_
              refine sxo_again (d := 97) (v := .bool ((decide (0 ≤ x228)) && (decide (x228 < x227)))) rfl (by rw [h229]; simp only [Bool.false_and]) ?_
              refine sxo_nil ?_
              exact sxq_case (lk_cons rfl lk_nil)
            refine sxo_take (os := _) rfl ?_
            refine sxo_assign rfl rfl rfl ?_
            refine sxo_nil ?_
            refine sxq_next ?_
            refine sxc_ret ?_
            exact sxq_doneP () (.inl rfl) (res1 rfl rfl) (fun h => by subst h; rfl) (fun h => by subst h; exact .nil)

theorem C_walk_check_1 (F : Nat) (x1 : Int) (g2 : Nat) (x3 : List (List Int)) (a4 : Option Addr) (c5 : (Nat × List (Option Addr × Nat))) (r : Bool) (hm : M_walk_check_1 F x1 x3 = some r) :
    PureM Try.prog 72 [.int .i64 x1, .pointer (some ⟨g2, 0, none⟩)] [⟨g2, 24, [.slice a4 x3.length c5.1]⟩] [] [SlN eN25 iN25 1 (.slice a4 x3.length c5.1) x3 c5.2] Unit (fun _ => .bool r) (fun _ => [⟨g2, 24, [.slice a4 x3.length c5.1]⟩]) (fun _ => []) := by
  refine pureM_of Try.func72 rfl Try.ntmps72 rfl hm (fun w => ?_)
  refine sxc_env (l' := [(0, .int .i64 x1), (1, .pointer (some ⟨g2, 0, none⟩))]) rfl ?_
  refine sxc_seq ?_
  refine sxc_region ?_
  refine sxo_assign rfl rfl rfl ?_
  refine sxo_nil ?_
  refine sxq_next ?_
  refine sxc_seq ?_
  refine sxc_region ?_
  refine sxo_move rfl rfl rfl ?_
  refine sxo_lss rfl rfl rfl rfl ?_
  refine sxo_move rfl rfl rfl ?_
  refine sxo_case 6 (decide (x1 < 0)) [(12, .bool ((decide (x1 < 0)) || (decide ((x3.length : Int) ≤ x1))))] (fun h6 => ?_) (fun h6 => ?_) ?_
  · refine sxo_take (os := _) rfl ?_
    refine sxo_isT (k := 6) rfl h6 ?_
    refine sxo_skip rfl rfl rfl ?_
    refine sxo_skip rfl rfl rfl ?_
    refine sxo_skip rfl rfl rfl ?_
    refine sxo_skip rfl rfl rfl ?_
    refine sxo_skip rfl rfl rfl ?_
    refine sxo_pick (b := true) rfl rfl rfl rfl ?_
    refine sxo_again (d := 12) (v := .bool ((decide (x1 < 0)) || (decide ((x3.length : Int) ≤ x1)))) rfl (by rw [h6]; simp only [Bool.true_or]) ?_
    refine sxo_nil ?_
    exact sxq_case (lk_cons rfl lk_nil)
  · refine sxo_take (os := _) rfl ?_
    refine sxo_isF (k := 6) rfl h6 ?_
    refine sxo_move rfl rfl rfl ?_
    refine sxo_fieldAddr rfl rfl ff24_0 rfl ?_
    refine sxo_loadB (i := 0) rfl rfl tf22 rfl rfl (fun _ => rfl) rfl rfl ?_
    refine sxo_len rfl Try.underlying22 rfl rfl ?_
    refine sxo_geq rfl rfl rfl rfl ?_
    refine sxo_pick (b := false) rfl rfl rfl rfl ?_
    refine sxo_again (d := 12) (v := .bool ((decide (x1 < 0)) || (decide ((x3.length : Int) ≤ x1)))) rfl (by rw [h6]; simp only [Bool.false_or]) ?_
    refine sxo_nil ?_
    exact sxq_case (lk_cons rfl lk_nil)
  refine sxo_take (os := _) rfl ?_
  refine sxo_assign rfl rfl rfl ?_
  refine sxo_nil ?_
  refine sxq_next ?_
  refine sxc_ret ?_
  exact sxq_doneM () (.inl rfl) (res1 rfl rfl) (fun h => by subst h; rfl) (fun h => by subst h; exact (.cons 0 rfl .nil)) (fun h => by subst h; exact .nil)

theorem C_slices_IndexFunc_int_int_walk_check_1 (F : Nat) (x1 : List Int) (a2 : Option Addr) (c3 : Nat) (g4 : Nat) (x5 : List (List Int)) (a6 : Option Addr) (c7 : (Nat × List (Option Addr × Nat))) (r : Int) (hm : M_slices_IndexFunc_int_int_walk_check_1 F x1 x5 = some r) :
    PureM Try.prog 56 [.slice a2 x1.length c3, .func (.func 72) #[] #[.pointer (some ⟨g4, 0, none⟩)]] [⟨g4, 24, [.slice a6 x5.length c7.1]⟩] [] [Sl (eI .i64) 1 (.slice a2 x1.length c3) x1, SlN eN25 iN25 1 (.slice a6 x5.length c7.1) x5 c7.2] Unit (fun _ => .int .i64 r) (fun _ => [⟨g4, 24, [.slice a6 x5.length c7.1]⟩]) (fun _ => []) := by
  refine pureM_of Try.func56 rfl Try.ntmps56 rfl hm (fun w => ?_)
  refine sxc_env (l' := [(0, .slice a2 x1.length c3), (1, .func (.func 72) #[] #[.pointer (some ⟨g4, 0, none⟩)])]) rfl ?_
  refine sxc_seq ?_
  refine sxc_region ?_
  refine sxo_assign rfl rfl rfl ?_
  refine sxo_nil ?_
  refine sxq_next ?_
  refine sxc_join (fun ((_, _) : (Unit × Unit)) => []) (fun ((_, _) : (Unit × Unit)) => [⟨g4, 24, [.slice a6 x5.length c7.1]⟩]) (fun ((_, _) : (Unit × Unit)) => []) (fun ((_, _) : (Unit × Unit)) => [SlN eN25 iN25 1 (.slice a6 x5.length c7.1) x5 c7.2]) (fun ((_, _) : (Unit × Unit)) => M_slices_IndexFunc_int_int_walk_check_1_j2 F) ?_ ?_
  · refine sxc_seq ?_
    refine sxc_region ?_
    refine sxo_move rfl rfl rfl ?_
    refine sxo_len rfl Try.underlying25 rfl rfl ?_
    refine sxo_move rfl rfl rfl ?_
    refine sxo_nil ?_
    refine sxq_next ?_
    refine sxc_block ?_
    refine sxc_loopP (fun ((x58, _) : (Int × Unit)) => [(0, .slice a2 x1.length c3), (1, .func (.func 72) #[] #[.pointer (some ⟨g4, 0, none⟩)]), (7, .int .i64 (x1.length : Int)), (8, .int .i64 x58)]) (fun ((x58, _) : (Int × Unit)) => [⟨g4, 24, [.slice a6 x5.length c7.1]⟩]) (fun ((x58, _) : (Int × Unit)) => []) (fun ((x58, _) : (Int × Unit)) => [Sl (eI .i64) 1 (.slice a2 x1.length c3) x1, SlN eN25 iN25 1 (.slice a6 x5.length c7.1) x5 c7.2]) (fun k (s : (Int × Unit)) => M_slices_IndexFunc_int_int_walk_check_1_l3 F x1 x5 k s.1) (0, ()) F (lk_cons rfl (lk_cons rfl (lk_cons rfl (lk_cons rfl lk_nil)))) (.cons 0 rfl .nil) .nil (fk_cons 0 rfl (fk_cons 1 rfl fk_nil)) (fun _ => rfl) ?_
    intro k71
    rintro ⟨x58, _⟩
    try dsimp only
    refine sxc_meq (m' := M_slices_IndexFunc_int_int_walk_check_1_b3 F x1 x5 (M_slices_IndexFunc_int_int_walk_check_1_l3 F x1 x5 k71) x58) rfl ?_
    refine sxc_seq ?_
    refine sxc_region ?_
    refine sxo_lss rfl rfl rfl rfl ?_
    refine sxo_nil ?_
    refine sxq_next ?_
    refine sxc_seq ?_
    refine sxc_if rfl (fun h83 => ?_) (fun h83 => ?_)
    · refine sxc_skip ?_
      refine sxq_next ?_
      refine sxc_seq ?_
      refine sxc_block ?_
      refine sxc_seq ?_
      refine sxc_region ?_
      refine sxo_move rfl rfl rfl ?_
      refine sxo_assign rfl rfl rfl ?_
      refine sxo_nil ?_
      refine sxq_next ?_
      refine sxc_seq ?_
      refine sxc_region ?_
      refine sxo_move rfl rfl rfl ?_
      refine sxo_move rfl rfl rfl ?_
      refine sxo_move rfl rfl rfl ?_
      refine sxo_indexF (j := 0) (eI_ok .i64) (by decide) rfl Try.underlying25 tf3 rfl rfl rfl rfl (fun x78 e78 b79 o80 => ?_)
      refine sxo_loadF (j := 0) rfl rfl tf3 rfl rfl (fun _ => rfl) rfl rfl ?_
      refine sxo_callMV ent72 rfl rfl rfl rfl (fun x81 e81 => C_walk_check_1 F x78 g4 x5 a6 c7 x81 e81) (.cons 0 rfl .nil) .nil (.consF 2 rfl .nil) (fun x81 e81 => ?_)
      intro _
      refine sxo_nil ?_
      refine sxq_next ?_
      refine sxc_if rfl (fun h82 => ?_) (fun h82 => ?_)
      · refine sxc_seq ?_
        refine sxc_region ?_
        refine sxo_move rfl rfl rfl ?_
        refine sxo_assign rfl rfl rfl ?_
        refine sxo_nil ?_
        refine sxq_next ?_
        refine sxc_ret ?_
        refine sxq_blkR ?_
        refine sxq_thenR ?_
        refine sxq_thenR ?_
        refine sxq_blkR ?_
        refine sxq_thenR ?_
        exact sxq_doneM () (.inl rfl) (res1 rfl rfl) (fun h => by subst h; rfl) (fun h => by subst h; exact (.cons 0 rfl .nil)) (fun h => by subst h; exact .nil)
      · refine sxc_skip ?_
        refine sxq_blkN ?_
        refine sxq_next ?_
        refine sxc_region ?_
        refine sxo_add rfl rfl rfl rfl ?_
        refine sxo_move rfl rfl rfl ?_
        refine sxo_nil ?_
        exact sxq_againP (iadd .i64 x58 1, ()) (lk_cons rfl (lk_cons rfl (lk_cons rfl (lk_cons rfl lk_nil)))) (.cons 0 rfl .nil) .nil (fk_cons 1 rfl (fk_cons 2 rfl fk_nil))
    · refine sxc_exit ?_
      refine sxq_thenX ?_
      refine sxq_thenX ?_
      refine sxq_blkX ?_
      exact sxq_meetP ((), ()) lk_nil (.cons 0 rfl .nil) .nil (fk_cons 1 rfl fk_nil)
  · rintro ⟨_, _⟩
    try dsimp only
    refine sxc_seq ?_
    refine sxc_region ?_
    refine sxo_assign rfl rfl rfl ?_
    refine sxo_nil ?_
    refine sxq_next ?_
    refine sxc_ret ?_
    exact sxq_doneM () (.inl rfl) (res1 rfl rfl) (fun h => by subst h; rfl) (fun h => by subst h; exact (.cons 0 rfl .nil)) (fun h => by subst h; exact .nil)

theorem C_slices_ContainsFunc_int_int_walk_check_1 (F : Nat) (x1 : List Int) (a2 : Option Addr) (c3 : Nat) (g4 : Nat) (x5 : List (List Int)) (a6 : Option Addr) (c7 : (Nat × List (Option Addr × Nat))) (r : Bool) (hm : M_slices_ContainsFunc_int_int_walk_check_1 F x1 x5 = some r) :
    PureM Try.prog 71 [.slice a2 x1.length c3, .func (.func 72) #[] #[.pointer (some ⟨g4, 0, none⟩)]] [⟨g4, 24, [.slice a6 x5.length c7.1]⟩] [] [Sl (eI .i64) 1 (.slice a2 x1.length c3) x1, SlN eN25 iN25 1 (.slice a6 x5.length c7.1) x5 c7.2] Unit (fun _ => .bool r) (fun _ => [⟨g4, 24, [.slice a6 x5.length c7.1]⟩]) (fun _ => []) := by
  refine pureM_of Try.func71 rfl Try.ntmps71 rfl hm (fun w => ?_)
  refine sxc_env (l' := [(0, .slice a2 x1.length c3), (1, .func (.func 72) #[] #[.pointer (some ⟨g4, 0, none⟩)])]) rfl ?_
  refine sxc_seq ?_
  refine sxc_region ?_
  refine sxo_assign rfl rfl rfl ?_
  refine sxo_nil ?_
  refine sxq_next ?_
  refine sxc_seq ?_
  refine sxc_region ?_
  refine sxo_move rfl rfl rfl ?_
  refine sxo_move rfl rfl rfl ?_
  refine sxo_callM ent56 rfl rfl rfl (fun x8 e8 => C_slices_IndexFunc_int_int_walk_check_1 F x1 a2 c3 g4 x5 a6 c7 x8 e8) (.cons 0 rfl .nil) .nil (.consF 0 rfl (.consF 1 rfl .nil)) (fun x8 e8 => ?_)
  intro _
  refine sxo_geq rfl rfl rfl rfl ?_
  refine sxo_assign rfl rfl rfl ?_
  refine sxo_nil ?_
  refine sxq_next ?_
  refine sxc_ret ?_
  exact sxq_doneM () (.inl rfl) (res1 rfl rfl) (fun h => by subst h; rfl) (fun h => by subst h; exact (.cons 0 rfl .nil)) (fun h => by subst h; exact .nil)

theorem C_walk_check (F : Nat) (x1 : List (List Int)) (a2 : Option Addr) (c3 : (Nat × List (Option Addr × Nat))) (x4 : List Int) (a5 : Option Addr) (c6 : Nat) (r : Int) (hm : M_walk_check F x1 x4 = some r) :
    Pure Try.prog 51 [.agg #[.slice a2 x1.length c3.1], .slice a5 x4.length c6] [SlN eN25 iN25 1 (.slice a2 x1.length c3.1) x1 c3.2, Sl (eI .i64) 1 (.slice a5 x4.length c6) x4] Unit (fun _ => .int .i64 r) (fun _ => []) (fun _ => []) := by
  refine pure_of Try.func51 rfl Try.ntmps51 rfl hm (fun w => ?_)
  refine sxc_env (l' := [(0, .agg #[.slice a2 x1.length c3.1]), (1, .slice a5 x4.length c6)]) rfl ?_
  refine sxc_seq ?_
  refine sxc_region ?_
  refine sxo_box rfl rfl rfl (fun g7 => ?_)
  refine sxo_assign rfl rfl rfl ?_
  refine sxo_nil ?_
  refine sxq_next ?_
  refine sxc_seq ?_
  refine sxc_seq ?_
  refine sxc_region ?_
  refine sxo_loadB (i := 0) rfl rfl tf24 rfl rfl (by simp) rfl rfl ?_
  refine sxo_call ent31 rfl rfl rfl (fun x10 e10 => C_graph_Check F x1 a2 c3 x10 e10) (.consF 0 rfl .nil) (fun x10 e10 => ?_)
  intro _
  refine sxo_assign rfl rfl rfl ?_
  refine sxo_nil ?_
  refine sxq_next ?_
  refine sxc_seq ?_
  refine sxc_region ?_
  refine sxo_move rfl rfl rfl ?_
  refine sxo_neq rfl rfl rfl rfl ?_
  refine sxo_nil ?_
  refine sxq_next ?_
  refine sxc_if rfl (fun h15 => ?_) (fun h15 => ?_)
  · refine sxc_seq ?_
    refine sxc_region ?_
    refine sxo_move rfl rfl rfl ?_
    refine sxo_assign rfl rfl rfl ?_
    refine sxo_nil ?_
    refine sxq_next ?_
    refine sxc_ret ?_
    refine sxq_thenR ?_
    exact sxq_doneP () (.inl rfl) (res1 rfl rfl) (fun h => by subst h; rfl) (fun h => by subst h; exact .nil)
  · refine sxc_skip ?_
    refine sxq_next ?_
    refine sxc_seq ?_
    refine sxc_seq ?_
    refine sxc_region ?_
    refine sxo_move rfl rfl rfl ?_
    refine sxo_makeFunc rfl rfl rfl ?_
    refine sxo_callM ent71 rfl rfl rfl (fun x13 e13 => C_slices_ContainsFunc_int_int_walk_check_1 F x4 a5 c6 g7 x1 a2 c3 x13 e13) (.cons 0 rfl .nil) .nil (.consF 1 rfl (.consF 0 rfl .nil)) (fun x13 e13 => ?_)
    intro _
    refine sxo_nil ?_
    refine sxq_next ?_
    refine sxc_if rfl (fun h14 => ?_) (fun h14 => ?_)
    · refine sxc_seq ?_
      refine sxc_region ?_
      refine sxo_assign rfl rfl rfl ?_
      refine sxo_nil ?_
      refine sxq_next ?_
      refine sxc_ret ?_
      refine sxq_thenR ?_
      exact sxq_doneP () (.inl rfl) (res1 rfl rfl) (fun h => by subst h; rfl) (fun h => by subst h; exact .nil)
    · refine sxc_skip ?_
      refine sxq_next ?_
      refine sxc_seq ?_
      refine sxc_region ?_
      refine sxo_assign rfl rfl rfl ?_
      refine sxo_nil ?_
      refine sxq_next ?_
      refine sxc_ret ?_
      exact sxq_doneP () (.inl rfl) (res1 rfl rfl) (fun h => by subst h; rfl) (fun h => by subst h; exact .nil)

theorem C_walk_far (F : Nat) (x1 : List (List Int)) (a2 : Option Addr) (c3 : (Nat × List (Option Addr × Nat))) (x4 : Int) (r : List Int) (hm : M_walk_far F x1 x4 = some r) :
    Pure Try.prog 52 [.agg #[.slice a2 x1.length c3.1], .int .i64 x4] [SlN eN25 iN25 1 (.slice a2 x1.length c3.1) x1 c3.2] (Option Addr × Nat) (fun g => .slice g.1 r.length g.2) (fun g => [Ro (eI .i64) 3 1 (.slice g.1 r.length g.2) r]) (fun _ => []) := by
  refine pure_of Try.func52 rfl Try.ntmps52 rfl hm (fun w => ?_)
  refine sxc_env (l' := [(0, .agg #[.slice a2 x1.length c3.1]), (1, .int .i64 x4)]) rfl ?_
  refine sxc_seq ?_
  refine sxc_region ?_
  refine sxo_box rfl rfl rfl (fun g5 => ?_)
  refine sxo_assign rfl rfl rfl ?_
  refine sxo_nil ?_
  refine sxq_next ?_
  refine sxc_seq ?_
  refine sxc_region ?_
  refine sxo_slit (vs := [.int .i64 (-1)]) (ys := ([-1] : List Int)) (eI_ok .i64) (by decide) rfl Try.underlying25 tf3 rfl rfl rfl rfl rfl (by decide) (fun a6 c7 => ?_)
  refine sxo_fieldAddr rfl rfl ff24_0 rfl ?_
  refine sxo_loadB (i := 0) rfl rfl tf22 rfl rfl (fun _ => rfl) rfl rfl ?_
  refine sxo_len rfl Try.underlying22 rfl rfl ?_
  refine sxo_call ent58 rfl rfl rfl (fun x8 e8 => C_slices_Repeat_int_int F ([-1] : List Int) a6 c7 (x1.length : Int) x8 e8) (.consR 0 (Ro (eI .i64) 3 1 (.slice a6 ([-1] : List Int).length c7) ([-1] : List Int)) rfl .nil) (fun x8 e8 => ?_)
  rintro ⟨a9, c10⟩
  refine sxo_assign rfl rfl rfl ?_
  refine sxo_nil ?_
  refine sxq_next ?_
  refine sxc_seq ?_
  refine sxc_region ?_
  refine sxo_move rfl rfl rfl ?_
  refine sxo_move rfl rfl rfl ?_
  refine sxo_indexR (j := 0) rfl Try.underlying25 tf3 rfl rfl rfl rfl (fun x11 e11 g12 h13 => ?_)
  refine sxo_storeL (j := 0) (y' := 0) (eI_ok .i64) rfl rfl rfl tf3 rfl h13 (idx_get e11).2.1 rfl (fun x14 e14 h15 => ?_)
  have h16 : x14.length = x8.length := by rw [← e14, List.length_set]
  refine sxo_again (d := 5) (v := .slice a9 x14.length c10) rfl h15 ?_
  refine sxo_again (d := 14) (v := .slice a9 x14.length c10) rfl h15 ?_
  refine sxo_again (d := 15) (v := .slice a9 x14.length c10) rfl h15 ?_
  refine sxo_nil ?_
  refine sxq_next ?_
  refine sxc_join (fun ((x1033, _) : (List Int × Unit)) => [(5, .slice a9 x1033.length c10)]) (fun ((x1033, _) : (List Int × Unit)) => []) (fun ((x1033, _) : (List Int × Unit)) => [Ro (eI .i64) 3 1 (.slice a9 x1033.length c10) x1033]) (fun ((x1033, _) : (List Int × Unit)) => []) (fun ((x1033, _) : (List Int × Unit)) => M_walk_far_j29 F x1033) ?_ ?_
  · refine sxc_seq ?_
    refine sxc_region ?_
    refine sxo_move rfl rfl rfl ?_
    refine sxo_slit (vs := [.int .i64 x4]) (ys := ([x4] : List Int)) (eI_ok .i64) (by decide) rfl Try.underlying25 tf3 rfl rfl rfl rfl rfl (by decide) (fun a1034 c1035 => ?_)
    refine sxo_assign rfl rfl rfl ?_
    refine sxo_nil ?_
    refine sxq_next ?_
    refine sxc_block ?_
    refine sxc_loopP (fun (((x1358, x1362), (a1359, c1360, g1361)) : ((List Int × List Int) × (Option Addr × Nat × List Int))) => [(2, .pointer (some ⟨g5, 0, none⟩)), (5, .slice a9 x1358.length c10), (6, (qv a1359 g1361.length x1362.length c1360 1))]) (fun (((x1358, x1362), (a1359, c1360, g1361)) : ((List Int × List Int) × (Option Addr × Nat × List Int))) => [⟨g5, 24, [.slice a2 x1.length c3.1]⟩]) (fun (((x1358, x1362), (a1359, c1360, g1361)) : ((List Int × List Int) × (Option Addr × Nat × List Int))) => [Ro (eI .i64) 3 1 (.slice a9 x1358.length c10) x1358, Ro (eI .i64) 3 1 (.slice a1359 (g1361 ++ x1362).length c1360) (g1361 ++ x1362)]) (fun (((x1358, x1362), (a1359, c1360, g1361)) : ((List Int × List Int) × (Option Addr × Nat × List Int))) => [SlN eN25 iN25 1 (.slice a2 x1.length c3.1) x1 c3.2]) (fun k (s : ((List Int × List Int) × (Option Addr × Nat × List Int))) => M_walk_far_l48 F x1 k s.1) ((x14, ([x4] : List Int)), (a1034, c1035, ([] : List Int))) F (lk_cons rfl (lk_cons rfl (lk_cons rfl lk_nil))) (.cons 0 rfl .nil) (.cons 1 rfl (.cons 0 rfl .nil)) (fk_cons 0 rfl fk_nil) (fun _ => rfl) ?_
    intro k1706
    rintro ⟨⟨x1358, x1362⟩, ⟨a1359, c1360, g1361⟩⟩
    try dsimp only
    refine sxc_meq (m' := M_walk_far_b48 F x1 (M_walk_far_l48 F x1 k1706) x1358 x1362) rfl ?_
    refine sxc_seq ?_
    refine sxc_seq ?_
    refine sxc_region ?_
    refine sxo_move rfl rfl rfl ?_
    refine sxo_lenQ rfl Try.underlying25 rfl rfl ?_
    refine sxo_gtr rfl rfl rfl rfl ?_
    refine sxo_nil ?_
    refine sxq_next ?_
    refine sxc_if rfl (fun h2049 => ?_) (fun h2049 => ?_)
    · refine sxc_skip ?_
      refine sxq_next ?_
      refine sxc_join (fun (((x1875, x1879), (a1876, c1877, g1878)) : ((List Int × List Int) × (Option Addr × Nat × List Int))) => [(2, .pointer (some ⟨g5, 0, none⟩)), (5, .slice a9 x1875.length c10), (6, (qv a1876 g1878.length x1879.length c1877 1))]) (fun (((x1875, x1879), (a1876, c1877, g1878)) : ((List Int × List Int) × (Option Addr × Nat × List Int))) => [⟨g5, 24, [.slice a2 x1.length c3.1]⟩]) (fun (((x1875, x1879), (a1876, c1877, g1878)) : ((List Int × List Int) × (Option Addr × Nat × List Int))) => [Ro (eI .i64) 3 1 (.slice a9 x1875.length c10) x1875, Ro (eI .i64) 3 1 (.slice a1876 (g1878 ++ x1879).length c1877) (g1878 ++ x1879)]) (fun (((x1875, x1879), (a1876, c1877, g1878)) : ((List Int × List Int) × (Option Addr × Nat × List Int))) => [SlN eN25 iN25 1 (.slice a2 x1.length c3.1) x1 c3.2]) (fun (((x1875, x1879), _) : ((List Int × List Int) × (Option Addr × Nat × List Int))) => M_walk_far_j53 F (M_walk_far_l48 F x1 k1706) x1875 x1879) ?_ ?_
      · refine sxc_block ?_
        refine sxc_seq ?_
        refine sxc_region ?_
        refine sxo_move rfl rfl rfl ?_
        refine sxo_indexQ (hs := g1361) (xs := x1362) (j := 1) rfl Try.underlying25 tf3 rfl rfl rfl rfl (fun x1882 e1882 g1883 h1884 => ?_)
        refine sxo_loadR (j := 1) (y := x1882) (eI_ok .i64) rfl rfl tf3 rfl h1884 (que_get e1882) (fun _ => rfl) rfl rfl ?_
        refine sxo_assign rfl rfl rfl ?_
        refine sxo_nil ?_
        refine sxq_next ?_
        refine sxc_seq ?_
        refine sxc_region ?_
        refine sxo_fieldAddr rfl rfl ff24_0 rfl ?_
        refine sxo_loadB (i := 0) rfl rfl tf22 rfl rfl (fun _ => rfl) rfl rfl ?_
        refine sxo_move rfl rfl rfl ?_
        refine sxo_indexN (j := 0) eN25_ok (by decide) rfl Try.underlying22 tf25 rfl rfl rfl rfl (fun x1885 e1885 g1888 b1886 o1887 => ?_)
        refine sxo_loadF (j := 0) rfl rfl tf25 rfl rfl (fun _ => rfl) rfl rfl ?_
        refine sxo_len rfl Try.underlying25 rfl rfl ?_
        refine sxo_move rfl rfl rfl ?_
        refine sxo_nil ?_
        refine sxq_next ?_
        refine sxc_block ?_
        refine sxc_loopP (fun (((x1940, x1944, x1945), (a1941, c1942, g1943)) : ((List Int × List Int × Int) × (Option Addr × Nat × List Int))) => [(2, .pointer (some ⟨g5, 0, none⟩)), (5, .slice a9 x1940.length c10), (6, (qv a1941 g1943.length x1944.length c1942 1)), (7, .int .i64 x1882), (32, .slice g1888.1 x1885.length g1888.2), (33, .int .i64 (x1885.length : Int)), (34, .int .i64 x1945)]) (fun (((x1940, x1944, x1945), (a1941, c1942, g1943)) : ((List Int × List Int × Int) × (Option Addr × Nat × List Int))) => [⟨g5, 24, [.slice a2 x1.length c3.1]⟩]) (fun (((x1940, x1944, x1945), (a1941, c1942, g1943)) : ((List Int × List Int × Int) × (Option Addr × Nat × List Int))) => [Ro (eI .i64) 3 1 (.slice a9 x1940.length c10) x1940, Ro (eI .i64) 3 1 (.slice a1941 (g1943 ++ x1944).length c1942) (g1943 ++ x1944)]) (fun (((x1940, x1944, x1945), (a1941, c1942, g1943)) : ((List Int × List Int × Int) × (Option Addr × Nat × List Int))) => [Sl (eI .i64) 1 (.slice g1888.1 x1885.length g1888.2) x1885, SlN eN25 iN25 1 (.slice a2 x1.length c3.1) x1 c3.2]) (fun k (s : ((List Int × List Int × Int) × (Option Addr × Nat × List Int))) => M_walk_far_l56 F (M_walk_far_l48 F x1 k1706) x1882 x1885 k s.1) ((x1358, x1362, 0), (a1359, c1360, g1361)) F (lk_cons rfl (lk_cons rfl (lk_cons rfl (lk_cons rfl (lk_cons rfl (lk_cons rfl (lk_cons rfl lk_nil))))))) (.cons 0 rfl .nil) (.cons 0 rfl (.cons 0 rfl .nil)) (fk_cons 1 rfl (fk_cons 2 rfl fk_nil)) (fun _ => rfl) ?_
        intro k1997
        rintro ⟨⟨x1940, x1944, x1945⟩, ⟨a1941, c1942, g1943⟩⟩
        try dsimp only
        refine sxc_meq (m' := M_walk_far_b56 F (M_walk_far_l48 F x1 k1706) x1882 x1885 (M_walk_far_l56 F (M_walk_far_l48 F x1 k1706) x1882 x1885 k1997) x1940 x1944 x1945) rfl ?_
        refine sxc_seq ?_
        refine sxc_region ?_
        refine sxo_lss rfl rfl rfl rfl ?_
        refine sxo_nil ?_
        refine sxq_next ?_
        refine sxc_seq ?_
        refine sxc_if rfl (fun h2048 => ?_) (fun h2048 => ?_)
        · refine sxc_skip ?_
          refine sxq_next ?_
          refine sxc_join (fun (((x2021, x2025), (a2022, c2023, g2024)) : ((List Int × List Int) × (Option Addr × Nat × List Int))) => [(2, .pointer (some ⟨g5, 0, none⟩)), (5, .slice a9 x2021.length c10), (6, (qv a2022 g2024.length x2025.length c2023 1)), (7, .int .i64 x1882), (32, .slice g1888.1 x1885.length g1888.2), (33, .int .i64 (x1885.length : Int)), (34, .int .i64 x1945)]) (fun (((x2021, x2025), (a2022, c2023, g2024)) : ((List Int × List Int) × (Option Addr × Nat × List Int))) => [⟨g5, 24, [.slice a2 x1.length c3.1]⟩]) (fun (((x2021, x2025), (a2022, c2023, g2024)) : ((List Int × List Int) × (Option Addr × Nat × List Int))) => [Ro (eI .i64) 3 1 (.slice a9 x2021.length c10) x2021, Ro (eI .i64) 3 1 (.slice a2022 (g2024 ++ x2025).length c2023) (g2024 ++ x2025)]) (fun (((x2021, x2025), (a2022, c2023, g2024)) : ((List Int × List Int) × (Option Addr × Nat × List Int))) => [Sl (eI .i64) 1 (.slice g1888.1 x1885.length g1888.2) x1885, SlN eN25 iN25 1 (.slice a2 x1.length c3.1) x1 c3.2]) (fun (((x2021, x2025), _) : ((List Int × List Int) × (Option Addr × Nat × List Int))) => M_walk_far_j57 F (M_walk_far_l56 F (M_walk_far_l48 F x1 k1706) x1882 x1885 k1997) x1945 x2021 x2025) ?_ ?_
          · refine sxc_block ?_
            refine sxc_seq ?_
            refine sxc_region ?_
            refine sxo_indexF (j := 0) (eI_ok .i64) (by decide) rfl Try.underlying25 tf3 rfl rfl rfl rfl (fun x2026 e2026 b2027 o2028 => ?_)
            refine sxo_loadF (j := 0) rfl rfl tf3 rfl rfl (fun _ => rfl) rfl rfl ?_
            refine sxo_assign rfl rfl rfl ?_
            refine sxo_nil ?_
            refine sxq_next ?_
            refine sxc_seq ?_
            refine sxc_region ?_
            refine sxo_move rfl rfl rfl ?_
            refine sxo_move rfl rfl rfl ?_
            refine sxo_indexR (j := 0) rfl Try.underlying25 tf3 rfl rfl rfl rfl (fun x2029 e2029 g2030 h2031 => ?_)
            refine sxo_loadR (j := 0) (y := x2029) (eI_ok .i64) rfl rfl tf3 rfl h2031 (idx_get e2029).2.2 (fun _ => rfl) rfl rfl ?_
            refine sxo_lss rfl rfl rfl rfl ?_
            refine sxo_nil ?_
            refine sxq_next ?_
            refine sxc_if rfl (fun h2047 => ?_) (fun h2047 => ?_)
            · refine sxc_seq ?_
              refine sxc_region ?_
              refine sxo_move rfl rfl rfl ?_
              refine sxo_move rfl rfl rfl ?_
              refine sxo_move rfl rfl rfl ?_
              refine sxo_move rfl rfl rfl ?_
              refine sxo_indexR (j := 0) rfl Try.underlying25 tf3 rfl rfl rfl rfl (fun x2032 e2032 g2033 h2034 => ?_)
              refine sxo_loadR (j := 0) (y := x2032) (eI_ok .i64) rfl rfl tf3 rfl h2034 (idx_get e2032).2.2 (fun _ => rfl) rfl rfl ?_
              refine sxo_add rfl rfl rfl rfl ?_
              refine sxo_indexR (j := 0) rfl Try.underlying25 tf3 rfl rfl rfl rfl (fun x2035 e2035 g2036 h2037 => ?_)
              refine sxo_storeL (j := 0) (y' := iadd .i64 x2032 1) (eI_ok .i64) rfl rfl rfl tf3 rfl h2037 (idx_get e2035).2.1 rfl (fun x2038 e2038 h2039 => ?_)
              have h2040 : x2038.length = x1940.length := by rw [← e2038, List.length_set]
              refine sxo_again (d := 5) (v := .slice a9 x2038.length c10) rfl h2039 ?_
              refine sxo_again (d := 38) (v := .slice a9 x2038.length c10) rfl h2039 ?_
              refine sxo_again (d := 43) (v := .slice a9 x2038.length c10) rfl h2039 ?_
              refine sxo_again (d := 45) (v := .slice a9 x2038.length c10) rfl h2039 ?_
              refine sxo_nil ?_
              refine sxq_next ?_
              refine sxc_region ?_
              refine sxo_move rfl rfl rfl ?_
              refine sxo_move rfl rfl rfl ?_
              refine sxo_slit (vs := [.int .i64 x2026]) (ys := ([x2026] : List Int)) (eI_ok .i64) (by decide) rfl Try.underlying25 tf3 rfl rfl rfl rfl rfl (by decide) (fun a2041 c2042 => ?_)
              refine sxo_appQ (hs := g1943) (xs := x1944) 2 (eI_ok .i64) rfl Try.underlying25 tf3 rfl rfl rfl rfl rfl (.inl ⟨0, _, rfl⟩) rfl rfl (fun x2043 e2043 a2044 c2045 g2046 => ?_)
              refine sxo_assign rfl rfl rfl ?_
              refine sxo_nil ?_
              refine sxq_blkN ?_
              exact sxq_meetP ((x2038, x2043), (a2044, c2045, g2046)) (lk_cons rfl (lk_cons rfl (lk_cons rfl (lk_cons rfl (lk_cons rfl (lk_cons rfl (lk_cons rfl lk_nil))))))) (.cons 0 rfl .nil) (.cons 2 rfl (.cons 0 rfl .nil)) (fk_cons 1 rfl (fk_cons 2 rfl fk_nil))
            · refine sxc_skip ?_
              refine sxq_blkN ?_
              exact sxq_meetP ((x1940, x1944), (a1941, c1942, g1943)) (lk_cons rfl (lk_cons rfl (lk_cons rfl (lk_cons rfl (lk_cons rfl (lk_cons rfl (lk_cons rfl lk_nil))))))) (.cons 0 rfl .nil) (.cons 0 rfl (.cons 0 rfl .nil)) (fk_cons 1 rfl (fk_cons 2 rfl fk_nil))
          · rintro ⟨⟨x2021, x2025⟩, ⟨a2022, c2023, g2024⟩⟩
            try dsimp only
            refine sxc_region ?_
            refine sxo_add rfl rfl rfl rfl ?_
            refine sxo_move rfl rfl rfl ?_
            refine sxo_nil ?_
            exact sxq_againP ((x2021, x2025, iadd .i64 x1945 1), (a2022, c2023, g2024)) (lk_cons rfl (lk_cons rfl (lk_cons rfl (lk_cons rfl (lk_cons rfl (lk_cons rfl (lk_cons rfl lk_nil))))))) (.cons 0 rfl .nil) (.cons 0 rfl (.cons 0 rfl .nil)) (fk_cons 0 rfl (fk_cons 1 rfl fk_nil))
        · refine sxc_exit ?_
          refine sxq_thenX ?_
          refine sxq_thenX ?_
          refine sxq_blkX ?_
          refine sxq_blkN ?_
          exact sxq_meetP ((x1940, x1944), (a1941, c1942, g1943)) (lk_cons rfl (lk_cons rfl (lk_cons rfl lk_nil))) (.cons 0 rfl .nil) (.cons 0 rfl (.cons 0 rfl .nil)) (fk_cons 1 rfl fk_nil)
      · rintro ⟨⟨x1875, x1879⟩, ⟨a1876, c1877, g1878⟩⟩
        try dsimp only
        refine sxc_region ?_
        refine sxo_move rfl rfl rfl ?_
        refine sxo_cutQ (hs := g1878) (xs := x1879) (j := 1) rfl Try.underlying25 tf3 rfl rfl rfl rfl (fun x1880 e1880 g1881 => ?_)
        refine sxo_assign rfl rfl rfl ?_
        refine sxo_nil ?_
        exact sxq_againP ((x1875, x1880), (a1876, c1877, g1881)) (lk_cons rfl (lk_cons rfl (lk_cons rfl lk_nil))) (.cons 0 rfl .nil) (.cons 1 rfl (.cons 0 rfl .nil)) (fk_cons 0 rfl fk_nil)
    · refine sxc_exit ?_
      refine sxq_thenX ?_
      refine sxq_thenX ?_
      refine sxq_blkX ?_
      exact sxq_meetP (x1358, ()) (lk_cons rfl lk_nil) .nil (.cons 0 rfl .nil) fk_nil
  · rintro ⟨x1033, _⟩
    try dsimp only
    refine sxc_seq ?_
    refine sxc_region ?_
    refine sxo_move rfl rfl rfl ?_
    refine sxo_assign rfl rfl rfl ?_
    refine sxo_nil ?_
    refine sxq_next ?_
    refine sxc_ret ?_
    exact sxq_doneP (a9, c10) (.inl rfl) (res1 rfl rfl) (fun h => by subst h; rfl) (fun h => by subst h; exact (.cons 0 rfl .nil))

theorem C_walk_Far (F : Nat) (x1 : List (List Int)) (a2 : Option Addr) (c3 : (Nat × List (Option Addr × Nat))) (x4 : Int) (r : (List Int × Int)) (hm : M_walk_Far F x1 x4 = some r) :
    Pure Try.prog 26 [.agg #[.slice a2 x1.length c3.1], .int .i64 x4] [SlN eN25 iN25 1 (.slice a2 x1.length c3.1) x1 c3.2] (Option Addr × Nat) (fun g => .tuple #[.slice g.1 r.1.length g.2, .int .i64 r.2]) (fun g => [Ro (eI .i64) 3 1 (.slice g.1 r.1.length g.2) r.1]) (fun _ => []) := by
  refine pure_of Try.func26 rfl Try.ntmps26 rfl hm (fun w => ?_)
  refine sxc_env (l' := [(0, .agg #[.slice a2 x1.length c3.1]), (1, .int .i64 x4)]) rfl ?_
  refine sxc_seq ?_
  refine sxc_region ?_
  refine sxo_box rfl rfl rfl (fun g5 => ?_)
  refine sxo_assign rfl rfl rfl ?_
  refine sxo_assign rfl rfl rfl ?_
  refine sxo_nil ?_
  refine sxq_next ?_
  refine sxc_seq ?_
  refine sxc_seq ?_
  refine sxc_region ?_
  refine sxo_loadB (i := 0) rfl rfl tf24 rfl rfl (by simp) rfl rfl ?_
  refine sxo_move rfl rfl rfl ?_
  refine sxo_slit (vs := [.int .i64 x4]) (ys := ([x4] : List Int)) (eI_ok .i64) (by decide) rfl Try.underlying25 tf3 rfl rfl rfl rfl rfl (by decide) (fun a10 c11 => ?_)
  refine sxo_call ent51 rfl rfl rfl (fun x12 e12 => C_walk_check F x1 a2 c3 ([x4] : List Int) a10 c11 x12 e12) (.consF 0 rfl (.consR 0 (Ro (eI .i64) 3 1 (.slice a10 ([x4] : List Int).length c11) ([x4] : List Int)) rfl .nil)) (fun x12 e12 => ?_)
  intro _
  refine sxo_assign rfl rfl rfl ?_
  refine sxo_nil ?_
  refine sxq_next ?_
  refine sxc_seq ?_
  refine sxc_region ?_
  refine sxo_move rfl rfl rfl ?_
  refine sxo_neq rfl rfl rfl rfl ?_
  refine sxo_nil ?_
  refine sxq_next ?_
  refine sxc_if rfl (fun h16 => ?_) (fun h16 => ?_)
  · refine sxc_seq ?_
    refine sxc_region ?_
    refine sxo_move rfl rfl rfl ?_
    refine sxo_assign rfl rfl rfl ?_
    refine sxo_assign rfl rfl rfl ?_
    refine sxo_nil ?_
    refine sxq_next ?_
    refine sxc_ret ?_
    refine sxq_thenR ?_
    refine sxq_nilrow Int (eI .i64) 3 1 ?_
    exact sxq_doneP (none, 0) (.inl rfl) (res2 rfl rfl rfl) (fun h => by subst h; rfl) (fun h => by subst h; exact (.cons 0 rfl .nil))
  · refine sxc_skip ?_
    refine sxq_next ?_
    refine sxc_seq ?_
    refine sxc_region ?_
    refine sxo_loadB (i := 0) rfl rfl tf24 rfl rfl (by simp) rfl rfl ?_
    refine sxo_move rfl rfl rfl ?_
    refine sxo_call ent52 rfl rfl rfl (fun x13 e13 => C_walk_far F x1 a2 c3 x4 x13 e13) (.consF 0 rfl .nil) (fun x13 e13 => ?_)
    rintro ⟨a14, c15⟩
    refine sxo_assign rfl rfl rfl ?_
    refine sxo_assign rfl rfl rfl ?_
    refine sxo_nil ?_
    refine sxq_next ?_
    refine sxc_ret ?_
    exact sxq_doneP (a14, c15) (.inl rfl) (res2 rfl rfl rfl) (fun h => by subst h; rfl) (fun h => by subst h; exact (.cons 0 rfl .nil))
end Go.Proofs.Ytefoeebfidklgaa
