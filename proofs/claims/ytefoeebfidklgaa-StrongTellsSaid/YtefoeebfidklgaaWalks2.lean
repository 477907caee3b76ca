/- Each Go function of this seat computes what its model says, part 2. -/
import Derived.Test.YtefoeebfidklgaaWalks
namespace Go.Proofs.Ytefoeebfidklgaa
open Go SX
theorem C_slices_AppendSeq_int_int_slices_Values_int_int_1 (F : Nat) (x1 : List Int) (a2 : Option Addr) (c3 : Nat) (g4 : Nat) (x5 : List Int) (a6 : Option Addr) (c7 : Nat) (r : List Int) (hm : M_slices_AppendSeq_int_int_slices_Values_int_int_1 F x1 x5 = some r) :
    PureM Try.prog 78 [.slice a2 x1.length c3, .func (.func 62) #[] #[.pointer (some ⟨g4, 0, none⟩)]] [⟨g4, 25, [.slice a6 x5.length c7]⟩] [Ro (eI .i64) 3 1 (.slice a2 x1.length c3) x1] [Sl (eI .i64) 1 (.slice a6 x5.length c7) x5] (Option Addr × Nat) (fun g => .slice g.1 r.length g.2) (fun _ => [⟨g4, 25, [.slice a6 x5.length c7]⟩]) (fun g => [Ro (eI .i64) 3 1 (.slice g.1 r.length g.2) r]) := by
  refine pureX_of Try.func78 rfl Try.ntmps78 rfl hm (fun w => ?_)
  refine sxc_env (l' := [(0, .slice a2 x1.length c3), (1, .func (.func 62) #[] #[.pointer (some ⟨g4, 0, none⟩)])]) rfl ?_
  refine sxc_seq ?_
  refine sxc_region ?_
  refine sxo_box rfl rfl rfl (fun g8 => ?_)
  refine sxo_assign rfl rfl rfl ?_
  refine sxo_nil ?_
  refine sxq_next ?_
  refine sxc_seq ?_
  refine sxc_seq ?_
  refine sxc_region ?_
  refine sxo_move rfl rfl rfl ?_
  refine sxo_nil ?_
  refine sxq_next ?_
  refine sxc_block ?_
  refine sxc_range (encs := (fun (p : Int) => [.int .i64 p])) (y := (fun (x38 : List Int) (x45 : Int) => M_slices_AppendSeq_int_int_slices_Values_int_int_1_r2 F x38 x45)) (lb := [.pointer (some ⟨g4, 0, none⟩)]) (fun (x38 : List Int) ((a36, c37) : (Option Addr × Nat)) => [⟨g8, 25, [.slice a36 x38.length c37]⟩]) (fun (x38 : List Int) ((a36, c37) : (Option Addr × Nat)) => [Ro (eI .i64) 3 1 (.slice a36 x38.length c37) x38]) (fun (_ : Empty) (_ : Unit) => []) (fun (_ : Empty) (_ : Unit) => []) (fun _ => .skip) x1 (a2, c3) rfl ent62 (fun _ => rfl) rfl (.cons 1 rfl .nil) (.cons 0 rfl .nil) (.cons 0 rfl .nil) (.consF 0 rfl .nil) (fun z hz _ _ _ hY => C_slices_Values_int_int_1 F hY x1 (a2, c3) g4 x5 a6 c7 z hz) ?_ ?_ ?_
  · rintro rc1 L1 D1 x38 ⟨a36, c37⟩ x45 z w M _
    try dsimp only
    refine sxc_less [(0, .slice a2 x1.length c3), (1, .func (.func 62) #[] #[.pointer (some ⟨g4, 0, none⟩)]), (2, .pointer (some ⟨g8, 0, none⟩)), (4, .slice none 0 0), (6, .func (.func 62) #[] #[.pointer (some ⟨g4, 0, none⟩)]), (7, .int .i64 x45)] (lk_cons rfl (lk_cons rfl (lk_cons rfl (lk_cons rfl (lk_cons rfl (lk_cons rfl lk_nil)))))) ?_
    refine sxc_region ?_
    refine sxo_assign rfl rfl rfl ?_
    refine sxo_nil ?_
    refine sxq_begin (i := 1) rfl ?_
    refine sxc_block ?_
    refine sxc_region ?_
    refine sxo_loadB (i := 0) rfl rfl tf25 rfl rfl (fun _ => rfl) rfl rfl ?_
    refine sxo_move rfl rfl rfl ?_
    refine sxo_slit (vs := [.int .i64 x45]) (ys := ([x45] : List Int)) (eI_ok .i64) (by decide) rfl Try.underlying25 tf3 rfl rfl rfl rfl rfl (by decide) (fun a46 c47 => ?_)
    refine sxo_app 1 (eI_ok .i64) rfl Try.underlying25 tf3 rfl rfl rfl rfl rfl (.inl ⟨0, _, rfl⟩) rfl rfl (fun x48 e48 a49 c50 => ?_)
    refine sxo_storeB (i := 0) rfl rfl rfl tf25 rfl rfl rfl rfl rfl ?_
    refine sxo_nil ?_
    refine sxq_blkN ?_
    exact sxq_round (rc := rc1) rfl (.cons 1 rfl .nil) rfl (a49, c50) (.cons 1 rfl (.cons 0 rfl (.cons 0 rfl .nil))) (.cons 0 rfl .nil)
  · rintro x38 _ ⟨a36, c37⟩ D1
    try dsimp only
    refine sxq_blkN ?_
    refine sxq_next ?_
    refine sxc_seq ?_
    refine sxc_region ?_
    refine sxo_loadB (i := 2) rfl rfl tf25 rfl rfl (fun _ => rfl) rfl rfl ?_
    refine sxo_assign rfl rfl rfl ?_
    refine sxo_nil ?_
    refine sxq_next ?_
    refine sxc_ret ?_
    exact sxq_doneX [D1] (a36, c37) (.inl rfl) rfl (.cons 0 rfl .nil) (res1 rfl rfl) (fun h => by subst h; rfl) (fun h => by subst h; exact (.cons 0 rfl .nil)) (fun h => by subst h; exact (.cons 0 rfl .nil))
  · intro t; exact t.elim

theorem C_slices_Collect_int_slices_Values_int_int_1 (F : Nat) (g1 : Nat) (x2 : List Int) (a3 : Option Addr) (c4 : Nat) (r : List Int) (hm : M_slices_Collect_int_slices_Values_int_int_1 F x2 = some r) :
    PureM Try.prog 60 [.func (.func 62) #[] #[.pointer (some ⟨g1, 0, none⟩)]] [⟨g1, 25, [.slice a3 x2.length c4]⟩] [] [Sl (eI .i64) 1 (.slice a3 x2.length c4) x2] (Option Addr × Nat) (fun g => .slice g.1 r.length g.2) (fun _ => [⟨g1, 25, [.slice a3 x2.length c4]⟩]) (fun g => [Ro (eI .i64) 3 1 (.slice g.1 r.length g.2) r]) := by
  refine pureM_of Try.func60 rfl Try.ntmps60 rfl hm (fun w => ?_)
  refine sxc_env (l' := [(0, .func (.func 62) #[] #[.pointer (some ⟨g1, 0, none⟩)])]) rfl ?_
  refine sxc_seq ?_
  refine sxc_region ?_
  refine sxo_assign rfl rfl rfl ?_
  refine sxo_nil ?_
  refine sxq_next ?_
  refine sxc_seq ?_
  refine sxc_region ?_
  refine sxo_move rfl rfl rfl ?_
  refine sxo_nilrow' Int (eI .i64) 3 1 ?_
  refine sxo_callM ent78 rfl rfl rfl (fun x5 e5 => C_slices_AppendSeq_int_int_slices_Values_int_int_1 F ([] : List Int) none 0 g1 x2 a3 c4 x5 e5) (.cons 0 rfl .nil) (.cons 0 rfl .nil) (.consF 0 rfl .nil) (fun x5 e5 => ?_)
  rintro ⟨a6, c7⟩
  refine sxo_assign rfl rfl rfl ?_
  refine sxo_nil ?_
  refine sxq_next ?_
  refine sxc_ret ?_
  exact sxq_doneM (a6, c7) (.inl rfl) (res1 rfl rfl) (fun h => by subst h; rfl) (fun h => by subst h; exact (.cons 0 rfl .nil)) (fun h => by subst h; exact (.cons 0 rfl .nil))

theorem C_slices_Sorted_int_slices_Values_int_int_1 (F : Nat) (g1 : Nat) (x2 : List Int) (a3 : Option Addr) (c4 : Nat) (r : List Int) (hm : M_slices_Sorted_int_slices_Values_int_int_1 F x2 = some r) :
    PureM Try.prog 36 [.func (.func 62) #[] #[.pointer (some ⟨g1, 0, none⟩)]] [⟨g1, 25, [.slice a3 x2.length c4]⟩] [] [Sl (eI .i64) 1 (.slice a3 x2.length c4) x2] (Option Addr × Nat) (fun g => .slice g.1 r.length g.2) (fun _ => [⟨g1, 25, [.slice a3 x2.length c4]⟩]) (fun g => [Ro (eI .i64) 3 1 (.slice g.1 r.length g.2) r]) := by
  refine pureM_of Try.func36 rfl Try.ntmps36 rfl hm (fun w => ?_)
  refine sxc_env (l' := [(0, .func (.func 62) #[] #[.pointer (some ⟨g1, 0, none⟩)])]) rfl ?_
  refine sxc_seq ?_
  refine sxc_region ?_
  refine sxo_assign rfl rfl rfl ?_
  refine sxo_nil ?_
  refine sxq_next ?_
  refine sxc_seq ?_
  refine sxc_region ?_
  refine sxo_move rfl rfl rfl ?_
  refine sxo_callM ent60 rfl rfl rfl (fun x5 e5 => C_slices_Collect_int_slices_Values_int_int_1 F g1 x2 a3 c4 x5 e5) (.cons 0 rfl .nil) .nil (.consF 0 rfl .nil) (fun x5 e5 => ?_)
  rintro ⟨a6, c7⟩
  refine sxo_assign rfl rfl rfl ?_
  refine sxo_nil ?_
  refine sxq_next ?_
  refine sxc_seq ?_
  refine sxc_region ?_
  refine sxo_move rfl rfl rfl ?_
  refine sxo_callM ent61 rfl rfl rfl (fun x8 e8 => C_slices_Sort_int_int F x5 a6 c7 x8 e8) .nil (.cons 0 rfl .nil) .nil (fun x8 e8 => ?_)
  intro _
  refine sxo_chk (fun h9 => ?_)
  replace h9 := of_decide_eq_true h9
  refine sxo_again (d := 3) (v := .slice a6 x8.length c7) rfl (by rw [h9] <;> rfl) ?_
  refine sxo_again (d := 5) (v := .slice a6 x8.length c7) rfl (by rw [h9] <;> rfl) ?_
  refine sxo_again (d := 6) (v := .slice a6 x8.length c7) rfl (by rw [h9] <;> rfl) ?_
  refine sxo_nil ?_
  refine sxq_next ?_
  refine sxc_seq ?_
  refine sxc_region ?_
  refine sxo_move rfl rfl rfl ?_
  refine sxo_assign rfl rfl rfl ?_
  refine sxo_nil ?_
  refine sxq_next ?_
  refine sxc_ret ?_
  exact sxq_doneM (a6, c7) (.inl rfl) (res1 rfl rfl) (fun h => by subst h; rfl) (fun h => by subst h; exact (.cons 0 rfl .nil)) (fun h => by subst h; exact (.cons 0 rfl .nil))

set_option maxHeartbeats 4000000 in
theorem C_strong_Shrink (F : Nat) (x1 : List (List Int)) (a2 : Option Addr) (c3 : (Nat × List (Option Addr × Nat))) (r : (List (List Int) × List Int × Int)) (hm : M_strong_Shrink F x1 = some r) :
    PureM Try.prog 13 [.agg #[.slice a2 x1.length c3.1]] [] [] [SlN eN25 iN25 1 (.slice a2 x1.length c3.1) x1 c3.2] ((Option Addr × (Nat × List (Option Addr × Nat))) × (Option Addr × Nat)) (fun g => .tuple #[.agg #[.slice g.1.1 r.1.length g.1.2.1], .slice g.2.1 r.2.1.length g.2.2, .int .i64 r.2.2]) (fun _ => []) (fun g => [RoN eN25 rN25 25 1 (.slice g.1.1 r.1.length g.1.2.1) r.1 g.1.2.2 [], Ro (eI .i64) 3 1 (.slice g.2.1 r.2.1.length g.2.2) r.2.1]) := by
  refine pureX_of Try.func13 rfl Try.ntmps13 rfl hm (fun w => ?_)
  refine sxc_env (l' := [(0, .agg #[.slice a2 x1.length c3.1])]) rfl ?_
  refine sxc_seq ?_
  refine sxc_region ?_
  refine sxo_box rfl rfl rfl (fun g4 => ?_)
  refine sxo_alloc rfl tf24 rfl (fun g5 => ?_)
  refine sxo_assign rfl rfl rfl ?_
  refine sxo_assign rfl rfl rfl ?_
  refine sxo_nil ?_
  refine sxq_next ?_
  refine sxc_seq ?_
  refine sxc_seq ?_
  refine sxc_region ?_
  refine sxo_loadB (i := 1) rfl rfl tf24 rfl rfl (by simp) rfl rfl ?_
  refine sxo_call ent31 rfl rfl rfl (fun x8 e8 => C_graph_Check F x1 a2 c3 x8 e8) (.consF 0 rfl .nil) (fun x8 e8 => ?_)
  intro _
  refine sxo_assign rfl rfl rfl ?_
  refine sxo_nil ?_
  refine sxq_next ?_
  refine sxc_seq ?_
  refine sxc_region ?_
  refine sxo_move rfl rfl rfl ?_
  refine sxo_neq rfl rfl rfl rfl ?_
  refine sxo_nil ?_
  refine sxq_next ?_
  refine sxc_if rfl (fun h371 => ?_) (fun h371 => ?_)
  · refine sxc_seq ?_
    refine sxc_region ?_
    refine sxo_build (cells := [.slice none 0 0]) rfl st24 rfl (by kernel_rfl) rfl ?_
    refine sxo_move rfl rfl rfl ?_
    refine sxo_storeB (i := 0) rfl rfl rfl tf24 rfl rfl rfl rfl rfl ?_
    refine sxo_assign rfl rfl rfl ?_
    refine sxo_assign rfl rfl rfl ?_
    refine sxo_nil ?_
    refine sxq_next ?_
    refine sxc_ret ?_
    refine sxq_thenR ?_
    refine sxq_nilN (List Int) (Option Addr × Nat) eN25 rN25 25 1 ?_
    refine sxq_nilrow Int (eI .i64) 3 1 ?_
    exact sxq_doneX [] ((none, (0, ([] : List (Option Addr × Nat)))), (none, 0)) (.inl rfl) rfl .nil (resL (rs := [.cell 2 24, .tmp 3, .tmp 4]) rfl (.cell (i := 0) rfl tf24 rfl rfl (by simp) rfl (.tmp rfl (.tmp rfl ResOk.nil))) rfl) (fun h => by subst h; rfl) (fun h => by subst h; exact .nil) (fun h => by subst h; exact (.cons 1 rfl (.cons 0 rfl .nil)))
  · refine sxc_skip ?_
    refine sxq_next ?_
    refine sxc_seq ?_
    refine sxc_region ?_
    refine sxo_loadB (i := 1) rfl rfl tf24 rfl rfl (by simp) rfl rfl ?_
    refine sxo_call ent32 rfl rfl rfl (fun x9 e9 => C_strong_parts F x1 a2 c3 x9 e9) (.consF 0 rfl .nil) (fun x9 e9 => ?_)
    rintro ⟨a10, c11⟩
    refine sxo_alloc rfl tf25 rfl (fun g12 => ?_)
    refine sxo_storeB (i := 0) rfl rfl rfl tf25 rfl rfl rfl rfl rfl ?_
    refine sxo_nil ?_
    refine sxq_next ?_
    refine sxc_seq ?_
    refine sxc_region ?_
    refine sxo_loadB (i := 0) rfl rfl tf25 rfl rfl (fun _ => rfl) rfl rfl ?_
    refine sxo_callM ent37 rfl rfl rfl (fun x13 e13 => C_slices_Values_int_int F x9 a10 c11 x13 e13) .nil .nil (.consR 0 (Ro (eI .i64) 3 1 (.slice a10 x9.length c11) x9) rfl .nil) (fun x13 e13 => ?_)
    rintro g14
    refine sxo_callM ent36 rfl rfl rfl (fun x15 e15 => C_slices_Sorted_int_slices_Values_int_int_1 F g14 x9 a10 c11 x15 e15) (.cons 0 rfl .nil) .nil (.consR 0 (Ro (eI .i64) 3 1 (.slice a10 x9.length c11) x9) rfl .nil) (fun x15 e15 => ?_)
    rintro ⟨a16, c17⟩
    refine sxo_callM ent35 rfl rfl rfl (fun x18 e18 => C_slices_Compact_int_int F x15 a16 c17 x18 e18) .nil (.cons 0 rfl .nil) .nil (fun x18 e18 => ?_)
    rintro ⟨a19, c20⟩
    refine sxo_assign rfl rfl rfl ?_
    refine sxo_nil ?_
    refine sxq_next ?_
    refine sxc_join (fun ((x96, _) : (List Int × Unit)) => [(1, .pointer (some ⟨g4, 0, none⟩)), (2, .pointer (some ⟨g5, 0, none⟩)), (3, .slice none 0 0), (4, .int .i64 0), (6, .pointer (some ⟨g12, 0, none⟩)), (7, .slice a19 x18.length c20)]) (fun ((x96, _) : (List Int × Unit)) => [⟨g12, 25, [.slice a10 x96.length c11]⟩, ⟨g5, 24, [.slice none 0 0]⟩, ⟨g4, 24, [.slice a2 x1.length c3.1]⟩]) (fun ((x96, _) : (List Int × Unit)) => [Ro (eI .i64) 3 1 (.slice a19 x18.length c20) x18, Ro (eI .i64) 3 1 (.slice a10 x96.length c11) x96]) (fun ((x96, _) : (List Int × Unit)) => [SlN eN25 iN25 1 (.slice a2 x1.length c3.1) x1 c3.2]) (fun ((x96, _) : (List Int × Unit)) => M_strong_Shrink_j2 F x1 x18 x96) ?_ ?_
    · refine sxc_seq ?_
      refine sxc_region ?_
      refine sxo_loadB (i := 1) rfl rfl tf25 rfl rfl (fun _ => rfl) rfl rfl ?_
      refine sxo_len rfl Try.underlying25 rfl rfl ?_
      refine sxo_move rfl rfl rfl ?_
      refine sxo_nil ?_
      refine sxq_next ?_
      refine sxc_block ?_
      refine sxc_loopP (fun (((x320, x321), _) : ((List Int × Int) × Unit)) => [(1, .pointer (some ⟨g4, 0, none⟩)), (2, .pointer (some ⟨g5, 0, none⟩)), (3, .slice none 0 0), (4, .int .i64 0), (6, .pointer (some ⟨g12, 0, none⟩)), (7, .slice a19 x18.length c20), (30, .slice a10 x320.length c11), (31, .int .i64 (x9.length : Int)), (32, .int .i64 x321)]) (fun (((x320, x321), _) : ((List Int × Int) × Unit)) => [⟨g12, 25, [.slice a10 x320.length c11]⟩, ⟨g5, 24, [.slice none 0 0]⟩, ⟨g4, 24, [.slice a2 x1.length c3.1]⟩]) (fun (((x320, x321), _) : ((List Int × Int) × Unit)) => [Ro (eI .i64) 3 1 (.slice a19 x18.length c20) x18, Ro (eI .i64) 3 1 (.slice a10 x320.length c11) x320]) (fun (((x320, x321), _) : ((List Int × Int) × Unit)) => [SlN eN25 iN25 1 (.slice a2 x1.length c3.1) x1 c3.2]) (fun k (s : ((List Int × Int) × Unit)) => M_strong_Shrink_l5 F x1 x9 x18 k s.1) ((x9, 0), ()) F (lk_cons rfl (lk_cons rfl (lk_cons rfl (lk_cons rfl (lk_cons rfl (lk_cons rfl (lk_cons rfl (lk_cons rfl (lk_cons rfl lk_nil))))))))) (.cons 1 rfl (.cons 1 rfl (.cons 1 rfl .nil))) (.cons 0 rfl (.cons 0 rfl .nil)) (fk_cons 0 rfl fk_nil) (fun _ => rfl) ?_
      intro k346
      rintro ⟨⟨x320, x321⟩, _⟩
      try dsimp only
      refine sxc_meq (m' := M_strong_Shrink_b5 F x1 x9 x18 (M_strong_Shrink_l5 F x1 x9 x18 k346) x320 x321) rfl ?_
      refine sxc_seq ?_
      refine sxc_region ?_
      refine sxo_lss rfl rfl rfl rfl ?_
      refine sxo_nil ?_
      refine sxq_next ?_
      refine sxc_seq ?_
      refine sxc_if rfl (fun h370 => ?_) (fun h370 => ?_)
      · refine sxc_skip ?_
        refine sxq_next ?_
        refine sxc_seq ?_
        refine sxc_block ?_
        refine sxc_seq ?_
        refine sxc_region ?_
        refine sxo_move rfl rfl rfl ?_
        refine sxo_indexR (j := 1) rfl Try.underlying25 tf3 rfl rfl rfl rfl (fun x359 e359 g360 h361 => ?_)
        refine sxo_loadR (j := 1) (y := x359) (eI_ok .i64) rfl rfl tf3 rfl h361 (idx_get e359).2.2 (fun _ => rfl) rfl rfl ?_
        refine sxo_assign rfl rfl rfl ?_
        refine sxo_assign rfl rfl rfl ?_
        refine sxo_nil ?_
        refine sxq_next ?_
        refine sxc_idxO (j := 1) rfl (fun x362 e362 g363 h364 => ?_)
        replace h364 : a10 = some ⟨g363, 0, none⟩ := h364
        have h365 := own_of (k := x320.length) (c := c11) h364
        refine sxb_draw mixed [] [⟨g12, 25, [.slice a10 x320.length c11]⟩, ⟨g5, 24, [.slice none 0 0]⟩, ⟨g4, 24, [.slice a2 x1.length c3.1]⟩] [SlN eN25 iN25 1 (.slice a2 x1.length c3.1) x1 c3.2] (.cons 0 rfl (.cons 0 rfl (.cons 0 rfl .nil))) (gk_F 0 rfl gk_nil) 10 rfl ?_
        refine sxb_takeB 0 (.slice a10 x320.length c11) rfl rfl rfl rfl (by kernel_rfl) (by kernel_rfl) (by kernel_rfl) (by kernel_rfl) (by kernel_rfl) rfl (show _ = #[true, false, false, false, false, false, false, false, false, false] from rfl) (yv_loadB (i := 0) rfl tf25 rfl rfl (fun _ => rfl) rfl) ?_
        refine sxb_takeP 1 (.int .i64 x321) rfl rfl rfl rfl (by kernel_rfl) (by kernel_rfl) (by kernel_rfl) (by kernel_rfl) (by kernel_rfl) rfl (show _ = #[true, true, false, false, false, false, false, false, false, false] from rfl) (yv_pv rfl) ?_
        refine sxb_takeP 2 (.slice a19 x18.length c20) rfl rfl rfl rfl (by kernel_rfl) (by kernel_rfl) (by kernel_rfl) (by kernel_rfl) (by kernel_rfl) rfl (show _ = #[true, true, true, false, false, false, false, false, false, false] from rfl) (yv_pv rfl) ?_
        refine sxb_takeP 3 (.int .i64 x359) rfl rfl rfl rfl (by kernel_rfl) (by kernel_rfl) (by kernel_rfl) (by kernel_rfl) (by kernel_rfl) rfl (show _ = #[true, true, true, true, false, false, false, false, false, false] from rfl) (yv_pv rfl) ?_
        refine sxb_step 4 rfl (by kernel_rfl) (show _ = #[true, true, true, true, true, false, false, false, false, false] from rfl) ?_
        refine sxo_call ent38 rfl rfl rfl (fun x366 e366 => C_slices_BinarySearch_int_int F x18 a19 c20 x359 x366 e366) (.consR 0 (Ro (eI .i64) 3 1 (.slice a19 x18.length c20) x18) rfl .nil) (fun x366 e366 => ?_)
        intro _
        refine sxo_nil ?_
        refine sxq_anyB (.cons 0 rfl (.cons 0 rfl (.cons 0 rfl .nil))) (gk_F 0 rfl gk_nil) ?_
        refine sxb_takeP 5 (.tuple #[.int .i64 x366.1, .bool x366.2]) rfl rfl rfl rfl (by kernel_rfl) (by kernel_rfl) (by kernel_rfl) (by kernel_rfl) (by kernel_rfl) rfl (show _ = #[true, true, true, true, true, true, false, false, false, false] from rfl) (yv_pv rfl) ?_
        refine sxb_takeP 6 (.int .i64 x366.1) rfl rfl rfl rfl (by kernel_rfl) (by kernel_rfl) (by kernel_rfl) (by kernel_rfl) (by kernel_rfl) rfl (show _ = #[true, true, true, true, true, true, true, false, false, false] from rfl) (yv_pv rfl) ?_
        refine sxb_takeP 7 (.bool x366.2) rfl rfl rfl rfl (by kernel_rfl) (by kernel_rfl) (by kernel_rfl) (by kernel_rfl) (by kernel_rfl) rfl (show _ = #[true, true, true, true, true, true, true, true, false, false] from rfl) (yv_pv rfl) ?_
        refine sxb_again (d := 38) (v := .slice (some ⟨g363, 0, none⟩) x320.length c11) rfl (by rw [h364] <;> rfl) ?_
        refine sxb_takeP 8 (.pointer (some ⟨g363, x321.toNat * 1, none⟩)) rfl rfl rfl rfl (by kernel_rfl) (by kernel_rfl) (by kernel_rfl) (by kernel_rfl) (by kernel_rfl) rfl (show _ = #[true, true, true, true, true, true, true, true, true, false] from rfl) (yv_idxO Try.underlying25 tf3 rfl rfl (idx_get e362).1 (idx_lt e362)) ?_
        refine sxb_again (d := 38) (v := .slice a10 x320.length c11) rfl (by rw [h364] <;> rfl) ?_
        refine sxb_step 9 rfl (by kernel_rfl) (show _ = #[true, true, true, true, true, true, true, true, true, true] from rfl) ?_
        refine sxo_storeL (j := 1) (y' := x366.1) (eI_ok .i64) rfl rfl rfl tf3 rfl (own_of h364) (idx_get e362).2.1 rfl (fun x367 e367 h368 => ?_)
        have h369 : x367.length = x320.length := by rw [← e367, List.length_set]
        refine sxo_again (d := 30) (v := .slice a10 x367.length c11) rfl h368 ?_
        refine sxo_again (d := 38) (v := .slice a10 x367.length c11) rfl h368 ?_
        refine sxo_blkAgain (i := 0) (cs' := [.slice a10 x367.length c11]) rfl (by rw [h368] <;> rfl) ?_
        refine sxo_nil ?_
        refine sxq_anyB (.cons 0 (by rw [h369]; rfl) (.cons 0 rfl (.cons 0 rfl .nil))) (gk_F 0 rfl gk_nil) ?_
        refine sxb_done (by kernel_rfl) ?_
        refine sxq_np ?_ (by intro c h; cases h)
        refine sxq_blkN ?_
        refine sxq_next ?_
        refine sxc_region ?_
        refine sxo_add rfl rfl rfl rfl ?_
        refine sxo_move rfl rfl rfl ?_
        refine sxo_nil ?_
        exact sxq_againP ((x367, iadd .i64 x321 1), ()) (lk_cons rfl (lk_cons rfl (lk_cons rfl (lk_cons rfl (lk_cons rfl (lk_cons rfl (lk_cons rfl (lk_cons rfl (lk_cons rfl lk_nil))))))))) (.cons 0 rfl (.cons 0 rfl (.cons 0 rfl .nil))) (.cons 1 rfl (.cons 0 rfl .nil)) (fk_cons 0 rfl fk_nil)
      · refine sxc_exit ?_
        refine sxq_thenX ?_
        refine sxq_thenX ?_
        refine sxq_blkX ?_
        exact sxq_meetP (x320, ()) (lk_cons rfl (lk_cons rfl (lk_cons rfl (lk_cons rfl (lk_cons rfl (lk_cons rfl lk_nil)))))) (.cons 0 rfl (.cons 0 rfl (.cons 0 rfl .nil))) (.cons 0 rfl (.cons 0 rfl .nil)) (fk_cons 0 rfl fk_nil)
    · rintro ⟨x96, _⟩
      try dsimp only
      refine sxc_seq ?_
      refine sxc_region ?_
      refine sxo_makeMap (k0 := .i64) (k1 := .i64) rfl rfl (fun g97 => ?_)
      refine sxo_alloc rfl tf66 rfl (fun g98 => ?_)
      refine sxo_storeB (i := 0) rfl rfl rfl tf66 rfl rfl rfl rfl rfl ?_
      refine sxo_nil ?_
      refine sxq_next ?_
      refine sxc_seq ?_
      refine sxc_region ?_
      refine sxo_alloc rfl tf51 rfl (fun g99 => ?_)
      refine sxo_nil ?_
      refine sxq_next ?_
      refine sxc_seq ?_
      refine sxc_seq ?_
      refine sxc_region ?_
      refine sxo_loadB (i := 5) rfl rfl tf24 rfl rfl (by simp) rfl rfl ?_
      refine sxo_callM ent39 rfl rfl rfl (fun x196 e196 => C_graph_All F x1 a2 c3 x196 e196) .nil .nil (.consF 0 rfl .nil) (fun x196 e196 => ?_)
      rintro g197
      refine sxo_nil ?_
      refine sxq_next ?_
      refine sxc_block ?_
      refine sxc_nilrow (Int × Int) eS48 48 2 ?_
      refine sxc_range (encs := (fun (p : (Int × Int)) => [.agg #[.int .i64 p.1, .int .i64 p.2]])) (y := (fun ((x230, x231) : (List (Int × Int) × List (Int × Int))) ((x262, x263) : (Int × Int)) => M_strong_Shrink_r4 F x96 x230 x231 x262 x263)) (lb := [.pointer (some ⟨g197, 0, none⟩)]) (fun ((x230, x231) : (List (Int × Int) × List (Int × Int))) ((a228, c229) : (Option Addr × Nat)) => [⟨g99, 51, [.slice a228 x230.length c229]⟩, ⟨g98, 66, [.map (some g97)]⟩, (blkO g97 (mapO .i64 .i64 x231)), ⟨g12, 25, [.slice a10 x96.length c11]⟩, ⟨g5, 24, [.slice none 0 0]⟩, ⟨g4, 24, [.slice a2 x1.length c3.1]⟩]) (fun ((x230, x231) : (List (Int × Int) × List (Int × Int))) ((a228, c229) : (Option Addr × Nat)) => [Ro (eI .i64) 3 1 (.slice a19 x18.length c20) x18, Ro eS48 48 2 (.slice a228 x230.length c229) x230, Ro (eI .i64) 3 1 (.slice a10 x96.length c11) x96]) (fun (_ : Empty) (_ : Unit) => []) (fun (_ : Empty) (_ : Unit) => []) (fun _ => .skip) (([] : List (Int × Int)), ([] : List (Int × Int))) (none, 0) rfl ent65 (fun _ => rfl) rfl (.cons 0 rfl .nil) (.cons 0 rfl (.cons 0 rfl (.cons 0 rfl (.cons 0 rfl (.cons 0 rfl (.cons 0 rfl .nil)))))) (.cons 1 rfl (.cons 0 rfl (.cons 0 rfl .nil))) (.consF 0 rfl .nil) (fun z hz _ _ _ hY => C_graph_All_1 F hY (([] : List (Int × Int)), ([] : List (Int × Int))) (none, 0) g197 x1 a2 c3 z hz) ?_ ?_ ?_
      · rintro rc1 L1 D1 ⟨x230, x231⟩ ⟨a228, c229⟩ ⟨x262, x263⟩ z w M _
        try dsimp only
        refine sxc_less [(1, .pointer (some ⟨g4, 0, none⟩)), (2, .pointer (some ⟨g5, 0, none⟩)), (3, .slice none 0 0), (4, .int .i64 0), (6, .pointer (some ⟨g12, 0, none⟩)), (7, .slice a19 x18.length c20), (10, .pointer (some ⟨g98, 0, none⟩)), (11, .pointer (some ⟨g99, 0, none⟩)), (47, .map (some g97)), (48, .agg #[.slice a2 x1.length c3.1]), (49, .func (.func 65) #[] #[.pointer (some ⟨g197, 0, none⟩)]), (50, .agg #[.int .i64 x262, .int .i64 x263])] (lk_cons rfl (lk_cons rfl (lk_cons rfl (lk_cons rfl (lk_cons rfl (lk_cons rfl (lk_cons rfl (lk_cons rfl (lk_cons rfl (lk_cons rfl (lk_cons rfl (lk_cons rfl lk_nil)))))))))))) ?_
        refine sxc_region ?_
        refine sxo_alloc rfl tf48 rfl (fun g264 => ?_)
        refine sxo_storeB (i := 0) rfl rfl rfl tf48 rfl rfl rfl rfl rfl ?_
        refine sxo_nil ?_
        refine sxq_begin (i := 7) rfl ?_
        refine sxc_block ?_
        refine sxc_seq ?_
        refine sxc_idxO (j := 2) rfl (fun x274 e274 g275 h276 => ?_)
        replace h276 : a10 = some ⟨g275, 0, none⟩ := h276
        have h277 := own_of (k := x96.length) (c := c11) h276
        refine sxc_idxO (j := 2) rfl (fun x278 e278 g279 h280 => ?_)
        replace h280 : a10 = some ⟨g279, 0, none⟩ := h280
        have h281 := own_of (k := x96.length) (c := c11) h280
        refine sxb_draw mixed [] [⟨g264, 48, [.int .i64 x262, .int .i64 x263]⟩, ⟨g99, 51, [.slice a228 x230.length c229]⟩, ⟨g98, 66, [.map (some g97)]⟩, (blkO g97 (mapO .i64 .i64 x231)), ⟨g12, 25, [.slice a10 x96.length c11]⟩, ⟨g5, 24, [.slice none 0 0]⟩, ⟨g4, 24, [.slice a2 x1.length c3.1]⟩, (blkO L1 (.loop (bsy rc1))), (dblk D1)] [SlN eN25 iN25 1 (.slice a2 x1.length c3.1) x1 c3.2, CellsAt g275 (x262.toNat * 1) ((eI .i64) x274), CellsAt g279 (x263.toNat * 1) ((eI .i64) x278)] (.cons 0 rfl (.cons 0 rfl (.cons 0 rfl (.cons 0 rfl (.cons 0 rfl (.cons 0 rfl (.cons 0 rfl (.cons 0 rfl (.cons 0 rfl .nil))))))))) (gk_F 0 rfl (gk_R 2 rfl (at_row (eI_ok .i64) e274 h276) (gk_R 2 rfl (at_row (eI_ok .i64) e278 h280) gk_nil))) 13 rfl ?_
        refine sxb_takeB 0 (.slice a10 x96.length c11) rfl rfl rfl rfl (by kernel_rfl) (by kernel_rfl) (by kernel_rfl) (by kernel_rfl) (by kernel_rfl) rfl (show _ = #[true, false, false, false, false, false, false, false, false, false, false, false, false] from rfl) (yv_loadB (i := 4) rfl tf25 rfl rfl (fun _ => rfl) rfl) ?_
        refine sxb_takeP 1 (.pointer (some ⟨g264, 0, none⟩)) rfl rfl rfl rfl (by kernel_rfl) (by kernel_rfl) (by kernel_rfl) (by kernel_rfl) (by kernel_rfl) rfl (show _ = #[true, true, false, false, false, false, false, false, false, false, false, false, false] from rfl) (yv_fieldAddr rfl ff48_0) ?_
        refine sxb_takeB 2 (.int .i64 x262) rfl rfl rfl rfl (by kernel_rfl) (by kernel_rfl) (by kernel_rfl) (by kernel_rfl) (by kernel_rfl) rfl (show _ = #[true, true, true, false, false, false, false, false, false, false, false, false, false] from rfl) (yv_loadB (i := 0) rfl tf3 rfl rfl (fun _ => rfl) rfl) ?_
        refine sxb_again (d := 51) (v := .slice (some ⟨g275, 0, none⟩) x96.length c11) rfl (by rw [h276] <;> rfl) ?_
        refine sxb_takeP 3 (.pointer (some ⟨g275, x262.toNat * 1, none⟩)) rfl rfl rfl rfl (by kernel_rfl) (by kernel_rfl) (by kernel_rfl) (by kernel_rfl) (by kernel_rfl) rfl (show _ = #[true, true, true, true, false, false, false, false, false, false, false, false, false] from rfl) (yv_idxO Try.underlying25 tf3 rfl rfl (idx_get e274).1 (idx_lt e274)) ?_
        refine sxb_again (d := 51) (v := .slice a10 x96.length c11) rfl (by rw [h276] <;> rfl) ?_
        refine sxb_take 4 (.int .i64 x274) [] rfl rfl rfl rfl (by kernel_rfl) (by kernel_rfl) (by kernel_rfl) (by kernel_rfl) (by kernel_rfl) (by kernel_rfl) rfl (show _ = #[true, true, true, true, true, false, false, false, false, false, false, false, false] from rfl) (yv_loadF (j := 1) rfl tf3 rfl rfl (fun _ => rfl) rfl) ?_
        refine sxb_takeB 5 (.slice a10 x96.length c11) rfl rfl rfl rfl (by kernel_rfl) (by kernel_rfl) (by kernel_rfl) (by kernel_rfl) (by kernel_rfl) rfl (show _ = #[true, true, true, true, true, true, false, false, false, false, false, false, false] from rfl) (yv_loadB (i := 4) rfl tf25 rfl rfl (fun _ => rfl) rfl) ?_
        refine sxb_takeP 6 (.pointer (some ⟨g264, 1, none⟩)) rfl rfl rfl rfl (by kernel_rfl) (by kernel_rfl) (by kernel_rfl) (by kernel_rfl) (by kernel_rfl) rfl (show _ = #[true, true, true, true, true, true, true, false, false, false, false, false, false] from rfl) (yv_fieldAddr rfl ff48_1) ?_
        refine sxb_takeB 7 (.int .i64 x263) rfl rfl rfl rfl (by kernel_rfl) (by kernel_rfl) (by kernel_rfl) (by kernel_rfl) (by kernel_rfl) rfl (show _ = #[true, true, true, true, true, true, true, true, false, false, false, false, false] from rfl) (yv_loadB (i := 0) rfl tf3 rfl rfl (fun _ => rfl) rfl) ?_
        refine sxb_again (d := 56) (v := .slice (some ⟨g279, 0, none⟩) x96.length c11) rfl (by rw [h280] <;> rfl) ?_
        refine sxb_takeP 8 (.pointer (some ⟨g279, x263.toNat * 1, none⟩)) rfl rfl rfl rfl (by kernel_rfl) (by kernel_rfl) (by kernel_rfl) (by kernel_rfl) (by kernel_rfl) rfl (show _ = #[true, true, true, true, true, true, true, true, true, false, false, false, false] from rfl) (yv_idxO Try.underlying25 tf3 rfl rfl (idx_get e278).1 (idx_lt e278)) ?_
        refine sxb_again (d := 56) (v := .slice a10 x96.length c11) rfl (by rw [h280] <;> rfl) ?_
        refine sxb_take 9 (.int .i64 x278) [] rfl rfl rfl rfl (by kernel_rfl) (by kernel_rfl) (by kernel_rfl) (by kernel_rfl) (by kernel_rfl) (by kernel_rfl) rfl (show _ = #[true, true, true, true, true, true, true, true, true, true, false, false, false] from rfl) (yv_loadF (j := 2) rfl tf3 rfl rfl (fun _ => rfl) rfl) ?_
        refine sxb_takeP 10 (.agg #[.int .i64 x274, .int .i64 x278]) rfl rfl rfl rfl (by kernel_rfl) (by kernel_rfl) (by kernel_rfl) (by kernel_rfl) (by kernel_rfl) rfl (show _ = #[true, true, true, true, true, true, true, true, true, true, true, false, false] from rfl) (yv_build (cells := [.int .i64 x274, .int .i64 x278]) st48 rfl (by kernel_rfl)) ?_
        refine sxb_step 11 rfl (by kernel_rfl) (show _ = #[true, true, true, true, true, true, true, true, true, true, true, true, false] from rfl) ?_
        refine sxo_alloc rfl tf48 rfl (fun g282 => ?_)
        refine sxo_nil ?_
        refine sxq_anyB (.cons 1 rfl (.cons 1 rfl (.cons 1 rfl (.cons 1 rfl (.cons 1 rfl (.cons 1 rfl (.cons 1 rfl (.cons 1 rfl (.cons 1 rfl .nil))))))))) (gk_F 0 rfl (gk_R 2 rfl (at_row (eI_ok .i64) e274 h276) (gk_R 2 rfl (at_row (eI_ok .i64) e278 h280) gk_nil))) ?_
        refine sxb_step 12 rfl (by kernel_rfl) (show _ = #[true, true, true, true, true, true, true, true, true, true, true, true, true] from rfl) ?_
        refine sxo_storeB (i := 0) rfl rfl rfl tf48 rfl rfl rfl rfl rfl ?_
        refine sxo_nil ?_
        refine sxq_anyB (.cons 1 rfl (.cons 1 rfl (.cons 1 rfl (.cons 1 rfl (.cons 1 rfl (.cons 1 rfl (.cons 1 rfl (.cons 1 rfl (.cons 1 rfl .nil))))))))) (gk_F 0 rfl (gk_R 2 rfl (at_row (eI_ok .i64) e274 h276) (gk_R 2 rfl (at_row (eI_ok .i64) e278 h280) gk_nil))) ?_
        refine sxb_done (by kernel_rfl) ?_
        refine sxq_np ?_ (by intro c h; cases h)
        refine sxq_next ?_
        refine sxc_seq ?_
        refine sxc_region ?_
        refine sxo_loadB (i := 3) rfl rfl tf66 rfl rfl (fun _ => rfl) rfl rfl ?_
        refine sxo_loadB (i := 0) rfl rfl tf48 rfl rfl (by simp) rfl rfl ?_
        refine sxo_lookupS (i := 4) (p := (x274, x278)) rfl Try.underlying66 se48 tf69 rfl rfl rfl rfl ?_
        refine sxo_move rfl rfl rfl ?_
        refine sxo_extract rfl rfl rfl rfl ?_
        refine sxo_extract rfl rfl rfl rfl ?_
        refine sxo_alloc rfl tf69 rfl (fun g283 => ?_)
        refine sxo_storeB (i := 0) rfl rfl rfl tf69 rfl rfl rfl rfl rfl ?_
        refine sxo_assign rfl rfl rfl ?_
        refine sxo_nil ?_
        refine sxq_next ?_
        refine sxc_seq ?_
        refine sxc_region ?_
        refine sxo_move rfl rfl rfl ?_
        refine sxo_not rfl rfl rfl ?_
        refine sxo_move rfl rfl rfl ?_
        refine sxo_case 6 (!(decide (((x274, x278) : Int × Int) ∈ x231))) [(1, .pointer (some ⟨g4, 0, none⟩)), (2, .pointer (some ⟨g5, 0, none⟩)), (6, .pointer (some ⟨g12, 0, none⟩)), (10, .pointer (some ⟨g98, 0, none⟩)), (11, .pointer (some ⟨g99, 0, none⟩)), (13, .pointer (some ⟨g282, 0, none⟩)), (76, .bool ((!(decide (((x274, x278) : Int × Int) ∈ x231))) && ((x274 : Int) != x278)))] (fun h284 => ?_) (fun h284 => ?_) ?_
        · refine sxo_take (os := _) rfl ?_
          refine sxo_isT (k := 70) rfl h284 ?_
          refine sxo_fieldAddr rfl rfl ff48_0 rfl ?_
          refine sxo_loadB (i := 1) rfl rfl tf3 rfl rfl (fun _ => rfl) rfl rfl ?_
          refine sxo_fieldAddr rfl rfl ff48_1 rfl ?_
          refine sxo_loadB (i := 1) rfl rfl tf3 rfl rfl (fun _ => rfl) rfl rfl ?_
          refine sxo_neq rfl rfl rfl rfl ?_
          refine sxo_pick (b := true) rfl rfl rfl rfl ?_
          refine sxo_again (d := 76) (v := .bool ((!(decide (((x274, x278) : Int × Int) ∈ x231))) && ((x274 : Int) != x278))) rfl (by rw [h284]; simp only [Bool.true_and]) ?_
          refine sxo_nil ?_
          exact sxq_case (lk_cons rfl (lk_cons rfl (lk_cons rfl (lk_cons rfl (lk_cons rfl (lk_cons rfl (lk_cons rfl lk_nil)))))))
        · refine sxo_take (os := _) rfl ?_
          refine sxo_isF (k := 70) rfl h284 ?_
          refine sxo_skip rfl rfl rfl ?_
          refine sxo_skip rfl rfl rfl ?_
          refine sxo_skip rfl rfl rfl ?_
          refine sxo_skip rfl rfl rfl ?_
          refine sxo_skip rfl rfl rfl ?_
          refine sxo_pick (b := false) rfl rfl rfl rfl ?_
          refine sxo_again (d := 76) (v := .bool ((!(decide (((x274, x278) : Int × Int) ∈ x231))) && ((x274 : Int) != x278))) rfl (by rw [h284]; simp only [Bool.false_and]) ?_
          refine sxo_nil ?_
          exact sxq_case (lk_cons rfl (lk_cons rfl (lk_cons rfl (lk_cons rfl (lk_cons rfl (lk_cons rfl (lk_cons rfl lk_nil)))))))
        refine sxo_take (os := _) rfl ?_
        refine sxo_nil ?_
        refine sxq_next ?_
        refine sxc_if rfl (fun h291 => ?_) (fun h291 => ?_)
        · refine sxc_seq ?_
          refine sxc_region ?_
          refine sxo_loadB (i := 4) rfl rfl tf66 rfl rfl (fun _ => rfl) rfl rfl ?_
          refine sxo_loadB (i := 1) rfl rfl tf48 rfl rfl (by simp) rfl rfl ?_
          refine sxo_build (cells := []) rfl st69 rfl (by kernel_rfl) rfl ?_
          refine sxo_mapPut (i := 5) (p := (x274, x278)) rfl Try.underlying66 se48 rfl rfl rfl rfl (fun x285 e285 => ?_)
          refine sxo_nil ?_
          refine sxq_next ?_
          refine sxc_region ?_
          refine sxo_loadB (i := 3) rfl rfl tf51 rfl rfl (fun _ => rfl) rfl rfl ?_
          refine sxo_loadB (i := 1) rfl rfl tf48 rfl rfl (by simp) rfl rfl ?_
          refine sxo_slit (vs := [.agg #[.int .i64 x274, .int .i64 x278]]) (ys := ([(x274, x278)] : List (Int × Int))) eS48_ok (by decide) rfl Try.underlying51 tf48 rfl rfl rfl rfl rfl (by decide) (fun a286 c287 => ?_)
          refine sxo_app 2 eS48_ok rfl Try.underlying51 tf48 rfl rfl rfl rfl rfl (.inl ⟨0, _, rfl⟩) rfl rfl (fun x288 e288 a289 c290 => ?_)
          refine sxo_storeB (i := 3) rfl rfl rfl tf51 rfl rfl rfl rfl rfl ?_
          refine sxo_nil ?_
          refine sxq_blkN ?_
          exact sxq_round (rc := rc1) rfl (.cons 9 rfl .nil) rfl (a289, c290) (.cons 4 rfl (.cons 4 rfl (.cons 4 rfl (.cons 4 rfl (.cons 4 rfl (.cons 4 rfl (.cons 0 rfl (.cons 3 rfl .nil)))))))) (.cons 2 rfl (.cons 0 rfl (.cons 1 rfl .nil)))
        · refine sxc_skip ?_
          refine sxq_blkN ?_
          exact sxq_round (rc := rc1) rfl (.cons 9 rfl .nil) rfl (a228, c229) (.cons 4 rfl (.cons 4 rfl (.cons 4 rfl (.cons 4 rfl (.cons 4 rfl (.cons 4 rfl (.cons 0 rfl (.cons 3 rfl .nil)))))))) (.cons 0 rfl (.cons 0 rfl (.cons 0 rfl .nil)))
      · rintro ⟨x230, x231⟩ _ ⟨a228, c229⟩ D1
        try dsimp only
        refine sxq_blkN ?_
        refine sxq_next ?_
        refine sxc_seq ?_
        refine sxc_region ?_
        refine sxo_move rfl rfl rfl ?_
        refine sxo_len rfl Try.underlying25 rfl rfl ?_
        refine sxo_loadB (i := 2) rfl rfl tf51 rfl rfl (fun _ => rfl) rfl rfl ?_
        refine sxo_call ent30 rfl rfl rfl (fun x292 e292 => C_graph_Of F (x18.length : Int) x230 a228 c229 x292 e292) (.consR 1 (Ro eS48 48 2 (.slice a228 x230.length c229) x230) rfl .nil) (fun x292 e292 => ?_)
        rintro ⟨a293, c294⟩
        refine sxo_move rfl rfl rfl ?_
        refine sxo_extract rfl rfl rfl rfl ?_
        refine sxo_extract rfl rfl rfl rfl ?_
        refine sxo_alloc rfl tf24 rfl (fun g295 => ?_)
        refine sxo_storeB (i := 0) rfl rfl rfl tf24 rfl rfl rfl rfl rfl ?_
        refine sxo_assign rfl rfl rfl ?_
        refine sxo_nil ?_
        refine sxq_next ?_
        refine sxc_seq ?_
        refine sxb_draw mixed [] [⟨g295, 24, [.slice a293 x292.1.length c294.1]⟩, (dblk D1), ⟨g197, 24, [.slice a2 x1.length c3.1]⟩, ⟨g99, 51, [.slice a228 x230.length c229]⟩, ⟨g98, 66, [.map (some g97)]⟩, (blkO g97 (mapO .i64 .i64 x231)), ⟨g12, 25, [.slice a10 x96.length c11]⟩, ⟨g4, 24, [.slice a2 x1.length c3.1]⟩] [SlN eN25 iN25 1 (.slice a2 x1.length c3.1) x1 c3.2] (.cons 0 rfl (.cons 0 rfl (.cons 0 rfl (.cons 0 rfl (.cons 0 rfl (.cons 0 rfl (.cons 0 rfl (.cons 1 rfl .nil)))))))) (gk_F 0 rfl gk_nil) 6 rfl ?_
        refine sxb_takeB 0 (.agg #[.slice a293 x292.1.length c294.1]) rfl rfl rfl rfl (by kernel_rfl) (by kernel_rfl) (by kernel_rfl) (by kernel_rfl) (by kernel_rfl) rfl (show _ = #[true, false, false, false, false, false] from rfl) (yv_loadB (i := 0) rfl tf24 rfl rfl (by simp) rfl) ?_
        refine sxb_takeB 1 (.slice a10 x96.length c11) rfl rfl rfl rfl (by kernel_rfl) (by kernel_rfl) (by kernel_rfl) (by kernel_rfl) (by kernel_rfl) rfl (show _ = #[true, true, false, false, false, false] from rfl) (yv_loadB (i := 6) rfl tf25 rfl rfl (fun _ => rfl) rfl) ?_
        refine sxb_takeP 2 (.int .i64 x292.2) rfl rfl rfl rfl (by kernel_rfl) (by kernel_rfl) (by kernel_rfl) (by kernel_rfl) (by kernel_rfl) rfl (show _ = #[true, true, true, false, false, false] from rfl) (yv_pv rfl) ?_
        refine sxb_step 3 rfl (by kernel_rfl) (show _ = #[true, true, true, true, false, false] from rfl) ?_
        refine sxo_storeB (i := 7) rfl rfl rfl tf24 rfl rfl rfl rfl rfl ?_
        refine sxo_nil ?_
        refine sxq_anyB (.cons 0 rfl (.cons 0 rfl (.cons 0 rfl (.cons 0 rfl (.cons 0 rfl (.cons 0 rfl (.cons 0 rfl (.cons 1 rfl .nil)))))))) (gk_F 0 rfl gk_nil) ?_
        refine sxb_takeP 4 (.slice a10 x96.length c11) rfl rfl rfl rfl (by kernel_rfl) (by kernel_rfl) (by kernel_rfl) (by kernel_rfl) (by kernel_rfl) rfl (show _ = #[true, true, true, true, true, false] from rfl) (yv_pv rfl) ?_
        refine sxb_takeP 5 (.int .i64 x292.2) rfl rfl rfl rfl (by kernel_rfl) (by kernel_rfl) (by kernel_rfl) (by kernel_rfl) (by kernel_rfl) rfl (show _ = #[true, true, true, true, true, true] from rfl) (yv_pv rfl) ?_
        refine sxb_done (by kernel_rfl) ?_
        refine sxq_np ?_ (by intro c h; cases h)
        refine sxq_next ?_
        refine sxc_ret ?_
        exact sxq_doneX [D1] ((a293, c294), (a10, c11)) (.inl rfl) rfl (.cons 1 rfl .nil) (resL (rs := [.cell 2 24, .tmp 3, .tmp 4]) rfl (.cell (i := 6) rfl tf24 rfl rfl (by simp) rfl (.tmp rfl (.tmp rfl ResOk.nil))) rfl) (fun h => by subst h; rfl) (fun h => by subst h; exact .nil) (fun h => by subst h; exact (.cons 0 rfl (.cons 2 rfl .nil)))
      · intro t; exact t.elim

theorem C_R_between (F : Nat) (x1 : Int) (x2 : Int) (x3 : Int) (r : Bool) (hm : M_R_between F x1 x2 x3 = some r) :
    Pure Try.prog 40 [.int .i64 x1, .int .i64 x2, .int .i64 x3] [] Unit (fun _ => .bool r) (fun _ => []) (fun _ => []) := by
  refine pure_of Try.func40 rfl Try.ntmps40 rfl hm (fun w => ?_)
  refine sxc_env (l' := [(0, .int .i64 x1), (1, .int .i64 x2), (2, .int .i64 x3)]) rfl ?_
  refine sxc_seq ?_
  refine sxc_region ?_
  refine sxo_assign rfl rfl rfl ?_
  refine sxo_nil ?_
  refine sxq_next ?_
  refine sxc_seq ?_
  refine sxc_region ?_
  refine sxo_move rfl rfl rfl ?_
  refine sxo_move rfl rfl rfl ?_
  refine sxo_geq rfl rfl rfl rfl ?_
  refine sxo_move rfl rfl rfl ?_
  refine sxo_case 4 (decide (x2 ≤ x1)) [(14, .bool ((decide (x2 ≤ x1)) && (decide (x1 ≤ x3))))] (fun h4 => ?_) (fun h4 => ?_) ?_
  · refine sxo_take (os := _) rfl ?_
    refine sxo_isT (k := 10) rfl h4 ?_
    refine sxo_move rfl rfl rfl ?_
    refine sxo_move rfl rfl rfl ?_
    refine sxo_leq rfl rfl rfl rfl ?_
    refine sxo_pick (b := true) rfl rfl rfl rfl ?_
    refine sxo_again (d := 14) (v := .bool ((decide (x2 ≤ x1)) && (decide (x1 ≤ x3)))) rfl (by rw [h4]; simp only [Bool.true_and]) ?_
    refine sxo_nil ?_
    exact sxq_case (lk_cons rfl lk_nil)
  · refine sxo_take (os := _) rfl ?_
    refine sxo_isF (k := 10) rfl h4 ?_
    refine sxo_skip rfl rfl rfl ?_
    refine sxo_skip rfl rfl rfl ?_
    refine sxo_skip rfl rfl rfl ?_
    refine sxo_pick (b := false) rfl rfl rfl rfl ?_
    refine sxo_again (d := 14) (v := .bool ((decide (x2 ≤ x1)) && (decide (x1 ≤ x3)))) rfl (by rw [h4]; simp only [Bool.false_and]) ?_
    refine sxo_nil ?_
    exact sxq_case (lk_cons rfl lk_nil)
  refine sxo_take (os := _) rfl ?_
  refine sxo_assign rfl rfl rfl ?_
  refine sxo_nil ?_
  refine sxq_next ?_
  refine sxc_ret ?_
  exact sxq_doneP () (.inl rfl) (res1 rfl rfl) (fun h => by subst h; rfl) (fun h => by subst h; exact .nil)

set_option maxHeartbeats 4000000 in
theorem C_R_GraphCheck (F : Nat) (x1 : List (List Int)) (a2 : Option Addr) (c3 : (Nat × List (Option Addr × Nat))) (r : Int) (hm : M_R_GraphCheck F x1 = some r) :
    Pure Try.prog 14 [.agg #[.slice a2 x1.length c3.1]] [SlN eN25 iN25 1 (.slice a2 x1.length c3.1) x1 c3.2] Unit (fun _ => .int .i64 r) (fun _ => []) (fun _ => []) := by
  refine pure_of Try.func14 rfl Try.ntmps14 rfl hm (fun w => ?_)
  refine sxc_env (l' := [(0, .agg #[.slice a2 x1.length c3.1])]) rfl ?_
  refine sxc_seq ?_
  refine sxc_region ?_
  refine sxo_box rfl rfl rfl (fun g4 => ?_)
  refine sxo_assign rfl rfl rfl ?_
  refine sxo_nil ?_
  refine sxq_next ?_
  refine sxc_seq ?_
  refine sxc_region ?_
  refine sxo_fieldAddr rfl rfl ff24_0 rfl ?_
  refine sxo_loadB (i := 0) rfl rfl tf22 rfl rfl (fun _ => rfl) rfl rfl ?_
  refine sxo_len rfl Try.underlying22 rfl rfl ?_
  refine sxo_assign rfl rfl rfl ?_
  refine sxo_nil ?_
  refine sxq_next ?_
  refine sxc_seq ?_
  refine sxc_seq ?_
  refine sxc_region ?_
  refine sxo_move rfl rfl rfl ?_
  refine sxo_gtr rfl rfl rfl rfl ?_
  refine sxo_nil ?_
  refine sxq_next ?_
  refine sxc_if rfl (fun h7485 => ?_) (fun h7485 => ?_)
  · refine sxc_seq ?_
    refine sxc_region ?_
    refine sxo_assign rfl rfl rfl ?_
    refine sxo_nil ?_
    refine sxq_next ?_
    refine sxc_ret ?_
    refine sxq_thenR ?_
    exact sxq_doneP () (.inl rfl) (res1 rfl rfl) (fun h => by subst h; rfl) (fun h => by subst h; exact .nil)
  · refine sxc_skip ?_
    refine sxq_next ?_
    refine sxc_seq ?_
    refine sxc_region ?_
    refine sxo_assign rfl rfl rfl ?_
    refine sxo_nil ?_
    refine sxq_next ?_
    refine sxc_join (fun ((x3744, _) : (Int × Unit)) => [(4, .int .i64 x3744)]) (fun ((x3744, _) : (Int × Unit)) => []) (fun ((x3744, _) : (Int × Unit)) => []) (fun ((x3744, _) : (Int × Unit)) => []) (fun ((x3744, _) : (Int × Unit)) => M_R_GraphCheck_j83 F x3744) ?_ ?_
    · refine sxc_seq ?_
      refine sxc_region ?_
      refine sxo_assign rfl rfl rfl ?_
      refine sxo_nil ?_
      refine sxq_next ?_
      refine sxc_block ?_
      refine sxc_loopP (fun (((x4992, x4993), _) : ((Int × Int) × Unit)) => [(1, .pointer (some ⟨g4, 0, none⟩)), (3, .int .i64 (x1.length : Int)), (4, .int .i64 x4992), (5, .int .i64 x4993)]) (fun (((x4992, x4993), _) : ((Int × Int) × Unit)) => [⟨g4, 24, [.slice a2 x1.length c3.1]⟩]) (fun (((x4992, x4993), _) : ((Int × Int) × Unit)) => []) (fun (((x4992, x4993), _) : ((Int × Int) × Unit)) => [SlN eN25 iN25 1 (.slice a2 x1.length c3.1) x1 c3.2]) (fun k (s : ((Int × Int) × Unit)) => M_R_GraphCheck_l138 F x1 k s.1) ((0, 0), ()) F (lk_cons rfl (lk_cons rfl (lk_cons rfl (lk_cons rfl lk_nil)))) (.cons 0 rfl .nil) .nil (fk_cons 0 rfl fk_nil) (fun _ => rfl) ?_
      intro k6239
      rintro ⟨⟨x4992, x4993⟩, _⟩
      try dsimp only
      refine sxc_meq (m' := M_R_GraphCheck_b138 F x1 (M_R_GraphCheck_l138 F x1 k6239) x4992 x4993) rfl ?_
      refine sxc_seq ?_
      refine sxc_seq ?_
      refine sxc_region ?_
      refine sxo_move rfl rfl rfl ?_
      refine sxo_move rfl rfl rfl ?_
      refine sxo_lss rfl rfl rfl rfl ?_
      refine sxo_nil ?_
      refine sxq_next ?_
      refine sxc_if rfl (fun h7484 => ?_) (fun h7484 => ?_)
      · refine sxc_skip ?_
        refine sxq_next ?_
        refine sxc_join (fun ((x6862, _) : (Int × Unit)) => [(1, .pointer (some ⟨g4, 0, none⟩)), (3, .int .i64 (x1.length : Int)), (4, .int .i64 x6862), (5, .int .i64 x4993)]) (fun ((x6862, _) : (Int × Unit)) => [⟨g4, 24, [.slice a2 x1.length c3.1]⟩]) (fun ((x6862, _) : (Int × Unit)) => []) (fun ((x6862, _) : (Int × Unit)) => [SlN eN25 iN25 1 (.slice a2 x1.length c3.1) x1 c3.2]) (fun ((x6862, _) : (Int × Unit)) => M_R_GraphCheck_j152 F (M_R_GraphCheck_l138 F x1 k6239) x4993 x6862) ?_ ?_
        · refine sxc_block ?_
          refine sxc_seq ?_
          refine sxc_region ?_
          refine sxo_assign rfl rfl rfl ?_
          refine sxo_nil ?_
          refine sxq_next ?_
          refine sxc_block ?_
          refine sxc_loopP (fun (((x7069, x7070), _) : ((Int × Int) × Unit)) => [(1, .pointer (some ⟨g4, 0, none⟩)), (3, .int .i64 (x1.length : Int)), (4, .int .i64 x7069), (5, .int .i64 x4993), (6, .int .i64 x7070)]) (fun (((x7069, x7070), _) : ((Int × Int) × Unit)) => [⟨g4, 24, [.slice a2 x1.length c3.1]⟩]) (fun (((x7069, x7070), _) : ((Int × Int) × Unit)) => []) (fun (((x7069, x7070), _) : ((Int × Int) × Unit)) => [SlN eN25 iN25 1 (.slice a2 x1.length c3.1) x1 c3.2]) (fun k (s : ((Int × Int) × Unit)) => M_R_GraphCheck_l161 F (M_R_GraphCheck_l138 F x1 k6239) x1 x4993 k s.1) ((x4992, 0), ()) F (lk_cons rfl (lk_cons rfl (lk_cons rfl (lk_cons rfl (lk_cons rfl lk_nil))))) (.cons 0 rfl .nil) .nil (fk_cons 0 rfl fk_nil) (fun _ => rfl) ?_
          intro k7277
          rintro ⟨⟨x7069, x7070⟩, _⟩
          try dsimp only
          refine sxc_meq (m' := M_R_GraphCheck_b161 F (M_R_GraphCheck_l138 F x1 k6239) x1 x4993 (M_R_GraphCheck_l161 F (M_R_GraphCheck_l138 F x1 k6239) x1 x4993 k7277) x7069 x7070) rfl ?_
          refine sxc_seq ?_
          refine sxc_seq ?_
          refine sxc_region ?_
          refine sxo_move rfl rfl rfl ?_
          refine sxo_fieldAddr rfl rfl ff24_0 rfl ?_
          refine sxo_loadB (i := 0) rfl rfl tf22 rfl rfl (fun _ => rfl) rfl rfl ?_
          refine sxo_move rfl rfl rfl ?_
          refine sxo_indexN (j := 0) eN25_ok (by decide) rfl Try.underlying22 tf25 rfl rfl rfl rfl (fun x7283 e7283 g7286 b7284 o7285 => ?_)
          refine sxo_loadF (j := 0) rfl rfl tf25 rfl rfl (fun _ => rfl) rfl rfl ?_
          refine sxo_len rfl Try.underlying25 rfl rfl ?_
          refine sxo_lss rfl rfl rfl rfl ?_
          refine sxo_nil ?_
          refine sxq_next ?_
          refine sxc_if rfl (fun h7483 => ?_) (fun h7483 => ?_)
          · refine sxc_skip ?_
            refine sxq_next ?_
            refine sxc_seq ?_
            refine sxc_block ?_
            refine sxc_seq ?_
            refine sxc_seq ?_
            refine sxc_region ?_
            refine sxo_fieldAddr rfl rfl ff24_0 rfl ?_
            refine sxo_loadB (i := 0) rfl rfl tf22 rfl rfl (fun _ => rfl) rfl rfl ?_
            refine sxo_move rfl rfl rfl ?_
            refine sxo_indexN (j := 2) eN25_ok (by decide) rfl Try.underlying22 tf25 rfl rfl rfl rfl (fun x7394 e7394 g7397 b7395 o7396 => ?_)
            refine sxo_loadF (j := 0) rfl rfl tf25 rfl rfl (fun _ => rfl) rfl rfl ?_
            refine sxo_move rfl rfl rfl ?_
            refine sxo_indexF (j := 1) (eI_ok .i64) (by decide) rfl Try.underlying25 tf3 rfl rfl rfl rfl (fun x7398 e7398 b7399 o7400 => ?_)
            refine sxo_loadF (j := 0) rfl rfl tf3 rfl rfl (fun _ => rfl) rfl rfl ?_
            refine sxo_move rfl rfl rfl ?_
            refine sxo_sub rfl rfl rfl rfl ?_
            refine sxo_call ent40 rfl rfl rfl (fun x7401 e7401 => C_R_between F x7398 0 (isub .i64 (x1.length : Int) 1) x7401 e7401) .nil (fun x7401 e7401 => ?_)
            intro _
            refine sxo_not rfl rfl rfl ?_
            refine sxo_nil ?_
            refine sxq_next ?_
            refine sxc_if rfl (fun h7482 => ?_) (fun h7482 => ?_)
            · refine sxc_seq ?_
              refine sxc_region ?_
              refine sxo_assign rfl rfl rfl ?_
              refine sxo_nil ?_
              refine sxq_next ?_
              refine sxc_ret ?_
              refine sxq_thenR ?_
              refine sxq_blkR ?_
              refine sxq_thenR ?_
              refine sxq_thenR ?_
              refine sxq_blkR ?_
              refine sxq_blkR ?_
              refine sxq_thenR ?_
              refine sxq_thenR ?_
              refine sxq_blkR ?_
              refine sxq_thenR ?_
              exact sxq_doneP () (.inl rfl) (res1 rfl rfl) (fun h => by subst h; rfl) (fun h => by subst h; exact .nil)
            · refine sxc_skip ?_
              refine sxq_next ?_
              refine sxc_seq ?_
              refine sxc_join (fun ((x7461, _) : (Bool × Unit)) => [(1, .pointer (some ⟨g4, 0, none⟩)), (3, .int .i64 (x1.length : Int)), (4, .int .i64 x7069), (5, .int .i64 x4993), (6, .int .i64 x7070), (60, .bool x7461)]) (fun ((x7461, _) : (Bool × Unit)) => [⟨g4, 24, [.slice a2 x1.length c3.1]⟩]) (fun ((x7461, _) : (Bool × Unit)) => []) (fun ((x7461, _) : (Bool × Unit)) => [SlN eN25 iN25 1 (.slice a2 x1.length c3.1) x1 c3.2]) (fun ((x7461, _) : (Bool × Unit)) => M_R_GraphCheck_j165 F (M_R_GraphCheck_l161 F (M_R_GraphCheck_l138 F x1 k6239) x1 x4993 k7277) x7069 x7070 x7461) ?_ ?_
              · refine sxc_split (fun h7463 => ?_) (fun h7463 => ?_)
                · refine sxc_idxN (j := 5) eN25_ok (by decide) rfl (fun x7464 e7464 g7468 b7465 o7466 h7467 => ?_)
                  replace h7467 : a2 = some ⟨b7465, o7466, none⟩ := h7467
                  refine sxc_idxF (j := 1) (eI_ok .i64) (by decide) rfl (fun x7469 e7469 b7470 o7471 h7472 => ?_)
                  replace h7472 : g7468.1 = some ⟨b7470, o7471, none⟩ := h7472
                  refine sxc_idxN (j := 8) eN25_ok (by decide) rfl (fun x7473 e7473 g7477 b7474 o7475 h7476 => ?_)
                  replace h7476 : a2 = some ⟨b7474, o7475, none⟩ := h7476
                  refine sxc_idxF (j := 1) (eI_ok .i64) (by decide) rfl (fun x7478 e7478 b7479 o7480 h7481 => ?_)
                  replace h7481 : g7477.1 = some ⟨b7479, o7480, none⟩ := h7481
                  refine sxb_draw mixed [] [⟨g4, 24, [.slice a2 x1.length c3.1]⟩] [CellsAt b7479 (o7480 + (isub .i64 x7070 1).toNat * 1) ((eI .i64) x7478), CellsAt b7474 (o7475 + x4993.toNat * 1) (eN25 (x7473, g7477)), Sl (eI .i64) 1 (.slice g7477.1 x7473.length g7477.2) x7473, CellsAt b7470 (o7471 + x7070.toNat * 1) ((eI .i64) x7469), CellsAt b7465 (o7466 + x4993.toNat * 1) (eN25 (x7464, g7468)), Sl (eI .i64) 1 (.slice g7468.1 x7464.length g7468.2) x7464, CellsAt b7399 o7400 ((eI .i64) x7398), CellsAt b7395 o7396 (eN25 (x7394, g7397)), Sl (eI .i64) 1 (.slice g7397.1 x7394.length g7397.2) x7394, CellsAt b7284 o7285 (eN25 (x7283, g7286)), Sl (eI .i64) 1 (.slice g7286.1 x7283.length g7286.2) x7283, SlN eN25 iN25 1 (.slice a2 x1.length c3.1) x1 c3.2] (.cons 0 rfl .nil) (gk_F 0 rfl (gk_F 1 rfl (gk_F 2 rfl (gk_F 3 rfl (gk_F 4 rfl (gk_F 5 rfl (gk_F 6 rfl (gk_F 7 rfl (gk_F 8 rfl (gk_F 9 rfl (gk_F 10 rfl (gk_F 11 rfl gk_nil)))))))))))) 22 rfl ?_
                  refine sxb_takeP 0 (.int .i64 x7070) rfl rfl rfl rfl (by kernel_rfl) (by kernel_rfl) (by kernel_rfl) (by kernel_rfl) (by kernel_rfl) rfl (show _ = #[true, false, false, false, false, false, false, false, false, false, false, false, false, false, false, false, false, false, false, false, false, false] from rfl) (yv_pv rfl) ?_
                  refine sxb_takeP 1 (.bool (decide (0 < x7070))) rfl rfl rfl rfl (by kernel_rfl) (by kernel_rfl) (by kernel_rfl) (by kernel_rfl) (by kernel_rfl) rfl (show _ = #[true, true, false, false, false, false, false, false, false, false, false, false, false, false, false, false, false, false, false, false, false, false] from rfl) (yv_pv rfl) ?_
                  refine sxb_takeP 2 (.bool (decide (0 < x7070))) rfl rfl rfl rfl (by kernel_rfl) (by kernel_rfl) (by kernel_rfl) (by kernel_rfl) (by kernel_rfl) rfl (show _ = #[true, true, true, false, false, false, false, false, false, false, false, false, false, false, false, false, false, false, false, false, false, false] from rfl) (yv_pv rfl) ?_
                  refine sxb_again (d := 41) (v := .bool true) rfl (by rw [h7463] <;> rfl) ?_
                  refine sxb_takeP 3 (.pointer (some ⟨g4, 0, none⟩)) rfl rfl rfl rfl (by kernel_rfl) (by kernel_rfl) (by kernel_rfl) (by kernel_rfl) (by kernel_rfl) rfl (show _ = #[true, true, true, true, false, false, false, false, false, false, false, false, false, false, false, false, false, false, false, false, false, false] from rfl) (yv_fieldAddr rfl ff24_0) ?_
                  refine sxb_takeB 4 (.slice a2 x1.length c3.1) rfl rfl rfl rfl (by kernel_rfl) (by kernel_rfl) (by kernel_rfl) (by kernel_rfl) (by kernel_rfl) rfl (show _ = #[true, true, true, true, true, false, false, false, false, false, false, false, false, false, false, false, false, false, false, false, false, false] from rfl) (yv_loadB (i := 0) rfl tf22 rfl rfl (fun _ => rfl) rfl) ?_
                  refine sxb_takeP 5 (.int .i64 x4993) rfl rfl rfl rfl (by kernel_rfl) (by kernel_rfl) (by kernel_rfl) (by kernel_rfl) (by kernel_rfl) rfl (show _ = #[true, true, true, true, true, true, false, false, false, false, false, false, false, false, false, false, false, false, false, false, false, false] from rfl) (yv_pv rfl) ?_
                  refine sxb_again (d := 43) (v := .slice (some ⟨b7465, o7466, none⟩) x1.length c3.1) rfl (by rw [h7467] <;> rfl) ?_
                  refine sxb_takeP 6 (.pointer (some ⟨b7465, (o7466 + x4993.toNat * 1), none⟩)) rfl rfl rfl rfl (by kernel_rfl) (by kernel_rfl) (by kernel_rfl) (by kernel_rfl) (by kernel_rfl) rfl (show _ = #[true, true, true, true, true, true, true, false, false, false, false, false, false, false, false, false, false, false, false, false, false, false] from rfl) (yv_idx Try.underlying22 tf25 rfl rfl (idx_get e7464).1 (idx_lt e7464)) ?_
                  refine sxb_again (d := 43) (v := .slice a2 x1.length c3.1) rfl (by rw [h7467] <;> rfl) ?_
                  refine sxb_take 7 (.slice g7468.1 x7464.length g7468.2) [] rfl rfl rfl rfl (by kernel_rfl) (by kernel_rfl) (by kernel_rfl) (by kernel_rfl) (by kernel_rfl) (by kernel_rfl) rfl (show _ = #[true, true, true, true, true, true, true, true, false, false, false, false, false, false, false, false, false, false, false, false, false, false] from rfl) (yv_loadF (j := 4) rfl tf25 rfl rfl (fun _ => rfl) rfl) ?_
                  refine sxb_takeP 8 (.int .i64 x7070) rfl rfl rfl rfl (by kernel_rfl) (by kernel_rfl) (by kernel_rfl) (by kernel_rfl) (by kernel_rfl) rfl (show _ = #[true, true, true, true, true, true, true, true, true, false, false, false, false, false, false, false, false, false, false, false, false, false] from rfl) (yv_pv rfl) ?_
                  refine sxb_again (d := 46) (v := .slice (some ⟨b7470, o7471, none⟩) x7464.length g7468.2) rfl (by rw [h7472] <;> rfl) ?_
                  refine sxb_takeP 9 (.pointer (some ⟨b7470, (o7471 + x7070.toNat * 1), none⟩)) rfl rfl rfl rfl (by kernel_rfl) (by kernel_rfl) (by kernel_rfl) (by kernel_rfl) (by kernel_rfl) rfl (show _ = #[true, true, true, true, true, true, true, true, true, true, false, false, false, false, false, false, false, false, false, false, false, false] from rfl) (yv_idx Try.underlying25 tf3 rfl rfl (idx_get e7469).1 (idx_lt e7469)) ?_
                  refine sxb_again (d := 46) (v := .slice g7468.1 x7464.length g7468.2) rfl (by rw [h7472] <;> rfl) ?_
                  refine sxb_take 10 (.int .i64 x7469) [] rfl rfl rfl rfl (by kernel_rfl) (by kernel_rfl) (by kernel_rfl) (by kernel_rfl) (by kernel_rfl) (by kernel_rfl) rfl (show _ = #[true, true, true, true, true, true, true, true, true, true, true, false, false, false, false, false, false, false, false, false, false, false] from rfl) (yv_loadF (j := 3) rfl tf3 rfl rfl (fun _ => rfl) rfl) ?_
                  refine sxb_takeP 11 (.pointer (some ⟨g4, 0, none⟩)) rfl rfl rfl rfl (by kernel_rfl) (by kernel_rfl) (by kernel_rfl) (by kernel_rfl) (by kernel_rfl) rfl (show _ = #[true, true, true, true, true, true, true, true, true, true, true, true, false, false, false, false, false, false, false, false, false, false] from rfl) (yv_fieldAddr rfl ff24_0) ?_
                  refine sxb_takeB 12 (.slice a2 x1.length c3.1) rfl rfl rfl rfl (by kernel_rfl) (by kernel_rfl) (by kernel_rfl) (by kernel_rfl) (by kernel_rfl) rfl (show _ = #[true, true, true, true, true, true, true, true, true, true, true, true, true, false, false, false, false, false, false, false, false, false] from rfl) (yv_loadB (i := 0) rfl tf22 rfl rfl (fun _ => rfl) rfl) ?_
                  refine sxb_takeP 13 (.int .i64 x4993) rfl rfl rfl rfl (by kernel_rfl) (by kernel_rfl) (by kernel_rfl) (by kernel_rfl) (by kernel_rfl) rfl (show _ = #[true, true, true, true, true, true, true, true, true, true, true, true, true, true, false, false, false, false, false, false, false, false] from rfl) (yv_pv rfl) ?_
                  refine sxb_again (d := 51) (v := .slice (some ⟨b7474, o7475, none⟩) x1.length c3.1) rfl (by rw [h7476] <;> rfl) ?_
                  refine sxb_takeP 14 (.pointer (some ⟨b7474, (o7475 + x4993.toNat * 1), none⟩)) rfl rfl rfl rfl (by kernel_rfl) (by kernel_rfl) (by kernel_rfl) (by kernel_rfl) (by kernel_rfl) rfl (show _ = #[true, true, true, true, true, true, true, true, true, true, true, true, true, true, true, false, false, false, false, false, false, false] from rfl) (yv_idx Try.underlying22 tf25 rfl rfl (idx_get e7473).1 (idx_lt e7473)) ?_
                  refine sxb_again (d := 51) (v := .slice a2 x1.length c3.1) rfl (by rw [h7476] <;> rfl) ?_
                  refine sxb_take 15 (.slice g7477.1 x7473.length g7477.2) [] rfl rfl rfl rfl (by kernel_rfl) (by kernel_rfl) (by kernel_rfl) (by kernel_rfl) (by kernel_rfl) (by kernel_rfl) rfl (show _ = #[true, true, true, true, true, true, true, true, true, true, true, true, true, true, true, true, false, false, false, false, false, false] from rfl) (yv_loadF (j := 1) rfl tf25 rfl rfl (fun _ => rfl) rfl) ?_
                  refine sxb_takeP 16 (.int .i64 x7070) rfl rfl rfl rfl (by kernel_rfl) (by kernel_rfl) (by kernel_rfl) (by kernel_rfl) (by kernel_rfl) rfl (show _ = #[true, true, true, true, true, true, true, true, true, true, true, true, true, true, true, true, true, false, false, false, false, false] from rfl) (yv_pv rfl) ?_
                  refine sxb_takeP 17 (.int .i64 (isub .i64 x7070 1)) rfl rfl rfl rfl (by kernel_rfl) (by kernel_rfl) (by kernel_rfl) (by kernel_rfl) (by kernel_rfl) rfl (show _ = #[true, true, true, true, true, true, true, true, true, true, true, true, true, true, true, true, true, true, false, false, false, false] from rfl) (yv_pv rfl) ?_
                  refine sxb_again (d := 54) (v := .slice (some ⟨b7479, o7480, none⟩) x7473.length g7477.2) rfl (by rw [h7481] <;> rfl) ?_
                  refine sxb_takeP 18 (.pointer (some ⟨b7479, (o7480 + (isub .i64 x7070 1).toNat * 1), none⟩)) rfl rfl rfl rfl (by kernel_rfl) (by kernel_rfl) (by kernel_rfl) (by kernel_rfl) (by kernel_rfl) rfl (show _ = #[true, true, true, true, true, true, true, true, true, true, true, true, true, true, true, true, true, true, true, false, false, false] from rfl) (yv_idx Try.underlying25 tf3 rfl rfl (idx_get e7478).1 (idx_lt e7478)) ?_
                  refine sxb_again (d := 54) (v := .slice g7477.1 x7473.length g7477.2) rfl (by rw [h7481] <;> rfl) ?_
                  refine sxb_take 19 (.int .i64 x7478) [] rfl rfl rfl rfl (by kernel_rfl) (by kernel_rfl) (by kernel_rfl) (by kernel_rfl) (by kernel_rfl) (by kernel_rfl) rfl (show _ = #[true, true, true, true, true, true, true, true, true, true, true, true, true, true, true, true, true, true, true, true, false, false] from rfl) (yv_loadF (j := 0) rfl tf3 rfl rfl (fun _ => rfl) rfl) ?_
                  refine sxb_takeP 20 (.bool (decide (x7469 ≤ x7478))) rfl rfl rfl rfl (by kernel_rfl) (by kernel_rfl) (by kernel_rfl) (by kernel_rfl) (by kernel_rfl) rfl (show _ = #[true, true, true, true, true, true, true, true, true, true, true, true, true, true, true, true, true, true, true, true, true, false] from rfl) (yv_pv rfl) ?_
                  refine sxb_takeP 21 (.bool (decide (x7469 ≤ x7478))) rfl rfl rfl rfl (by kernel_rfl) (by kernel_rfl) (by kernel_rfl) (by kernel_rfl) (by kernel_rfl) rfl (show _ = #[true, true, true, true, true, true, true, true, true, true, true, true, true, true, true, true, true, true, true, true, true, true] from rfl) (yv_pv rfl) ?_
                  refine sxb_done (by kernel_rfl) ?_
                  refine sxq_np ?_ (by intro c h; cases h)
                  exact sxq_meetP ((decide (x7469 ≤ x7478)), ()) (lk_cons rfl (lk_cons rfl (lk_cons rfl (lk_cons rfl (lk_cons rfl (lk_cons rfl lk_nil)))))) (.cons 0 rfl .nil) .nil (fk_cons 11 rfl fk_nil)
                · refine sxb_draw mixed [] [⟨g4, 24, [.slice a2 x1.length c3.1]⟩] [CellsAt b7399 o7400 ((eI .i64) x7398), CellsAt b7395 o7396 (eN25 (x7394, g7397)), Sl (eI .i64) 1 (.slice g7397.1 x7394.length g7397.2) x7394, CellsAt b7284 o7285 (eN25 (x7283, g7286)), Sl (eI .i64) 1 (.slice g7286.1 x7283.length g7286.2) x7283, SlN eN25 iN25 1 (.slice a2 x1.length c3.1) x1 c3.2] (.cons 0 rfl .nil) (gk_F 0 rfl (gk_F 1 rfl (gk_F 2 rfl (gk_F 3 rfl (gk_F 4 rfl (gk_F 5 rfl gk_nil)))))) 22 rfl ?_
                  refine sxb_takeP 0 (.int .i64 x7070) rfl rfl rfl rfl (by kernel_rfl) (by kernel_rfl) (by kernel_rfl) (by kernel_rfl) (by kernel_rfl) rfl (show _ = #[true, false, false, false, false, false, false, false, false, false, false, false, false, false, false, false, false, false, false, false, false, false] from rfl) (yv_pv rfl) ?_
                  refine sxb_takeP 1 (.bool (decide (0 < x7070))) rfl rfl rfl rfl (by kernel_rfl) (by kernel_rfl) (by kernel_rfl) (by kernel_rfl) (by kernel_rfl) rfl (show _ = #[true, true, false, false, false, false, false, false, false, false, false, false, false, false, false, false, false, false, false, false, false, false] from rfl) (yv_pv rfl) ?_
                  refine sxb_takeP 2 (.bool (decide (0 < x7070))) rfl rfl rfl rfl (by kernel_rfl) (by kernel_rfl) (by kernel_rfl) (by kernel_rfl) (by kernel_rfl) rfl (show _ = #[true, true, true, false, false, false, false, false, false, false, false, false, false, false, false, false, false, false, false, false, false, false] from rfl) (yv_pv rfl) ?_
                  refine sxb_again (d := 41) (v := .bool false) rfl (by rw [h7463] <;> rfl) ?_
                  refine sxb_skip 3 rfl rfl rfl rfl (by kernel_rfl) (by kernel_rfl) (by kernel_rfl) (by kernel_rfl) (by kernel_rfl) rfl (show _ = #[true, true, true, true, false, false, false, false, false, false, false, false, false, false, false, false, false, false, false, false, false, false] from rfl) ?_
                  refine sxb_skip 4 rfl rfl rfl rfl (by kernel_rfl) (by kernel_rfl) (by kernel_rfl) (by kernel_rfl) (by kernel_rfl) rfl (show _ = #[true, true, true, true, true, false, false, false, false, false, false, false, false, false, false, false, false, false, false, false, false, false] from rfl) ?_
                  refine sxb_skip 5 rfl rfl rfl rfl (by kernel_rfl) (by kernel_rfl) (by kernel_rfl) (by kernel_rfl) (by kernel_rfl) rfl (show _ = #[true, true, true, true, true, true, false, false, false, false, false, false, false, false, false, false, false, false, false, false, false, false] from rfl) ?_
                  refine sxb_skip 6 rfl rfl rfl rfl (by kernel_rfl) (by kernel_rfl) (by kernel_rfl) (by kernel_rfl) (by kernel_rfl) rfl (show _ = #[true, true, true, true, true, true, true, false, false, false, false, false, false, false, false, false, false, false, false, false, false, false] from rfl) ?_
                  refine sxb_skip 7 rfl rfl rfl rfl (by kernel_rfl) (by kernel_rfl) (by kernel_rfl) (by kernel_rfl) (by kernel_rfl) rfl (show _ = #[true, true, true, true, true, true, true, true, false, false, false, false, false, false, false, false, false, false, false, false, false, false] from rfl) ?_
                  refine sxb_skip 8 rfl rfl rfl rfl (by kernel_rfl) (by kernel_rfl) (by kernel_rfl) (by kernel_rfl) (by kernel_rfl) rfl (show _ = #[true, true, true, true, true, true, true, true, true, false, false, false, false, false, false, false, false, false, false, false, false, false] from rfl) ?_
                  refine sxb_skip 9 rfl rfl rfl rfl (by kernel_rfl) (by kernel_rfl) (by kernel_rfl) (by kernel_rfl) (by kernel_rfl) rfl (show _ = #[true, true, true, true, true, true, true, true, true, true, false, false, false, false, false, false, false, false, false, false, false, false] from rfl) ?_
                  refine sxb_skip 10 rfl rfl rfl rfl (by kernel_rfl) (by kernel_rfl) (by kernel_rfl) (by kernel_rfl) (by kernel_rfl) rfl (show _ = #[true, true, true, true, true, true, true, true, true, true, true, false, false, false, false, false, false, false, false, false, false, false] from rfl) ?_
                  refine sxb_skip 11 rfl rfl rfl rfl (by kernel_rfl) (by kernel_rfl) (by kernel_rfl) (by kernel_rfl) (by kernel_rfl) rfl (show _ = #[true, true, true, true, true, true, true, true, true, true, true, true, false, false, false, false, false, false, false, false, false, false] from rfl) ?_
                  refine sxb_skip 12 rfl rfl rfl rfl (by kernel_rfl) (by kernel_rfl) (by kernel_rfl) (by kernel_rfl) (by kernel_rfl) rfl (show _ = #[true, true, true, true, true, true, true, true, true, true, true, true, true, false, false, false, false, false, false, false, false, false] from rfl) ?_
                  refine sxb_skip 13 rfl rfl rfl rfl (by kernel_rfl) (by kernel_rfl) (by kernel_rfl) (by kernel_rfl) (by kernel_rfl) rfl (show _ = #[true, true, true, true, true, true, true, true, true, true, true, true, true, true, false, false, false, false, false, false, false, false] from rfl) ?_
                  refine sxb_skip 14 rfl rfl rfl rfl (by kernel_rfl) (by kernel_rfl) (by kernel_rfl) (by kernel_rfl) (by kernel_rfl) rfl (show _ = #[true, true, true, true, true, true, true, true, true, true, true, true, true, true, true, false, false, false, false, false, false, false] from rfl) ?_
                  refine sxb_skip 15 rfl rfl rfl rfl (by kernel_rfl) (by kernel_rfl) (by kernel_rfl) (by kernel_rfl) (by kernel_rfl) rfl (show _ = #[true, true, true, true, true, true, true, true, true, true, true, true, true, true, true, true, false, false, false, false, false, false] from rfl) ?_
                  refine sxb_skip 16 rfl rfl rfl rfl (by kernel_rfl) (by kernel_rfl) (by kernel_rfl) (by kernel_rfl) (by kernel_rfl) rfl (show _ = #[true, true, true, true, true, true, true, true, true, true, true, true, true, true, true, true, true, false, false, false, false, false] from rfl) ?_
                  refine sxb_skip 17 rfl rfl rfl rfl (by kernel_rfl) (by kernel_rfl) (by kernel_rfl) (by kernel_rfl) (by kernel_rfl) rfl (show _ = #[true, true, true, true, true, true, true, true, true, true, true, true, true, true, true, true, true, true, false, false, false, false] from rfl) ?_
                  refine sxb_skip 18 rfl rfl rfl rfl (by kernel_rfl) (by kernel_rfl) (by kernel_rfl) (by kernel_rfl) (by kernel_rfl) rfl (show _ = #[true, true, true, true, true, true, true, true, true, true, true, true, true, true, true, true, true, true, true, false, false, false] from rfl) ?_
                  refine sxb_skip 19 rfl rfl rfl rfl (by kernel_rfl) (by kernel_rfl) (by kernel_rfl) (by kernel_rfl) (by kernel_rfl) rfl (show _ = #[true, true, true, true, true, true, true, true, true, true, true, true, true, true, true, true, true, true, true, true, false, false] from rfl) ?_
                  refine sxb_skip 20 rfl rfl rfl rfl (by kernel_rfl) (by kernel_rfl) (by kernel_rfl) (by kernel_rfl) (by kernel_rfl) rfl (show _ = #[true, true, true, true, true, true, true, true, true, true, true, true, true, true, true, true, true, true, true, true, true, false] from rfl) ?_
                  refine sxb_takeP 21 (.bool false) rfl rfl rfl rfl (by kernel_rfl) (by kernel_rfl) (by kernel_rfl) (by kernel_rfl) (by kernel_rfl) rfl (show _ = #[true, true, true, true, true, true, true, true, true, true, true, true, true, true, true, true, true, true, true, true, true, true] from rfl) (yv_pv rfl) ?_
                  refine sxb_done (by kernel_rfl) ?_
                  refine sxq_np ?_ (by intro c h; cases h)
                  exact sxq_meetP (false, ()) (lk_cons rfl (lk_cons rfl (lk_cons rfl (lk_cons rfl (lk_cons rfl (lk_cons rfl lk_nil)))))) (.cons 0 rfl .nil) .nil (fk_cons 5 rfl fk_nil)
              · rintro ⟨x7461, _⟩
                try dsimp only
                refine sxc_if rfl (fun h7462 => ?_) (fun h7462 => ?_)
                · refine sxc_seq ?_
                  refine sxc_region ?_
                  refine sxo_assign rfl rfl rfl ?_
                  refine sxo_nil ?_
                  refine sxq_next ?_
                  refine sxc_ret ?_
                  refine sxq_thenR ?_
                  refine sxq_blkR ?_
                  refine sxq_thenR ?_
                  refine sxq_thenR ?_
                  refine sxq_blkR ?_
                  refine sxq_blkR ?_
                  refine sxq_thenR ?_
                  refine sxq_thenR ?_
                  refine sxq_blkR ?_
                  refine sxq_thenR ?_
                  exact sxq_doneP () (.inl rfl) (res1 rfl rfl) (fun h => by subst h; rfl) (fun h => by subst h; exact .nil)
                · refine sxc_skip ?_
                  refine sxq_next ?_
                  refine sxc_region ?_
                  refine sxo_move rfl rfl rfl ?_
                  refine sxo_add rfl rfl rfl rfl ?_
                  refine sxo_assign rfl rfl rfl ?_
                  refine sxo_nil ?_
                  refine sxq_blkN ?_
                  refine sxq_next ?_
                  refine sxc_region ?_
                  refine sxo_move rfl rfl rfl ?_
                  refine sxo_add rfl rfl rfl rfl ?_
                  refine sxo_assign rfl rfl rfl ?_
                  refine sxo_nil ?_
                  exact sxq_againP ((iadd .i64 x7069 1, iadd .i64 x7070 1), ()) (lk_cons rfl (lk_cons rfl (lk_cons rfl (lk_cons rfl (lk_cons rfl lk_nil))))) (.cons 0 rfl .nil) .nil (fk_cons 0 rfl fk_nil)
          · refine sxc_exit ?_
            refine sxq_thenX ?_
            refine sxq_thenX ?_
            refine sxq_blkX ?_
            refine sxq_blkN ?_
            exact sxq_meetP (x7069, ()) (lk_cons rfl (lk_cons rfl (lk_cons rfl (lk_cons rfl lk_nil)))) (.cons 0 rfl .nil) .nil (fk_cons 2 rfl fk_nil)
        · rintro ⟨x6862, _⟩
          try dsimp only
          refine sxc_region ?_
          refine sxo_move rfl rfl rfl ?_
          refine sxo_add rfl rfl rfl rfl ?_
          refine sxo_assign rfl rfl rfl ?_
          refine sxo_nil ?_
          exact sxq_againP ((x6862, iadd .i64 x4993 1), ()) (lk_cons rfl (lk_cons rfl (lk_cons rfl (lk_cons rfl lk_nil)))) (.cons 0 rfl .nil) .nil (fk_cons 0 rfl fk_nil)
      · refine sxc_exit ?_
        refine sxq_thenX ?_
        refine sxq_thenX ?_
        refine sxq_blkX ?_
        exact sxq_meetP (x4992, ()) (lk_cons rfl lk_nil) .nil .nil fk_nil
    · rintro ⟨x3744, _⟩
      try dsimp only
      refine sxc_seq ?_
      refine sxc_seq ?_
      refine sxc_region ?_
      refine sxo_move rfl rfl rfl ?_
      refine sxo_gtr rfl rfl rfl rfl ?_
      refine sxo_nil ?_
      refine sxq_next ?_
      refine sxc_if rfl (fun h3746 => ?_) (fun h3746 => ?_)
      · refine sxc_seq ?_
        refine sxc_region ?_
        refine sxo_assign rfl rfl rfl ?_
        refine sxo_nil ?_
        refine sxq_next ?_
        refine sxc_ret ?_
        refine sxq_thenR ?_
        exact sxq_doneP () (.inl rfl) (res1 rfl rfl) (fun h => by subst h; rfl) (fun h => by subst h; exact .nil)
      · refine sxc_skip ?_
        refine sxq_next ?_
        refine sxc_seq ?_
        refine sxc_region ?_
        refine sxo_assign rfl rfl rfl ?_
        refine sxo_nil ?_
        refine sxq_next ?_
        refine sxc_ret ?_
        exact sxq_doneP () (.inl rfl) (res1 rfl rfl) (fun h => by subst h; rfl) (fun h => by subst h; exact .nil)

set_option maxHeartbeats 4000000 in
theorem C_R_WalkFar (F : Nat) (x1 : List (List Int)) (a2 : Option Addr) (c3 : (Nat × List (Option Addr × Nat))) (x4 : Int) (r : List Int) (hm : M_R_WalkFar F x1 x4 = some r) :
    Pure Try.prog 41 [.agg #[.slice a2 x1.length c3.1], .int .i64 x4] [SlN eN25 iN25 1 (.slice a2 x1.length c3.1) x1 c3.2] (Option Addr × Nat) (fun g => .slice g.1 r.length g.2) (fun g => [Ro (eI .i64) 3 1 (.slice g.1 r.length g.2) r]) (fun _ => []) := by
  refine pure_of Try.func41 rfl Try.ntmps41 rfl hm (fun w => ?_)
  refine sxc_env (l' := [(0, .agg #[.slice a2 x1.length c3.1]), (1, .int .i64 x4)]) rfl ?_
  refine sxc_seq ?_
  refine sxc_region ?_
  refine sxo_box rfl rfl rfl (fun g5 => ?_)
  refine sxo_assign rfl rfl rfl ?_
  refine sxo_nil ?_
  refine sxq_next ?_
  refine sxc_seq ?_
  refine sxc_region ?_
  refine sxo_assign rfl rfl rfl ?_
  refine sxo_nil ?_
  refine sxq_next ?_
  refine sxc_join (fun ((x49, (a47, c48)) : (List Int × (Option Addr × Nat))) => [(1, .int .i64 x4), (2, .pointer (some ⟨g5, 0, none⟩)), (5, .slice a47 x49.length c48)]) (fun ((x49, (a47, c48)) : (List Int × (Option Addr × Nat))) => [⟨g5, 24, [.slice a2 x1.length c3.1]⟩]) (fun ((x49, (a47, c48)) : (List Int × (Option Addr × Nat))) => [Ro (eI .i64) 3 1 (.slice a47 x49.length c48) x49]) (fun ((x49, (a47, c48)) : (List Int × (Option Addr × Nat))) => [SlN eN25 iN25 1 (.slice a2 x1.length c3.1) x1 c3.2]) (fun ((x49, _) : (List Int × (Option Addr × Nat))) => M_R_WalkFar_j2 F x1 x4 x49) ?_ ?_
  · refine sxc_seq ?_
    refine sxc_region ?_
    refine sxo_assign rfl rfl rfl ?_
    refine sxo_nil ?_
    refine sxq_next ?_
    refine sxc_block ?_
    refine sxc_nilrow Int (eI .i64) 3 1 ?_
    refine sxc_loopP (fun (((x25295, x25296), (a25293, c25294)) : ((List Int × Int) × (Option Addr × Nat))) => [(1, .int .i64 x4), (2, .pointer (some ⟨g5, 0, none⟩)), (5, .slice a25293 x25295.length c25294), (6, .int .i64 x25296)]) (fun (((x25295, x25296), (a25293, c25294)) : ((List Int × Int) × (Option Addr × Nat))) => [⟨g5, 24, [.slice a2 x1.length c3.1]⟩]) (fun (((x25295, x25296), (a25293, c25294)) : ((List Int × Int) × (Option Addr × Nat))) => [Ro (eI .i64) 3 1 (.slice a25293 x25295.length c25294) x25295]) (fun (((x25295, x25296), (a25293, c25294)) : ((List Int × Int) × (Option Addr × Nat))) => [SlN eN25 iN25 1 (.slice a2 x1.length c3.1) x1 c3.2]) (fun k (s : ((List Int × Int) × (Option Addr × Nat))) => M_R_WalkFar_l1212 F x1 x4 k s.1) ((([] : List Int), 0), (none, 0)) F (lk_cons rfl (lk_cons rfl (lk_cons rfl (lk_cons rfl lk_nil)))) (.cons 0 rfl .nil) (.cons 0 rfl .nil) (fk_cons 0 rfl fk_nil) (fun _ => rfl) ?_
    intro k25309
    rintro ⟨⟨x25295, x25296⟩, ⟨a25293, c25294⟩⟩
    try dsimp only
    refine sxc_meq (m' := M_R_WalkFar_b1212 F x1 x4 (M_R_WalkFar_l1212 F x1 x4 k25309) x25295 x25296) rfl ?_
    refine sxc_seq ?_
    refine sxc_seq ?_
    refine sxc_region ?_
    refine sxo_move rfl rfl rfl ?_
    refine sxo_fieldAddr rfl rfl ff24_0 rfl ?_
    refine sxo_loadB (i := 0) rfl rfl tf22 rfl rfl (fun _ => rfl) rfl rfl ?_
    refine sxo_len rfl Try.underlying22 rfl rfl ?_
    refine sxo_lss rfl rfl rfl rfl ?_
    refine sxo_nil ?_
    refine sxq_next ?_
    refine sxc_if rfl (fun h25321 => ?_) (fun h25321 => ?_)
    · refine sxc_skip ?_
      refine sxq_next ?_
      refine sxc_seq ?_
      refine sxc_block ?_
      refine sxc_region ?_
      refine sxo_move rfl rfl rfl ?_
      refine sxo_slit (vs := [.int .i64 (-1)]) (ys := ([-1] : List Int)) (eI_ok .i64) (by decide) rfl Try.underlying25 tf3 rfl rfl rfl rfl rfl (by decide) (fun a25316 c25317 => ?_)
      refine sxo_app 1 (eI_ok .i64) rfl Try.underlying25 tf3 rfl rfl rfl rfl rfl (.inl ⟨0, _, rfl⟩) rfl rfl (fun x25318 e25318 a25319 c25320 => ?_)
      refine sxo_assign rfl rfl rfl ?_
      refine sxo_nil ?_
      refine sxq_blkN ?_
      refine sxq_next ?_
      refine sxc_region ?_
      refine sxo_move rfl rfl rfl ?_
      refine sxo_add rfl rfl rfl rfl ?_
      refine sxo_assign rfl rfl rfl ?_
      refine sxo_nil ?_
      exact sxq_againP ((x25318, iadd .i64 x25296 1), (a25319, c25320)) (lk_cons rfl (lk_cons rfl (lk_cons rfl (lk_cons rfl lk_nil)))) (.cons 0 rfl .nil) (.cons 0 rfl .nil) (fk_cons 0 rfl fk_nil)
    · refine sxc_exit ?_
      refine sxq_thenX ?_
      refine sxq_thenX ?_
      refine sxq_blkX ?_
      exact sxq_meetP (x25295, (a25293, c25294)) (lk_cons rfl (lk_cons rfl (lk_cons rfl lk_nil))) (.cons 0 rfl .nil) (.cons 0 rfl .nil) (fk_cons 0 rfl fk_nil)
  · rintro ⟨x49, ⟨a47, c48⟩⟩
    try dsimp only
    refine sxc_seq ?_
    refine sxc_region ?_
    refine sxo_move rfl rfl rfl ?_
    refine sxo_move rfl rfl rfl ?_
    refine sxo_indexR (j := 0) rfl Try.underlying25 tf3 rfl rfl rfl rfl (fun x50 e50 g51 h52 => ?_)
    refine sxo_storeL (j := 0) (y' := 0) (eI_ok .i64) rfl rfl rfl tf3 rfl h52 (idx_get e50).2.1 rfl (fun x53 e53 h54 => ?_)
    have h55 : x53.length = x49.length := by rw [← e53, List.length_set]
    refine sxo_again (d := 5) (v := .slice a47 x53.length c48) rfl h54 ?_
    refine sxo_again (d := 21) (v := .slice a47 x53.length c48) rfl h54 ?_
    refine sxo_nil ?_
    refine sxq_next ?_
    refine sxc_join (fun ((x12668, _) : (List Int × Unit)) => [(5, .slice a47 x12668.length c48)]) (fun ((x12668, _) : (List Int × Unit)) => []) (fun ((x12668, _) : (List Int × Unit)) => [Ro (eI .i64) 3 1 (.slice a47 x12668.length c48) x12668]) (fun ((x12668, _) : (List Int × Unit)) => []) (fun ((x12668, _) : (List Int × Unit)) => M_R_WalkFar_j607 F x12668) ?_ ?_
    · refine sxc_seq ?_
      refine sxc_region ?_
      refine sxo_assign rfl rfl rfl ?_
      refine sxo_nil ?_
      refine sxq_next ?_
      refine sxc_block ?_
      refine sxc_loopP (fun (((x16872, x16873), _) : ((List Int × Int) × Unit)) => [(2, .pointer (some ⟨g5, 0, none⟩)), (5, .slice a47 x16872.length c48), (7, .int .i64 x16873)]) (fun (((x16872, x16873), _) : ((List Int × Int) × Unit)) => [⟨g5, 24, [.slice a2 x1.length c3.1]⟩]) (fun (((x16872, x16873), _) : ((List Int × Int) × Unit)) => [Ro (eI .i64) 3 1 (.slice a47 x16872.length c48) x16872]) (fun (((x16872, x16873), _) : ((List Int × Int) × Unit)) => [SlN eN25 iN25 1 (.slice a2 x1.length c3.1) x1 c3.2]) (fun k (s : ((List Int × Int) × Unit)) => M_R_WalkFar_l1010 F x1 k s.1) ((x53, 0), ()) F (lk_cons rfl (lk_cons rfl (lk_cons rfl lk_nil))) (.cons 0 rfl .nil) (.cons 0 rfl .nil) (fk_cons 0 rfl fk_nil) (fun _ => rfl) ?_
      intro k21077
      rintro ⟨⟨x16872, x16873⟩, _⟩
      try dsimp only
      refine sxc_meq (m' := M_R_WalkFar_b1010 F x1 (M_R_WalkFar_l1010 F x1 k21077) x16872 x16873) rfl ?_
      refine sxc_seq ?_
      refine sxc_seq ?_
      refine sxc_region ?_
      refine sxo_move rfl rfl rfl ?_
      refine sxo_move rfl rfl rfl ?_
      refine sxo_len rfl Try.underlying25 rfl rfl ?_
      refine sxo_lss rfl rfl rfl rfl ?_
      refine sxo_nil ?_
      refine sxq_next ?_
      refine sxc_if rfl (fun h25280 => ?_) (fun h25280 => ?_)
      · refine sxc_skip ?_
        refine sxq_next ?_
        refine sxc_join (fun ((x23179, _) : (List Int × Unit)) => [(2, .pointer (some ⟨g5, 0, none⟩)), (5, .slice a47 x23179.length c48), (7, .int .i64 x16873)]) (fun ((x23179, _) : (List Int × Unit)) => [⟨g5, 24, [.slice a2 x1.length c3.1]⟩]) (fun ((x23179, _) : (List Int × Unit)) => [Ro (eI .i64) 3 1 (.slice a47 x23179.length c48) x23179]) (fun ((x23179, _) : (List Int × Unit)) => [SlN eN25 iN25 1 (.slice a2 x1.length c3.1) x1 c3.2]) (fun ((x23179, _) : (List Int × Unit)) => M_R_WalkFar_j1111 F (M_R_WalkFar_l1010 F x1 k21077) x16873 x23179) ?_ ?_
        · refine sxc_block ?_
          refine sxc_seq ?_
          refine sxc_region ?_
          refine sxo_assign rfl rfl rfl ?_
          refine sxo_nil ?_
          refine sxq_next ?_
          refine sxc_block ?_
          refine sxc_loopP (fun (((x23879, x23880), _) : ((List Int × Int) × Unit)) => [(2, .pointer (some ⟨g5, 0, none⟩)), (5, .slice a47 x23879.length c48), (7, .int .i64 x16873), (8, .int .i64 x23880)]) (fun (((x23879, x23880), _) : ((List Int × Int) × Unit)) => [⟨g5, 24, [.slice a2 x1.length c3.1]⟩]) (fun (((x23879, x23880), _) : ((List Int × Int) × Unit)) => [Ro (eI .i64) 3 1 (.slice a47 x23879.length c48) x23879]) (fun (((x23879, x23880), _) : ((List Int × Int) × Unit)) => [SlN eN25 iN25 1 (.slice a2 x1.length c3.1) x1 c3.2]) (fun k (s : ((List Int × Int) × Unit)) => M_R_WalkFar_l1178 F (M_R_WalkFar_l1010 F x1 k21077) x1 x16873 k s.1) ((x16872, 0), ()) F (lk_cons rfl (lk_cons rfl (lk_cons rfl (lk_cons rfl lk_nil)))) (.cons 0 rfl .nil) (.cons 0 rfl .nil) (fk_cons 0 rfl fk_nil) (fun _ => rfl) ?_
          intro k24580
          rintro ⟨⟨x23879, x23880⟩, _⟩
          try dsimp only
          refine sxc_meq (m' := M_R_WalkFar_b1178 F (M_R_WalkFar_l1010 F x1 k21077) x1 x16873 (M_R_WalkFar_l1178 F (M_R_WalkFar_l1010 F x1 k21077) x1 x16873 k24580) x23879 x23880) rfl ?_
          refine sxc_seq ?_
          refine sxc_seq ?_
          refine sxc_region ?_
          refine sxo_move rfl rfl rfl ?_
          refine sxo_move rfl rfl rfl ?_
          refine sxo_len rfl Try.underlying25 rfl rfl ?_
          refine sxo_lss rfl rfl rfl rfl ?_
          refine sxo_nil ?_
          refine sxq_next ?_
          refine sxc_if rfl (fun h25279 => ?_) (fun h25279 => ?_)
          · refine sxc_skip ?_
            refine sxq_next ?_
            refine sxc_join (fun ((x24930, _) : (List Int × Unit)) => [(2, .pointer (some ⟨g5, 0, none⟩)), (5, .slice a47 x24930.length c48), (7, .int .i64 x16873), (8, .int .i64 x23880)]) (fun ((x24930, _) : (List Int × Unit)) => [⟨g5, 24, [.slice a2 x1.length c3.1]⟩]) (fun ((x24930, _) : (List Int × Unit)) => [Ro (eI .i64) 3 1 (.slice a47 x24930.length c48) x24930]) (fun ((x24930, _) : (List Int × Unit)) => [SlN eN25 iN25 1 (.slice a2 x1.length c3.1) x1 c3.2]) (fun ((x24930, _) : (List Int × Unit)) => M_R_WalkFar_j1195 F (M_R_WalkFar_l1178 F (M_R_WalkFar_l1010 F x1 k21077) x1 x16873 k24580) x23880 x24930) ?_ ?_
            · refine sxc_block ?_
              refine sxc_seq ?_
              refine sxc_region ?_
              refine sxo_assign rfl rfl rfl ?_
              refine sxo_nil ?_
              refine sxq_next ?_
              refine sxc_block ?_
              refine sxc_loopP (fun (((x25046, x25047), _) : ((List Int × Int) × Unit)) => [(2, .pointer (some ⟨g5, 0, none⟩)), (5, .slice a47 x25046.length c48), (7, .int .i64 x16873), (8, .int .i64 x23880), (9, .int .i64 x25047)]) (fun (((x25046, x25047), _) : ((List Int × Int) × Unit)) => [⟨g5, 24, [.slice a2 x1.length c3.1]⟩]) (fun (((x25046, x25047), _) : ((List Int × Int) × Unit)) => [Ro (eI .i64) 3 1 (.slice a47 x25046.length c48) x25046]) (fun (((x25046, x25047), _) : ((List Int × Int) × Unit)) => [SlN eN25 iN25 1 (.slice a2 x1.length c3.1) x1 c3.2]) (fun k (s : ((List Int × Int) × Unit)) => M_R_WalkFar_l1206 F (M_R_WalkFar_l1178 F (M_R_WalkFar_l1010 F x1 k21077) x1 x16873 k24580) x1 x23880 k s.1) ((x23879, 0), ()) F (lk_cons rfl (lk_cons rfl (lk_cons rfl (lk_cons rfl (lk_cons rfl lk_nil))))) (.cons 0 rfl .nil) (.cons 0 rfl .nil) (fk_cons 0 rfl fk_nil) (fun _ => rfl) ?_
              intro k25163
              rintro ⟨⟨x25046, x25047⟩, _⟩
              try dsimp only
              refine sxc_meq (m' := M_R_WalkFar_b1206 F (M_R_WalkFar_l1178 F (M_R_WalkFar_l1010 F x1 k21077) x1 x16873 k24580) x1 x23880 (M_R_WalkFar_l1206 F (M_R_WalkFar_l1178 F (M_R_WalkFar_l1010 F x1 k21077) x1 x16873 k24580) x1 x23880 k25163) x25046 x25047) rfl ?_
              refine sxc_seq ?_
              refine sxc_seq ?_
              refine sxc_region ?_
              refine sxo_move rfl rfl rfl ?_
              refine sxo_fieldAddr rfl rfl ff24_0 rfl ?_
              refine sxo_loadB (i := 0) rfl rfl tf22 rfl rfl (fun _ => rfl) rfl rfl ?_
              refine sxo_move rfl rfl rfl ?_
              refine sxo_indexN (j := 0) eN25_ok (by decide) rfl Try.underlying22 tf25 rfl rfl rfl rfl (fun x25177 e25177 g25180 b25178 o25179 => ?_)
              refine sxo_loadF (j := 0) rfl rfl tf25 rfl rfl (fun _ => rfl) rfl rfl ?_
              refine sxo_len rfl Try.underlying25 rfl rfl ?_
              refine sxo_lss rfl rfl rfl rfl ?_
              refine sxo_move rfl rfl rfl ?_
              refine sxo_join 6 (fun ((x25185, _) : (Bool × Unit)) => [(2, .pointer (some ⟨g5, 0, none⟩)), (5, .slice a47 x25046.length c48), (7, .int .i64 x16873), (8, .int .i64 x23880), (9, .int .i64 x25047), (50, .bool x25185)]) (fun ((x25185, _) : (Bool × Unit)) => [⟨g5, 24, [.slice a2 x1.length c3.1]⟩]) (fun ((x25185, _) : (Bool × Unit)) => [Ro (eI .i64) 3 1 (.slice a47 x25046.length c48) x25046]) (fun ((x25185, _) : (Bool × Unit)) => [SlN eN25 iN25 1 (.slice a2 x1.length c3.1) x1 c3.2]) (fun ((x25185, _) : (Bool × Unit)) => M_R_WalkFar_j1208 F (M_R_WalkFar_l1178 F (M_R_WalkFar_l1010 F x1 k21077) x1 x16873 k24580) (M_R_WalkFar_l1206 F (M_R_WalkFar_l1178 F (M_R_WalkFar_l1010 F x1 k21077) x1 x16873 k24580) x1 x23880 k25163) x1 x23880 x25046 x25047 x25185) ?_ ?_
              · refine sxo_take (os := _) rfl ?_
                refine sxo_if (fun h25181 => ?_) (fun h25181 => ?_)
                · refine sxo_isT (k := 44) rfl h25181 ?_
                  refine sxo_move rfl rfl rfl ?_
                  refine sxo_move rfl rfl rfl ?_
                  refine sxo_indexR (j := 0) rfl Try.underlying25 tf3 rfl rfl rfl rfl (fun x25276 e25276 g25277 h25278 => ?_)
                  refine sxo_loadR (j := 0) (y := x25276) (eI_ok .i64) rfl rfl tf3 rfl h25278 (idx_get e25276).2.2 (fun _ => rfl) rfl rfl ?_
                  refine sxo_geq rfl rfl rfl rfl ?_
                  refine sxo_pick (b := true) rfl rfl rfl rfl ?_
                  refine sxo_nil ?_
                  exact sxq_meetP ((decide (0 ≤ x25276)), ()) (lk_cons rfl (lk_cons rfl (lk_cons rfl (lk_cons rfl (lk_cons rfl (lk_cons rfl lk_nil)))))) (.cons 0 rfl .nil) (.cons 0 rfl .nil) (fk_cons 2 rfl fk_nil)
                · refine sxo_isF (k := 44) rfl h25181 ?_
                  refine sxo_skip rfl rfl rfl ?_
                  refine sxo_skip rfl rfl rfl ?_
                  refine sxo_skip rfl rfl rfl ?_
                  refine sxo_skip rfl rfl rfl ?_
                  refine sxo_skip rfl rfl rfl ?_
                  refine sxo_pick (b := false) rfl rfl rfl rfl ?_
                  refine sxo_nil ?_
                  exact sxq_meetP (false, ()) (lk_cons rfl (lk_cons rfl (lk_cons rfl (lk_cons rfl (lk_cons rfl (lk_cons rfl lk_nil)))))) (.cons 0 rfl .nil) (.cons 0 rfl .nil) (fk_cons 2 rfl fk_nil)
              · rintro ⟨x25185, _⟩
                try dsimp only
                refine sxo_take (os := _) rfl ?_
                refine sxo_nil ?_
                refine sxq_next ?_
                refine sxc_if rfl (fun h25275 => ?_) (fun h25275 => ?_)
                · refine sxc_skip ?_
                  refine sxq_next ?_
                  refine sxc_join (fun ((x25230, _) : (List Int × Unit)) => [(2, .pointer (some ⟨g5, 0, none⟩)), (5, .slice a47 x25230.length c48), (7, .int .i64 x16873), (8, .int .i64 x23880), (9, .int .i64 x25047)]) (fun ((x25230, _) : (List Int × Unit)) => [⟨g5, 24, [.slice a2 x1.length c3.1]⟩]) (fun ((x25230, _) : (List Int × Unit)) => [Ro (eI .i64) 3 1 (.slice a47 x25230.length c48) x25230]) (fun ((x25230, _) : (List Int × Unit)) => [SlN eN25 iN25 1 (.slice a2 x1.length c3.1) x1 c3.2]) (fun ((x25230, _) : (List Int × Unit)) => M_R_WalkFar_j1210 F (M_R_WalkFar_l1206 F (M_R_WalkFar_l1178 F (M_R_WalkFar_l1010 F x1 k21077) x1 x16873 k24580) x1 x23880 k25163) x25047 x25230) ?_ ?_
                  · refine sxc_block ?_
                    refine sxc_seq ?_
                    refine sxc_region ?_
                    refine sxo_fieldAddr rfl rfl ff24_0 rfl ?_
                    refine sxo_loadB (i := 0) rfl rfl tf22 rfl rfl (fun _ => rfl) rfl rfl ?_
                    refine sxo_move rfl rfl rfl ?_
                    refine sxo_indexN (j := 0) eN25_ok (by decide) rfl Try.underlying22 tf25 rfl rfl rfl rfl (fun x25231 e25231 g25234 b25232 o25233 => ?_)
                    refine sxo_loadF (j := 0) rfl rfl tf25 rfl rfl (fun _ => rfl) rfl rfl ?_
                    refine sxo_move rfl rfl rfl ?_
                    refine sxo_indexF (j := 1) (eI_ok .i64) (by decide) rfl Try.underlying25 tf3 rfl rfl rfl rfl (fun x25235 e25235 b25236 o25237 => ?_)
                    refine sxo_loadF (j := 0) rfl rfl tf3 rfl rfl (fun _ => rfl) rfl rfl ?_
                    refine sxo_assign rfl rfl rfl ?_
                    refine sxo_nil ?_
                    refine sxq_next ?_
                    refine sxc_join (fun ((x25251, _) : (Bool × Unit)) => [(2, .pointer (some ⟨g5, 0, none⟩)), (5, .slice a47 x25046.length c48), (7, .int .i64 x16873), (8, .int .i64 x23880), (9, .int .i64 x25047), (10, .int .i64 x25235), (77, .bool x25251)]) (fun ((x25251, _) : (Bool × Unit)) => [⟨g5, 24, [.slice a2 x1.length c3.1]⟩]) (fun ((x25251, _) : (Bool × Unit)) => [Ro (eI .i64) 3 1 (.slice a47 x25046.length c48) x25046]) (fun ((x25251, _) : (Bool × Unit)) => [SlN eN25 iN25 1 (.slice a2 x1.length c3.1) x1 c3.2]) (fun ((x25251, _) : (Bool × Unit)) => M_R_WalkFar_j1211 F (M_R_WalkFar_l1206 F (M_R_WalkFar_l1178 F (M_R_WalkFar_l1010 F x1 k21077) x1 x16873 k24580) x1 x23880 k25163) x23880 x25046 x25047 x25235 x25251) ?_ ?_
                    · refine sxc_idxO (j := 0) rfl (fun x25262 e25262 g25263 h25264 => ?_)
                      replace h25264 : a47 = some ⟨g25263, 0, none⟩ := h25264
                      have h25265 := own_of (k := x25046.length) (c := c48) h25264
                      refine sxc_split (fun h25266 => ?_) (fun h25266 => ?_)
                      · refine sxb_draw mixed [] [⟨g5, 24, [.slice a2 x1.length c3.1]⟩] [CellsAt b25236 o25237 ((eI .i64) x25235), CellsAt b25232 o25233 (eN25 (x25231, g25234)), Sl (eI .i64) 1 (.slice g25234.1 x25231.length g25234.2) x25231, SlN eN25 iN25 1 (.slice a2 x1.length c3.1) x1 c3.2, CellsAt g25263 (x25235.toNat * 1) ((eI .i64) x25262)] (.cons 0 rfl .nil) (gk_F 0 rfl (gk_F 1 rfl (gk_F 2 rfl (gk_F 3 rfl (gk_R 0 rfl (at_row (eI_ok .i64) e25262 h25264) gk_nil))))) 17 rfl ?_
                        refine sxb_takeP 0 (.slice a47 x25046.length c48) rfl rfl rfl rfl (by kernel_rfl) (by kernel_rfl) (by kernel_rfl) (by kernel_rfl) (by kernel_rfl) rfl (show _ = #[true, false, false, false, false, false, false, false, false, false, false, false, false, false, false, false, false] from rfl) (yv_pv rfl) ?_
                        refine sxb_takeP 1 (.int .i64 x25235) rfl rfl rfl rfl (by kernel_rfl) (by kernel_rfl) (by kernel_rfl) (by kernel_rfl) (by kernel_rfl) rfl (show _ = #[true, true, false, false, false, false, false, false, false, false, false, false, false, false, false, false, false] from rfl) (yv_pv rfl) ?_
                        refine sxb_again (d := 61) (v := .slice (some ⟨g25263, 0, none⟩) x25046.length c48) rfl (by rw [h25264] <;> rfl) ?_
                        refine sxb_takeP 2 (.pointer (some ⟨g25263, x25235.toNat * 1, none⟩)) rfl rfl rfl rfl (by kernel_rfl) (by kernel_rfl) (by kernel_rfl) (by kernel_rfl) (by kernel_rfl) rfl (show _ = #[true, true, true, false, false, false, false, false, false, false, false, false, false, false, false, false, false] from rfl) (yv_idxO Try.underlying25 tf3 rfl rfl (idx_get e25262).1 (idx_lt e25262)) ?_
                        refine sxb_again (d := 61) (v := .slice a47 x25046.length c48) rfl (by rw [h25264] <;> rfl) ?_
                        refine sxb_take 3 (.int .i64 x25262) [] rfl rfl rfl rfl (by kernel_rfl) (by kernel_rfl) (by kernel_rfl) (by kernel_rfl) (by kernel_rfl) (by kernel_rfl) rfl (show _ = #[true, true, true, true, false, false, false, false, false, false, false, false, false, false, false, false, false] from rfl) (yv_loadF (j := 4) rfl tf3 rfl rfl (fun _ => rfl) rfl) ?_
                        refine sxb_takeP 4 (.bool (decide (x25262 < 0))) rfl rfl rfl rfl (by kernel_rfl) (by kernel_rfl) (by kernel_rfl) (by kernel_rfl) (by kernel_rfl) rfl (show _ = #[true, true, true, true, true, false, false, false, false, false, false, false, false, false, false, false, false] from rfl) (yv_pv rfl) ?_
                        refine sxb_takeP 5 (.bool (decide (x25262 < 0))) rfl rfl rfl rfl (by kernel_rfl) (by kernel_rfl) (by kernel_rfl) (by kernel_rfl) (by kernel_rfl) rfl (show _ = #[true, true, true, true, true, true, false, false, false, false, false, false, false, false, false, false, false] from rfl) (yv_pv rfl) ?_
                        refine sxb_again (d := 66) (v := .bool true) rfl (by rw [h25266] <;> rfl) ?_
                        refine sxb_skip 6 rfl rfl rfl rfl (by kernel_rfl) (by kernel_rfl) (by kernel_rfl) (by kernel_rfl) (by kernel_rfl) rfl (show _ = #[true, true, true, true, true, true, true, false, false, false, false, false, false, false, false, false, false] from rfl) ?_
                        refine sxb_skip 7 rfl rfl rfl rfl (by kernel_rfl) (by kernel_rfl) (by kernel_rfl) (by kernel_rfl) (by kernel_rfl) rfl (show _ = #[true, true, true, true, true, true, true, true, false, false, false, false, false, false, false, false, false] from rfl) ?_
                        refine sxb_skip 8 rfl rfl rfl rfl (by kernel_rfl) (by kernel_rfl) (by kernel_rfl) (by kernel_rfl) (by kernel_rfl) rfl (show _ = #[true, true, true, true, true, true, true, true, true, false, false, false, false, false, false, false, false] from rfl) ?_
                        refine sxb_skip 9 rfl rfl rfl rfl (by kernel_rfl) (by kernel_rfl) (by kernel_rfl) (by kernel_rfl) (by kernel_rfl) rfl (show _ = #[true, true, true, true, true, true, true, true, true, true, false, false, false, false, false, false, false] from rfl) ?_
                        refine sxb_skip 10 rfl rfl rfl rfl (by kernel_rfl) (by kernel_rfl) (by kernel_rfl) (by kernel_rfl) (by kernel_rfl) rfl (show _ = #[true, true, true, true, true, true, true, true, true, true, true, false, false, false, false, false, false] from rfl) ?_
                        refine sxb_skip 11 rfl rfl rfl rfl (by kernel_rfl) (by kernel_rfl) (by kernel_rfl) (by kernel_rfl) (by kernel_rfl) rfl (show _ = #[true, true, true, true, true, true, true, true, true, true, true, true, false, false, false, false, false] from rfl) ?_
                        refine sxb_skip 12 rfl rfl rfl rfl (by kernel_rfl) (by kernel_rfl) (by kernel_rfl) (by kernel_rfl) (by kernel_rfl) rfl (show _ = #[true, true, true, true, true, true, true, true, true, true, true, true, true, false, false, false, false] from rfl) ?_
                        refine sxb_skip 13 rfl rfl rfl rfl (by kernel_rfl) (by kernel_rfl) (by kernel_rfl) (by kernel_rfl) (by kernel_rfl) rfl (show _ = #[true, true, true, true, true, true, true, true, true, true, true, true, true, true, false, false, false] from rfl) ?_
                        refine sxb_skip 14 rfl rfl rfl rfl (by kernel_rfl) (by kernel_rfl) (by kernel_rfl) (by kernel_rfl) (by kernel_rfl) rfl (show _ = #[true, true, true, true, true, true, true, true, true, true, true, true, true, true, true, false, false] from rfl) ?_
                        refine sxb_skip 15 rfl rfl rfl rfl (by kernel_rfl) (by kernel_rfl) (by kernel_rfl) (by kernel_rfl) (by kernel_rfl) rfl (show _ = #[true, true, true, true, true, true, true, true, true, true, true, true, true, true, true, true, false] from rfl) ?_
                        refine sxb_takeP 16 (.bool true) rfl rfl rfl rfl (by kernel_rfl) (by kernel_rfl) (by kernel_rfl) (by kernel_rfl) (by kernel_rfl) rfl (show _ = #[true, true, true, true, true, true, true, true, true, true, true, true, true, true, true, true, true] from rfl) (yv_pv rfl) ?_
                        refine sxb_done (by kernel_rfl) ?_
                        refine sxq_np ?_ (by intro c h; cases h)
                        exact sxq_meetP (true, ()) (lk_cons rfl (lk_cons rfl (lk_cons rfl (lk_cons rfl (lk_cons rfl (lk_cons rfl (lk_cons rfl lk_nil))))))) (.cons 0 rfl .nil) (.cons 0 rfl .nil) (fk_cons 3 rfl fk_nil)
                      · refine sxc_idxO (j := 0) rfl (fun x25267 e25267 g25268 h25269 => ?_)
                        replace h25269 : a47 = some ⟨g25268, 0, none⟩ := h25269
                        have h25270 := own_of (k := x25046.length) (c := c48) h25269
                        refine sxc_idxO (j := 0) rfl (fun x25271 e25271 g25272 h25273 => ?_)
                        replace h25273 : a47 = some ⟨g25272, 0, none⟩ := h25273
                        have h25274 := own_of (k := x25046.length) (c := c48) h25273
                        refine sxb_draw mixed [] [⟨g5, 24, [.slice a2 x1.length c3.1]⟩] [CellsAt b25236 o25237 ((eI .i64) x25235), CellsAt b25232 o25233 (eN25 (x25231, g25234)), Sl (eI .i64) 1 (.slice g25234.1 x25231.length g25234.2) x25231, SlN eN25 iN25 1 (.slice a2 x1.length c3.1) x1 c3.2, CellsAt g25263 (x25235.toNat * 1) ((eI .i64) x25262), CellsAt g25268 (x23880.toNat * 1) ((eI .i64) x25267), CellsAt g25272 (x25235.toNat * 1) ((eI .i64) x25271)] (.cons 0 rfl .nil) (gk_F 0 rfl (gk_F 1 rfl (gk_F 2 rfl (gk_F 3 rfl (gk_R 0 rfl (at_row (eI_ok .i64) e25262 h25264) (gk_R 0 rfl (at_row (eI_ok .i64) e25267 h25269) (gk_R 0 rfl (at_row (eI_ok .i64) e25271 h25273) gk_nil))))))) 17 rfl ?_
                        refine sxb_takeP 0 (.slice a47 x25046.length c48) rfl rfl rfl rfl (by kernel_rfl) (by kernel_rfl) (by kernel_rfl) (by kernel_rfl) (by kernel_rfl) rfl (show _ = #[true, false, false, false, false, false, false, false, false, false, false, false, false, false, false, false, false] from rfl) (yv_pv rfl) ?_
                        refine sxb_takeP 1 (.int .i64 x25235) rfl rfl rfl rfl (by kernel_rfl) (by kernel_rfl) (by kernel_rfl) (by kernel_rfl) (by kernel_rfl) rfl (show _ = #[true, true, false, false, false, false, false, false, false, false, false, false, false, false, false, false, false] from rfl) (yv_pv rfl) ?_
                        refine sxb_again (d := 61) (v := .slice (some ⟨g25263, 0, none⟩) x25046.length c48) rfl (by rw [h25264] <;> rfl) ?_
                        refine sxb_takeP 2 (.pointer (some ⟨g25263, x25235.toNat * 1, none⟩)) rfl rfl rfl rfl (by kernel_rfl) (by kernel_rfl) (by kernel_rfl) (by kernel_rfl) (by kernel_rfl) rfl (show _ = #[true, true, true, false, false, false, false, false, false, false, false, false, false, false, false, false, false] from rfl) (yv_idxO Try.underlying25 tf3 rfl rfl (idx_get e25262).1 (idx_lt e25262)) ?_
                        refine sxb_again (d := 61) (v := .slice a47 x25046.length c48) rfl (by rw [h25264] <;> rfl) ?_
                        refine sxb_take 3 (.int .i64 x25262) [] rfl rfl rfl rfl (by kernel_rfl) (by kernel_rfl) (by kernel_rfl) (by kernel_rfl) (by kernel_rfl) (by kernel_rfl) rfl (show _ = #[true, true, true, true, false, false, false, false, false, false, false, false, false, false, false, false, false] from rfl) (yv_loadF (j := 4) rfl tf3 rfl rfl (fun _ => rfl) rfl) ?_
                        refine sxb_takeP 4 (.bool (decide (x25262 < 0))) rfl rfl rfl rfl (by kernel_rfl) (by kernel_rfl) (by kernel_rfl) (by kernel_rfl) (by kernel_rfl) rfl (show _ = #[true, true, true, true, true, false, false, false, false, false, false, false, false, false, false, false, false] from rfl) (yv_pv rfl) ?_
                        refine sxb_takeP 5 (.bool (decide (x25262 < 0))) rfl rfl rfl rfl (by kernel_rfl) (by kernel_rfl) (by kernel_rfl) (by kernel_rfl) (by kernel_rfl) rfl (show _ = #[true, true, true, true, true, true, false, false, false, false, false, false, false, false, false, false, false] from rfl) (yv_pv rfl) ?_
                        refine sxb_again (d := 66) (v := .bool false) rfl (by rw [h25266] <;> rfl) ?_
                        refine sxb_takeP 6 (.slice a47 x25046.length c48) rfl rfl rfl rfl (by kernel_rfl) (by kernel_rfl) (by kernel_rfl) (by kernel_rfl) (by kernel_rfl) rfl (show _ = #[true, true, true, true, true, true, true, false, false, false, false, false, false, false, false, false, false] from rfl) (yv_pv rfl) ?_
                        refine sxb_takeP 7 (.int .i64 x23880) rfl rfl rfl rfl (by kernel_rfl) (by kernel_rfl) (by kernel_rfl) (by kernel_rfl) (by kernel_rfl) rfl (show _ = #[true, true, true, true, true, true, true, true, false, false, false, false, false, false, false, false, false] from rfl) (yv_pv rfl) ?_
                        refine sxb_again (d := 67) (v := .slice (some ⟨g25268, 0, none⟩) x25046.length c48) rfl (by rw [h25269] <;> rfl) ?_
                        refine sxb_takeP 8 (.pointer (some ⟨g25268, x23880.toNat * 1, none⟩)) rfl rfl rfl rfl (by kernel_rfl) (by kernel_rfl) (by kernel_rfl) (by kernel_rfl) (by kernel_rfl) rfl (show _ = #[true, true, true, true, true, true, true, true, true, false, false, false, false, false, false, false, false] from rfl) (yv_idxO Try.underlying25 tf3 rfl rfl (idx_get e25267).1 (idx_lt e25267)) ?_
                        refine sxb_again (d := 67) (v := .slice a47 x25046.length c48) rfl (by rw [h25269] <;> rfl) ?_
                        refine sxb_take 9 (.int .i64 x25267) [] rfl rfl rfl rfl (by kernel_rfl) (by kernel_rfl) (by kernel_rfl) (by kernel_rfl) (by kernel_rfl) (by kernel_rfl) rfl (show _ = #[true, true, true, true, true, true, true, true, true, true, false, false, false, false, false, false, false] from rfl) (yv_loadF (j := 5) rfl tf3 rfl rfl (fun _ => rfl) rfl) ?_
                        refine sxb_takeP 10 (.int .i64 (iadd .i64 x25267 1)) rfl rfl rfl rfl (by kernel_rfl) (by kernel_rfl) (by kernel_rfl) (by kernel_rfl) (by kernel_rfl) rfl (show _ = #[true, true, true, true, true, true, true, true, true, true, true, false, false, false, false, false, false] from rfl) (yv_pv rfl) ?_
                        refine sxb_takeP 11 (.slice a47 x25046.length c48) rfl rfl rfl rfl (by kernel_rfl) (by kernel_rfl) (by kernel_rfl) (by kernel_rfl) (by kernel_rfl) rfl (show _ = #[true, true, true, true, true, true, true, true, true, true, true, true, false, false, false, false, false] from rfl) (yv_pv rfl) ?_
                        refine sxb_takeP 12 (.int .i64 x25235) rfl rfl rfl rfl (by kernel_rfl) (by kernel_rfl) (by kernel_rfl) (by kernel_rfl) (by kernel_rfl) rfl (show _ = #[true, true, true, true, true, true, true, true, true, true, true, true, true, false, false, false, false] from rfl) (yv_pv rfl) ?_
                        refine sxb_again (d := 72) (v := .slice (some ⟨g25272, 0, none⟩) x25046.length c48) rfl (by rw [h25273] <;> rfl) ?_
                        refine sxb_takeP 13 (.pointer (some ⟨g25272, x25235.toNat * 1, none⟩)) rfl rfl rfl rfl (by kernel_rfl) (by kernel_rfl) (by kernel_rfl) (by kernel_rfl) (by kernel_rfl) rfl (show _ = #[true, true, true, true, true, true, true, true, true, true, true, true, true, true, false, false, false] from rfl) (yv_idxO Try.underlying25 tf3 rfl rfl (idx_get e25271).1 (idx_lt e25271)) ?_
                        refine sxb_again (d := 72) (v := .slice a47 x25046.length c48) rfl (by rw [h25273] <;> rfl) ?_
                        refine sxb_take 14 (.int .i64 x25271) [] rfl rfl rfl rfl (by kernel_rfl) (by kernel_rfl) (by kernel_rfl) (by kernel_rfl) (by kernel_rfl) (by kernel_rfl) rfl (show _ = #[true, true, true, true, true, true, true, true, true, true, true, true, true, true, true, false, false] from rfl) (yv_loadF (j := 6) rfl tf3 rfl rfl (fun _ => rfl) rfl) ?_
                        refine sxb_takeP 15 (.bool (decide ((iadd .i64 x25267 1) < x25271))) rfl rfl rfl rfl (by kernel_rfl) (by kernel_rfl) (by kernel_rfl) (by kernel_rfl) (by kernel_rfl) rfl (show _ = #[true, true, true, true, true, true, true, true, true, true, true, true, true, true, true, true, false] from rfl) (yv_pv rfl) ?_
                        refine sxb_takeP 16 (.bool (decide ((iadd .i64 x25267 1) < x25271))) rfl rfl rfl rfl (by kernel_rfl) (by kernel_rfl) (by kernel_rfl) (by kernel_rfl) (by kernel_rfl) rfl (show _ = #[true, true, true, true, true, true, true, true, true, true, true, true, true, true, true, true, true] from rfl) (yv_pv rfl) ?_
                        refine sxb_done (by kernel_rfl) ?_
                        refine sxq_np ?_ (by intro c h; cases h)
                        exact sxq_meetP ((decide ((iadd .i64 x25267 1) < x25271)), ()) (lk_cons rfl (lk_cons rfl (lk_cons rfl (lk_cons rfl (lk_cons rfl (lk_cons rfl (lk_cons rfl lk_nil))))))) (.cons 0 rfl .nil) (.cons 0 rfl .nil) (fk_cons 3 rfl fk_nil)
                    · rintro ⟨x25251, _⟩
                      try dsimp only
                      refine sxc_if rfl (fun h25261 => ?_) (fun h25261 => ?_)
                      · refine sxc_region ?_
                        refine sxo_move rfl rfl rfl ?_
                        refine sxo_move rfl rfl rfl ?_
                        refine sxo_move rfl rfl rfl ?_
                        refine sxo_move rfl rfl rfl ?_
                        refine sxo_indexR (j := 0) rfl Try.underlying25 tf3 rfl rfl rfl rfl (fun x25252 e25252 g25253 h25254 => ?_)
                        refine sxo_loadR (j := 0) (y := x25252) (eI_ok .i64) rfl rfl tf3 rfl h25254 (idx_get e25252).2.2 (fun _ => rfl) rfl rfl ?_
                        refine sxo_add rfl rfl rfl rfl ?_
                        refine sxo_indexR (j := 0) rfl Try.underlying25 tf3 rfl rfl rfl rfl (fun x25255 e25255 g25256 h25257 => ?_)
                        refine sxo_storeL (j := 0) (y' := iadd .i64 x25252 1) (eI_ok .i64) rfl rfl rfl tf3 rfl h25257 (idx_get e25255).2.1 rfl (fun x25258 e25258 h25259 => ?_)
                        have h25260 : x25258.length = x25046.length := by rw [← e25258, List.length_set]
                        refine sxo_again (d := 5) (v := .slice a47 x25258.length c48) rfl h25259 ?_
                        refine sxo_again (d := 78) (v := .slice a47 x25258.length c48) rfl h25259 ?_
                        refine sxo_again (d := 80) (v := .slice a47 x25258.length c48) rfl h25259 ?_
                        refine sxo_nil ?_
                        refine sxq_blkN ?_
                        exact sxq_meetP (x25258, ()) (lk_cons rfl (lk_cons rfl (lk_cons rfl (lk_cons rfl (lk_cons rfl lk_nil))))) (.cons 0 rfl .nil) (.cons 0 rfl .nil) (fk_cons 0 rfl fk_nil)
                      · refine sxc_skip ?_
                        refine sxq_blkN ?_
                        exact sxq_meetP (x25046, ()) (lk_cons rfl (lk_cons rfl (lk_cons rfl (lk_cons rfl (lk_cons rfl lk_nil))))) (.cons 0 rfl .nil) (.cons 0 rfl .nil) (fk_cons 0 rfl fk_nil)
                  · rintro ⟨x25230, _⟩
                    try dsimp only
                    refine sxc_region ?_
                    refine sxo_move rfl rfl rfl ?_
                    refine sxo_add rfl rfl rfl rfl ?_
                    refine sxo_assign rfl rfl rfl ?_
                    refine sxo_nil ?_
                    exact sxq_againP ((x25230, iadd .i64 x25047 1), ()) (lk_cons rfl (lk_cons rfl (lk_cons rfl (lk_cons rfl (lk_cons rfl lk_nil))))) (.cons 0 rfl .nil) (.cons 0 rfl .nil) (fk_cons 0 rfl fk_nil)
                · refine sxc_exit ?_
                  refine sxq_thenX ?_
                  refine sxq_thenX ?_
                  refine sxq_blkX ?_
                  refine sxq_blkN ?_
                  exact sxq_meetP (x25046, ()) (lk_cons rfl (lk_cons rfl (lk_cons rfl (lk_cons rfl lk_nil)))) (.cons 0 rfl .nil) (.cons 0 rfl .nil) (fk_cons 0 rfl fk_nil)
            · rintro ⟨x24930, _⟩
              try dsimp only
              refine sxc_region ?_
              refine sxo_move rfl rfl rfl ?_
              refine sxo_add rfl rfl rfl rfl ?_
              refine sxo_assign rfl rfl rfl ?_
              refine sxo_nil ?_
              exact sxq_againP ((x24930, iadd .i64 x23880 1), ()) (lk_cons rfl (lk_cons rfl (lk_cons rfl (lk_cons rfl lk_nil)))) (.cons 0 rfl .nil) (.cons 0 rfl .nil) (fk_cons 0 rfl fk_nil)
          · refine sxc_exit ?_
            refine sxq_thenX ?_
            refine sxq_thenX ?_
            refine sxq_blkX ?_
            refine sxq_blkN ?_
            exact sxq_meetP (x23879, ()) (lk_cons rfl (lk_cons rfl (lk_cons rfl lk_nil))) (.cons 0 rfl .nil) (.cons 0 rfl .nil) (fk_cons 0 rfl fk_nil)
        · rintro ⟨x23179, _⟩
          try dsimp only
          refine sxc_region ?_
          refine sxo_move rfl rfl rfl ?_
          refine sxo_add rfl rfl rfl rfl ?_
          refine sxo_assign rfl rfl rfl ?_
          refine sxo_nil ?_
          exact sxq_againP ((x23179, iadd .i64 x16873 1), ()) (lk_cons rfl (lk_cons rfl (lk_cons rfl lk_nil))) (.cons 0 rfl .nil) (.cons 0 rfl .nil) (fk_cons 0 rfl fk_nil)
      · refine sxc_exit ?_
        refine sxq_thenX ?_
        refine sxq_thenX ?_
        refine sxq_blkX ?_
        exact sxq_meetP (x16872, ()) (lk_cons rfl lk_nil) .nil (.cons 0 rfl .nil) fk_nil
    · rintro ⟨x12668, _⟩
      try dsimp only
      refine sxc_seq ?_
      refine sxc_region ?_
      refine sxo_move rfl rfl rfl ?_
      refine sxo_assign rfl rfl rfl ?_
      refine sxo_nil ?_
      refine sxq_next ?_
      refine sxc_ret ?_
      exact sxq_doneP (a47, c48) (.inl rfl) (res1 rfl rfl) (fun h => by subst h; rfl) (fun h => by subst h; exact (.cons 0 rfl .nil))

set_option maxHeartbeats 4000000 in
theorem C_R_StrongParts (F : Nat) (x1 : List (List Int)) (a2 : Option Addr) (c3 : (Nat × List (Option Addr × Nat))) (r : List Int) (hm : M_R_StrongParts F x1 = some r) :
    Pure Try.prog 15 [.agg #[.slice a2 x1.length c3.1]] [SlN eN25 iN25 1 (.slice a2 x1.length c3.1) x1 c3.2] (Option Addr × Nat) (fun g => .slice g.1 r.length g.2) (fun g => [Ro (eI .i64) 3 1 (.slice g.1 r.length g.2) r]) (fun _ => []) := by
  refine pure_of Try.func15 rfl Try.ntmps15 rfl hm (fun w => ?_)
  refine sxc_env (l' := [(0, .agg #[.slice a2 x1.length c3.1])]) rfl ?_
  refine sxc_seq ?_
  refine sxc_region ?_
  refine sxo_box rfl rfl rfl (fun g4 => ?_)
  refine sxo_assign rfl rfl rfl ?_
  refine sxo_nil ?_
  refine sxq_next ?_
  refine sxc_seq ?_
  refine sxc_region ?_
  refine sxo_fieldAddr rfl rfl ff24_0 rfl ?_
  refine sxo_loadB (i := 0) rfl rfl tf22 rfl rfl (fun _ => rfl) rfl rfl ?_
  refine sxo_len rfl Try.underlying22 rfl rfl ?_
  refine sxo_assign rfl rfl rfl ?_
  refine sxo_nil ?_
  refine sxq_next ?_
  refine sxc_seq ?_
  refine sxc_region ?_
  refine sxo_assign rfl rfl rfl ?_
  refine sxo_nil ?_
  refine sxq_next ?_
  refine sxc_join (fun ((x66, (a64, c65)) : (List (List Int) × (Option Addr × (Nat × List (Option Addr × Nat))))) => [(3, .int .i64 (x1.length : Int)), (4, .slice a64 x66.length c65.1)]) (fun ((x66, (a64, c65)) : (List (List Int) × (Option Addr × (Nat × List (Option Addr × Nat))))) => []) (fun ((x66, (a64, c65)) : (List (List Int) × (Option Addr × (Nat × List (Option Addr × Nat))))) => [RoN eN25 rN25 25 1 (.slice a64 x66.length c65.1) x66 c65.2 []]) (fun ((x66, (a64, c65)) : (List (List Int) × (Option Addr × (Nat × List (Option Addr × Nat))))) => []) (fun ((x66, _) : (List (List Int) × (Option Addr × (Nat × List (Option Addr × Nat))))) => M_R_StrongParts_j2 F x1 x66) ?_ ?_
  · refine sxc_seq ?_
    refine sxc_region ?_
    refine sxo_assign rfl rfl rfl ?_
    refine sxo_nil ?_
    refine sxq_next ?_
    refine sxc_block ?_
    refine sxc_nilN (List Int) (Option Addr × Nat) eN25 rN25 25 1 ?_
    refine sxc_loopP (fun (((x3706, x3707), (a3704, c3705)) : ((List (List Int) × Int) × (Option Addr × (Nat × List (Option Addr × Nat))))) => [(1, .pointer (some ⟨g4, 0, none⟩)), (3, .int .i64 (x1.length : Int)), (4, .slice a3704 x3706.length c3705.1), (5, .int .i64 x3707)]) (fun (((x3706, x3707), (a3704, c3705)) : ((List (List Int) × Int) × (Option Addr × (Nat × List (Option Addr × Nat))))) => [⟨g4, 24, [.slice a2 x1.length c3.1]⟩]) (fun (((x3706, x3707), (a3704, c3705)) : ((List (List Int) × Int) × (Option Addr × (Nat × List (Option Addr × Nat))))) => [RoN eN25 rN25 25 1 (.slice a3704 x3706.length c3705.1) x3706 c3705.2 []]) (fun (((x3706, x3707), (a3704, c3705)) : ((List (List Int) × Int) × (Option Addr × (Nat × List (Option Addr × Nat))))) => [SlN eN25 iN25 1 (.slice a2 x1.length c3.1) x1 c3.2]) (fun k (s : ((List (List Int) × Int) × (Option Addr × (Nat × List (Option Addr × Nat))))) => M_R_StrongParts_l192 F x1 k s.1) ((([] : List (List Int)), 0), (none, (0, ([] : List (Option Addr × Nat))))) F (lk_cons rfl (lk_cons rfl (lk_cons rfl (lk_cons rfl lk_nil)))) (.cons 0 rfl .nil) (.cons 0 rfl .nil) (fk_cons 0 rfl fk_nil) (fun _ => rfl) ?_
    intro k3726
    rintro ⟨⟨x3706, x3707⟩, ⟨a3704, c3705⟩⟩
    try dsimp only
    refine sxc_meq (m' := M_R_StrongParts_b192 F x1 (M_R_StrongParts_l192 F x1 k3726) x3706 x3707) rfl ?_
    refine sxc_seq ?_
    refine sxc_seq ?_
    refine sxc_region ?_
    refine sxo_move rfl rfl rfl ?_
    refine sxo_move rfl rfl rfl ?_
    refine sxo_lss rfl rfl rfl rfl ?_
    refine sxo_nil ?_
    refine sxq_next ?_
    refine sxc_if rfl (fun h3744 => ?_) (fun h3744 => ?_)
    · refine sxc_skip ?_
      refine sxq_next ?_
      refine sxc_seq ?_
      refine sxc_block ?_
      refine sxc_region ?_
      refine sxo_move rfl rfl rfl ?_
      refine sxo_loadB (i := 0) rfl rfl tf24 rfl rfl (by simp) rfl rfl ?_
      refine sxo_move rfl rfl rfl ?_
      refine sxo_call ent41 rfl rfl rfl (fun x3736 e3736 => C_R_WalkFar F x1 a2 c3 x3707 x3736 e3736) (.consF 0 rfl .nil) (fun x3736 e3736 => ?_)
      rintro ⟨a3737, c3738⟩
      refine sxo_slit (vs := [.slice a3737 x3736.length c3738]) (ys := ([(x3736, (a3737, c3738))] : List (List Int × (Option Addr × Nat)))) eN25_ok (by decide) rfl Try.underlying22 tf25 rfl rfl rfl rfl rfl (by decide) (fun a3739 c3740 => ?_)
      refine sxo_nestOf (rin := rN25) (i := 0) ([x3736] : List (List Int)) ([(a3737, c3738)] : List (Option Addr × Nat)) rfl rfl (.cons 0 rfl .nil) ?_
      refine sxo_appN eN25_ok rfl Try.underlying22 tf25 rfl rfl rfl rfl (.cons 1 rfl (.cons 0 rfl .nil)) rfl rfl (fun x3741 e3741 a3742 c3743 => ?_)
      refine sxo_assign rfl rfl rfl ?_
      refine sxo_nil ?_
      refine sxq_blkN ?_
      refine sxq_next ?_
      refine sxc_region ?_
      refine sxo_move rfl rfl rfl ?_
      refine sxo_add rfl rfl rfl rfl ?_
      refine sxo_assign rfl rfl rfl ?_
      refine sxo_nil ?_
      exact sxq_againP ((x3741, iadd .i64 x3707 1), (a3742, (c3743, (c3705.2 ++ ([(a3737, c3738)] : List (Option Addr × Nat)))))) (lk_cons rfl (lk_cons rfl (lk_cons rfl (lk_cons rfl lk_nil)))) (.cons 0 rfl .nil) (.cons 0 rfl .nil) (fk_cons 0 rfl fk_nil)
    · refine sxc_exit ?_
      refine sxq_thenX ?_
      refine sxq_thenX ?_
      refine sxq_blkX ?_
      exact sxq_meetP (x3706, (a3704, c3705)) (lk_cons rfl (lk_cons rfl lk_nil)) .nil (.cons 0 rfl .nil) fk_nil
  · rintro ⟨x66, ⟨a64, c65⟩⟩
    try dsimp only
    refine sxc_seq ?_
    refine sxc_region ?_
    refine sxo_assign rfl rfl rfl ?_
    refine sxo_nil ?_
    refine sxq_next ?_
    refine sxc_join (fun ((x1877, (a1875, c1876)) : (List Int × (Option Addr × Nat))) => [(6, .slice a1875 x1877.length c1876)]) (fun ((x1877, (a1875, c1876)) : (List Int × (Option Addr × Nat))) => []) (fun ((x1877, (a1875, c1876)) : (List Int × (Option Addr × Nat))) => [Ro (eI .i64) 3 1 (.slice a1875 x1877.length c1876) x1877]) (fun ((x1877, (a1875, c1876)) : (List Int × (Option Addr × Nat))) => []) (fun ((x1877, _) : (List Int × (Option Addr × Nat))) => M_R_StrongParts_j97 F x1877) ?_ ?_
    · refine sxc_seq ?_
      refine sxc_region ?_
      refine sxo_assign rfl rfl rfl ?_
      refine sxo_nil ?_
      refine sxq_next ?_
      refine sxc_block ?_
      refine sxc_freezeN 0 rfl rN25_in ?_
      refine sxc_nilrow Int (eI .i64) 3 1 ?_
      refine sxc_loopP (fun (((x2481, x2482), (a2479, c2480)) : ((List Int × Int) × (Option Addr × Nat))) => [(3, .int .i64 (x1.length : Int)), (4, .slice a64 x66.length c65.1), (6, .slice a2479 x2481.length c2480), (7, .int .i64 x2482)]) (fun (((x2481, x2482), (a2479, c2480)) : ((List Int × Int) × (Option Addr × Nat))) => []) (fun (((x2481, x2482), (a2479, c2480)) : ((List Int × Int) × (Option Addr × Nat))) => [Ro (eI .i64) 3 1 (.slice a2479 x2481.length c2480) x2481]) (fun (((x2481, x2482), (a2479, c2480)) : ((List Int × Int) × (Option Addr × Nat))) => [SlN eN25 iN25 1 (.slice a64 x66.length c65.1) x66 c65.2]) (fun k (s : ((List Int × Int) × (Option Addr × Nat))) => M_R_StrongParts_l160 F x1 x66 k s.1) ((([] : List Int), 0), (none, 0)) F (lk_cons rfl (lk_cons rfl (lk_cons rfl (lk_cons rfl lk_nil)))) .nil (.cons 0 rfl .nil) (fk_cons 0 rfl fk_nil) (fun _ => rfl) ?_
      intro k3084
      rintro ⟨⟨x2481, x2482⟩, ⟨a2479, c2480⟩⟩
      try dsimp only
      refine sxc_meq (m' := M_R_StrongParts_b160 F x1 x66 (M_R_StrongParts_l160 F x1 x66 k3084) x2481 x2482) rfl ?_
      refine sxc_seq ?_
      refine sxc_seq ?_
      refine sxc_region ?_
      refine sxo_move rfl rfl rfl ?_
      refine sxo_move rfl rfl rfl ?_
      refine sxo_lss rfl rfl rfl rfl ?_
      refine sxo_nil ?_
      refine sxq_next ?_
      refine sxc_if rfl (fun h3685 => ?_) (fun h3685 => ?_)
      · refine sxc_skip ?_
        refine sxq_next ?_
        refine sxc_join (fun ((x3386, (a3384, c3385)) : (List Int × (Option Addr × Nat))) => [(3, .int .i64 (x1.length : Int)), (4, .slice a64 x66.length c65.1), (6, .slice a3384 x3386.length c3385), (7, .int .i64 x2482)]) (fun ((x3386, (a3384, c3385)) : (List Int × (Option Addr × Nat))) => []) (fun ((x3386, (a3384, c3385)) : (List Int × (Option Addr × Nat))) => [Ro (eI .i64) 3 1 (.slice a3384 x3386.length c3385) x3386]) (fun ((x3386, (a3384, c3385)) : (List Int × (Option Addr × Nat))) => [SlN eN25 iN25 1 (.slice a64 x66.length c65.1) x66 c65.2]) (fun ((x3386, _) : (List Int × (Option Addr × Nat))) => M_R_StrongParts_j176 F (M_R_StrongParts_l160 F x1 x66 k3084) x2482 x3386) ?_ ?_
        · refine sxc_block ?_
          refine sxc_seq ?_
          refine sxc_region ?_
          refine sxo_assign rfl rfl rfl ?_
          refine sxo_nil ?_
          refine sxq_next ?_
          refine sxc_join (fun ((x3533, _) : (Int × Unit)) => [(3, .int .i64 (x1.length : Int)), (4, .slice a64 x66.length c65.1), (6, .slice a2479 x2481.length c2480), (7, .int .i64 x2482), (8, .int .i64 x3533)]) (fun ((x3533, _) : (Int × Unit)) => []) (fun ((x3533, _) : (Int × Unit)) => [Ro (eI .i64) 3 1 (.slice a2479 x2481.length c2480) x2481]) (fun ((x3533, _) : (Int × Unit)) => [SlN eN25 iN25 1 (.slice a64 x66.length c65.1) x66 c65.2]) (fun ((x3533, _) : (Int × Unit)) => M_R_StrongParts_j184 F (M_R_StrongParts_l160 F x1 x66 k3084) x2481 x2482 x3533) ?_ ?_
          · refine sxc_block ?_
            refine sxc_loopP (fun ((x3587, _) : (Int × Unit)) => [(3, .int .i64 (x1.length : Int)), (4, .slice a64 x66.length c65.1), (6, .slice a2479 x2481.length c2480), (7, .int .i64 x2482), (8, .int .i64 x3587)]) (fun ((x3587, _) : (Int × Unit)) => []) (fun ((x3587, _) : (Int × Unit)) => [Ro (eI .i64) 3 1 (.slice a2479 x2481.length c2480) x2481]) (fun ((x3587, _) : (Int × Unit)) => [SlN eN25 iN25 1 (.slice a64 x66.length c65.1) x66 c65.2]) (fun k (s : (Int × Unit)) => M_R_StrongParts_l189 F (M_R_StrongParts_l160 F x1 x66 k3084) x66 x2481 x2482 k s.1) (0, ()) F (lk_cons rfl (lk_cons rfl (lk_cons rfl (lk_cons rfl (lk_cons rfl lk_nil))))) .nil (.cons 0 rfl .nil) (fk_cons 0 rfl fk_nil) (fun _ => rfl) ?_
            intro k3636
            rintro ⟨x3587, _⟩
            try dsimp only
            refine sxc_meq (m' := M_R_StrongParts_b189 F (M_R_StrongParts_l160 F x1 x66 k3084) x66 x2481 x2482 (M_R_StrongParts_l189 F (M_R_StrongParts_l160 F x1 x66 k3084) x66 x2481 x2482 k3636) x3587) rfl ?_
            refine sxc_seq ?_
            refine sxc_seq ?_
            refine sxc_region ?_
            refine sxo_move rfl rfl rfl ?_
            refine sxo_move rfl rfl rfl ?_
            refine sxo_indexN (j := 0) eN25_ok (by decide) rfl Try.underlying22 tf25 rfl rfl rfl rfl (fun x3661 e3661 g3664 b3662 o3663 => ?_)
            refine sxo_loadF (j := 0) rfl rfl tf25 rfl rfl (fun _ => rfl) rfl rfl ?_
            refine sxo_move rfl rfl rfl ?_
            refine sxo_indexF (j := 1) (eI_ok .i64) (by decide) rfl Try.underlying25 tf3 rfl rfl rfl rfl (fun x3665 e3665 b3666 o3667 => ?_)
            refine sxo_loadF (j := 0) rfl rfl tf3 rfl rfl (fun _ => rfl) rfl rfl ?_
            refine sxo_lss rfl rfl rfl rfl ?_
            refine sxo_move rfl rfl rfl ?_
            refine sxo_join 9 (fun ((x3676, _) : (Bool × Unit)) => [(3, .int .i64 (x1.length : Int)), (4, .slice a64 x66.length c65.1), (6, .slice a2479 x2481.length c2480), (7, .int .i64 x2482), (8, .int .i64 x3587), (45, .bool x3676)]) (fun ((x3676, _) : (Bool × Unit)) => []) (fun ((x3676, _) : (Bool × Unit)) => [Ro (eI .i64) 3 1 (.slice a2479 x2481.length c2480) x2481]) (fun ((x3676, _) : (Bool × Unit)) => [SlN eN25 iN25 1 (.slice a64 x66.length c65.1) x66 c65.2]) (fun ((x3676, _) : (Bool × Unit)) => M_R_StrongParts_j191 F (M_R_StrongParts_l160 F x1 x66 k3084) (M_R_StrongParts_l189 F (M_R_StrongParts_l160 F x1 x66 k3084) x66 x2481 x2482 k3636) x2481 x2482 x3587 x3676) ?_ ?_
            · refine sxo_take (os := _) rfl ?_
              refine sxo_if (fun h3668 => ?_) (fun h3668 => ?_)
              · refine sxo_isT (k := 36) rfl h3668 ?_
                refine sxo_skip rfl rfl rfl ?_
                refine sxo_skip rfl rfl rfl ?_
                refine sxo_skip rfl rfl rfl ?_
                refine sxo_skip rfl rfl rfl ?_
                refine sxo_skip rfl rfl rfl ?_
                refine sxo_skip rfl rfl rfl ?_
                refine sxo_skip rfl rfl rfl ?_
                refine sxo_skip rfl rfl rfl ?_
                refine sxo_pick (b := true) rfl rfl rfl rfl ?_
                refine sxo_nil ?_
                exact sxq_meetP (true, ()) (lk_cons rfl (lk_cons rfl (lk_cons rfl (lk_cons rfl (lk_cons rfl (lk_cons rfl lk_nil)))))) .nil (.cons 0 rfl .nil) (fk_cons 3 rfl fk_nil)
              · refine sxo_isF (k := 36) rfl h3668 ?_
                refine sxo_move rfl rfl rfl ?_
                refine sxo_move rfl rfl rfl ?_
                refine sxo_indexN (j := 3) eN25_ok (by decide) rfl Try.underlying22 tf25 rfl rfl rfl rfl (fun x3678 e3678 g3681 b3679 o3680 => ?_)
                refine sxo_loadF (j := 0) rfl rfl tf25 rfl rfl (fun _ => rfl) rfl rfl ?_
                refine sxo_move rfl rfl rfl ?_
                refine sxo_indexF (j := 1) (eI_ok .i64) (by decide) rfl Try.underlying25 tf3 rfl rfl rfl rfl (fun x3682 e3682 b3683 o3684 => ?_)
                refine sxo_loadF (j := 0) rfl rfl tf3 rfl rfl (fun _ => rfl) rfl rfl ?_
                refine sxo_lss rfl rfl rfl rfl ?_
                refine sxo_pick (b := false) rfl rfl rfl rfl ?_
                refine sxo_nil ?_
                exact sxq_meetP ((decide (x3682 < 0)), ()) (lk_cons rfl (lk_cons rfl (lk_cons rfl (lk_cons rfl (lk_cons rfl (lk_cons rfl lk_nil)))))) .nil (.cons 0 rfl .nil) (fk_cons 6 rfl fk_nil)
            · rintro ⟨x3676, _⟩
              try dsimp only
              refine sxo_take (os := _) rfl ?_
              refine sxo_nil ?_
              refine sxq_next ?_
              refine sxc_if rfl (fun h3677 => ?_) (fun h3677 => ?_)
              · refine sxc_skip ?_
                refine sxq_next ?_
                refine sxc_block ?_
                refine sxc_region ?_
                refine sxo_move rfl rfl rfl ?_
                refine sxo_add rfl rfl rfl rfl ?_
                refine sxo_assign rfl rfl rfl ?_
                refine sxo_nil ?_
                refine sxq_blkN ?_
                exact sxq_againP (iadd .i64 x3587 1, ()) (lk_cons rfl (lk_cons rfl (lk_cons rfl (lk_cons rfl (lk_cons rfl lk_nil))))) .nil (.cons 0 rfl .nil) (fk_cons 0 rfl fk_nil)
              · refine sxc_exit ?_
                refine sxq_thenX ?_
                refine sxq_thenX ?_
                refine sxq_blkX ?_
                exact sxq_meetP (x3587, ()) (lk_cons rfl (lk_cons rfl (lk_cons rfl (lk_cons rfl (lk_cons rfl lk_nil))))) .nil (.cons 0 rfl .nil) (fk_cons 0 rfl fk_nil)
          · rintro ⟨x3533, _⟩
            try dsimp only
            refine sxc_region ?_
            refine sxo_move rfl rfl rfl ?_
            refine sxo_move rfl rfl rfl ?_
            refine sxo_slit (vs := [.int .i64 x3533]) (ys := ([x3533] : List Int)) (eI_ok .i64) (by decide) rfl Try.underlying25 tf3 rfl rfl rfl rfl rfl (by decide) (fun a3534 c3535 => ?_)
            refine sxo_app 1 (eI_ok .i64) rfl Try.underlying25 tf3 rfl rfl rfl rfl rfl (.inl ⟨0, _, rfl⟩) rfl rfl (fun x3536 e3536 a3537 c3538 => ?_)
            refine sxo_assign rfl rfl rfl ?_
            refine sxo_nil ?_
            refine sxq_blkN ?_
            exact sxq_meetP (x3536, (a3537, c3538)) (lk_cons rfl (lk_cons rfl (lk_cons rfl (lk_cons rfl lk_nil)))) .nil (.cons 0 rfl .nil) (fk_cons 0 rfl fk_nil)
        · rintro ⟨x3386, ⟨a3384, c3385⟩⟩
          try dsimp only
          refine sxc_region ?_
          refine sxo_move rfl rfl rfl ?_
          refine sxo_add rfl rfl rfl rfl ?_
          refine sxo_assign rfl rfl rfl ?_
          refine sxo_nil ?_
          exact sxq_againP ((x3386, iadd .i64 x2482 1), (a3384, c3385)) (lk_cons rfl (lk_cons rfl (lk_cons rfl (lk_cons rfl lk_nil)))) .nil (.cons 0 rfl .nil) (fk_cons 0 rfl fk_nil)
      · refine sxc_exit ?_
        refine sxq_thenX ?_
        refine sxq_thenX ?_
        refine sxq_blkX ?_
        exact sxq_meetP (x2481, (a2479, c2480)) (lk_cons rfl lk_nil) .nil (.cons 0 rfl .nil) fk_nil
    · rintro ⟨x1877, ⟨a1875, c1876⟩⟩
      try dsimp only
      refine sxc_seq ?_
      refine sxc_region ?_
      refine sxo_move rfl rfl rfl ?_
      refine sxo_assign rfl rfl rfl ?_
      refine sxo_nil ?_
      refine sxq_next ?_
      refine sxc_ret ?_
      exact sxq_doneP (a1875, c1876) (.inl rfl) (res1 rfl rfl) (fun h => by subst h; rfl) (fun h => by subst h; exact (.cons 0 rfl .nil))

set_option maxHeartbeats 4000000 in
theorem C_R_StrongShrink (F : Nat) (x1 : List (List Int)) (a2 : Option Addr) (c3 : (Nat × List (Option Addr × Nat))) (r : (List (List Int) × List Int)) (hm : M_R_StrongShrink F x1 = some r) :
    Pure Try.prog 16 [.agg #[.slice a2 x1.length c3.1]] [SlN eN25 iN25 1 (.slice a2 x1.length c3.1) x1 c3.2] ((Option Addr × (Nat × List (Option Addr × Nat))) × (Option Addr × Nat)) (fun g => .tuple #[.agg #[.slice g.1.1 r.1.length g.1.2.1], .slice g.2.1 r.2.length g.2.2]) (fun g => [RoN eN25 rN25 25 1 (.slice g.1.1 r.1.length g.1.2.1) r.1 g.1.2.2 [], Ro (eI .i64) 3 1 (.slice g.2.1 r.2.length g.2.2) r.2]) (fun _ => []) := by
  refine pure_of Try.func16 rfl Try.ntmps16 rfl hm (fun w => ?_)
  refine sxc_env (l' := [(0, .agg #[.slice a2 x1.length c3.1])]) rfl ?_
  refine sxc_seq ?_
  refine sxc_region ?_
  refine sxo_box rfl rfl rfl (fun g4 => ?_)
  refine sxo_alloc rfl tf24 rfl (fun g5 => ?_)
  refine sxo_assign rfl rfl rfl ?_
  refine sxo_nil ?_
  refine sxq_next ?_
  refine sxc_seq ?_
  refine sxc_region ?_
  refine sxo_loadB (i := 1) rfl rfl tf24 rfl rfl (by simp) rfl rfl ?_
  refine sxo_call ent15 rfl rfl rfl (fun x6 e6 => C_R_StrongParts F x1 a2 c3 x6 e6) (.consF 0 rfl .nil) (fun x6 e6 => ?_)
  rintro ⟨a7, c8⟩
  refine sxo_assign rfl rfl rfl ?_
  refine sxo_nil ?_
  refine sxq_next ?_
  refine sxc_seq ?_
  refine sxc_region ?_
  refine sxo_move rfl rfl rfl ?_
  refine sxo_len rfl Try.underlying25 rfl rfl ?_
  refine sxo_assign rfl rfl rfl ?_
  refine sxo_nil ?_
  refine sxq_next ?_
  refine sxc_seq ?_
  refine sxc_region ?_
  refine sxo_move rfl rfl rfl ?_
  refine sxo_mk (eI_ok .i64) rfl Try.underlying25 tf3 rfl rfl rfl rfl rfl rfl rfl (fun x9 e9 a10 c11 => ?_)
  refine sxo_assign rfl rfl rfl ?_
  refine sxo_nil ?_
  refine sxq_next ?_
  refine sxc_seq ?_
  refine sxc_region ?_
  refine sxo_alloc rfl tf24 rfl (fun g12 => ?_)
  refine sxo_nil ?_
  refine sxq_next ?_
  refine sxc_join (fun (((x203, x206), (a204, c205)) : ((List Int × List (List Int)) × (Option Addr × (Nat × List (Option Addr × Nat))))) => [(1, .pointer (some ⟨g4, 0, none⟩)), (2, .pointer (some ⟨g5, 0, none⟩)), (5, .int .i64 (x6.length : Int)), (6, .slice a10 x203.length c11), (7, .pointer (some ⟨g12, 0, none⟩))]) (fun (((x203, x206), (a204, c205)) : ((List Int × List (List Int)) × (Option Addr × (Nat × List (Option Addr × Nat))))) => [⟨g12, 24, [.slice a204 x206.length c205.1]⟩, ⟨g5, 24, [.slice none 0 0]⟩, ⟨g4, 24, [.slice a2 x1.length c3.1]⟩]) (fun (((x203, x206), (a204, c205)) : ((List Int × List (List Int)) × (Option Addr × (Nat × List (Option Addr × Nat))))) => [Ro (eI .i64) 3 1 (.slice a10 x203.length c11) x203, RoN eN25 rN25 25 1 (.slice a204 x206.length c205.1) x206 c205.2 []]) (fun (((x203, x206), (a204, c205)) : ((List Int × List (List Int)) × (Option Addr × (Nat × List (Option Addr × Nat))))) => [SlN eN25 iN25 1 (.slice a2 x1.length c3.1) x1 c3.2]) (fun (((x203, x206), _) : ((List Int × List (List Int)) × (Option Addr × (Nat × List (Option Addr × Nat))))) => M_R_StrongShrink_j5 F x1 x6 x203 x206) ?_ ?_
  · refine sxc_seq ?_
    refine sxc_region ?_
    refine sxo_assign rfl rfl rfl ?_
    refine sxo_nil ?_
    refine sxq_next ?_
    refine sxc_block ?_
    refine sxc_nilN (List Int) (Option Addr × Nat) eN25 rN25 25 1 ?_
    refine sxc_loopP (fun (((x181072, x181073, x181076), (a181074, c181075)) : ((List Int × Int × List (List Int)) × (Option Addr × (Nat × List (Option Addr × Nat))))) => [(1, .pointer (some ⟨g4, 0, none⟩)), (2, .pointer (some ⟨g5, 0, none⟩)), (4, .slice a7 x6.length c8), (5, .int .i64 (x6.length : Int)), (6, .slice a10 x181072.length c11), (7, .pointer (some ⟨g12, 0, none⟩)), (8, .int .i64 x181073)]) (fun (((x181072, x181073, x181076), (a181074, c181075)) : ((List Int × Int × List (List Int)) × (Option Addr × (Nat × List (Option Addr × Nat))))) => [⟨g12, 24, [.slice a181074 x181076.length c181075.1]⟩, ⟨g5, 24, [.slice none 0 0]⟩, ⟨g4, 24, [.slice a2 x1.length c3.1]⟩]) (fun (((x181072, x181073, x181076), (a181074, c181075)) : ((List Int × Int × List (List Int)) × (Option Addr × (Nat × List (Option Addr × Nat))))) => [Ro (eI .i64) 3 1 (.slice a7 x6.length c8) x6, Ro (eI .i64) 3 1 (.slice a10 x181072.length c11) x181072, RoN eN25 rN25 25 1 (.slice a181074 x181076.length c181075.1) x181076 c181075.2 []]) (fun (((x181072, x181073, x181076), (a181074, c181075)) : ((List Int × Int × List (List Int)) × (Option Addr × (Nat × List (Option Addr × Nat))))) => [SlN eN25 iN25 1 (.slice a2 x1.length c3.1) x1 c3.2]) (fun k (s : ((List Int × Int × List (List Int)) × (Option Addr × (Nat × List (Option Addr × Nat))))) => M_R_StrongShrink_l11369 F x1 x6 k s.1) ((x9, 0, ([] : List (List Int))), (none, (0, ([] : List (Option Addr × Nat))))) F (lk_cons rfl (lk_cons rfl (lk_cons rfl (lk_cons rfl (lk_cons rfl (lk_cons rfl (lk_cons rfl lk_nil))))))) (.cons 0 rfl (.cons 0 rfl (.cons 0 rfl .nil))) (.cons 2 rfl (.cons 1 rfl (.cons 0 rfl .nil))) (fk_cons 0 rfl fk_nil) (fun _ => rfl) ?_
    intro k181137
    rintro ⟨⟨x181072, x181073, x181076⟩, ⟨a181074, c181075⟩⟩
    try dsimp only
    refine sxc_meq (m' := M_R_StrongShrink_b11369 F x1 x6 (M_R_StrongShrink_l11369 F x1 x6 k181137) x181072 x181073 x181076) rfl ?_
    refine sxc_seq ?_
    refine sxc_seq ?_
    refine sxc_region ?_
    refine sxo_move rfl rfl rfl ?_
    refine sxo_move rfl rfl rfl ?_
    refine sxo_lss rfl rfl rfl rfl ?_
    refine sxo_nil ?_
    refine sxq_next ?_
    refine sxc_if rfl (fun h181197 => ?_) (fun h181197 => ?_)
    · refine sxc_skip ?_
      refine sxq_next ?_
      refine sxc_join (fun (((x181166, x181169), (a181167, c181168)) : ((List Int × List (List Int)) × (Option Addr × (Nat × List (Option Addr × Nat))))) => [(1, .pointer (some ⟨g4, 0, none⟩)), (2, .pointer (some ⟨g5, 0, none⟩)), (4, .slice a7 x6.length c8), (5, .int .i64 (x6.length : Int)), (6, .slice a10 x181166.length c11), (7, .pointer (some ⟨g12, 0, none⟩)), (8, .int .i64 x181073)]) (fun (((x181166, x181169), (a181167, c181168)) : ((List Int × List (List Int)) × (Option Addr × (Nat × List (Option Addr × Nat))))) => [⟨g12, 24, [.slice a181167 x181169.length c181168.1]⟩, ⟨g5, 24, [.slice none 0 0]⟩, ⟨g4, 24, [.slice a2 x1.length c3.1]⟩]) (fun (((x181166, x181169), (a181167, c181168)) : ((List Int × List (List Int)) × (Option Addr × (Nat × List (Option Addr × Nat))))) => [Ro (eI .i64) 3 1 (.slice a7 x6.length c8) x6, Ro (eI .i64) 3 1 (.slice a10 x181166.length c11) x181166, RoN eN25 rN25 25 1 (.slice a181167 x181169.length c181168.1) x181169 c181168.2 []]) (fun (((x181166, x181169), (a181167, c181168)) : ((List Int × List (List Int)) × (Option Addr × (Nat × List (Option Addr × Nat))))) => [SlN eN25 iN25 1 (.slice a2 x1.length c3.1) x1 c3.2]) (fun (((x181166, x181169), _) : ((List Int × List (List Int)) × (Option Addr × (Nat × List (Option Addr × Nat))))) => M_R_StrongShrink_j11370 F (M_R_StrongShrink_l11369 F x1 x6 k181137) x181073 x181166 x181169) ?_ ?_
      · refine sxc_block ?_
        refine sxc_seq ?_
        refine sxc_region ?_
        refine sxo_move rfl rfl rfl ?_
        refine sxo_move rfl rfl rfl ?_
        refine sxo_indexR (j := 0) rfl Try.underlying25 tf3 rfl rfl rfl rfl (fun x181170 e181170 g181171 h181172 => ?_)
        refine sxo_loadR (j := 0) (y := x181170) (eI_ok .i64) rfl rfl tf3 rfl h181172 (idx_get e181170).2.2 (fun _ => rfl) rfl rfl ?_
        refine sxo_move rfl rfl rfl ?_
        refine sxo_eql rfl rfl rfl rfl ?_
        refine sxo_nil ?_
        refine sxq_next ?_
        refine sxc_if rfl (fun h181196 => ?_) (fun h181196 => ?_)
        · refine sxc_seq ?_
          refine sxc_region ?_
          refine sxo_move rfl rfl rfl ?_
          refine sxo_move rfl rfl rfl ?_
          refine sxo_fieldAddr rfl rfl ff24_0 rfl ?_
          refine sxo_loadB (i := 0) rfl rfl tf22 rfl rfl (fun _ => rfl) rfl rfl ?_
          refine sxo_len rfl Try.underlying22 rfl rfl ?_
          refine sxo_indexR (j := 1) rfl Try.underlying25 tf3 rfl rfl rfl rfl (fun x181173 e181173 g181174 h181175 => ?_)
          refine sxo_storeL (j := 1) (y' := (x181076.length : Int)) (eI_ok .i64) rfl rfl rfl tf3 rfl h181175 (idx_get e181173).2.1 rfl (fun x181176 e181176 h181177 => ?_)
          have h181178 : x181176.length = x181072.length := by rw [← e181176, List.length_set]
          refine sxo_again (d := 6) (v := .slice a10 x181176.length c11) rfl h181177 ?_
          refine sxo_again (d := 31) (v := .slice a10 x181176.length c11) rfl h181177 ?_
          refine sxo_nil ?_
          refine sxq_next ?_
          refine sxc_region ?_
          refine sxo_fieldAddr rfl rfl ff24_0 rfl ?_
          refine sxo_loadB (i := 0) rfl rfl tf22 rfl rfl (fun _ => rfl) rfl rfl ?_
          refine sxo_nilrow' Int (eI .i64) 3 1 ?_
          refine sxo_slit (vs := [.slice none ([] : List Int).length 0]) (ys := ([(([] : List Int), (none, 0))] : List (List Int × (Option Addr × Nat)))) eN25_ok (by decide) rfl Try.underlying22 tf25 rfl rfl rfl rfl rfl (by decide) (fun a181179 c181180 => ?_)
          refine sxo_nestOf (rin := rN25) (i := 0) ([([] : List Int)] : List (List Int)) ([(none, 0)] : List (Option Addr × Nat)) rfl rfl (.cons 0 rfl .nil) ?_
          refine sxo_appN eN25_ok rfl Try.underlying22 tf25 rfl rfl rfl rfl (.cons 3 rfl (.cons 0 rfl .nil)) rfl rfl (fun x181181 e181181 a181182 c181183 => ?_)
          refine sxo_fieldAddr rfl rfl ff24_0 rfl ?_
          refine sxo_storeB (i := 0) rfl rfl rfl tf22 rfl rfl rfl rfl rfl ?_
          refine sxo_nil ?_
          refine sxq_blkN ?_
          exact sxq_meetP ((x181176, x181181), (a181182, (c181183, (c181075.2 ++ ([(none, 0)] : List (Option Addr × Nat)))))) (lk_cons rfl (lk_cons rfl (lk_cons rfl (lk_cons rfl (lk_cons rfl (lk_cons rfl (lk_cons rfl lk_nil))))))) (.cons 0 rfl (.cons 0 rfl (.cons 0 rfl .nil))) (.cons 2 rfl (.cons 1 rfl (.cons 0 rfl .nil))) (fk_cons 0 rfl fk_nil)
        · refine sxc_region ?_
          refine sxo_move rfl rfl rfl ?_
          refine sxo_move rfl rfl rfl ?_
          refine sxo_move rfl rfl rfl ?_
          refine sxo_move rfl rfl rfl ?_
          refine sxo_move rfl rfl rfl ?_
          refine sxo_indexR (j := 0) rfl Try.underlying25 tf3 rfl rfl rfl rfl (fun x181184 e181184 g181185 h181186 => ?_)
          refine sxo_loadR (j := 0) (y := x181184) (eI_ok .i64) rfl rfl tf3 rfl h181186 (idx_get e181184).2.2 (fun _ => rfl) rfl rfl ?_
          refine sxo_indexR (j := 1) rfl Try.underlying25 tf3 rfl rfl rfl rfl (fun x181187 e181187 g181188 h181189 => ?_)
          refine sxo_loadR (j := 1) (y := x181187) (eI_ok .i64) rfl rfl tf3 rfl h181189 (idx_get e181187).2.2 (fun _ => rfl) rfl rfl ?_
          refine sxo_indexR (j := 1) rfl Try.underlying25 tf3 rfl rfl rfl rfl (fun x181190 e181190 g181191 h181192 => ?_)
          refine sxo_storeL (j := 1) (y' := x181187) (eI_ok .i64) rfl rfl rfl tf3 rfl h181192 (idx_get e181190).2.1 rfl (fun x181193 e181193 h181194 => ?_)
          have h181195 : x181193.length = x181072.length := by rw [← e181193, List.length_set]
          refine sxo_again (d := 6) (v := .slice a10 x181193.length c11) rfl h181194 ?_
          refine sxo_again (d := 42) (v := .slice a10 x181193.length c11) rfl h181194 ?_
          refine sxo_again (d := 44) (v := .slice a10 x181193.length c11) rfl h181194 ?_
          refine sxo_nil ?_
          refine sxq_blkN ?_
          exact sxq_meetP ((x181193, x181076), (a181074, c181075)) (lk_cons rfl (lk_cons rfl (lk_cons rfl (lk_cons rfl (lk_cons rfl (lk_cons rfl (lk_cons rfl lk_nil))))))) (.cons 0 rfl (.cons 0 rfl (.cons 0 rfl .nil))) (.cons 1 rfl (.cons 0 rfl (.cons 0 rfl .nil))) (fk_cons 0 rfl fk_nil)
      · rintro ⟨⟨x181166, x181169⟩, ⟨a181167, c181168⟩⟩
        try dsimp only
        refine sxc_region ?_
        refine sxo_move rfl rfl rfl ?_
        refine sxo_add rfl rfl rfl rfl ?_
        refine sxo_assign rfl rfl rfl ?_
        refine sxo_nil ?_
        exact sxq_againP ((x181166, iadd .i64 x181073 1, x181169), (a181167, c181168)) (lk_cons rfl (lk_cons rfl (lk_cons rfl (lk_cons rfl (lk_cons rfl (lk_cons rfl (lk_cons rfl lk_nil))))))) (.cons 0 rfl (.cons 0 rfl (.cons 0 rfl .nil))) (.cons 0 rfl (.cons 0 rfl (.cons 0 rfl .nil))) (fk_cons 0 rfl fk_nil)
    · refine sxc_exit ?_
      refine sxq_thenX ?_
      refine sxq_thenX ?_
      refine sxq_blkX ?_
      exact sxq_meetP ((x181072, x181076), (a181074, c181075)) (lk_cons rfl (lk_cons rfl (lk_cons rfl (lk_cons rfl (lk_cons rfl lk_nil))))) (.cons 0 rfl (.cons 0 rfl (.cons 0 rfl .nil))) (.cons 1 rfl (.cons 1 rfl .nil)) (fk_cons 0 rfl fk_nil)
  · rintro ⟨⟨x203, x206⟩, ⟨a204, c205⟩⟩
    try dsimp only
    refine sxc_join (fun ((x90608, g90607) : (List (List Int) × List (Option Addr × Nat))) => [(2, .pointer (some ⟨g5, 0, none⟩)), (6, .slice a10 x203.length c11), (7, .pointer (some ⟨g12, 0, none⟩))]) (fun ((x90608, g90607) : (List (List Int) × List (Option Addr × Nat))) => [⟨g12, 24, [.slice a204 x90608.length c205.1]⟩, ⟨g5, 24, [.slice none 0 0]⟩]) (fun ((x90608, g90607) : (List (List Int) × List (Option Addr × Nat))) => [Ro (eI .i64) 3 1 (.slice a10 x203.length c11) x203, RoN eN25 rN25 25 1 (.slice a204 x90608.length c205.1) x90608 g90607 []]) (fun ((x90608, g90607) : (List (List Int) × List (Option Addr × Nat))) => []) (fun ((x90608, _) : (List (List Int) × List (Option Addr × Nat))) => M_R_StrongShrink_j5686 F x203 x90608) ?_ ?_
    · refine sxc_seq ?_
      refine sxc_region ?_
      refine sxo_assign rfl rfl rfl ?_
      refine sxo_nil ?_
      refine sxq_next ?_
      refine sxc_block ?_
      refine sxc_loopP (fun (((x120741, x120743), g120742) : ((Int × List (List Int)) × List (Option Addr × Nat))) => [(1, .pointer (some ⟨g4, 0, none⟩)), (2, .pointer (some ⟨g5, 0, none⟩)), (5, .int .i64 (x6.length : Int)), (6, .slice a10 x203.length c11), (7, .pointer (some ⟨g12, 0, none⟩)), (9, .int .i64 x120741)]) (fun (((x120741, x120743), g120742) : ((Int × List (List Int)) × List (Option Addr × Nat))) => [⟨g12, 24, [.slice a204 x120743.length c205.1]⟩, ⟨g5, 24, [.slice none 0 0]⟩, ⟨g4, 24, [.slice a2 x1.length c3.1]⟩]) (fun (((x120741, x120743), g120742) : ((Int × List (List Int)) × List (Option Addr × Nat))) => [Ro (eI .i64) 3 1 (.slice a10 x203.length c11) x203, RoN eN25 rN25 25 1 (.slice a204 x120743.length c205.1) x120743 g120742 []]) (fun (((x120741, x120743), g120742) : ((Int × List (List Int)) × List (Option Addr × Nat))) => [SlN eN25 iN25 1 (.slice a2 x1.length c3.1) x1 c3.2]) (fun k (s : ((Int × List (List Int)) × List (Option Addr × Nat))) => M_R_StrongShrink_l9473 F x1 x6 x203 k s.1) ((0, x206), c205.2) F (lk_cons rfl (lk_cons rfl (lk_cons rfl (lk_cons rfl (lk_cons rfl (lk_cons rfl lk_nil)))))) (.cons 0 rfl (.cons 0 rfl (.cons 0 rfl .nil))) (.cons 0 rfl (.cons 0 rfl .nil)) (fk_cons 0 rfl fk_nil) (fun _ => rfl) ?_
      intro k150876
      rintro ⟨⟨x120741, x120743⟩, g120742⟩
      try dsimp only
      refine sxc_meq (m' := M_R_StrongShrink_b9473 F x1 x6 x203 (M_R_StrongShrink_l9473 F x1 x6 x203 k150876) x120741 x120743) rfl ?_
      refine sxc_seq ?_
      refine sxc_seq ?_
      refine sxc_region ?_
      refine sxo_move rfl rfl rfl ?_
      refine sxo_fieldAddr rfl rfl ff24_0 rfl ?_
      refine sxo_loadB (i := 0) rfl rfl tf22 rfl rfl (fun _ => rfl) rfl rfl ?_
      refine sxo_len rfl Try.underlying22 rfl rfl ?_
      refine sxo_lss rfl rfl rfl rfl ?_
      refine sxo_nil ?_
      refine sxq_next ?_
      refine sxc_if rfl (fun h181008 => ?_) (fun h181008 => ?_)
      · refine sxc_skip ?_
        refine sxq_next ?_
        refine sxc_join (fun ((x165943, g165942) : (List (List Int) × List (Option Addr × Nat))) => [(1, .pointer (some ⟨g4, 0, none⟩)), (2, .pointer (some ⟨g5, 0, none⟩)), (5, .int .i64 (x6.length : Int)), (6, .slice a10 x203.length c11), (7, .pointer (some ⟨g12, 0, none⟩)), (9, .int .i64 x120741)]) (fun ((x165943, g165942) : (List (List Int) × List (Option Addr × Nat))) => [⟨g12, 24, [.slice a204 x165943.length c205.1]⟩, ⟨g5, 24, [.slice none 0 0]⟩, ⟨g4, 24, [.slice a2 x1.length c3.1]⟩]) (fun ((x165943, g165942) : (List (List Int) × List (Option Addr × Nat))) => [Ro (eI .i64) 3 1 (.slice a10 x203.length c11) x203, RoN eN25 rN25 25 1 (.slice a204 x165943.length c205.1) x165943 g165942 []]) (fun ((x165943, g165942) : (List (List Int) × List (Option Addr × Nat))) => [SlN eN25 iN25 1 (.slice a2 x1.length c3.1) x1 c3.2]) (fun ((x165943, _) : (List (List Int) × List (Option Addr × Nat))) => M_R_StrongShrink_j10420 F (M_R_StrongShrink_l9473 F x1 x6 x203 k150876) x120741 x165943) ?_ ?_
        · refine sxc_block ?_
          refine sxc_seq ?_
          refine sxc_region ?_
          refine sxo_assign rfl rfl rfl ?_
          refine sxo_nil ?_
          refine sxq_next ?_
          refine sxc_block ?_
          refine sxc_loopP (fun (((x170964, x170966), g170965) : ((Int × List (List Int)) × List (Option Addr × Nat))) => [(1, .pointer (some ⟨g4, 0, none⟩)), (2, .pointer (some ⟨g5, 0, none⟩)), (5, .int .i64 (x6.length : Int)), (6, .slice a10 x203.length c11), (7, .pointer (some ⟨g12, 0, none⟩)), (9, .int .i64 x120741), (10, .int .i64 x170964)]) (fun (((x170964, x170966), g170965) : ((Int × List (List Int)) × List (Option Addr × Nat))) => [⟨g12, 24, [.slice a204 x170966.length c205.1]⟩, ⟨g5, 24, [.slice none 0 0]⟩, ⟨g4, 24, [.slice a2 x1.length c3.1]⟩]) (fun (((x170964, x170966), g170965) : ((Int × List (List Int)) × List (Option Addr × Nat))) => [Ro (eI .i64) 3 1 (.slice a10 x203.length c11) x203, RoN eN25 rN25 25 1 (.slice a204 x170966.length c205.1) x170966 g170965 []]) (fun (((x170964, x170966), g170965) : ((Int × List (List Int)) × List (Option Addr × Nat))) => [SlN eN25 iN25 1 (.slice a2 x1.length c3.1) x1 c3.2]) (fun k (s : ((Int × List (List Int)) × List (Option Addr × Nat))) => M_R_StrongShrink_l11051 F (M_R_StrongShrink_l9473 F x1 x6 x203 k150876) x1 x6 x203 x120741 k s.1) ((0, x120743), g120742) F (lk_cons rfl (lk_cons rfl (lk_cons rfl (lk_cons rfl (lk_cons rfl (lk_cons rfl (lk_cons rfl lk_nil))))))) (.cons 0 rfl (.cons 0 rfl (.cons 0 rfl .nil))) (.cons 0 rfl (.cons 0 rfl .nil)) (fk_cons 0 rfl fk_nil) (fun _ => rfl) ?_
          intro k175987
          rintro ⟨⟨x170964, x170966⟩, g170965⟩
          try dsimp only
          refine sxc_meq (m' := M_R_StrongShrink_b11051 F (M_R_StrongShrink_l9473 F x1 x6 x203 k150876) x1 x6 x203 x120741 (M_R_StrongShrink_l11051 F (M_R_StrongShrink_l9473 F x1 x6 x203 k150876) x1 x6 x203 x120741 k175987) x170964 x170966) rfl ?_
          refine sxc_seq ?_
          refine sxc_seq ?_
          refine sxc_region ?_
          refine sxo_move rfl rfl rfl ?_
          refine sxo_fieldAddr rfl rfl ff24_0 rfl ?_
          refine sxo_loadB (i := 0) rfl rfl tf22 rfl rfl (fun _ => rfl) rfl rfl ?_
          refine sxo_len rfl Try.underlying22 rfl rfl ?_
          refine sxo_lss rfl rfl rfl rfl ?_
          refine sxo_nil ?_
          refine sxq_next ?_
          refine sxc_if rfl (fun h181007 => ?_) (fun h181007 => ?_)
          · refine sxc_skip ?_
            refine sxq_next ?_
            refine sxc_join (fun ((x178498, g178497) : (List (List Int) × List (Option Addr × Nat))) => [(1, .pointer (some ⟨g4, 0, none⟩)), (2, .pointer (some ⟨g5, 0, none⟩)), (5, .int .i64 (x6.length : Int)), (6, .slice a10 x203.length c11), (7, .pointer (some ⟨g12, 0, none⟩)), (9, .int .i64 x120741), (10, .int .i64 x170964)]) (fun ((x178498, g178497) : (List (List Int) × List (Option Addr × Nat))) => [⟨g12, 24, [.slice a204 x178498.length c205.1]⟩, ⟨g5, 24, [.slice none 0 0]⟩, ⟨g4, 24, [.slice a2 x1.length c3.1]⟩]) (fun ((x178498, g178497) : (List (List Int) × List (Option Addr × Nat))) => [Ro (eI .i64) 3 1 (.slice a10 x203.length c11) x203, RoN eN25 rN25 25 1 (.slice a204 x178498.length c205.1) x178498 g178497 []]) (fun ((x178498, g178497) : (List (List Int) × List (Option Addr × Nat))) => [SlN eN25 iN25 1 (.slice a2 x1.length c3.1) x1 c3.2]) (fun ((x178498, _) : (List (List Int) × List (Option Addr × Nat))) => M_R_StrongShrink_j11209 F (M_R_StrongShrink_l11051 F (M_R_StrongShrink_l9473 F x1 x6 x203 k150876) x1 x6 x203 x120741 k175987) x170964 x178498) ?_ ?_
            · refine sxc_block ?_
              refine sxc_seq ?_
              refine sxc_region ?_
              refine sxo_assign rfl rfl rfl ?_
              refine sxo_nil ?_
              refine sxq_next ?_
              refine sxc_join (fun ((x179741, _) : (Bool × Unit)) => [(1, .pointer (some ⟨g4, 0, none⟩)), (2, .pointer (some ⟨g5, 0, none⟩)), (5, .int .i64 (x6.length : Int)), (6, .slice a10 x203.length c11), (7, .pointer (some ⟨g12, 0, none⟩)), (9, .int .i64 x120741), (10, .int .i64 x170964), (11, .bool x179741)]) (fun ((x179741, _) : (Bool × Unit)) => [⟨g12, 24, [.slice a204 x170966.length c205.1]⟩, ⟨g5, 24, [.slice none 0 0]⟩, ⟨g4, 24, [.slice a2 x1.length c3.1]⟩]) (fun ((x179741, _) : (Bool × Unit)) => [Ro (eI .i64) 3 1 (.slice a10 x203.length c11) x203, RoN eN25 rN25 25 1 (.slice a204 x170966.length c205.1) x170966 g170965 []]) (fun ((x179741, _) : (Bool × Unit)) => [SlN eN25 iN25 1 (.slice a2 x1.length c3.1) x1 c3.2]) (fun ((x179741, _) : (Bool × Unit)) => M_R_StrongShrink_j11288 F (M_R_StrongShrink_l11051 F (M_R_StrongShrink_l9473 F x1 x6 x203 k150876) x1 x6 x203 x120741 k175987) x120741 x170964 x170966 x179741) ?_ ?_
              · refine sxc_seq ?_
                refine sxc_region ?_
                refine sxo_assign rfl rfl rfl ?_
                refine sxo_nil ?_
                refine sxq_next ?_
                refine sxc_block ?_
                refine sxc_loopP (fun (((x180146, x180147), _) : ((Bool × Int) × Unit)) => [(1, .pointer (some ⟨g4, 0, none⟩)), (2, .pointer (some ⟨g5, 0, none⟩)), (5, .int .i64 (x6.length : Int)), (6, .slice a10 x203.length c11), (7, .pointer (some ⟨g12, 0, none⟩)), (9, .int .i64 x120741), (10, .int .i64 x170964), (11, .bool x180146), (12, .int .i64 x180147)]) (fun (((x180146, x180147), _) : ((Bool × Int) × Unit)) => [⟨g12, 24, [.slice a204 x170966.length c205.1]⟩, ⟨g5, 24, [.slice none 0 0]⟩, ⟨g4, 24, [.slice a2 x1.length c3.1]⟩]) (fun (((x180146, x180147), _) : ((Bool × Int) × Unit)) => [Ro (eI .i64) 3 1 (.slice a10 x203.length c11) x203, RoN eN25 rN25 25 1 (.slice a204 x170966.length c205.1) x170966 g170965 []]) (fun (((x180146, x180147), _) : ((Bool × Int) × Unit)) => [SlN eN25 iN25 1 (.slice a2 x1.length c3.1) x1 c3.2]) (fun k (s : ((Bool × Int) × Unit)) => M_R_StrongShrink_l11339 F (M_R_StrongShrink_l11051 F (M_R_StrongShrink_l9473 F x1 x6 x203 k150876) x1 x6 x203 x120741 k175987) x1 x6 x203 x120741 x170964 x170966 k s.1) ((false, 0), ()) F (lk_cons rfl (lk_cons rfl (lk_cons rfl (lk_cons rfl (lk_cons rfl (lk_cons rfl (lk_cons rfl (lk_cons rfl (lk_cons rfl lk_nil))))))))) (.cons 0 rfl (.cons 0 rfl (.cons 0 rfl .nil))) (.cons 0 rfl (.cons 0 rfl .nil)) (fk_cons 0 rfl fk_nil) (fun _ => rfl) ?_
                intro k180577
                rintro ⟨⟨x180146, x180147⟩, _⟩
                try dsimp only
                refine sxc_meq (m' := M_R_StrongShrink_b11339 F (M_R_StrongShrink_l11051 F (M_R_StrongShrink_l9473 F x1 x6 x203 k150876) x1 x6 x203 x120741 k175987) x1 x6 x203 x120741 x170964 x170966 (M_R_StrongShrink_l11339 F (M_R_StrongShrink_l11051 F (M_R_StrongShrink_l9473 F x1 x6 x203 k150876) x1 x6 x203 x120741 k175987) x1 x6 x203 x120741 x170964 x170966 k180577) x180146 x180147) rfl ?_
                refine sxc_seq ?_
                refine sxc_seq ?_
                refine sxc_region ?_
                refine sxo_move rfl rfl rfl ?_
                refine sxo_move rfl rfl rfl ?_
                refine sxo_lss rfl rfl rfl rfl ?_
                refine sxo_nil ?_
                refine sxq_next ?_
                refine sxc_if rfl (fun h181006 => ?_) (fun h181006 => ?_)
                · refine sxc_skip ?_
                  refine sxq_next ?_
                  refine sxc_join (fun ((x180792, _) : (Bool × Unit)) => [(1, .pointer (some ⟨g4, 0, none⟩)), (2, .pointer (some ⟨g5, 0, none⟩)), (5, .int .i64 (x6.length : Int)), (6, .slice a10 x203.length c11), (7, .pointer (some ⟨g12, 0, none⟩)), (9, .int .i64 x120741), (10, .int .i64 x170964), (11, .bool x180792), (12, .int .i64 x180147)]) (fun ((x180792, _) : (Bool × Unit)) => [⟨g12, 24, [.slice a204 x170966.length c205.1]⟩, ⟨g5, 24, [.slice none 0 0]⟩, ⟨g4, 24, [.slice a2 x1.length c3.1]⟩]) (fun ((x180792, _) : (Bool × Unit)) => [Ro (eI .i64) 3 1 (.slice a10 x203.length c11) x203, RoN eN25 rN25 25 1 (.slice a204 x170966.length c205.1) x170966 g170965 []]) (fun ((x180792, _) : (Bool × Unit)) => [SlN eN25 iN25 1 (.slice a2 x1.length c3.1) x1 c3.2]) (fun ((x180792, _) : (Bool × Unit)) => M_R_StrongShrink_j11353 F (M_R_StrongShrink_l11339 F (M_R_StrongShrink_l11051 F (M_R_StrongShrink_l9473 F x1 x6 x203 k150876) x1 x6 x203 x120741 k175987) x1 x6 x203 x120741 x170964 x170966 k180577) x180147 x180792) ?_ ?_
                  · refine sxc_block ?_
                    refine sxc_seq ?_
                    refine sxc_region ?_
                    refine sxo_assign rfl rfl rfl ?_
                    refine sxo_nil ?_
                    refine sxq_next ?_
                    refine sxc_block ?_
                    refine sxc_loopP (fun (((x180863, x180864), _) : ((Bool × Int) × Unit)) => [(1, .pointer (some ⟨g4, 0, none⟩)), (2, .pointer (some ⟨g5, 0, none⟩)), (5, .int .i64 (x6.length : Int)), (6, .slice a10 x203.length c11), (7, .pointer (some ⟨g12, 0, none⟩)), (9, .int .i64 x120741), (10, .int .i64 x170964), (11, .bool x180863), (12, .int .i64 x180147), (13, .int .i64 x180864)]) (fun (((x180863, x180864), _) : ((Bool × Int) × Unit)) => [⟨g12, 24, [.slice a204 x170966.length c205.1]⟩, ⟨g5, 24, [.slice none 0 0]⟩, ⟨g4, 24, [.slice a2 x1.length c3.1]⟩]) (fun (((x180863, x180864), _) : ((Bool × Int) × Unit)) => [Ro (eI .i64) 3 1 (.slice a10 x203.length c11) x203, RoN eN25 rN25 25 1 (.slice a204 x170966.length c205.1) x170966 g170965 []]) (fun (((x180863, x180864), _) : ((Bool × Int) × Unit)) => [SlN eN25 iN25 1 (.slice a2 x1.length c3.1) x1 c3.2]) (fun k (s : ((Bool × Int) × Unit)) => M_R_StrongShrink_l11362 F (M_R_StrongShrink_l11339 F (M_R_StrongShrink_l11051 F (M_R_StrongShrink_l9473 F x1 x6 x203 k150876) x1 x6 x203 x120741 k175987) x1 x6 x203 x120741 x170964 x170966 k180577) x1 x203 x120741 x170964 x180147 k s.1) ((x180146, 0), ()) F (lk_cons rfl (lk_cons rfl (lk_cons rfl (lk_cons rfl (lk_cons rfl (lk_cons rfl (lk_cons rfl (lk_cons rfl (lk_cons rfl (lk_cons rfl lk_nil)))))))))) (.cons 0 rfl (.cons 0 rfl (.cons 0 rfl .nil))) (.cons 0 rfl (.cons 0 rfl .nil)) (fk_cons 0 rfl fk_nil) (fun _ => rfl) ?_
                    intro k180935
                    rintro ⟨⟨x180863, x180864⟩, _⟩
                    try dsimp only
                    refine sxc_meq (m' := M_R_StrongShrink_b11362 F (M_R_StrongShrink_l11339 F (M_R_StrongShrink_l11051 F (M_R_StrongShrink_l9473 F x1 x6 x203 k150876) x1 x6 x203 x120741 k175987) x1 x6 x203 x120741 x170964 x170966 k180577) x1 x203 x120741 x170964 x180147 (M_R_StrongShrink_l11362 F (M_R_StrongShrink_l11339 F (M_R_StrongShrink_l11051 F (M_R_StrongShrink_l9473 F x1 x6 x203 k150876) x1 x6 x203 x120741 k175987) x1 x6 x203 x120741 x170964 x170966 k180577) x1 x203 x120741 x170964 x180147 k180935) x180863 x180864) rfl ?_
                    refine sxc_seq ?_
                    refine sxc_seq ?_
                    refine sxc_region ?_
                    refine sxo_move rfl rfl rfl ?_
                    refine sxo_fieldAddr rfl rfl ff24_0 rfl ?_
                    refine sxo_loadB (i := 2) rfl rfl tf22 rfl rfl (fun _ => rfl) rfl rfl ?_
                    refine sxo_move rfl rfl rfl ?_
                    refine sxo_indexN (j := 0) eN25_ok (by decide) rfl Try.underlying22 tf25 rfl rfl rfl rfl (fun x180949 e180949 g180952 b180950 o180951 => ?_)
                    refine sxo_loadF (j := 0) rfl rfl tf25 rfl rfl (fun _ => rfl) rfl rfl ?_
                    refine sxo_len rfl Try.underlying25 rfl rfl ?_
                    refine sxo_lss rfl rfl rfl rfl ?_
                    refine sxo_move rfl rfl rfl ?_
                    refine sxo_join 7 (fun ((x180957, _) : (Bool × Unit)) => [(1, .pointer (some ⟨g4, 0, none⟩)), (2, .pointer (some ⟨g5, 0, none⟩)), (5, .int .i64 (x6.length : Int)), (6, .slice a10 x203.length c11), (7, .pointer (some ⟨g12, 0, none⟩)), (9, .int .i64 x120741), (10, .int .i64 x170964), (11, .bool x180863), (12, .int .i64 x180147), (13, .int .i64 x180864), (86, .bool x180957)]) (fun ((x180957, _) : (Bool × Unit)) => [⟨g12, 24, [.slice a204 x170966.length c205.1]⟩, ⟨g5, 24, [.slice none 0 0]⟩, ⟨g4, 24, [.slice a2 x1.length c3.1]⟩]) (fun ((x180957, _) : (Bool × Unit)) => [Ro (eI .i64) 3 1 (.slice a10 x203.length c11) x203, RoN eN25 rN25 25 1 (.slice a204 x170966.length c205.1) x170966 g170965 []]) (fun ((x180957, _) : (Bool × Unit)) => [SlN eN25 iN25 1 (.slice a2 x1.length c3.1) x1 c3.2]) (fun ((x180957, _) : (Bool × Unit)) => M_R_StrongShrink_j11364 F (M_R_StrongShrink_l11339 F (M_R_StrongShrink_l11051 F (M_R_StrongShrink_l9473 F x1 x6 x203 k150876) x1 x6 x203 x120741 k175987) x1 x6 x203 x120741 x170964 x170966 k180577) (M_R_StrongShrink_l11362 F (M_R_StrongShrink_l11339 F (M_R_StrongShrink_l11051 F (M_R_StrongShrink_l9473 F x1 x6 x203 k150876) x1 x6 x203 x120741 k175987) x1 x6 x203 x120741 x170964 x170966 k180577) x1 x203 x120741 x170964 x180147 k180935) x1 x203 x170964 x180147 x180863 x180864 x180957) ?_ ?_
                    · refine sxo_take (os := _) rfl ?_
                      refine sxo_if (fun h180953 => ?_) (fun h180953 => ?_)
                      · refine sxo_isT (k := 79) rfl h180953 ?_
                        refine sxo_move rfl rfl rfl ?_
                        refine sxo_move rfl rfl rfl ?_
                        refine sxo_indexR (j := 0) rfl Try.underlying25 tf3 rfl rfl rfl rfl (fun x181003 e181003 g181004 h181005 => ?_)
                        refine sxo_loadR (j := 0) (y := x181003) (eI_ok .i64) rfl rfl tf3 rfl h181005 (idx_get e181003).2.2 (fun _ => rfl) rfl rfl ?_
                        refine sxo_move rfl rfl rfl ?_
                        refine sxo_eql rfl rfl rfl rfl ?_
                        refine sxo_pick (b := true) rfl rfl rfl rfl ?_
                        refine sxo_nil ?_
                        exact sxq_meetP (((x181003 : Int) == x120741), ()) (lk_cons rfl (lk_cons rfl (lk_cons rfl (lk_cons rfl (lk_cons rfl (lk_cons rfl (lk_cons rfl (lk_cons rfl (lk_cons rfl (lk_cons rfl (lk_cons rfl lk_nil))))))))))) (.cons 0 rfl (.cons 0 rfl (.cons 0 rfl .nil))) (.cons 0 rfl (.cons 0 rfl .nil)) (fk_cons 2 rfl fk_nil)
                      · refine sxo_isF (k := 79) rfl h180953 ?_
                        refine sxo_skip rfl rfl rfl ?_
                        refine sxo_skip rfl rfl rfl ?_
                        refine sxo_skip rfl rfl rfl ?_
                        refine sxo_skip rfl rfl rfl ?_
                        refine sxo_skip rfl rfl rfl ?_
                        refine sxo_skip rfl rfl rfl ?_
                        refine sxo_pick (b := false) rfl rfl rfl rfl ?_
                        refine sxo_nil ?_
                        exact sxq_meetP (false, ()) (lk_cons rfl (lk_cons rfl (lk_cons rfl (lk_cons rfl (lk_cons rfl (lk_cons rfl (lk_cons rfl (lk_cons rfl (lk_cons rfl (lk_cons rfl (lk_cons rfl lk_nil))))))))))) (.cons 0 rfl (.cons 0 rfl (.cons 0 rfl .nil))) (.cons 0 rfl (.cons 0 rfl .nil)) (fk_cons 2 rfl fk_nil)
                    · rintro ⟨x180957, _⟩
                      try dsimp only
                      refine sxo_take (os := _) rfl ?_
                      refine sxo_nil ?_
                      refine sxq_next ?_
                      refine sxc_if rfl (fun h181002 => ?_) (fun h181002 => ?_)
                      · refine sxc_skip ?_
                        refine sxq_next ?_
                        refine sxc_seq ?_
                        refine sxc_block ?_
                        refine sxc_region ?_
                        refine sxo_move rfl rfl rfl ?_
                        refine sxo_move rfl rfl rfl ?_
                        refine sxo_join 14 (fun ((x180991, _) : (Bool × Unit)) => [(1, .pointer (some ⟨g4, 0, none⟩)), (2, .pointer (some ⟨g5, 0, none⟩)), (5, .int .i64 (x6.length : Int)), (6, .slice a10 x203.length c11), (7, .pointer (some ⟨g12, 0, none⟩)), (9, .int .i64 x120741), (10, .int .i64 x170964), (12, .int .i64 x180147), (13, .int .i64 x180864), (104, .bool x180991)]) (fun ((x180991, _) : (Bool × Unit)) => [⟨g12, 24, [.slice a204 x170966.length c205.1]⟩, ⟨g5, 24, [.slice none 0 0]⟩, ⟨g4, 24, [.slice a2 x1.length c3.1]⟩]) (fun ((x180991, _) : (Bool × Unit)) => [Ro (eI .i64) 3 1 (.slice a10 x203.length c11) x203, RoN eN25 rN25 25 1 (.slice a204 x170966.length c205.1) x170966 g170965 []]) (fun ((x180991, _) : (Bool × Unit)) => [SlN eN25 iN25 1 (.slice a2 x1.length c3.1) x1 c3.2]) (fun ((x180991, _) : (Bool × Unit)) => M_R_StrongShrink_j11366 F (M_R_StrongShrink_l11362 F (M_R_StrongShrink_l11339 F (M_R_StrongShrink_l11051 F (M_R_StrongShrink_l9473 F x1 x6 x203 k150876) x1 x6 x203 x120741 k175987) x1 x6 x203 x120741 x170964 x170966 k180577) x1 x203 x120741 x170964 x180147 k180935) x180864 x180991) ?_ ?_
                        · refine sxo_take (os := _) rfl ?_
                          refine sxo_if (fun h180980 => ?_) (fun h180980 => ?_)
                          · refine sxo_isT (k := 90) rfl h180980 ?_
                            refine sxo_skip rfl rfl rfl ?_
                            refine sxo_skip rfl rfl rfl ?_
                            refine sxo_skip rfl rfl rfl ?_
                            refine sxo_skip rfl rfl rfl ?_
                            refine sxo_skip rfl rfl rfl ?_
                            refine sxo_skip rfl rfl rfl ?_
                            refine sxo_skip rfl rfl rfl ?_
                            refine sxo_skip rfl rfl rfl ?_
                            refine sxo_skip rfl rfl rfl ?_
                            refine sxo_skip rfl rfl rfl ?_
                            refine sxo_skip rfl rfl rfl ?_
                            refine sxo_skip rfl rfl rfl ?_
                            refine sxo_skip rfl rfl rfl ?_
                            refine sxo_pick (b := true) rfl rfl rfl rfl ?_
                            refine sxo_nil ?_
                            exact sxq_meetP (true, ()) (lk_cons rfl (lk_cons rfl (lk_cons rfl (lk_cons rfl (lk_cons rfl (lk_cons rfl (lk_cons rfl (lk_cons rfl (lk_cons rfl (lk_cons rfl lk_nil)))))))))) (.cons 0 rfl (.cons 0 rfl (.cons 0 rfl .nil))) (.cons 0 rfl (.cons 0 rfl .nil)) (fk_cons 0 rfl fk_nil)
                          · refine sxo_isF (k := 90) rfl h180980 ?_
                            refine sxo_move rfl rfl rfl ?_
                            refine sxo_fieldAddr rfl rfl ff24_0 rfl ?_
                            refine sxo_loadB (i := 2) rfl rfl tf22 rfl rfl (fun _ => rfl) rfl rfl ?_
                            refine sxo_move rfl rfl rfl ?_
                            refine sxo_indexN (j := 0) eN25_ok (by decide) rfl Try.underlying22 tf25 rfl rfl rfl rfl (fun x180992 e180992 g180995 b180993 o180994 => ?_)
                            refine sxo_loadF (j := 0) rfl rfl tf25 rfl rfl (fun _ => rfl) rfl rfl ?_
                            refine sxo_move rfl rfl rfl ?_
                            refine sxo_indexF (j := 1) (eI_ok .i64) (by decide) rfl Try.underlying25 tf3 rfl rfl rfl rfl (fun x180996 e180996 b180997 o180998 => ?_)
                            refine sxo_loadF (j := 0) rfl rfl tf3 rfl rfl (fun _ => rfl) rfl rfl ?_
                            refine sxo_indexR (j := 0) rfl Try.underlying25 tf3 rfl rfl rfl rfl (fun x180999 e180999 g181000 h181001 => ?_)
                            refine sxo_loadR (j := 0) (y := x180999) (eI_ok .i64) rfl rfl tf3 rfl h181001 (idx_get e180999).2.2 (fun _ => rfl) rfl rfl ?_
                            refine sxo_move rfl rfl rfl ?_
                            refine sxo_eql rfl rfl rfl rfl ?_
                            refine sxo_pick (b := false) rfl rfl rfl rfl ?_
                            refine sxo_nil ?_
                            exact sxq_meetP (((x180999 : Int) == x170964), ()) (lk_cons rfl (lk_cons rfl (lk_cons rfl (lk_cons rfl (lk_cons rfl (lk_cons rfl (lk_cons rfl (lk_cons rfl (lk_cons rfl (lk_cons rfl lk_nil)))))))))) (.cons 0 rfl (.cons 0 rfl (.cons 0 rfl .nil))) (.cons 0 rfl (.cons 0 rfl .nil)) (fk_cons 3 rfl fk_nil)
                        · rintro ⟨x180991, _⟩
                          try dsimp only
                          refine sxo_take (os := _) rfl ?_
                          refine sxo_assign rfl rfl rfl ?_
                          refine sxo_nil ?_
                          refine sxq_blkN ?_
                          refine sxq_next ?_
                          refine sxc_region ?_
                          refine sxo_move rfl rfl rfl ?_
                          refine sxo_add rfl rfl rfl rfl ?_
                          refine sxo_assign rfl rfl rfl ?_
                          refine sxo_nil ?_
                          exact sxq_againP ((x180991, iadd .i64 x180864 1), ()) (lk_cons rfl (lk_cons rfl (lk_cons rfl (lk_cons rfl (lk_cons rfl (lk_cons rfl (lk_cons rfl (lk_cons rfl (lk_cons rfl (lk_cons rfl lk_nil)))))))))) (.cons 0 rfl (.cons 0 rfl (.cons 0 rfl .nil))) (.cons 0 rfl (.cons 0 rfl .nil)) (fk_cons 0 rfl fk_nil)
                      · refine sxc_exit ?_
                        refine sxq_thenX ?_
                        refine sxq_thenX ?_
                        refine sxq_blkX ?_
                        refine sxq_blkN ?_
                        exact sxq_meetP (x180863, ()) (lk_cons rfl (lk_cons rfl (lk_cons rfl (lk_cons rfl (lk_cons rfl (lk_cons rfl (lk_cons rfl (lk_cons rfl (lk_cons rfl lk_nil))))))))) (.cons 0 rfl (.cons 0 rfl (.cons 0 rfl .nil))) (.cons 0 rfl (.cons 0 rfl .nil)) (fk_cons 0 rfl fk_nil)
                  · rintro ⟨x180792, _⟩
                    try dsimp only
                    refine sxc_region ?_
                    refine sxo_move rfl rfl rfl ?_
                    refine sxo_add rfl rfl rfl rfl ?_
                    refine sxo_assign rfl rfl rfl ?_
                    refine sxo_nil ?_
                    exact sxq_againP ((x180792, iadd .i64 x180147 1), ()) (lk_cons rfl (lk_cons rfl (lk_cons rfl (lk_cons rfl (lk_cons rfl (lk_cons rfl (lk_cons rfl (lk_cons rfl (lk_cons rfl lk_nil))))))))) (.cons 0 rfl (.cons 0 rfl (.cons 0 rfl .nil))) (.cons 0 rfl (.cons 0 rfl .nil)) (fk_cons 0 rfl fk_nil)
                · refine sxc_exit ?_
                  refine sxq_thenX ?_
                  refine sxq_thenX ?_
                  refine sxq_blkX ?_
                  exact sxq_meetP (x180146, ()) (lk_cons rfl (lk_cons rfl (lk_cons rfl (lk_cons rfl (lk_cons rfl (lk_cons rfl (lk_cons rfl (lk_cons rfl lk_nil)))))))) (.cons 0 rfl (.cons 0 rfl (.cons 0 rfl .nil))) (.cons 0 rfl (.cons 0 rfl .nil)) (fk_cons 0 rfl fk_nil)
              · rintro ⟨x179741, _⟩
                try dsimp only
                refine sxc_seq ?_
                refine sxc_region ?_
                refine sxo_move rfl rfl rfl ?_
                refine sxo_move rfl rfl rfl ?_
                refine sxo_case 4 x179741 [(1, .pointer (some ⟨g4, 0, none⟩)), (2, .pointer (some ⟨g5, 0, none⟩)), (5, .int .i64 (x6.length : Int)), (6, .slice a10 x203.length c11), (7, .pointer (some ⟨g12, 0, none⟩)), (9, .int .i64 x120741), (10, .int .i64 x170964), (110, .bool (x179741 && ((x120741 : Int) != x170964)))] (fun h179742 => ?_) (fun h179742 => ?_) ?_
                · refine sxo_take (os := _) rfl ?_
                  refine sxo_isT (k := 106) rfl h179742 ?_
                  refine sxo_move rfl rfl rfl ?_
                  refine sxo_move rfl rfl rfl ?_
                  refine sxo_neq rfl rfl rfl rfl ?_
                  refine sxo_pick (b := true) rfl rfl rfl rfl ?_
                  refine sxo_again (d := 110) (v := .bool (x179741 && ((x120741 : Int) != x170964))) rfl (by rw [h179742]; simp only [Bool.true_and]) ?_
                  refine sxo_nil ?_
                  exact sxq_case (lk_cons rfl (lk_cons rfl (lk_cons rfl (lk_cons rfl (lk_cons rfl (lk_cons rfl (lk_cons rfl (lk_cons rfl lk_nil))))))))
                · refine sxo_take (os := _) rfl ?_
                  refine sxo_isF (k := 106) rfl h179742 ?_
                  refine sxo_skip rfl rfl rfl ?_
                  refine sxo_skip rfl rfl rfl ?_
                  refine sxo_skip rfl rfl rfl ?_
                  refine sxo_pick (b := false) rfl rfl rfl rfl ?_
                  refine sxo_again (d := 110) (v := .bool (x179741 && ((x120741 : Int) != x170964))) rfl (by rw [h179742]; simp only [Bool.false_and]) ?_
                  refine sxo_nil ?_
                  exact sxq_case (lk_cons rfl (lk_cons rfl (lk_cons rfl (lk_cons rfl (lk_cons rfl (lk_cons rfl (lk_cons rfl (lk_cons rfl lk_nil))))))))
                refine sxo_take (os := _) rfl ?_
                refine sxo_nil ?_
                refine sxq_next ?_
                refine sxc_if rfl (fun h179764 => ?_) (fun h179764 => ?_)
                · refine sxc_idxP (j := 1) rfl (fun x179743 e179743 g179744 h179745 g179746 h179747 => ?_)
                  replace h179747 : a204 = some ⟨g179746, 0, none⟩ := h179747
                  have h179748 := own_of (k := x170966.length) (c := c205.1) h179747
                  refine sxc_openN (i := 1) rfl h179745 (List.not_mem_nil) ?_
                  refine sxc_idxP (j := 1) rfl (fun x179749 e179749 g179750 h179751 g179752 h179753 => ?_)
                  replace h179753 : a204 = some ⟨g179752, 0, none⟩ := h179753
                  have h179754 := own_of (k := x170966.length) (c := c205.1) h179753
                  refine sxb_draw mixed [12] [⟨g12, 24, [.slice a204 x170966.length c205.1]⟩, ⟨g5, 24, [.slice none 0 0]⟩, ⟨g4, 24, [.slice a2 x1.length c3.1]⟩] [SlN eN25 iN25 1 (.slice a2 x1.length c3.1) x1 c3.2, CellsAt g179746 (x120741.toNat * 1) (eN25 (x179743, g179744)), CellsAt g179752 (x120741.toNat * 1) (eN25 (x179749, g179750))] (.cons 0 rfl (.cons 0 rfl (.cons 0 rfl .nil))) (gk_F 0 rfl (gk_R 1 rfl (at_rowN eN25_ok h179745 h179747) (gk_R 1 rfl (at_rowN eN25_ok h179751 h179753) gk_nil))) 13 rfl ?_
                  refine sxb_takeP 0 (.pointer (some ⟨g12, 0, none⟩)) rfl rfl rfl rfl (by kernel_rfl) (by kernel_rfl) (by kernel_rfl) (by kernel_rfl) (by kernel_rfl) rfl (show _ = #[true, false, false, false, false, false, false, false, false, false, false, false, false] from rfl) (yv_fieldAddr rfl ff24_0) ?_
                  refine sxb_takeB 1 (.slice a204 x170966.length c205.1) rfl rfl rfl rfl (by kernel_rfl) (by kernel_rfl) (by kernel_rfl) (by kernel_rfl) (by kernel_rfl) rfl (show _ = #[true, true, false, false, false, false, false, false, false, false, false, false, false] from rfl) (yv_loadB (i := 0) rfl tf22 rfl rfl (fun _ => rfl) rfl) ?_
                  refine sxb_takeP 2 (.int .i64 x120741) rfl rfl rfl rfl (by kernel_rfl) (by kernel_rfl) (by kernel_rfl) (by kernel_rfl) (by kernel_rfl) rfl (show _ = #[true, true, true, false, false, false, false, false, false, false, false, false, false] from rfl) (yv_pv rfl) ?_
                  refine sxb_takeP 3 (.pointer (some ⟨g12, 0, none⟩)) rfl rfl rfl rfl (by kernel_rfl) (by kernel_rfl) (by kernel_rfl) (by kernel_rfl) (by kernel_rfl) rfl (show _ = #[true, true, true, true, false, false, false, false, false, false, false, false, false] from rfl) (yv_fieldAddr rfl ff24_0) ?_
                  refine sxb_takeB 4 (.slice a204 x170966.length c205.1) rfl rfl rfl rfl (by kernel_rfl) (by kernel_rfl) (by kernel_rfl) (by kernel_rfl) (by kernel_rfl) rfl (show _ = #[true, true, true, true, true, false, false, false, false, false, false, false, false] from rfl) (yv_loadB (i := 0) rfl tf22 rfl rfl (fun _ => rfl) rfl) ?_
                  refine sxb_takeP 5 (.int .i64 x120741) rfl rfl rfl rfl (by kernel_rfl) (by kernel_rfl) (by kernel_rfl) (by kernel_rfl) (by kernel_rfl) rfl (show _ = #[true, true, true, true, true, true, false, false, false, false, false, false, false] from rfl) (yv_pv rfl) ?_
                  refine sxb_again (d := 115) (v := .slice (some ⟨g179746, 0, none⟩) x170966.length c205.1) rfl (by rw [h179747] <;> rfl) ?_
                  refine sxb_takeP 6 (.pointer (some ⟨g179746, x120741.toNat * 1, none⟩)) rfl rfl rfl rfl (by kernel_rfl) (by kernel_rfl) (by kernel_rfl) (by kernel_rfl) (by kernel_rfl) rfl (show _ = #[true, true, true, true, true, true, true, false, false, false, false, false, false] from rfl) (yv_idxO Try.underlying22 tf25 rfl rfl (idx_get e179743).1 (idx_lt e179743)) ?_
                  refine sxb_again (d := 115) (v := .slice a204 x170966.length c205.1) rfl (by rw [h179747] <;> rfl) ?_
                  refine sxb_take 7 (.slice g179744.1 x179743.length g179744.2) [[12]] rfl rfl rfl rfl (by kernel_rfl) (by kernel_rfl) (by kernel_rfl) (by kernel_rfl) (by kernel_rfl) (by kernel_rfl) rfl (show _ = #[true, true, true, true, true, true, true, true, false, false, false, false, false] from rfl) (yv_loadF (j := 1) rfl tf25 rfl rfl (fun _ => rfl) rfl) ?_
                  refine sxb_takeP 8 (.int .i64 x170964) rfl rfl rfl rfl (by kernel_rfl) (by kernel_rfl) (by kernel_rfl) (by kernel_rfl) (by kernel_rfl) rfl (show _ = #[true, true, true, true, true, true, true, true, true, false, false, false, false] from rfl) (yv_pv rfl) ?_
                  refine sxb_step 9 rfl (by kernel_rfl) (show _ = #[true, true, true, true, true, true, true, true, true, true, false, false, false] from rfl) ?_
                  refine sxo_slit (vs := [.int .i64 x170964]) (ys := ([x170964] : List Int)) (eI_ok .i64) (by decide) rfl Try.underlying25 tf3 rfl rfl rfl rfl rfl (by decide) (fun a179755 c179756 => ?_)
                  refine sxo_nil ?_
                  refine sxq_anyB (.cons 0 rfl (.cons 0 rfl (.cons 0 rfl .nil))) (gk_F 0 rfl (gk_R 2 rfl (at_rowN eN25_ok h179745 h179747) (gk_R 2 rfl (at_rowN eN25_ok h179751 h179753) gk_nil))) ?_
                  refine sxb_step 10 rfl (by kernel_rfl) (show _ = #[true, true, true, true, true, true, true, true, true, true, true, false, false] from rfl) ?_
                  refine sxo_app 1 (eI_ok .i64) rfl Try.underlying25 tf3 rfl rfl rfl rfl rfl (.inl ⟨0, _, rfl⟩) rfl rfl (fun x179757 e179757 a179758 c179759 => ?_)
                  refine sxo_nil ?_
                  refine sxq_anyB (.cons 0 rfl (.cons 0 rfl (.cons 0 rfl .nil))) (gk_F 0 rfl (gk_R 2 rfl (at_rowN eN25_ok h179745 h179747) (gk_R 2 rfl (at_rowN eN25_ok h179751 h179753) gk_nil))) ?_
                  refine sxb_again (d := 112) (v := .slice (some ⟨g179752, 0, none⟩) x170966.length c205.1) rfl (by rw [h179753] <;> rfl) ?_
                  refine sxb_takeP 11 (.pointer (some ⟨g179752, x120741.toNat * 1, none⟩)) rfl rfl rfl rfl (by kernel_rfl) (by kernel_rfl) (by kernel_rfl) (by kernel_rfl) (by kernel_rfl) rfl (show _ = #[true, true, true, true, true, true, true, true, true, true, true, true, false] from rfl) (yv_idxO Try.underlying22 tf25 rfl rfl (idx_get e179749).1 (idx_lt e179749)) ?_
                  refine sxb_again (d := 112) (v := .slice a204 x170966.length c205.1) rfl (by rw [h179753] <;> rfl) ?_
                  refine sxb_step 12 rfl (by kernel_rfl) (show _ = #[true, true, true, true, true, true, true, true, true, true, true, true, true] from rfl) ?_
                  refine sxo_storeC (j := 2) (kh := 0) (y' := x179757) (q' := (a179758, c179759)) eN25_ok rfl rfl rfl tf25 rfl (own_of h179753) rfl (idx_get e179749).2.1 rfl (.cons 0 rfl .nil) (fun x179760 e179760 h179761 g179763 => ?_)
                  have h179762 : x179760.length = x170966.length := by rw [← e179760, List.length_set]
                  refine sxo_again (d := 112) (v := .slice a204 x179760.length c205.1) rfl (by rw [h179761] <;> rfl) ?_
                  refine sxo_again (d := 115) (v := .slice a204 x179760.length c205.1) rfl (by rw [h179761] <;> rfl) ?_
                  refine sxo_blkAgain (i := 0) (cs' := [.slice a204 x179760.length c205.1]) rfl (by rw [h179761] <;> rfl) ?_
                  refine sxo_nil ?_
                  refine sxq_anyW 12 rfl rfl (.cons 0 (by rw [h179762]; rfl) (.cons 0 rfl (.cons 0 rfl .nil))) ?_
                  refine sxb_done (by kernel_rfl) ?_
                  refine sxq_np ?_ (by intro c h; cases h)
                  refine sxq_blkN ?_
                  exact sxq_meetP (x179760, g179763) (lk_cons rfl (lk_cons rfl (lk_cons rfl (lk_cons rfl (lk_cons rfl (lk_cons rfl (lk_cons rfl lk_nil))))))) (.cons 0 rfl (.cons 0 rfl (.cons 0 rfl .nil))) (.cons 2 rfl (.cons 0 rfl .nil)) (fk_cons 0 rfl fk_nil)
                · refine sxc_skip ?_
                  refine sxq_blkN ?_
                  exact sxq_meetP (x170966, g170965) (lk_cons rfl (lk_cons rfl (lk_cons rfl (lk_cons rfl (lk_cons rfl (lk_cons rfl (lk_cons rfl lk_nil))))))) (.cons 0 rfl (.cons 0 rfl (.cons 0 rfl .nil))) (.cons 0 rfl (.cons 0 rfl .nil)) (fk_cons 0 rfl fk_nil)
            · rintro ⟨x178498, g178497⟩
              try dsimp only
              refine sxc_region ?_
              refine sxo_move rfl rfl rfl ?_
              refine sxo_add rfl rfl rfl rfl ?_
              refine sxo_assign rfl rfl rfl ?_
              refine sxo_nil ?_
              exact sxq_againP ((iadd .i64 x170964 1, x178498), g178497) (lk_cons rfl (lk_cons rfl (lk_cons rfl (lk_cons rfl (lk_cons rfl (lk_cons rfl (lk_cons rfl lk_nil))))))) (.cons 0 rfl (.cons 0 rfl (.cons 0 rfl .nil))) (.cons 0 rfl (.cons 0 rfl .nil)) (fk_cons 0 rfl fk_nil)
          · refine sxc_exit ?_
            refine sxq_thenX ?_
            refine sxq_thenX ?_
            refine sxq_blkX ?_
            refine sxq_blkN ?_
            exact sxq_meetP (x170966, g170965) (lk_cons rfl (lk_cons rfl (lk_cons rfl (lk_cons rfl (lk_cons rfl (lk_cons rfl lk_nil)))))) (.cons 0 rfl (.cons 0 rfl (.cons 0 rfl .nil))) (.cons 0 rfl (.cons 0 rfl .nil)) (fk_cons 0 rfl fk_nil)
        · rintro ⟨x165943, g165942⟩
          try dsimp only
          refine sxc_region ?_
          refine sxo_move rfl rfl rfl ?_
          refine sxo_add rfl rfl rfl rfl ?_
          refine sxo_assign rfl rfl rfl ?_
          refine sxo_nil ?_
          exact sxq_againP ((iadd .i64 x120741 1, x165943), g165942) (lk_cons rfl (lk_cons rfl (lk_cons rfl (lk_cons rfl (lk_cons rfl (lk_cons rfl lk_nil)))))) (.cons 0 rfl (.cons 0 rfl (.cons 0 rfl .nil))) (.cons 0 rfl (.cons 0 rfl .nil)) (fk_cons 0 rfl fk_nil)
      · refine sxc_exit ?_
        refine sxq_thenX ?_
        refine sxq_thenX ?_
        refine sxq_blkX ?_
        exact sxq_meetP (x120743, g120742) (lk_cons rfl (lk_cons rfl (lk_cons rfl lk_nil))) (.cons 0 rfl (.cons 0 rfl .nil)) (.cons 0 rfl (.cons 0 rfl .nil)) fk_nil
    · rintro ⟨x90608, g90607⟩
      try dsimp only
      refine sxc_seq ?_
      refine sxc_region ?_
      refine sxo_loadB (i := 0) rfl rfl tf24 rfl rfl (by simp) rfl rfl ?_
      refine sxo_move rfl rfl rfl ?_
      refine sxo_storeB (i := 1) rfl rfl rfl tf24 rfl rfl rfl rfl rfl ?_
      refine sxo_assign rfl rfl rfl ?_
      refine sxo_nil ?_
      refine sxq_next ?_
      refine sxc_ret ?_
      exact sxq_doneP ((a204, (c205.1, g90607)), (a10, c11)) (.inl rfl) (resL (rs := [.cell 2 24, .tmp 3]) rfl (.cell (i := 1) rfl tf24 rfl rfl (by simp) rfl (.tmp rfl ResOk.nil)) rfl) (fun h => by subst h; rfl) (fun h => by subst h; exact (.cons 1 rfl (.cons 0 rfl .nil)))

theorem C_R_HasInt (F : Nat) (x1 : List Int) (a2 : Option Addr) (c3 : Nat) (x4 : Int) (r : Bool) (hm : M_R_HasInt F x1 x4 = some r) :
    Pure Try.prog 23 [.slice a2 x1.length c3, .int .i64 x4] [Sl (eI .i64) 1 (.slice a2 x1.length c3) x1] Unit (fun _ => .bool r) (fun _ => []) (fun _ => []) := by
  refine pure_of Try.func23 rfl Try.ntmps23 rfl hm (fun w => ?_)
  refine sxc_env (l' := [(0, .slice a2 x1.length c3), (1, .int .i64 x4)]) rfl ?_
  refine sxc_seq ?_
  refine sxc_region ?_
  refine sxo_assign rfl rfl rfl ?_
  refine sxo_nil ?_
  refine sxq_next ?_
  refine sxc_join (fun ((_, _) : (Unit × Unit)) => []) (fun ((_, _) : (Unit × Unit)) => []) (fun ((_, _) : (Unit × Unit)) => []) (fun ((_, _) : (Unit × Unit)) => []) (fun ((_, _) : (Unit × Unit)) => M_R_HasInt_j2 F) ?_ ?_
  · refine sxc_seq ?_
    refine sxc_region ?_
    refine sxo_assign rfl rfl rfl ?_
    refine sxo_nil ?_
    refine sxq_next ?_
    refine sxc_block ?_
    refine sxc_loopP (fun ((x47, _) : (Int × Unit)) => [(0, .slice a2 x1.length c3), (1, .int .i64 x4), (5, .int .i64 x47)]) (fun ((x47, _) : (Int × Unit)) => []) (fun ((x47, _) : (Int × Unit)) => []) (fun ((x47, _) : (Int × Unit)) => [Sl (eI .i64) 1 (.slice a2 x1.length c3) x1]) (fun k (s : (Int × Unit)) => M_R_HasInt_l3 F x1 x4 k s.1) (0, ()) F (lk_cons rfl (lk_cons rfl (lk_cons rfl lk_nil))) .nil .nil (fk_cons 0 rfl fk_nil) (fun _ => rfl) ?_
    intro k58
    rintro ⟨x47, _⟩
    try dsimp only
    refine sxc_meq (m' := M_R_HasInt_b3 F x1 x4 (M_R_HasInt_l3 F x1 x4 k58) x47) rfl ?_
    refine sxc_seq ?_
    refine sxc_seq ?_
    refine sxc_region ?_
    refine sxo_move rfl rfl rfl ?_
    refine sxo_move rfl rfl rfl ?_
    refine sxo_len rfl Try.underlying25 rfl rfl ?_
    refine sxo_lss rfl rfl rfl rfl ?_
    refine sxo_nil ?_
    refine sxq_next ?_
    refine sxc_if rfl (fun h68 => ?_) (fun h68 => ?_)
    · refine sxc_skip ?_
      refine sxq_next ?_
      refine sxc_seq ?_
      refine sxc_block ?_
      refine sxc_seq ?_
      refine sxc_region ?_
      refine sxo_move rfl rfl rfl ?_
      refine sxo_move rfl rfl rfl ?_
      refine sxo_indexF (j := 0) (eI_ok .i64) (by decide) rfl Try.underlying25 tf3 rfl rfl rfl rfl (fun x64 e64 b65 o66 => ?_)
      refine sxo_loadF (j := 0) rfl rfl tf3 rfl rfl (fun _ => rfl) rfl rfl ?_
      refine sxo_move rfl rfl rfl ?_
      refine sxo_eql rfl rfl rfl rfl ?_
      refine sxo_nil ?_
      refine sxq_next ?_
      refine sxc_if rfl (fun h67 => ?_) (fun h67 => ?_)
      · refine sxc_seq ?_
        refine sxc_region ?_
        refine sxo_assign rfl rfl rfl ?_
        refine sxo_nil ?_
        refine sxq_next ?_
        refine sxc_ret ?_
        refine sxq_blkR ?_
        refine sxq_thenR ?_
        refine sxq_thenR ?_
        refine sxq_blkR ?_
        refine sxq_thenR ?_
        exact sxq_doneP () (.inl rfl) (res1 rfl rfl) (fun h => by subst h; rfl) (fun h => by subst h; exact .nil)
      · refine sxc_skip ?_
        refine sxq_blkN ?_
        refine sxq_next ?_
        refine sxc_region ?_
        refine sxo_move rfl rfl rfl ?_
        refine sxo_add rfl rfl rfl rfl ?_
        refine sxo_assign rfl rfl rfl ?_
        refine sxo_nil ?_
        exact sxq_againP (iadd .i64 x47 1, ()) (lk_cons rfl (lk_cons rfl (lk_cons rfl lk_nil))) .nil .nil (fk_cons 1 rfl fk_nil)
    · refine sxc_exit ?_
      refine sxq_thenX ?_
      refine sxq_thenX ?_
      refine sxq_blkX ?_
      exact sxq_meetP ((), ()) lk_nil .nil .nil fk_nil
  · rintro ⟨_, _⟩
    try dsimp only
    refine sxc_seq ?_
    refine sxc_region ?_
    refine sxo_assign rfl rfl rfl ?_
    refine sxo_nil ?_
    refine sxq_next ?_
    refine sxc_ret ?_
    exact sxq_doneP () (.inl rfl) (res1 rfl rfl) (fun h => by subst h; rfl) (fun h => by subst h; exact .nil)

theorem C_R_Leads (F : Nat) (x1 : List (List Int)) (a2 : Option Addr) (c3 : (Nat × List (Option Addr × Nat))) (x4 : Int) (x5 : Int) (r : Bool) (hm : M_R_Leads F x1 x4 x5 = some r) :
    Pure Try.prog 21 [.agg #[.slice a2 x1.length c3.1], .int .i64 x4, .int .i64 x5] [SlN eN25 iN25 1 (.slice a2 x1.length c3.1) x1 c3.2] Unit (fun _ => .bool r) (fun _ => []) (fun _ => []) := by
  refine pure_of Try.func21 rfl Try.ntmps21 rfl hm (fun w => ?_)
  refine sxc_env (l' := [(0, .agg #[.slice a2 x1.length c3.1]), (1, .int .i64 x4), (2, .int .i64 x5)]) rfl ?_
  refine sxc_seq ?_
  refine sxc_region ?_
  refine sxo_box rfl rfl rfl (fun g6 => ?_)
  refine sxo_assign rfl rfl rfl ?_
  refine sxo_nil ?_
  refine sxq_next ?_
  refine sxc_seq ?_
  refine sxc_region ?_
  refine sxo_fieldAddr rfl rfl ff24_0 rfl ?_
  refine sxo_loadB (i := 0) rfl rfl tf22 rfl rfl (fun _ => rfl) rfl rfl ?_
  refine sxo_move rfl rfl rfl ?_
  refine sxo_indexN (j := 0) eN25_ok (by decide) rfl Try.underlying22 tf25 rfl rfl rfl rfl (fun x7 e7 g10 b8 o9 => ?_)
  refine sxo_loadF (j := 0) rfl rfl tf25 rfl rfl (fun _ => rfl) rfl rfl ?_
  refine sxo_move rfl rfl rfl ?_
  refine sxo_call ent23 rfl rfl rfl (fun x11 e11 => C_R_HasInt F x7 g10.1 g10.2 x5 x11 e11) (.consF 1 rfl .nil) (fun x11 e11 => ?_)
  intro _
  refine sxo_assign rfl rfl rfl ?_
  refine sxo_nil ?_
  refine sxq_next ?_
  refine sxc_ret ?_
  exact sxq_doneP () (.inl rfl) (res1 rfl rfl) (fun h => by subst h; rfl) (fun h => by subst h; exact .nil)

set_option maxHeartbeats 4000000 in
theorem C_R_StrongOrder (F : Nat) (x1 : List (List Int)) (a2 : Option Addr) (c3 : (Nat × List (Option Addr × Nat))) (r : (List Int × Bool)) (hm : M_R_StrongOrder F x1 = some r) :
    Pure Try.prog 17 [.agg #[.slice a2 x1.length c3.1]] [SlN eN25 iN25 1 (.slice a2 x1.length c3.1) x1 c3.2] (Option Addr × Nat) (fun g => .tuple #[.slice g.1 r.1.length g.2, .bool r.2]) (fun g => [Ro (eI .i64) 3 1 (.slice g.1 r.1.length g.2) r.1]) (fun _ => []) := by
  refine pure_of Try.func17 rfl Try.ntmps17 rfl hm (fun w => ?_)
  refine sxc_env (l' := [(0, .agg #[.slice a2 x1.length c3.1])]) rfl ?_
  refine sxc_seq ?_
  refine sxc_region ?_
  refine sxo_box rfl rfl rfl (fun g4 => ?_)
  refine sxo_assign rfl rfl rfl ?_
  refine sxo_assign rfl rfl rfl ?_
  refine sxo_nil ?_
  refine sxq_next ?_
  refine sxc_seq ?_
  refine sxc_region ?_
  refine sxo_fieldAddr rfl rfl ff24_0 rfl ?_
  refine sxo_loadB (i := 0) rfl rfl tf22 rfl rfl (fun _ => rfl) rfl rfl ?_
  refine sxo_len rfl Try.underlying22 rfl rfl ?_
  refine sxo_assign rfl rfl rfl ?_
  refine sxo_nil ?_
  refine sxq_next ?_
  refine sxc_seq ?_
  refine sxc_region ?_
  refine sxo_assign rfl rfl rfl ?_
  refine sxo_nil ?_
  refine sxq_next ?_
  refine sxc_join (fun ((x3467, (a3465, c3466)) : (List Int × (Option Addr × Nat))) => [(5, .slice a3465 x3467.length c3466)]) (fun ((x3467, (a3465, c3466)) : (List Int × (Option Addr × Nat))) => []) (fun ((x3467, (a3465, c3466)) : (List Int × (Option Addr × Nat))) => [Ro (eI .i64) 3 1 (.slice a3465 x3467.length c3466) x3467]) (fun ((x3467, (a3465, c3466)) : (List Int × (Option Addr × Nat))) => []) (fun ((x3467, _) : (List Int × (Option Addr × Nat))) => M_R_StrongOrder_j569 F x3467) ?_ ?_
  · refine sxc_block ?_
    refine sxc_nilrow Int (eI .i64) 3 1 ?_
    refine sxc_loopP (fun ((x4622, (a4620, c4621)) : (List Int × (Option Addr × Nat))) => [(1, .pointer (some ⟨g4, 0, none⟩)), (4, .int .i64 (x1.length : Int)), (5, .slice a4620 x4622.length c4621)]) (fun ((x4622, (a4620, c4621)) : (List Int × (Option Addr × Nat))) => [⟨g4, 24, [.slice a2 x1.length c3.1]⟩]) (fun ((x4622, (a4620, c4621)) : (List Int × (Option Addr × Nat))) => [Ro (eI .i64) 3 1 (.slice a4620 x4622.length c4621) x4622]) (fun ((x4622, (a4620, c4621)) : (List Int × (Option Addr × Nat))) => [SlN eN25 iN25 1 (.slice a2 x1.length c3.1) x1 c3.2]) (fun k (s : (List Int × (Option Addr × Nat))) => M_R_StrongOrder_l948 F x1 k s.1) (([] : List Int), (none, 0)) F (lk_cons rfl (lk_cons rfl (lk_cons rfl lk_nil))) (.cons 0 rfl .nil) (.cons 0 rfl .nil) (fk_cons 0 rfl fk_nil) (fun _ => rfl) ?_
    intro k5775
    rintro ⟨x4622, ⟨a4620, c4621⟩⟩
    try dsimp only
    refine sxc_meq (m' := M_R_StrongOrder_b948 F x1 (M_R_StrongOrder_l948 F x1 k5775) x4622) rfl ?_
    refine sxc_seq ?_
    refine sxc_seq ?_
    refine sxc_region ?_
    refine sxo_move rfl rfl rfl ?_
    refine sxo_len rfl Try.underlying25 rfl rfl ?_
    refine sxo_move rfl rfl rfl ?_
    refine sxo_lss rfl rfl rfl rfl ?_
    refine sxo_nil ?_
    refine sxq_next ?_
    refine sxc_if rfl (fun h6927 => ?_) (fun h6927 => ?_)
    · refine sxc_skip ?_
      refine sxq_next ?_
      refine sxc_block ?_
      refine sxc_seq ?_
      refine sxc_region ?_
      refine sxo_assign rfl rfl rfl ?_
      refine sxo_nil ?_
      refine sxq_next ?_
      refine sxc_join (fun ((x6348, _) : (Int × Unit)) => [(1, .pointer (some ⟨g4, 0, none⟩)), (4, .int .i64 (x1.length : Int)), (5, .slice a4620 x4622.length c4621), (6, .int .i64 x6348)]) (fun ((x6348, _) : (Int × Unit)) => [⟨g4, 24, [.slice a2 x1.length c3.1]⟩]) (fun ((x6348, _) : (Int × Unit)) => [Ro (eI .i64) 3 1 (.slice a4620 x4622.length c4621) x4622]) (fun ((x6348, _) : (Int × Unit)) => [SlN eN25 iN25 1 (.slice a2 x1.length c3.1) x1 c3.2]) (fun ((x6348, _) : (Int × Unit)) => M_R_StrongOrder_j1043 F (M_R_StrongOrder_l948 F x1 k5775) x4622 x6348) ?_ ?_
      · refine sxc_seq ?_
        refine sxc_region ?_
        refine sxo_move rfl rfl rfl ?_
        refine sxo_sub rfl rfl rfl rfl ?_
        refine sxo_assign rfl rfl rfl ?_
        refine sxo_nil ?_
        refine sxq_next ?_
        refine sxc_block ?_
        refine sxc_loopP (fun (((x6546, x6547), _) : ((Int × Int) × Unit)) => [(1, .pointer (some ⟨g4, 0, none⟩)), (4, .int .i64 (x1.length : Int)), (5, .slice a4620 x4622.length c4621), (6, .int .i64 x6546), (7, .int .i64 x6547)]) (fun (((x6546, x6547), _) : ((Int × Int) × Unit)) => [⟨g4, 24, [.slice a2 x1.length c3.1]⟩]) (fun (((x6546, x6547), _) : ((Int × Int) × Unit)) => [Ro (eI .i64) 3 1 (.slice a4620 x4622.length c4621) x4622]) (fun (((x6546, x6547), _) : ((Int × Int) × Unit)) => [SlN eN25 iN25 1 (.slice a2 x1.length c3.1) x1 c3.2]) (fun k (s : ((Int × Int) × Unit)) => M_R_StrongOrder_l1106 F (M_R_StrongOrder_l948 F x1 k5775) x1 x4622 k s.1) ((-1, isub .i64 (x1.length : Int) 1), ()) F (lk_cons rfl (lk_cons rfl (lk_cons rfl (lk_cons rfl (lk_cons rfl lk_nil))))) (.cons 0 rfl .nil) (.cons 0 rfl .nil) (fk_cons 0 rfl fk_nil) (fun _ => rfl) ?_
        intro k6737
        rintro ⟨⟨x6546, x6547⟩, _⟩
        try dsimp only
        refine sxc_meq (m' := M_R_StrongOrder_b1106 F (M_R_StrongOrder_l948 F x1 k5775) x1 x4622 (M_R_StrongOrder_l1106 F (M_R_StrongOrder_l948 F x1 k5775) x1 x4622 k6737) x6546 x6547) rfl ?_
        refine sxc_seq ?_
        refine sxc_seq ?_
        refine sxc_region ?_
        refine sxo_move rfl rfl rfl ?_
        refine sxo_geq rfl rfl rfl rfl ?_
        refine sxo_nil ?_
        refine sxq_next ?_
        refine sxc_if rfl (fun h6926 => ?_) (fun h6926 => ?_)
        · refine sxc_skip ?_
          refine sxq_next ?_
          refine sxc_join (fun ((x6832, _) : (Int × Unit)) => [(1, .pointer (some ⟨g4, 0, none⟩)), (4, .int .i64 (x1.length : Int)), (5, .slice a4620 x4622.length c4621), (6, .int .i64 x6832), (7, .int .i64 x6547)]) (fun ((x6832, _) : (Int × Unit)) => [⟨g4, 24, [.slice a2 x1.length c3.1]⟩]) (fun ((x6832, _) : (Int × Unit)) => [Ro (eI .i64) 3 1 (.slice a4620 x4622.length c4621) x4622]) (fun ((x6832, _) : (Int × Unit)) => [SlN eN25 iN25 1 (.slice a2 x1.length c3.1) x1 c3.2]) (fun ((x6832, _) : (Int × Unit)) => M_R_StrongOrder_j1122 F (M_R_StrongOrder_l1106 F (M_R_StrongOrder_l948 F x1 k5775) x1 x4622 k6737) x6547 x6832) ?_ ?_
          · refine sxc_block ?_
            refine sxc_seq ?_
            refine sxc_region ?_
            refine sxo_move rfl rfl rfl ?_
            refine sxo_move rfl rfl rfl ?_
            refine sxo_call ent23 rfl rfl rfl (fun x6833 e6833 => C_R_HasInt F x4622 a4620 c4621 x6547 x6833 e6833) (.consR 0 (Ro (eI .i64) 3 1 (.slice a4620 x4622.length c4621) x4622) rfl .nil) (fun x6833 e6833 => ?_)
            intro _
            refine sxo_not rfl rfl rfl ?_
            refine sxo_assign rfl rfl rfl ?_
            refine sxo_nil ?_
            refine sxq_next ?_
            refine sxc_join (fun ((x6879, _) : (Bool × Unit)) => [(1, .pointer (some ⟨g4, 0, none⟩)), (4, .int .i64 (x1.length : Int)), (5, .slice a4620 x4622.length c4621), (6, .int .i64 x6546), (7, .int .i64 x6547), (8, .bool x6879)]) (fun ((x6879, _) : (Bool × Unit)) => [⟨g4, 24, [.slice a2 x1.length c3.1]⟩]) (fun ((x6879, _) : (Bool × Unit)) => [Ro (eI .i64) 3 1 (.slice a4620 x4622.length c4621) x4622]) (fun ((x6879, _) : (Bool × Unit)) => [SlN eN25 iN25 1 (.slice a2 x1.length c3.1) x1 c3.2]) (fun ((x6879, _) : (Bool × Unit)) => M_R_StrongOrder_j1130 F (M_R_StrongOrder_l1106 F (M_R_StrongOrder_l948 F x1 k5775) x1 x4622 k6737) x6546 x6547 x6879) ?_ ?_
            · refine sxc_seq ?_
              refine sxc_region ?_
              refine sxo_assign rfl rfl rfl ?_
              refine sxo_nil ?_
              refine sxq_next ?_
              refine sxc_block ?_
              refine sxc_loopP (fun (((x6895, x6896), _) : ((Bool × Int) × Unit)) => [(1, .pointer (some ⟨g4, 0, none⟩)), (4, .int .i64 (x1.length : Int)), (5, .slice a4620 x4622.length c4621), (6, .int .i64 x6546), (7, .int .i64 x6547), (8, .bool x6895), (9, .int .i64 x6896)]) (fun (((x6895, x6896), _) : ((Bool × Int) × Unit)) => [⟨g4, 24, [.slice a2 x1.length c3.1]⟩]) (fun (((x6895, x6896), _) : ((Bool × Int) × Unit)) => [Ro (eI .i64) 3 1 (.slice a4620 x4622.length c4621) x4622]) (fun (((x6895, x6896), _) : ((Bool × Int) × Unit)) => [SlN eN25 iN25 1 (.slice a2 x1.length c3.1) x1 c3.2]) (fun k (s : ((Bool × Int) × Unit)) => M_R_StrongOrder_l1135 F (M_R_StrongOrder_l1106 F (M_R_StrongOrder_l948 F x1 k5775) x1 x4622 k6737) x1 x4622 x6546 x6547 k s.1) (((!x6833), 0), ()) F (lk_cons rfl (lk_cons rfl (lk_cons rfl (lk_cons rfl (lk_cons rfl (lk_cons rfl (lk_cons rfl lk_nil))))))) (.cons 0 rfl .nil) (.cons 0 rfl .nil) (fk_cons 0 rfl fk_nil) (fun _ => rfl) ?_
              intro k6911
              rintro ⟨⟨x6895, x6896⟩, _⟩
              try dsimp only
              refine sxc_meq (m' := M_R_StrongOrder_b1135 F (M_R_StrongOrder_l1106 F (M_R_StrongOrder_l948 F x1 k5775) x1 x4622 k6737) x1 x4622 x6546 x6547 (M_R_StrongOrder_l1135 F (M_R_StrongOrder_l1106 F (M_R_StrongOrder_l948 F x1 k5775) x1 x4622 k6737) x1 x4622 x6546 x6547 k6911) x6895 x6896) rfl ?_
              refine sxc_seq ?_
              refine sxc_seq ?_
              refine sxc_region ?_
              refine sxo_move rfl rfl rfl ?_
              refine sxo_move rfl rfl rfl ?_
              refine sxo_lss rfl rfl rfl rfl ?_
              refine sxo_move rfl rfl rfl ?_
              refine sxo_case 2 (decide (x6896 < (x1.length : Int))) [(1, .pointer (some ⟨g4, 0, none⟩)), (4, .int .i64 (x1.length : Int)), (5, .slice a4620 x4622.length c4621), (6, .int .i64 x6546), (7, .int .i64 x6547), (8, .bool x6895), (9, .int .i64 x6896), (32, .bool ((decide (x6896 < (x1.length : Int))) && x6895))] (fun h6914 => ?_) (fun h6914 => ?_) ?_
              · refine sxo_take (os := _) rfl ?_
                refine sxo_isT (k := 30) rfl h6914 ?_
                refine sxo_move rfl rfl rfl ?_
                refine sxo_pick (b := true) rfl rfl rfl rfl ?_
                refine sxo_again (d := 32) (v := .bool ((decide (x6896 < (x1.length : Int))) && x6895)) rfl (by rw [h6914]; simp only [Bool.true_and]) ?_
                refine sxo_nil ?_
                exact sxq_case (lk_cons rfl (lk_cons rfl (lk_cons rfl (lk_cons rfl (lk_cons rfl (lk_cons rfl (lk_cons rfl (lk_cons rfl lk_nil))))))))
              · refine sxo_take (os := _) rfl ?_
                refine sxo_isF (k := 30) rfl h6914 ?_
                refine sxo_skip rfl rfl rfl ?_
                refine sxo_pick (b := false) rfl rfl rfl rfl ?_
                refine sxo_again (d := 32) (v := .bool ((decide (x6896 < (x1.length : Int))) && x6895)) rfl (by rw [h6914]; simp only [Bool.false_and]) ?_
                refine sxo_nil ?_
                exact sxq_case (lk_cons rfl (lk_cons rfl (lk_cons rfl (lk_cons rfl (lk_cons rfl (lk_cons rfl (lk_cons rfl (lk_cons rfl lk_nil))))))))
              refine sxo_take (os := _) rfl ?_
              refine sxo_nil ?_
              refine sxq_next ?_
              refine sxc_if rfl (fun h6925 => ?_) (fun h6925 => ?_)
              · refine sxc_skip ?_
                refine sxq_next ?_
                refine sxc_seq ?_
                refine sxc_block ?_
                refine sxc_region ?_
                refine sxo_move rfl rfl rfl ?_
                refine sxo_move rfl rfl rfl ?_
                refine sxo_call ent23 rfl rfl rfl (fun x6920 e6920 => C_R_HasInt F x4622 a4620 c4621 x6896 x6920 e6920) (.consR 0 (Ro (eI .i64) 3 1 (.slice a4620 x4622.length c4621) x4622) rfl .nil) (fun x6920 e6920 => ?_)
                intro _
                refine sxo_move rfl rfl rfl ?_
                refine sxo_join 6 (fun ((x6923, _) : (Bool × Unit)) => [(1, .pointer (some ⟨g4, 0, none⟩)), (4, .int .i64 (x1.length : Int)), (5, .slice a4620 x4622.length c4621), (6, .int .i64 x6546), (7, .int .i64 x6547), (9, .int .i64 x6896), (44, .bool x6923)]) (fun ((x6923, _) : (Bool × Unit)) => [⟨g4, 24, [.slice a2 x1.length c3.1]⟩]) (fun ((x6923, _) : (Bool × Unit)) => [Ro (eI .i64) 3 1 (.slice a4620 x4622.length c4621) x4622]) (fun ((x6923, _) : (Bool × Unit)) => [SlN eN25 iN25 1 (.slice a2 x1.length c3.1) x1 c3.2]) (fun ((x6923, _) : (Bool × Unit)) => M_R_StrongOrder_j1137 F (M_R_StrongOrder_l1135 F (M_R_StrongOrder_l1106 F (M_R_StrongOrder_l948 F x1 k5775) x1 x4622 k6737) x1 x4622 x6546 x6547 k6911) x6896 x6923) ?_ ?_
                · refine sxo_take (os := _) rfl ?_
                  refine sxo_if (fun h6921 => ?_) (fun h6921 => ?_)
                  · refine sxo_isT (k := 38) rfl h6921 ?_
                    refine sxo_skip rfl rfl rfl ?_
                    refine sxo_skip rfl rfl rfl ?_
                    refine sxo_skip rfl rfl rfl ?_
                    refine sxo_skip rfl rfl rfl ?_
                    refine sxo_skip rfl rfl rfl ?_
                    refine sxo_pick (b := true) rfl rfl rfl rfl ?_
                    refine sxo_nil ?_
                    exact sxq_meetP (true, ()) (lk_cons rfl (lk_cons rfl (lk_cons rfl (lk_cons rfl (lk_cons rfl (lk_cons rfl (lk_cons rfl lk_nil))))))) (.cons 0 rfl .nil) (.cons 0 rfl .nil) (fk_cons 0 rfl fk_nil)
                  · refine sxo_isF (k := 38) rfl h6921 ?_
                    refine sxo_loadB (i := 0) rfl rfl tf24 rfl rfl (by simp) rfl rfl ?_
                    refine sxo_move rfl rfl rfl ?_
                    refine sxo_move rfl rfl rfl ?_
                    refine sxo_call ent21 rfl rfl rfl (fun x6924 e6924 => C_R_Leads F x1 a2 c3 x6896 x6547 x6924 e6924) (.consF 0 rfl .nil) (fun x6924 e6924 => ?_)
                    intro _
                    refine sxo_not rfl rfl rfl ?_
                    refine sxo_pick (b := false) rfl rfl rfl rfl ?_
                    refine sxo_nil ?_
                    exact sxq_meetP ((!x6924), ()) (lk_cons rfl (lk_cons rfl (lk_cons rfl (lk_cons rfl (lk_cons rfl (lk_cons rfl (lk_cons rfl lk_nil))))))) (.cons 0 rfl .nil) (.cons 0 rfl .nil) (fk_cons 0 rfl fk_nil)
                · rintro ⟨x6923, _⟩
                  try dsimp only
                  refine sxo_take (os := _) rfl ?_
                  refine sxo_assign rfl rfl rfl ?_
                  refine sxo_nil ?_
                  refine sxq_blkN ?_
                  refine sxq_next ?_
                  refine sxc_region ?_
                  refine sxo_move rfl rfl rfl ?_
                  refine sxo_add rfl rfl rfl rfl ?_
                  refine sxo_assign rfl rfl rfl ?_
                  refine sxo_nil ?_
                  exact sxq_againP ((x6923, iadd .i64 x6896 1), ()) (lk_cons rfl (lk_cons rfl (lk_cons rfl (lk_cons rfl (lk_cons rfl (lk_cons rfl (lk_cons rfl lk_nil))))))) (.cons 0 rfl .nil) (.cons 0 rfl .nil) (fk_cons 0 rfl fk_nil)
              · refine sxc_exit ?_
                refine sxq_thenX ?_
                refine sxq_thenX ?_
                refine sxq_blkX ?_
                exact sxq_meetP (x6895, ()) (lk_cons rfl (lk_cons rfl (lk_cons rfl (lk_cons rfl (lk_cons rfl (lk_cons rfl lk_nil)))))) (.cons 0 rfl .nil) (.cons 0 rfl .nil) (fk_cons 0 rfl fk_nil)
            · rintro ⟨x6879, _⟩
              try dsimp only
              refine sxc_seq ?_
              refine sxc_region ?_
              refine sxo_move rfl rfl rfl ?_
              refine sxo_nil ?_
              refine sxq_next ?_
              refine sxc_if rfl (fun h6880 => ?_) (fun h6880 => ?_)
              · refine sxc_region ?_
                refine sxo_move rfl rfl rfl ?_
                refine sxo_assign rfl rfl rfl ?_
                refine sxo_nil ?_
                refine sxq_blkN ?_
                exact sxq_meetP (x6547, ()) (lk_cons rfl (lk_cons rfl (lk_cons rfl (lk_cons rfl (lk_cons rfl lk_nil))))) (.cons 0 rfl .nil) (.cons 0 rfl .nil) (fk_cons 0 rfl fk_nil)
              · refine sxc_skip ?_
                refine sxq_blkN ?_
                exact sxq_meetP (x6546, ()) (lk_cons rfl (lk_cons rfl (lk_cons rfl (lk_cons rfl (lk_cons rfl lk_nil))))) (.cons 0 rfl .nil) (.cons 0 rfl .nil) (fk_cons 0 rfl fk_nil)
          · rintro ⟨x6832, _⟩
            try dsimp only
            refine sxc_region ?_
            refine sxo_move rfl rfl rfl ?_
            refine sxo_sub rfl rfl rfl rfl ?_
            refine sxo_assign rfl rfl rfl ?_
            refine sxo_nil ?_
            exact sxq_againP ((x6832, isub .i64 x6547 1), ()) (lk_cons rfl (lk_cons rfl (lk_cons rfl (lk_cons rfl (lk_cons rfl lk_nil))))) (.cons 0 rfl .nil) (.cons 0 rfl .nil) (fk_cons 0 rfl fk_nil)
        · refine sxc_exit ?_
          refine sxq_thenX ?_
          refine sxq_thenX ?_
          refine sxq_blkX ?_
          exact sxq_meetP (x6546, ()) (lk_cons rfl (lk_cons rfl (lk_cons rfl (lk_cons rfl lk_nil)))) (.cons 0 rfl .nil) (.cons 0 rfl .nil) (fk_cons 0 rfl fk_nil)
      · rintro ⟨x6348, _⟩
        try dsimp only
        refine sxc_seq ?_
        refine sxc_seq ?_
        refine sxc_region ?_
        refine sxo_move rfl rfl rfl ?_
        refine sxo_lss rfl rfl rfl rfl ?_
        refine sxo_nil ?_
        refine sxq_next ?_
        refine sxc_if rfl (fun h6355 => ?_) (fun h6355 => ?_)
        · refine sxc_seq ?_
          refine sxc_region ?_
          refine sxo_assign rfl rfl rfl ?_
          refine sxo_assign rfl rfl rfl ?_
          refine sxo_nil ?_
          refine sxq_next ?_
          refine sxc_ret ?_
          refine sxq_thenR ?_
          refine sxq_blkR ?_
          refine sxq_thenR ?_
          refine sxq_blkR ?_
          refine sxq_thenR ?_
          refine sxq_nilrow Int (eI .i64) 3 1 ?_
          exact sxq_doneP (none, 0) (.inl rfl) (res2 rfl rfl rfl) (fun h => by subst h; rfl) (fun h => by subst h; exact (.cons 0 rfl .nil))
        · refine sxc_skip ?_
          refine sxq_next ?_
          refine sxc_region ?_
          refine sxo_move rfl rfl rfl ?_
          refine sxo_move rfl rfl rfl ?_
          refine sxo_slit (vs := [.int .i64 x6348]) (ys := ([x6348] : List Int)) (eI_ok .i64) (by decide) rfl Try.underlying25 tf3 rfl rfl rfl rfl rfl (by decide) (fun a6350 c6351 => ?_)
          refine sxo_app 1 (eI_ok .i64) rfl Try.underlying25 tf3 rfl rfl rfl rfl rfl (.inl ⟨0, _, rfl⟩) rfl rfl (fun x6352 e6352 a6353 c6354 => ?_)
          refine sxo_assign rfl rfl rfl ?_
          refine sxo_nil ?_
          refine sxq_blkN ?_
          exact sxq_againP (x6352, (a6353, c6354)) (lk_cons rfl (lk_cons rfl (lk_cons rfl lk_nil))) (.cons 0 rfl .nil) (.cons 0 rfl .nil) (fk_cons 0 rfl fk_nil)
    · refine sxc_exit ?_
      refine sxq_thenX ?_
      refine sxq_thenX ?_
      refine sxq_blkX ?_
      exact sxq_meetP (x4622, (a4620, c4621)) (lk_cons rfl lk_nil) .nil (.cons 0 rfl .nil) fk_nil
  · rintro ⟨x3467, ⟨a3465, c3466⟩⟩
    try dsimp only
    refine sxc_seq ?_
    refine sxc_region ?_
    refine sxo_move rfl rfl rfl ?_
    refine sxo_assign rfl rfl rfl ?_
    refine sxo_assign rfl rfl rfl ?_
    refine sxo_nil ?_
    refine sxq_next ?_
    refine sxc_ret ?_
    exact sxq_doneP (a3465, c3466) (.inl rfl) (res2 rfl rfl rfl) (fun h => by subst h; rfl) (fun h => by subst h; exact (.cons 0 rfl .nil))

theorem C_R_SameInts (F : Nat) (x1 : List Int) (a2 : Option Addr) (c3 : Nat) (x4 : List Int) (a5 : Option Addr) (c6 : Nat) (r : Bool) (hm : M_R_SameInts F x1 x4 = some r) :
    Pure Try.prog 19 [.slice a2 x1.length c3, .slice a5 x4.length c6] [Sl (eI .i64) 1 (.slice a2 x1.length c3) x1, Sl (eI .i64) 1 (.slice a5 x4.length c6) x4] Unit (fun _ => .bool r) (fun _ => []) (fun _ => []) := by
  refine pure_of Try.func19 rfl Try.ntmps19 rfl hm (fun w => ?_)
  refine sxc_env (l' := [(0, .slice a2 x1.length c3), (1, .slice a5 x4.length c6)]) rfl ?_
  refine sxc_seq ?_
  refine sxc_region ?_
  refine sxo_assign rfl rfl rfl ?_
  refine sxo_nil ?_
  refine sxq_next ?_
  refine sxc_seq ?_
  refine sxc_seq ?_
  refine sxc_region ?_
  refine sxo_move rfl rfl rfl ?_
  refine sxo_len rfl Try.underlying25 rfl rfl ?_
  refine sxo_move rfl rfl rfl ?_
  refine sxo_len rfl Try.underlying25 rfl rfl ?_
  refine sxo_neq rfl rfl rfl rfl ?_
  refine sxo_nil ?_
  refine sxq_next ?_
  refine sxc_if rfl (fun h228 => ?_) (fun h228 => ?_)
  · refine sxc_seq ?_
    refine sxc_region ?_
    refine sxo_assign rfl rfl rfl ?_
    refine sxo_nil ?_
    refine sxq_next ?_
    refine sxc_ret ?_
    refine sxq_thenR ?_
    exact sxq_doneP () (.inl rfl) (res1 rfl rfl) (fun h => by subst h; rfl) (fun h => by subst h; exact .nil)
  · refine sxc_skip ?_
    refine sxq_next ?_
    refine sxc_join (fun ((_, _) : (Unit × Unit)) => []) (fun ((_, _) : (Unit × Unit)) => []) (fun ((_, _) : (Unit × Unit)) => []) (fun ((_, _) : (Unit × Unit)) => []) (fun ((_, _) : (Unit × Unit)) => M_R_SameInts_j2 F) ?_ ?_
    · refine sxc_seq ?_
      refine sxc_region ?_
      refine sxo_assign rfl rfl rfl ?_
      refine sxo_nil ?_
      refine sxq_next ?_
      refine sxc_block ?_
      refine sxc_loopP (fun ((x154, _) : (Int × Unit)) => [(0, .slice a2 x1.length c3), (1, .slice a5 x4.length c6), (5, .int .i64 x154)]) (fun ((x154, _) : (Int × Unit)) => []) (fun ((x154, _) : (Int × Unit)) => []) (fun ((x154, _) : (Int × Unit)) => [Sl (eI .i64) 1 (.slice a2 x1.length c3) x1, Sl (eI .i64) 1 (.slice a5 x4.length c6) x4]) (fun k (s : (Int × Unit)) => M_R_SameInts_l3 F x1 x4 k s.1) (0, ()) F (lk_cons rfl (lk_cons rfl (lk_cons rfl lk_nil))) .nil .nil (fk_cons 0 rfl (fk_cons 1 rfl fk_nil)) (fun _ => rfl) ?_
      intro k191
      rintro ⟨x154, _⟩
      try dsimp only
      refine sxc_meq (m' := M_R_SameInts_b3 F x1 x4 (M_R_SameInts_l3 F x1 x4 k191) x154) rfl ?_
      refine sxc_seq ?_
      refine sxc_seq ?_
      refine sxc_region ?_
      refine sxo_move rfl rfl rfl ?_
      refine sxo_move rfl rfl rfl ?_
      refine sxo_len rfl Try.underlying25 rfl rfl ?_
      refine sxo_lss rfl rfl rfl rfl ?_
      refine sxo_nil ?_
      refine sxq_next ?_
      refine sxc_if rfl (fun h227 => ?_) (fun h227 => ?_)
      · refine sxc_skip ?_
        refine sxq_next ?_
        refine sxc_seq ?_
        refine sxc_block ?_
        refine sxc_seq ?_
        refine sxc_idxF (j := 0) (eI_ok .i64) (by decide) rfl (fun x218 e218 b219 o220 h221 => ?_)
        replace h221 : a2 = some ⟨b219, o220, none⟩ := h221
        refine sxc_idxF (j := 2) (eI_ok .i64) (by decide) rfl (fun x222 e222 b223 o224 h225 => ?_)
        replace h225 : a5 = some ⟨b223, o224, none⟩ := h225
        refine sxb_draw mixed [] [] [CellsAt b223 (o224 + x154.toNat * 1) ((eI .i64) x222), CellsAt b219 (o220 + x154.toNat * 1) ((eI .i64) x218), Sl (eI .i64) 1 (.slice a2 x1.length c3) x1, Sl (eI .i64) 1 (.slice a5 x4.length c6) x4] .nil (gk_F 0 rfl (gk_F 1 rfl (gk_F 2 rfl (gk_F 3 rfl gk_nil)))) 9 rfl ?_
        refine sxb_takeP 0 (.slice a2 x1.length c3) rfl rfl rfl rfl (by kernel_rfl) (by kernel_rfl) (by kernel_rfl) (by kernel_rfl) (by kernel_rfl) rfl (show _ = #[true, false, false, false, false, false, false, false, false] from rfl) (yv_pv rfl) ?_
        refine sxb_takeP 1 (.int .i64 x154) rfl rfl rfl rfl (by kernel_rfl) (by kernel_rfl) (by kernel_rfl) (by kernel_rfl) (by kernel_rfl) rfl (show _ = #[true, true, false, false, false, false, false, false, false] from rfl) (yv_pv rfl) ?_
        refine sxb_again (d := 17) (v := .slice (some ⟨b219, o220, none⟩) x1.length c3) rfl (by rw [h221] <;> rfl) ?_
        refine sxb_takeP 2 (.pointer (some ⟨b219, (o220 + x154.toNat * 1), none⟩)) rfl rfl rfl rfl (by kernel_rfl) (by kernel_rfl) (by kernel_rfl) (by kernel_rfl) (by kernel_rfl) rfl (show _ = #[true, true, true, false, false, false, false, false, false] from rfl) (yv_idx Try.underlying25 tf3 rfl rfl (idx_get e218).1 (idx_lt e218)) ?_
        refine sxb_again (d := 17) (v := .slice a2 x1.length c3) rfl (by rw [h221] <;> rfl) ?_
        refine sxb_take 3 (.int .i64 x218) [] rfl rfl rfl rfl (by kernel_rfl) (by kernel_rfl) (by kernel_rfl) (by kernel_rfl) (by kernel_rfl) (by kernel_rfl) rfl (show _ = #[true, true, true, true, false, false, false, false, false] from rfl) (yv_loadF (j := 1) rfl tf3 rfl rfl (fun _ => rfl) rfl) ?_
        refine sxb_takeP 4 (.slice a5 x4.length c6) rfl rfl rfl rfl (by kernel_rfl) (by kernel_rfl) (by kernel_rfl) (by kernel_rfl) (by kernel_rfl) rfl (show _ = #[true, true, true, true, true, false, false, false, false] from rfl) (yv_pv rfl) ?_
        refine sxb_takeP 5 (.int .i64 x154) rfl rfl rfl rfl (by kernel_rfl) (by kernel_rfl) (by kernel_rfl) (by kernel_rfl) (by kernel_rfl) rfl (show _ = #[true, true, true, true, true, true, false, false, false] from rfl) (yv_pv rfl) ?_
        refine sxb_again (d := 21) (v := .slice (some ⟨b223, o224, none⟩) x4.length c6) rfl (by rw [h225] <;> rfl) ?_
        refine sxb_takeP 6 (.pointer (some ⟨b223, (o224 + x154.toNat * 1), none⟩)) rfl rfl rfl rfl (by kernel_rfl) (by kernel_rfl) (by kernel_rfl) (by kernel_rfl) (by kernel_rfl) rfl (show _ = #[true, true, true, true, true, true, true, false, false] from rfl) (yv_idx Try.underlying25 tf3 rfl rfl (idx_get e222).1 (idx_lt e222)) ?_
        refine sxb_again (d := 21) (v := .slice a5 x4.length c6) rfl (by rw [h225] <;> rfl) ?_
        refine sxb_take 7 (.int .i64 x222) [] rfl rfl rfl rfl (by kernel_rfl) (by kernel_rfl) (by kernel_rfl) (by kernel_rfl) (by kernel_rfl) (by kernel_rfl) rfl (show _ = #[true, true, true, true, true, true, true, true, false] from rfl) (yv_loadF (j := 0) rfl tf3 rfl rfl (fun _ => rfl) rfl) ?_
        refine sxb_takeP 8 (.bool ((x218 : Int) != x222)) rfl rfl rfl rfl (by kernel_rfl) (by kernel_rfl) (by kernel_rfl) (by kernel_rfl) (by kernel_rfl) rfl (show _ = #[true, true, true, true, true, true, true, true, true] from rfl) (yv_pv rfl) ?_
        refine sxb_done (by kernel_rfl) ?_
        refine sxq_np ?_ (by intro c h; cases h)
        refine sxq_next ?_
        refine sxc_if rfl (fun h226 => ?_) (fun h226 => ?_)
        · refine sxc_seq ?_
          refine sxc_region ?_
          refine sxo_assign rfl rfl rfl ?_
          refine sxo_nil ?_
          refine sxq_next ?_
          refine sxc_ret ?_
          refine sxq_blkR ?_
          refine sxq_thenR ?_
          refine sxq_thenR ?_
          refine sxq_blkR ?_
          refine sxq_thenR ?_
          exact sxq_doneP () (.inl rfl) (res1 rfl rfl) (fun h => by subst h; rfl) (fun h => by subst h; exact .nil)
        · refine sxc_skip ?_
          refine sxq_blkN ?_
          refine sxq_next ?_
          refine sxc_region ?_
          refine sxo_move rfl rfl rfl ?_
          refine sxo_add rfl rfl rfl rfl ?_
          refine sxo_assign rfl rfl rfl ?_
          refine sxo_nil ?_
          exact sxq_againP (iadd .i64 x154 1, ()) (lk_cons rfl (lk_cons rfl (lk_cons rfl lk_nil))) .nil .nil (fk_cons 2 rfl (fk_cons 3 rfl fk_nil))
      · refine sxc_exit ?_
        refine sxq_thenX ?_
        refine sxq_thenX ?_
        refine sxq_blkX ?_
        exact sxq_meetP ((), ()) lk_nil .nil .nil fk_nil
    · rintro ⟨_, _⟩
      try dsimp only
      refine sxc_seq ?_
      refine sxc_region ?_
      refine sxo_assign rfl rfl rfl ?_
      refine sxo_nil ?_
      refine sxq_next ?_
      refine sxc_ret ?_
      exact sxq_doneP () (.inl rfl) (res1 rfl rfl) (fun h => by subst h; rfl) (fun h => by subst h; exact .nil)

theorem C_L_someGraph (F : Nat)  (r : List (List Int)) (hm : M_L_someGraph F  = some r) :
    Pure Try.prog 42 [] [] (Option Addr × (Nat × List (Option Addr × Nat))) (fun g => .agg #[.slice g.1 r.length g.2.1]) (fun g => [RoN eN25 rN25 25 1 (.slice g.1 r.length g.2.1) r g.2.2 []]) (fun _ => []) := by
  refine pure_of Try.func42 rfl Try.ntmps42 rfl hm (fun w => ?_)
  refine sxc_env (l' := []) rfl ?_
  refine sxc_seq ?_
  refine sxc_region ?_
  refine sxo_alloc rfl tf24 rfl (fun g1 => ?_)
  refine sxo_nil ?_
  refine sxq_next ?_
  refine sxc_seq ?_
  refine sxc_region ?_
  refine sxo_slit (vs := [.int .i64 1, .int .i64 2, .int .i64 3, .int .i64 5]) (ys := ([1, 2, 3, 5] : List Int)) (eI_ok .i64) (by decide) rfl Try.underlying25 tf3 rfl rfl rfl rfl rfl (by decide) (fun a2 c3 => ?_)
  refine sxo_slit (vs := [.int .i64 1, .int .i64 2, .int .i64 3, .int .i64 5]) (ys := ([1, 2, 3, 5] : List Int)) (eI_ok .i64) (by decide) rfl Try.underlying25 tf3 rfl rfl rfl rfl rfl (by decide) (fun a4 c5 => ?_)
  refine sxo_slit (vs := [.int .i64 0, .int .i64 1, .int .i64 2, .int .i64 3, .int .i64 5]) (ys := ([0, 1, 2, 3, 5] : List Int)) (eI_ok .i64) (by decide) rfl Try.underlying25 tf3 rfl rfl rfl rfl rfl (by decide) (fun a6 c7 => ?_)
  refine sxo_slit (vs := [.int .i64 4]) (ys := ([4] : List Int)) (eI_ok .i64) (by decide) rfl Try.underlying25 tf3 rfl rfl rfl rfl rfl (by decide) (fun a8 c9 => ?_)
  refine sxo_slit (vs := [.int .i64 1, .int .i64 2, .int .i64 3]) (ys := ([1, 2, 3] : List Int)) (eI_ok .i64) (by decide) rfl Try.underlying25 tf3 rfl rfl rfl rfl rfl (by decide) (fun a10 c11 => ?_)
  refine sxo_nilrow' Int (eI .i64) 3 1 ?_
  refine sxo_slit (vs := [.slice a2 ([1, 2, 3, 5] : List Int).length c3, .slice a4 ([1, 2, 3, 5] : List Int).length c5, .slice a6 ([0, 1, 2, 3, 5] : List Int).length c7, .slice none ([] : List Int).length 0, .slice a8 ([4] : List Int).length c9, .slice a10 ([1, 2, 3] : List Int).length c11]) (ys := ([(([1, 2, 3, 5] : List Int), (a2, c3)), (([1, 2, 3, 5] : List Int), (a4, c5)), (([0, 1, 2, 3, 5] : List Int), (a6, c7)), (([] : List Int), (none, 0)), (([4] : List Int), (a8, c9)), (([1, 2, 3] : List Int), (a10, c11))] : List (List Int × (Option Addr × Nat)))) eN25_ok (by decide) rfl Try.underlying22 tf25 rfl rfl rfl rfl rfl (by decide) (fun a12 c13 => ?_)
  refine sxo_nestOf (rin := rN25) (i := 0) ([([1, 2, 3, 5] : List Int), ([1, 2, 3, 5] : List Int), ([0, 1, 2, 3, 5] : List Int), ([] : List Int), ([4] : List Int), ([1, 2, 3] : List Int)] : List (List Int)) ([(a2, c3), (a4, c5), (a6, c7), (none, 0), (a8, c9), (a10, c11)] : List (Option Addr × Nat)) rfl rfl (.cons 5 rfl (.cons 4 rfl (.cons 3 rfl (.cons 0 rfl (.cons 1 rfl (.cons 0 rfl .nil)))))) ?_
  refine sxo_build (cells := [.slice a12 ([([1, 2, 3, 5] : List Int), ([1, 2, 3, 5] : List Int), ([0, 1, 2, 3, 5] : List Int), ([] : List Int), ([4] : List Int), ([1, 2, 3] : List Int)] : List (List Int)).length c13]) rfl st24 rfl (by kernel_rfl) rfl ?_
  refine sxo_storeB (i := 0) rfl rfl rfl tf24 rfl rfl rfl rfl rfl ?_
  refine sxo_nil ?_
  refine sxq_next ?_
  refine sxc_ret ?_
  exact sxq_doneP (a12, (c13, ([(a2, c3), (a4, c5), (a6, c7), (none, 0), (a8, c9), (a10, c11)] : List (Option Addr × Nat)))) (.inl rfl) (resL (rs := [.cell 0 24]) rfl (.cell (i := 0) rfl tf24 rfl rfl (by simp) rfl ResOk.nil) rfl) (fun h => by subst h; rfl) (fun h => by subst h; exact (.cons 0 rfl .nil))

theorem C_R_SameLists (F : Nat) (x1 : List (List Int)) (a2 : Option Addr) (c3 : (Nat × List (Option Addr × Nat))) (x4 : List (List Int)) (a5 : Option Addr) (c6 : (Nat × List (Option Addr × Nat))) (r : Bool) (hm : M_R_SameLists F x1 x4 = some r) :
    Pure Try.prog 43 [.slice a2 x1.length c3.1, .slice a5 x4.length c6.1] [SlN eN25 iN25 1 (.slice a2 x1.length c3.1) x1 c3.2, SlN eN25 iN25 1 (.slice a5 x4.length c6.1) x4 c6.2] Unit (fun _ => .bool r) (fun _ => []) (fun _ => []) := by
  refine pure_of Try.func43 rfl Try.ntmps43 rfl hm (fun w => ?_)
  refine sxc_env (l' := [(0, .slice a2 x1.length c3.1), (1, .slice a5 x4.length c6.1)]) rfl ?_
  refine sxc_seq ?_
  refine sxc_region ?_
  refine sxo_assign rfl rfl rfl ?_
  refine sxo_nil ?_
  refine sxq_next ?_
  refine sxc_seq ?_
  refine sxc_seq ?_
  refine sxc_region ?_
  refine sxo_move rfl rfl rfl ?_
  refine sxo_len rfl Try.underlying22 rfl rfl ?_
  refine sxo_move rfl rfl rfl ?_
  refine sxo_len rfl Try.underlying22 rfl rfl ?_
  refine sxo_neq rfl rfl rfl rfl ?_
  refine sxo_nil ?_
  refine sxq_next ?_
  refine sxc_if rfl (fun h300 => ?_) (fun h300 => ?_)
  · refine sxc_seq ?_
    refine sxc_region ?_
    refine sxo_assign rfl rfl rfl ?_
    refine sxo_nil ?_
    refine sxq_next ?_
    refine sxc_ret ?_
    refine sxq_thenR ?_
    exact sxq_doneP () (.inl rfl) (res1 rfl rfl) (fun h => by subst h; rfl) (fun h => by subst h; exact .nil)
  · refine sxc_skip ?_
    refine sxq_next ?_
    refine sxc_join (fun ((_, _) : (Unit × Unit)) => []) (fun ((_, _) : (Unit × Unit)) => []) (fun ((_, _) : (Unit × Unit)) => []) (fun ((_, _) : (Unit × Unit)) => []) (fun ((_, _) : (Unit × Unit)) => M_R_SameLists_j2 F) ?_ ?_
    · refine sxc_seq ?_
      refine sxc_region ?_
      refine sxo_assign rfl rfl rfl ?_
      refine sxo_nil ?_
      refine sxq_next ?_
      refine sxc_block ?_
      refine sxc_loopP (fun ((x202, _) : (Int × Unit)) => [(0, .slice a2 x1.length c3.1), (1, .slice a5 x4.length c6.1), (5, .int .i64 x202)]) (fun ((x202, _) : (Int × Unit)) => []) (fun ((x202, _) : (Int × Unit)) => []) (fun ((x202, _) : (Int × Unit)) => [SlN eN25 iN25 1 (.slice a2 x1.length c3.1) x1 c3.2, SlN eN25 iN25 1 (.slice a5 x4.length c6.1) x4 c6.2]) (fun k (s : (Int × Unit)) => M_R_SameLists_l3 F x1 x4 k s.1) (0, ()) F (lk_cons rfl (lk_cons rfl (lk_cons rfl lk_nil))) .nil .nil (fk_cons 0 rfl (fk_cons 1 rfl fk_nil)) (fun _ => rfl) ?_
      intro k251
      rintro ⟨x202, _⟩
      try dsimp only
      refine sxc_meq (m' := M_R_SameLists_b3 F x1 x4 (M_R_SameLists_l3 F x1 x4 k251) x202) rfl ?_
      refine sxc_seq ?_
      refine sxc_seq ?_
      refine sxc_region ?_
      refine sxo_move rfl rfl rfl ?_
      refine sxo_move rfl rfl rfl ?_
      refine sxo_len rfl Try.underlying22 rfl rfl ?_
      refine sxo_lss rfl rfl rfl rfl ?_
      refine sxo_nil ?_
      refine sxq_next ?_
      refine sxc_if rfl (fun h299 => ?_) (fun h299 => ?_)
      · refine sxc_skip ?_
        refine sxq_next ?_
        refine sxc_seq ?_
        refine sxc_block ?_
        refine sxc_seq ?_
        refine sxc_idxN (j := 0) eN25_ok (by decide) rfl (fun x287 e287 g291 b288 o289 h290 => ?_)
        replace h290 : a2 = some ⟨b288, o289, none⟩ := h290
        refine sxc_idxN (j := 3) eN25_ok (by decide) rfl (fun x292 e292 g296 b293 o294 h295 => ?_)
        replace h295 : a5 = some ⟨b293, o294, none⟩ := h295
        refine sxb_draw mixed [] [] [CellsAt b293 (o294 + x202.toNat * 1) (eN25 (x292, g296)), Sl (eI .i64) 1 (.slice g296.1 x292.length g296.2) x292, CellsAt b288 (o289 + x202.toNat * 1) (eN25 (x287, g291)), Sl (eI .i64) 1 (.slice g291.1 x287.length g291.2) x287, SlN eN25 iN25 1 (.slice a2 x1.length c3.1) x1 c3.2, SlN eN25 iN25 1 (.slice a5 x4.length c6.1) x4 c6.2] .nil (gk_F 0 rfl (gk_F 1 rfl (gk_F 2 rfl (gk_F 3 rfl (gk_F 4 rfl (gk_F 5 rfl gk_nil)))))) 10 rfl ?_
        refine sxb_takeP 0 (.slice a2 x1.length c3.1) rfl rfl rfl rfl (by kernel_rfl) (by kernel_rfl) (by kernel_rfl) (by kernel_rfl) (by kernel_rfl) rfl (show _ = #[true, false, false, false, false, false, false, false, false, false] from rfl) (yv_pv rfl) ?_
        refine sxb_takeP 1 (.int .i64 x202) rfl rfl rfl rfl (by kernel_rfl) (by kernel_rfl) (by kernel_rfl) (by kernel_rfl) (by kernel_rfl) rfl (show _ = #[true, true, false, false, false, false, false, false, false, false] from rfl) (yv_pv rfl) ?_
        refine sxb_again (d := 17) (v := .slice (some ⟨b288, o289, none⟩) x1.length c3.1) rfl (by rw [h290] <;> rfl) ?_
        refine sxb_takeP 2 (.pointer (some ⟨b288, (o289 + x202.toNat * 1), none⟩)) rfl rfl rfl rfl (by kernel_rfl) (by kernel_rfl) (by kernel_rfl) (by kernel_rfl) (by kernel_rfl) rfl (show _ = #[true, true, true, false, false, false, false, false, false, false] from rfl) (yv_idx Try.underlying22 tf25 rfl rfl (idx_get e287).1 (idx_lt e287)) ?_
        refine sxb_again (d := 17) (v := .slice a2 x1.length c3.1) rfl (by rw [h290] <;> rfl) ?_
        refine sxb_take 3 (.slice g291.1 x287.length g291.2) [] rfl rfl rfl rfl (by kernel_rfl) (by kernel_rfl) (by kernel_rfl) (by kernel_rfl) (by kernel_rfl) (by kernel_rfl) rfl (show _ = #[true, true, true, true, false, false, false, false, false, false] from rfl) (yv_loadF (j := 2) rfl tf25 rfl rfl (fun _ => rfl) rfl) ?_
        refine sxb_takeP 4 (.slice a5 x4.length c6.1) rfl rfl rfl rfl (by kernel_rfl) (by kernel_rfl) (by kernel_rfl) (by kernel_rfl) (by kernel_rfl) rfl (show _ = #[true, true, true, true, true, false, false, false, false, false] from rfl) (yv_pv rfl) ?_
        refine sxb_takeP 5 (.int .i64 x202) rfl rfl rfl rfl (by kernel_rfl) (by kernel_rfl) (by kernel_rfl) (by kernel_rfl) (by kernel_rfl) rfl (show _ = #[true, true, true, true, true, true, false, false, false, false] from rfl) (yv_pv rfl) ?_
        refine sxb_again (d := 21) (v := .slice (some ⟨b293, o294, none⟩) x4.length c6.1) rfl (by rw [h295] <;> rfl) ?_
        refine sxb_takeP 6 (.pointer (some ⟨b293, (o294 + x202.toNat * 1), none⟩)) rfl rfl rfl rfl (by kernel_rfl) (by kernel_rfl) (by kernel_rfl) (by kernel_rfl) (by kernel_rfl) rfl (show _ = #[true, true, true, true, true, true, true, false, false, false] from rfl) (yv_idx Try.underlying22 tf25 rfl rfl (idx_get e292).1 (idx_lt e292)) ?_
        refine sxb_again (d := 21) (v := .slice a5 x4.length c6.1) rfl (by rw [h295] <;> rfl) ?_
        refine sxb_take 7 (.slice g296.1 x292.length g296.2) [] rfl rfl rfl rfl (by kernel_rfl) (by kernel_rfl) (by kernel_rfl) (by kernel_rfl) (by kernel_rfl) (by kernel_rfl) rfl (show _ = #[true, true, true, true, true, true, true, true, false, false] from rfl) (yv_loadF (j := 0) rfl tf25 rfl rfl (fun _ => rfl) rfl) ?_
        refine sxb_step 8 rfl (by kernel_rfl) (show _ = #[true, true, true, true, true, true, true, true, true, false] from rfl) ?_
        refine sxo_call ent19 rfl rfl rfl (fun x297 e297 => C_R_SameInts F x287 g291.1 g291.2 x292 g296.1 g296.2 x297 e297) (.consF 3 rfl (.consF 1 rfl .nil)) (fun x297 e297 => ?_)
        intro _
        refine sxo_nil ?_
        refine sxq_anyB .nil (gk_F 0 rfl (gk_F 1 rfl (gk_F 2 rfl (gk_F 3 rfl (gk_F 4 rfl (gk_F 5 rfl gk_nil)))))) ?_
        refine sxb_takeP 9 (.bool (!x297)) rfl rfl rfl rfl (by kernel_rfl) (by kernel_rfl) (by kernel_rfl) (by kernel_rfl) (by kernel_rfl) rfl (show _ = #[true, true, true, true, true, true, true, true, true, true] from rfl) (yv_pv rfl) ?_
        refine sxb_done (by kernel_rfl) ?_
        refine sxq_np ?_ (by intro c h; cases h)
        refine sxq_next ?_
        refine sxc_if rfl (fun h298 => ?_) (fun h298 => ?_)
        · refine sxc_seq ?_
          refine sxc_region ?_
          refine sxo_assign rfl rfl rfl ?_
          refine sxo_nil ?_
          refine sxq_next ?_
          refine sxc_ret ?_
          refine sxq_blkR ?_
          refine sxq_thenR ?_
          refine sxq_thenR ?_
          refine sxq_blkR ?_
          refine sxq_thenR ?_
          exact sxq_doneP () (.inl rfl) (res1 rfl rfl) (fun h => by subst h; rfl) (fun h => by subst h; exact .nil)
        · refine sxc_skip ?_
          refine sxq_blkN ?_
          refine sxq_next ?_
          refine sxc_region ?_
          refine sxo_move rfl rfl rfl ?_
          refine sxo_add rfl rfl rfl rfl ?_
          refine sxo_assign rfl rfl rfl ?_
          refine sxo_nil ?_
          exact sxq_againP (iadd .i64 x202 1, ()) (lk_cons rfl (lk_cons rfl (lk_cons rfl lk_nil))) .nil .nil (fk_cons 4 rfl (fk_cons 5 rfl fk_nil))
      · refine sxc_exit ?_
        refine sxq_thenX ?_
        refine sxq_thenX ?_
        refine sxq_blkX ?_
        exact sxq_meetP ((), ()) lk_nil .nil .nil fk_nil
    · rintro ⟨_, _⟩
      try dsimp only
      refine sxc_seq ?_
      refine sxc_region ?_
      refine sxo_assign rfl rfl rfl ?_
      refine sxo_nil ?_
      refine sxq_next ?_
      refine sxc_ret ?_
      exact sxq_doneP () (.inl rfl) (res1 rfl rfl) (fun h => by subst h; rfl) (fun h => by subst h; exact .nil)

set_option maxHeartbeats 4000000 in
theorem C_L_strongBegun (F : Nat)  (r : Bool) (hm : M_L_strongBegun F  = some r) :
    Pure Try.prog 18 [] [] Unit (fun _ => .bool r) (fun _ => []) (fun _ => []) := by
  refine pure_of Try.func18 rfl Try.ntmps18 rfl hm (fun w => ?_)
  refine sxc_env (l' := []) rfl ?_
  refine sxc_seq ?_
  refine sxc_region ?_
  refine sxo_assign rfl rfl rfl ?_
  refine sxo_nil ?_
  refine sxq_next ?_
  refine sxc_seq ?_
  refine sxc_region ?_
  refine sxo_call ent42 rfl rfl rfl (fun x1 e1 => C_L_someGraph F  x1 e1) .nil (fun x1 e1 => ?_)
  rintro ⟨a2, c3⟩
  refine sxo_call ent11 rfl rfl rfl (fun x4 e4 => C_strong_Parts F x1 a2 c3 x4 e4) (.consG 0 rfl (nest_sl rN25_in) .nil) (fun x4 e4 => ?_)
  rintro ⟨a5, c6⟩
  refine sxo_move rfl rfl rfl ?_
  refine sxo_extract rfl rfl rfl rfl ?_
  refine sxo_extract rfl rfl rfl rfl ?_
  refine sxo_assign rfl rfl rfl ?_
  refine sxo_assign rfl rfl rfl ?_
  refine sxo_nil ?_
  refine sxq_next ?_
  refine sxc_seq ?_
  refine sxc_region ?_
  refine sxo_slit (vs := [.int .i64 0]) (ys := ([0] : List Int)) (eI_ok .i64) (by decide) rfl Try.underlying25 tf3 rfl rfl rfl rfl rfl (by decide) (fun a7 c8 => ?_)
  refine sxo_slit (vs := [.int .i64 0, .int .i64 1]) (ys := ([0, 1] : List Int)) (eI_ok .i64) (by decide) rfl Try.underlying25 tf3 rfl rfl rfl rfl rfl (by decide) (fun a9 c10 => ?_)
  refine sxo_nilrow' Int (eI .i64) 3 1 ?_
  refine sxo_freeze 0 rfl ?_
  refine sxo_freeze 1 rfl ?_
  refine sxo_freeze 0 rfl ?_
  refine sxo_slit (vs := [.slice none 0 0, .slice a7 ([0] : List Int).length c8, .slice a9 ([0, 1] : List Int).length c10]) (ys := ([(([] : List Int), (none, 0)), (([0] : List Int), (a7, c8)), (([0, 1] : List Int), (a9, c10))] : List (List Int × (Option Addr × Nat)))) eN25_ok (by decide) rfl Try.underlying22 tf25 rfl rfl rfl rfl rfl (by decide) (fun a11 c12 => ?_)
  refine sxo_nestF (inn := iN25) ([([] : List Int), ([0] : List Int), ([0, 1] : List Int)] : List (List Int)) ([(none, 0), (a7, c8), (a9, c10)] : List (Option Addr × Nat)) 0 rfl rfl (fk_cons 2 rfl (fk_cons 1 rfl (fk_cons 0 rfl fk_nil))) ?_
  refine sxo_build (cells := [.slice a11 ([([] : List Int), ([0] : List Int), ([0, 1] : List Int)] : List (List Int)).length c12]) rfl st24 rfl (by kernel_rfl) rfl ?_
  refine sxo_call ent12 rfl rfl rfl (fun x13 e13 => C_strong_Order F ([([] : List Int), ([0] : List Int), ([0, 1] : List Int)] : List (List Int)) a11 (c12, ([(none, 0), (a7, c8), (a9, c10)] : List (Option Addr × Nat))) x13 e13) (.consF 0 rfl .nil) (fun x13 e13 => ?_)
  rintro ⟨a14, c15⟩
  refine sxo_move rfl rfl rfl ?_
  refine sxo_extract rfl rfl rfl rfl ?_
  refine sxo_extract rfl rfl rfl rfl ?_
  refine sxo_assign rfl rfl rfl ?_
  refine sxo_assign rfl rfl rfl ?_
  refine sxo_nil ?_
  refine sxq_next ?_
  refine sxc_seq ?_
  refine sxc_region ?_
  refine sxo_call ent42 rfl rfl rfl (fun x16 e16 => C_L_someGraph F  x16 e16) .nil (fun x16 e16 => ?_)
  rintro ⟨a17, c18⟩
  refine sxo_callM ent13 rfl rfl rfl (fun x19 e19 => C_strong_Shrink F x16 a17 c18 x19 e19) .nil .nil (.consG 0 rfl (nest_sl rN25_in) .nil) (fun x19 e19 => ?_)
  rintro ⟨⟨a20, c21⟩, ⟨a22, c23⟩⟩
  refine sxo_move rfl rfl rfl ?_
  refine sxo_extract rfl rfl rfl rfl ?_
  refine sxo_extract rfl rfl rfl rfl ?_
  refine sxo_extract rfl rfl rfl rfl ?_
  refine sxo_alloc rfl tf24 rfl (fun g24 => ?_)
  refine sxo_storeB (i := 0) rfl rfl rfl tf24 rfl rfl rfl rfl rfl ?_
  refine sxo_assign rfl rfl rfl ?_
  refine sxo_assign rfl rfl rfl ?_
  refine sxo_nil ?_
  refine sxq_next ?_
  refine sxc_seq ?_
  refine sxc_region ?_
  refine sxo_call ent42 rfl rfl rfl (fun x25 e25 => C_L_someGraph F  x25 e25) .nil (fun x25 e25 => ?_)
  rintro ⟨a26, c27⟩
  refine sxo_call ent12 rfl rfl rfl (fun x28 e28 => C_strong_Order F x25 a26 c27 x28 e28) (.consG 0 rfl (nest_sl rN25_in) .nil) (fun x28 e28 => ?_)
  rintro ⟨a29, c30⟩
  refine sxo_move rfl rfl rfl ?_
  refine sxo_extract rfl rfl rfl rfl ?_
  refine sxo_extract rfl rfl rfl rfl ?_
  refine sxo_assign rfl rfl rfl ?_
  refine sxo_assign rfl rfl rfl ?_
  refine sxo_nil ?_
  refine sxq_next ?_
  refine sxc_seq ?_
  refine sxc_region ?_
  refine sxo_move rfl rfl rfl ?_
  refine sxo_slit (vs := [.int .i64 0, .int .i64 0, .int .i64 0, .int .i64 3, .int .i64 4, .int .i64 0]) (ys := ([0, 0, 0, 3, 4, 0] : List Int)) (eI_ok .i64) (by decide) rfl Try.underlying25 tf3 rfl rfl rfl rfl rfl (by decide) (fun a31 c32 => ?_)
  refine sxo_call ent19 rfl rfl rfl (fun x33 e33 => C_R_SameInts F x4.1 a5 c6 ([0, 0, 0, 3, 4, 0] : List Int) a31 c32 x33 e33) (.consR 7 (Ro (eI .i64) 3 1 (.slice a5 x4.1.length c6) x4.1) rfl (.consR 0 (Ro (eI .i64) 3 1 (.slice a31 ([0, 0, 0, 3, 4, 0] : List Int).length c32) ([0, 0, 0, 3, 4, 0] : List Int)) rfl .nil)) (fun x33 e33 => ?_)
  intro _
  refine sxo_move rfl rfl rfl ?_
  refine sxo_case 3 x33 [(3, .slice a14 x13.1.length c15), (4, .int .i64 x13.2), (5, .pointer (some ⟨g24, 0, none⟩)), (6, .slice a22 x19.2.1.length c23), (7, .int .i64 x19.2.2), (9, .int .i64 x28.2), (40, .bool (x33 && ((x4.2 : Int) == 0)))] (fun h34 => ?_) (fun h34 => ?_) ?_
  · refine sxo_take (os := _) rfl ?_
    refine sxo_isT (k := 37) rfl h34 ?_
    refine sxo_move rfl rfl rfl ?_
    refine sxo_eql rfl rfl rfl rfl ?_
    refine sxo_pick (b := true) rfl rfl rfl rfl ?_
    refine sxo_again (d := 40) (v := .bool (x33 && ((x4.2 : Int) == 0))) rfl (by rw [h34]; simp only [Bool.true_and]) ?_
    refine sxo_nil ?_
    exact sxq_case (lk_cons rfl (lk_cons rfl (lk_cons rfl (lk_cons rfl (lk_cons rfl (lk_cons rfl (lk_cons rfl lk_nil)))))))
  · refine sxo_take (os := _) rfl ?_
    refine sxo_isF (k := 37) rfl h34 ?_
    refine sxo_skip rfl rfl rfl ?_
    refine sxo_skip rfl rfl rfl ?_
    refine sxo_pick (b := false) rfl rfl rfl rfl ?_
    refine sxo_again (d := 40) (v := .bool (x33 && ((x4.2 : Int) == 0))) rfl (by rw [h34]; simp only [Bool.false_and]) ?_
    refine sxo_nil ?_
    exact sxq_case (lk_cons rfl (lk_cons rfl (lk_cons rfl (lk_cons rfl (lk_cons rfl (lk_cons rfl (lk_cons rfl lk_nil)))))))
  refine sxo_take (os := _) rfl ?_
  refine sxo_move rfl rfl rfl ?_
  refine sxo_join 4 (fun ((x39, _) : (Bool × Unit)) => [(4, .int .i64 x13.2), (5, .pointer (some ⟨g24, 0, none⟩)), (6, .slice a22 x19.2.1.length c23), (7, .int .i64 x19.2.2), (9, .int .i64 x28.2), (45, .bool x39)]) (fun ((x39, _) : (Bool × Unit)) => [⟨g24, 24, [.slice a20 x19.1.length c21.1]⟩]) (fun ((x39, _) : (Bool × Unit)) => [Ro (eI .i64) 3 1 (.slice a22 x19.2.1.length c23) x19.2.1, RoN eN25 rN25 25 1 (.slice a20 x19.1.length c21.1) x19.1 c21.2 []]) (fun ((x39, _) : (Bool × Unit)) => []) (fun ((x39, _) : (Bool × Unit)) => M_L_strongBegun_j1 F x13 x19 x28 x39) ?_ ?_
  · refine sxo_take (os := _) rfl ?_
    refine sxo_if (fun h35 => ?_) (fun h35 => ?_)
    · refine sxo_isT (k := 41) rfl h35 ?_
      refine sxo_move rfl rfl rfl ?_
      refine sxo_slit (vs := [.int .i64 2, .int .i64 1, .int .i64 0]) (ys := ([2, 1, 0] : List Int)) (eI_ok .i64) (by decide) rfl Try.underlying25 tf3 rfl rfl rfl rfl rfl (by decide) (fun a63 c64 => ?_)
      refine sxo_call ent19 rfl rfl rfl (fun x65 e65 => C_R_SameInts F x13.1 a14 c15 ([2, 1, 0] : List Int) a63 c64 x65 e65) (.consR 7 (Ro (eI .i64) 3 1 (.slice a14 x13.1.length c15) x13.1) rfl (.consR 0 (Ro (eI .i64) 3 1 (.slice a63 ([2, 1, 0] : List Int).length c64) ([2, 1, 0] : List Int)) rfl .nil)) (fun x65 e65 => ?_)
      intro _
      refine sxo_pick (b := true) rfl rfl rfl rfl ?_
      refine sxo_nil ?_
      exact sxq_meetP (x65, ()) (lk_cons rfl (lk_cons rfl (lk_cons rfl (lk_cons rfl (lk_cons rfl (lk_cons rfl lk_nil)))))) (.cons 0 rfl .nil) (.cons 5 rfl (.cons 4 rfl .nil)) fk_nil
    · refine sxo_isF (k := 41) rfl h35 ?_
      refine sxo_skip rfl rfl rfl ?_
      refine sxo_skip rfl rfl rfl ?_
      refine sxo_skip rfl rfl rfl ?_
      refine sxo_pick (b := false) rfl rfl rfl rfl ?_
      refine sxo_nil ?_
      exact sxq_meetP (false, ()) (lk_cons rfl (lk_cons rfl (lk_cons rfl (lk_cons rfl (lk_cons rfl (lk_cons rfl lk_nil)))))) (.cons 0 rfl .nil) (.cons 4 rfl (.cons 3 rfl .nil)) fk_nil
  · rintro ⟨x39, _⟩
    try dsimp only
    refine sxo_take (os := _) rfl ?_
    refine sxo_move rfl rfl rfl ?_
    refine sxo_case 3 x39 [(5, .pointer (some ⟨g24, 0, none⟩)), (6, .slice a22 x19.2.1.length c23), (7, .int .i64 x19.2.2), (9, .int .i64 x28.2), (49, .bool (x39 && ((x13.2 : Int) == 0)))] (fun h40 => ?_) (fun h40 => ?_) ?_
    · refine sxo_take (os := _) rfl ?_
      refine sxo_isT (k := 46) rfl h40 ?_
      refine sxo_move rfl rfl rfl ?_
      refine sxo_eql rfl rfl rfl rfl ?_
      refine sxo_pick (b := true) rfl rfl rfl rfl ?_
      refine sxo_again (d := 49) (v := .bool (x39 && ((x13.2 : Int) == 0))) rfl (by rw [h40]; simp only [Bool.true_and]) ?_
      refine sxo_nil ?_
      exact sxq_case (lk_cons rfl (lk_cons rfl (lk_cons rfl (lk_cons rfl (lk_cons rfl lk_nil)))))
    · refine sxo_take (os := _) rfl ?_
      refine sxo_isF (k := 46) rfl h40 ?_
      refine sxo_skip rfl rfl rfl ?_
      refine sxo_skip rfl rfl rfl ?_
      refine sxo_pick (b := false) rfl rfl rfl rfl ?_
      refine sxo_again (d := 49) (v := .bool (x39 && ((x13.2 : Int) == 0))) rfl (by rw [h40]; simp only [Bool.false_and]) ?_
      refine sxo_nil ?_
      exact sxq_case (lk_cons rfl (lk_cons rfl (lk_cons rfl (lk_cons rfl (lk_cons rfl lk_nil)))))
    refine sxo_take (os := _) rfl ?_
    refine sxo_move rfl rfl rfl ?_
    refine sxo_join 6 (fun ((x47, _) : (Bool × Unit)) => [(6, .slice a22 x19.2.1.length c23), (7, .int .i64 x19.2.2), (9, .int .i64 x28.2), (56, .bool x47)]) (fun ((x47, _) : (Bool × Unit)) => []) (fun ((x47, _) : (Bool × Unit)) => [Ro (eI .i64) 3 1 (.slice a22 x19.2.1.length c23) x19.2.1]) (fun ((x47, _) : (Bool × Unit)) => []) (fun ((x47, _) : (Bool × Unit)) => M_L_strongBegun_j2 F x19 x28 x47) ?_ ?_
    · refine sxo_take (os := _) rfl ?_
      refine sxo_if (fun h41 => ?_) (fun h41 => ?_)
      · refine sxo_isT (k := 50) rfl h41 ?_
        refine sxo_fieldAddr rfl rfl ff24_0 rfl ?_
        refine sxo_loadB (i := 0) rfl rfl tf22 rfl rfl (fun _ => rfl) rfl rfl ?_
        refine sxo_slit (vs := [.int .i64 1]) (ys := ([1] : List Int)) (eI_ok .i64) (by decide) rfl Try.underlying25 tf3 rfl rfl rfl rfl rfl (by decide) (fun a58 c59 => ?_)
        refine sxo_freeze 0 rfl ?_
        refine sxo_nilrow' Int (eI .i64) 3 1 ?_
        refine sxo_freeze 0 rfl ?_
        refine sxo_nilrow' Int (eI .i64) 3 1 ?_
        refine sxo_slit (vs := [.slice a58 ([1] : List Int).length c59, .slice none 0 0, .slice none 0 0]) (ys := ([(([1] : List Int), (a58, c59)), (([] : List Int), (none, 0)), (([] : List Int), (none, 0))] : List (List Int × (Option Addr × Nat)))) eN25_ok (by decide) rfl Try.underlying22 tf25 rfl rfl rfl rfl rfl (by decide) (fun a60 c61 => ?_)
        refine sxo_nestF (inn := iN25) ([([1] : List Int), ([] : List Int), ([] : List Int)] : List (List Int)) ([(a58, c59), (none, 0), (none, 0)] : List (Option Addr × Nat)) 0 rfl rfl (fk_cons 1 rfl (fk_cons 0 rfl (fk_cons 0 rfl fk_nil))) ?_
        refine sxo_call ent43 rfl rfl rfl (fun x62 e62 => C_R_SameLists F x19.1 a20 c21 ([([1] : List Int), ([] : List Int), ([] : List Int)] : List (List Int)) a60 (c61, ([(a58, c59), (none, 0), (none, 0)] : List (Option Addr × Nat))) x62 e62) (.consG 2 rfl (nest_sl rN25_in) (.consF 0 rfl .nil)) (fun x62 e62 => ?_)
        intro _
        refine sxo_pick (b := true) rfl rfl rfl rfl ?_
        refine sxo_nil ?_
        exact sxq_meetP (x62, ()) (lk_cons rfl (lk_cons rfl (lk_cons rfl (lk_cons rfl lk_nil)))) .nil (.cons 1 rfl .nil) fk_nil
      · refine sxo_isF (k := 50) rfl h41 ?_
        refine sxo_skip rfl rfl rfl ?_
        refine sxo_skip rfl rfl rfl ?_
        refine sxo_skip rfl rfl rfl ?_
        refine sxo_skip rfl rfl rfl ?_
        refine sxo_skip rfl rfl rfl ?_
        refine sxo_pick (b := false) rfl rfl rfl rfl ?_
        refine sxo_nil ?_
        exact sxq_meetP (false, ()) (lk_cons rfl (lk_cons rfl (lk_cons rfl (lk_cons rfl lk_nil)))) .nil (.cons 0 rfl .nil) fk_nil
    · rintro ⟨x47, _⟩
      try dsimp only
      refine sxo_take (os := _) rfl ?_
      refine sxo_move rfl rfl rfl ?_
      refine sxo_join 4 (fun ((x52, _) : (Bool × Unit)) => [(7, .int .i64 x19.2.2), (9, .int .i64 x28.2), (61, .bool x52)]) (fun ((x52, _) : (Bool × Unit)) => []) (fun ((x52, _) : (Bool × Unit)) => []) (fun ((x52, _) : (Bool × Unit)) => []) (fun ((x52, _) : (Bool × Unit)) => M_L_strongBegun_j3 F x19 x28 x52) ?_ ?_
      · refine sxo_take (os := _) rfl ?_
        refine sxo_if (fun h48 => ?_) (fun h48 => ?_)
        · refine sxo_isT (k := 57) rfl h48 ?_
          refine sxo_move rfl rfl rfl ?_
          refine sxo_slit (vs := [.int .i64 0, .int .i64 0, .int .i64 0, .int .i64 1, .int .i64 2, .int .i64 0]) (ys := ([0, 0, 0, 1, 2, 0] : List Int)) (eI_ok .i64) (by decide) rfl Try.underlying25 tf3 rfl rfl rfl rfl rfl (by decide) (fun a55 c56 => ?_)
          refine sxo_call ent19 rfl rfl rfl (fun x57 e57 => C_R_SameInts F x19.2.1 a22 c23 ([0, 0, 0, 1, 2, 0] : List Int) a55 c56 x57 e57) (.consR 1 (Ro (eI .i64) 3 1 (.slice a22 x19.2.1.length c23) x19.2.1) rfl (.consR 0 (Ro (eI .i64) 3 1 (.slice a55 ([0, 0, 0, 1, 2, 0] : List Int).length c56) ([0, 0, 0, 1, 2, 0] : List Int)) rfl .nil)) (fun x57 e57 => ?_)
          intro _
          refine sxo_pick (b := true) rfl rfl rfl rfl ?_
          refine sxo_nil ?_
          exact sxq_meetP (x57, ()) (lk_cons rfl (lk_cons rfl (lk_cons rfl lk_nil))) .nil .nil fk_nil
        · refine sxo_isF (k := 57) rfl h48 ?_
          refine sxo_skip rfl rfl rfl ?_
          refine sxo_skip rfl rfl rfl ?_
          refine sxo_skip rfl rfl rfl ?_
          refine sxo_pick (b := false) rfl rfl rfl rfl ?_
          refine sxo_nil ?_
          exact sxq_meetP (false, ()) (lk_cons rfl (lk_cons rfl (lk_cons rfl lk_nil))) .nil .nil fk_nil
      · rintro ⟨x52, _⟩
        try dsimp only
        refine sxo_take (os := _) rfl ?_
        refine sxo_move rfl rfl rfl ?_
        refine sxo_case 3 x52 [(9, .int .i64 x28.2), (65, .bool (x52 && ((x19.2.2 : Int) == 0)))] (fun h53 => ?_) (fun h53 => ?_) ?_
        · refine sxo_take (os := _) rfl ?_
          refine sxo_isT (k := 62) rfl h53 ?_
          refine sxo_move rfl rfl rfl ?_
          refine sxo_eql rfl rfl rfl rfl ?_
          refine sxo_pick (b := true) rfl rfl rfl rfl ?_
          refine sxo_again (d := 65) (v := .bool (x52 && ((x19.2.2 : Int) == 0))) rfl (by rw [h53]; simp only [Bool.true_and]) ?_
          refine sxo_nil ?_
          exact sxq_case (lk_cons rfl (lk_cons rfl lk_nil))
        · refine sxo_take (os := _) rfl ?_
          refine sxo_isF (k := 62) rfl h53 ?_
          refine sxo_skip rfl rfl rfl ?_
          refine sxo_skip rfl rfl rfl ?_
          refine sxo_pick (b := false) rfl rfl rfl rfl ?_
          refine sxo_again (d := 65) (v := .bool (x52 && ((x19.2.2 : Int) == 0))) rfl (by rw [h53]; simp only [Bool.false_and]) ?_
          refine sxo_nil ?_
          exact sxq_case (lk_cons rfl (lk_cons rfl lk_nil))
        refine sxo_take (os := _) rfl ?_
        refine sxo_move rfl rfl rfl ?_
        refine sxo_case 3 (x52 && ((x19.2.2 : Int) == 0)) [(69, .bool ((x52 && ((x19.2.2 : Int) == 0)) && ((x28.2 : Int) == 4)))] (fun h54 => ?_) (fun h54 => ?_) ?_
        · refine sxo_take (os := _) rfl ?_
          refine sxo_isT (k := 66) rfl h54 ?_
          refine sxo_move rfl rfl rfl ?_
          refine sxo_eql rfl rfl rfl rfl ?_
          refine sxo_pick (b := true) rfl rfl rfl rfl ?_
          refine sxo_again (d := 69) (v := .bool ((x52 && ((x19.2.2 : Int) == 0)) && ((x28.2 : Int) == 4))) rfl (by rw [h54]; simp only [Bool.true_and]) ?_
          refine sxo_nil ?_
          exact sxq_case (lk_cons rfl lk_nil)
        · refine sxo_take (os := _) rfl ?_
          refine sxo_isF (k := 66) rfl h54 ?_
          refine sxo_skip rfl rfl rfl ?_
          refine sxo_skip rfl rfl rfl ?_
          refine sxo_pick (b := false) rfl rfl rfl rfl ?_
          refine sxo_again (d := 69) (v := .bool ((x52 && ((x19.2.2 : Int) == 0)) && ((x28.2 : Int) == 4))) rfl (by rw [h54]; simp only [Bool.false_and]) ?_
          refine sxo_nil ?_
          exact sxq_case (lk_cons rfl lk_nil)
        refine sxo_take (os := _) rfl ?_
        refine sxo_assign rfl rfl rfl ?_
        refine sxo_nil ?_
        refine sxq_next ?_
        refine sxc_ret ?_
        exact sxq_doneP () (.inl rfl) (res1 rfl rfl) (fun h => by subst h; rfl) (fun h => by subst h; exact .nil)

theorem C_R_SameGraph (F : Nat) (x1 : List (List Int)) (a2 : Option Addr) (c3 : (Nat × List (Option Addr × Nat))) (x4 : List (List Int)) (a5 : Option Addr) (c6 : (Nat × List (Option Addr × Nat))) (r : Bool) (hm : M_R_SameGraph F x1 x4 = some r) :
    Pure Try.prog 20 [.agg #[.slice a2 x1.length c3.1], .agg #[.slice a5 x4.length c6.1]] [SlN eN25 iN25 1 (.slice a2 x1.length c3.1) x1 c3.2, SlN eN25 iN25 1 (.slice a5 x4.length c6.1) x4 c6.2] Unit (fun _ => .bool r) (fun _ => []) (fun _ => []) := by
  refine pure_of Try.func20 rfl Try.ntmps20 rfl hm (fun w => ?_)
  refine sxc_env (l' := [(0, .agg #[.slice a2 x1.length c3.1]), (1, .agg #[.slice a5 x4.length c6.1])]) rfl ?_
  refine sxc_seq ?_
  refine sxc_region ?_
  refine sxo_box rfl rfl rfl (fun g7 => ?_)
  refine sxo_box rfl rfl rfl (fun g8 => ?_)
  refine sxo_assign rfl rfl rfl ?_
  refine sxo_nil ?_
  refine sxq_next ?_
  refine sxc_seq ?_
  refine sxc_region ?_
  refine sxo_fieldAddr rfl rfl ff24_0 rfl ?_
  refine sxo_loadB (i := 1) rfl rfl tf22 rfl rfl (fun _ => rfl) rfl rfl ?_
  refine sxo_fieldAddr rfl rfl ff24_0 rfl ?_
  refine sxo_loadB (i := 0) rfl rfl tf22 rfl rfl (fun _ => rfl) rfl rfl ?_
  refine sxo_call ent43 rfl rfl rfl (fun x9 e9 => C_R_SameLists F x1 a2 c3 x4 a5 c6 x9 e9) (.consF 0 rfl (.consF 1 rfl .nil)) (fun x9 e9 => ?_)
  intro _
  refine sxo_assign rfl rfl rfl ?_
  refine sxo_nil ?_
  refine sxq_next ?_
  refine sxc_ret ?_
  exact sxq_doneP () (.inl rfl) (res1 rfl rfl) (fun h => by subst h; rfl) (fun h => by subst h; exact .nil)

set_option maxHeartbeats 4000000 in
theorem C_L_StrongTells (F : Nat) (x1 : List (List Int)) (a2 : Option Addr) (c3 : (Nat × List (Option Addr × Nat))) (r : Bool) (hm : M_L_StrongTells F x1 = some r) :
    Pure Try.prog 3 [.agg #[.slice a2 x1.length c3.1]] [SlN eN25 iN25 1 (.slice a2 x1.length c3.1) x1 c3.2] Unit (fun _ => .bool r) (fun _ => []) (fun _ => []) := by
  refine pure_of Try.func3 rfl Try.ntmps3 rfl hm (fun w => ?_)
  refine sxc_env (l' := [(0, .agg #[.slice a2 x1.length c3.1])]) rfl ?_
  refine sxc_seq ?_
  refine sxc_region ?_
  refine sxo_box rfl rfl rfl (fun g4 => ?_)
  refine sxo_assign rfl rfl rfl ?_
  refine sxo_nil ?_
  refine sxq_next ?_
  refine sxc_seq ?_
  refine sxc_region ?_
  refine sxo_loadB (i := 0) rfl rfl tf24 rfl rfl (by simp) rfl rfl ?_
  refine sxo_call ent11 rfl rfl rfl (fun x5 e5 => C_strong_Parts F x1 a2 c3 x5 e5) (.consF 0 rfl .nil) (fun x5 e5 => ?_)
  rintro ⟨a6, c7⟩
  refine sxo_move rfl rfl rfl ?_
  refine sxo_extract rfl rfl rfl rfl ?_
  refine sxo_extract rfl rfl rfl rfl ?_
  refine sxo_assign rfl rfl rfl ?_
  refine sxo_assign rfl rfl rfl ?_
  refine sxo_nil ?_
  refine sxq_next ?_
  refine sxc_seq ?_
  refine sxc_region ?_
  refine sxo_loadB (i := 0) rfl rfl tf24 rfl rfl (by simp) rfl rfl ?_
  refine sxo_call ent12 rfl rfl rfl (fun x8 e8 => C_strong_Order F x1 a2 c3 x8 e8) (.consF 0 rfl .nil) (fun x8 e8 => ?_)
  rintro ⟨a9, c10⟩
  refine sxo_move rfl rfl rfl ?_
  refine sxo_extract rfl rfl rfl rfl ?_
  refine sxo_extract rfl rfl rfl rfl ?_
  refine sxo_assign rfl rfl rfl ?_
  refine sxo_assign rfl rfl rfl ?_
  refine sxo_nil ?_
  refine sxq_next ?_
  refine sxc_seq ?_
  refine sxc_region ?_
  refine sxo_loadB (i := 0) rfl rfl tf24 rfl rfl (by simp) rfl rfl ?_
  refine sxo_callM ent13 rfl rfl rfl (fun x11 e11 => C_strong_Shrink F x1 a2 c3 x11 e11) .nil .nil (.consF 0 rfl .nil) (fun x11 e11 => ?_)
  rintro ⟨⟨a12, c13⟩, ⟨a14, c15⟩⟩
  refine sxo_move rfl rfl rfl ?_
  refine sxo_extract rfl rfl rfl rfl ?_
  refine sxo_extract rfl rfl rfl rfl ?_
  refine sxo_extract rfl rfl rfl rfl ?_
  refine sxo_alloc rfl tf24 rfl (fun g16 => ?_)
  refine sxo_storeB (i := 0) rfl rfl rfl tf24 rfl rfl rfl rfl rfl ?_
  refine sxo_assign rfl rfl rfl ?_
  refine sxo_assign rfl rfl rfl ?_
  refine sxo_nil ?_
  refine sxq_next ?_
  refine sxc_seq ?_
  refine sxc_region ?_
  refine sxo_loadB (i := 1) rfl rfl tf24 rfl rfl (by simp) rfl rfl ?_
  refine sxo_call ent14 rfl rfl rfl (fun x17 e17 => C_R_GraphCheck F x1 a2 c3 x17 e17) (.consF 0 rfl .nil) (fun x17 e17 => ?_)
  intro _
  refine sxo_assign rfl rfl rfl ?_
  refine sxo_nil ?_
  refine sxq_next ?_
  refine sxc_seq ?_
  refine sxc_region ?_
  refine sxo_move rfl rfl rfl ?_
  refine sxo_assign rfl rfl rfl ?_
  refine sxo_nil ?_
  refine sxq_next ?_
  refine sxc_seq ?_
  refine sxc_region ?_
  refine sxo_assign rfl rfl rfl ?_
  refine sxo_assign rfl rfl rfl ?_
  refine sxo_assign rfl rfl rfl ?_
  refine sxo_nil ?_
  refine sxq_next ?_
  refine sxc_seq ?_
  refine sxc_region ?_
  refine sxo_alloc rfl tf24 rfl (fun g18 => ?_)
  refine sxo_nil ?_
  refine sxq_next ?_
  refine sxc_join (fun (((x54, x57, x60, x63, x66), (a55, c56, a58, c59, a61, c62, a64, c65)) : ((Int × List Int × List Int × List Int × List (List Int)) × (Option Addr × Nat × Option Addr × Nat × Option Addr × Nat × Option Addr × (Nat × List (Option Addr × Nat))))) => [(3, .slice a6 x5.1.length c7), (4, .int .i64 x5.2), (5, .slice a9 x8.1.length c10), (6, .int .i64 x8.2), (7, .pointer (some ⟨g16, 0, none⟩)), (8, .slice a14 x11.2.1.length c15), (9, .int .i64 x11.2.2), (10, .int .i64 x17), (11, .int .i64 x54), (12, .slice a55 x57.length c56), (13, .slice a58 x60.length c59), (14, .slice a61 x63.length c62), (15, .pointer (some ⟨g18, 0, none⟩))]) (fun (((x54, x57, x60, x63, x66), (a55, c56, a58, c59, a61, c62, a64, c65)) : ((Int × List Int × List Int × List Int × List (List Int)) × (Option Addr × Nat × Option Addr × Nat × Option Addr × Nat × Option Addr × (Nat × List (Option Addr × Nat))))) => [⟨g18, 24, [.slice a64 x66.length c65.1]⟩, ⟨g16, 24, [.slice a12 x11.1.length c13.1]⟩]) (fun (((x54, x57, x60, x63, x66), (a55, c56, a58, c59, a61, c62, a64, c65)) : ((Int × List Int × List Int × List Int × List (List Int)) × (Option Addr × Nat × Option Addr × Nat × Option Addr × Nat × Option Addr × (Nat × List (Option Addr × Nat))))) => [Ro (eI .i64) 3 1 (.slice a6 x5.1.length c7) x5.1, Ro (eI .i64) 3 1 (.slice a9 x8.1.length c10) x8.1, Ro (eI .i64) 3 1 (.slice a14 x11.2.1.length c15) x11.2.1, Ro (eI .i64) 3 1 (.slice a55 x57.length c56) x57, Ro (eI .i64) 3 1 (.slice a58 x60.length c59) x60, Ro (eI .i64) 3 1 (.slice a61 x63.length c62) x63, RoN eN25 rN25 25 1 (.slice a64 x66.length c65.1) x66 c65.2 [], RoN eN25 rN25 25 1 (.slice a12 x11.1.length c13.1) x11.1 c13.2 []]) (fun (((x54, x57, x60, x63, x66), (a55, c56, a58, c59, a61, c62, a64, c65)) : ((Int × List Int × List Int × List Int × List (List Int)) × (Option Addr × Nat × Option Addr × Nat × Option Addr × Nat × Option Addr × (Nat × List (Option Addr × Nat))))) => []) (fun (((x54, x57, x60, x63, x66), _) : ((Int × List Int × List Int × List Int × List (List Int)) × (Option Addr × Nat × Option Addr × Nat × Option Addr × Nat × Option Addr × (Nat × List (Option Addr × Nat))))) => M_L_StrongTells_j1 F x5 x8 x11 x17 x54 x57 x60 x63 x66) ?_ ?_
  · refine sxc_seq ?_
    refine sxc_region ?_
    refine sxo_move rfl rfl rfl ?_
    refine sxo_eql rfl rfl rfl rfl ?_
    refine sxo_nil ?_
    refine sxq_next ?_
    refine sxc_if rfl (fun h99 => ?_) (fun h99 => ?_)
    · refine sxc_seq ?_
      refine sxc_region ?_
      refine sxo_loadB (i := 2) rfl rfl tf24 rfl rfl (by simp) rfl rfl ?_
      refine sxo_call ent15 rfl rfl rfl (fun x87 e87 => C_R_StrongParts F x1 a2 c3 x87 e87) (.consF 0 rfl .nil) (fun x87 e87 => ?_)
      rintro ⟨a88, c89⟩
      refine sxo_assign rfl rfl rfl ?_
      refine sxo_nil ?_
      refine sxq_next ?_
      refine sxc_seq ?_
      refine sxc_region ?_
      refine sxo_loadB (i := 2) rfl rfl tf24 rfl rfl (by simp) rfl rfl ?_
      refine sxo_call ent16 rfl rfl rfl (fun x90 e90 => C_R_StrongShrink F x1 a2 c3 x90 e90) (.consF 0 rfl .nil) (fun x90 e90 => ?_)
      rintro ⟨⟨a91, c92⟩, ⟨a93, c94⟩⟩
      refine sxo_move rfl rfl rfl ?_
      refine sxo_extract rfl rfl rfl rfl ?_
      refine sxo_extract rfl rfl rfl rfl ?_
      refine sxo_storeB (i := 0) rfl rfl rfl tf24 rfl rfl rfl rfl rfl ?_
      refine sxo_assign rfl rfl rfl ?_
      refine sxo_nil ?_
      refine sxq_next ?_
      refine sxc_seq ?_
      refine sxc_region ?_
      refine sxo_loadB (i := 2) rfl rfl tf24 rfl rfl (by simp) rfl rfl ?_
      refine sxo_call ent17 rfl rfl rfl (fun x95 e95 => C_R_StrongOrder F x1 a2 c3 x95 e95) (.consF 0 rfl .nil) (fun x95 e95 => ?_)
      rintro ⟨a96, c97⟩
      refine sxo_move rfl rfl rfl ?_
      refine sxo_extract rfl rfl rfl rfl ?_
      refine sxo_extract rfl rfl rfl rfl ?_
      refine sxo_assign rfl rfl rfl ?_
      refine sxo_assign rfl rfl rfl ?_
      refine sxo_nil ?_
      refine sxq_next ?_
      refine sxc_seq ?_
      refine sxc_region ?_
      refine sxo_move rfl rfl rfl ?_
      refine sxo_assign rfl rfl rfl ?_
      refine sxo_nil ?_
      refine sxq_next ?_
      refine sxc_seq ?_
      refine sxc_region ?_
      refine sxo_move rfl rfl rfl ?_
      refine sxo_not rfl rfl rfl ?_
      refine sxo_nil ?_
      refine sxq_next ?_
      refine sxc_if rfl (fun h98 => ?_) (fun h98 => ?_)
      · refine sxc_region ?_
        refine sxo_assign rfl rfl rfl ?_
        refine sxo_nil ?_
        exact sxq_meetP ((4, x87, x95.1, x90.2, x90.1), (a88, c89, a96, c97, a93, c94, a91, c92)) (lk_cons rfl (lk_cons rfl (lk_cons rfl (lk_cons rfl (lk_cons rfl (lk_cons rfl (lk_cons rfl (lk_cons rfl (lk_cons rfl (lk_cons rfl (lk_cons rfl (lk_cons rfl (lk_cons rfl lk_nil))))))))))))) (.cons 0 rfl (.cons 0 rfl .nil)) (.cons 7 rfl (.cons 6 rfl (.cons 5 rfl (.cons 3 rfl (.cons 0 rfl (.cons 1 rfl (.cons 0 rfl (.cons 0 rfl .nil)))))))) fk_nil
      · refine sxc_skip ?_
        exact sxq_meetP ((x17, x87, x95.1, x90.2, x90.1), (a88, c89, a96, c97, a93, c94, a91, c92)) (lk_cons rfl (lk_cons rfl (lk_cons rfl (lk_cons rfl (lk_cons rfl (lk_cons rfl (lk_cons rfl (lk_cons rfl (lk_cons rfl (lk_cons rfl (lk_cons rfl (lk_cons rfl (lk_cons rfl lk_nil))))))))))))) (.cons 0 rfl (.cons 0 rfl .nil)) (.cons 7 rfl (.cons 6 rfl (.cons 5 rfl (.cons 3 rfl (.cons 0 rfl (.cons 1 rfl (.cons 0 rfl (.cons 0 rfl .nil)))))))) fk_nil
    · refine sxc_skip ?_
      refine sxq_nilrow Int (eI .i64) 3 1 ?_
      refine sxq_nilrow Int (eI .i64) 3 1 ?_
      refine sxq_nilrow Int (eI .i64) 3 1 ?_
      refine sxq_nilN (List Int) (Option Addr × Nat) eN25 rN25 25 1 ?_
      exact sxq_meetP ((x17, ([] : List Int), ([] : List Int), ([] : List Int), ([] : List (List Int))), (none, 0, none, 0, none, 0, none, (0, ([] : List (Option Addr × Nat))))) (lk_cons rfl (lk_cons rfl (lk_cons rfl (lk_cons rfl (lk_cons rfl (lk_cons rfl (lk_cons rfl (lk_cons rfl (lk_cons rfl (lk_cons rfl (lk_cons rfl (lk_cons rfl (lk_cons rfl lk_nil))))))))))))) (.cons 0 rfl (.cons 0 rfl .nil)) (.cons 7 rfl (.cons 6 rfl (.cons 5 rfl (.cons 1 rfl (.cons 1 rfl (.cons 1 rfl (.cons 0 rfl (.cons 0 rfl .nil)))))))) fk_nil
  · rintro ⟨⟨x54, x57, x60, x63, x66⟩, ⟨a55, c56, a58, c59, a61, c62, a64, c65⟩⟩
    try dsimp only
    refine sxc_seq ?_
    refine sxc_region ?_
    refine sxo_call ent18 rfl rfl rfl (fun x67 e67 => C_L_strongBegun F  x67 e67) .nil (fun x67 e67 => ?_)
    intro _
    refine sxo_move rfl rfl rfl ?_
    refine sxo_join 4 (fun ((x70, _) : (Bool × Unit)) => [(4, .int .i64 x5.2), (5, .slice a9 x8.1.length c10), (6, .int .i64 x8.2), (7, .pointer (some ⟨g16, 0, none⟩)), (8, .slice a14 x11.2.1.length c15), (9, .int .i64 x11.2.2), (10, .int .i64 x17), (11, .int .i64 x54), (13, .slice a58 x60.length c59), (14, .slice a61 x63.length c62), (15, .pointer (some ⟨g18, 0, none⟩)), (59, .bool x70)]) (fun ((x70, _) : (Bool × Unit)) => [⟨g18, 24, [.slice a64 x66.length c65.1]⟩, ⟨g16, 24, [.slice a12 x11.1.length c13.1]⟩]) (fun ((x70, _) : (Bool × Unit)) => [Ro (eI .i64) 3 1 (.slice a9 x8.1.length c10) x8.1, Ro (eI .i64) 3 1 (.slice a14 x11.2.1.length c15) x11.2.1, Ro (eI .i64) 3 1 (.slice a58 x60.length c59) x60, Ro (eI .i64) 3 1 (.slice a61 x63.length c62) x63, RoN eN25 rN25 25 1 (.slice a64 x66.length c65.1) x66 c65.2 [], RoN eN25 rN25 25 1 (.slice a12 x11.1.length c13.1) x11.1 c13.2 []]) (fun ((x70, _) : (Bool × Unit)) => []) (fun ((x70, _) : (Bool × Unit)) => M_L_StrongTells_j2 F x5 x8 x11 x17 x54 x60 x63 x66 x70) ?_ ?_
    · refine sxo_take (os := _) rfl ?_
      refine sxo_if (fun h68 => ?_) (fun h68 => ?_)
      · refine sxo_isT (k := 55) rfl h68 ?_
        refine sxo_move rfl rfl rfl ?_
        refine sxo_move rfl rfl rfl ?_
        refine sxo_call ent19 rfl rfl rfl (fun x86 e86 => C_R_SameInts F x5.1 a6 c7 x57 a55 c56 x86 e86) (.consR 0 (Ro (eI .i64) 3 1 (.slice a6 x5.1.length c7) x5.1) rfl (.consR 3 (Ro (eI .i64) 3 1 (.slice a55 x57.length c56) x57) rfl .nil)) (fun x86 e86 => ?_)
        intro _
        refine sxo_pick (b := true) rfl rfl rfl rfl ?_
        refine sxo_nil ?_
        exact sxq_meetP (x86, ()) (lk_cons rfl (lk_cons rfl (lk_cons rfl (lk_cons rfl (lk_cons rfl (lk_cons rfl (lk_cons rfl (lk_cons rfl (lk_cons rfl (lk_cons rfl (lk_cons rfl (lk_cons rfl lk_nil)))))))))))) (.cons 0 rfl (.cons 0 rfl .nil)) (.cons 1 rfl (.cons 1 rfl (.cons 2 rfl (.cons 2 rfl (.cons 2 rfl (.cons 2 rfl .nil)))))) fk_nil
      · refine sxo_isF (k := 55) rfl h68 ?_
        refine sxo_skip rfl rfl rfl ?_
        refine sxo_skip rfl rfl rfl ?_
        refine sxo_skip rfl rfl rfl ?_
        refine sxo_pick (b := false) rfl rfl rfl rfl ?_
        refine sxo_nil ?_
        exact sxq_meetP (false, ()) (lk_cons rfl (lk_cons rfl (lk_cons rfl (lk_cons rfl (lk_cons rfl (lk_cons rfl (lk_cons rfl (lk_cons rfl (lk_cons rfl (lk_cons rfl (lk_cons rfl (lk_cons rfl lk_nil)))))))))))) (.cons 0 rfl (.cons 0 rfl .nil)) (.cons 1 rfl (.cons 1 rfl (.cons 2 rfl (.cons 2 rfl (.cons 2 rfl (.cons 2 rfl .nil)))))) fk_nil
    · rintro ⟨x70, _⟩
      try dsimp only
      refine sxo_take (os := _) rfl ?_
      refine sxo_move rfl rfl rfl ?_
      refine sxo_case 4 x70 [(5, .slice a9 x8.1.length c10), (6, .int .i64 x8.2), (7, .pointer (some ⟨g16, 0, none⟩)), (8, .slice a14 x11.2.1.length c15), (9, .int .i64 x11.2.2), (10, .int .i64 x17), (11, .int .i64 x54), (13, .slice a58 x60.length c59), (14, .slice a61 x63.length c62), (15, .pointer (some ⟨g18, 0, none⟩)), (64, .bool (x70 && ((x5.2 : Int) == x17)))] (fun h71 => ?_) (fun h71 => ?_) ?_
      · refine sxo_take (os := _) rfl ?_
        refine sxo_isT (k := 60) rfl h71 ?_
        refine sxo_move rfl rfl rfl ?_
        refine sxo_move rfl rfl rfl ?_
        refine sxo_eql rfl rfl rfl rfl ?_
        refine sxo_pick (b := true) rfl rfl rfl rfl ?_
        refine sxo_again (d := 64) (v := .bool (x70 && ((x5.2 : Int) == x17))) rfl (by rw [h71]; simp only [Bool.true_and]) ?_
        refine sxo_nil ?_
        exact sxq_case (lk_cons rfl (lk_cons rfl (lk_cons rfl (lk_cons rfl (lk_cons rfl (lk_cons rfl (lk_cons rfl (lk_cons rfl (lk_cons rfl (lk_cons rfl (lk_cons rfl lk_nil)))))))))))
      · refine sxo_take (os := _) rfl ?_
        refine sxo_isF (k := 60) rfl h71 ?_
        refine sxo_skip rfl rfl rfl ?_
        refine sxo_skip rfl rfl rfl ?_
        refine sxo_skip rfl rfl rfl ?_
        refine sxo_pick (b := false) rfl rfl rfl rfl ?_
        refine sxo_again (d := 64) (v := .bool (x70 && ((x5.2 : Int) == x17))) rfl (by rw [h71]; simp only [Bool.false_and]) ?_
        refine sxo_nil ?_
        exact sxq_case (lk_cons rfl (lk_cons rfl (lk_cons rfl (lk_cons rfl (lk_cons rfl (lk_cons rfl (lk_cons rfl (lk_cons rfl (lk_cons rfl (lk_cons rfl (lk_cons rfl lk_nil)))))))))))
      refine sxo_take (os := _) rfl ?_
      refine sxo_move rfl rfl rfl ?_
      refine sxo_join 4 (fun ((x74, _) : (Bool × Unit)) => [(6, .int .i64 x8.2), (7, .pointer (some ⟨g16, 0, none⟩)), (8, .slice a14 x11.2.1.length c15), (9, .int .i64 x11.2.2), (10, .int .i64 x17), (11, .int .i64 x54), (14, .slice a61 x63.length c62), (15, .pointer (some ⟨g18, 0, none⟩)), (69, .bool x74)]) (fun ((x74, _) : (Bool × Unit)) => [⟨g18, 24, [.slice a64 x66.length c65.1]⟩, ⟨g16, 24, [.slice a12 x11.1.length c13.1]⟩]) (fun ((x74, _) : (Bool × Unit)) => [Ro (eI .i64) 3 1 (.slice a14 x11.2.1.length c15) x11.2.1, Ro (eI .i64) 3 1 (.slice a61 x63.length c62) x63, RoN eN25 rN25 25 1 (.slice a64 x66.length c65.1) x66 c65.2 [], RoN eN25 rN25 25 1 (.slice a12 x11.1.length c13.1) x11.1 c13.2 []]) (fun ((x74, _) : (Bool × Unit)) => []) (fun ((x74, _) : (Bool × Unit)) => M_L_StrongTells_j3 F x8 x11 x17 x54 x63 x66 x74) ?_ ?_
      · refine sxo_take (os := _) rfl ?_
        refine sxo_if (fun h72 => ?_) (fun h72 => ?_)
        · refine sxo_isT (k := 65) rfl h72 ?_
          refine sxo_move rfl rfl rfl ?_
          refine sxo_move rfl rfl rfl ?_
          refine sxo_call ent19 rfl rfl rfl (fun x85 e85 => C_R_SameInts F x8.1 a9 c10 x60 a58 c59 x85 e85) (.consR 0 (Ro (eI .i64) 3 1 (.slice a9 x8.1.length c10) x8.1) rfl (.consR 2 (Ro (eI .i64) 3 1 (.slice a58 x60.length c59) x60) rfl .nil)) (fun x85 e85 => ?_)
          intro _
          refine sxo_pick (b := true) rfl rfl rfl rfl ?_
          refine sxo_nil ?_
          exact sxq_meetP (x85, ()) (lk_cons rfl (lk_cons rfl (lk_cons rfl (lk_cons rfl (lk_cons rfl (lk_cons rfl (lk_cons rfl (lk_cons rfl (lk_cons rfl lk_nil))))))))) (.cons 0 rfl (.cons 0 rfl .nil)) (.cons 1 rfl (.cons 2 rfl (.cons 2 rfl (.cons 2 rfl .nil)))) fk_nil
        · refine sxo_isF (k := 65) rfl h72 ?_
          refine sxo_skip rfl rfl rfl ?_
          refine sxo_skip rfl rfl rfl ?_
          refine sxo_skip rfl rfl rfl ?_
          refine sxo_pick (b := false) rfl rfl rfl rfl ?_
          refine sxo_nil ?_
          exact sxq_meetP (false, ()) (lk_cons rfl (lk_cons rfl (lk_cons rfl (lk_cons rfl (lk_cons rfl (lk_cons rfl (lk_cons rfl (lk_cons rfl (lk_cons rfl lk_nil))))))))) (.cons 0 rfl (.cons 0 rfl .nil)) (.cons 1 rfl (.cons 2 rfl (.cons 2 rfl (.cons 2 rfl .nil)))) fk_nil
      · rintro ⟨x74, _⟩
        try dsimp only
        refine sxo_take (os := _) rfl ?_
        refine sxo_move rfl rfl rfl ?_
        refine sxo_case 4 x74 [(7, .pointer (some ⟨g16, 0, none⟩)), (8, .slice a14 x11.2.1.length c15), (9, .int .i64 x11.2.2), (10, .int .i64 x17), (14, .slice a61 x63.length c62), (15, .pointer (some ⟨g18, 0, none⟩)), (74, .bool (x74 && ((x8.2 : Int) == x54)))] (fun h75 => ?_) (fun h75 => ?_) ?_
        · refine sxo_take (os := _) rfl ?_
          refine sxo_isT (k := 70) rfl h75 ?_
          refine sxo_move rfl rfl rfl ?_
          refine sxo_move rfl rfl rfl ?_
          refine sxo_eql rfl rfl rfl rfl ?_
          refine sxo_pick (b := true) rfl rfl rfl rfl ?_
          refine sxo_again (d := 74) (v := .bool (x74 && ((x8.2 : Int) == x54))) rfl (by rw [h75]; simp only [Bool.true_and]) ?_
          refine sxo_nil ?_
          exact sxq_case (lk_cons rfl (lk_cons rfl (lk_cons rfl (lk_cons rfl (lk_cons rfl (lk_cons rfl (lk_cons rfl lk_nil)))))))
        · refine sxo_take (os := _) rfl ?_
          refine sxo_isF (k := 70) rfl h75 ?_
          refine sxo_skip rfl rfl rfl ?_
          refine sxo_skip rfl rfl rfl ?_
          refine sxo_skip rfl rfl rfl ?_
          refine sxo_pick (b := false) rfl rfl rfl rfl ?_
          refine sxo_again (d := 74) (v := .bool (x74 && ((x8.2 : Int) == x54))) rfl (by rw [h75]; simp only [Bool.false_and]) ?_
          refine sxo_nil ?_
          exact sxq_case (lk_cons rfl (lk_cons rfl (lk_cons rfl (lk_cons rfl (lk_cons rfl (lk_cons rfl (lk_cons rfl lk_nil)))))))
        refine sxo_take (os := _) rfl ?_
        refine sxo_move rfl rfl rfl ?_
        refine sxo_join 4 (fun ((x78, _) : (Bool × Unit)) => [(8, .slice a14 x11.2.1.length c15), (9, .int .i64 x11.2.2), (10, .int .i64 x17), (14, .slice a61 x63.length c62), (79, .bool x78)]) (fun ((x78, _) : (Bool × Unit)) => []) (fun ((x78, _) : (Bool × Unit)) => [Ro (eI .i64) 3 1 (.slice a14 x11.2.1.length c15) x11.2.1, Ro (eI .i64) 3 1 (.slice a61 x63.length c62) x63]) (fun ((x78, _) : (Bool × Unit)) => []) (fun ((x78, _) : (Bool × Unit)) => M_L_StrongTells_j4 F x11 x17 x63 x78) ?_ ?_
        · refine sxo_take (os := _) rfl ?_
          refine sxo_if (fun h76 => ?_) (fun h76 => ?_)
          · refine sxo_isT (k := 75) rfl h76 ?_
            refine sxo_loadB (i := 1) rfl rfl tf24 rfl rfl (by simp) rfl rfl ?_
            refine sxo_loadB (i := 0) rfl rfl tf24 rfl rfl (by simp) rfl rfl ?_
            refine sxo_call ent20 rfl rfl rfl (fun x84 e84 => C_R_SameGraph F x11.1 a12 c13 x66 a64 c65 x84 e84) (.consG 3 rfl (nest_sl rN25_in) (.consG 2 rfl (nest_sl rN25_in) .nil)) (fun x84 e84 => ?_)
            intro _
            refine sxo_pick (b := true) rfl rfl rfl rfl ?_
            refine sxo_nil ?_
            exact sxq_meetP (x84, ()) (lk_cons rfl (lk_cons rfl (lk_cons rfl (lk_cons rfl (lk_cons rfl lk_nil))))) .nil (.cons 0 rfl (.cons 0 rfl .nil)) fk_nil
          · refine sxo_isF (k := 75) rfl h76 ?_
            refine sxo_skip rfl rfl rfl ?_
            refine sxo_skip rfl rfl rfl ?_
            refine sxo_skip rfl rfl rfl ?_
            refine sxo_pick (b := false) rfl rfl rfl rfl ?_
            refine sxo_nil ?_
            exact sxq_meetP (false, ()) (lk_cons rfl (lk_cons rfl (lk_cons rfl (lk_cons rfl (lk_cons rfl lk_nil))))) .nil (.cons 0 rfl (.cons 0 rfl .nil)) fk_nil
        · rintro ⟨x78, _⟩
          try dsimp only
          refine sxo_take (os := _) rfl ?_
          refine sxo_move rfl rfl rfl ?_
          refine sxo_join 4 (fun ((x81, _) : (Bool × Unit)) => [(9, .int .i64 x11.2.2), (10, .int .i64 x17), (84, .bool x81)]) (fun ((x81, _) : (Bool × Unit)) => []) (fun ((x81, _) : (Bool × Unit)) => []) (fun ((x81, _) : (Bool × Unit)) => []) (fun ((x81, _) : (Bool × Unit)) => M_L_StrongTells_j5 F x11 x17 x81) ?_ ?_
          · refine sxo_take (os := _) rfl ?_
            refine sxo_if (fun h79 => ?_) (fun h79 => ?_)
            · refine sxo_isT (k := 80) rfl h79 ?_
              refine sxo_move rfl rfl rfl ?_
              refine sxo_move rfl rfl rfl ?_
              refine sxo_call ent19 rfl rfl rfl (fun x83 e83 => C_R_SameInts F x11.2.1 a14 c15 x63 a61 c62 x83 e83) (.consR 0 (Ro (eI .i64) 3 1 (.slice a14 x11.2.1.length c15) x11.2.1) rfl (.consR 1 (Ro (eI .i64) 3 1 (.slice a61 x63.length c62) x63) rfl .nil)) (fun x83 e83 => ?_)
              intro _
              refine sxo_pick (b := true) rfl rfl rfl rfl ?_
              refine sxo_nil ?_
              exact sxq_meetP (x83, ()) (lk_cons rfl (lk_cons rfl (lk_cons rfl lk_nil))) .nil .nil fk_nil
            · refine sxo_isF (k := 80) rfl h79 ?_
              refine sxo_skip rfl rfl rfl ?_
              refine sxo_skip rfl rfl rfl ?_
              refine sxo_skip rfl rfl rfl ?_
              refine sxo_pick (b := false) rfl rfl rfl rfl ?_
              refine sxo_nil ?_
              exact sxq_meetP (false, ()) (lk_cons rfl (lk_cons rfl (lk_cons rfl lk_nil))) .nil .nil fk_nil
          · rintro ⟨x81, _⟩
            try dsimp only
            refine sxo_take (os := _) rfl ?_
            refine sxo_move rfl rfl rfl ?_
            refine sxo_case 4 x81 [(89, .bool (x81 && ((x11.2.2 : Int) == x17)))] (fun h82 => ?_) (fun h82 => ?_) ?_
            · refine sxo_take (os := _) rfl ?_
              refine sxo_isT (k := 85) rfl h82 ?_
              refine sxo_move rfl rfl rfl ?_
              refine sxo_move rfl rfl rfl ?_
              refine sxo_eql rfl rfl rfl rfl ?_
              refine sxo_pick (b := true) rfl rfl rfl rfl ?_
              refine sxo_again (d := 89) (v := .bool (x81 && ((x11.2.2 : Int) == x17))) rfl (by rw [h82]; simp only [Bool.true_and]) ?_
              refine sxo_nil ?_
              exact sxq_case (lk_cons rfl lk_nil)
            · refine sxo_take (os := _) rfl ?_
              refine sxo_isF (k := 85) rfl h82 ?_
              refine sxo_skip rfl rfl rfl ?_
              refine sxo_skip rfl rfl rfl ?_
              refine sxo_skip rfl rfl rfl ?_
              refine sxo_pick (b := false) rfl rfl rfl rfl ?_
              refine sxo_again (d := 89) (v := .bool (x81 && ((x11.2.2 : Int) == x17))) rfl (by rw [h82]; simp only [Bool.false_and]) ?_
              refine sxo_nil ?_
              exact sxq_case (lk_cons rfl lk_nil)
            refine sxo_take (os := _) rfl ?_
            refine sxo_assign rfl rfl rfl ?_
            refine sxo_nil ?_
            refine sxq_next ?_
            refine sxc_ret ?_
            exact sxq_doneP () (.inl rfl) (res1 rfl rfl) (fun h => by subst h; rfl) (fun h => by subst h; exact .nil)

theorem C_walk_check_1 (F : Nat) (x1 : Int) (g2 : Nat) (x3 : List (List Int)) (a4 : Option Addr) (c5 : (Nat × List (Option Addr × Nat))) (r : Bool) (hm : M_walk_check_1 F x1 x3 = some r) :
    PureM Try.prog 72 [.int .i64 x1, .pointer (some ⟨g2, 0, none⟩)] [⟨g2, 24, [.slice a4 x3.length c5.1]⟩] [] [SlN eN25 iN25 1 (.slice a4 x3.length c5.1) x3 c5.2] Unit (fun _ => .bool r) (fun _ => [⟨g2, 24, [.slice a4 x3.length c5.1]⟩]) (fun _ => []) := by
  refine pureM_of Try.func72 rfl Try.ntmps72 rfl hm (fun w => ?_)
  refine sxc_env (l' := [(0, .int .i64 x1), (1, .pointer (some ⟨g2, 0, none⟩))]) rfl ?_
  refine sxc_seq ?_
  refine sxc_region ?_
  refine sxo_assign rfl rfl rfl ?_
  refine sxo_nil ?_
  refine sxq_next ?_
  refine sxc_seq ?_
  refine sxc_region ?_
  refine sxo_move rfl rfl rfl ?_
  refine sxo_lss rfl rfl rfl rfl ?_
  refine sxo_move rfl rfl rfl ?_
  refine sxo_case 6 (decide (x1 < 0)) [(12, .bool ((decide (x1 < 0)) || (decide ((x3.length : Int) ≤ x1))))] (fun h6 => ?_) (fun h6 => ?_) ?_
  · refine sxo_take (os := _) rfl ?_
    refine sxo_isT (k := 6) rfl h6 ?_
    refine sxo_skip rfl rfl rfl ?_
    refine sxo_skip rfl rfl rfl ?_
    refine sxo_skip rfl rfl rfl ?_
    refine sxo_skip rfl rfl rfl ?_
    refine sxo_skip rfl rfl rfl ?_
    refine sxo_pick (b := true) rfl rfl rfl rfl ?_
    refine sxo_again (d := 12) (v := .bool ((decide (x1 < 0)) || (decide ((x3.length : Int) ≤ x1)))) rfl (by rw [h6]; simp only [Bool.true_or]) ?_
    refine sxo_nil ?_
    exact sxq_case (lk_cons rfl lk_nil)
  · refine sxo_take (os := _) rfl ?_
    refine sxo_isF (k := 6) rfl h6 ?_
    refine sxo_move rfl rfl rfl ?_
    refine sxo_fieldAddr rfl rfl ff24_0 rfl ?_
    refine sxo_loadB (i := 0) rfl rfl tf22 rfl rfl (fun _ => rfl) rfl rfl ?_
    refine sxo_len rfl Try.underlying22 rfl rfl ?_
    refine sxo_geq rfl rfl rfl rfl ?_
    refine sxo_pick (b := false) rfl rfl rfl rfl ?_
    refine sxo_again (d := 12) (v := .bool ((decide (x1 < 0)) || (decide ((x3.length : Int) ≤ x1)))) rfl (by rw [h6]; simp only [Bool.false_or]) ?_
    refine sxo_nil ?_
    exact sxq_case (lk_cons rfl lk_nil)
  refine sxo_take (os := _) rfl ?_
  refine sxo_assign rfl rfl rfl ?_
  refine sxo_nil ?_
  refine sxq_next ?_
  refine sxc_ret ?_
  exact sxq_doneM () (.inl rfl) (res1 rfl rfl) (fun h => by subst h; rfl) (fun h => by subst h; exact (.cons 0 rfl .nil)) (fun h => by subst h; exact .nil)

theorem C_slices_IndexFunc_int_int_walk_check_1 (F : Nat) (x1 : List Int) (a2 : Option Addr) (c3 : Nat) (g4 : Nat) (x5 : List (List Int)) (a6 : Option Addr) (c7 : (Nat × List (Option Addr × Nat))) (r : Int) (hm : M_slices_IndexFunc_int_int_walk_check_1 F x1 x5 = some r) :
    PureM Try.prog 56 [.slice a2 x1.length c3, .func (.func 72) #[] #[.pointer (some ⟨g4, 0, none⟩)]] [⟨g4, 24, [.slice a6 x5.length c7.1]⟩] [] [Sl (eI .i64) 1 (.slice a2 x1.length c3) x1, SlN eN25 iN25 1 (.slice a6 x5.length c7.1) x5 c7.2] Unit (fun _ => .int .i64 r) (fun _ => [⟨g4, 24, [.slice a6 x5.length c7.1]⟩]) (fun _ => []) := by
  refine pureM_of Try.func56 rfl Try.ntmps56 rfl hm (fun w => ?_)
  refine sxc_env (l' := [(0, .slice a2 x1.length c3), (1, .func (.func 72) #[] #[.pointer (some ⟨g4, 0, none⟩)])]) rfl ?_
  refine sxc_seq ?_
  refine sxc_region ?_
  refine sxo_assign rfl rfl rfl ?_
  refine sxo_nil ?_
  refine sxq_next ?_
  refine sxc_join (fun ((_, _) : (Unit × Unit)) => []) (fun ((_, _) : (Unit × Unit)) => [⟨g4, 24, [.slice a6 x5.length c7.1]⟩]) (fun ((_, _) : (Unit × Unit)) => []) (fun ((_, _) : (Unit × Unit)) => [SlN eN25 iN25 1 (.slice a6 x5.length c7.1) x5 c7.2]) (fun ((_, _) : (Unit × Unit)) => M_slices_IndexFunc_int_int_walk_check_1_j2 F) ?_ ?_
  · refine sxc_seq ?_
    refine sxc_region ?_
    refine sxo_move rfl rfl rfl ?_
    refine sxo_len rfl Try.underlying25 rfl rfl ?_
    refine sxo_move rfl rfl rfl ?_
    refine sxo_nil ?_
    refine sxq_next ?_
    refine sxc_block ?_
    refine sxc_loopP (fun ((x58, _) : (Int × Unit)) => [(0, .slice a2 x1.length c3), (1, .func (.func 72) #[] #[.pointer (some ⟨g4, 0, none⟩)]), (7, .int .i64 (x1.length : Int)), (8, .int .i64 x58)]) (fun ((x58, _) : (Int × Unit)) => [⟨g4, 24, [.slice a6 x5.length c7.1]⟩]) (fun ((x58, _) : (Int × Unit)) => []) (fun ((x58, _) : (Int × Unit)) => [Sl (eI .i64) 1 (.slice a2 x1.length c3) x1, SlN eN25 iN25 1 (.slice a6 x5.length c7.1) x5 c7.2]) (fun k (s : (Int × Unit)) => M_slices_IndexFunc_int_int_walk_check_1_l3 F x1 x5 k s.1) (0, ()) F (lk_cons rfl (lk_cons rfl (lk_cons rfl (lk_cons rfl lk_nil)))) (.cons 0 rfl .nil) .nil (fk_cons 0 rfl (fk_cons 1 rfl fk_nil)) (fun _ => rfl) ?_
    intro k71
    rintro ⟨x58, _⟩
    try dsimp only
    refine sxc_meq (m' := M_slices_IndexFunc_int_int_walk_check_1_b3 F x1 x5 (M_slices_IndexFunc_int_int_walk_check_1_l3 F x1 x5 k71) x58) rfl ?_
    refine sxc_seq ?_
    refine sxc_region ?_
    refine sxo_lss rfl rfl rfl rfl ?_
    refine sxo_nil ?_
    refine sxq_next ?_
    refine sxc_seq ?_
    refine sxc_if rfl (fun h83 => ?_) (fun h83 => ?_)
    · refine sxc_skip ?_
      refine sxq_next ?_
      refine sxc_seq ?_
      refine sxc_block ?_
      refine sxc_seq ?_
      refine sxc_region ?_
      refine sxo_move rfl rfl rfl ?_
      refine sxo_assign rfl rfl rfl ?_
      refine sxo_nil ?_
      refine sxq_next ?_
      refine sxc_seq ?_
      refine sxc_region ?_
      refine sxo_move rfl rfl rfl ?_
      refine sxo_move rfl rfl rfl ?_
      refine sxo_move rfl rfl rfl ?_
      refine sxo_indexF (j := 0) (eI_ok .i64) (by decide) rfl Try.underlying25 tf3 rfl rfl rfl rfl (fun x78 e78 b79 o80 => ?_)
      refine sxo_loadF (j := 0) rfl rfl tf3 rfl rfl (fun _ => rfl) rfl rfl ?_
      refine sxo_callMV ent72 rfl rfl rfl rfl (fun x81 e81 => C_walk_check_1 F x78 g4 x5 a6 c7 x81 e81) (.cons 0 rfl .nil) .nil (.consF 2 rfl .nil) (fun x81 e81 => ?_)
      intro _
      refine sxo_nil ?_
      refine sxq_next ?_
      refine sxc_if rfl (fun h82 => ?_) (fun h82 => ?_)
      · refine sxc_seq ?_
        refine sxc_region ?_
        refine sxo_move rfl rfl rfl ?_
        refine sxo_assign rfl rfl rfl ?_
        refine sxo_nil ?_
        refine sxq_next ?_
        refine sxc_ret ?_
        refine sxq_blkR ?_
        refine sxq_thenR ?_
        refine sxq_thenR ?_
        refine sxq_blkR ?_
        refine sxq_thenR ?_
        exact sxq_doneM () (.inl rfl) (res1 rfl rfl) (fun h => by subst h; rfl) (fun h => by subst h; exact (.cons 0 rfl .nil)) (fun h => by subst h; exact .nil)
      · refine sxc_skip ?_
        refine sxq_blkN ?_
        refine sxq_next ?_
        refine sxc_region ?_
        refine sxo_add rfl rfl rfl rfl ?_
        refine sxo_move rfl rfl rfl ?_
        refine sxo_nil ?_
        exact sxq_againP (iadd .i64 x58 1, ()) (lk_cons rfl (lk_cons rfl (lk_cons rfl (lk_cons rfl lk_nil)))) (.cons 0 rfl .nil) .nil (fk_cons 1 rfl (fk_cons 2 rfl fk_nil))
    · refine sxc_exit ?_
      refine sxq_thenX ?_
      refine sxq_thenX ?_
      refine sxq_blkX ?_
      exact sxq_meetP ((), ()) lk_nil (.cons 0 rfl .nil) .nil (fk_cons 1 rfl fk_nil)
  · rintro ⟨_, _⟩
    try dsimp only
    refine sxc_seq ?_
    refine sxc_region ?_
    refine sxo_assign rfl rfl rfl ?_
    refine sxo_nil ?_
    refine sxq_next ?_
    refine sxc_ret ?_
    exact sxq_doneM () (.inl rfl) (res1 rfl rfl) (fun h => by subst h; rfl) (fun h => by subst h; exact (.cons 0 rfl .nil)) (fun h => by subst h; exact .nil)

theorem C_slices_ContainsFunc_int_int_walk_check_1 (F : Nat) (x1 : List Int) (a2 : Option Addr) (c3 : Nat) (g4 : Nat) (x5 : List (List Int)) (a6 : Option Addr) (c7 : (Nat × List (Option Addr × Nat))) (r : Bool) (hm : M_slices_ContainsFunc_int_int_walk_check_1 F x1 x5 = some r) :
    PureM Try.prog 71 [.slice a2 x1.length c3, .func (.func 72) #[] #[.pointer (some ⟨g4, 0, none⟩)]] [⟨g4, 24, [.slice a6 x5.length c7.1]⟩] [] [Sl (eI .i64) 1 (.slice a2 x1.length c3) x1, SlN eN25 iN25 1 (.slice a6 x5.length c7.1) x5 c7.2] Unit (fun _ => .bool r) (fun _ => [⟨g4, 24, [.slice a6 x5.length c7.1]⟩]) (fun _ => []) := by
  refine pureM_of Try.func71 rfl Try.ntmps71 rfl hm (fun w => ?_)
  refine sxc_env (l' := [(0, .slice a2 x1.length c3), (1, .func (.func 72) #[] #[.pointer (some ⟨g4, 0, none⟩)])]) rfl ?_
  refine sxc_seq ?_
  refine sxc_region ?_
  refine sxo_assign rfl rfl rfl ?_
  refine sxo_nil ?_
  refine sxq_next ?_
  refine sxc_seq ?_
  refine sxc_region ?_
  refine sxo_move rfl rfl rfl ?_
  refine sxo_move rfl rfl rfl ?_
  refine sxo_callM ent56 rfl rfl rfl (fun x8 e8 => C_slices_IndexFunc_int_int_walk_check_1 F x1 a2 c3 g4 x5 a6 c7 x8 e8) (.cons 0 rfl .nil) .nil (.consF 0 rfl (.consF 1 rfl .nil)) (fun x8 e8 => ?_)
  intro _
  refine sxo_geq rfl rfl rfl rfl ?_
  refine sxo_assign rfl rfl rfl ?_
  refine sxo_nil ?_
  refine sxq_next ?_
  refine sxc_ret ?_
  exact sxq_doneM () (.inl rfl) (res1 rfl rfl) (fun h => by subst h; rfl) (fun h => by subst h; exact (.cons 0 rfl .nil)) (fun h => by subst h; exact .nil)

theorem C_walk_check (F : Nat) (x1 : List (List Int)) (a2 : Option Addr) (c3 : (Nat × List (Option Addr × Nat))) (x4 : List Int) (a5 : Option Addr) (c6 : Nat) (r : Int) (hm : M_walk_check F x1 x4 = some r) :
    Pure Try.prog 51 [.agg #[.slice a2 x1.length c3.1], .slice a5 x4.length c6] [SlN eN25 iN25 1 (.slice a2 x1.length c3.1) x1 c3.2, Sl (eI .i64) 1 (.slice a5 x4.length c6) x4] Unit (fun _ => .int .i64 r) (fun _ => []) (fun _ => []) := by
  refine pure_of Try.func51 rfl Try.ntmps51 rfl hm (fun w => ?_)
  refine sxc_env (l' := [(0, .agg #[.slice a2 x1.length c3.1]), (1, .slice a5 x4.length c6)]) rfl ?_
  refine sxc_seq ?_
  refine sxc_region ?_
  refine sxo_box rfl rfl rfl (fun g7 => ?_)
  refine sxo_assign rfl rfl rfl ?_
  refine sxo_nil ?_
  refine sxq_next ?_
  refine sxc_seq ?_
  refine sxc_seq ?_
  refine sxc_region ?_
  refine sxo_loadB (i := 0) rfl rfl tf24 rfl rfl (by simp) rfl rfl ?_
  refine sxo_call ent31 rfl rfl rfl (fun x10 e10 => C_graph_Check F x1 a2 c3 x10 e10) (.consF 0 rfl .nil) (fun x10 e10 => ?_)
  intro _
  refine sxo_assign rfl rfl rfl ?_
  refine sxo_nil ?_
  refine sxq_next ?_
  refine sxc_seq ?_
  refine sxc_region ?_
  refine sxo_move rfl rfl rfl ?_
  refine sxo_neq rfl rfl rfl rfl ?_
  refine sxo_nil ?_
  refine sxq_next ?_
  refine sxc_if rfl (fun h15 => ?_) (fun h15 => ?_)
  · refine sxc_seq ?_
    refine sxc_region ?_
    refine sxo_move rfl rfl rfl ?_
    refine sxo_assign rfl rfl rfl ?_
    refine sxo_nil ?_
    refine sxq_next ?_
    refine sxc_ret ?_
    refine sxq_thenR ?_
    exact sxq_doneP () (.inl rfl) (res1 rfl rfl) (fun h => by subst h; rfl) (fun h => by subst h; exact .nil)
  · refine sxc_skip ?_
    refine sxq_next ?_
    refine sxc_seq ?_
    refine sxc_seq ?_
    refine sxc_region ?_
    refine sxo_move rfl rfl rfl ?_
    refine sxo_makeFunc rfl rfl rfl ?_
    refine sxo_callM ent71 rfl rfl rfl (fun x13 e13 => C_slices_ContainsFunc_int_int_walk_check_1 F x4 a5 c6 g7 x1 a2 c3 x13 e13) (.cons 0 rfl .nil) .nil (.consF 1 rfl (.consF 0 rfl .nil)) (fun x13 e13 => ?_)
    intro _
    refine sxo_nil ?_
    refine sxq_next ?_
    refine sxc_if rfl (fun h14 => ?_) (fun h14 => ?_)
    · refine sxc_seq ?_
      refine sxc_region ?_
      refine sxo_assign rfl rfl rfl ?_
      refine sxo_nil ?_
      refine sxq_next ?_
      refine sxc_ret ?_
      refine sxq_thenR ?_
      exact sxq_doneP () (.inl rfl) (res1 rfl rfl) (fun h => by subst h; rfl) (fun h => by subst h; exact .nil)
    · refine sxc_skip ?_
      refine sxq_next ?_
      refine sxc_seq ?_
      refine sxc_region ?_
      refine sxo_assign rfl rfl rfl ?_
      refine sxo_nil ?_
      refine sxq_next ?_
      refine sxc_ret ?_
      exact sxq_doneP () (.inl rfl) (res1 rfl rfl) (fun h => by subst h; rfl) (fun h => by subst h; exact .nil)
end Go.Proofs.Ytefoeebfidklgaa
