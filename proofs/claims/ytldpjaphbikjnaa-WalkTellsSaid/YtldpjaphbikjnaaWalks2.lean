/- Each Go function of this seat computes what its model says, part 2. -/
import Derived.Test.YtldpjaphbikjnaaWalks
namespace Go.Proofs.Ytldpjaphbikjnaa
open Go SX
theorem C_R_WalkWay : ∀ (F : Nat) (x1 : List (List Int)) (a2 : Option Addr) (c3 : (Nat × List (Option Addr × Nat))) (x4 : Int) (x5 : Int) (r : List Int), M_R_WalkWay F x1 x4 x5 = some r → Pure Try.prog 17 [.agg #[.slice a2 x1.length c3.1], .int .i64 x4, .int .i64 x5] [SlN eN25 iN25 1 (.slice a2 x1.length c3.1) x1 c3.2] (Option Addr × Nat) (fun g => .slice g.1 r.length g.2) (fun g => [Ro (eI .i64) 3 1 (.slice g.1 r.length g.2) r]) (fun _ => []) := by
  intro F
  induction F with
  | zero => intro x1 a2 c3 x4 x5 r hm; exact absurd hm (by simp [M_R_WalkWay])
  | succ F ih =>
    intro x1 a2 c3 x4 x5 r hm
    refine pure_of Try.func17 rfl Try.ntmps17 rfl hm (fun w => ?_)
    refine sxc_env (l' := [(0, .agg #[.slice a2 x1.length c3.1]), (1, .int .i64 x4), (2, .int .i64 x5)]) rfl ?_
    refine sxc_seq ?_
    refine sxc_region ?_
    refine sxo_box rfl rfl rfl (fun g6 => ?_)
    refine sxo_assign rfl rfl rfl ?_
    refine sxo_nil ?_
    refine sxq_next ?_
    refine sxc_seq ?_
    refine sxc_seq ?_
    refine sxc_region ?_
    refine sxo_move rfl rfl rfl ?_
    refine sxo_move rfl rfl rfl ?_
    refine sxo_eql rfl rfl rfl rfl ?_
    refine sxo_nil ?_
    refine sxq_next ?_
    refine sxc_if rfl (fun h348 => ?_) (fun h348 => ?_)
    · refine sxc_seq ?_
      refine sxc_region ?_
      refine sxo_move rfl rfl rfl ?_
      refine sxo_slit (vs := [.int .i64 x4]) (ys := ([x4] : List Int)) (eI_ok .i64) (by decide) rfl Try.underlying25 tf3 rfl rfl rfl rfl rfl (by decide) (fun a10 c11 => ?_)
      refine sxo_assign rfl rfl rfl ?_
      refine sxo_nil ?_
      refine sxq_next ?_
      refine sxc_ret ?_
      refine sxq_thenR ?_
      exact sxq_doneP (a10, c11) (.inl rfl) (res1 rfl rfl) (fun h => by subst h; rfl) (fun h => by subst h; exact (.cons 0 rfl .nil))
    · refine sxc_skip ?_
      refine sxq_next ?_
      refine sxc_seq ?_
      refine sxc_region ?_
      refine sxo_loadB (i := 0) rfl rfl tf24 rfl rfl (by simp) rfl rfl ?_
      refine sxo_move rfl rfl rfl ?_
      refine sxo_call ent16 rfl rfl rfl (fun x12 e12 => C_R_WalkFar F x1 a2 c3 x4 x12 e12) (.consF 0 rfl .nil) (fun x12 e12 => ?_)
      rintro ⟨a13, c14⟩
      refine sxo_move rfl rfl rfl ?_
      refine sxo_indexR (j := 0) rfl Try.underlying25 tf3 rfl rfl rfl rfl (fun x15 e15 g16 h17 => ?_)
      refine sxo_loadR (j := 0) (y := x15) (eI_ok .i64) rfl rfl tf3 rfl h17 (idx_get e15).2.2 (fun _ => rfl) rfl rfl ?_
      refine sxo_assign rfl rfl rfl ?_
      refine sxo_nil ?_
      refine sxq_next ?_
      refine sxc_seq ?_
      refine sxc_seq ?_
      refine sxc_region ?_
      refine sxo_move rfl rfl rfl ?_
      refine sxo_lss rfl rfl rfl rfl ?_
      refine sxo_nil ?_
      refine sxq_next ?_
      refine sxc_if rfl (fun h347 => ?_) (fun h347 => ?_)
      · refine sxc_seq ?_
        refine sxc_region ?_
        refine sxo_assign rfl rfl rfl ?_
        refine sxo_nil ?_
        refine sxq_next ?_
        refine sxc_ret ?_
        refine sxq_thenR ?_
        refine sxq_nilrow Int (eI .i64) 3 1 ?_
        exact sxq_doneP (none, 0) (.inl rfl) (res1 rfl rfl) (fun h => by subst h; rfl) (fun h => by subst h; exact (.cons 0 rfl .nil))
      · refine sxc_skip ?_
        refine sxq_next ?_
        refine sxc_join (fun ((_, _) : (Unit × Unit)) => []) (fun ((_, _) : (Unit × Unit)) => []) (fun ((_, _) : (Unit × Unit)) => []) (fun ((_, _) : (Unit × Unit)) => []) (fun ((_, _) : (Unit × Unit)) => M_R_WalkWay_j2 F) ?_ ?_
        · refine sxc_seq ?_
          refine sxc_region ?_
          refine sxo_assign rfl rfl rfl ?_
          refine sxo_nil ?_
          refine sxq_next ?_
          refine sxc_block ?_
          refine sxc_loopP (fun ((x237, _) : (Int × Unit)) => [(1, .int .i64 x4), (2, .int .i64 x5), (3, .pointer (some ⟨g6, 0, none⟩)), (7, .int .i64 x15), (8, .int .i64 x237)]) (fun ((x237, _) : (Int × Unit)) => [⟨g6, 24, [.slice a2 x1.length c3.1]⟩]) (fun ((x237, _) : (Int × Unit)) => []) (fun ((x237, _) : (Int × Unit)) => [SlN eN25 iN25 1 (.slice a2 x1.length c3.1) x1 c3.2]) (fun k (s : (Int × Unit)) => M_R_WalkWay_l3 F (M_R_WalkWay F) x1 x4 x5 x15 k s.1) (0, ()) F (lk_cons rfl (lk_cons rfl (lk_cons rfl (lk_cons rfl (lk_cons rfl lk_nil))))) (.cons 0 rfl .nil) .nil (fk_cons 0 rfl fk_nil) (fun _ => rfl) ?_
          intro k292
          rintro ⟨x237, _⟩
          try dsimp only
          refine sxc_meq (m' := M_R_WalkWay_b3 F (M_R_WalkWay F) x1 x4 x5 x15 (M_R_WalkWay_l3 F (M_R_WalkWay F) x1 x4 x5 x15 k292) x237) rfl ?_
          refine sxc_seq ?_
          refine sxc_seq ?_
          refine sxc_region ?_
          refine sxo_move rfl rfl rfl ?_
          refine sxo_fieldAddr rfl rfl ff24_0 rfl ?_
          refine sxo_loadB (i := 0) rfl rfl tf22 rfl rfl (fun _ => rfl) rfl rfl ?_
          refine sxo_move rfl rfl rfl ?_
          refine sxo_indexN (j := 0) eN25_ok (by decide) rfl Try.underlying22 tf25 rfl rfl rfl rfl (fun x298 e298 g301 b299 o300 => ?_)
          refine sxo_loadF (j := 0) rfl rfl tf25 rfl rfl (fun _ => rfl) rfl rfl ?_
          refine sxo_len rfl Try.underlying25 rfl rfl ?_
          refine sxo_lss rfl rfl rfl rfl ?_
          refine sxo_nil ?_
          refine sxq_next ?_
          refine sxc_if rfl (fun h346 => ?_) (fun h346 => ?_)
          · refine sxc_skip ?_
            refine sxq_next ?_
            refine sxc_seq ?_
            refine sxc_block ?_
            refine sxc_seq ?_
            refine sxc_region ?_
            refine sxo_fieldAddr rfl rfl ff24_0 rfl ?_
            refine sxo_loadB (i := 0) rfl rfl tf22 rfl rfl (fun _ => rfl) rfl rfl ?_
            refine sxo_move rfl rfl rfl ?_
            refine sxo_indexN (j := 2) eN25_ok (by decide) rfl Try.underlying22 tf25 rfl rfl rfl rfl (fun x324 e324 g327 b325 o326 => ?_)
            refine sxo_loadF (j := 0) rfl rfl tf25 rfl rfl (fun _ => rfl) rfl rfl ?_
            refine sxo_move rfl rfl rfl ?_
            refine sxo_indexF (j := 1) (eI_ok .i64) (by decide) rfl Try.underlying25 tf3 rfl rfl rfl rfl (fun x328 e328 b329 o330 => ?_)
            refine sxo_loadF (j := 0) rfl rfl tf3 rfl rfl (fun _ => rfl) rfl rfl ?_
            refine sxo_assign rfl rfl rfl ?_
            refine sxo_nil ?_
            refine sxq_next ?_
            refine sxc_seq ?_
            refine sxc_region ?_
            refine sxo_loadB (i := 0) rfl rfl tf24 rfl rfl (by simp) rfl rfl ?_
            refine sxo_move rfl rfl rfl ?_
            refine sxo_call ent16 rfl rfl rfl (fun x331 e331 => C_R_WalkFar F x1 a2 c3 x328 x331 e331) (.consF 5 rfl .nil) (fun x331 e331 => ?_)
            rintro ⟨a332, c333⟩
            refine sxo_move rfl rfl rfl ?_
            refine sxo_indexR (j := 0) rfl Try.underlying25 tf3 rfl rfl rfl rfl (fun x334 e334 g335 h336 => ?_)
            refine sxo_loadR (j := 0) (y := x334) (eI_ok .i64) rfl rfl tf3 rfl h336 (idx_get e334).2.2 (fun _ => rfl) rfl rfl ?_
            refine sxo_move rfl rfl rfl ?_
            refine sxo_sub rfl rfl rfl rfl ?_
            refine sxo_eql rfl rfl rfl rfl ?_
            refine sxo_nil ?_
            refine sxq_next ?_
            refine sxc_if rfl (fun h345 => ?_) (fun h345 => ?_)
            · refine sxc_seq ?_
              refine sxc_region ?_
              refine sxo_move rfl rfl rfl ?_
              refine sxo_slit (vs := [.int .i64 x4]) (ys := ([x4] : List Int)) (eI_ok .i64) (by decide) rfl Try.underlying25 tf3 rfl rfl rfl rfl rfl (by decide) (fun a337 c338 => ?_)
              refine sxo_loadB (i := 0) rfl rfl tf24 rfl rfl (by simp) rfl rfl ?_
              refine sxo_move rfl rfl rfl ?_
              refine sxo_move rfl rfl rfl ?_
              refine sxo_call ent17 rfl rfl rfl (fun x339 e339 => ih x1 a2 c3 x328 x5 x339 e339) (.consF 5 rfl .nil) (fun x339 e339 => ?_)
              rintro ⟨a340, c341⟩
              refine sxo_app 1 (eI_ok .i64) rfl Try.underlying25 tf3 rfl rfl rfl rfl rfl (.inl ⟨0, _, rfl⟩) rfl rfl (fun x342 e342 a343 c344 => ?_)
              refine sxo_assign rfl rfl rfl ?_
              refine sxo_nil ?_
              refine sxq_next ?_
              refine sxc_ret ?_
              refine sxq_blkR ?_
              refine sxq_thenR ?_
              refine sxq_thenR ?_
              refine sxq_blkR ?_
              refine sxq_thenR ?_
              exact sxq_doneP (a343, c344) (.inl rfl) (res1 rfl rfl) (fun h => by subst h; rfl) (fun h => by subst h; exact (.cons 0 rfl .nil))
            · refine sxc_skip ?_
              refine sxq_blkN ?_
              refine sxq_next ?_
              refine sxc_region ?_
              refine sxo_move rfl rfl rfl ?_
              refine sxo_add rfl rfl rfl rfl ?_
              refine sxo_assign rfl rfl rfl ?_
              refine sxo_nil ?_
              exact sxq_againP (iadd .i64 x237 1, ()) (lk_cons rfl (lk_cons rfl (lk_cons rfl (lk_cons rfl (lk_cons rfl lk_nil))))) (.cons 0 rfl .nil) .nil (fk_cons 5 rfl fk_nil)
          · refine sxc_exit ?_
            refine sxq_thenX ?_
            refine sxq_thenX ?_
            refine sxq_blkX ?_
            exact sxq_meetP ((), ()) lk_nil .nil .nil fk_nil
        · rintro ⟨_, _⟩
          try dsimp only
          refine sxc_seq ?_
          refine sxc_region ?_
          refine sxo_assign rfl rfl rfl ?_
          refine sxo_nil ?_
          refine sxq_next ?_
          refine sxc_ret ?_
          refine sxq_nilrow Int (eI .i64) 3 1 ?_
          exact sxq_doneP (none, 0) (.inl rfl) (res1 rfl rfl) (fun h => by subst h; rfl) (fun h => by subst h; exact (.cons 0 rfl .nil))

theorem C_R_SameInts (F : Nat) (x1 : List Int) (a2 : Option Addr) (c3 : Nat) (x4 : List Int) (a5 : Option Addr) (c6 : Nat) (r : Bool) (hm : M_R_SameInts F x1 x4 = some r) :
    Pure Try.prog 19 [.slice a2 x1.length c3, .slice a5 x4.length c6] [Sl (eI .i64) 1 (.slice a2 x1.length c3) x1, Sl (eI .i64) 1 (.slice a5 x4.length c6) x4] Unit (fun _ => .bool r) (fun _ => []) (fun _ => []) := by
  refine pure_of Try.func19 rfl Try.ntmps19 rfl hm (fun w => ?_)
  refine sxc_env (l' := [(0, .slice a2 x1.length c3), (1, .slice a5 x4.length c6)]) rfl ?_
  refine sxc_seq ?_
  refine sxc_region ?_
  refine sxo_assign rfl rfl rfl ?_
  refine sxo_nil ?_
  refine sxq_next ?_
  refine sxc_seq ?_
  refine sxc_seq ?_
  refine sxc_region ?_
  refine sxo_move rfl rfl rfl ?_
  refine sxo_len rfl Try.underlying25 rfl rfl ?_
  refine sxo_move rfl rfl rfl ?_
  refine sxo_len rfl Try.underlying25 rfl rfl ?_
  refine sxo_neq rfl rfl rfl rfl ?_
  refine sxo_nil ?_
  refine sxq_next ?_
  refine sxc_if rfl (fun h228 => ?_) (fun h228 => ?_)
  · refine sxc_seq ?_
    refine sxc_region ?_
    refine sxo_assign rfl rfl rfl ?_
    refine sxo_nil ?_
    refine sxq_next ?_
    refine sxc_ret ?_
    refine sxq_thenR ?_
    exact sxq_doneP () (.inl rfl) (res1 rfl rfl) (fun h => by subst h; rfl) (fun h => by subst h; exact .nil)
  · refine sxc_skip ?_
    refine sxq_next ?_
    refine sxc_join (fun ((_, _) : (Unit × Unit)) => []) (fun ((_, _) : (Unit × Unit)) => []) (fun ((_, _) : (Unit × Unit)) => []) (fun ((_, _) : (Unit × Unit)) => []) (fun ((_, _) : (Unit × Unit)) => M_R_SameInts_j2 F) ?_ ?_
    · refine sxc_seq ?_
      refine sxc_region ?_
      refine sxo_assign rfl rfl rfl ?_
      refine sxo_nil ?_
      refine sxq_next ?_
      refine sxc_block ?_
      refine sxc_loopP (fun ((x154, _) : (Int × Unit)) => [(0, .slice a2 x1.length c3), (1, .slice a5 x4.length c6), (5, .int .i64 x154)]) (fun ((x154, _) : (Int × Unit)) => []) (fun ((x154, _) : (Int × Unit)) => []) (fun ((x154, _) : (Int × Unit)) => [Sl (eI .i64) 1 (.slice a2 x1.length c3) x1, Sl (eI .i64) 1 (.slice a5 x4.length c6) x4]) (fun k (s : (Int × Unit)) => M_R_SameInts_l3 F x1 x4 k s.1) (0, ()) F (lk_cons rfl (lk_cons rfl (lk_cons rfl lk_nil))) .nil .nil (fk_cons 0 rfl (fk_cons 1 rfl fk_nil)) (fun _ => rfl) ?_
      intro k191
      rintro ⟨x154, _⟩
      try dsimp only
      refine sxc_meq (m' := M_R_SameInts_b3 F x1 x4 (M_R_SameInts_l3 F x1 x4 k191) x154) rfl ?_
      refine sxc_seq ?_
      refine sxc_seq ?_
      refine sxc_region ?_
      refine sxo_move rfl rfl rfl ?_
      refine sxo_move rfl rfl rfl ?_
      refine sxo_len rfl Try.underlying25 rfl rfl ?_
      refine sxo_lss rfl rfl rfl rfl ?_
      refine sxo_nil ?_
      refine sxq_next ?_
      refine sxc_if rfl (fun h227 => ?_) (fun h227 => ?_)
      · refine sxc_skip ?_
        refine sxq_next ?_
        refine sxc_seq ?_
        refine sxc_block ?_
        refine sxc_seq ?_
        refine sxc_idxF (j := 0) (eI_ok .i64) (by decide) rfl (fun x218 e218 b219 o220 h221 => ?_)
        replace h221 : a2 = some ⟨b219, o220, none⟩ := h221
        refine sxc_idxF (j := 2) (eI_ok .i64) (by decide) rfl (fun x222 e222 b223 o224 h225 => ?_)
        replace h225 : a5 = some ⟨b223, o224, none⟩ := h225
        refine sxb_draw mixed [] [] [CellsAt b223 (o224 + x154.toNat * 1) ((eI .i64) x222), CellsAt b219 (o220 + x154.toNat * 1) ((eI .i64) x218), Sl (eI .i64) 1 (.slice a2 x1.length c3) x1, Sl (eI .i64) 1 (.slice a5 x4.length c6) x4] .nil (gk_F 0 rfl (gk_F 1 rfl (gk_F 2 rfl (gk_F 3 rfl gk_nil)))) 9 rfl ?_
        refine sxb_takeP 0 (.slice a2 x1.length c3) rfl rfl rfl rfl (by kernel_rfl) (by kernel_rfl) (by kernel_rfl) (by kernel_rfl) (by kernel_rfl) rfl (show _ = #[true, false, false, false, false, false, false, false, false] from rfl) (yv_pv rfl) ?_
        refine sxb_takeP 1 (.int .i64 x154) rfl rfl rfl rfl (by kernel_rfl) (by kernel_rfl) (by kernel_rfl) (by kernel_rfl) (by kernel_rfl) rfl (show _ = #[true, true, false, false, false, false, false, false, false] from rfl) (yv_pv rfl) ?_
        refine sxb_again (d := 17) (v := .slice (some ⟨b219, o220, none⟩) x1.length c3) rfl (by rw [h221] <;> rfl) ?_
        refine sxb_takeP 2 (.pointer (some ⟨b219, (o220 + x154.toNat * 1), none⟩)) rfl rfl rfl rfl (by kernel_rfl) (by kernel_rfl) (by kernel_rfl) (by kernel_rfl) (by kernel_rfl) rfl (show _ = #[true, true, true, false, false, false, false, false, false] from rfl) (yv_idx Try.underlying25 tf3 rfl rfl (idx_get e218).1 (idx_lt e218)) ?_
        refine sxb_again (d := 17) (v := .slice a2 x1.length c3) rfl (by rw [h221] <;> rfl) ?_
        refine sxb_take 3 (.int .i64 x218) [] rfl rfl rfl rfl (by kernel_rfl) (by kernel_rfl) (by kernel_rfl) (by kernel_rfl) (by kernel_rfl) (by kernel_rfl) rfl (show _ = #[true, true, true, true, false, false, false, false, false] from rfl) (yv_loadF (j := 1) rfl tf3 rfl rfl (fun _ => rfl) rfl) ?_
        refine sxb_takeP 4 (.slice a5 x4.length c6) rfl rfl rfl rfl (by kernel_rfl) (by kernel_rfl) (by kernel_rfl) (by kernel_rfl) (by kernel_rfl) rfl (show _ = #[true, true, true, true, true, false, false, false, false] from rfl) (yv_pv rfl) ?_
        refine sxb_takeP 5 (.int .i64 x154) rfl rfl rfl rfl (by kernel_rfl) (by kernel_rfl) (by kernel_rfl) (by kernel_rfl) (by kernel_rfl) rfl (show _ = #[true, true, true, true, true, true, false, false, false] from rfl) (yv_pv rfl) ?_
        refine sxb_again (d := 21) (v := .slice (some ⟨b223, o224, none⟩) x4.length c6) rfl (by rw [h225] <;> rfl) ?_
        refine sxb_takeP 6 (.pointer (some ⟨b223, (o224 + x154.toNat * 1), none⟩)) rfl rfl rfl rfl (by kernel_rfl) (by kernel_rfl) (by kernel_rfl) (by kernel_rfl) (by kernel_rfl) rfl (show _ = #[true, true, true, true, true, true, true, false, false] from rfl) (yv_idx Try.underlying25 tf3 rfl rfl (idx_get e222).1 (idx_lt e222)) ?_
        refine sxb_again (d := 21) (v := .slice a5 x4.length c6) rfl (by rw [h225] <;> rfl) ?_
        refine sxb_take 7 (.int .i64 x222) [] rfl rfl rfl rfl (by kernel_rfl) (by kernel_rfl) (by kernel_rfl) (by kernel_rfl) (by kernel_rfl) (by kernel_rfl) rfl (show _ = #[true, true, true, true, true, true, true, true, false] from rfl) (yv_loadF (j := 0) rfl tf3 rfl rfl (fun _ => rfl) rfl) ?_
        refine sxb_takeP 8 (.bool ((x218 : Int) != x222)) rfl rfl rfl rfl (by kernel_rfl) (by kernel_rfl) (by kernel_rfl) (by kernel_rfl) (by kernel_rfl) rfl (show _ = #[true, true, true, true, true, true, true, true, true] from rfl) (yv_pv rfl) ?_
        refine sxb_done (by kernel_rfl) ?_
        refine sxq_np ?_ (by intro c h; cases h)
        refine sxq_next ?_
        refine sxc_if rfl (fun h226 => ?_) (fun h226 => ?_)
        · refine sxc_seq ?_
          refine sxc_region ?_
          refine sxo_assign rfl rfl rfl ?_
          refine sxo_nil ?_
          refine sxq_next ?_
          refine sxc_ret ?_
          refine sxq_blkR ?_
          refine sxq_thenR ?_
          refine sxq_thenR ?_
          refine sxq_blkR ?_
          refine sxq_thenR ?_
          exact sxq_doneP () (.inl rfl) (res1 rfl rfl) (fun h => by subst h; rfl) (fun h => by subst h; exact .nil)
        · refine sxc_skip ?_
          refine sxq_blkN ?_
          refine sxq_next ?_
          refine sxc_region ?_
          refine sxo_move rfl rfl rfl ?_
          refine sxo_add rfl rfl rfl rfl ?_
          refine sxo_assign rfl rfl rfl ?_
          refine sxo_nil ?_
          exact sxq_againP (iadd .i64 x154 1, ()) (lk_cons rfl (lk_cons rfl (lk_cons rfl lk_nil))) .nil .nil (fk_cons 2 rfl (fk_cons 3 rfl fk_nil))
      · refine sxc_exit ?_
        refine sxq_thenX ?_
        refine sxq_thenX ?_
        refine sxq_blkX ?_
        exact sxq_meetP ((), ()) lk_nil .nil .nil fk_nil
    · rintro ⟨_, _⟩
      try dsimp only
      refine sxc_seq ?_
      refine sxc_region ?_
      refine sxo_assign rfl rfl rfl ?_
      refine sxo_nil ?_
      refine sxq_next ?_
      refine sxc_ret ?_
      exact sxq_doneP () (.inl rfl) (res1 rfl rfl) (fun h => by subst h; rfl) (fun h => by subst h; exact .nil)

theorem C_L_someGraph (F : Nat)  (r : List (List Int)) (hm : M_L_someGraph F  = some r) :
    Pure Try.prog 35 [] [] (Option Addr × (Nat × List (Option Addr × Nat))) (fun g => .agg #[.slice g.1 r.length g.2.1]) (fun g => [RoN eN25 rN25 25 1 (.slice g.1 r.length g.2.1) r g.2.2 []]) (fun _ => []) := by
  refine pure_of Try.func35 rfl Try.ntmps35 rfl hm (fun w => ?_)
  refine sxc_env (l' := []) rfl ?_
  refine sxc_seq ?_
  refine sxc_region ?_
  refine sxo_alloc rfl tf24 rfl (fun g1 => ?_)
  refine sxo_nil ?_
  refine sxq_next ?_
  refine sxc_seq ?_
  refine sxc_region ?_
  refine sxo_slit (vs := [.int .i64 1, .int .i64 2, .int .i64 3, .int .i64 5]) (ys := ([1, 2, 3, 5] : List Int)) (eI_ok .i64) (by decide) rfl Try.underlying25 tf3 rfl rfl rfl rfl rfl (by decide) (fun a2 c3 => ?_)
  refine sxo_slit (vs := [.int .i64 1, .int .i64 2, .int .i64 3, .int .i64 5]) (ys := ([1, 2, 3, 5] : List Int)) (eI_ok .i64) (by decide) rfl Try.underlying25 tf3 rfl rfl rfl rfl rfl (by decide) (fun a4 c5 => ?_)
  refine sxo_slit (vs := [.int .i64 0, .int .i64 1, .int .i64 2, .int .i64 3, .int .i64 5]) (ys := ([0, 1, 2, 3, 5] : List Int)) (eI_ok .i64) (by decide) rfl Try.underlying25 tf3 rfl rfl rfl rfl rfl (by decide) (fun a6 c7 => ?_)
  refine sxo_slit (vs := [.int .i64 4]) (ys := ([4] : List Int)) (eI_ok .i64) (by decide) rfl Try.underlying25 tf3 rfl rfl rfl rfl rfl (by decide) (fun a8 c9 => ?_)
  refine sxo_slit (vs := [.int .i64 1, .int .i64 2, .int .i64 3]) (ys := ([1, 2, 3] : List Int)) (eI_ok .i64) (by decide) rfl Try.underlying25 tf3 rfl rfl rfl rfl rfl (by decide) (fun a10 c11 => ?_)
  refine sxo_nilrow' Int (eI .i64) 3 1 ?_
  refine sxo_slit (vs := [.slice a2 ([1, 2, 3, 5] : List Int).length c3, .slice a4 ([1, 2, 3, 5] : List Int).length c5, .slice a6 ([0, 1, 2, 3, 5] : List Int).length c7, .slice none ([] : List Int).length 0, .slice a8 ([4] : List Int).length c9, .slice a10 ([1, 2, 3] : List Int).length c11]) (ys := ([(([1, 2, 3, 5] : List Int), (a2, c3)), (([1, 2, 3, 5] : List Int), (a4, c5)), (([0, 1, 2, 3, 5] : List Int), (a6, c7)), (([] : List Int), (none, 0)), (([4] : List Int), (a8, c9)), (([1, 2, 3] : List Int), (a10, c11))] : List (List Int × (Option Addr × Nat)))) eN25_ok (by decide) rfl Try.underlying22 tf25 rfl rfl rfl rfl rfl (by decide) (fun a12 c13 => ?_)
  refine sxo_nestOf (rin := rN25) (i := 0) ([([1, 2, 3, 5] : List Int), ([1, 2, 3, 5] : List Int), ([0, 1, 2, 3, 5] : List Int), ([] : List Int), ([4] : List Int), ([1, 2, 3] : List Int)] : List (List Int)) ([(a2, c3), (a4, c5), (a6, c7), (none, 0), (a8, c9), (a10, c11)] : List (Option Addr × Nat)) rfl rfl (.cons 5 rfl (.cons 4 rfl (.cons 3 rfl (.cons 0 rfl (.cons 1 rfl (.cons 0 rfl .nil)))))) ?_
  refine sxo_build (cells := [.slice a12 ([([1, 2, 3, 5] : List Int), ([1, 2, 3, 5] : List Int), ([0, 1, 2, 3, 5] : List Int), ([] : List Int), ([4] : List Int), ([1, 2, 3] : List Int)] : List (List Int)).length c13]) rfl st24 rfl (by kernel_rfl) rfl ?_
  refine sxo_storeB (i := 0) rfl rfl rfl tf24 rfl rfl rfl rfl rfl ?_
  refine sxo_nil ?_
  refine sxq_next ?_
  refine sxc_ret ?_
  exact sxq_doneP (a12, (c13, ([(a2, c3), (a4, c5), (a6, c7), (none, 0), (a8, c9), (a10, c11)] : List (Option Addr × Nat)))) (.inl rfl) (resL (rs := [.cell 0 24]) rfl (.cell (i := 0) rfl tf24 rfl rfl (by simp) rfl ResOk.nil) rfl) (fun h => by subst h; rfl) (fun h => by subst h; exact (.cons 0 rfl .nil))

set_option maxHeartbeats 4000000 in
theorem C_L_walkBegun (F : Nat)  (r : Bool) (hm : M_L_walkBegun F  = some r) :
    Pure Try.prog 18 [] [] Unit (fun _ => .bool r) (fun _ => []) (fun _ => []) := by
  refine pure_of Try.func18 rfl Try.ntmps18 rfl hm (fun w => ?_)
  refine sxc_env (l' := []) rfl ?_
  refine sxc_seq ?_
  refine sxc_region ?_
  refine sxo_assign rfl rfl rfl ?_
  refine sxo_nil ?_
  refine sxq_next ?_
  refine sxc_seq ?_
  refine sxc_region ?_
  refine sxo_call ent35 rfl rfl rfl (fun x1 e1 => C_L_someGraph F  x1 e1) .nil (fun x1 e1 => ?_)
  rintro ⟨a2, c3⟩
  refine sxo_call ent10 rfl rfl rfl (fun x4 e4 => C_walk_Far F x1 a2 c3 4 x4 e4) (.consG 0 rfl (nest_sl rN25_in) .nil) (fun x4 e4 => ?_)
  rintro ⟨a5, c6⟩
  refine sxo_move rfl rfl rfl ?_
  refine sxo_extract rfl rfl rfl rfl ?_
  refine sxo_extract rfl rfl rfl rfl ?_
  refine sxo_assign rfl rfl rfl ?_
  refine sxo_assign rfl rfl rfl ?_
  refine sxo_nil ?_
  refine sxq_next ?_
  refine sxc_seq ?_
  refine sxc_region ?_
  refine sxo_call ent35 rfl rfl rfl (fun x7 e7 => C_L_someGraph F  x7 e7) .nil (fun x7 e7 => ?_)
  rintro ⟨a8, c9⟩
  refine sxo_call ent11 rfl rfl rfl (fun x10 e10 => C_walk_Way F x7 a8 c9 2 3 x10 e10) (.consG 0 rfl (nest_sl rN25_in) .nil) (fun x10 e10 => ?_)
  rintro ⟨a11, c12⟩
  refine sxo_move rfl rfl rfl ?_
  refine sxo_extract rfl rfl rfl rfl ?_
  refine sxo_extract rfl rfl rfl rfl ?_
  refine sxo_assign rfl rfl rfl ?_
  refine sxo_assign rfl rfl rfl ?_
  refine sxo_nil ?_
  refine sxq_next ?_
  refine sxc_seq ?_
  refine sxc_region ?_
  refine sxo_call ent35 rfl rfl rfl (fun x13 e13 => C_L_someGraph F  x13 e13) .nil (fun x13 e13 => ?_)
  rintro ⟨a14, c15⟩
  refine sxo_callM ent12 rfl rfl rfl (fun x16 e16 => C_walk_Parts F x13 a14 c15 x16 e16) .nil .nil (.consG 0 rfl (nest_sl rN25_in) .nil) (fun x16 e16 => ?_)
  rintro ⟨a17, c18⟩
  refine sxo_move rfl rfl rfl ?_
  refine sxo_extract rfl rfl rfl rfl ?_
  refine sxo_extract rfl rfl rfl rfl ?_
  refine sxo_assign rfl rfl rfl ?_
  refine sxo_assign rfl rfl rfl ?_
  refine sxo_nil ?_
  refine sxq_next ?_
  refine sxc_seq ?_
  refine sxc_region ?_
  refine sxo_call ent35 rfl rfl rfl (fun x19 e19 => C_L_someGraph F  x19 e19) .nil (fun x19 e19 => ?_)
  rintro ⟨a20, c21⟩
  refine sxo_call ent13 rfl rfl rfl (fun x22 e22 => C_walk_Most F x19 a20 c21 x22 e22) (.consG 0 rfl (nest_sl rN25_in) .nil) (fun x22 e22 => ?_)
  intro _
  refine sxo_move rfl rfl rfl ?_
  refine sxo_extract rfl rfl rfl rfl ?_
  refine sxo_extract rfl rfl rfl rfl ?_
  refine sxo_assign rfl rfl rfl ?_
  refine sxo_assign rfl rfl rfl ?_
  refine sxo_nil ?_
  refine sxq_next ?_
  refine sxc_seq ?_
  refine sxc_region ?_
  refine sxo_call ent35 rfl rfl rfl (fun x23 e23 => C_L_someGraph F  x23 e23) .nil (fun x23 e23 => ?_)
  rintro ⟨a24, c25⟩
  refine sxo_call ent11 rfl rfl rfl (fun x26 e26 => C_walk_Way F x23 a24 c25 3 0 x26 e26) (.consG 0 rfl (nest_sl rN25_in) .nil) (fun x26 e26 => ?_)
  rintro ⟨a27, c28⟩
  refine sxo_move rfl rfl rfl ?_
  refine sxo_extract rfl rfl rfl rfl ?_
  refine sxo_extract rfl rfl rfl rfl ?_
  refine sxo_assign rfl rfl rfl ?_
  refine sxo_assign rfl rfl rfl ?_
  refine sxo_nil ?_
  refine sxq_next ?_
  refine sxc_seq ?_
  refine sxc_region ?_
  refine sxo_move rfl rfl rfl ?_
  refine sxo_slit (vs := [.int .i64 (-1), .int .i64 (-1), .int .i64 (-1), .int .i64 (-1), .int .i64 0, .int .i64 (-1)]) (ys := ([-1, -1, -1, -1, 0, -1] : List Int)) (eI_ok .i64) (by decide) rfl Try.underlying25 tf3 rfl rfl rfl rfl rfl (by decide) (fun a29 c30 => ?_)
  refine sxo_call ent19 rfl rfl rfl (fun x31 e31 => C_R_SameInts F x4.1 a5 c6 ([-1, -1, -1, -1, 0, -1] : List Int) a29 c30 x31 e31) (.consR 8 (Ro (eI .i64) 3 1 (.slice a5 x4.1.length c6) x4.1) rfl (.consR 0 (Ro (eI .i64) 3 1 (.slice a29 ([-1, -1, -1, -1, 0, -1] : List Int).length c30) ([-1, -1, -1, -1, 0, -1] : List Int)) rfl .nil)) (fun x31 e31 => ?_)
  intro _
  refine sxo_move rfl rfl rfl ?_
  refine sxo_case 3 x31 [(3, .slice a11 x10.1.length c12), (4, .int .i64 x10.2), (5, .slice a17 x16.1.length c18), (6, .int .i64 x16.2), (7, .int .i64 x22.1), (8, .int .i64 x22.2), (10, .int .i64 x26.2), (42, .bool (x31 && ((x4.2 : Int) == 0)))] (fun h32 => ?_) (fun h32 => ?_) ?_
  · refine sxo_take (os := _) rfl ?_
    refine sxo_isT (k := 39) rfl h32 ?_
    refine sxo_move rfl rfl rfl ?_
    refine sxo_eql rfl rfl rfl rfl ?_
    refine sxo_pick (b := true) rfl rfl rfl rfl ?_
    refine sxo_again (d := 42) (v := .bool (x31 && ((x4.2 : Int) == 0))) rfl (by rw [h32]; simp only [Bool.true_and]) ?_
    refine sxo_nil ?_
    exact sxq_case (lk_cons rfl (lk_cons rfl (lk_cons rfl (lk_cons rfl (lk_cons rfl (lk_cons rfl (lk_cons rfl (lk_cons rfl lk_nil))))))))
  · refine sxo_take (os := _) rfl ?_
    refine sxo_isF (k := 39) rfl h32 ?_
    refine sxo_skip rfl rfl rfl ?_
    refine sxo_skip rfl rfl rfl ?_
    refine sxo_pick (b := false) rfl rfl rfl rfl ?_
    refine sxo_again (d := 42) (v := .bool (x31 && ((x4.2 : Int) == 0))) rfl (by rw [h32]; simp only [Bool.false_and]) ?_
    refine sxo_nil ?_
    exact sxq_case (lk_cons rfl (lk_cons rfl (lk_cons rfl (lk_cons rfl (lk_cons rfl (lk_cons rfl (lk_cons rfl (lk_cons rfl lk_nil))))))))
  refine sxo_take (os := _) rfl ?_
  refine sxo_move rfl rfl rfl ?_
  refine sxo_join 4 (fun ((x37, _) : (Bool × Unit)) => [(4, .int .i64 x10.2), (5, .slice a17 x16.1.length c18), (6, .int .i64 x16.2), (7, .int .i64 x22.1), (8, .int .i64 x22.2), (10, .int .i64 x26.2), (47, .bool x37)]) (fun ((x37, _) : (Bool × Unit)) => []) (fun ((x37, _) : (Bool × Unit)) => [Ro (eI .i64) 3 1 (.slice a17 x16.1.length c18) x16.1]) (fun ((x37, _) : (Bool × Unit)) => []) (fun ((x37, _) : (Bool × Unit)) => M_L_walkBegun_j1 F x10 x16 x22 x26 x37) ?_ ?_
  · refine sxo_take (os := _) rfl ?_
    refine sxo_if (fun h33 => ?_) (fun h33 => ?_)
    · refine sxo_isT (k := 43) rfl h33 ?_
      refine sxo_move rfl rfl rfl ?_
      refine sxo_slit (vs := [.int .i64 2, .int .i64 3]) (ys := ([2, 3] : List Int)) (eI_ok .i64) (by decide) rfl Try.underlying25 tf3 rfl rfl rfl rfl rfl (by decide) (fun a51 c52 => ?_)
      refine sxo_call ent19 rfl rfl rfl (fun x53 e53 => C_R_SameInts F x10.1 a11 c12 ([2, 3] : List Int) a51 c52 x53 e53) (.consR 7 (Ro (eI .i64) 3 1 (.slice a11 x10.1.length c12) x10.1) rfl (.consR 0 (Ro (eI .i64) 3 1 (.slice a51 ([2, 3] : List Int).length c52) ([2, 3] : List Int)) rfl .nil)) (fun x53 e53 => ?_)
      intro _
      refine sxo_pick (b := true) rfl rfl rfl rfl ?_
      refine sxo_nil ?_
      exact sxq_meetP (x53, ()) (lk_cons rfl (lk_cons rfl (lk_cons rfl (lk_cons rfl (lk_cons rfl (lk_cons rfl (lk_cons rfl lk_nil))))))) .nil (.cons 5 rfl .nil) fk_nil
    · refine sxo_isF (k := 43) rfl h33 ?_
      refine sxo_skip rfl rfl rfl ?_
      refine sxo_skip rfl rfl rfl ?_
      refine sxo_skip rfl rfl rfl ?_
      refine sxo_pick (b := false) rfl rfl rfl rfl ?_
      refine sxo_nil ?_
      exact sxq_meetP (false, ()) (lk_cons rfl (lk_cons rfl (lk_cons rfl (lk_cons rfl (lk_cons rfl (lk_cons rfl (lk_cons rfl lk_nil))))))) .nil (.cons 4 rfl .nil) fk_nil
  · rintro ⟨x37, _⟩
    try dsimp only
    refine sxo_take (os := _) rfl ?_
    refine sxo_move rfl rfl rfl ?_
    refine sxo_case 3 x37 [(5, .slice a17 x16.1.length c18), (6, .int .i64 x16.2), (7, .int .i64 x22.1), (8, .int .i64 x22.2), (10, .int .i64 x26.2), (51, .bool (x37 && ((x10.2 : Int) == 0)))] (fun h38 => ?_) (fun h38 => ?_) ?_
    · refine sxo_take (os := _) rfl ?_
      refine sxo_isT (k := 48) rfl h38 ?_
      refine sxo_move rfl rfl rfl ?_
      refine sxo_eql rfl rfl rfl rfl ?_
      refine sxo_pick (b := true) rfl rfl rfl rfl ?_
      refine sxo_again (d := 51) (v := .bool (x37 && ((x10.2 : Int) == 0))) rfl (by rw [h38]; simp only [Bool.true_and]) ?_
      refine sxo_nil ?_
      exact sxq_case (lk_cons rfl (lk_cons rfl (lk_cons rfl (lk_cons rfl (lk_cons rfl (lk_cons rfl lk_nil))))))
    · refine sxo_take (os := _) rfl ?_
      refine sxo_isF (k := 48) rfl h38 ?_
      refine sxo_skip rfl rfl rfl ?_
      refine sxo_skip rfl rfl rfl ?_
      refine sxo_pick (b := false) rfl rfl rfl rfl ?_
      refine sxo_again (d := 51) (v := .bool (x37 && ((x10.2 : Int) == 0))) rfl (by rw [h38]; simp only [Bool.false_and]) ?_
      refine sxo_nil ?_
      exact sxq_case (lk_cons rfl (lk_cons rfl (lk_cons rfl (lk_cons rfl (lk_cons rfl (lk_cons rfl lk_nil))))))
    refine sxo_take (os := _) rfl ?_
    refine sxo_move rfl rfl rfl ?_
    refine sxo_join 4 (fun ((x43, _) : (Bool × Unit)) => [(6, .int .i64 x16.2), (7, .int .i64 x22.1), (8, .int .i64 x22.2), (10, .int .i64 x26.2), (56, .bool x43)]) (fun ((x43, _) : (Bool × Unit)) => []) (fun ((x43, _) : (Bool × Unit)) => []) (fun ((x43, _) : (Bool × Unit)) => []) (fun ((x43, _) : (Bool × Unit)) => M_L_walkBegun_j2 F x16 x22 x26 x43) ?_ ?_
    · refine sxo_take (os := _) rfl ?_
      refine sxo_if (fun h39 => ?_) (fun h39 => ?_)
      · refine sxo_isT (k := 52) rfl h39 ?_
        refine sxo_move rfl rfl rfl ?_
        refine sxo_slit (vs := [.int .i64 0, .int .i64 0, .int .i64 0, .int .i64 0, .int .i64 4, .int .i64 0]) (ys := ([0, 0, 0, 0, 4, 0] : List Int)) (eI_ok .i64) (by decide) rfl Try.underlying25 tf3 rfl rfl rfl rfl rfl (by decide) (fun a48 c49 => ?_)
        refine sxo_call ent19 rfl rfl rfl (fun x50 e50 => C_R_SameInts F x16.1 a17 c18 ([0, 0, 0, 0, 4, 0] : List Int) a48 c49 x50 e50) (.consR 1 (Ro (eI .i64) 3 1 (.slice a17 x16.1.length c18) x16.1) rfl (.consR 0 (Ro (eI .i64) 3 1 (.slice a48 ([0, 0, 0, 0, 4, 0] : List Int).length c49) ([0, 0, 0, 0, 4, 0] : List Int)) rfl .nil)) (fun x50 e50 => ?_)
        intro _
        refine sxo_pick (b := true) rfl rfl rfl rfl ?_
        refine sxo_nil ?_
        exact sxq_meetP (x50, ()) (lk_cons rfl (lk_cons rfl (lk_cons rfl (lk_cons rfl (lk_cons rfl lk_nil))))) .nil .nil fk_nil
      · refine sxo_isF (k := 52) rfl h39 ?_
        refine sxo_skip rfl rfl rfl ?_
        refine sxo_skip rfl rfl rfl ?_
        refine sxo_skip rfl rfl rfl ?_
        refine sxo_pick (b := false) rfl rfl rfl rfl ?_
        refine sxo_nil ?_
        exact sxq_meetP (false, ()) (lk_cons rfl (lk_cons rfl (lk_cons rfl (lk_cons rfl (lk_cons rfl lk_nil))))) .nil .nil fk_nil
    · rintro ⟨x43, _⟩
      try dsimp only
      refine sxo_take (os := _) rfl ?_
      refine sxo_move rfl rfl rfl ?_
      refine sxo_case 3 x43 [(7, .int .i64 x22.1), (8, .int .i64 x22.2), (10, .int .i64 x26.2), (60, .bool (x43 && ((x16.2 : Int) == 0)))] (fun h44 => ?_) (fun h44 => ?_) ?_
      · refine sxo_take (os := _) rfl ?_
        refine sxo_isT (k := 57) rfl h44 ?_
        refine sxo_move rfl rfl rfl ?_
        refine sxo_eql rfl rfl rfl rfl ?_
        refine sxo_pick (b := true) rfl rfl rfl rfl ?_
        refine sxo_again (d := 60) (v := .bool (x43 && ((x16.2 : Int) == 0))) rfl (by rw [h44]; simp only [Bool.true_and]) ?_
        refine sxo_nil ?_
        exact sxq_case (lk_cons rfl (lk_cons rfl (lk_cons rfl (lk_cons rfl lk_nil))))
      · refine sxo_take (os := _) rfl ?_
        refine sxo_isF (k := 57) rfl h44 ?_
        refine sxo_skip rfl rfl rfl ?_
        refine sxo_skip rfl rfl rfl ?_
        refine sxo_pick (b := false) rfl rfl rfl rfl ?_
        refine sxo_again (d := 60) (v := .bool (x43 && ((x16.2 : Int) == 0))) rfl (by rw [h44]; simp only [Bool.false_and]) ?_
        refine sxo_nil ?_
        exact sxq_case (lk_cons rfl (lk_cons rfl (lk_cons rfl (lk_cons rfl lk_nil))))
      refine sxo_take (os := _) rfl ?_
      refine sxo_move rfl rfl rfl ?_
      refine sxo_case 3 (x43 && ((x16.2 : Int) == 0)) [(8, .int .i64 x22.2), (10, .int .i64 x26.2), (64, .bool ((x43 && ((x16.2 : Int) == 0)) && ((x22.1 : Int) == 2)))] (fun h45 => ?_) (fun h45 => ?_) ?_
      · refine sxo_take (os := _) rfl ?_
        refine sxo_isT (k := 61) rfl h45 ?_
        refine sxo_move rfl rfl rfl ?_
        refine sxo_eql rfl rfl rfl rfl ?_
        refine sxo_pick (b := true) rfl rfl rfl rfl ?_
        refine sxo_again (d := 64) (v := .bool ((x43 && ((x16.2 : Int) == 0)) && ((x22.1 : Int) == 2))) rfl (by rw [h45]; simp only [Bool.true_and]) ?_
        refine sxo_nil ?_
        exact sxq_case (lk_cons rfl (lk_cons rfl (lk_cons rfl lk_nil)))
      · refine sxo_take (os := _) rfl ?_
        refine sxo_isF (k := 61) rfl h45 ?_
        refine sxo_skip rfl rfl rfl ?_
        refine sxo_skip rfl rfl rfl ?_
        refine sxo_pick (b := false) rfl rfl rfl rfl ?_
        refine sxo_again (d := 64) (v := .bool ((x43 && ((x16.2 : Int) == 0)) && ((x22.1 : Int) == 2))) rfl (by rw [h45]; simp only [Bool.false_and]) ?_
        refine sxo_nil ?_
        exact sxq_case (lk_cons rfl (lk_cons rfl (lk_cons rfl lk_nil)))
      refine sxo_take (os := _) rfl ?_
      refine sxo_move rfl rfl rfl ?_
      refine sxo_case 3 ((x43 && ((x16.2 : Int) == 0)) && ((x22.1 : Int) == 2)) [(10, .int .i64 x26.2), (68, .bool (((x43 && ((x16.2 : Int) == 0)) && ((x22.1 : Int) == 2)) && ((x22.2 : Int) == 0)))] (fun h46 => ?_) (fun h46 => ?_) ?_
      · refine sxo_take (os := _) rfl ?_
        refine sxo_isT (k := 65) rfl h46 ?_
        refine sxo_move rfl rfl rfl ?_
        refine sxo_eql rfl rfl rfl rfl ?_
        refine sxo_pick (b := true) rfl rfl rfl rfl ?_
        refine sxo_again (d := 68) (v := .bool (((x43 && ((x16.2 : Int) == 0)) && ((x22.1 : Int) == 2)) && ((x22.2 : Int) == 0))) rfl (by rw [h46]; simp only [Bool.true_and]) ?_
        refine sxo_nil ?_
        exact sxq_case (lk_cons rfl (lk_cons rfl lk_nil))
      · refine sxo_take (os := _) rfl ?_
        refine sxo_isF (k := 65) rfl h46 ?_
        refine sxo_skip rfl rfl rfl ?_
        refine sxo_skip rfl rfl rfl ?_
        refine sxo_pick (b := false) rfl rfl rfl rfl ?_
        refine sxo_again (d := 68) (v := .bool (((x43 && ((x16.2 : Int) == 0)) && ((x22.1 : Int) == 2)) && ((x22.2 : Int) == 0))) rfl (by rw [h46]; simp only [Bool.false_and]) ?_
        refine sxo_nil ?_
        exact sxq_case (lk_cons rfl (lk_cons rfl lk_nil))
      refine sxo_take (os := _) rfl ?_
      refine sxo_move rfl rfl rfl ?_
      refine sxo_case 3 (((x43 && ((x16.2 : Int) == 0)) && ((x22.1 : Int) == 2)) && ((x22.2 : Int) == 0)) [(72, .bool ((((x43 && ((x16.2 : Int) == 0)) && ((x22.1 : Int) == 2)) && ((x22.2 : Int) == 0)) && ((x26.2 : Int) == 5)))] (fun h47 => ?_) (fun h47 => ?_) ?_
      · refine sxo_take (os := _) rfl ?_
        refine sxo_isT (k := 69) rfl h47 ?_
        refine sxo_move rfl rfl rfl ?_
        refine sxo_eql rfl rfl rfl rfl ?_
        refine sxo_pick (b := true) rfl rfl rfl rfl ?_
        refine sxo_again (d := 72) (v := .bool ((((x43 && ((x16.2 : Int) == 0)) && ((x22.1 : Int) == 2)) && ((x22.2 : Int) == 0)) && ((x26.2 : Int) == 5))) rfl (by rw [h47]; simp only [Bool.true_and]) ?_
        refine sxo_nil ?_
        exact sxq_case (lk_cons rfl lk_nil)
      · refine sxo_take (os := _) rfl ?_
        refine sxo_isF (k := 69) rfl h47 ?_
        refine sxo_skip rfl rfl rfl ?_
        refine sxo_skip rfl rfl rfl ?_
        refine sxo_pick (b := false) rfl rfl rfl rfl ?_
        refine sxo_again (d := 72) (v := .bool ((((x43 && ((x16.2 : Int) == 0)) && ((x22.1 : Int) == 2)) && ((x22.2 : Int) == 0)) && ((x26.2 : Int) == 5))) rfl (by rw [h47]; simp only [Bool.false_and]) ?_
        refine sxo_nil ?_
        exact sxq_case (lk_cons rfl lk_nil)
      refine sxo_take (os := _) rfl ?_
      refine sxo_assign rfl rfl rfl ?_
      refine sxo_nil ?_
      refine sxq_next ?_
      refine sxc_ret ?_
      exact sxq_doneP () (.inl rfl) (res1 rfl rfl) (fun h => by subst h; rfl) (fun h => by subst h; exact .nil)

set_option maxHeartbeats 4000000 in
theorem C_L_WalkTells (F : Nat) (x1 : List (List Int)) (a2 : Option Addr) (c3 : (Nat × List (Option Addr × Nat))) (x4 : Int) (x5 : Int) (r : Bool) (hm : M_L_WalkTells F x1 x4 x5 = some r) :
    Pure Try.prog 3 [.agg #[.slice a2 x1.length c3.1], .int .i64 x4, .int .i64 x5] [SlN eN25 iN25 1 (.slice a2 x1.length c3.1) x1 c3.2] Unit (fun _ => .bool r) (fun _ => []) (fun _ => []) := by
  refine pure_of Try.func3 rfl Try.ntmps3 rfl hm (fun w => ?_)
  refine sxc_env (l' := [(0, .agg #[.slice a2 x1.length c3.1]), (1, .int .i64 x4), (2, .int .i64 x5)]) rfl ?_
  refine sxc_seq ?_
  refine sxc_region ?_
  refine sxo_box rfl rfl rfl (fun g6 => ?_)
  refine sxo_assign rfl rfl rfl ?_
  refine sxo_nil ?_
  refine sxq_next ?_
  refine sxc_seq ?_
  refine sxc_region ?_
  refine sxo_loadB (i := 0) rfl rfl tf24 rfl rfl (by simp) rfl rfl ?_
  refine sxo_move rfl rfl rfl ?_
  refine sxo_call ent10 rfl rfl rfl (fun x7 e7 => C_walk_Far F x1 a2 c3 x4 x7 e7) (.consF 0 rfl .nil) (fun x7 e7 => ?_)
  rintro ⟨a8, c9⟩
  refine sxo_move rfl rfl rfl ?_
  refine sxo_extract rfl rfl rfl rfl ?_
  refine sxo_extract rfl rfl rfl rfl ?_
  refine sxo_assign rfl rfl rfl ?_
  refine sxo_assign rfl rfl rfl ?_
  refine sxo_nil ?_
  refine sxq_next ?_
  refine sxc_seq ?_
  refine sxc_region ?_
  refine sxo_loadB (i := 0) rfl rfl tf24 rfl rfl (by simp) rfl rfl ?_
  refine sxo_move rfl rfl rfl ?_
  refine sxo_move rfl rfl rfl ?_
  refine sxo_call ent11 rfl rfl rfl (fun x10 e10 => C_walk_Way F x1 a2 c3 x4 x5 x10 e10) (.consF 0 rfl .nil) (fun x10 e10 => ?_)
  rintro ⟨a11, c12⟩
  refine sxo_move rfl rfl rfl ?_
  refine sxo_extract rfl rfl rfl rfl ?_
  refine sxo_extract rfl rfl rfl rfl ?_
  refine sxo_assign rfl rfl rfl ?_
  refine sxo_assign rfl rfl rfl ?_
  refine sxo_nil ?_
  refine sxq_next ?_
  refine sxc_seq ?_
  refine sxc_region ?_
  refine sxo_loadB (i := 0) rfl rfl tf24 rfl rfl (by simp) rfl rfl ?_
  refine sxo_callM ent12 rfl rfl rfl (fun x13 e13 => C_walk_Parts F x1 a2 c3 x13 e13) .nil .nil (.consF 0 rfl .nil) (fun x13 e13 => ?_)
  rintro ⟨a14, c15⟩
  refine sxo_move rfl rfl rfl ?_
  refine sxo_extract rfl rfl rfl rfl ?_
  refine sxo_extract rfl rfl rfl rfl ?_
  refine sxo_assign rfl rfl rfl ?_
  refine sxo_assign rfl rfl rfl ?_
  refine sxo_nil ?_
  refine sxq_next ?_
  refine sxc_seq ?_
  refine sxc_region ?_
  refine sxo_loadB (i := 0) rfl rfl tf24 rfl rfl (by simp) rfl rfl ?_
  refine sxo_call ent13 rfl rfl rfl (fun x16 e16 => C_walk_Most F x1 a2 c3 x16 e16) (.consF 0 rfl .nil) (fun x16 e16 => ?_)
  intro _
  refine sxo_move rfl rfl rfl ?_
  refine sxo_extract rfl rfl rfl rfl ?_
  refine sxo_extract rfl rfl rfl rfl ?_
  refine sxo_assign rfl rfl rfl ?_
  refine sxo_assign rfl rfl rfl ?_
  refine sxo_nil ?_
  refine sxq_next ?_
  refine sxc_seq ?_
  refine sxc_region ?_
  refine sxo_loadB (i := 0) rfl rfl tf24 rfl rfl (by simp) rfl rfl ?_
  refine sxo_call ent14 rfl rfl rfl (fun x17 e17 => C_R_GraphCheck F x1 a2 c3 x17 e17) (.consF 0 rfl .nil) (fun x17 e17 => ?_)
  intro _
  refine sxo_assign rfl rfl rfl ?_
  refine sxo_nil ?_
  refine sxq_next ?_
  refine sxc_seq ?_
  refine sxc_region ?_
  refine sxo_fieldAddr rfl rfl ff24_0 rfl ?_
  refine sxo_loadB (i := 0) rfl rfl tf22 rfl rfl (fun _ => rfl) rfl rfl ?_
  refine sxo_len rfl Try.underlying22 rfl rfl ?_
  refine sxo_assign rfl rfl rfl ?_
  refine sxo_nil ?_
  refine sxq_next ?_
  refine sxc_seq ?_
  refine sxc_region ?_
  refine sxo_move rfl rfl rfl ?_
  refine sxo_move rfl rfl rfl ?_
  refine sxo_assign rfl rfl rfl ?_
  refine sxo_assign rfl rfl rfl ?_
  refine sxo_nil ?_
  refine sxq_next ?_
  refine sxc_seq ?_
  refine sxc_region ?_
  refine sxo_assign rfl rfl rfl ?_
  refine sxo_assign rfl rfl rfl ?_
  refine sxo_assign rfl rfl rfl ?_
  refine sxo_nil ?_
  refine sxq_next ?_
  refine sxc_seq ?_
  refine sxc_region ?_
  refine sxo_assign rfl rfl rfl ?_
  refine sxo_nil ?_
  refine sxq_next ?_
  refine sxc_join (fun (((x436, x437, x440, x443, x446, x447), (a438, c439, a441, c442, a444, c445)) : ((Int × Int × List Int × List Int × List Int × Int) × (Option Addr × Nat × Option Addr × Nat × Option Addr × Nat))) => [(7, .slice a8 x7.1.length c9), (8, .int .i64 x7.2), (9, .slice a11 x10.1.length c12), (10, .int .i64 x10.2), (11, .slice a14 x13.1.length c15), (12, .int .i64 x13.2), (13, .int .i64 x16.1), (14, .int .i64 x16.2), (15, .int .i64 x17), (17, .int .i64 x436), (18, .int .i64 x437), (19, .slice a438 x440.length c439), (20, .slice a441 x443.length c442), (21, .slice a444 x446.length c445), (22, .int .i64 x447)]) (fun (((x436, x437, x440, x443, x446, x447), (a438, c439, a441, c442, a444, c445)) : ((Int × Int × List Int × List Int × List Int × Int) × (Option Addr × Nat × Option Addr × Nat × Option Addr × Nat))) => []) (fun (((x436, x437, x440, x443, x446, x447), (a438, c439, a441, c442, a444, c445)) : ((Int × Int × List Int × List Int × List Int × Int) × (Option Addr × Nat × Option Addr × Nat × Option Addr × Nat))) => [Ro (eI .i64) 3 1 (.slice a8 x7.1.length c9) x7.1, Ro (eI .i64) 3 1 (.slice a11 x10.1.length c12) x10.1, Ro (eI .i64) 3 1 (.slice a14 x13.1.length c15) x13.1, Ro (eI .i64) 3 1 (.slice a438 x440.length c439) x440, Ro (eI .i64) 3 1 (.slice a441 x443.length c442) x443, Ro (eI .i64) 3 1 (.slice a444 x446.length c445) x446]) (fun (((x436, x437, x440, x443, x446, x447), (a438, c439, a441, c442, a444, c445)) : ((Int × Int × List Int × List Int × List Int × Int) × (Option Addr × Nat × Option Addr × Nat × Option Addr × Nat))) => []) (fun (((x436, x437, x440, x443, x446, x447), _) : ((Int × Int × List Int × List Int × List Int × Int) × (Option Addr × Nat × Option Addr × Nat × Option Addr × Nat))) => M_L_WalkTells_j22 F x7 x10 x13 x16 x17 x436 x437 x440 x443 x446 x447) ?_ ?_
  · refine sxc_seq ?_
    refine sxc_region ?_
    refine sxo_move rfl rfl rfl ?_
    refine sxo_eql rfl rfl rfl rfl ?_
    refine sxo_nil ?_
    refine sxq_next ?_
    refine sxc_if rfl (fun h868 => ?_) (fun h868 => ?_)
    · refine sxc_seq ?_
      refine sxc_region ?_
      refine sxo_loadB (i := 0) rfl rfl tf24 rfl rfl (by simp) rfl rfl ?_
      refine sxo_call ent15 rfl rfl rfl (fun x466 e466 => C_R_WalkParts F x1 a2 c3 x466 e466) (.consF 0 rfl .nil) (fun x466 e466 => ?_)
      rintro ⟨a467, c468⟩
      refine sxo_assign rfl rfl rfl ?_
      refine sxo_nil ?_
      refine sxq_next ?_
      refine sxc_join (fun ((x661, _) : (Int × Unit)) => [(1, .int .i64 x4), (2, .int .i64 x5), (3, .pointer (some ⟨g6, 0, none⟩)), (7, .slice a8 x7.1.length c9), (8, .int .i64 x7.2), (9, .slice a11 x10.1.length c12), (10, .int .i64 x10.2), (11, .slice a14 x13.1.length c15), (12, .int .i64 x13.2), (13, .int .i64 x16.1), (14, .int .i64 x16.2), (15, .int .i64 x17), (16, .int .i64 (x1.length : Int)), (17, .int .i64 x17), (18, .int .i64 x17), (19, .slice none 0 0), (20, .slice none 0 0), (21, .slice a467 x466.length c468), (22, .int .i64 x661)]) (fun ((x661, _) : (Int × Unit)) => [⟨g6, 24, [.slice a2 x1.length c3.1]⟩]) (fun ((x661, _) : (Int × Unit)) => [Ro (eI .i64) 3 1 (.slice a8 x7.1.length c9) x7.1, Ro (eI .i64) 3 1 (.slice a11 x10.1.length c12) x10.1, Ro (eI .i64) 3 1 (.slice a14 x13.1.length c15) x13.1, Ro (eI .i64) 3 1 (.slice a467 x466.length c468) x466]) (fun ((x661, _) : (Int × Unit)) => [SlN eN25 iN25 1 (.slice a2 x1.length c3.1) x1 c3.2]) (fun ((x661, _) : (Int × Unit)) => M_L_WalkTells_j36 F x1 x4 x5 x7 x10 x13 x16 x17 x466 x661) ?_ ?_
      · refine sxc_seq ?_
        refine sxc_region ?_
        refine sxo_assign rfl rfl rfl ?_
        refine sxo_nil ?_
        refine sxq_next ?_
        refine sxc_block ?_
        refine sxc_loopP (fun (((x739, x740), _) : ((Int × Int) × Unit)) => [(1, .int .i64 x4), (2, .int .i64 x5), (3, .pointer (some ⟨g6, 0, none⟩)), (7, .slice a8 x7.1.length c9), (8, .int .i64 x7.2), (9, .slice a11 x10.1.length c12), (10, .int .i64 x10.2), (11, .slice a14 x13.1.length c15), (12, .int .i64 x13.2), (13, .int .i64 x16.1), (14, .int .i64 x16.2), (15, .int .i64 x17), (16, .int .i64 (x1.length : Int)), (17, .int .i64 x17), (18, .int .i64 x17), (19, .slice none 0 0), (20, .slice none 0 0), (21, .slice a467 x466.length c468), (22, .int .i64 x739), (23, .int .i64 x740)]) (fun (((x739, x740), _) : ((Int × Int) × Unit)) => [⟨g6, 24, [.slice a2 x1.length c3.1]⟩]) (fun (((x739, x740), _) : ((Int × Int) × Unit)) => [Ro (eI .i64) 3 1 (.slice a8 x7.1.length c9) x7.1, Ro (eI .i64) 3 1 (.slice a11 x10.1.length c12) x10.1, Ro (eI .i64) 3 1 (.slice a14 x13.1.length c15) x13.1, Ro (eI .i64) 3 1 (.slice a467 x466.length c468) x466]) (fun (((x739, x740), _) : ((Int × Int) × Unit)) => [SlN eN25 iN25 1 (.slice a2 x1.length c3.1) x1 c3.2]) (fun k (s : ((Int × Int) × Unit)) => M_L_WalkTells_l43 F x1 x4 x5 x7 x10 x13 x16 x17 x466 k s.1) ((0, 0), ()) F (lk_cons rfl (lk_cons rfl (lk_cons rfl (lk_cons rfl (lk_cons rfl (lk_cons rfl (lk_cons rfl (lk_cons rfl (lk_cons rfl (lk_cons rfl (lk_cons rfl (lk_cons rfl (lk_cons rfl (lk_cons rfl (lk_cons rfl (lk_cons rfl (lk_cons rfl (lk_cons rfl (lk_cons rfl (lk_cons rfl lk_nil)))))))))))))))))))) (.cons 0 rfl .nil) (.cons 3 rfl (.cons 2 rfl (.cons 1 rfl (.cons 0 rfl .nil)))) (fk_cons 0 rfl fk_nil) (fun _ => rfl) ?_
        intro k804
        rintro ⟨⟨x739, x740⟩, _⟩
        try dsimp only
        refine sxc_meq (m' := M_L_WalkTells_b43 F x1 x4 x5 x7 x10 x13 x16 x17 x466 (M_L_WalkTells_l43 F x1 x4 x5 x7 x10 x13 x16 x17 x466 k804) x739 x740) rfl ?_
        refine sxc_seq ?_
        refine sxc_seq ?_
        refine sxc_region ?_
        refine sxo_move rfl rfl rfl ?_
        refine sxo_move rfl rfl rfl ?_
        refine sxo_lss rfl rfl rfl rfl ?_
        refine sxo_nil ?_
        refine sxq_next ?_
        refine sxc_if rfl (fun h867 => ?_) (fun h867 => ?_)
        · refine sxc_skip ?_
          refine sxq_next ?_
          refine sxc_join (fun ((x836, _) : (Int × Unit)) => [(1, .int .i64 x4), (2, .int .i64 x5), (3, .pointer (some ⟨g6, 0, none⟩)), (7, .slice a8 x7.1.length c9), (8, .int .i64 x7.2), (9, .slice a11 x10.1.length c12), (10, .int .i64 x10.2), (11, .slice a14 x13.1.length c15), (12, .int .i64 x13.2), (13, .int .i64 x16.1), (14, .int .i64 x16.2), (15, .int .i64 x17), (16, .int .i64 (x1.length : Int)), (17, .int .i64 x17), (18, .int .i64 x17), (19, .slice none 0 0), (20, .slice none 0 0), (21, .slice a467 x466.length c468), (22, .int .i64 x836), (23, .int .i64 x740)]) (fun ((x836, _) : (Int × Unit)) => [⟨g6, 24, [.slice a2 x1.length c3.1]⟩]) (fun ((x836, _) : (Int × Unit)) => [Ro (eI .i64) 3 1 (.slice a8 x7.1.length c9) x7.1, Ro (eI .i64) 3 1 (.slice a11 x10.1.length c12) x10.1, Ro (eI .i64) 3 1 (.slice a14 x13.1.length c15) x13.1, Ro (eI .i64) 3 1 (.slice a467 x466.length c468) x466]) (fun ((x836, _) : (Int × Unit)) => [SlN eN25 iN25 1 (.slice a2 x1.length c3.1) x1 c3.2]) (fun ((x836, _) : (Int × Unit)) => M_L_WalkTells_j45 F (M_L_WalkTells_l43 F x1 x4 x5 x7 x10 x13 x16 x17 x466 k804) x740 x836) ?_ ?_
          · refine sxc_block ?_
            refine sxc_seq ?_
            refine sxc_region ?_
            refine sxo_loadB (i := 0) rfl rfl tf24 rfl rfl (by simp) rfl rfl ?_
            refine sxo_move rfl rfl rfl ?_
            refine sxo_call ent16 rfl rfl rfl (fun x837 e837 => C_R_WalkFar F x1 a2 c3 x740 x837 e837) (.consF 0 rfl .nil) (fun x837 e837 => ?_)
            rintro ⟨a838, c839⟩
            refine sxo_assign rfl rfl rfl ?_
            refine sxo_nil ?_
            refine sxq_next ?_
            refine sxc_seq ?_
            refine sxc_region ?_
            refine sxo_assign rfl rfl rfl ?_
            refine sxo_nil ?_
            refine sxq_next ?_
            refine sxc_block ?_
            refine sxc_loopP (fun (((x848, x849), _) : ((Int × Int) × Unit)) => [(1, .int .i64 x4), (2, .int .i64 x5), (3, .pointer (some ⟨g6, 0, none⟩)), (7, .slice a8 x7.1.length c9), (8, .int .i64 x7.2), (9, .slice a11 x10.1.length c12), (10, .int .i64 x10.2), (11, .slice a14 x13.1.length c15), (12, .int .i64 x13.2), (13, .int .i64 x16.1), (14, .int .i64 x16.2), (15, .int .i64 x17), (16, .int .i64 (x1.length : Int)), (17, .int .i64 x17), (18, .int .i64 x17), (19, .slice none 0 0), (20, .slice none 0 0), (21, .slice a467 x466.length c468), (22, .int .i64 x848), (23, .int .i64 x740), (24, .slice a838 x837.length c839), (25, .int .i64 x849)]) (fun (((x848, x849), _) : ((Int × Int) × Unit)) => [⟨g6, 24, [.slice a2 x1.length c3.1]⟩]) (fun (((x848, x849), _) : ((Int × Int) × Unit)) => [Ro (eI .i64) 3 1 (.slice a8 x7.1.length c9) x7.1, Ro (eI .i64) 3 1 (.slice a11 x10.1.length c12) x10.1, Ro (eI .i64) 3 1 (.slice a14 x13.1.length c15) x13.1, Ro (eI .i64) 3 1 (.slice a467 x466.length c468) x466, Ro (eI .i64) 3 1 (.slice a838 x837.length c839) x837]) (fun (((x848, x849), _) : ((Int × Int) × Unit)) => [SlN eN25 iN25 1 (.slice a2 x1.length c3.1) x1 c3.2]) (fun k (s : ((Int × Int) × Unit)) => M_L_WalkTells_l46 F (M_L_WalkTells_l43 F x1 x4 x5 x7 x10 x13 x16 x17 x466 k804) x1 x740 x837 k s.1) ((x739, 0), ()) F (lk_cons rfl (lk_cons rfl (lk_cons rfl (lk_cons rfl (lk_cons rfl (lk_cons rfl (lk_cons rfl (lk_cons rfl (lk_cons rfl (lk_cons rfl (lk_cons rfl (lk_cons rfl (lk_cons rfl (lk_cons rfl (lk_cons rfl (lk_cons rfl (lk_cons rfl (lk_cons rfl (lk_cons rfl (lk_cons rfl (lk_cons rfl (lk_cons rfl lk_nil)))))))))))))))))))))) (.cons 0 rfl .nil) (.cons 1 rfl (.cons 1 rfl (.cons 1 rfl (.cons 1 rfl (.cons 0 rfl .nil))))) (fk_cons 0 rfl fk_nil) (fun _ => rfl) ?_
            intro k858
            rintro ⟨⟨x848, x849⟩, _⟩
            try dsimp only
            refine sxc_meq (m' := M_L_WalkTells_b46 F (M_L_WalkTells_l43 F x1 x4 x5 x7 x10 x13 x16 x17 x466 k804) x1 x740 x837 (M_L_WalkTells_l46 F (M_L_WalkTells_l43 F x1 x4 x5 x7 x10 x13 x16 x17 x466 k804) x1 x740 x837 k858) x848 x849) rfl ?_
            refine sxc_seq ?_
            refine sxc_seq ?_
            refine sxc_region ?_
            refine sxo_move rfl rfl rfl ?_
            refine sxo_move rfl rfl rfl ?_
            refine sxo_lss rfl rfl rfl rfl ?_
            refine sxo_nil ?_
            refine sxq_next ?_
            refine sxc_if rfl (fun h866 => ?_) (fun h866 => ?_)
            · refine sxc_skip ?_
              refine sxq_next ?_
              refine sxc_seq ?_
              refine sxc_block ?_
              refine sxc_region ?_
              refine sxo_move rfl rfl rfl ?_
              refine sxo_move rfl rfl rfl ?_
              refine sxo_move rfl rfl rfl ?_
              refine sxo_indexR (j := 4) rfl Try.underlying25 tf3 rfl rfl rfl rfl (fun x863 e863 g864 h865 => ?_)
              refine sxo_loadR (j := 4) (y := x863) (eI_ok .i64) rfl rfl tf3 rfl h865 (idx_get e863).2.2 (fun _ => rfl) rfl rfl ?_
              refine sxo_max rfl rfl rfl rfl ?_
              refine sxo_assign rfl rfl rfl ?_
              refine sxo_nil ?_
              refine sxq_blkN ?_
              refine sxq_next ?_
              refine sxc_region ?_
              refine sxo_move rfl rfl rfl ?_
              refine sxo_add rfl rfl rfl rfl ?_
              refine sxo_assign rfl rfl rfl ?_
              refine sxo_nil ?_
              exact sxq_againP ((imax x848 x863, iadd .i64 x849 1), ()) (lk_cons rfl (lk_cons rfl (lk_cons rfl (lk_cons rfl (lk_cons rfl (lk_cons rfl (lk_cons rfl (lk_cons rfl (lk_cons rfl (lk_cons rfl (lk_cons rfl (lk_cons rfl (lk_cons rfl (lk_cons rfl (lk_cons rfl (lk_cons rfl (lk_cons rfl (lk_cons rfl (lk_cons rfl (lk_cons rfl (lk_cons rfl (lk_cons rfl lk_nil)))))))))))))))))))))) (.cons 0 rfl .nil) (.cons 0 rfl (.cons 0 rfl (.cons 0 rfl (.cons 0 rfl (.cons 0 rfl .nil))))) (fk_cons 0 rfl fk_nil)
            · refine sxc_exit ?_
              refine sxq_thenX ?_
              refine sxq_thenX ?_
              refine sxq_blkX ?_
              refine sxq_blkN ?_
              exact sxq_meetP (x848, ()) (lk_cons rfl (lk_cons rfl (lk_cons rfl (lk_cons rfl (lk_cons rfl (lk_cons rfl (lk_cons rfl (lk_cons rfl (lk_cons rfl (lk_cons rfl (lk_cons rfl (lk_cons rfl (lk_cons rfl (lk_cons rfl (lk_cons rfl (lk_cons rfl (lk_cons rfl (lk_cons rfl (lk_cons rfl (lk_cons rfl lk_nil)))))))))))))))))))) (.cons 0 rfl .nil) (.cons 0 rfl (.cons 0 rfl (.cons 0 rfl (.cons 0 rfl .nil)))) (fk_cons 0 rfl fk_nil)
          · rintro ⟨x836, _⟩
            try dsimp only
            refine sxc_region ?_
            refine sxo_move rfl rfl rfl ?_
            refine sxo_add rfl rfl rfl rfl ?_
            refine sxo_assign rfl rfl rfl ?_
            refine sxo_nil ?_
            exact sxq_againP ((x836, iadd .i64 x740 1), ()) (lk_cons rfl (lk_cons rfl (lk_cons rfl (lk_cons rfl (lk_cons rfl (lk_cons rfl (lk_cons rfl (lk_cons rfl (lk_cons rfl (lk_cons rfl (lk_cons rfl (lk_cons rfl (lk_cons rfl (lk_cons rfl (lk_cons rfl (lk_cons rfl (lk_cons rfl (lk_cons rfl (lk_cons rfl (lk_cons rfl lk_nil)))))))))))))))))))) (.cons 0 rfl .nil) (.cons 0 rfl (.cons 0 rfl (.cons 0 rfl (.cons 0 rfl .nil)))) (fk_cons 0 rfl fk_nil)
        · refine sxc_exit ?_
          refine sxq_thenX ?_
          refine sxq_thenX ?_
          refine sxq_blkX ?_
          exact sxq_meetP (x739, ()) (lk_cons rfl (lk_cons rfl (lk_cons rfl (lk_cons rfl (lk_cons rfl (lk_cons rfl (lk_cons rfl (lk_cons rfl (lk_cons rfl (lk_cons rfl (lk_cons rfl (lk_cons rfl (lk_cons rfl (lk_cons rfl (lk_cons rfl (lk_cons rfl (lk_cons rfl (lk_cons rfl (lk_cons rfl lk_nil))))))))))))))))))) (.cons 0 rfl .nil) (.cons 0 rfl (.cons 0 rfl (.cons 0 rfl (.cons 0 rfl .nil)))) (fk_cons 0 rfl fk_nil)
      · rintro ⟨x661, _⟩
        try dsimp only
        refine sxc_seq ?_
        refine sxc_region ?_
        refine sxo_move rfl rfl rfl ?_
        refine sxo_lss rfl rfl rfl rfl ?_
        refine sxo_move rfl rfl rfl ?_
        refine sxo_case 4 (decide (x4 < 0)) [(1, .int .i64 x4), (2, .int .i64 x5), (3, .pointer (some ⟨g6, 0, none⟩)), (7, .slice a8 x7.1.length c9), (8, .int .i64 x7.2), (9, .slice a11 x10.1.length c12), (10, .int .i64 x10.2), (11, .slice a14 x13.1.length c15), (12, .int .i64 x13.2), (13, .int .i64 x16.1), (14, .int .i64 x16.2), (15, .int .i64 x17), (16, .int .i64 (x1.length : Int)), (17, .int .i64 x17), (18, .int .i64 x17), (19, .slice none 0 0), (20, .slice none 0 0), (21, .slice a467 x466.length c468), (22, .int .i64 x661), (85, .bool ((decide (x4 < 0)) || (decide ((x1.length : Int) ≤ x4))))] (fun h662 => ?_) (fun h662 => ?_) ?_
        · refine sxo_take (os := _) rfl ?_
          refine sxo_isT (k := 81) rfl h662 ?_
          refine sxo_skip rfl rfl rfl ?_
          refine sxo_skip rfl rfl rfl ?_
          refine sxo_skip rfl rfl rfl ?_
          refine sxo_pick (b := true) rfl rfl rfl rfl ?_
          refine sxo_again (d := 85) (v := .bool ((decide (x4 < 0)) || (decide ((x1.length : Int) ≤ x4)))) rfl (by rw [h662]; simp only [Bool.true_or]) ?_
          refine sxo_nil ?_
          exact sxq_case (lk_cons rfl (lk_cons rfl (lk_cons rfl (lk_cons rfl (lk_cons rfl (lk_cons rfl (lk_cons rfl (lk_cons rfl (lk_cons rfl (lk_cons rfl (lk_cons rfl (lk_cons rfl (lk_cons rfl (lk_cons rfl (lk_cons rfl (lk_cons rfl (lk_cons rfl (lk_cons rfl (lk_cons rfl (lk_cons rfl lk_nil))))))))))))))))))))
        · refine sxo_take (os := _) rfl ?_
          refine sxo_isF (k := 81) rfl h662 ?_
          refine sxo_move rfl rfl rfl ?_
          refine sxo_move rfl rfl rfl ?_
          refine sxo_geq rfl rfl rfl rfl ?_
          refine sxo_pick (b := false) rfl rfl rfl rfl ?_
          refine sxo_again (d := 85) (v := .bool ((decide (x4 < 0)) || (decide ((x1.length : Int) ≤ x4)))) rfl (by rw [h662]; simp only [Bool.false_or]) ?_
          refine sxo_nil ?_
          exact sxq_case (lk_cons rfl (lk_cons rfl (lk_cons rfl (lk_cons rfl (lk_cons rfl (lk_cons rfl (lk_cons rfl (lk_cons rfl (lk_cons rfl (lk_cons rfl (lk_cons rfl (lk_cons rfl (lk_cons rfl (lk_cons rfl (lk_cons rfl (lk_cons rfl (lk_cons rfl (lk_cons rfl (lk_cons rfl (lk_cons rfl lk_nil))))))))))))))))))))
        refine sxo_take (os := _) rfl ?_
        refine sxo_nil ?_
        refine sxq_next ?_
        refine sxc_if rfl (fun h675 => ?_) (fun h675 => ?_)
        · refine sxc_region ?_
          refine sxo_assign rfl rfl rfl ?_
          refine sxo_assign rfl rfl rfl ?_
          refine sxo_nil ?_
          refine sxq_nilrow Int (eI .i64) 3 1 ?_
          refine sxq_nilrow Int (eI .i64) 3 1 ?_
          exact sxq_meetP ((3, 3, ([] : List Int), ([] : List Int), x466, x661), (none, 0, none, 0, a467, c468)) (lk_cons rfl (lk_cons rfl (lk_cons rfl (lk_cons rfl (lk_cons rfl (lk_cons rfl (lk_cons rfl (lk_cons rfl (lk_cons rfl (lk_cons rfl (lk_cons rfl (lk_cons rfl (lk_cons rfl (lk_cons rfl (lk_cons rfl lk_nil))))))))))))))) .nil (.cons 2 rfl (.cons 2 rfl (.cons 2 rfl (.cons 0 rfl (.cons 0 rfl (.cons 0 rfl .nil)))))) fk_nil
        · refine sxc_seq ?_
          refine sxc_region ?_
          refine sxo_loadB (i := 0) rfl rfl tf24 rfl rfl (by simp) rfl rfl ?_
          refine sxo_move rfl rfl rfl ?_
          refine sxo_call ent16 rfl rfl rfl (fun x663 e663 => C_R_WalkFar F x1 a2 c3 x4 x663 e663) (.consF 0 rfl .nil) (fun x663 e663 => ?_)
          rintro ⟨a664, c665⟩
          refine sxo_assign rfl rfl rfl ?_
          refine sxo_nil ?_
          refine sxq_next ?_
          refine sxc_seq ?_
          refine sxc_region ?_
          refine sxo_move rfl rfl rfl ?_
          refine sxo_lss rfl rfl rfl rfl ?_
          refine sxo_move rfl rfl rfl ?_
          refine sxo_case 4 (decide (x5 < 0)) [(1, .int .i64 x4), (2, .int .i64 x5), (3, .pointer (some ⟨g6, 0, none⟩)), (7, .slice a8 x7.1.length c9), (8, .int .i64 x7.2), (9, .slice a11 x10.1.length c12), (10, .int .i64 x10.2), (11, .slice a14 x13.1.length c15), (12, .int .i64 x13.2), (13, .int .i64 x16.1), (14, .int .i64 x16.2), (15, .int .i64 x17), (17, .int .i64 x17), (18, .int .i64 x17), (19, .slice a664 x663.length c665), (20, .slice none 0 0), (21, .slice a467 x466.length c468), (22, .int .i64 x661), (95, .bool ((decide (x5 < 0)) || (decide ((x1.length : Int) ≤ x5))))] (fun h666 => ?_) (fun h666 => ?_) ?_
          · refine sxo_take (os := _) rfl ?_
            refine sxo_isT (k := 91) rfl h666 ?_
            refine sxo_skip rfl rfl rfl ?_
            refine sxo_skip rfl rfl rfl ?_
            refine sxo_skip rfl rfl rfl ?_
            refine sxo_pick (b := true) rfl rfl rfl rfl ?_
            refine sxo_again (d := 95) (v := .bool ((decide (x5 < 0)) || (decide ((x1.length : Int) ≤ x5)))) rfl (by rw [h666]; simp only [Bool.true_or]) ?_
            refine sxo_nil ?_
            exact sxq_case (lk_cons rfl (lk_cons rfl (lk_cons rfl (lk_cons rfl (lk_cons rfl (lk_cons rfl (lk_cons rfl (lk_cons rfl (lk_cons rfl (lk_cons rfl (lk_cons rfl (lk_cons rfl (lk_cons rfl (lk_cons rfl (lk_cons rfl (lk_cons rfl (lk_cons rfl (lk_cons rfl (lk_cons rfl lk_nil)))))))))))))))))))
          · refine sxo_take (os := _) rfl ?_
            refine sxo_isF (k := 91) rfl h666 ?_
            refine sxo_move rfl rfl rfl ?_
            refine sxo_move rfl rfl rfl ?_
            refine sxo_geq rfl rfl rfl rfl ?_
            refine sxo_pick (b := false) rfl rfl rfl rfl ?_
            refine sxo_again (d := 95) (v := .bool ((decide (x5 < 0)) || (decide ((x1.length : Int) ≤ x5)))) rfl (by rw [h666]; simp only [Bool.false_or]) ?_
            refine sxo_nil ?_
            exact sxq_case (lk_cons rfl (lk_cons rfl (lk_cons rfl (lk_cons rfl (lk_cons rfl (lk_cons rfl (lk_cons rfl (lk_cons rfl (lk_cons rfl (lk_cons rfl (lk_cons rfl (lk_cons rfl (lk_cons rfl (lk_cons rfl (lk_cons rfl (lk_cons rfl (lk_cons rfl (lk_cons rfl (lk_cons rfl lk_nil)))))))))))))))))))
          refine sxo_take (os := _) rfl ?_
          refine sxo_nil ?_
          refine sxq_next ?_
          refine sxc_if rfl (fun h674 => ?_) (fun h674 => ?_)
          · refine sxc_region ?_
            refine sxo_assign rfl rfl rfl ?_
            refine sxo_nil ?_
            refine sxq_nilrow Int (eI .i64) 3 1 ?_
            exact sxq_meetP ((x17, 3, x663, ([] : List Int), x466, x661), (a664, c665, none, 0, a467, c468)) (lk_cons rfl (lk_cons rfl (lk_cons rfl (lk_cons rfl (lk_cons rfl (lk_cons rfl (lk_cons rfl (lk_cons rfl (lk_cons rfl (lk_cons rfl (lk_cons rfl (lk_cons rfl (lk_cons rfl (lk_cons rfl (lk_cons rfl lk_nil))))))))))))))) .nil (.cons 2 rfl (.cons 2 rfl (.cons 2 rfl (.cons 1 rfl (.cons 0 rfl (.cons 0 rfl .nil)))))) fk_nil
          · refine sxc_seq ?_
            refine sxc_region ?_
            refine sxo_move rfl rfl rfl ?_
            refine sxo_move rfl rfl rfl ?_
            refine sxo_indexR (j := 0) rfl Try.underlying25 tf3 rfl rfl rfl rfl (fun x667 e667 g668 h669 => ?_)
            refine sxo_loadR (j := 0) (y := x667) (eI_ok .i64) rfl rfl tf3 rfl h669 (idx_get e667).2.2 (fun _ => rfl) rfl rfl ?_
            refine sxo_lss rfl rfl rfl rfl ?_
            refine sxo_nil ?_
            refine sxq_next ?_
            refine sxc_if rfl (fun h673 => ?_) (fun h673 => ?_)
            · refine sxc_region ?_
              refine sxo_assign rfl rfl rfl ?_
              refine sxo_nil ?_
              refine sxq_nilrow Int (eI .i64) 3 1 ?_
              exact sxq_meetP ((x17, 5, x663, ([] : List Int), x466, x661), (a664, c665, none, 0, a467, c468)) (lk_cons rfl (lk_cons rfl (lk_cons rfl (lk_cons rfl (lk_cons rfl (lk_cons rfl (lk_cons rfl (lk_cons rfl (lk_cons rfl (lk_cons rfl (lk_cons rfl (lk_cons rfl (lk_cons rfl (lk_cons rfl (lk_cons rfl lk_nil))))))))))))))) .nil (.cons 2 rfl (.cons 2 rfl (.cons 2 rfl (.cons 1 rfl (.cons 0 rfl (.cons 0 rfl .nil)))))) fk_nil
            · refine sxc_region ?_
              refine sxo_loadB (i := 0) rfl rfl tf24 rfl rfl (by simp) rfl rfl ?_
              refine sxo_move rfl rfl rfl ?_
              refine sxo_move rfl rfl rfl ?_
              refine sxo_call ent17 rfl rfl rfl (fun x670 e670 => C_R_WalkWay F x1 a2 c3 x4 x5 x670 e670) (.consF 0 rfl .nil) (fun x670 e670 => ?_)
              rintro ⟨a671, c672⟩
              refine sxo_assign rfl rfl rfl ?_
              refine sxo_nil ?_
              exact sxq_meetP ((x17, x17, x663, x670, x466, x661), (a664, c665, a671, c672, a467, c468)) (lk_cons rfl (lk_cons rfl (lk_cons rfl (lk_cons rfl (lk_cons rfl (lk_cons rfl (lk_cons rfl (lk_cons rfl (lk_cons rfl (lk_cons rfl (lk_cons rfl (lk_cons rfl (lk_cons rfl (lk_cons rfl (lk_cons rfl lk_nil))))))))))))))) .nil (.cons 2 rfl (.cons 2 rfl (.cons 2 rfl (.cons 1 rfl (.cons 0 rfl (.cons 0 rfl .nil)))))) fk_nil
    · refine sxc_skip ?_
      refine sxq_nilrow Int (eI .i64) 3 1 ?_
      refine sxq_nilrow Int (eI .i64) 3 1 ?_
      refine sxq_nilrow Int (eI .i64) 3 1 ?_
      exact sxq_meetP ((x17, x17, ([] : List Int), ([] : List Int), ([] : List Int), 0), (none, 0, none, 0, none, 0)) (lk_cons rfl (lk_cons rfl (lk_cons rfl (lk_cons rfl (lk_cons rfl (lk_cons rfl (lk_cons rfl (lk_cons rfl (lk_cons rfl (lk_cons rfl (lk_cons rfl (lk_cons rfl (lk_cons rfl (lk_cons rfl (lk_cons rfl lk_nil))))))))))))))) .nil (.cons 5 rfl (.cons 4 rfl (.cons 3 rfl (.cons 0 rfl (.cons 0 rfl (.cons 0 rfl .nil)))))) fk_nil
  · rintro ⟨⟨x436, x437, x440, x443, x446, x447⟩, ⟨a438, c439, a441, c442, a444, c445⟩⟩
    try dsimp only
    refine sxc_seq ?_
    refine sxc_region ?_
    refine sxo_call ent18 rfl rfl rfl (fun x448 e448 => C_L_walkBegun F  x448 e448) .nil (fun x448 e448 => ?_)
    intro _
    refine sxo_move rfl rfl rfl ?_
    refine sxo_join 4 (fun ((x451, _) : (Bool × Unit)) => [(8, .int .i64 x7.2), (9, .slice a11 x10.1.length c12), (10, .int .i64 x10.2), (11, .slice a14 x13.1.length c15), (12, .int .i64 x13.2), (13, .int .i64 x16.1), (14, .int .i64 x16.2), (15, .int .i64 x17), (17, .int .i64 x436), (18, .int .i64 x437), (20, .slice a441 x443.length c442), (21, .slice a444 x446.length c445), (22, .int .i64 x447), (110, .bool x451)]) (fun ((x451, _) : (Bool × Unit)) => []) (fun ((x451, _) : (Bool × Unit)) => [Ro (eI .i64) 3 1 (.slice a11 x10.1.length c12) x10.1, Ro (eI .i64) 3 1 (.slice a14 x13.1.length c15) x13.1, Ro (eI .i64) 3 1 (.slice a441 x443.length c442) x443, Ro (eI .i64) 3 1 (.slice a444 x446.length c445) x446]) (fun ((x451, _) : (Bool × Unit)) => []) (fun ((x451, _) : (Bool × Unit)) => M_L_WalkTells_j23 F x7 x10 x13 x16 x17 x436 x437 x443 x446 x447 x451) ?_ ?_
    · refine sxo_take (os := _) rfl ?_
      refine sxo_if (fun h449 => ?_) (fun h449 => ?_)
      · refine sxo_isT (k := 106) rfl h449 ?_
        refine sxo_move rfl rfl rfl ?_
        refine sxo_move rfl rfl rfl ?_
        refine sxo_call ent19 rfl rfl rfl (fun x465 e465 => C_R_SameInts F x7.1 a8 c9 x440 a438 c439 x465 e465) (.consR 0 (Ro (eI .i64) 3 1 (.slice a8 x7.1.length c9) x7.1) rfl (.consR 3 (Ro (eI .i64) 3 1 (.slice a438 x440.length c439) x440) rfl .nil)) (fun x465 e465 => ?_)
        intro _
        refine sxo_pick (b := true) rfl rfl rfl rfl ?_
        refine sxo_nil ?_
        exact sxq_meetP (x465, ()) (lk_cons rfl (lk_cons rfl (lk_cons rfl (lk_cons rfl (lk_cons rfl (lk_cons rfl (lk_cons rfl (lk_cons rfl (lk_cons rfl (lk_cons rfl (lk_cons rfl (lk_cons rfl (lk_cons rfl (lk_cons rfl lk_nil)))))))))))))) .nil (.cons 1 rfl (.cons 1 rfl (.cons 2 rfl (.cons 2 rfl .nil)))) fk_nil
      · refine sxo_isF (k := 106) rfl h449 ?_
        refine sxo_skip rfl rfl rfl ?_
        refine sxo_skip rfl rfl rfl ?_
        refine sxo_skip rfl rfl rfl ?_
        refine sxo_pick (b := false) rfl rfl rfl rfl ?_
        refine sxo_nil ?_
        exact sxq_meetP (false, ()) (lk_cons rfl (lk_cons rfl (lk_cons rfl (lk_cons rfl (lk_cons rfl (lk_cons rfl (lk_cons rfl (lk_cons rfl (lk_cons rfl (lk_cons rfl (lk_cons rfl (lk_cons rfl (lk_cons rfl (lk_cons rfl lk_nil)))))))))))))) .nil (.cons 1 rfl (.cons 1 rfl (.cons 2 rfl (.cons 2 rfl .nil)))) fk_nil
    · rintro ⟨x451, _⟩
      try dsimp only
      refine sxo_take (os := _) rfl ?_
      refine sxo_move rfl rfl rfl ?_
      refine sxo_case 4 x451 [(9, .slice a11 x10.1.length c12), (10, .int .i64 x10.2), (11, .slice a14 x13.1.length c15), (12, .int .i64 x13.2), (13, .int .i64 x16.1), (14, .int .i64 x16.2), (15, .int .i64 x17), (18, .int .i64 x437), (20, .slice a441 x443.length c442), (21, .slice a444 x446.length c445), (22, .int .i64 x447), (115, .bool (x451 && ((x7.2 : Int) == x436)))] (fun h452 => ?_) (fun h452 => ?_) ?_
      · refine sxo_take (os := _) rfl ?_
        refine sxo_isT (k := 111) rfl h452 ?_
        refine sxo_move rfl rfl rfl ?_
        refine sxo_move rfl rfl rfl ?_
        refine sxo_eql rfl rfl rfl rfl ?_
        refine sxo_pick (b := true) rfl rfl rfl rfl ?_
        refine sxo_again (d := 115) (v := .bool (x451 && ((x7.2 : Int) == x436))) rfl (by rw [h452]; simp only [Bool.true_and]) ?_
        refine sxo_nil ?_
        exact sxq_case (lk_cons rfl (lk_cons rfl (lk_cons rfl (lk_cons rfl (lk_cons rfl (lk_cons rfl (lk_cons rfl (lk_cons rfl (lk_cons rfl (lk_cons rfl (lk_cons rfl (lk_cons rfl lk_nil))))))))))))
      · refine sxo_take (os := _) rfl ?_
        refine sxo_isF (k := 111) rfl h452 ?_
        refine sxo_skip rfl rfl rfl ?_
        refine sxo_skip rfl rfl rfl ?_
        refine sxo_skip rfl rfl rfl ?_
        refine sxo_pick (b := false) rfl rfl rfl rfl ?_
        refine sxo_again (d := 115) (v := .bool (x451 && ((x7.2 : Int) == x436))) rfl (by rw [h452]; simp only [Bool.false_and]) ?_
        refine sxo_nil ?_
        exact sxq_case (lk_cons rfl (lk_cons rfl (lk_cons rfl (lk_cons rfl (lk_cons rfl (lk_cons rfl (lk_cons rfl (lk_cons rfl (lk_cons rfl (lk_cons rfl (lk_cons rfl (lk_cons rfl lk_nil))))))))))))
      refine sxo_take (os := _) rfl ?_
      refine sxo_move rfl rfl rfl ?_
      refine sxo_join 4 (fun ((x455, _) : (Bool × Unit)) => [(10, .int .i64 x10.2), (11, .slice a14 x13.1.length c15), (12, .int .i64 x13.2), (13, .int .i64 x16.1), (14, .int .i64 x16.2), (15, .int .i64 x17), (18, .int .i64 x437), (21, .slice a444 x446.length c445), (22, .int .i64 x447), (120, .bool x455)]) (fun ((x455, _) : (Bool × Unit)) => []) (fun ((x455, _) : (Bool × Unit)) => [Ro (eI .i64) 3 1 (.slice a14 x13.1.length c15) x13.1, Ro (eI .i64) 3 1 (.slice a444 x446.length c445) x446]) (fun ((x455, _) : (Bool × Unit)) => []) (fun ((x455, _) : (Bool × Unit)) => M_L_WalkTells_j24 F x10 x13 x16 x17 x437 x446 x447 x455) ?_ ?_
      · refine sxo_take (os := _) rfl ?_
        refine sxo_if (fun h453 => ?_) (fun h453 => ?_)
        · refine sxo_isT (k := 116) rfl h453 ?_
          refine sxo_move rfl rfl rfl ?_
          refine sxo_move rfl rfl rfl ?_
          refine sxo_call ent19 rfl rfl rfl (fun x464 e464 => C_R_SameInts F x10.1 a11 c12 x443 a441 c442 x464 e464) (.consR 0 (Ro (eI .i64) 3 1 (.slice a11 x10.1.length c12) x10.1) rfl (.consR 2 (Ro (eI .i64) 3 1 (.slice a441 x443.length c442) x443) rfl .nil)) (fun x464 e464 => ?_)
          intro _
          refine sxo_pick (b := true) rfl rfl rfl rfl ?_
          refine sxo_nil ?_
          exact sxq_meetP (x464, ()) (lk_cons rfl (lk_cons rfl (lk_cons rfl (lk_cons rfl (lk_cons rfl (lk_cons rfl (lk_cons rfl (lk_cons rfl (lk_cons rfl (lk_cons rfl lk_nil)))))))))) .nil (.cons 1 rfl (.cons 2 rfl .nil)) fk_nil
        · refine sxo_isF (k := 116) rfl h453 ?_
          refine sxo_skip rfl rfl rfl ?_
          refine sxo_skip rfl rfl rfl ?_
          refine sxo_skip rfl rfl rfl ?_
          refine sxo_pick (b := false) rfl rfl rfl rfl ?_
          refine sxo_nil ?_
          exact sxq_meetP (false, ()) (lk_cons rfl (lk_cons rfl (lk_cons rfl (lk_cons rfl (lk_cons rfl (lk_cons rfl (lk_cons rfl (lk_cons rfl (lk_cons rfl (lk_cons rfl lk_nil)))))))))) .nil (.cons 1 rfl (.cons 2 rfl .nil)) fk_nil
      · rintro ⟨x455, _⟩
        try dsimp only
        refine sxo_take (os := _) rfl ?_
        refine sxo_move rfl rfl rfl ?_
        refine sxo_case 4 x455 [(11, .slice a14 x13.1.length c15), (12, .int .i64 x13.2), (13, .int .i64 x16.1), (14, .int .i64 x16.2), (15, .int .i64 x17), (21, .slice a444 x446.length c445), (22, .int .i64 x447), (125, .bool (x455 && ((x10.2 : Int) == x437)))] (fun h456 => ?_) (fun h456 => ?_) ?_
        · refine sxo_take (os := _) rfl ?_
          refine sxo_isT (k := 121) rfl h456 ?_
          refine sxo_move rfl rfl rfl ?_
          refine sxo_move rfl rfl rfl ?_
          refine sxo_eql rfl rfl rfl rfl ?_
          refine sxo_pick (b := true) rfl rfl rfl rfl ?_
          refine sxo_again (d := 125) (v := .bool (x455 && ((x10.2 : Int) == x437))) rfl (by rw [h456]; simp only [Bool.true_and]) ?_
          refine sxo_nil ?_
          exact sxq_case (lk_cons rfl (lk_cons rfl (lk_cons rfl (lk_cons rfl (lk_cons rfl (lk_cons rfl (lk_cons rfl (lk_cons rfl lk_nil))))))))
        · refine sxo_take (os := _) rfl ?_
          refine sxo_isF (k := 121) rfl h456 ?_
          refine sxo_skip rfl rfl rfl ?_
          refine sxo_skip rfl rfl rfl ?_
          refine sxo_skip rfl rfl rfl ?_
          refine sxo_pick (b := false) rfl rfl rfl rfl ?_
          refine sxo_again (d := 125) (v := .bool (x455 && ((x10.2 : Int) == x437))) rfl (by rw [h456]; simp only [Bool.false_and]) ?_
          refine sxo_nil ?_
          exact sxq_case (lk_cons rfl (lk_cons rfl (lk_cons rfl (lk_cons rfl (lk_cons rfl (lk_cons rfl (lk_cons rfl (lk_cons rfl lk_nil))))))))
        refine sxo_take (os := _) rfl ?_
        refine sxo_move rfl rfl rfl ?_
        refine sxo_join 4 (fun ((x459, _) : (Bool × Unit)) => [(12, .int .i64 x13.2), (13, .int .i64 x16.1), (14, .int .i64 x16.2), (15, .int .i64 x17), (22, .int .i64 x447), (130, .bool x459)]) (fun ((x459, _) : (Bool × Unit)) => []) (fun ((x459, _) : (Bool × Unit)) => []) (fun ((x459, _) : (Bool × Unit)) => []) (fun ((x459, _) : (Bool × Unit)) => M_L_WalkTells_j25 F x13 x16 x17 x447 x459) ?_ ?_
        · refine sxo_take (os := _) rfl ?_
          refine sxo_if (fun h457 => ?_) (fun h457 => ?_)
          · refine sxo_isT (k := 126) rfl h457 ?_
            refine sxo_move rfl rfl rfl ?_
            refine sxo_move rfl rfl rfl ?_
            refine sxo_call ent19 rfl rfl rfl (fun x463 e463 => C_R_SameInts F x13.1 a14 c15 x446 a444 c445 x463 e463) (.consR 0 (Ro (eI .i64) 3 1 (.slice a14 x13.1.length c15) x13.1) rfl (.consR 1 (Ro (eI .i64) 3 1 (.slice a444 x446.length c445) x446) rfl .nil)) (fun x463 e463 => ?_)
            intro _
            refine sxo_pick (b := true) rfl rfl rfl rfl ?_
            refine sxo_nil ?_
            exact sxq_meetP (x463, ()) (lk_cons rfl (lk_cons rfl (lk_cons rfl (lk_cons rfl (lk_cons rfl (lk_cons rfl lk_nil)))))) .nil .nil fk_nil
          · refine sxo_isF (k := 126) rfl h457 ?_
            refine sxo_skip rfl rfl rfl ?_
            refine sxo_skip rfl rfl rfl ?_
            refine sxo_skip rfl rfl rfl ?_
            refine sxo_pick (b := false) rfl rfl rfl rfl ?_
            refine sxo_nil ?_
            exact sxq_meetP (false, ()) (lk_cons rfl (lk_cons rfl (lk_cons rfl (lk_cons rfl (lk_cons rfl (lk_cons rfl lk_nil)))))) .nil .nil fk_nil
        · rintro ⟨x459, _⟩
          try dsimp only
          refine sxo_take (os := _) rfl ?_
          refine sxo_move rfl rfl rfl ?_
          refine sxo_case 4 x459 [(13, .int .i64 x16.1), (14, .int .i64 x16.2), (15, .int .i64 x17), (22, .int .i64 x447), (135, .bool (x459 && ((x13.2 : Int) == x17)))] (fun h460 => ?_) (fun h460 => ?_) ?_
          · refine sxo_take (os := _) rfl ?_
            refine sxo_isT (k := 131) rfl h460 ?_
            refine sxo_move rfl rfl rfl ?_
            refine sxo_move rfl rfl rfl ?_
            refine sxo_eql rfl rfl rfl rfl ?_
            refine sxo_pick (b := true) rfl rfl rfl rfl ?_
            refine sxo_again (d := 135) (v := .bool (x459 && ((x13.2 : Int) == x17))) rfl (by rw [h460]; simp only [Bool.true_and]) ?_
            refine sxo_nil ?_
            exact sxq_case (lk_cons rfl (lk_cons rfl (lk_cons rfl (lk_cons rfl (lk_cons rfl lk_nil)))))
          · refine sxo_take (os := _) rfl ?_
            refine sxo_isF (k := 131) rfl h460 ?_
            refine sxo_skip rfl rfl rfl ?_
            refine sxo_skip rfl rfl rfl ?_
            refine sxo_skip rfl rfl rfl ?_
            refine sxo_pick (b := false) rfl rfl rfl rfl ?_
            refine sxo_again (d := 135) (v := .bool (x459 && ((x13.2 : Int) == x17))) rfl (by rw [h460]; simp only [Bool.false_and]) ?_
            refine sxo_nil ?_
            exact sxq_case (lk_cons rfl (lk_cons rfl (lk_cons rfl (lk_cons rfl (lk_cons rfl lk_nil)))))
          refine sxo_take (os := _) rfl ?_
          refine sxo_move rfl rfl rfl ?_
          refine sxo_case 4 (x459 && ((x13.2 : Int) == x17)) [(14, .int .i64 x16.2), (15, .int .i64 x17), (140, .bool ((x459 && ((x13.2 : Int) == x17)) && ((x16.1 : Int) == x447)))] (fun h461 => ?_) (fun h461 => ?_) ?_
          · refine sxo_take (os := _) rfl ?_
            refine sxo_isT (k := 136) rfl h461 ?_
            refine sxo_move rfl rfl rfl ?_
            refine sxo_move rfl rfl rfl ?_
            refine sxo_eql rfl rfl rfl rfl ?_
            refine sxo_pick (b := true) rfl rfl rfl rfl ?_
            refine sxo_again (d := 140) (v := .bool ((x459 && ((x13.2 : Int) == x17)) && ((x16.1 : Int) == x447))) rfl (by rw [h461]; simp only [Bool.true_and]) ?_
            refine sxo_nil ?_
            exact sxq_case (lk_cons rfl (lk_cons rfl (lk_cons rfl lk_nil)))
          · refine sxo_take (os := _) rfl ?_
            refine sxo_isF (k := 136) rfl h461 ?_
            refine sxo_skip rfl rfl rfl ?_
            refine sxo_skip rfl rfl rfl ?_
            refine sxo_skip rfl rfl rfl ?_
            refine sxo_pick (b := false) rfl rfl rfl rfl ?_
            refine sxo_again (d := 140) (v := .bool ((x459 && ((x13.2 : Int) == x17)) && ((x16.1 : Int) == x447))) rfl (by rw [h461]; simp only [Bool.false_and]) ?_
            refine sxo_nil ?_
            exact sxq_case (lk_cons rfl (lk_cons rfl (lk_cons rfl lk_nil)))
          refine sxo_take (os := _) rfl ?_
          refine sxo_move rfl rfl rfl ?_
          refine sxo_case 4 ((x459 && ((x13.2 : Int) == x17)) && ((x16.1 : Int) == x447)) [(145, .bool (((x459 && ((x13.2 : Int) == x17)) && ((x16.1 : Int) == x447)) && ((x16.2 : Int) == x17)))] (fun h462 => ?_) (fun h462 => ?_) ?_
          · refine sxo_take (os := _) rfl ?_
            refine sxo_isT (k := 141) rfl h462 ?_
            refine sxo_move rfl rfl rfl ?_
            refine sxo_move rfl rfl rfl ?_
            refine sxo_eql rfl rfl rfl rfl ?_
            refine sxo_pick (b := true) rfl rfl rfl rfl ?_
            refine sxo_again (d := 145) (v := .bool (((x459 && ((x13.2 : Int) == x17)) && ((x16.1 : Int) == x447)) && ((x16.2 : Int) == x17))) rfl (by rw [h462]; simp only [Bool.true_and]) ?_
            refine sxo_nil ?_
            exact sxq_case (lk_cons rfl lk_nil)
          · refine sxo_take (os := _) rfl ?_
            refine sxo_isF (k := 141) rfl h462 ?_
            refine sxo_skip rfl rfl rfl ?_
            refine sxo_skip rfl rfl rfl ?_
            refine sxo_skip rfl rfl rfl ?_
            refine sxo_pick (b := false) rfl rfl rfl rfl ?_
            refine sxo_again (d := 145) (v := .bool (((x459 && ((x13.2 : Int) == x17)) && ((x16.1 : Int) == x447)) && ((x16.2 : Int) == x17))) rfl (by rw [h462]; simp only [Bool.false_and]) ?_
            refine sxo_nil ?_
            exact sxq_case (lk_cons rfl lk_nil)
          refine sxo_take (os := _) rfl ?_
          refine sxo_assign rfl rfl rfl ?_
          refine sxo_nil ?_
          refine sxq_next ?_
          refine sxc_ret ?_
          exact sxq_doneP () (.inl rfl) (res1 rfl rfl) (fun h => by subst h; rfl) (fun h => by subst h; exact .nil)
end Go.Proofs.Ytldpjaphbikjnaa
