/- Each Go function of this seat computes what its model says, part 2. -/
import Derived.Test.YtldpjaphbikjnaaWalks
namespace Go.Proofs.Ytldpjaphbikjnaa
open Go SX
theorem C_R_SameLists (F : Nat) (x1 : List (List Int)) (a2 : Option Addr) (c3 : (Nat × List (Option Addr × Nat))) (x4 : List (List Int)) (a5 : Option Addr) (c6 : (Nat × List (Option Addr × Nat))) (r : Bool) (hm : M_R_SameLists F x1 x4 = some r) :
    Pure Try.prog 44 [.slice a2 x1.length c3.1, .slice a5 x4.length c6.1] [SlN eN25 iN25 1 (.slice a2 x1.length c3.1) x1 c3.2, SlN eN25 iN25 1 (.slice a5 x4.length c6.1) x4 c6.2] Unit (fun _ => .bool r) (fun _ => []) (fun _ => []) := by
  refine pure_of Try.func44 rfl Try.ntmps44 rfl hm (fun w => ?_)
  refine sxc_env (l' := [(0, .slice a2 x1.length c3.1), (1, .slice a5 x4.length c6.1)]) rfl ?_
  refine sxc_seq ?_
  refine sxc_region ?_
  refine sxo_assign rfl rfl rfl ?_
  refine sxo_nil ?_
  refine sxq_next ?_
  refine sxc_seq ?_
  refine sxc_seq ?_
  refine sxc_region ?_
  refine sxo_move rfl rfl rfl ?_
  refine sxo_len rfl Try.underlying22 rfl rfl ?_
  refine sxo_move rfl rfl rfl ?_
  refine sxo_len rfl Try.underlying22 rfl rfl ?_
  refine sxo_neq rfl rfl rfl rfl ?_
  refine sxo_nil ?_
  refine sxq_next ?_
  refine sxc_if rfl (fun h300 => ?_) (fun h300 => ?_)
  · refine sxc_seq ?_
    refine sxc_region ?_
    refine sxo_assign rfl rfl rfl ?_
    refine sxo_nil ?_
    refine sxq_next ?_
    refine sxc_ret ?_
    refine sxq_thenR ?_
    exact sxq_doneP () (.inl rfl) (res1 rfl rfl) (fun h => by subst h; rfl) (fun h => by subst h; exact .nil)
  · refine sxc_skip ?_
    refine sxq_next ?_
    refine sxc_join (fun ((_, _) : (Unit × Unit)) => []) (fun ((_, _) : (Unit × Unit)) => []) (fun ((_, _) : (Unit × Unit)) => []) (fun ((_, _) : (Unit × Unit)) => []) (fun ((_, _) : (Unit × Unit)) => M_R_SameLists_j2 F) ?_ ?_
    · refine sxc_seq ?_
      refine sxc_region ?_
      refine sxo_assign rfl rfl rfl ?_
      refine sxo_nil ?_
      refine sxq_next ?_
      refine sxc_block ?_
      refine sxc_loopP (fun ((x202, _) : (Int × Unit)) => [(0, .slice a2 x1.length c3.1), (1, .slice a5 x4.length c6.1), (5, .int .i64 x202)]) (fun ((x202, _) : (Int × Unit)) => []) (fun ((x202, _) : (Int × Unit)) => []) (fun ((x202, _) : (Int × Unit)) => [SlN eN25 iN25 1 (.slice a2 x1.length c3.1) x1 c3.2, SlN eN25 iN25 1 (.slice a5 x4.length c6.1) x4 c6.2]) (fun k (s : (Int × Unit)) => M_R_SameLists_l3 F x1 x4 k s.1) (0, ()) F (lk_cons rfl (lk_cons rfl (lk_cons rfl lk_nil))) .nil .nil (fk_cons 0 rfl (fk_cons 1 rfl fk_nil)) (fun _ => rfl) ?_
      intro k251
      rintro ⟨x202, _⟩
      try dsimp only
      refine sxc_meq (m' := M_R_SameLists_b3 F x1 x4 (M_R_SameLists_l3 F x1 x4 k251) x202) rfl ?_
      refine sxc_seq ?_
      refine sxc_seq ?_
      refine sxc_region ?_
      refine sxo_move rfl rfl rfl ?_
      refine sxo_move rfl rfl rfl ?_
      refine sxo_len rfl Try.underlying22 rfl rfl ?_
      refine sxo_lss rfl rfl rfl rfl ?_
      refine sxo_nil ?_
      refine sxq_next ?_
      refine sxc_if rfl (fun h299 => ?_) (fun h299 => ?_)
      · refine sxc_skip ?_
        refine sxq_next ?_
        refine sxc_seq ?_
        refine sxc_block ?_
        refine sxc_seq ?_
        refine sxc_idxN (j := 0) eN25_ok (by decide) rfl (fun x287 e287 g291 b288 o289 h290 => ?_)
        replace h290 : a2 = some ⟨b288, o289, none⟩ := h290
        refine sxc_idxN (j := 3) eN25_ok (by decide) rfl (fun x292 e292 g296 b293 o294 h295 => ?_)
        replace h295 : a5 = some ⟨b293, o294, none⟩ := h295
        refine sxb_draw mixed [] [] [CellsAt b293 (o294 + x202.toNat * 1) (eN25 (x292, g296)), Sl (eI .i64) 1 (.slice g296.1 x292.length g296.2) x292, CellsAt b288 (o289 + x202.toNat * 1) (eN25 (x287, g291)), Sl (eI .i64) 1 (.slice g291.1 x287.length g291.2) x287, SlN eN25 iN25 1 (.slice a2 x1.length c3.1) x1 c3.2, SlN eN25 iN25 1 (.slice a5 x4.length c6.1) x4 c6.2] .nil (gk_F 0 rfl (gk_F 1 rfl (gk_F 2 rfl (gk_F 3 rfl (gk_F 4 rfl (gk_F 5 rfl gk_nil)))))) 10 rfl ?_
        refine sxb_takeP 0 (.slice a2 x1.length c3.1) rfl rfl rfl rfl (by kernel_rfl) (by kernel_rfl) (by kernel_rfl) (by kernel_rfl) (by kernel_rfl) rfl (show _ = #[true, false, false, false, false, false, false, false, false, false] from rfl) (yv_pv rfl) ?_
        refine sxb_takeP 1 (.int .i64 x202) rfl rfl rfl rfl (by kernel_rfl) (by kernel_rfl) (by kernel_rfl) (by kernel_rfl) (by kernel_rfl) rfl (show _ = #[true, true, false, false, false, false, false, false, false, false] from rfl) (yv_pv rfl) ?_
        refine sxb_again (d := 17) (v := .slice (some ⟨b288, o289, none⟩) x1.length c3.1) rfl (by rw [h290] <;> rfl) ?_
        refine sxb_takeP 2 (.pointer (some ⟨b288, (o289 + x202.toNat * 1), none⟩)) rfl rfl rfl rfl (by kernel_rfl) (by kernel_rfl) (by kernel_rfl) (by kernel_rfl) (by kernel_rfl) rfl (show _ = #[true, true, true, false, false, false, false, false, false, false] from rfl) (yv_idx Try.underlying22 tf25 rfl rfl (idx_get e287).1 (idx_lt e287)) ?_
        refine sxb_again (d := 17) (v := .slice a2 x1.length c3.1) rfl (by rw [h290] <;> rfl) ?_
        refine sxb_take 3 (.slice g291.1 x287.length g291.2) [] rfl rfl rfl rfl (by kernel_rfl) (by kernel_rfl) (by kernel_rfl) (by kernel_rfl) (by kernel_rfl) (by kernel_rfl) rfl (show _ = #[true, true, true, true, false, false, false, false, false, false] from rfl) (yv_loadF (j := 2) rfl tf25 rfl rfl (fun _ => rfl) rfl) ?_
        refine sxb_takeP 4 (.slice a5 x4.length c6.1) rfl rfl rfl rfl (by kernel_rfl) (by kernel_rfl) (by kernel_rfl) (by kernel_rfl) (by kernel_rfl) rfl (show _ = #[true, true, true, true, true, false, false, false, false, false] from rfl) (yv_pv rfl) ?_
        refine sxb_takeP 5 (.int .i64 x202) rfl rfl rfl rfl (by kernel_rfl) (by kernel_rfl) (by kernel_rfl) (by kernel_rfl) (by kernel_rfl) rfl (show _ = #[true, true, true, true, true, true, false, false, false, false] from rfl) (yv_pv rfl) ?_
        refine sxb_again (d := 21) (v := .slice (some ⟨b293, o294, none⟩) x4.length c6.1) rfl (by rw [h295] <;> rfl) ?_
        refine sxb_takeP 6 (.pointer (some ⟨b293, (o294 + x202.toNat * 1), none⟩)) rfl rfl rfl rfl (by kernel_rfl) (by kernel_rfl) (by kernel_rfl) (by kernel_rfl) (by kernel_rfl) rfl (show _ = #[true, true, true, true, true, true, true, false, false, false] from rfl) (yv_idx Try.underlying22 tf25 rfl rfl (idx_get e292).1 (idx_lt e292)) ?_
        refine sxb_again (d := 21) (v := .slice a5 x4.length c6.1) rfl (by rw [h295] <;> rfl) ?_
        refine sxb_take 7 (.slice g296.1 x292.length g296.2) [] rfl rfl rfl rfl (by kernel_rfl) (by kernel_rfl) (by kernel_rfl) (by kernel_rfl) (by kernel_rfl) (by kernel_rfl) rfl (show _ = #[true, true, true, true, true, true, true, true, false, false] from rfl) (yv_loadF (j := 0) rfl tf25 rfl rfl (fun _ => rfl) rfl) ?_
        refine sxb_step 8 rfl (by kernel_rfl) (show _ = #[true, true, true, true, true, true, true, true, true, false] from rfl) ?_
        refine sxo_call ent19 rfl rfl rfl (fun x297 e297 => C_R_SameInts F x287 g291.1 g291.2 x292 g296.1 g296.2 x297 e297) (.consF 3 rfl (.consF 1 rfl .nil)) (fun x297 e297 => ?_)
        intro _
        refine sxo_nil ?_
        refine sxq_anyB .nil (gk_F 0 rfl (gk_F 1 rfl (gk_F 2 rfl (gk_F 3 rfl (gk_F 4 rfl (gk_F 5 rfl gk_nil)))))) ?_
        refine sxb_takeP 9 (.bool (!x297)) rfl rfl rfl rfl (by kernel_rfl) (by kernel_rfl) (by kernel_rfl) (by kernel_rfl) (by kernel_rfl) rfl (show _ = #[true, true, true, true, true, true, true, true, true, true] from rfl) (yv_pv rfl) ?_
        refine sxb_done (by kernel_rfl) ?_
        refine sxq_np ?_ (by intro c h; cases h)
        refine sxq_next ?_
        refine sxc_if rfl (fun h298 => ?_) (fun h298 => ?_)
        · refine sxc_seq ?_
          refine sxc_region ?_
          refine sxo_assign rfl rfl rfl ?_
          refine sxo_nil ?_
          refine sxq_next ?_
          refine sxc_ret ?_
          refine sxq_blkR ?_
          refine sxq_thenR ?_
          refine sxq_thenR ?_
          refine sxq_blkR ?_
          refine sxq_thenR ?_
          exact sxq_doneP () (.inl rfl) (res1 rfl rfl) (fun h => by subst h; rfl) (fun h => by subst h; exact .nil)
        · refine sxc_skip ?_
          refine sxq_blkN ?_
          refine sxq_next ?_
          refine sxc_region ?_
          refine sxo_move rfl rfl rfl ?_
          refine sxo_add rfl rfl rfl rfl ?_
          refine sxo_assign rfl rfl rfl ?_
          refine sxo_nil ?_
          exact sxq_againP (iadd .i64 x202 1, ()) (lk_cons rfl (lk_cons rfl (lk_cons rfl lk_nil))) .nil .nil (fk_cons 4 rfl (fk_cons 5 rfl fk_nil))
      · refine sxc_exit ?_
        refine sxq_thenX ?_
        refine sxq_thenX ?_
        refine sxq_blkX ?_
        exact sxq_meetP ((), ()) lk_nil .nil .nil fk_nil
    · rintro ⟨_, _⟩
      try dsimp only
      refine sxc_seq ?_
      refine sxc_region ?_
      refine sxo_assign rfl rfl rfl ?_
      refine sxo_nil ?_
      refine sxq_next ?_
      refine sxc_ret ?_
      exact sxq_doneP () (.inl rfl) (res1 rfl rfl) (fun h => by subst h; rfl) (fun h => by subst h; exact .nil)

theorem C_R_SameArcs (F : Nat) (x1 : List (Int × Int)) (a2 : Option Addr) (c3 : Nat) (x4 : List (Int × Int)) (a5 : Option Addr) (c6 : Nat) (r : Bool) (hm : M_R_SameArcs F x1 x4 = some r) :
    Pure Try.prog 45 [.slice a2 x1.length c3, .slice a5 x4.length c6] [Sl eS51 2 (.slice a2 x1.length c3) x1, Sl eS51 2 (.slice a5 x4.length c6) x4] Unit (fun _ => .bool r) (fun _ => []) (fun _ => []) := by
  refine pure_of Try.func45 rfl Try.ntmps45 rfl hm (fun w => ?_)
  refine sxc_env (l' := [(0, .slice a2 x1.length c3), (1, .slice a5 x4.length c6)]) rfl ?_
  refine sxc_seq ?_
  refine sxc_region ?_
  refine sxo_assign rfl rfl rfl ?_
  refine sxo_nil ?_
  refine sxq_next ?_
  refine sxc_seq ?_
  refine sxc_seq ?_
  refine sxc_region ?_
  refine sxo_move rfl rfl rfl ?_
  refine sxo_len rfl Try.underlying45 rfl rfl ?_
  refine sxo_move rfl rfl rfl ?_
  refine sxo_len rfl Try.underlying45 rfl rfl ?_
  refine sxo_neq rfl rfl rfl rfl ?_
  refine sxo_nil ?_
  refine sxq_next ?_
  refine sxc_if rfl (fun h228 => ?_) (fun h228 => ?_)
  · refine sxc_seq ?_
    refine sxc_region ?_
    refine sxo_assign rfl rfl rfl ?_
    refine sxo_nil ?_
    refine sxq_next ?_
    refine sxc_ret ?_
    refine sxq_thenR ?_
    exact sxq_doneP () (.inl rfl) (res1 rfl rfl) (fun h => by subst h; rfl) (fun h => by subst h; exact .nil)
  · refine sxc_skip ?_
    refine sxq_next ?_
    refine sxc_join (fun ((_, _) : (Unit × Unit)) => []) (fun ((_, _) : (Unit × Unit)) => []) (fun ((_, _) : (Unit × Unit)) => []) (fun ((_, _) : (Unit × Unit)) => []) (fun ((_, _) : (Unit × Unit)) => M_R_SameArcs_j2 F) ?_ ?_
    · refine sxc_seq ?_
      refine sxc_region ?_
      refine sxo_assign rfl rfl rfl ?_
      refine sxo_nil ?_
      refine sxq_next ?_
      refine sxc_block ?_
      refine sxc_loopP (fun ((x154, _) : (Int × Unit)) => [(0, .slice a2 x1.length c3), (1, .slice a5 x4.length c6), (5, .int .i64 x154)]) (fun ((x154, _) : (Int × Unit)) => []) (fun ((x154, _) : (Int × Unit)) => []) (fun ((x154, _) : (Int × Unit)) => [Sl eS51 2 (.slice a2 x1.length c3) x1, Sl eS51 2 (.slice a5 x4.length c6) x4]) (fun k (s : (Int × Unit)) => M_R_SameArcs_l3 F x1 x4 k s.1) (0, ()) F (lk_cons rfl (lk_cons rfl (lk_cons rfl lk_nil))) .nil .nil (fk_cons 0 rfl (fk_cons 1 rfl fk_nil)) (fun _ => rfl) ?_
      intro k191
      rintro ⟨x154, _⟩
      try dsimp only
      refine sxc_meq (m' := M_R_SameArcs_b3 F x1 x4 (M_R_SameArcs_l3 F x1 x4 k191) x154) rfl ?_
      refine sxc_seq ?_
      refine sxc_seq ?_
      refine sxc_region ?_
      refine sxo_move rfl rfl rfl ?_
      refine sxo_move rfl rfl rfl ?_
      refine sxo_len rfl Try.underlying45 rfl rfl ?_
      refine sxo_lss rfl rfl rfl rfl ?_
      refine sxo_nil ?_
      refine sxq_next ?_
      refine sxc_if rfl (fun h227 => ?_) (fun h227 => ?_)
      · refine sxc_skip ?_
        refine sxq_next ?_
        refine sxc_seq ?_
        refine sxc_block ?_
        refine sxc_seq ?_
        refine sxc_idxF (j := 0) eS51_ok (by decide) rfl (fun x218 e218 b219 o220 h221 => ?_)
        replace h221 : a2 = some ⟨b219, o220, none⟩ := h221
        refine sxc_idxF (j := 2) eS51_ok (by decide) rfl (fun x222 e222 b223 o224 h225 => ?_)
        replace h225 : a5 = some ⟨b223, o224, none⟩ := h225
        refine sxb_draw mixed [] [] [CellsAt b223 (o224 + x154.toNat * 2) (eS51 x222), CellsAt b219 (o220 + x154.toNat * 2) (eS51 x218), Sl eS51 2 (.slice a2 x1.length c3) x1, Sl eS51 2 (.slice a5 x4.length c6) x4] .nil (gk_F 0 rfl (gk_F 1 rfl (gk_F 2 rfl (gk_F 3 rfl gk_nil)))) 9 rfl ?_
        refine sxb_takeP 0 (.slice a2 x1.length c3) rfl rfl rfl rfl (by kernel_rfl) (by kernel_rfl) (by kernel_rfl) (by kernel_rfl) (by kernel_rfl) rfl (show _ = #[true, false, false, false, false, false, false, false, false] from rfl) (yv_pv rfl) ?_
        refine sxb_takeP 1 (.int .i64 x154) rfl rfl rfl rfl (by kernel_rfl) (by kernel_rfl) (by kernel_rfl) (by kernel_rfl) (by kernel_rfl) rfl (show _ = #[true, true, false, false, false, false, false, false, false] from rfl) (yv_pv rfl) ?_
        refine sxb_again (d := 17) (v := .slice (some ⟨b219, o220, none⟩) x1.length c3) rfl (by rw [h221] <;> rfl) ?_
        refine sxb_takeP 2 (.pointer (some ⟨b219, (o220 + x154.toNat * 2), none⟩)) rfl rfl rfl rfl (by kernel_rfl) (by kernel_rfl) (by kernel_rfl) (by kernel_rfl) (by kernel_rfl) rfl (show _ = #[true, true, true, false, false, false, false, false, false] from rfl) (yv_idx Try.underlying45 tf51 rfl rfl (idx_get e218).1 (idx_lt e218)) ?_
        refine sxb_again (d := 17) (v := .slice a2 x1.length c3) rfl (by rw [h221] <;> rfl) ?_
        refine sxb_take 3 (.agg #[.int .i64 x218.1, .int .i64 x218.2]) [] rfl rfl rfl rfl (by kernel_rfl) (by kernel_rfl) (by kernel_rfl) (by kernel_rfl) (by kernel_rfl) (by kernel_rfl) rfl (show _ = #[true, true, true, true, false, false, false, false, false] from rfl) (yv_loadF (j := 1) rfl tf51 rfl rfl (by simp) rfl) ?_
        refine sxb_takeP 4 (.slice a5 x4.length c6) rfl rfl rfl rfl (by kernel_rfl) (by kernel_rfl) (by kernel_rfl) (by kernel_rfl) (by kernel_rfl) rfl (show _ = #[true, true, true, true, true, false, false, false, false] from rfl) (yv_pv rfl) ?_
        refine sxb_takeP 5 (.int .i64 x154) rfl rfl rfl rfl (by kernel_rfl) (by kernel_rfl) (by kernel_rfl) (by kernel_rfl) (by kernel_rfl) rfl (show _ = #[true, true, true, true, true, true, false, false, false] from rfl) (yv_pv rfl) ?_
        refine sxb_again (d := 21) (v := .slice (some ⟨b223, o224, none⟩) x4.length c6) rfl (by rw [h225] <;> rfl) ?_
        refine sxb_takeP 6 (.pointer (some ⟨b223, (o224 + x154.toNat * 2), none⟩)) rfl rfl rfl rfl (by kernel_rfl) (by kernel_rfl) (by kernel_rfl) (by kernel_rfl) (by kernel_rfl) rfl (show _ = #[true, true, true, true, true, true, true, false, false] from rfl) (yv_idx Try.underlying45 tf51 rfl rfl (idx_get e222).1 (idx_lt e222)) ?_
        refine sxb_again (d := 21) (v := .slice a5 x4.length c6) rfl (by rw [h225] <;> rfl) ?_
        refine sxb_take 7 (.agg #[.int .i64 x222.1, .int .i64 x222.2]) [] rfl rfl rfl rfl (by kernel_rfl) (by kernel_rfl) (by kernel_rfl) (by kernel_rfl) (by kernel_rfl) (by kernel_rfl) rfl (show _ = #[true, true, true, true, true, true, true, true, false] from rfl) (yv_loadF (j := 0) rfl tf51 rfl rfl (by simp) rfl) ?_
        refine sxb_takeP 8 (.bool (!(((x218.1 : Int) == x222.1) && ((x218.2 : Int) == x222.2)))) rfl rfl rfl rfl (by kernel_rfl) (by kernel_rfl) (by kernel_rfl) (by kernel_rfl) (by kernel_rfl) rfl (show _ = #[true, true, true, true, true, true, true, true, true] from rfl) (yv_neq2 rfl rfl se51) ?_
        refine sxb_done (by kernel_rfl) ?_
        refine sxq_np ?_ (by intro c h; cases h)
        refine sxq_next ?_
        refine sxc_if rfl (fun h226 => ?_) (fun h226 => ?_)
        · refine sxc_seq ?_
          refine sxc_region ?_
          refine sxo_assign rfl rfl rfl ?_
          refine sxo_nil ?_
          refine sxq_next ?_
          refine sxc_ret ?_
          refine sxq_blkR ?_
          refine sxq_thenR ?_
          refine sxq_thenR ?_
          refine sxq_blkR ?_
          refine sxq_thenR ?_
          exact sxq_doneP () (.inl rfl) (res1 rfl rfl) (fun h => by subst h; rfl) (fun h => by subst h; exact .nil)
        · refine sxc_skip ?_
          refine sxq_blkN ?_
          refine sxq_next ?_
          refine sxc_region ?_
          refine sxo_move rfl rfl rfl ?_
          refine sxo_add rfl rfl rfl rfl ?_
          refine sxo_assign rfl rfl rfl ?_
          refine sxo_nil ?_
          exact sxq_againP (iadd .i64 x154 1, ()) (lk_cons rfl (lk_cons rfl (lk_cons rfl lk_nil))) .nil .nil (fk_cons 2 rfl (fk_cons 3 rfl fk_nil))
      · refine sxc_exit ?_
        refine sxq_thenX ?_
        refine sxq_thenX ?_
        refine sxq_blkX ?_
        exact sxq_meetP ((), ()) lk_nil .nil .nil fk_nil
    · rintro ⟨_, _⟩
      try dsimp only
      refine sxc_seq ?_
      refine sxc_region ?_
      refine sxo_assign rfl rfl rfl ?_
      refine sxo_nil ?_
      refine sxq_next ?_
      refine sxc_ret ?_
      exact sxq_doneP () (.inl rfl) (res1 rfl rfl) (fun h => by subst h; rfl) (fun h => by subst h; exact .nil)

set_option maxHeartbeats 4000000 in
theorem C_L_graphBegun (F : Nat)  (r : Bool) (hm : M_L_graphBegun F  = some r) :
    Pure Try.prog 25 [] [] Unit (fun _ => .bool r) (fun _ => []) (fun _ => []) := by
  refine pure_of Try.func25 rfl Try.ntmps25 rfl hm (fun w => ?_)
  refine sxc_env (l' := []) rfl ?_
  refine sxc_seq ?_
  refine sxc_region ?_
  refine sxo_assign rfl rfl rfl ?_
  refine sxo_nil ?_
  refine sxq_next ?_
  refine sxc_seq ?_
  refine sxc_region ?_
  refine sxo_build (cells := [.int .i64 2, .int .i64 0]) rfl st51 rfl (by kernel_rfl) rfl ?_
  refine sxo_build (cells := [.int .i64 0, .int .i64 1]) rfl st51 rfl (by kernel_rfl) rfl ?_
  refine sxo_build (cells := [.int .i64 0, .int .i64 0]) rfl st51 rfl (by kernel_rfl) rfl ?_
  refine sxo_slit (vs := [.agg #[.int .i64 2, .int .i64 0], .agg #[.int .i64 0, .int .i64 1], .agg #[.int .i64 0, .int .i64 0]]) (ys := ([(2, 0), (0, 1), (0, 0)] : List (Int × Int))) eS51_ok (by decide) rfl Try.underlying45 tf51 rfl rfl rfl rfl rfl (by decide) (fun a1 c2 => ?_)
  refine sxo_call ent23 rfl rfl rfl (fun x3 e3 => C_graph_Of F 3 ([(2, 0), (0, 1), (0, 0)] : List (Int × Int)) a1 c2 x3 e3) (.consR 0 (Ro eS51 51 2 (.slice a1 ([(2, 0), (0, 1), (0, 0)] : List (Int × Int)).length c2) ([(2, 0), (0, 1), (0, 0)] : List (Int × Int))) rfl .nil) (fun x3 e3 => ?_)
  rintro ⟨a4, c5⟩
  refine sxo_move rfl rfl rfl ?_
  refine sxo_extract rfl rfl rfl rfl ?_
  refine sxo_extract rfl rfl rfl rfl ?_
  refine sxo_alloc rfl tf24 rfl (fun g6 => ?_)
  refine sxo_storeB (i := 0) rfl rfl rfl tf24 rfl rfl rfl rfl rfl ?_
  refine sxo_assign rfl rfl rfl ?_
  refine sxo_nil ?_
  refine sxq_next ?_
  refine sxc_seq ?_
  refine sxc_region ?_
  refine sxo_loadB (i := 0) rfl rfl tf24 rfl rfl (by simp) rfl rfl ?_
  refine sxo_call ent22 rfl rfl rfl (fun x7 e7 => C_graph_Arcs F x3.1 a4 c5 x7 e7) (.consG 0 rfl (nest_sl rN25_in) .nil) (fun x7 e7 => ?_)
  rintro ⟨a8, c9⟩
  refine sxo_move rfl rfl rfl ?_
  refine sxo_extract rfl rfl rfl rfl ?_
  refine sxo_extract rfl rfl rfl rfl ?_
  refine sxo_assign rfl rfl rfl ?_
  refine sxo_assign rfl rfl rfl ?_
  refine sxo_nil ?_
  refine sxq_next ?_
  refine sxc_seq ?_
  refine sxc_region ?_
  refine sxo_loadB (i := 0) rfl rfl tf24 rfl rfl (by simp) rfl rfl ?_
  refine sxo_call ent24 rfl rfl rfl (fun x10 e10 => C_graph_Turn F x3.1 a4 c5 x10 e10) (.consG 1 rfl (nest_sl rN25_in) .nil) (fun x10 e10 => ?_)
  rintro ⟨a11, c12⟩
  refine sxo_move rfl rfl rfl ?_
  refine sxo_extract rfl rfl rfl rfl ?_
  refine sxo_extract rfl rfl rfl rfl ?_
  refine sxo_alloc rfl tf24 rfl (fun g13 => ?_)
  refine sxo_storeB (i := 0) rfl rfl rfl tf24 rfl rfl rfl rfl rfl ?_
  refine sxo_assign rfl rfl rfl ?_
  refine sxo_nil ?_
  refine sxq_next ?_
  refine sxc_seq ?_
  refine sxc_region ?_
  refine sxo_loadB (i := 1) rfl rfl tf24 rfl rfl (by simp) rfl rfl ?_
  refine sxo_call ent26 rfl rfl rfl (fun x14 e14 => C_graph_Both F x3.1 a4 c5 x14 e14) (.consG 2 rfl (nest_sl rN25_in) .nil) (fun x14 e14 => ?_)
  rintro ⟨a15, c16⟩
  refine sxo_move rfl rfl rfl ?_
  refine sxo_extract rfl rfl rfl rfl ?_
  refine sxo_extract rfl rfl rfl rfl ?_
  refine sxo_alloc rfl tf24 rfl (fun g17 => ?_)
  refine sxo_storeB (i := 0) rfl rfl rfl tf24 rfl rfl rfl rfl rfl ?_
  refine sxo_assign rfl rfl rfl ?_
  refine sxo_nil ?_
  refine sxq_next ?_
  refine sxc_seq ?_
  refine sxc_region ?_
  refine sxo_loadB (i := 2) rfl rfl tf24 rfl rfl (by simp) rfl rfl ?_
  refine sxo_callM ent43 rfl rfl rfl (fun x18 e18 => C_graph_Degrees F x3.1 a4 c5 x18 e18) .nil .nil (.consG 3 rfl (nest_sl rN25_in) .nil) (fun x18 e18 => ?_)
  rintro ⟨⟨a19, c20⟩, ⟨a21, c22⟩⟩
  refine sxo_move rfl rfl rfl ?_
  refine sxo_extract rfl rfl rfl rfl ?_
  refine sxo_extract rfl rfl rfl rfl ?_
  refine sxo_extract rfl rfl rfl rfl ?_
  refine sxo_assign rfl rfl rfl ?_
  refine sxo_assign rfl rfl rfl ?_
  refine sxo_assign rfl rfl rfl ?_
  refine sxo_nil ?_
  refine sxq_next ?_
  refine sxc_seq ?_
  refine sxc_region ?_
  refine sxo_build (cells := [.int .i64 0, .int .i64 0]) rfl st51 rfl (by kernel_rfl) rfl ?_
  refine sxo_build (cells := [.int .i64 0, .int .i64 0]) rfl st51 rfl (by kernel_rfl) rfl ?_
  refine sxo_slit (vs := [.agg #[.int .i64 0, .int .i64 0], .agg #[.int .i64 0, .int .i64 0]]) (ys := ([(0, 0), (0, 0)] : List (Int × Int))) eS51_ok (by decide) rfl Try.underlying45 tf51 rfl rfl rfl rfl rfl (by decide) (fun a23 c24 => ?_)
  refine sxo_call ent23 rfl rfl rfl (fun x25 e25 => C_graph_Of F 1 ([(0, 0), (0, 0)] : List (Int × Int)) a23 c24 x25 e25) (.consR 0 (Ro eS51 51 2 (.slice a23 ([(0, 0), (0, 0)] : List (Int × Int)).length c24) ([(0, 0), (0, 0)] : List (Int × Int))) rfl .nil) (fun x25 e25 => ?_)
  rintro ⟨a26, c27⟩
  refine sxo_move rfl rfl rfl ?_
  refine sxo_extract rfl rfl rfl rfl ?_
  refine sxo_extract rfl rfl rfl rfl ?_
  refine sxo_alloc rfl tf24 rfl (fun g28 => ?_)
  refine sxo_storeB (i := 0) rfl rfl rfl tf24 rfl rfl rfl rfl rfl ?_
  refine sxo_assign rfl rfl rfl ?_
  refine sxo_nil ?_
  refine sxq_next ?_
  refine sxc_seq ?_
  refine sxc_region ?_
  refine sxo_fieldAddr rfl rfl ff24_0 rfl ?_
  refine sxo_loadB (i := 3) rfl rfl tf22 rfl rfl (fun _ => rfl) rfl rfl ?_
  refine sxo_slit (vs := [.int .i64 0, .int .i64 1]) (ys := ([0, 1] : List Int)) (eI_ok .i64) (by decide) rfl Try.underlying25 tf3 rfl rfl rfl rfl rfl (by decide) (fun a29 c30 => ?_)
  refine sxo_slit (vs := [.int .i64 0]) (ys := ([0] : List Int)) (eI_ok .i64) (by decide) rfl Try.underlying25 tf3 rfl rfl rfl rfl rfl (by decide) (fun a31 c32 => ?_)
  refine sxo_freeze 1 rfl ?_
  refine sxo_nilrow' Int (eI .i64) 3 1 ?_
  refine sxo_freeze 0 rfl ?_
  refine sxo_freeze 0 rfl ?_
  refine sxo_slit (vs := [.slice a29 ([0, 1] : List Int).length c30, .slice none 0 0, .slice a31 ([0] : List Int).length c32]) (ys := ([(([0, 1] : List Int), (a29, c30)), (([] : List Int), (none, 0)), (([0] : List Int), (a31, c32))] : List (List Int × (Option Addr × Nat)))) eN25_ok (by decide) rfl Try.underlying22 tf25 rfl rfl rfl rfl rfl (by decide) (fun a33 c34 => ?_)
  refine sxo_nestF (inn := iN25) ([([0, 1] : List Int), ([] : List Int), ([0] : List Int)] : List (List Int)) ([(a29, c30), (none, 0), (a31, c32)] : List (Option Addr × Nat)) 0 rfl rfl (fk_cons 2 rfl (fk_cons 1 rfl (fk_cons 0 rfl fk_nil))) ?_
  refine sxo_call ent44 rfl rfl rfl (fun x35 e35 => C_R_SameLists F x3.1 a4 c5 ([([0, 1] : List Int), ([] : List Int), ([0] : List Int)] : List (List Int)) a33 (c34, ([(a29, c30), (none, 0), (a31, c32)] : List (Option Addr × Nat))) x35 e35) (.consG 7 rfl (nest_sl rN25_in) (.consF 0 rfl .nil)) (fun x35 e35 => ?_)
  intro _
  refine sxo_move rfl rfl rfl ?_
  refine sxo_case 3 x35 [(3, .slice a8 x7.1.length c9), (4, .int .i64 x7.2), (5, .pointer (some ⟨g13, 0, none⟩)), (6, .int .i64 x10.2), (7, .pointer (some ⟨g17, 0, none⟩)), (8, .int .i64 x14.2), (9, .slice a19 x18.1.length c20), (10, .slice a21 x18.2.1.length c22), (11, .int .i64 x18.2.2), (13, .int .i64 x25.2), (59, .bool (x35 && ((x3.2 : Int) == 0)))] (fun h36 => ?_) (fun h36 => ?_) ?_
  · refine sxo_take (os := _) rfl ?_
    refine sxo_isT (k := 56) rfl h36 ?_
    refine sxo_move rfl rfl rfl ?_
    refine sxo_eql rfl rfl rfl rfl ?_
    refine sxo_pick (b := true) rfl rfl rfl rfl ?_
    refine sxo_again (d := 59) (v := .bool (x35 && ((x3.2 : Int) == 0))) rfl (by rw [h36]; simp only [Bool.true_and]) ?_
    refine sxo_nil ?_
    exact sxq_case (lk_cons rfl (lk_cons rfl (lk_cons rfl (lk_cons rfl (lk_cons rfl (lk_cons rfl (lk_cons rfl (lk_cons rfl (lk_cons rfl (lk_cons rfl (lk_cons rfl lk_nil)))))))))))
  · refine sxo_take (os := _) rfl ?_
    refine sxo_isF (k := 56) rfl h36 ?_
    refine sxo_skip rfl rfl rfl ?_
    refine sxo_skip rfl rfl rfl ?_
    refine sxo_pick (b := false) rfl rfl rfl rfl ?_
    refine sxo_again (d := 59) (v := .bool (x35 && ((x3.2 : Int) == 0))) rfl (by rw [h36]; simp only [Bool.false_and]) ?_
    refine sxo_nil ?_
    exact sxq_case (lk_cons rfl (lk_cons rfl (lk_cons rfl (lk_cons rfl (lk_cons rfl (lk_cons rfl (lk_cons rfl (lk_cons rfl (lk_cons rfl (lk_cons rfl (lk_cons rfl lk_nil)))))))))))
  refine sxo_take (os := _) rfl ?_
  refine sxo_move rfl rfl rfl ?_
  refine sxo_join 7 (fun ((x41, _) : (Bool × Unit)) => [(4, .int .i64 x7.2), (5, .pointer (some ⟨g13, 0, none⟩)), (6, .int .i64 x10.2), (7, .pointer (some ⟨g17, 0, none⟩)), (8, .int .i64 x14.2), (9, .slice a19 x18.1.length c20), (10, .slice a21 x18.2.1.length c22), (11, .int .i64 x18.2.2), (13, .int .i64 x25.2), (67, .bool x41)]) (fun ((x41, _) : (Bool × Unit)) => [⟨g17, 24, [.slice a15 x14.1.length c16.1]⟩, ⟨g13, 24, [.slice a11 x10.1.length c12.1]⟩]) (fun ((x41, _) : (Bool × Unit)) => [Ro (eI .i64) 3 1 (.slice a19 x18.1.length c20) x18.1, Ro (eI .i64) 3 1 (.slice a21 x18.2.1.length c22) x18.2.1, RoN eN25 rN25 25 1 (.slice a15 x14.1.length c16.1) x14.1 c16.2 [], RoN eN25 rN25 25 1 (.slice a11 x10.1.length c12.1) x10.1 c12.2 []]) (fun ((x41, _) : (Bool × Unit)) => []) (fun ((x41, _) : (Bool × Unit)) => M_L_graphBegun_j1 F x7 x10 x14 x18 x25 x41) ?_ ?_
  · refine sxo_take (os := _) rfl ?_
    refine sxo_if (fun h37 => ?_) (fun h37 => ?_)
    · refine sxo_isT (k := 60) rfl h37 ?_
      refine sxo_move rfl rfl rfl ?_
      refine sxo_build (cells := [.int .i64 0, .int .i64 0]) rfl st51 rfl (by kernel_rfl) rfl ?_
      refine sxo_build (cells := [.int .i64 0, .int .i64 1]) rfl st51 rfl (by kernel_rfl) rfl ?_
      refine sxo_build (cells := [.int .i64 2, .int .i64 0]) rfl st51 rfl (by kernel_rfl) rfl ?_
      refine sxo_slit (vs := [.agg #[.int .i64 0, .int .i64 0], .agg #[.int .i64 0, .int .i64 1], .agg #[.int .i64 2, .int .i64 0]]) (ys := ([(0, 0), (0, 1), (2, 0)] : List (Int × Int))) eS51_ok (by decide) rfl Try.underlying45 tf51 rfl rfl rfl rfl rfl (by decide) (fun a111 c112 => ?_)
      refine sxo_call ent45 rfl rfl rfl (fun x113 e113 => C_R_SameArcs F x7.1 a8 c9 ([(0, 0), (0, 1), (2, 0)] : List (Int × Int)) a111 c112 x113 e113) (.consR 7 (Ro eS51 51 2 (.slice a8 x7.1.length c9) x7.1) rfl (.consR 0 (Ro eS51 51 2 (.slice a111 ([(0, 0), (0, 1), (2, 0)] : List (Int × Int)).length c112) ([(0, 0), (0, 1), (2, 0)] : List (Int × Int))) rfl .nil)) (fun x113 e113 => ?_)
      intro _
      refine sxo_pick (b := true) rfl rfl rfl rfl ?_
      refine sxo_nil ?_
      exact sxq_meetP (x113, ()) (lk_cons rfl (lk_cons rfl (lk_cons rfl (lk_cons rfl (lk_cons rfl (lk_cons rfl (lk_cons rfl (lk_cons rfl (lk_cons rfl (lk_cons rfl lk_nil)))))))))) (.cons 1 rfl (.cons 1 rfl .nil)) (.cons 3 rfl (.cons 3 rfl (.cons 3 rfl (.cons 3 rfl .nil)))) fk_nil
    · refine sxo_isF (k := 60) rfl h37 ?_
      refine sxo_skip rfl rfl rfl ?_
      refine sxo_skip rfl rfl rfl ?_
      refine sxo_skip rfl rfl rfl ?_
      refine sxo_skip rfl rfl rfl ?_
      refine sxo_skip rfl rfl rfl ?_
      refine sxo_skip rfl rfl rfl ?_
      refine sxo_pick (b := false) rfl rfl rfl rfl ?_
      refine sxo_nil ?_
      exact sxq_meetP (false, ()) (lk_cons rfl (lk_cons rfl (lk_cons rfl (lk_cons rfl (lk_cons rfl (lk_cons rfl (lk_cons rfl (lk_cons rfl (lk_cons rfl (lk_cons rfl lk_nil)))))))))) (.cons 1 rfl (.cons 1 rfl .nil)) (.cons 2 rfl (.cons 2 rfl (.cons 2 rfl (.cons 2 rfl .nil)))) fk_nil
  · rintro ⟨x41, _⟩
    try dsimp only
    refine sxo_take (os := _) rfl ?_
    refine sxo_move rfl rfl rfl ?_
    refine sxo_case 3 x41 [(5, .pointer (some ⟨g13, 0, none⟩)), (6, .int .i64 x10.2), (7, .pointer (some ⟨g17, 0, none⟩)), (8, .int .i64 x14.2), (9, .slice a19 x18.1.length c20), (10, .slice a21 x18.2.1.length c22), (11, .int .i64 x18.2.2), (13, .int .i64 x25.2), (71, .bool (x41 && ((x7.2 : Int) == 0)))] (fun h42 => ?_) (fun h42 => ?_) ?_
    · refine sxo_take (os := _) rfl ?_
      refine sxo_isT (k := 68) rfl h42 ?_
      refine sxo_move rfl rfl rfl ?_
      refine sxo_eql rfl rfl rfl rfl ?_
      refine sxo_pick (b := true) rfl rfl rfl rfl ?_
      refine sxo_again (d := 71) (v := .bool (x41 && ((x7.2 : Int) == 0))) rfl (by rw [h42]; simp only [Bool.true_and]) ?_
      refine sxo_nil ?_
      exact sxq_case (lk_cons rfl (lk_cons rfl (lk_cons rfl (lk_cons rfl (lk_cons rfl (lk_cons rfl (lk_cons rfl (lk_cons rfl (lk_cons rfl lk_nil)))))))))
    · refine sxo_take (os := _) rfl ?_
      refine sxo_isF (k := 68) rfl h42 ?_
      refine sxo_skip rfl rfl rfl ?_
      refine sxo_skip rfl rfl rfl ?_
      refine sxo_pick (b := false) rfl rfl rfl rfl ?_
      refine sxo_again (d := 71) (v := .bool (x41 && ((x7.2 : Int) == 0))) rfl (by rw [h42]; simp only [Bool.false_and]) ?_
      refine sxo_nil ?_
      exact sxq_case (lk_cons rfl (lk_cons rfl (lk_cons rfl (lk_cons rfl (lk_cons rfl (lk_cons rfl (lk_cons rfl (lk_cons rfl (lk_cons rfl lk_nil)))))))))
    refine sxo_take (os := _) rfl ?_
    refine sxo_move rfl rfl rfl ?_
    refine sxo_join 7 (fun ((x51, _) : (Bool × Unit)) => [(6, .int .i64 x10.2), (7, .pointer (some ⟨g17, 0, none⟩)), (8, .int .i64 x14.2), (9, .slice a19 x18.1.length c20), (10, .slice a21 x18.2.1.length c22), (11, .int .i64 x18.2.2), (13, .int .i64 x25.2), (79, .bool x51)]) (fun ((x51, _) : (Bool × Unit)) => [⟨g17, 24, [.slice a15 x14.1.length c16.1]⟩]) (fun ((x51, _) : (Bool × Unit)) => [Ro (eI .i64) 3 1 (.slice a19 x18.1.length c20) x18.1, Ro (eI .i64) 3 1 (.slice a21 x18.2.1.length c22) x18.2.1, RoN eN25 rN25 25 1 (.slice a15 x14.1.length c16.1) x14.1 c16.2 []]) (fun ((x51, _) : (Bool × Unit)) => []) (fun ((x51, _) : (Bool × Unit)) => M_L_graphBegun_j2 F x10 x14 x18 x25 x51) ?_ ?_
    · refine sxo_take (os := _) rfl ?_
      refine sxo_if (fun h43 => ?_) (fun h43 => ?_)
      · refine sxo_isT (k := 72) rfl h43 ?_
        refine sxo_fieldAddr rfl rfl ff24_0 rfl ?_
        refine sxo_loadB (i := 1) rfl rfl tf22 rfl rfl (fun _ => rfl) rfl rfl ?_
        refine sxo_slit (vs := [.int .i64 0, .int .i64 2]) (ys := ([0, 2] : List Int)) (eI_ok .i64) (by decide) rfl Try.underlying25 tf3 rfl rfl rfl rfl rfl (by decide) (fun a104 c105 => ?_)
        refine sxo_slit (vs := [.int .i64 0]) (ys := ([0] : List Int)) (eI_ok .i64) (by decide) rfl Try.underlying25 tf3 rfl rfl rfl rfl rfl (by decide) (fun a106 c107 => ?_)
        refine sxo_freeze 1 rfl ?_
        refine sxo_freeze 0 rfl ?_
        refine sxo_nilrow' Int (eI .i64) 3 1 ?_
        refine sxo_freeze 0 rfl ?_
        refine sxo_slit (vs := [.slice a104 ([0, 2] : List Int).length c105, .slice a106 ([0] : List Int).length c107, .slice none 0 0]) (ys := ([(([0, 2] : List Int), (a104, c105)), (([0] : List Int), (a106, c107)), (([] : List Int), (none, 0))] : List (List Int × (Option Addr × Nat)))) eN25_ok (by decide) rfl Try.underlying22 tf25 rfl rfl rfl rfl rfl (by decide) (fun a108 c109 => ?_)
        refine sxo_nestF (inn := iN25) ([([0, 2] : List Int), ([0] : List Int), ([] : List Int)] : List (List Int)) ([(a104, c105), (a106, c107), (none, 0)] : List (Option Addr × Nat)) 0 rfl rfl (fk_cons 2 rfl (fk_cons 1 rfl (fk_cons 0 rfl fk_nil))) ?_
        refine sxo_call ent44 rfl rfl rfl (fun x110 e110 => C_R_SameLists F x10.1 a11 c12 ([([0, 2] : List Int), ([0] : List Int), ([] : List Int)] : List (List Int)) a108 (c109, ([(a104, c105), (a106, c107), (none, 0)] : List (Option Addr × Nat))) x110 e110) (.consG 3 rfl (nest_sl rN25_in) (.consF 0 rfl .nil)) (fun x110 e110 => ?_)
        intro _
        refine sxo_pick (b := true) rfl rfl rfl rfl ?_
        refine sxo_nil ?_
        exact sxq_meetP (x110, ()) (lk_cons rfl (lk_cons rfl (lk_cons rfl (lk_cons rfl (lk_cons rfl (lk_cons rfl (lk_cons rfl (lk_cons rfl lk_nil)))))))) (.cons 0 rfl .nil) (.cons 0 rfl (.cons 0 rfl (.cons 0 rfl .nil))) fk_nil
      · refine sxo_isF (k := 72) rfl h43 ?_
        refine sxo_skip rfl rfl rfl ?_
        refine sxo_skip rfl rfl rfl ?_
        refine sxo_skip rfl rfl rfl ?_
        refine sxo_skip rfl rfl rfl ?_
        refine sxo_skip rfl rfl rfl ?_
        refine sxo_skip rfl rfl rfl ?_
        refine sxo_pick (b := false) rfl rfl rfl rfl ?_
        refine sxo_nil ?_
        exact sxq_meetP (false, ()) (lk_cons rfl (lk_cons rfl (lk_cons rfl (lk_cons rfl (lk_cons rfl (lk_cons rfl (lk_cons rfl (lk_cons rfl lk_nil)))))))) (.cons 0 rfl .nil) (.cons 0 rfl (.cons 0 rfl (.cons 0 rfl .nil))) fk_nil
    · rintro ⟨x51, _⟩
      try dsimp only
      refine sxo_take (os := _) rfl ?_
      refine sxo_move rfl rfl rfl ?_
      refine sxo_case 3 x51 [(7, .pointer (some ⟨g17, 0, none⟩)), (8, .int .i64 x14.2), (9, .slice a19 x18.1.length c20), (10, .slice a21 x18.2.1.length c22), (11, .int .i64 x18.2.2), (13, .int .i64 x25.2), (83, .bool (x51 && ((x10.2 : Int) == 0)))] (fun h52 => ?_) (fun h52 => ?_) ?_
      · refine sxo_take (os := _) rfl ?_
        refine sxo_isT (k := 80) rfl h52 ?_
        refine sxo_move rfl rfl rfl ?_
        refine sxo_eql rfl rfl rfl rfl ?_
        refine sxo_pick (b := true) rfl rfl rfl rfl ?_
        refine sxo_again (d := 83) (v := .bool (x51 && ((x10.2 : Int) == 0))) rfl (by rw [h52]; simp only [Bool.true_and]) ?_
        refine sxo_nil ?_
        exact sxq_case (lk_cons rfl (lk_cons rfl (lk_cons rfl (lk_cons rfl (lk_cons rfl (lk_cons rfl (lk_cons rfl lk_nil)))))))
      · refine sxo_take (os := _) rfl ?_
        refine sxo_isF (k := 80) rfl h52 ?_
        refine sxo_skip rfl rfl rfl ?_
        refine sxo_skip rfl rfl rfl ?_
        refine sxo_pick (b := false) rfl rfl rfl rfl ?_
        refine sxo_again (d := 83) (v := .bool (x51 && ((x10.2 : Int) == 0))) rfl (by rw [h52]; simp only [Bool.false_and]) ?_
        refine sxo_nil ?_
        exact sxq_case (lk_cons rfl (lk_cons rfl (lk_cons rfl (lk_cons rfl (lk_cons rfl (lk_cons rfl (lk_cons rfl lk_nil)))))))
      refine sxo_take (os := _) rfl ?_
      refine sxo_move rfl rfl rfl ?_
      refine sxo_join 8 (fun ((x63, _) : (Bool × Unit)) => [(8, .int .i64 x14.2), (9, .slice a19 x18.1.length c20), (10, .slice a21 x18.2.1.length c22), (11, .int .i64 x18.2.2), (13, .int .i64 x25.2), (92, .bool x63)]) (fun ((x63, _) : (Bool × Unit)) => []) (fun ((x63, _) : (Bool × Unit)) => [Ro (eI .i64) 3 1 (.slice a19 x18.1.length c20) x18.1, Ro (eI .i64) 3 1 (.slice a21 x18.2.1.length c22) x18.2.1]) (fun ((x63, _) : (Bool × Unit)) => []) (fun ((x63, _) : (Bool × Unit)) => M_L_graphBegun_j3 F x14 x18 x25 x63) ?_ ?_
      · refine sxo_take (os := _) rfl ?_
        refine sxo_if (fun h53 => ?_) (fun h53 => ?_)
        · refine sxo_isT (k := 84) rfl h53 ?_
          refine sxo_fieldAddr rfl rfl ff24_0 rfl ?_
          refine sxo_loadB (i := 0) rfl rfl tf22 rfl rfl (fun _ => rfl) rfl rfl ?_
          refine sxo_slit (vs := [.int .i64 0, .int .i64 1, .int .i64 2]) (ys := ([0, 1, 2] : List Int)) (eI_ok .i64) (by decide) rfl Try.underlying25 tf3 rfl rfl rfl rfl rfl (by decide) (fun a95 c96 => ?_)
          refine sxo_slit (vs := [.int .i64 0]) (ys := ([0] : List Int)) (eI_ok .i64) (by decide) rfl Try.underlying25 tf3 rfl rfl rfl rfl rfl (by decide) (fun a97 c98 => ?_)
          refine sxo_slit (vs := [.int .i64 0]) (ys := ([0] : List Int)) (eI_ok .i64) (by decide) rfl Try.underlying25 tf3 rfl rfl rfl rfl rfl (by decide) (fun a99 c100 => ?_)
          refine sxo_freeze 2 rfl ?_
          refine sxo_freeze 1 rfl ?_
          refine sxo_freeze 0 rfl ?_
          refine sxo_slit (vs := [.slice a95 ([0, 1, 2] : List Int).length c96, .slice a97 ([0] : List Int).length c98, .slice a99 ([0] : List Int).length c100]) (ys := ([(([0, 1, 2] : List Int), (a95, c96)), (([0] : List Int), (a97, c98)), (([0] : List Int), (a99, c100))] : List (List Int × (Option Addr × Nat)))) eN25_ok (by decide) rfl Try.underlying22 tf25 rfl rfl rfl rfl rfl (by decide) (fun a101 c102 => ?_)
          refine sxo_nestF (inn := iN25) ([([0, 1, 2] : List Int), ([0] : List Int), ([0] : List Int)] : List (List Int)) ([(a95, c96), (a97, c98), (a99, c100)] : List (Option Addr × Nat)) 0 rfl rfl (fk_cons 2 rfl (fk_cons 1 rfl (fk_cons 0 rfl fk_nil))) ?_
          refine sxo_call ent44 rfl rfl rfl (fun x103 e103 => C_R_SameLists F x14.1 a15 c16 ([([0, 1, 2] : List Int), ([0] : List Int), ([0] : List Int)] : List (List Int)) a101 (c102, ([(a95, c96), (a97, c98), (a99, c100)] : List (Option Addr × Nat))) x103 e103) (.consG 2 rfl (nest_sl rN25_in) (.consF 0 rfl .nil)) (fun x103 e103 => ?_)
          intro _
          refine sxo_pick (b := true) rfl rfl rfl rfl ?_
          refine sxo_nil ?_
          exact sxq_meetP (x103, ()) (lk_cons rfl (lk_cons rfl (lk_cons rfl (lk_cons rfl (lk_cons rfl (lk_cons rfl lk_nil)))))) .nil (.cons 0 rfl (.cons 0 rfl .nil)) fk_nil
        · refine sxo_isF (k := 84) rfl h53 ?_
          refine sxo_skip rfl rfl rfl ?_
          refine sxo_skip rfl rfl rfl ?_
          refine sxo_skip rfl rfl rfl ?_
          refine sxo_skip rfl rfl rfl ?_
          refine sxo_skip rfl rfl rfl ?_
          refine sxo_skip rfl rfl rfl ?_
          refine sxo_skip rfl rfl rfl ?_
          refine sxo_pick (b := false) rfl rfl rfl rfl ?_
          refine sxo_nil ?_
          exact sxq_meetP (false, ()) (lk_cons rfl (lk_cons rfl (lk_cons rfl (lk_cons rfl (lk_cons rfl (lk_cons rfl lk_nil)))))) .nil (.cons 0 rfl (.cons 0 rfl .nil)) fk_nil
      · rintro ⟨x63, _⟩
        try dsimp only
        refine sxo_take (os := _) rfl ?_
        refine sxo_move rfl rfl rfl ?_
        refine sxo_case 3 x63 [(9, .slice a19 x18.1.length c20), (10, .slice a21 x18.2.1.length c22), (11, .int .i64 x18.2.2), (13, .int .i64 x25.2), (96, .bool (x63 && ((x14.2 : Int) == 0)))] (fun h64 => ?_) (fun h64 => ?_) ?_
        · refine sxo_take (os := _) rfl ?_
          refine sxo_isT (k := 93) rfl h64 ?_
          refine sxo_move rfl rfl rfl ?_
          refine sxo_eql rfl rfl rfl rfl ?_
          refine sxo_pick (b := true) rfl rfl rfl rfl ?_
          refine sxo_again (d := 96) (v := .bool (x63 && ((x14.2 : Int) == 0))) rfl (by rw [h64]; simp only [Bool.true_and]) ?_
          refine sxo_nil ?_
          exact sxq_case (lk_cons rfl (lk_cons rfl (lk_cons rfl (lk_cons rfl (lk_cons rfl lk_nil)))))
        · refine sxo_take (os := _) rfl ?_
          refine sxo_isF (k := 93) rfl h64 ?_
          refine sxo_skip rfl rfl rfl ?_
          refine sxo_skip rfl rfl rfl ?_
          refine sxo_pick (b := false) rfl rfl rfl rfl ?_
          refine sxo_again (d := 96) (v := .bool (x63 && ((x14.2 : Int) == 0))) rfl (by rw [h64]; simp only [Bool.false_and]) ?_
          refine sxo_nil ?_
          exact sxq_case (lk_cons rfl (lk_cons rfl (lk_cons rfl (lk_cons rfl (lk_cons rfl lk_nil)))))
        refine sxo_take (os := _) rfl ?_
        refine sxo_move rfl rfl rfl ?_
        refine sxo_join 4 (fun ((x69, _) : (Bool × Unit)) => [(10, .slice a21 x18.2.1.length c22), (11, .int .i64 x18.2.2), (13, .int .i64 x25.2), (101, .bool x69)]) (fun ((x69, _) : (Bool × Unit)) => []) (fun ((x69, _) : (Bool × Unit)) => [Ro (eI .i64) 3 1 (.slice a21 x18.2.1.length c22) x18.2.1]) (fun ((x69, _) : (Bool × Unit)) => []) (fun ((x69, _) : (Bool × Unit)) => M_L_graphBegun_j4 F x18 x25 x69) ?_ ?_
        · refine sxo_take (os := _) rfl ?_
          refine sxo_if (fun h65 => ?_) (fun h65 => ?_)
          · refine sxo_isT (k := 97) rfl h65 ?_
            refine sxo_move rfl rfl rfl ?_
            refine sxo_slit (vs := [.int .i64 2, .int .i64 0, .int .i64 1]) (ys := ([2, 0, 1] : List Int)) (eI_ok .i64) (by decide) rfl Try.underlying25 tf3 rfl rfl rfl rfl rfl (by decide) (fun a92 c93 => ?_)
            refine sxo_call ent19 rfl rfl rfl (fun x94 e94 => C_R_SameInts F x18.1 a19 c20 ([2, 0, 1] : List Int) a92 c93 x94 e94) (.consR 1 (Ro (eI .i64) 3 1 (.slice a19 x18.1.length c20) x18.1) rfl (.consR 0 (Ro (eI .i64) 3 1 (.slice a92 ([2, 0, 1] : List Int).length c93) ([2, 0, 1] : List Int)) rfl .nil)) (fun x94 e94 => ?_)
            intro _
            refine sxo_pick (b := true) rfl rfl rfl rfl ?_
            refine sxo_nil ?_
            exact sxq_meetP (x94, ()) (lk_cons rfl (lk_cons rfl (lk_cons rfl (lk_cons rfl lk_nil)))) .nil (.cons 2 rfl .nil) fk_nil
          · refine sxo_isF (k := 97) rfl h65 ?_
            refine sxo_skip rfl rfl rfl ?_
            refine sxo_skip rfl rfl rfl ?_
            refine sxo_skip rfl rfl rfl ?_
            refine sxo_pick (b := false) rfl rfl rfl rfl ?_
            refine sxo_nil ?_
            exact sxq_meetP (false, ()) (lk_cons rfl (lk_cons rfl (lk_cons rfl (lk_cons rfl lk_nil)))) .nil (.cons 1 rfl .nil) fk_nil
        · rintro ⟨x69, _⟩
          try dsimp only
          refine sxo_take (os := _) rfl ?_
          refine sxo_move rfl rfl rfl ?_
          refine sxo_join 4 (fun ((x74, _) : (Bool × Unit)) => [(11, .int .i64 x18.2.2), (13, .int .i64 x25.2), (106, .bool x74)]) (fun ((x74, _) : (Bool × Unit)) => []) (fun ((x74, _) : (Bool × Unit)) => []) (fun ((x74, _) : (Bool × Unit)) => []) (fun ((x74, _) : (Bool × Unit)) => M_L_graphBegun_j5 F x18 x25 x74) ?_ ?_
          · refine sxo_take (os := _) rfl ?_
            refine sxo_if (fun h70 => ?_) (fun h70 => ?_)
            · refine sxo_isT (k := 102) rfl h70 ?_
              refine sxo_move rfl rfl rfl ?_
              refine sxo_slit (vs := [.int .i64 2, .int .i64 1, .int .i64 0]) (ys := ([2, 1, 0] : List Int)) (eI_ok .i64) (by decide) rfl Try.underlying25 tf3 rfl rfl rfl rfl rfl (by decide) (fun a89 c90 => ?_)
              refine sxo_call ent19 rfl rfl rfl (fun x91 e91 => C_R_SameInts F x18.2.1 a21 c22 ([2, 1, 0] : List Int) a89 c90 x91 e91) (.consR 1 (Ro (eI .i64) 3 1 (.slice a21 x18.2.1.length c22) x18.2.1) rfl (.consR 0 (Ro (eI .i64) 3 1 (.slice a89 ([2, 1, 0] : List Int).length c90) ([2, 1, 0] : List Int)) rfl .nil)) (fun x91 e91 => ?_)
              intro _
              refine sxo_pick (b := true) rfl rfl rfl rfl ?_
              refine sxo_nil ?_
              exact sxq_meetP (x91, ()) (lk_cons rfl (lk_cons rfl (lk_cons rfl lk_nil))) .nil .nil fk_nil
            · refine sxo_isF (k := 102) rfl h70 ?_
              refine sxo_skip rfl rfl rfl ?_
              refine sxo_skip rfl rfl rfl ?_
              refine sxo_skip rfl rfl rfl ?_
              refine sxo_pick (b := false) rfl rfl rfl rfl ?_
              refine sxo_nil ?_
              exact sxq_meetP (false, ()) (lk_cons rfl (lk_cons rfl (lk_cons rfl lk_nil))) .nil .nil fk_nil
          · rintro ⟨x74, _⟩
            try dsimp only
            refine sxo_take (os := _) rfl ?_
            refine sxo_move rfl rfl rfl ?_
            refine sxo_case 3 x74 [(13, .int .i64 x25.2), (110, .bool (x74 && ((x18.2.2 : Int) == 0)))] (fun h75 => ?_) (fun h75 => ?_) ?_
            · refine sxo_take (os := _) rfl ?_
              refine sxo_isT (k := 107) rfl h75 ?_
              refine sxo_move rfl rfl rfl ?_
              refine sxo_eql rfl rfl rfl rfl ?_
              refine sxo_pick (b := true) rfl rfl rfl rfl ?_
              refine sxo_again (d := 110) (v := .bool (x74 && ((x18.2.2 : Int) == 0))) rfl (by rw [h75]; simp only [Bool.true_and]) ?_
              refine sxo_nil ?_
              exact sxq_case (lk_cons rfl (lk_cons rfl lk_nil))
            · refine sxo_take (os := _) rfl ?_
              refine sxo_isF (k := 107) rfl h75 ?_
              refine sxo_skip rfl rfl rfl ?_
              refine sxo_skip rfl rfl rfl ?_
              refine sxo_pick (b := false) rfl rfl rfl rfl ?_
              refine sxo_again (d := 110) (v := .bool (x74 && ((x18.2.2 : Int) == 0))) rfl (by rw [h75]; simp only [Bool.false_and]) ?_
              refine sxo_nil ?_
              exact sxq_case (lk_cons rfl (lk_cons rfl lk_nil))
            refine sxo_take (os := _) rfl ?_
            refine sxo_move rfl rfl rfl ?_
            refine sxo_case 3 (x74 && ((x18.2.2 : Int) == 0)) [(114, .bool ((x74 && ((x18.2.2 : Int) == 0)) && ((x25.2 : Int) == 6)))] (fun h76 => ?_) (fun h76 => ?_) ?_
            · refine sxo_take (os := _) rfl ?_
              refine sxo_isT (k := 111) rfl h76 ?_
              refine sxo_move rfl rfl rfl ?_
              refine sxo_eql rfl rfl rfl rfl ?_
              refine sxo_pick (b := true) rfl rfl rfl rfl ?_
              refine sxo_again (d := 114) (v := .bool ((x74 && ((x18.2.2 : Int) == 0)) && ((x25.2 : Int) == 6))) rfl (by rw [h76]; simp only [Bool.true_and]) ?_
              refine sxo_nil ?_
              exact sxq_case (lk_cons rfl lk_nil)
            · refine sxo_take (os := _) rfl ?_
              refine sxo_isF (k := 111) rfl h76 ?_
              refine sxo_skip rfl rfl rfl ?_
              refine sxo_skip rfl rfl rfl ?_
              refine sxo_pick (b := false) rfl rfl rfl rfl ?_
              refine sxo_again (d := 114) (v := .bool ((x74 && ((x18.2.2 : Int) == 0)) && ((x25.2 : Int) == 6))) rfl (by rw [h76]; simp only [Bool.false_and]) ?_
              refine sxo_nil ?_
              exact sxq_case (lk_cons rfl lk_nil)
            refine sxo_take (os := _) rfl ?_
            refine sxo_move rfl rfl rfl ?_
            refine sxo_join 6 (fun ((x83, _) : (Bool × Unit)) => [(121, .bool x83)]) (fun ((x83, _) : (Bool × Unit)) => []) (fun ((x83, _) : (Bool × Unit)) => []) (fun ((x83, _) : (Bool × Unit)) => []) (fun ((x83, _) : (Bool × Unit)) => M_L_graphBegun_j6 F x83) ?_ ?_
            · refine sxo_take (os := _) rfl ?_
              refine sxo_if (fun h77 => ?_) (fun h77 => ?_)
              · refine sxo_isT (k := 115) rfl h77 ?_
                refine sxo_slit (vs := [.int .i64 1]) (ys := ([1] : List Int)) (eI_ok .i64) (by decide) rfl Try.underlying25 tf3 rfl rfl rfl rfl rfl (by decide) (fun a84 c85 => ?_)
                refine sxo_freeze 0 rfl ?_
                refine sxo_slit (vs := [.slice a84 ([1] : List Int).length c85]) (ys := ([(([1] : List Int), (a84, c85))] : List (List Int × (Option Addr × Nat)))) eN25_ok (by decide) rfl Try.underlying22 tf25 rfl rfl rfl rfl rfl (by decide) (fun a86 c87 => ?_)
                refine sxo_nestF (inn := iN25) ([([1] : List Int)] : List (List Int)) ([(a84, c85)] : List (Option Addr × Nat)) 0 rfl rfl (fk_cons 0 rfl fk_nil) ?_
                refine sxo_build (cells := [.slice a86 ([([1] : List Int)] : List (List Int)).length c87]) rfl st24 rfl (by kernel_rfl) rfl ?_
                refine sxo_call ent36 rfl rfl rfl (fun x88 e88 => C_graph_Check F ([([1] : List Int)] : List (List Int)) a86 (c87, ([(a84, c85)] : List (Option Addr × Nat))) x88 e88) (.consF 0 rfl .nil) (fun x88 e88 => ?_)
                intro _
                refine sxo_eql rfl rfl rfl rfl ?_
                refine sxo_pick (b := true) rfl rfl rfl rfl ?_
                refine sxo_nil ?_
                exact sxq_meetP (((x88 : Int) == 3), ()) (lk_cons rfl lk_nil) .nil .nil fk_nil
              · refine sxo_isF (k := 115) rfl h77 ?_
                refine sxo_skip rfl rfl rfl ?_
                refine sxo_skip rfl rfl rfl ?_
                refine sxo_skip rfl rfl rfl ?_
                refine sxo_skip rfl rfl rfl ?_
                refine sxo_skip rfl rfl rfl ?_
                refine sxo_pick (b := false) rfl rfl rfl rfl ?_
                refine sxo_nil ?_
                exact sxq_meetP (false, ()) (lk_cons rfl lk_nil) .nil .nil fk_nil
            · rintro ⟨x83, _⟩
              try dsimp only
              refine sxo_take (os := _) rfl ?_
              refine sxo_assign rfl rfl rfl ?_
              refine sxo_nil ?_
              refine sxq_next ?_
              refine sxc_ret ?_
              exact sxq_doneP () (.inl rfl) (res1 rfl rfl) (fun h => by subst h; rfl) (fun h => by subst h; exact .nil)

set_option maxHeartbeats 4000000 in
theorem C_L_WalkParts (F : Nat) (x1 : List (List Int)) (a2 : Option Addr) (c3 : (Nat × List (Option Addr × Nat))) (x4 : Int) (x5 : Int) (r : Bool) (hm : M_L_WalkParts F x1 x4 x5 = some r) :
    Pure Try.prog 9 [.agg #[.slice a2 x1.length c3.1], .int .i64 x4, .int .i64 x5] [SlN eN25 iN25 1 (.slice a2 x1.length c3.1) x1 c3.2] Unit (fun _ => .bool r) (fun _ => []) (fun _ => []) := by
  refine pure_of Try.func9 rfl Try.ntmps9 rfl hm (fun w => ?_)
  refine sxc_env (l' := [(0, .agg #[.slice a2 x1.length c3.1]), (1, .int .i64 x4), (2, .int .i64 x5)]) rfl ?_
  refine sxc_seq ?_
  refine sxc_region ?_
  refine sxo_box rfl rfl rfl (fun g6 => ?_)
  refine sxo_assign rfl rfl rfl ?_
  refine sxo_nil ?_
  refine sxq_next ?_
  refine sxc_seq ?_
  refine sxc_region ?_
  refine sxo_loadB (i := 0) rfl rfl tf24 rfl rfl (by simp) rfl rfl ?_
  refine sxo_callM ent12 rfl rfl rfl (fun x7 e7 => C_walk_Parts F x1 a2 c3 x7 e7) .nil .nil (.consF 0 rfl .nil) (fun x7 e7 => ?_)
  rintro ⟨a8, c9⟩
  refine sxo_move rfl rfl rfl ?_
  refine sxo_extract rfl rfl rfl rfl ?_
  refine sxo_extract rfl rfl rfl rfl ?_
  refine sxo_assign rfl rfl rfl ?_
  refine sxo_assign rfl rfl rfl ?_
  refine sxo_nil ?_
  refine sxq_next ?_
  refine sxc_seq ?_
  refine sxc_region ?_
  refine sxo_loadB (i := 0) rfl rfl tf24 rfl rfl (by simp) rfl rfl ?_
  refine sxo_move rfl rfl rfl ?_
  refine sxo_call ent10 rfl rfl rfl (fun x10 e10 => C_walk_Far F x1 a2 c3 x4 x10 e10) (.consF 0 rfl .nil) (fun x10 e10 => ?_)
  rintro ⟨a11, c12⟩
  refine sxo_move rfl rfl rfl ?_
  refine sxo_extract rfl rfl rfl rfl ?_
  refine sxo_extract rfl rfl rfl rfl ?_
  refine sxo_assign rfl rfl rfl ?_
  refine sxo_assign rfl rfl rfl ?_
  refine sxo_nil ?_
  refine sxq_next ?_
  refine sxc_seq ?_
  refine sxc_seq ?_
  refine sxc_region ?_
  refine sxo_call ent18 rfl rfl rfl (fun x19 e19 => C_L_walkBegun F  x19 e19) .nil (fun x19 e19 => ?_)
  intro _
  refine sxo_not rfl rfl rfl ?_
  refine sxo_move rfl rfl rfl ?_
  refine sxo_join 3 (fun ((x22, _) : (Bool × Unit)) => [(1, .int .i64 x4), (2, .int .i64 x5), (3, .pointer (some ⟨g6, 0, none⟩)), (7, .slice a8 x7.1.length c9), (8, .int .i64 x7.2), (9, .slice a11 x10.1.length c12), (10, .int .i64 x10.2), (31, .bool x22)]) (fun ((x22, _) : (Bool × Unit)) => [⟨g6, 24, [.slice a2 x1.length c3.1]⟩]) (fun ((x22, _) : (Bool × Unit)) => [Ro (eI .i64) 3 1 (.slice a8 x7.1.length c9) x7.1, Ro (eI .i64) 3 1 (.slice a11 x10.1.length c12) x10.1]) (fun ((x22, _) : (Bool × Unit)) => [SlN eN25 iN25 1 (.slice a2 x1.length c3.1) x1 c3.2]) (fun ((x22, _) : (Bool × Unit)) => M_L_WalkParts_j2 F x1 x4 x5 x7 x10 x22) ?_ ?_
  · refine sxo_take (os := _) rfl ?_
    refine sxo_if (fun h20 => ?_) (fun h20 => ?_)
    · refine sxo_isT (k := 28) rfl h20 ?_
      refine sxo_skip rfl rfl rfl ?_
      refine sxo_skip rfl rfl rfl ?_
      refine sxo_pick (b := true) rfl rfl rfl rfl ?_
      refine sxo_nil ?_
      exact sxq_meetP (true, ()) (lk_cons rfl (lk_cons rfl (lk_cons rfl (lk_cons rfl (lk_cons rfl (lk_cons rfl (lk_cons rfl (lk_cons rfl lk_nil)))))))) (.cons 0 rfl .nil) (.cons 1 rfl (.cons 0 rfl .nil)) (fk_cons 0 rfl fk_nil)
    · refine sxo_isF (k := 28) rfl h20 ?_
      refine sxo_call ent25 rfl rfl rfl (fun x266 e266 => C_L_graphBegun F  x266 e266) .nil (fun x266 e266 => ?_)
      intro _
      refine sxo_not rfl rfl rfl ?_
      refine sxo_pick (b := false) rfl rfl rfl rfl ?_
      refine sxo_nil ?_
      exact sxq_meetP ((!x266), ()) (lk_cons rfl (lk_cons rfl (lk_cons rfl (lk_cons rfl (lk_cons rfl (lk_cons rfl (lk_cons rfl (lk_cons rfl lk_nil)))))))) (.cons 0 rfl .nil) (.cons 1 rfl (.cons 0 rfl .nil)) (fk_cons 0 rfl fk_nil)
  · rintro ⟨x22, _⟩
    try dsimp only
    refine sxo_take (os := _) rfl ?_
    refine sxo_nil ?_
    refine sxq_next ?_
    refine sxc_if rfl (fun h265 => ?_) (fun h265 => ?_)
    · refine sxc_seq ?_
      refine sxc_region ?_
      refine sxo_assign rfl rfl rfl ?_
      refine sxo_nil ?_
      refine sxq_next ?_
      refine sxc_ret ?_
      refine sxq_thenR ?_
      exact sxq_doneP () (.inl rfl) (res1 rfl rfl) (fun h => by subst h; rfl) (fun h => by subst h; exact .nil)
    · refine sxc_skip ?_
      refine sxq_next ?_
      refine sxc_seq ?_
      refine sxc_seq ?_
      refine sxc_region ?_
      refine sxo_move rfl rfl rfl ?_
      refine sxo_neq rfl rfl rfl rfl ?_
      refine sxo_move rfl rfl rfl ?_
      refine sxo_case 3 ((x7.2 : Int) != 0) [(1, .int .i64 x4), (2, .int .i64 x5), (3, .pointer (some ⟨g6, 0, none⟩)), (7, .slice a8 x7.1.length c9), (8, .int .i64 x7.2), (9, .slice a11 x10.1.length c12), (37, .bool (((x7.2 : Int) != 0) || ((x10.2 : Int) != 0)))] (fun h28 => ?_) (fun h28 => ?_) ?_
      · refine sxo_take (os := _) rfl ?_
        refine sxo_isT (k := 34) rfl h28 ?_
        refine sxo_skip rfl rfl rfl ?_
        refine sxo_skip rfl rfl rfl ?_
        refine sxo_pick (b := true) rfl rfl rfl rfl ?_
        refine sxo_again (d := 37) (v := .bool (((x7.2 : Int) != 0) || ((x10.2 : Int) != 0))) rfl (by rw [h28]; simp only [Bool.true_or]) ?_
        refine sxo_nil ?_
        exact sxq_case (lk_cons rfl (lk_cons rfl (lk_cons rfl (lk_cons rfl (lk_cons rfl (lk_cons rfl (lk_cons rfl lk_nil)))))))
      · refine sxo_take (os := _) rfl ?_
        refine sxo_isF (k := 34) rfl h28 ?_
        refine sxo_move rfl rfl rfl ?_
        refine sxo_neq rfl rfl rfl rfl ?_
        refine sxo_pick (b := false) rfl rfl rfl rfl ?_
        refine sxo_again (d := 37) (v := .bool (((x7.2 : Int) != 0) || ((x10.2 : Int) != 0))) rfl (by rw [h28]; simp only [Bool.false_or]) ?_
        refine sxo_nil ?_
        exact sxq_case (lk_cons rfl (lk_cons rfl (lk_cons rfl (lk_cons rfl (lk_cons rfl (lk_cons rfl (lk_cons rfl lk_nil)))))))
      refine sxo_take (os := _) rfl ?_
      refine sxo_move rfl rfl rfl ?_
      refine sxo_case 3 (((x7.2 : Int) != 0) || ((x10.2 : Int) != 0)) [(1, .int .i64 x4), (2, .int .i64 x5), (3, .pointer (some ⟨g6, 0, none⟩)), (7, .slice a8 x7.1.length c9), (8, .int .i64 x7.2), (9, .slice a11 x10.1.length c12), (41, .bool ((((x7.2 : Int) != 0) || ((x10.2 : Int) != 0)) || (decide (x5 < 0))))] (fun h29 => ?_) (fun h29 => ?_) ?_
      · refine sxo_take (os := _) rfl ?_
        refine sxo_isT (k := 38) rfl h29 ?_
        refine sxo_skip rfl rfl rfl ?_
        refine sxo_skip rfl rfl rfl ?_
        refine sxo_pick (b := true) rfl rfl rfl rfl ?_
        refine sxo_again (d := 41) (v := .bool ((((x7.2 : Int) != 0) || ((x10.2 : Int) != 0)) || (decide (x5 < 0)))) rfl (by rw [h29]; simp only [Bool.true_or]) ?_
        refine sxo_nil ?_
        exact sxq_case (lk_cons rfl (lk_cons rfl (lk_cons rfl (lk_cons rfl (lk_cons rfl (lk_cons rfl (lk_cons rfl lk_nil)))))))
      · refine sxo_take (os := _) rfl ?_
        refine sxo_isF (k := 38) rfl h29 ?_
        refine sxo_move rfl rfl rfl ?_
        refine sxo_lss rfl rfl rfl rfl ?_
        refine sxo_pick (b := false) rfl rfl rfl rfl ?_
        refine sxo_again (d := 41) (v := .bool ((((x7.2 : Int) != 0) || ((x10.2 : Int) != 0)) || (decide (x5 < 0)))) rfl (by rw [h29]; simp only [Bool.false_or]) ?_
        refine sxo_nil ?_
        exact sxq_case (lk_cons rfl (lk_cons rfl (lk_cons rfl (lk_cons rfl (lk_cons rfl (lk_cons rfl (lk_cons rfl lk_nil)))))))
      refine sxo_take (os := _) rfl ?_
      refine sxo_move rfl rfl rfl ?_
      refine sxo_case 5 ((((x7.2 : Int) != 0) || ((x10.2 : Int) != 0)) || (decide (x5 < 0))) [(1, .int .i64 x4), (2, .int .i64 x5), (3, .pointer (some ⟨g6, 0, none⟩)), (7, .slice a8 x7.1.length c9), (8, .int .i64 x7.2), (9, .slice a11 x10.1.length c12), (47, .bool (((((x7.2 : Int) != 0) || ((x10.2 : Int) != 0)) || (decide (x5 < 0))) || (decide ((x7.1.length : Int) ≤ x5))))] (fun h30 => ?_) (fun h30 => ?_) ?_
      · refine sxo_take (os := _) rfl ?_
        refine sxo_isT (k := 42) rfl h30 ?_
        refine sxo_skip rfl rfl rfl ?_
        refine sxo_skip rfl rfl rfl ?_
        refine sxo_skip rfl rfl rfl ?_
        refine sxo_skip rfl rfl rfl ?_
        refine sxo_pick (b := true) rfl rfl rfl rfl ?_
        refine sxo_again (d := 47) (v := .bool (((((x7.2 : Int) != 0) || ((x10.2 : Int) != 0)) || (decide (x5 < 0))) || (decide ((x7.1.length : Int) ≤ x5)))) rfl (by rw [h30]; simp only [Bool.true_or]) ?_
        refine sxo_nil ?_
        exact sxq_case (lk_cons rfl (lk_cons rfl (lk_cons rfl (lk_cons rfl (lk_cons rfl (lk_cons rfl (lk_cons rfl lk_nil)))))))
      · refine sxo_take (os := _) rfl ?_
        refine sxo_isF (k := 42) rfl h30 ?_
        refine sxo_move rfl rfl rfl ?_
        refine sxo_move rfl rfl rfl ?_
        refine sxo_len rfl Try.underlying25 rfl rfl ?_
        refine sxo_geq rfl rfl rfl rfl ?_
        refine sxo_pick (b := false) rfl rfl rfl rfl ?_
        refine sxo_again (d := 47) (v := .bool (((((x7.2 : Int) != 0) || ((x10.2 : Int) != 0)) || (decide (x5 < 0))) || (decide ((x7.1.length : Int) ≤ x5)))) rfl (by rw [h30]; simp only [Bool.false_or]) ?_
        refine sxo_nil ?_
        exact sxq_case (lk_cons rfl (lk_cons rfl (lk_cons rfl (lk_cons rfl (lk_cons rfl (lk_cons rfl (lk_cons rfl lk_nil)))))))
      refine sxo_take (os := _) rfl ?_
      refine sxo_nil ?_
      refine sxq_next ?_
      refine sxc_if rfl (fun h264 => ?_) (fun h264 => ?_)
      · refine sxc_seq ?_
        refine sxc_region ?_
        refine sxo_move rfl rfl rfl ?_
        refine sxo_eql rfl rfl rfl rfl ?_
        refine sxo_move rfl rfl rfl ?_
        refine sxo_case 4 ((x7.2 : Int) == 0) [(54, .bool (((x7.2 : Int) == 0) || (((x7.1.length : Int) : Int) == 0)))] (fun h31 => ?_) (fun h31 => ?_) ?_
        · refine sxo_take (os := _) rfl ?_
          refine sxo_isT (k := 50) rfl h31 ?_
          refine sxo_skip rfl rfl rfl ?_
          refine sxo_skip rfl rfl rfl ?_
          refine sxo_skip rfl rfl rfl ?_
          refine sxo_pick (b := true) rfl rfl rfl rfl ?_
          refine sxo_again (d := 54) (v := .bool (((x7.2 : Int) == 0) || (((x7.1.length : Int) : Int) == 0))) rfl (by rw [h31]; simp only [Bool.true_or]) ?_
          refine sxo_nil ?_
          exact sxq_case (lk_cons rfl lk_nil)
        · refine sxo_take (os := _) rfl ?_
          refine sxo_isF (k := 50) rfl h31 ?_
          refine sxo_move rfl rfl rfl ?_
          refine sxo_len rfl Try.underlying25 rfl rfl ?_
          refine sxo_eql rfl rfl rfl rfl ?_
          refine sxo_pick (b := false) rfl rfl rfl rfl ?_
          refine sxo_again (d := 54) (v := .bool (((x7.2 : Int) == 0) || (((x7.1.length : Int) : Int) == 0))) rfl (by rw [h31]; simp only [Bool.false_or]) ?_
          refine sxo_nil ?_
          exact sxq_case (lk_cons rfl lk_nil)
        refine sxo_take (os := _) rfl ?_
        refine sxo_assign rfl rfl rfl ?_
        refine sxo_nil ?_
        refine sxq_next ?_
        refine sxc_ret ?_
        refine sxq_thenR ?_
        exact sxq_doneP () (.inl rfl) (res1 rfl rfl) (fun h => by subst h; rfl) (fun h => by subst h; exact .nil)
      · refine sxc_skip ?_
        refine sxq_next ?_
        refine sxc_seq ?_
        refine sxc_join (fun ((x178, _) : (Bool × Unit)) => [(1, .int .i64 x4), (2, .int .i64 x5), (3, .pointer (some ⟨g6, 0, none⟩)), (7, .slice a8 x7.1.length c9), (92, .bool x178)]) (fun ((x178, _) : (Bool × Unit)) => [⟨g6, 24, [.slice a2 x1.length c3.1]⟩]) (fun ((x178, _) : (Bool × Unit)) => [Ro (eI .i64) 3 1 (.slice a8 x7.1.length c9) x7.1]) (fun ((x178, _) : (Bool × Unit)) => [SlN eN25 iN25 1 (.slice a2 x1.length c3.1) x1 c3.2]) (fun ((x178, _) : (Bool × Unit)) => M_L_WalkParts_j4 F x1 x4 x5 x7 x178) ?_ ?_
        · refine sxc_idxO (j := 1) rfl (fun x216 e216 g217 h218 => ?_)
          replace h218 : a11 = some ⟨g217, 0, none⟩ := h218
          have h219 := own_of (k := x10.1.length) (c := c12) h218
          refine sxc_split (fun h220 => ?_) (fun h220 => ?_)
          · refine sxc_idxO (j := 0) rfl (fun x221 e221 g222 h223 => ?_)
            replace h223 : a8 = some ⟨g222, 0, none⟩ := h223
            have h224 := own_of (k := x7.1.length) (c := c9) h223
            refine sxc_idxO (j := 0) rfl (fun x225 e225 g226 h227 => ?_)
            replace h227 : a8 = some ⟨g226, 0, none⟩ := h227
            have h228 := own_of (k := x7.1.length) (c := c9) h227
            refine sxc_split (fun h229 => ?_) (fun h229 => ?_)
            · refine sxb_draw mixed [] [⟨g6, 24, [.slice a2 x1.length c3.1]⟩] [SlN eN25 iN25 1 (.slice a2 x1.length c3.1) x1 c3.2, CellsAt g217 (x5.toNat * 1) ((eI .i64) x216), CellsAt g222 (x4.toNat * 1) ((eI .i64) x221), CellsAt g226 (x5.toNat * 1) ((eI .i64) x225)] (.cons 0 rfl .nil) (gk_F 0 rfl (gk_R 1 rfl (at_row (eI_ok .i64) e216 h218) (gk_R 0 rfl (at_row (eI_ok .i64) e221 h223) (gk_R 0 rfl (at_row (eI_ok .i64) e225 h227) gk_nil)))) 38 rfl ?_
              refine sxb_takeP 0 (.slice a11 x10.1.length c12) rfl rfl rfl rfl (by kernel_rfl) (by kernel_rfl) (by kernel_rfl) (by kernel_rfl) (by kernel_rfl) rfl (show _ = #[true, false, false, false, false, false, false, false, false, false, false, false, false, false, false, false, false, false, false, false, false, false, false, false, false, false, false, false, false, false, false, false, false, false, false, false, false, false] from rfl) (yv_pv rfl) ?_
              refine sxb_takeP 1 (.int .i64 x5) rfl rfl rfl rfl (by kernel_rfl) (by kernel_rfl) (by kernel_rfl) (by kernel_rfl) (by kernel_rfl) rfl (show _ = #[true, true, false, false, false, false, false, false, false, false, false, false, false, false, false, false, false, false, false, false, false, false, false, false, false, false, false, false, false, false, false, false, false, false, false, false, false, false] from rfl) (yv_pv rfl) ?_
              refine sxb_again (d := 55) (v := .slice (some ⟨g217, 0, none⟩) x10.1.length c12) rfl (by rw [h218] <;> rfl) ?_
              refine sxb_takeP 2 (.pointer (some ⟨g217, x5.toNat * 1, none⟩)) rfl rfl rfl rfl (by kernel_rfl) (by kernel_rfl) (by kernel_rfl) (by kernel_rfl) (by kernel_rfl) rfl (show _ = #[true, true, true, false, false, false, false, false, false, false, false, false, false, false, false, false, false, false, false, false, false, false, false, false, false, false, false, false, false, false, false, false, false, false, false, false, false, false] from rfl) (yv_idxO Try.underlying25 tf3 rfl rfl (idx_get e216).1 (idx_lt e216)) ?_
              refine sxb_again (d := 55) (v := .slice a11 x10.1.length c12) rfl (by rw [h218] <;> rfl) ?_
              refine sxb_take 3 (.int .i64 x216) [] rfl rfl rfl rfl (by kernel_rfl) (by kernel_rfl) (by kernel_rfl) (by kernel_rfl) (by kernel_rfl) (by kernel_rfl) rfl (show _ = #[true, true, true, true, false, false, false, false, false, false, false, false, false, false, false, false, false, false, false, false, false, false, false, false, false, false, false, false, false, false, false, false, false, false, false, false, false, false] from rfl) (yv_loadF (j := 1) rfl tf3 rfl rfl (fun _ => rfl) rfl) ?_
              refine sxb_takeP 4 (.bool (decide (0 ≤ x216))) rfl rfl rfl rfl (by kernel_rfl) (by kernel_rfl) (by kernel_rfl) (by kernel_rfl) (by kernel_rfl) rfl (show _ = #[true, true, true, true, true, false, false, false, false, false, false, false, false, false, false, false, false, false, false, false, false, false, false, false, false, false, false, false, false, false, false, false, false, false, false, false, false, false] from rfl) (yv_pv rfl) ?_
              refine sxb_takeP 5 (.bool (decide (0 ≤ x216))) rfl rfl rfl rfl (by kernel_rfl) (by kernel_rfl) (by kernel_rfl) (by kernel_rfl) (by kernel_rfl) rfl (show _ = #[true, true, true, true, true, true, false, false, false, false, false, false, false, false, false, false, false, false, false, false, false, false, false, false, false, false, false, false, false, false, false, false, false, false, false, false, false, false] from rfl) (yv_pv rfl) ?_
              refine sxb_again (d := 60) (v := .bool true) rfl (by rw [h220] <;> rfl) ?_
              refine sxb_takeP 6 (.slice a8 x7.1.length c9) rfl rfl rfl rfl (by kernel_rfl) (by kernel_rfl) (by kernel_rfl) (by kernel_rfl) (by kernel_rfl) rfl (show _ = #[true, true, true, true, true, true, true, false, false, false, false, false, false, false, false, false, false, false, false, false, false, false, false, false, false, false, false, false, false, false, false, false, false, false, false, false, false, false] from rfl) (yv_pv rfl) ?_
              refine sxb_takeP 7 (.int .i64 x4) rfl rfl rfl rfl (by kernel_rfl) (by kernel_rfl) (by kernel_rfl) (by kernel_rfl) (by kernel_rfl) rfl (show _ = #[true, true, true, true, true, true, true, true, false, false, false, false, false, false, false, false, false, false, false, false, false, false, false, false, false, false, false, false, false, false, false, false, false, false, false, false, false, false] from rfl) (yv_pv rfl) ?_
              refine sxb_again (d := 61) (v := .slice (some ⟨g222, 0, none⟩) x7.1.length c9) rfl (by rw [h223] <;> rfl) ?_
              refine sxb_takeP 8 (.pointer (some ⟨g222, x4.toNat * 1, none⟩)) rfl rfl rfl rfl (by kernel_rfl) (by kernel_rfl) (by kernel_rfl) (by kernel_rfl) (by kernel_rfl) rfl (show _ = #[true, true, true, true, true, true, true, true, true, false, false, false, false, false, false, false, false, false, false, false, false, false, false, false, false, false, false, false, false, false, false, false, false, false, false, false, false, false] from rfl) (yv_idxO Try.underlying25 tf3 rfl rfl (idx_get e221).1 (idx_lt e221)) ?_
              refine sxb_again (d := 61) (v := .slice a8 x7.1.length c9) rfl (by rw [h223] <;> rfl) ?_
              refine sxb_take 9 (.int .i64 x221) [] rfl rfl rfl rfl (by kernel_rfl) (by kernel_rfl) (by kernel_rfl) (by kernel_rfl) (by kernel_rfl) (by kernel_rfl) rfl (show _ = #[true, true, true, true, true, true, true, true, true, true, false, false, false, false, false, false, false, false, false, false, false, false, false, false, false, false, false, false, false, false, false, false, false, false, false, false, false, false] from rfl) (yv_loadF (j := 2) rfl tf3 rfl rfl (fun _ => rfl) rfl) ?_
              refine sxb_takeP 10 (.slice a8 x7.1.length c9) rfl rfl rfl rfl (by kernel_rfl) (by kernel_rfl) (by kernel_rfl) (by kernel_rfl) (by kernel_rfl) rfl (show _ = #[true, true, true, true, true, true, true, true, true, true, true, false, false, false, false, false, false, false, false, false, false, false, false, false, false, false, false, false, false, false, false, false, false, false, false, false, false, false] from rfl) (yv_pv rfl) ?_
              refine sxb_takeP 11 (.int .i64 x5) rfl rfl rfl rfl (by kernel_rfl) (by kernel_rfl) (by kernel_rfl) (by kernel_rfl) (by kernel_rfl) rfl (show _ = #[true, true, true, true, true, true, true, true, true, true, true, true, false, false, false, false, false, false, false, false, false, false, false, false, false, false, false, false, false, false, false, false, false, false, false, false, false, false] from rfl) (yv_pv rfl) ?_
              refine sxb_again (d := 65) (v := .slice (some ⟨g226, 0, none⟩) x7.1.length c9) rfl (by rw [h227] <;> rfl) ?_
              refine sxb_takeP 12 (.pointer (some ⟨g226, x5.toNat * 1, none⟩)) rfl rfl rfl rfl (by kernel_rfl) (by kernel_rfl) (by kernel_rfl) (by kernel_rfl) (by kernel_rfl) rfl (show _ = #[true, true, true, true, true, true, true, true, true, true, true, true, true, false, false, false, false, false, false, false, false, false, false, false, false, false, false, false, false, false, false, false, false, false, false, false, false, false] from rfl) (yv_idxO Try.underlying25 tf3 rfl rfl (idx_get e225).1 (idx_lt e225)) ?_
              refine sxb_again (d := 65) (v := .slice a8 x7.1.length c9) rfl (by rw [h227] <;> rfl) ?_
              refine sxb_take 13 (.int .i64 x225) [] rfl rfl rfl rfl (by kernel_rfl) (by kernel_rfl) (by kernel_rfl) (by kernel_rfl) (by kernel_rfl) (by kernel_rfl) rfl (show _ = #[true, true, true, true, true, true, true, true, true, true, true, true, true, true, false, false, false, false, false, false, false, false, false, false, false, false, false, false, false, false, false, false, false, false, false, false, false, false] from rfl) (yv_loadF (j := 3) rfl tf3 rfl rfl (fun _ => rfl) rfl) ?_
              refine sxb_takeP 14 (.bool ((x221 : Int) != x225)) rfl rfl rfl rfl (by kernel_rfl) (by kernel_rfl) (by kernel_rfl) (by kernel_rfl) (by kernel_rfl) rfl (show _ = #[true, true, true, true, true, true, true, true, true, true, true, true, true, true, true, false, false, false, false, false, false, false, false, false, false, false, false, false, false, false, false, false, false, false, false, false, false, false] from rfl) (yv_pv rfl) ?_
              refine sxb_takeP 15 (.bool ((x221 : Int) != x225)) rfl rfl rfl rfl (by kernel_rfl) (by kernel_rfl) (by kernel_rfl) (by kernel_rfl) (by kernel_rfl) rfl (show _ = #[true, true, true, true, true, true, true, true, true, true, true, true, true, true, true, true, false, false, false, false, false, false, false, false, false, false, false, false, false, false, false, false, false, false, false, false, false, false] from rfl) (yv_pv rfl) ?_
              refine sxb_takeP 16 (.bool ((x221 : Int) != x225)) rfl rfl rfl rfl (by kernel_rfl) (by kernel_rfl) (by kernel_rfl) (by kernel_rfl) (by kernel_rfl) rfl (show _ = #[true, true, true, true, true, true, true, true, true, true, true, true, true, true, true, true, true, false, false, false, false, false, false, false, false, false, false, false, false, false, false, false, false, false, false, false, false, false] from rfl) (yv_pv rfl) ?_
              refine sxb_again (d := 71) (v := .bool true) rfl (by rw [h229] <;> rfl) ?_
              refine sxb_skip 17 rfl rfl rfl rfl (by kernel_rfl) (by kernel_rfl) (by kernel_rfl) (by kernel_rfl) (by kernel_rfl) rfl (show _ = #[true, true, true, true, true, true, true, true, true, true, true, true, true, true, true, true, true, true, false, false, false, false, false, false, false, false, false, false, false, false, false, false, false, false, false, false, false, false] from rfl) ?_
              refine sxb_skip 18 rfl rfl rfl rfl (by kernel_rfl) (by kernel_rfl) (by kernel_rfl) (by kernel_rfl) (by kernel_rfl) rfl (show _ = #[true, true, true, true, true, true, true, true, true, true, true, true, true, true, true, true, true, true, true, false, false, false, false, false, false, false, false, false, false, false, false, false, false, false, false, false, false, false] from rfl) ?_
              refine sxb_skip 19 rfl rfl rfl rfl (by kernel_rfl) (by kernel_rfl) (by kernel_rfl) (by kernel_rfl) (by kernel_rfl) rfl (show _ = #[true, true, true, true, true, true, true, true, true, true, true, true, true, true, true, true, true, true, true, true, false, false, false, false, false, false, false, false, false, false, false, false, false, false, false, false, false, false] from rfl) ?_
              refine sxb_skip 20 rfl rfl rfl rfl (by kernel_rfl) (by kernel_rfl) (by kernel_rfl) (by kernel_rfl) (by kernel_rfl) rfl (show _ = #[true, true, true, true, true, true, true, true, true, true, true, true, true, true, true, true, true, true, true, true, true, false, false, false, false, false, false, false, false, false, false, false, false, false, false, false, false, false] from rfl) ?_
              refine sxb_skip 21 rfl rfl rfl rfl (by kernel_rfl) (by kernel_rfl) (by kernel_rfl) (by kernel_rfl) (by kernel_rfl) rfl (show _ = #[true, true, true, true, true, true, true, true, true, true, true, true, true, true, true, true, true, true, true, true, true, true, false, false, false, false, false, false, false, false, false, false, false, false, false, false, false, false] from rfl) ?_
              refine sxb_skip 22 rfl rfl rfl rfl (by kernel_rfl) (by kernel_rfl) (by kernel_rfl) (by kernel_rfl) (by kernel_rfl) rfl (show _ = #[true, true, true, true, true, true, true, true, true, true, true, true, true, true, true, true, true, true, true, true, true, true, true, false, false, false, false, false, false, false, false, false, false, false, false, false, false, false] from rfl) ?_
              refine sxb_takeP 23 (.bool true) rfl rfl rfl rfl (by kernel_rfl) (by kernel_rfl) (by kernel_rfl) (by kernel_rfl) (by kernel_rfl) rfl (show _ = #[true, true, true, true, true, true, true, true, true, true, true, true, true, true, true, true, true, true, true, true, true, true, true, true, false, false, false, false, false, false, false, false, false, false, false, false, false, false] from rfl) (yv_pv rfl) ?_
              refine sxb_takeP 24 (.bool true) rfl rfl rfl rfl (by kernel_rfl) (by kernel_rfl) (by kernel_rfl) (by kernel_rfl) (by kernel_rfl) rfl (show _ = #[true, true, true, true, true, true, true, true, true, true, true, true, true, true, true, true, true, true, true, true, true, true, true, true, true, false, false, false, false, false, false, false, false, false, false, false, false, false] from rfl) (yv_pv rfl) ?_
              refine sxb_skip 25 rfl rfl rfl rfl (by kernel_rfl) (by kernel_rfl) (by kernel_rfl) (by kernel_rfl) (by kernel_rfl) rfl (show _ = #[true, true, true, true, true, true, true, true, true, true, true, true, true, true, true, true, true, true, true, true, true, true, true, true, true, true, false, false, false, false, false, false, false, false, false, false, false, false] from rfl) ?_
              refine sxb_skip 26 rfl rfl rfl rfl (by kernel_rfl) (by kernel_rfl) (by kernel_rfl) (by kernel_rfl) (by kernel_rfl) rfl (show _ = #[true, true, true, true, true, true, true, true, true, true, true, true, true, true, true, true, true, true, true, true, true, true, true, true, true, true, true, false, false, false, false, false, false, false, false, false, false, false] from rfl) ?_
              refine sxb_skip 27 rfl rfl rfl rfl (by kernel_rfl) (by kernel_rfl) (by kernel_rfl) (by kernel_rfl) (by kernel_rfl) rfl (show _ = #[true, true, true, true, true, true, true, true, true, true, true, true, true, true, true, true, true, true, true, true, true, true, true, true, true, true, true, true, false, false, false, false, false, false, false, false, false, false] from rfl) ?_
              refine sxb_skip 28 rfl rfl rfl rfl (by kernel_rfl) (by kernel_rfl) (by kernel_rfl) (by kernel_rfl) (by kernel_rfl) rfl (show _ = #[true, true, true, true, true, true, true, true, true, true, true, true, true, true, true, true, true, true, true, true, true, true, true, true, true, true, true, true, true, false, false, false, false, false, false, false, false, false] from rfl) ?_
              refine sxb_skip 29 rfl rfl rfl rfl (by kernel_rfl) (by kernel_rfl) (by kernel_rfl) (by kernel_rfl) (by kernel_rfl) rfl (show _ = #[true, true, true, true, true, true, true, true, true, true, true, true, true, true, true, true, true, true, true, true, true, true, true, true, true, true, true, true, true, true, false, false, false, false, false, false, false, false] from rfl) ?_
              refine sxb_skip 30 rfl rfl rfl rfl (by kernel_rfl) (by kernel_rfl) (by kernel_rfl) (by kernel_rfl) (by kernel_rfl) rfl (show _ = #[true, true, true, true, true, true, true, true, true, true, true, true, true, true, true, true, true, true, true, true, true, true, true, true, true, true, true, true, true, true, true, false, false, false, false, false, false, false] from rfl) ?_
              refine sxb_skip 31 rfl rfl rfl rfl (by kernel_rfl) (by kernel_rfl) (by kernel_rfl) (by kernel_rfl) (by kernel_rfl) rfl (show _ = #[true, true, true, true, true, true, true, true, true, true, true, true, true, true, true, true, true, true, true, true, true, true, true, true, true, true, true, true, true, true, true, true, false, false, false, false, false, false] from rfl) ?_
              refine sxb_skip 32 rfl rfl rfl rfl (by kernel_rfl) (by kernel_rfl) (by kernel_rfl) (by kernel_rfl) (by kernel_rfl) rfl (show _ = #[true, true, true, true, true, true, true, true, true, true, true, true, true, true, true, true, true, true, true, true, true, true, true, true, true, true, true, true, true, true, true, true, true, false, false, false, false, false] from rfl) ?_
              refine sxb_skip 33 rfl rfl rfl rfl (by kernel_rfl) (by kernel_rfl) (by kernel_rfl) (by kernel_rfl) (by kernel_rfl) rfl (show _ = #[true, true, true, true, true, true, true, true, true, true, true, true, true, true, true, true, true, true, true, true, true, true, true, true, true, true, true, true, true, true, true, true, true, true, false, false, false, false] from rfl) ?_
              refine sxb_skip 34 rfl rfl rfl rfl (by kernel_rfl) (by kernel_rfl) (by kernel_rfl) (by kernel_rfl) (by kernel_rfl) rfl (show _ = #[true, true, true, true, true, true, true, true, true, true, true, true, true, true, true, true, true, true, true, true, true, true, true, true, true, true, true, true, true, true, true, true, true, true, true, false, false, false] from rfl) ?_
              refine sxb_skip 35 rfl rfl rfl rfl (by kernel_rfl) (by kernel_rfl) (by kernel_rfl) (by kernel_rfl) (by kernel_rfl) rfl (show _ = #[true, true, true, true, true, true, true, true, true, true, true, true, true, true, true, true, true, true, true, true, true, true, true, true, true, true, true, true, true, true, true, true, true, true, true, true, false, false] from rfl) ?_
              refine sxb_skip 36 rfl rfl rfl rfl (by kernel_rfl) (by kernel_rfl) (by kernel_rfl) (by kernel_rfl) (by kernel_rfl) rfl (show _ = #[true, true, true, true, true, true, true, true, true, true, true, true, true, true, true, true, true, true, true, true, true, true, true, true, true, true, true, true, true, true, true, true, true, true, true, true, true, false] from rfl) ?_
              refine sxb_takeP 37 (.bool true) rfl rfl rfl rfl (by kernel_rfl) (by kernel_rfl) (by kernel_rfl) (by kernel_rfl) (by kernel_rfl) rfl (show _ = #[true, true, true, true, true, true, true, true, true, true, true, true, true, true, true, true, true, true, true, true, true, true, true, true, true, true, true, true, true, true, true, true, true, true, true, true, true, true] from rfl) (yv_pv rfl) ?_
              refine sxb_done (by kernel_rfl) ?_
              refine sxq_np ?_ (by intro c h; cases h)
              exact sxq_meetP (true, ()) (lk_cons rfl (lk_cons rfl (lk_cons rfl (lk_cons rfl (lk_cons rfl lk_nil))))) (.cons 0 rfl .nil) (.cons 0 rfl .nil) (fk_cons 0 rfl fk_nil)
            · refine sxc_idxO (j := 0) rfl (fun x230 e230 g231 h232 => ?_)
              replace h232 : a8 = some ⟨g231, 0, none⟩ := h232
              have h233 := own_of (k := x7.1.length) (c := c9) h232
              refine sxc_split (fun h234 => ?_) (fun h234 => ?_)
              · refine sxb_draw mixed [] [⟨g6, 24, [.slice a2 x1.length c3.1]⟩] [SlN eN25 iN25 1 (.slice a2 x1.length c3.1) x1 c3.2, CellsAt g217 (x5.toNat * 1) ((eI .i64) x216), CellsAt g222 (x4.toNat * 1) ((eI .i64) x221), CellsAt g226 (x5.toNat * 1) ((eI .i64) x225), CellsAt g231 (x5.toNat * 1) ((eI .i64) x230)] (.cons 0 rfl .nil) (gk_F 0 rfl (gk_R 1 rfl (at_row (eI_ok .i64) e216 h218) (gk_R 0 rfl (at_row (eI_ok .i64) e221 h223) (gk_R 0 rfl (at_row (eI_ok .i64) e225 h227) (gk_R 0 rfl (at_row (eI_ok .i64) e230 h232) gk_nil))))) 38 rfl ?_
                refine sxb_takeP 0 (.slice a11 x10.1.length c12) rfl rfl rfl rfl (by kernel_rfl) (by kernel_rfl) (by kernel_rfl) (by kernel_rfl) (by kernel_rfl) rfl (show _ = #[true, false, false, false, false, false, false, false, false, false, false, false, false, false, false, false, false, false, false, false, false, false, false, false, false, false, false, false, false, false, false, false, false, false, false, false, false, false] from rfl) (yv_pv rfl) ?_
                refine sxb_takeP 1 (.int .i64 x5) rfl rfl rfl rfl (by kernel_rfl) (by kernel_rfl) (by kernel_rfl) (by kernel_rfl) (by kernel_rfl) rfl (show _ = #[true, true, false, false, false, false, false, false, false, false, false, false, false, false, false, false, false, false, false, false, false, false, false, false, false, false, false, false, false, false, false, false, false, false, false, false, false, false] from rfl) (yv_pv rfl) ?_
                refine sxb_again (d := 55) (v := .slice (some ⟨g217, 0, none⟩) x10.1.length c12) rfl (by rw [h218] <;> rfl) ?_
                refine sxb_takeP 2 (.pointer (some ⟨g217, x5.toNat * 1, none⟩)) rfl rfl rfl rfl (by kernel_rfl) (by kernel_rfl) (by kernel_rfl) (by kernel_rfl) (by kernel_rfl) rfl (show _ = #[true, true, true, false, false, false, false, false, false, false, false, false, false, false, false, false, false, false, false, false, false, false, false, false, false, false, false, false, false, false, false, false, false, false, false, false, false, false] from rfl) (yv_idxO Try.underlying25 tf3 rfl rfl (idx_get e216).1 (idx_lt e216)) ?_
                refine sxb_again (d := 55) (v := .slice a11 x10.1.length c12) rfl (by rw [h218] <;> rfl) ?_
                refine sxb_take 3 (.int .i64 x216) [] rfl rfl rfl rfl (by kernel_rfl) (by kernel_rfl) (by kernel_rfl) (by kernel_rfl) (by kernel_rfl) (by kernel_rfl) rfl (show _ = #[true, true, true, true, false, false, false, false, false, false, false, false, false, false, false, false, false, false, false, false, false, false, false, false, false, false, false, false, false, false, false, false, false, false, false, false, false, false] from rfl) (yv_loadF (j := 1) rfl tf3 rfl rfl (fun _ => rfl) rfl) ?_
                refine sxb_takeP 4 (.bool (decide (0 ≤ x216))) rfl rfl rfl rfl (by kernel_rfl) (by kernel_rfl) (by kernel_rfl) (by kernel_rfl) (by kernel_rfl) rfl (show _ = #[true, true, true, true, true, false, false, false, false, false, false, false, false, false, false, false, false, false, false, false, false, false, false, false, false, false, false, false, false, false, false, false, false, false, false, false, false, false] from rfl) (yv_pv rfl) ?_
                refine sxb_takeP 5 (.bool (decide (0 ≤ x216))) rfl rfl rfl rfl (by kernel_rfl) (by kernel_rfl) (by kernel_rfl) (by kernel_rfl) (by kernel_rfl) rfl (show _ = #[true, true, true, true, true, true, false, false, false, false, false, false, false, false, false, false, false, false, false, false, false, false, false, false, false, false, false, false, false, false, false, false, false, false, false, false, false, false] from rfl) (yv_pv rfl) ?_
                refine sxb_again (d := 60) (v := .bool true) rfl (by rw [h220] <;> rfl) ?_
                refine sxb_takeP 6 (.slice a8 x7.1.length c9) rfl rfl rfl rfl (by kernel_rfl) (by kernel_rfl) (by kernel_rfl) (by kernel_rfl) (by kernel_rfl) rfl (show _ = #[true, true, true, true, true, true, true, false, false, false, false, false, false, false, false, false, false, false, false, false, false, false, false, false, false, false, false, false, false, false, false, false, false, false, false, false, false, false] from rfl) (yv_pv rfl) ?_
                refine sxb_takeP 7 (.int .i64 x4) rfl rfl rfl rfl (by kernel_rfl) (by kernel_rfl) (by kernel_rfl) (by kernel_rfl) (by kernel_rfl) rfl (show _ = #[true, true, true, true, true, true, true, true, false, false, false, false, false, false, false, false, false, false, false, false, false, false, false, false, false, false, false, false, false, false, false, false, false, false, false, false, false, false] from rfl) (yv_pv rfl) ?_
                refine sxb_again (d := 61) (v := .slice (some ⟨g222, 0, none⟩) x7.1.length c9) rfl (by rw [h223] <;> rfl) ?_
                refine sxb_takeP 8 (.pointer (some ⟨g222, x4.toNat * 1, none⟩)) rfl rfl rfl rfl (by kernel_rfl) (by kernel_rfl) (by kernel_rfl) (by kernel_rfl) (by kernel_rfl) rfl (show _ = #[true, true, true, true, true, true, true, true, true, false, false, false, false, false, false, false, false, false, false, false, false, false, false, false, false, false, false, false, false, false, false, false, false, false, false, false, false, false] from rfl) (yv_idxO Try.underlying25 tf3 rfl rfl (idx_get e221).1 (idx_lt e221)) ?_
                refine sxb_again (d := 61) (v := .slice a8 x7.1.length c9) rfl (by rw [h223] <;> rfl) ?_
                refine sxb_take 9 (.int .i64 x221) [] rfl rfl rfl rfl (by kernel_rfl) (by kernel_rfl) (by kernel_rfl) (by kernel_rfl) (by kernel_rfl) (by kernel_rfl) rfl (show _ = #[true, true, true, true, true, true, true, true, true, true, false, false, false, false, false, false, false, false, false, false, false, false, false, false, false, false, false, false, false, false, false, false, false, false, false, false, false, false] from rfl) (yv_loadF (j := 2) rfl tf3 rfl rfl (fun _ => rfl) rfl) ?_
                refine sxb_takeP 10 (.slice a8 x7.1.length c9) rfl rfl rfl rfl (by kernel_rfl) (by kernel_rfl) (by kernel_rfl) (by kernel_rfl) (by kernel_rfl) rfl (show _ = #[true, true, true, true, true, true, true, true, true, true, true, false, false, false, false, false, false, false, false, false, false, false, false, false, false, false, false, false, false, false, false, false, false, false, false, false, false, false] from rfl) (yv_pv rfl) ?_
                refine sxb_takeP 11 (.int .i64 x5) rfl rfl rfl rfl (by kernel_rfl) (by kernel_rfl) (by kernel_rfl) (by kernel_rfl) (by kernel_rfl) rfl (show _ = #[true, true, true, true, true, true, true, true, true, true, true, true, false, false, false, false, false, false, false, false, false, false, false, false, false, false, false, false, false, false, false, false, false, false, false, false, false, false] from rfl) (yv_pv rfl) ?_
                refine sxb_again (d := 65) (v := .slice (some ⟨g226, 0, none⟩) x7.1.length c9) rfl (by rw [h227] <;> rfl) ?_
                refine sxb_takeP 12 (.pointer (some ⟨g226, x5.toNat * 1, none⟩)) rfl rfl rfl rfl (by kernel_rfl) (by kernel_rfl) (by kernel_rfl) (by kernel_rfl) (by kernel_rfl) rfl (show _ = #[true, true, true, true, true, true, true, true, true, true, true, true, true, false, false, false, false, false, false, false, false, false, false, false, false, false, false, false, false, false, false, false, false, false, false, false, false, false] from rfl) (yv_idxO Try.underlying25 tf3 rfl rfl (idx_get e225).1 (idx_lt e225)) ?_
                refine sxb_again (d := 65) (v := .slice a8 x7.1.length c9) rfl (by rw [h227] <;> rfl) ?_
                refine sxb_take 13 (.int .i64 x225) [] rfl rfl rfl rfl (by kernel_rfl) (by kernel_rfl) (by kernel_rfl) (by kernel_rfl) (by kernel_rfl) (by kernel_rfl) rfl (show _ = #[true, true, true, true, true, true, true, true, true, true, true, true, true, true, false, false, false, false, false, false, false, false, false, false, false, false, false, false, false, false, false, false, false, false, false, false, false, false] from rfl) (yv_loadF (j := 3) rfl tf3 rfl rfl (fun _ => rfl) rfl) ?_
                refine sxb_takeP 14 (.bool ((x221 : Int) != x225)) rfl rfl rfl rfl (by kernel_rfl) (by kernel_rfl) (by kernel_rfl) (by kernel_rfl) (by kernel_rfl) rfl (show _ = #[true, true, true, true, true, true, true, true, true, true, true, true, true, true, true, false, false, false, false, false, false, false, false, false, false, false, false, false, false, false, false, false, false, false, false, false, false, false] from rfl) (yv_pv rfl) ?_
                refine sxb_takeP 15 (.bool ((x221 : Int) != x225)) rfl rfl rfl rfl (by kernel_rfl) (by kernel_rfl) (by kernel_rfl) (by kernel_rfl) (by kernel_rfl) rfl (show _ = #[true, true, true, true, true, true, true, true, true, true, true, true, true, true, true, true, false, false, false, false, false, false, false, false, false, false, false, false, false, false, false, false, false, false, false, false, false, false] from rfl) (yv_pv rfl) ?_
                refine sxb_takeP 16 (.bool ((x221 : Int) != x225)) rfl rfl rfl rfl (by kernel_rfl) (by kernel_rfl) (by kernel_rfl) (by kernel_rfl) (by kernel_rfl) rfl (show _ = #[true, true, true, true, true, true, true, true, true, true, true, true, true, true, true, true, true, false, false, false, false, false, false, false, false, false, false, false, false, false, false, false, false, false, false, false, false, false] from rfl) (yv_pv rfl) ?_
                refine sxb_again (d := 71) (v := .bool false) rfl (by rw [h229] <;> rfl) ?_
                refine sxb_takeP 17 (.slice a8 x7.1.length c9) rfl rfl rfl rfl (by kernel_rfl) (by kernel_rfl) (by kernel_rfl) (by kernel_rfl) (by kernel_rfl) rfl (show _ = #[true, true, true, true, true, true, true, true, true, true, true, true, true, true, true, true, true, true, false, false, false, false, false, false, false, false, false, false, false, false, false, false, false, false, false, false, false, false] from rfl) (yv_pv rfl) ?_
                refine sxb_takeP 18 (.int .i64 x5) rfl rfl rfl rfl (by kernel_rfl) (by kernel_rfl) (by kernel_rfl) (by kernel_rfl) (by kernel_rfl) rfl (show _ = #[true, true, true, true, true, true, true, true, true, true, true, true, true, true, true, true, true, true, true, false, false, false, false, false, false, false, false, false, false, false, false, false, false, false, false, false, false, false] from rfl) (yv_pv rfl) ?_
                refine sxb_again (d := 72) (v := .slice (some ⟨g231, 0, none⟩) x7.1.length c9) rfl (by rw [h232] <;> rfl) ?_
                refine sxb_takeP 19 (.pointer (some ⟨g231, x5.toNat * 1, none⟩)) rfl rfl rfl rfl (by kernel_rfl) (by kernel_rfl) (by kernel_rfl) (by kernel_rfl) (by kernel_rfl) rfl (show _ = #[true, true, true, true, true, true, true, true, true, true, true, true, true, true, true, true, true, true, true, true, false, false, false, false, false, false, false, false, false, false, false, false, false, false, false, false, false, false] from rfl) (yv_idxO Try.underlying25 tf3 rfl rfl (idx_get e230).1 (idx_lt e230)) ?_
                refine sxb_again (d := 72) (v := .slice a8 x7.1.length c9) rfl (by rw [h232] <;> rfl) ?_
                refine sxb_take 20 (.int .i64 x230) [] rfl rfl rfl rfl (by kernel_rfl) (by kernel_rfl) (by kernel_rfl) (by kernel_rfl) (by kernel_rfl) (by kernel_rfl) rfl (show _ = #[true, true, true, true, true, true, true, true, true, true, true, true, true, true, true, true, true, true, true, true, true, false, false, false, false, false, false, false, false, false, false, false, false, false, false, false, false, false] from rfl) (yv_loadF (j := 4) rfl tf3 rfl rfl (fun _ => rfl) rfl) ?_
                refine sxb_takeP 21 (.int .i64 x5) rfl rfl rfl rfl (by kernel_rfl) (by kernel_rfl) (by kernel_rfl) (by kernel_rfl) (by kernel_rfl) rfl (show _ = #[true, true, true, true, true, true, true, true, true, true, true, true, true, true, true, true, true, true, true, true, true, true, false, false, false, false, false, false, false, false, false, false, false, false, false, false, false, false] from rfl) (yv_pv rfl) ?_
                refine sxb_takeP 22 (.bool (decide (x5 < x230))) rfl rfl rfl rfl (by kernel_rfl) (by kernel_rfl) (by kernel_rfl) (by kernel_rfl) (by kernel_rfl) rfl (show _ = #[true, true, true, true, true, true, true, true, true, true, true, true, true, true, true, true, true, true, true, true, true, true, true, false, false, false, false, false, false, false, false, false, false, false, false, false, false, false] from rfl) (yv_pv rfl) ?_
                refine sxb_takeP 23 (.bool (decide (x5 < x230))) rfl rfl rfl rfl (by kernel_rfl) (by kernel_rfl) (by kernel_rfl) (by kernel_rfl) (by kernel_rfl) rfl (show _ = #[true, true, true, true, true, true, true, true, true, true, true, true, true, true, true, true, true, true, true, true, true, true, true, true, false, false, false, false, false, false, false, false, false, false, false, false, false, false] from rfl) (yv_pv rfl) ?_
                refine sxb_takeP 24 (.bool (decide (x5 < x230))) rfl rfl rfl rfl (by kernel_rfl) (by kernel_rfl) (by kernel_rfl) (by kernel_rfl) (by kernel_rfl) rfl (show _ = #[true, true, true, true, true, true, true, true, true, true, true, true, true, true, true, true, true, true, true, true, true, true, true, true, true, false, false, false, false, false, false, false, false, false, false, false, false, false] from rfl) (yv_pv rfl) ?_
                refine sxb_again (d := 79) (v := .bool true) rfl (by rw [h234] <;> rfl) ?_
                refine sxb_skip 25 rfl rfl rfl rfl (by kernel_rfl) (by kernel_rfl) (by kernel_rfl) (by kernel_rfl) (by kernel_rfl) rfl (show _ = #[true, true, true, true, true, true, true, true, true, true, true, true, true, true, true, true, true, true, true, true, true, true, true, true, true, true, false, false, false, false, false, false, false, false, false, false, false, false] from rfl) ?_
                refine sxb_skip 26 rfl rfl rfl rfl (by kernel_rfl) (by kernel_rfl) (by kernel_rfl) (by kernel_rfl) (by kernel_rfl) rfl (show _ = #[true, true, true, true, true, true, true, true, true, true, true, true, true, true, true, true, true, true, true, true, true, true, true, true, true, true, true, false, false, false, false, false, false, false, false, false, false, false] from rfl) ?_
                refine sxb_skip 27 rfl rfl rfl rfl (by kernel_rfl) (by kernel_rfl) (by kernel_rfl) (by kernel_rfl) (by kernel_rfl) rfl (show _ = #[true, true, true, true, true, true, true, true, true, true, true, true, true, true, true, true, true, true, true, true, true, true, true, true, true, true, true, true, false, false, false, false, false, false, false, false, false, false] from rfl) ?_
                refine sxb_skip 28 rfl rfl rfl rfl (by kernel_rfl) (by kernel_rfl) (by kernel_rfl) (by kernel_rfl) (by kernel_rfl) rfl (show _ = #[true, true, true, true, true, true, true, true, true, true, true, true, true, true, true, true, true, true, true, true, true, true, true, true, true, true, true, true, true, false, false, false, false, false, false, false, false, false] from rfl) ?_
                refine sxb_skip 29 rfl rfl rfl rfl (by kernel_rfl) (by kernel_rfl) (by kernel_rfl) (by kernel_rfl) (by kernel_rfl) rfl (show _ = #[true, true, true, true, true, true, true, true, true, true, true, true, true, true, true, true, true, true, true, true, true, true, true, true, true, true, true, true, true, true, false, false, false, false, false, false, false, false] from rfl) ?_
                refine sxb_skip 30 rfl rfl rfl rfl (by kernel_rfl) (by kernel_rfl) (by kernel_rfl) (by kernel_rfl) (by kernel_rfl) rfl (show _ = #[true, true, true, true, true, true, true, true, true, true, true, true, true, true, true, true, true, true, true, true, true, true, true, true, true, true, true, true, true, true, true, false, false, false, false, false, false, false] from rfl) ?_
                refine sxb_skip 31 rfl rfl rfl rfl (by kernel_rfl) (by kernel_rfl) (by kernel_rfl) (by kernel_rfl) (by kernel_rfl) rfl (show _ = #[true, true, true, true, true, true, true, true, true, true, true, true, true, true, true, true, true, true, true, true, true, true, true, true, true, true, true, true, true, true, true, true, false, false, false, false, false, false] from rfl) ?_
                refine sxb_skip 32 rfl rfl rfl rfl (by kernel_rfl) (by kernel_rfl) (by kernel_rfl) (by kernel_rfl) (by kernel_rfl) rfl (show _ = #[true, true, true, true, true, true, true, true, true, true, true, true, true, true, true, true, true, true, true, true, true, true, true, true, true, true, true, true, true, true, true, true, true, false, false, false, false, false] from rfl) ?_
                refine sxb_skip 33 rfl rfl rfl rfl (by kernel_rfl) (by kernel_rfl) (by kernel_rfl) (by kernel_rfl) (by kernel_rfl) rfl (show _ = #[true, true, true, true, true, true, true, true, true, true, true, true, true, true, true, true, true, true, true, true, true, true, true, true, true, true, true, true, true, true, true, true, true, true, false, false, false, false] from rfl) ?_
                refine sxb_skip 34 rfl rfl rfl rfl (by kernel_rfl) (by kernel_rfl) (by kernel_rfl) (by kernel_rfl) (by kernel_rfl) rfl (show _ = #[true, true, true, true, true, true, true, true, true, true, true, true, true, true, true, true, true, true, true, true, true, true, true, true, true, true, true, true, true, true, true, true, true, true, true, false, false, false] from rfl) ?_
                refine sxb_skip 35 rfl rfl rfl rfl (by kernel_rfl) (by kernel_rfl) (by kernel_rfl) (by kernel_rfl) (by kernel_rfl) rfl (show _ = #[true, true, true, true, true, true, true, true, true, true, true, true, true, true, true, true, true, true, true, true, true, true, true, true, true, true, true, true, true, true, true, true, true, true, true, true, false, false] from rfl) ?_
                refine sxb_skip 36 rfl rfl rfl rfl (by kernel_rfl) (by kernel_rfl) (by kernel_rfl) (by kernel_rfl) (by kernel_rfl) rfl (show _ = #[true, true, true, true, true, true, true, true, true, true, true, true, true, true, true, true, true, true, true, true, true, true, true, true, true, true, true, true, true, true, true, true, true, true, true, true, true, false] from rfl) ?_
                refine sxb_takeP 37 (.bool true) rfl rfl rfl rfl (by kernel_rfl) (by kernel_rfl) (by kernel_rfl) (by kernel_rfl) (by kernel_rfl) rfl (show _ = #[true, true, true, true, true, true, true, true, true, true, true, true, true, true, true, true, true, true, true, true, true, true, true, true, true, true, true, true, true, true, true, true, true, true, true, true, true, true] from rfl) (yv_pv rfl) ?_
                refine sxb_done (by kernel_rfl) ?_
                refine sxq_np ?_ (by intro c h; cases h)
                exact sxq_meetP (true, ()) (lk_cons rfl (lk_cons rfl (lk_cons rfl (lk_cons rfl (lk_cons rfl lk_nil))))) (.cons 0 rfl .nil) (.cons 0 rfl .nil) (fk_cons 0 rfl fk_nil)
              · refine sxc_idxO (j := 0) rfl (fun x235 e235 g236 h237 => ?_)
                replace h237 : a8 = some ⟨g236, 0, none⟩ := h237
                have h238 := own_of (k := x7.1.length) (c := c9) h237
                refine sxc_idxO (j := 0) rfl (fun x239 e239 g240 h241 => ?_)
                replace h241 : a8 = some ⟨g240, 0, none⟩ := h241
                have h242 := own_of (k := x7.1.length) (c := c9) h241
                refine sxc_idxO (j := 0) rfl (fun x243 e243 g244 h245 => ?_)
                replace h245 : a8 = some ⟨g244, 0, none⟩ := h245
                have h246 := own_of (k := x7.1.length) (c := c9) h245
                refine sxb_draw mixed [] [⟨g6, 24, [.slice a2 x1.length c3.1]⟩] [SlN eN25 iN25 1 (.slice a2 x1.length c3.1) x1 c3.2, CellsAt g217 (x5.toNat * 1) ((eI .i64) x216), CellsAt g222 (x4.toNat * 1) ((eI .i64) x221), CellsAt g226 (x5.toNat * 1) ((eI .i64) x225), CellsAt g231 (x5.toNat * 1) ((eI .i64) x230), CellsAt g236 (x5.toNat * 1) ((eI .i64) x235), CellsAt g240 (x235.toNat * 1) ((eI .i64) x239), CellsAt g244 (x5.toNat * 1) ((eI .i64) x243)] (.cons 0 rfl .nil) (gk_F 0 rfl (gk_R 1 rfl (at_row (eI_ok .i64) e216 h218) (gk_R 0 rfl (at_row (eI_ok .i64) e221 h223) (gk_R 0 rfl (at_row (eI_ok .i64) e225 h227) (gk_R 0 rfl (at_row (eI_ok .i64) e230 h232) (gk_R 0 rfl (at_row (eI_ok .i64) e235 h237) (gk_R 0 rfl (at_row (eI_ok .i64) e239 h241) (gk_R 0 rfl (at_row (eI_ok .i64) e243 h245) gk_nil)))))))) 38 rfl ?_
                refine sxb_takeP 0 (.slice a11 x10.1.length c12) rfl rfl rfl rfl (by kernel_rfl) (by kernel_rfl) (by kernel_rfl) (by kernel_rfl) (by kernel_rfl) rfl (show _ = #[true, false, false, false, false, false, false, false, false, false, false, false, false, false, false, false, false, false, false, false, false, false, false, false, false, false, false, false, false, false, false, false, false, false, false, false, false, false] from rfl) (yv_pv rfl) ?_
                refine sxb_takeP 1 (.int .i64 x5) rfl rfl rfl rfl (by kernel_rfl) (by kernel_rfl) (by kernel_rfl) (by kernel_rfl) (by kernel_rfl) rfl (show _ = #[true, true, false, false, false, false, false, false, false, false, false, false, false, false, false, false, false, false, false, false, false, false, false, false, false, false, false, false, false, false, false, false, false, false, false, false, false, false] from rfl) (yv_pv rfl) ?_
                refine sxb_again (d := 55) (v := .slice (some ⟨g217, 0, none⟩) x10.1.length c12) rfl (by rw [h218] <;> rfl) ?_
                refine sxb_takeP 2 (.pointer (some ⟨g217, x5.toNat * 1, none⟩)) rfl rfl rfl rfl (by kernel_rfl) (by kernel_rfl) (by kernel_rfl) (by kernel_rfl) (by kernel_rfl) rfl (show _ = #[true, true, true, false, false, false, false, false, false, false, false, false, false, false, false, false, false, false, false, false, false, false, false, false, false, false, false, false, false, false, false, false, false, false, false, false, false, false] from rfl) (yv_idxO Try.underlying25 tf3 rfl rfl (idx_get e216).1 (idx_lt e216)) ?_
                refine sxb_again (d := 55) (v := .slice a11 x10.1.length c12) rfl (by rw [h218] <;> rfl) ?_
                refine sxb_take 3 (.int .i64 x216) [] rfl rfl rfl rfl (by kernel_rfl) (by kernel_rfl) (by kernel_rfl) (by kernel_rfl) (by kernel_rfl) (by kernel_rfl) rfl (show _ = #[true, true, true, true, false, false, false, false, false, false, false, false, false, false, false, false, false, false, false, false, false, false, false, false, false, false, false, false, false, false, false, false, false, false, false, false, false, false] from rfl) (yv_loadF (j := 1) rfl tf3 rfl rfl (fun _ => rfl) rfl) ?_
                refine sxb_takeP 4 (.bool (decide (0 ≤ x216))) rfl rfl rfl rfl (by kernel_rfl) (by kernel_rfl) (by kernel_rfl) (by kernel_rfl) (by kernel_rfl) rfl (show _ = #[true, true, true, true, true, false, false, false, false, false, false, false, false, false, false, false, false, false, false, false, false, false, false, false, false, false, false, false, false, false, false, false, false, false, false, false, false, false] from rfl) (yv_pv rfl) ?_
                refine sxb_takeP 5 (.bool (decide (0 ≤ x216))) rfl rfl rfl rfl (by kernel_rfl) (by kernel_rfl) (by kernel_rfl) (by kernel_rfl) (by kernel_rfl) rfl (show _ = #[true, true, true, true, true, true, false, false, false, false, false, false, false, false, false, false, false, false, false, false, false, false, false, false, false, false, false, false, false, false, false, false, false, false, false, false, false, false] from rfl) (yv_pv rfl) ?_
                refine sxb_again (d := 60) (v := .bool true) rfl (by rw [h220] <;> rfl) ?_
                refine sxb_takeP 6 (.slice a8 x7.1.length c9) rfl rfl rfl rfl (by kernel_rfl) (by kernel_rfl) (by kernel_rfl) (by kernel_rfl) (by kernel_rfl) rfl (show _ = #[true, true, true, true, true, true, true, false, false, false, false, false, false, false, false, false, false, false, false, false, false, false, false, false, false, false, false, false, false, false, false, false, false, false, false, false, false, false] from rfl) (yv_pv rfl) ?_
                refine sxb_takeP 7 (.int .i64 x4) rfl rfl rfl rfl (by kernel_rfl) (by kernel_rfl) (by kernel_rfl) (by kernel_rfl) (by kernel_rfl) rfl (show _ = #[true, true, true, true, true, true, true, true, false, false, false, false, false, false, false, false, false, false, false, false, false, false, false, false, false, false, false, false, false, false, false, false, false, false, false, false, false, false] from rfl) (yv_pv rfl) ?_
                refine sxb_again (d := 61) (v := .slice (some ⟨g222, 0, none⟩) x7.1.length c9) rfl (by rw [h223] <;> rfl) ?_
                refine sxb_takeP 8 (.pointer (some ⟨g222, x4.toNat * 1, none⟩)) rfl rfl rfl rfl (by kernel_rfl) (by kernel_rfl) (by kernel_rfl) (by kernel_rfl) (by kernel_rfl) rfl (show _ = #[true, true, true, true, true, true, true, true, true, false, false, false, false, false, false, false, false, false, false, false, false, false, false, false, false, false, false, false, false, false, false, false, false, false, false, false, false, false] from rfl) (yv_idxO Try.underlying25 tf3 rfl rfl (idx_get e221).1 (idx_lt e221)) ?_
                refine sxb_again (d := 61) (v := .slice a8 x7.1.length c9) rfl (by rw [h223] <;> rfl) ?_
                refine sxb_take 9 (.int .i64 x221) [] rfl rfl rfl rfl (by kernel_rfl) (by kernel_rfl) (by kernel_rfl) (by kernel_rfl) (by kernel_rfl) (by kernel_rfl) rfl (show _ = #[true, true, true, true, true, true, true, true, true, true, false, false, false, false, false, false, false, false, false, false, false, false, false, false, false, false, false, false, false, false, false, false, false, false, false, false, false, false] from rfl) (yv_loadF (j := 2) rfl tf3 rfl rfl (fun _ => rfl) rfl) ?_
                refine sxb_takeP 10 (.slice a8 x7.1.length c9) rfl rfl rfl rfl (by kernel_rfl) (by kernel_rfl) (by kernel_rfl) (by kernel_rfl) (by kernel_rfl) rfl (show _ = #[true, true, true, true, true, true, true, true, true, true, true, false, false, false, false, false, false, false, false, false, false, false, false, false, false, false, false, false, false, false, false, false, false, false, false, false, false, false] from rfl) (yv_pv rfl) ?_
                refine sxb_takeP 11 (.int .i64 x5) rfl rfl rfl rfl (by kernel_rfl) (by kernel_rfl) (by kernel_rfl) (by kernel_rfl) (by kernel_rfl) rfl (show _ = #[true, true, true, true, true, true, true, true, true, true, true, true, false, false, false, false, false, false, false, false, false, false, false, false, false, false, false, false, false, false, false, false, false, false, false, false, false, false] from rfl) (yv_pv rfl) ?_
                refine sxb_again (d := 65) (v := .slice (some ⟨g226, 0, none⟩) x7.1.length c9) rfl (by rw [h227] <;> rfl) ?_
                refine sxb_takeP 12 (.pointer (some ⟨g226, x5.toNat * 1, none⟩)) rfl rfl rfl rfl (by kernel_rfl) (by kernel_rfl) (by kernel_rfl) (by kernel_rfl) (by kernel_rfl) rfl (show _ = #[true, true, true, true, true, true, true, true, true, true, true, true, true, false, false, false, false, false, false, false, false, false, false, false, false, false, false, false, false, false, false, false, false, false, false, false, false, false] from rfl) (yv_idxO Try.underlying25 tf3 rfl rfl (idx_get e225).1 (idx_lt e225)) ?_
                refine sxb_again (d := 65) (v := .slice a8 x7.1.length c9) rfl (by rw [h227] <;> rfl) ?_
                refine sxb_take 13 (.int .i64 x225) [] rfl rfl rfl rfl (by kernel_rfl) (by kernel_rfl) (by kernel_rfl) (by kernel_rfl) (by kernel_rfl) (by kernel_rfl) rfl (show _ = #[true, true, true, true, true, true, true, true, true, true, true, true, true, true, false, false, false, false, false, false, false, false, false, false, false, false, false, false, false, false, false, false, false, false, false, false, false, false] from rfl) (yv_loadF (j := 3) rfl tf3 rfl rfl (fun _ => rfl) rfl) ?_
                refine sxb_takeP 14 (.bool ((x221 : Int) != x225)) rfl rfl rfl rfl (by kernel_rfl) (by kernel_rfl) (by kernel_rfl) (by kernel_rfl) (by kernel_rfl) rfl (show _ = #[true, true, true, true, true, true, true, true, true, true, true, true, true, true, true, false, false, false, false, false, false, false, false, false, false, false, false, false, false, false, false, false, false, false, false, false, false, false] from rfl) (yv_pv rfl) ?_
                refine sxb_takeP 15 (.bool ((x221 : Int) != x225)) rfl rfl rfl rfl (by kernel_rfl) (by kernel_rfl) (by kernel_rfl) (by kernel_rfl) (by kernel_rfl) rfl (show _ = #[true, true, true, true, true, true, true, true, true, true, true, true, true, true, true, true, false, false, false, false, false, false, false, false, false, false, false, false, false, false, false, false, false, false, false, false, false, false] from rfl) (yv_pv rfl) ?_
                refine sxb_takeP 16 (.bool ((x221 : Int) != x225)) rfl rfl rfl rfl (by kernel_rfl) (by kernel_rfl) (by kernel_rfl) (by kernel_rfl) (by kernel_rfl) rfl (show _ = #[true, true, true, true, true, true, true, true, true, true, true, true, true, true, true, true, true, false, false, false, false, false, false, false, false, false, false, false, false, false, false, false, false, false, false, false, false, false] from rfl) (yv_pv rfl) ?_
                refine sxb_again (d := 71) (v := .bool false) rfl (by rw [h229] <;> rfl) ?_
                refine sxb_takeP 17 (.slice a8 x7.1.length c9) rfl rfl rfl rfl (by kernel_rfl) (by kernel_rfl) (by kernel_rfl) (by kernel_rfl) (by kernel_rfl) rfl (show _ = #[true, true, true, true, true, true, true, true, true, true, true, true, true, true, true, true, true, true, false, false, false, false, false, false, false, false, false, false, false, false, false, false, false, false, false, false, false, false] from rfl) (yv_pv rfl) ?_
                refine sxb_takeP 18 (.int .i64 x5) rfl rfl rfl rfl (by kernel_rfl) (by kernel_rfl) (by kernel_rfl) (by kernel_rfl) (by kernel_rfl) rfl (show _ = #[true, true, true, true, true, true, true, true, true, true, true, true, true, true, true, true, true, true, true, false, false, false, false, false, false, false, false, false, false, false, false, false, false, false, false, false, false, false] from rfl) (yv_pv rfl) ?_
                refine sxb_again (d := 72) (v := .slice (some ⟨g231, 0, none⟩) x7.1.length c9) rfl (by rw [h232] <;> rfl) ?_
                refine sxb_takeP 19 (.pointer (some ⟨g231, x5.toNat * 1, none⟩)) rfl rfl rfl rfl (by kernel_rfl) (by kernel_rfl) (by kernel_rfl) (by kernel_rfl) (by kernel_rfl) rfl (show _ = #[true, true, true, true, true, true, true, true, true, true, true, true, true, true, true, true, true, true, true, true, false, false, false, false, false, false, false, false, false, false, false, false, false, false, false, false, false, false] from rfl) (yv_idxO Try.underlying25 tf3 rfl rfl (idx_get e230).1 (idx_lt e230)) ?_
                refine sxb_again (d := 72) (v := .slice a8 x7.1.length c9) rfl (by rw [h232] <;> rfl) ?_
                refine sxb_take 20 (.int .i64 x230) [] rfl rfl rfl rfl (by kernel_rfl) (by kernel_rfl) (by kernel_rfl) (by kernel_rfl) (by kernel_rfl) (by kernel_rfl) rfl (show _ = #[true, true, true, true, true, true, true, true, true, true, true, true, true, true, true, true, true, true, true, true, true, false, false, false, false, false, false, false, false, false, false, false, false, false, false, false, false, false] from rfl) (yv_loadF (j := 4) rfl tf3 rfl rfl (fun _ => rfl) rfl) ?_
                refine sxb_takeP 21 (.int .i64 x5) rfl rfl rfl rfl (by kernel_rfl) (by kernel_rfl) (by kernel_rfl) (by kernel_rfl) (by kernel_rfl) rfl (show _ = #[true, true, true, true, true, true, true, true, true, true, true, true, true, true, true, true, true, true, true, true, true, true, false, false, false, false, false, false, false, false, false, false, false, false, false, false, false, false] from rfl) (yv_pv rfl) ?_
                refine sxb_takeP 22 (.bool (decide (x5 < x230))) rfl rfl rfl rfl (by kernel_rfl) (by kernel_rfl) (by kernel_rfl) (by kernel_rfl) (by kernel_rfl) rfl (show _ = #[true, true, true, true, true, true, true, true, true, true, true, true, true, true, true, true, true, true, true, true, true, true, true, false, false, false, false, false, false, false, false, false, false, false, false, false, false, false] from rfl) (yv_pv rfl) ?_
                refine sxb_takeP 23 (.bool (decide (x5 < x230))) rfl rfl rfl rfl (by kernel_rfl) (by kernel_rfl) (by kernel_rfl) (by kernel_rfl) (by kernel_rfl) rfl (show _ = #[true, true, true, true, true, true, true, true, true, true, true, true, true, true, true, true, true, true, true, true, true, true, true, true, false, false, false, false, false, false, false, false, false, false, false, false, false, false] from rfl) (yv_pv rfl) ?_
                refine sxb_takeP 24 (.bool (decide (x5 < x230))) rfl rfl rfl rfl (by kernel_rfl) (by kernel_rfl) (by kernel_rfl) (by kernel_rfl) (by kernel_rfl) rfl (show _ = #[true, true, true, true, true, true, true, true, true, true, true, true, true, true, true, true, true, true, true, true, true, true, true, true, true, false, false, false, false, false, false, false, false, false, false, false, false, false] from rfl) (yv_pv rfl) ?_
                refine sxb_again (d := 79) (v := .bool false) rfl (by rw [h234] <;> rfl) ?_
                refine sxb_takeP 25 (.slice a8 x7.1.length c9) rfl rfl rfl rfl (by kernel_rfl) (by kernel_rfl) (by kernel_rfl) (by kernel_rfl) (by kernel_rfl) rfl (show _ = #[true, true, true, true, true, true, true, true, true, true, true, true, true, true, true, true, true, true, true, true, true, true, true, true, true, true, false, false, false, false, false, false, false, false, false, false, false, false] from rfl) (yv_pv rfl) ?_
                refine sxb_takeP 26 (.slice a8 x7.1.length c9) rfl rfl rfl rfl (by kernel_rfl) (by kernel_rfl) (by kernel_rfl) (by kernel_rfl) (by kernel_rfl) rfl (show _ = #[true, true, true, true, true, true, true, true, true, true, true, true, true, true, true, true, true, true, true, true, true, true, true, true, true, true, true, false, false, false, false, false, false, false, false, false, false, false] from rfl) (yv_pv rfl) ?_
                refine sxb_takeP 27 (.int .i64 x5) rfl rfl rfl rfl (by kernel_rfl) (by kernel_rfl) (by kernel_rfl) (by kernel_rfl) (by kernel_rfl) rfl (show _ = #[true, true, true, true, true, true, true, true, true, true, true, true, true, true, true, true, true, true, true, true, true, true, true, true, true, true, true, true, false, false, false, false, false, false, false, false, false, false] from rfl) (yv_pv rfl) ?_
                refine sxb_again (d := 81) (v := .slice (some ⟨g236, 0, none⟩) x7.1.length c9) rfl (by rw [h237] <;> rfl) ?_
                refine sxb_takeP 28 (.pointer (some ⟨g236, x5.toNat * 1, none⟩)) rfl rfl rfl rfl (by kernel_rfl) (by kernel_rfl) (by kernel_rfl) (by kernel_rfl) (by kernel_rfl) rfl (show _ = #[true, true, true, true, true, true, true, true, true, true, true, true, true, true, true, true, true, true, true, true, true, true, true, true, true, true, true, true, true, false, false, false, false, false, false, false, false, false] from rfl) (yv_idxO Try.underlying25 tf3 rfl rfl (idx_get e235).1 (idx_lt e235)) ?_
                refine sxb_again (d := 81) (v := .slice a8 x7.1.length c9) rfl (by rw [h237] <;> rfl) ?_
                refine sxb_take 29 (.int .i64 x235) [] rfl rfl rfl rfl (by kernel_rfl) (by kernel_rfl) (by kernel_rfl) (by kernel_rfl) (by kernel_rfl) (by kernel_rfl) rfl (show _ = #[true, true, true, true, true, true, true, true, true, true, true, true, true, true, true, true, true, true, true, true, true, true, true, true, true, true, true, true, true, true, false, false, false, false, false, false, false, false] from rfl) (yv_loadF (j := 5) rfl tf3 rfl rfl (fun _ => rfl) rfl) ?_
                refine sxb_again (d := 80) (v := .slice (some ⟨g240, 0, none⟩) x7.1.length c9) rfl (by rw [h241] <;> rfl) ?_
                refine sxb_takeP 30 (.pointer (some ⟨g240, x235.toNat * 1, none⟩)) rfl rfl rfl rfl (by kernel_rfl) (by kernel_rfl) (by kernel_rfl) (by kernel_rfl) (by kernel_rfl) rfl (show _ = #[true, true, true, true, true, true, true, true, true, true, true, true, true, true, true, true, true, true, true, true, true, true, true, true, true, true, true, true, true, true, true, false, false, false, false, false, false, false] from rfl) (yv_idxO Try.underlying25 tf3 rfl rfl (idx_get e239).1 (idx_lt e239)) ?_
                refine sxb_again (d := 80) (v := .slice a8 x7.1.length c9) rfl (by rw [h241] <;> rfl) ?_
                refine sxb_take 31 (.int .i64 x239) [] rfl rfl rfl rfl (by kernel_rfl) (by kernel_rfl) (by kernel_rfl) (by kernel_rfl) (by kernel_rfl) (by kernel_rfl) rfl (show _ = #[true, true, true, true, true, true, true, true, true, true, true, true, true, true, true, true, true, true, true, true, true, true, true, true, true, true, true, true, true, true, true, true, false, false, false, false, false, false] from rfl) (yv_loadF (j := 6) rfl tf3 rfl rfl (fun _ => rfl) rfl) ?_
                refine sxb_takeP 32 (.slice a8 x7.1.length c9) rfl rfl rfl rfl (by kernel_rfl) (by kernel_rfl) (by kernel_rfl) (by kernel_rfl) (by kernel_rfl) rfl (show _ = #[true, true, true, true, true, true, true, true, true, true, true, true, true, true, true, true, true, true, true, true, true, true, true, true, true, true, true, true, true, true, true, true, true, false, false, false, false, false] from rfl) (yv_pv rfl) ?_
                refine sxb_takeP 33 (.int .i64 x5) rfl rfl rfl rfl (by kernel_rfl) (by kernel_rfl) (by kernel_rfl) (by kernel_rfl) (by kernel_rfl) rfl (show _ = #[true, true, true, true, true, true, true, true, true, true, true, true, true, true, true, true, true, true, true, true, true, true, true, true, true, true, true, true, true, true, true, true, true, true, false, false, false, false] from rfl) (yv_pv rfl) ?_
                refine sxb_again (d := 87) (v := .slice (some ⟨g244, 0, none⟩) x7.1.length c9) rfl (by rw [h245] <;> rfl) ?_
                refine sxb_takeP 34 (.pointer (some ⟨g244, x5.toNat * 1, none⟩)) rfl rfl rfl rfl (by kernel_rfl) (by kernel_rfl) (by kernel_rfl) (by kernel_rfl) (by kernel_rfl) rfl (show _ = #[true, true, true, true, true, true, true, true, true, true, true, true, true, true, true, true, true, true, true, true, true, true, true, true, true, true, true, true, true, true, true, true, true, true, true, false, false, false] from rfl) (yv_idxO Try.underlying25 tf3 rfl rfl (idx_get e243).1 (idx_lt e243)) ?_
                refine sxb_again (d := 87) (v := .slice a8 x7.1.length c9) rfl (by rw [h245] <;> rfl) ?_
                refine sxb_take 35 (.int .i64 x243) [] rfl rfl rfl rfl (by kernel_rfl) (by kernel_rfl) (by kernel_rfl) (by kernel_rfl) (by kernel_rfl) (by kernel_rfl) rfl (show _ = #[true, true, true, true, true, true, true, true, true, true, true, true, true, true, true, true, true, true, true, true, true, true, true, true, true, true, true, true, true, true, true, true, true, true, true, true, false, false] from rfl) (yv_loadF (j := 7) rfl tf3 rfl rfl (fun _ => rfl) rfl) ?_
                refine sxb_takeP 36 (.bool ((x239 : Int) != x243)) rfl rfl rfl rfl (by kernel_rfl) (by kernel_rfl) (by kernel_rfl) (by kernel_rfl) (by kernel_rfl) rfl (show _ = #[true, true, true, true, true, true, true, true, true, true, true, true, true, true, true, true, true, true, true, true, true, true, true, true, true, true, true, true, true, true, true, true, true, true, true, true, true, false] from rfl) (yv_pv rfl) ?_
                refine sxb_takeP 37 (.bool ((x239 : Int) != x243)) rfl rfl rfl rfl (by kernel_rfl) (by kernel_rfl) (by kernel_rfl) (by kernel_rfl) (by kernel_rfl) rfl (show _ = #[true, true, true, true, true, true, true, true, true, true, true, true, true, true, true, true, true, true, true, true, true, true, true, true, true, true, true, true, true, true, true, true, true, true, true, true, true, true] from rfl) (yv_pv rfl) ?_
                refine sxb_done (by kernel_rfl) ?_
                refine sxq_np ?_ (by intro c h; cases h)
                exact sxq_meetP (((x239 : Int) != x243), ()) (lk_cons rfl (lk_cons rfl (lk_cons rfl (lk_cons rfl (lk_cons rfl lk_nil))))) (.cons 0 rfl .nil) (.cons 0 rfl .nil) (fk_cons 0 rfl fk_nil)
          · refine sxc_idxO (j := 0) rfl (fun x247 e247 g248 h249 => ?_)
            replace h249 : a8 = some ⟨g248, 0, none⟩ := h249
            have h250 := own_of (k := x7.1.length) (c := c9) h249
            refine sxc_split (fun h251 => ?_) (fun h251 => ?_)
            · refine sxb_draw mixed [] [⟨g6, 24, [.slice a2 x1.length c3.1]⟩] [SlN eN25 iN25 1 (.slice a2 x1.length c3.1) x1 c3.2, CellsAt g217 (x5.toNat * 1) ((eI .i64) x216), CellsAt g248 (x5.toNat * 1) ((eI .i64) x247)] (.cons 0 rfl .nil) (gk_F 0 rfl (gk_R 1 rfl (at_row (eI_ok .i64) e216 h218) (gk_R 0 rfl (at_row (eI_ok .i64) e247 h249) gk_nil))) 38 rfl ?_
              refine sxb_takeP 0 (.slice a11 x10.1.length c12) rfl rfl rfl rfl (by kernel_rfl) (by kernel_rfl) (by kernel_rfl) (by kernel_rfl) (by kernel_rfl) rfl (show _ = #[true, false, false, false, false, false, false, false, false, false, false, false, false, false, false, false, false, false, false, false, false, false, false, false, false, false, false, false, false, false, false, false, false, false, false, false, false, false] from rfl) (yv_pv rfl) ?_
              refine sxb_takeP 1 (.int .i64 x5) rfl rfl rfl rfl (by kernel_rfl) (by kernel_rfl) (by kernel_rfl) (by kernel_rfl) (by kernel_rfl) rfl (show _ = #[true, true, false, false, false, false, false, false, false, false, false, false, false, false, false, false, false, false, false, false, false, false, false, false, false, false, false, false, false, false, false, false, false, false, false, false, false, false] from rfl) (yv_pv rfl) ?_
              refine sxb_again (d := 55) (v := .slice (some ⟨g217, 0, none⟩) x10.1.length c12) rfl (by rw [h218] <;> rfl) ?_
              refine sxb_takeP 2 (.pointer (some ⟨g217, x5.toNat * 1, none⟩)) rfl rfl rfl rfl (by kernel_rfl) (by kernel_rfl) (by kernel_rfl) (by kernel_rfl) (by kernel_rfl) rfl (show _ = #[true, true, true, false, false, false, false, false, false, false, false, false, false, false, false, false, false, false, false, false, false, false, false, false, false, false, false, false, false, false, false, false, false, false, false, false, false, false] from rfl) (yv_idxO Try.underlying25 tf3 rfl rfl (idx_get e216).1 (idx_lt e216)) ?_
              refine sxb_again (d := 55) (v := .slice a11 x10.1.length c12) rfl (by rw [h218] <;> rfl) ?_
              refine sxb_take 3 (.int .i64 x216) [] rfl rfl rfl rfl (by kernel_rfl) (by kernel_rfl) (by kernel_rfl) (by kernel_rfl) (by kernel_rfl) (by kernel_rfl) rfl (show _ = #[true, true, true, true, false, false, false, false, false, false, false, false, false, false, false, false, false, false, false, false, false, false, false, false, false, false, false, false, false, false, false, false, false, false, false, false, false, false] from rfl) (yv_loadF (j := 1) rfl tf3 rfl rfl (fun _ => rfl) rfl) ?_
              refine sxb_takeP 4 (.bool (decide (0 ≤ x216))) rfl rfl rfl rfl (by kernel_rfl) (by kernel_rfl) (by kernel_rfl) (by kernel_rfl) (by kernel_rfl) rfl (show _ = #[true, true, true, true, true, false, false, false, false, false, false, false, false, false, false, false, false, false, false, false, false, false, false, false, false, false, false, false, false, false, false, false, false, false, false, false, false, false] from rfl) (yv_pv rfl) ?_
              refine sxb_takeP 5 (.bool (decide (0 ≤ x216))) rfl rfl rfl rfl (by kernel_rfl) (by kernel_rfl) (by kernel_rfl) (by kernel_rfl) (by kernel_rfl) rfl (show _ = #[true, true, true, true, true, true, false, false, false, false, false, false, false, false, false, false, false, false, false, false, false, false, false, false, false, false, false, false, false, false, false, false, false, false, false, false, false, false] from rfl) (yv_pv rfl) ?_
              refine sxb_again (d := 60) (v := .bool false) rfl (by rw [h220] <;> rfl) ?_
              refine sxb_skip 6 rfl rfl rfl rfl (by kernel_rfl) (by kernel_rfl) (by kernel_rfl) (by kernel_rfl) (by kernel_rfl) rfl (show _ = #[true, true, true, true, true, true, true, false, false, false, false, false, false, false, false, false, false, false, false, false, false, false, false, false, false, false, false, false, false, false, false, false, false, false, false, false, false, false] from rfl) ?_
              refine sxb_skip 7 rfl rfl rfl rfl (by kernel_rfl) (by kernel_rfl) (by kernel_rfl) (by kernel_rfl) (by kernel_rfl) rfl (show _ = #[true, true, true, true, true, true, true, true, false, false, false, false, false, false, false, false, false, false, false, false, false, false, false, false, false, false, false, false, false, false, false, false, false, false, false, false, false, false] from rfl) ?_
              refine sxb_skip 8 rfl rfl rfl rfl (by kernel_rfl) (by kernel_rfl) (by kernel_rfl) (by kernel_rfl) (by kernel_rfl) rfl (show _ = #[true, true, true, true, true, true, true, true, true, false, false, false, false, false, false, false, false, false, false, false, false, false, false, false, false, false, false, false, false, false, false, false, false, false, false, false, false, false] from rfl) ?_
              refine sxb_skip 9 rfl rfl rfl rfl (by kernel_rfl) (by kernel_rfl) (by kernel_rfl) (by kernel_rfl) (by kernel_rfl) rfl (show _ = #[true, true, true, true, true, true, true, true, true, true, false, false, false, false, false, false, false, false, false, false, false, false, false, false, false, false, false, false, false, false, false, false, false, false, false, false, false, false] from rfl) ?_
              refine sxb_skip 10 rfl rfl rfl rfl (by kernel_rfl) (by kernel_rfl) (by kernel_rfl) (by kernel_rfl) (by kernel_rfl) rfl (show _ = #[true, true, true, true, true, true, true, true, true, true, true, false, false, false, false, false, false, false, false, false, false, false, false, false, false, false, false, false, false, false, false, false, false, false, false, false, false, false] from rfl) ?_
              refine sxb_skip 11 rfl rfl rfl rfl (by kernel_rfl) (by kernel_rfl) (by kernel_rfl) (by kernel_rfl) (by kernel_rfl) rfl (show _ = #[true, true, true, true, true, true, true, true, true, true, true, true, false, false, false, false, false, false, false, false, false, false, false, false, false, false, false, false, false, false, false, false, false, false, false, false, false, false] from rfl) ?_
              refine sxb_skip 12 rfl rfl rfl rfl (by kernel_rfl) (by kernel_rfl) (by kernel_rfl) (by kernel_rfl) (by kernel_rfl) rfl (show _ = #[true, true, true, true, true, true, true, true, true, true, true, true, true, false, false, false, false, false, false, false, false, false, false, false, false, false, false, false, false, false, false, false, false, false, false, false, false, false] from rfl) ?_
              refine sxb_skip 13 rfl rfl rfl rfl (by kernel_rfl) (by kernel_rfl) (by kernel_rfl) (by kernel_rfl) (by kernel_rfl) rfl (show _ = #[true, true, true, true, true, true, true, true, true, true, true, true, true, true, false, false, false, false, false, false, false, false, false, false, false, false, false, false, false, false, false, false, false, false, false, false, false, false] from rfl) ?_
              refine sxb_skip 14 rfl rfl rfl rfl (by kernel_rfl) (by kernel_rfl) (by kernel_rfl) (by kernel_rfl) (by kernel_rfl) rfl (show _ = #[true, true, true, true, true, true, true, true, true, true, true, true, true, true, true, false, false, false, false, false, false, false, false, false, false, false, false, false, false, false, false, false, false, false, false, false, false, false] from rfl) ?_
              refine sxb_takeP 15 (.bool false) rfl rfl rfl rfl (by kernel_rfl) (by kernel_rfl) (by kernel_rfl) (by kernel_rfl) (by kernel_rfl) rfl (show _ = #[true, true, true, true, true, true, true, true, true, true, true, true, true, true, true, true, false, false, false, false, false, false, false, false, false, false, false, false, false, false, false, false, false, false, false, false, false, false] from rfl) (yv_pv rfl) ?_
              refine sxb_takeP 16 (.bool false) rfl rfl rfl rfl (by kernel_rfl) (by kernel_rfl) (by kernel_rfl) (by kernel_rfl) (by kernel_rfl) rfl (show _ = #[true, true, true, true, true, true, true, true, true, true, true, true, true, true, true, true, true, false, false, false, false, false, false, false, false, false, false, false, false, false, false, false, false, false, false, false, false, false] from rfl) (yv_pv rfl) ?_
              refine sxb_takeP 17 (.slice a8 x7.1.length c9) rfl rfl rfl rfl (by kernel_rfl) (by kernel_rfl) (by kernel_rfl) (by kernel_rfl) (by kernel_rfl) rfl (show _ = #[true, true, true, true, true, true, true, true, true, true, true, true, true, true, true, true, true, true, false, false, false, false, false, false, false, false, false, false, false, false, false, false, false, false, false, false, false, false] from rfl) (yv_pv rfl) ?_
              refine sxb_takeP 18 (.int .i64 x5) rfl rfl rfl rfl (by kernel_rfl) (by kernel_rfl) (by kernel_rfl) (by kernel_rfl) (by kernel_rfl) rfl (show _ = #[true, true, true, true, true, true, true, true, true, true, true, true, true, true, true, true, true, true, true, false, false, false, false, false, false, false, false, false, false, false, false, false, false, false, false, false, false, false] from rfl) (yv_pv rfl) ?_
              refine sxb_again (d := 72) (v := .slice (some ⟨g248, 0, none⟩) x7.1.length c9) rfl (by rw [h249] <;> rfl) ?_
              refine sxb_takeP 19 (.pointer (some ⟨g248, x5.toNat * 1, none⟩)) rfl rfl rfl rfl (by kernel_rfl) (by kernel_rfl) (by kernel_rfl) (by kernel_rfl) (by kernel_rfl) rfl (show _ = #[true, true, true, true, true, true, true, true, true, true, true, true, true, true, true, true, true, true, true, true, false, false, false, false, false, false, false, false, false, false, false, false, false, false, false, false, false, false] from rfl) (yv_idxO Try.underlying25 tf3 rfl rfl (idx_get e247).1 (idx_lt e247)) ?_
              refine sxb_again (d := 72) (v := .slice a8 x7.1.length c9) rfl (by rw [h249] <;> rfl) ?_
              refine sxb_take 20 (.int .i64 x247) [] rfl rfl rfl rfl (by kernel_rfl) (by kernel_rfl) (by kernel_rfl) (by kernel_rfl) (by kernel_rfl) (by kernel_rfl) rfl (show _ = #[true, true, true, true, true, true, true, true, true, true, true, true, true, true, true, true, true, true, true, true, true, false, false, false, false, false, false, false, false, false, false, false, false, false, false, false, false, false] from rfl) (yv_loadF (j := 2) rfl tf3 rfl rfl (fun _ => rfl) rfl) ?_
              refine sxb_takeP 21 (.int .i64 x5) rfl rfl rfl rfl (by kernel_rfl) (by kernel_rfl) (by kernel_rfl) (by kernel_rfl) (by kernel_rfl) rfl (show _ = #[true, true, true, true, true, true, true, true, true, true, true, true, true, true, true, true, true, true, true, true, true, true, false, false, false, false, false, false, false, false, false, false, false, false, false, false, false, false] from rfl) (yv_pv rfl) ?_
              refine sxb_takeP 22 (.bool (decide (x5 < x247))) rfl rfl rfl rfl (by kernel_rfl) (by kernel_rfl) (by kernel_rfl) (by kernel_rfl) (by kernel_rfl) rfl (show _ = #[true, true, true, true, true, true, true, true, true, true, true, true, true, true, true, true, true, true, true, true, true, true, true, false, false, false, false, false, false, false, false, false, false, false, false, false, false, false] from rfl) (yv_pv rfl) ?_
              refine sxb_takeP 23 (.bool (decide (x5 < x247))) rfl rfl rfl rfl (by kernel_rfl) (by kernel_rfl) (by kernel_rfl) (by kernel_rfl) (by kernel_rfl) rfl (show _ = #[true, true, true, true, true, true, true, true, true, true, true, true, true, true, true, true, true, true, true, true, true, true, true, true, false, false, false, false, false, false, false, false, false, false, false, false, false, false] from rfl) (yv_pv rfl) ?_
              refine sxb_takeP 24 (.bool (decide (x5 < x247))) rfl rfl rfl rfl (by kernel_rfl) (by kernel_rfl) (by kernel_rfl) (by kernel_rfl) (by kernel_rfl) rfl (show _ = #[true, true, true, true, true, true, true, true, true, true, true, true, true, true, true, true, true, true, true, true, true, true, true, true, true, false, false, false, false, false, false, false, false, false, false, false, false, false] from rfl) (yv_pv rfl) ?_
              refine sxb_again (d := 79) (v := .bool true) rfl (by rw [h251] <;> rfl) ?_
              refine sxb_skip 25 rfl rfl rfl rfl (by kernel_rfl) (by kernel_rfl) (by kernel_rfl) (by kernel_rfl) (by kernel_rfl) rfl (show _ = #[true, true, true, true, true, true, true, true, true, true, true, true, true, true, true, true, true, true, true, true, true, true, true, true, true, true, false, false, false, false, false, false, false, false, false, false, false, false] from rfl) ?_
              refine sxb_skip 26 rfl rfl rfl rfl (by kernel_rfl) (by kernel_rfl) (by kernel_rfl) (by kernel_rfl) (by kernel_rfl) rfl (show _ = #[true, true, true, true, true, true, true, true, true, true, true, true, true, true, true, true, true, true, true, true, true, true, true, true, true, true, true, false, false, false, false, false, false, false, false, false, false, false] from rfl) ?_
              refine sxb_skip 27 rfl rfl rfl rfl (by kernel_rfl) (by kernel_rfl) (by kernel_rfl) (by kernel_rfl) (by kernel_rfl) rfl (show _ = #[true, true, true, true, true, true, true, true, true, true, true, true, true, true, true, true, true, true, true, true, true, true, true, true, true, true, true, true, false, false, false, false, false, false, false, false, false, false] from rfl) ?_
              refine sxb_skip 28 rfl rfl rfl rfl (by kernel_rfl) (by kernel_rfl) (by kernel_rfl) (by kernel_rfl) (by kernel_rfl) rfl (show _ = #[true, true, true, true, true, true, true, true, true, true, true, true, true, true, true, true, true, true, true, true, true, true, true, true, true, true, true, true, true, false, false, false, false, false, false, false, false, false] from rfl) ?_
              refine sxb_skip 29 rfl rfl rfl rfl (by kernel_rfl) (by kernel_rfl) (by kernel_rfl) (by kernel_rfl) (by kernel_rfl) rfl (show _ = #[true, true, true, true, true, true, true, true, true, true, true, true, true, true, true, true, true, true, true, true, true, true, true, true, true, true, true, true, true, true, false, false, false, false, false, false, false, false] from rfl) ?_
              refine sxb_skip 30 rfl rfl rfl rfl (by kernel_rfl) (by kernel_rfl) (by kernel_rfl) (by kernel_rfl) (by kernel_rfl) rfl (show _ = #[true, true, true, true, true, true, true, true, true, true, true, true, true, true, true, true, true, true, true, true, true, true, true, true, true, true, true, true, true, true, true, false, false, false, false, false, false, false] from rfl) ?_
              refine sxb_skip 31 rfl rfl rfl rfl (by kernel_rfl) (by kernel_rfl) (by kernel_rfl) (by kernel_rfl) (by kernel_rfl) rfl (show _ = #[true, true, true, true, true, true, true, true, true, true, true, true, true, true, true, true, true, true, true, true, true, true, true, true, true, true, true, true, true, true, true, true, false, false, false, false, false, false] from rfl) ?_
              refine sxb_skip 32 rfl rfl rfl rfl (by kernel_rfl) (by kernel_rfl) (by kernel_rfl) (by kernel_rfl) (by kernel_rfl) rfl (show _ = #[true, true, true, true, true, true, true, true, true, true, true, true, true, true, true, true, true, true, true, true, true, true, true, true, true, true, true, true, true, true, true, true, true, false, false, false, false, false] from rfl) ?_
              refine sxb_skip 33 rfl rfl rfl rfl (by kernel_rfl) (by kernel_rfl) (by kernel_rfl) (by kernel_rfl) (by kernel_rfl) rfl (show _ = #[true, true, true, true, true, true, true, true, true, true, true, true, true, true, true, true, true, true, true, true, true, true, true, true, true, true, true, true, true, true, true, true, true, true, false, false, false, false] from rfl) ?_
              refine sxb_skip 34 rfl rfl rfl rfl (by kernel_rfl) (by kernel_rfl) (by kernel_rfl) (by kernel_rfl) (by kernel_rfl) rfl (show _ = #[true, true, true, true, true, true, true, true, true, true, true, true, true, true, true, true, true, true, true, true, true, true, true, true, true, true, true, true, true, true, true, true, true, true, true, false, false, false] from rfl) ?_
              refine sxb_skip 35 rfl rfl rfl rfl (by kernel_rfl) (by kernel_rfl) (by kernel_rfl) (by kernel_rfl) (by kernel_rfl) rfl (show _ = #[true, true, true, true, true, true, true, true, true, true, true, true, true, true, true, true, true, true, true, true, true, true, true, true, true, true, true, true, true, true, true, true, true, true, true, true, false, false] from rfl) ?_
              refine sxb_skip 36 rfl rfl rfl rfl (by kernel_rfl) (by kernel_rfl) (by kernel_rfl) (by kernel_rfl) (by kernel_rfl) rfl (show _ = #[true, true, true, true, true, true, true, true, true, true, true, true, true, true, true, true, true, true, true, true, true, true, true, true, true, true, true, true, true, true, true, true, true, true, true, true, true, false] from rfl) ?_
              refine sxb_takeP 37 (.bool true) rfl rfl rfl rfl (by kernel_rfl) (by kernel_rfl) (by kernel_rfl) (by kernel_rfl) (by kernel_rfl) rfl (show _ = #[true, true, true, true, true, true, true, true, true, true, true, true, true, true, true, true, true, true, true, true, true, true, true, true, true, true, true, true, true, true, true, true, true, true, true, true, true, true] from rfl) (yv_pv rfl) ?_
              refine sxb_done (by kernel_rfl) ?_
              refine sxq_np ?_ (by intro c h; cases h)
              exact sxq_meetP (true, ()) (lk_cons rfl (lk_cons rfl (lk_cons rfl (lk_cons rfl (lk_cons rfl lk_nil))))) (.cons 0 rfl .nil) (.cons 0 rfl .nil) (fk_cons 0 rfl fk_nil)
            · refine sxc_idxO (j := 0) rfl (fun x252 e252 g253 h254 => ?_)
              replace h254 : a8 = some ⟨g253, 0, none⟩ := h254
              have h255 := own_of (k := x7.1.length) (c := c9) h254
              refine sxc_idxO (j := 0) rfl (fun x256 e256 g257 h258 => ?_)
              replace h258 : a8 = some ⟨g257, 0, none⟩ := h258
              have h259 := own_of (k := x7.1.length) (c := c9) h258
              refine sxc_idxO (j := 0) rfl (fun x260 e260 g261 h262 => ?_)
              replace h262 : a8 = some ⟨g261, 0, none⟩ := h262
              have h263 := own_of (k := x7.1.length) (c := c9) h262
              refine sxb_draw mixed [] [⟨g6, 24, [.slice a2 x1.length c3.1]⟩] [SlN eN25 iN25 1 (.slice a2 x1.length c3.1) x1 c3.2, CellsAt g217 (x5.toNat * 1) ((eI .i64) x216), CellsAt g248 (x5.toNat * 1) ((eI .i64) x247), CellsAt g253 (x5.toNat * 1) ((eI .i64) x252), CellsAt g257 (x252.toNat * 1) ((eI .i64) x256), CellsAt g261 (x5.toNat * 1) ((eI .i64) x260)] (.cons 0 rfl .nil) (gk_F 0 rfl (gk_R 1 rfl (at_row (eI_ok .i64) e216 h218) (gk_R 0 rfl (at_row (eI_ok .i64) e247 h249) (gk_R 0 rfl (at_row (eI_ok .i64) e252 h254) (gk_R 0 rfl (at_row (eI_ok .i64) e256 h258) (gk_R 0 rfl (at_row (eI_ok .i64) e260 h262) gk_nil)))))) 38 rfl ?_
              refine sxb_takeP 0 (.slice a11 x10.1.length c12) rfl rfl rfl rfl (by kernel_rfl) (by kernel_rfl) (by kernel_rfl) (by kernel_rfl) (by kernel_rfl) rfl (show _ = #[true, false, false, false, false, false, false, false, false, false, false, false, false, false, false, false, false, false, false, false, false, false, false, false, false, false, false, false, false, false, false, false, false, false, false, false, false, false] from rfl) (yv_pv rfl) ?_
              refine sxb_takeP 1 (.int .i64 x5) rfl rfl rfl rfl (by kernel_rfl) (by kernel_rfl) (by kernel_rfl) (by kernel_rfl) (by kernel_rfl) rfl (show _ = #[true, true, false, false, false, false, false, false, false, false, false, false, false, false, false, false, false, false, false, false, false, false, false, false, false, false, false, false, false, false, false, false, false, false, false, false, false, false] from rfl) (yv_pv rfl) ?_
              refine sxb_again (d := 55) (v := .slice (some ⟨g217, 0, none⟩) x10.1.length c12) rfl (by rw [h218] <;> rfl) ?_
              refine sxb_takeP 2 (.pointer (some ⟨g217, x5.toNat * 1, none⟩)) rfl rfl rfl rfl (by kernel_rfl) (by kernel_rfl) (by kernel_rfl) (by kernel_rfl) (by kernel_rfl) rfl (show _ = #[true, true, true, false, false, false, false, false, false, false, false, false, false, false, false, false, false, false, false, false, false, false, false, false, false, false, false, false, false, false, false, false, false, false, false, false, false, false] from rfl) (yv_idxO Try.underlying25 tf3 rfl rfl (idx_get e216).1 (idx_lt e216)) ?_
              refine sxb_again (d := 55) (v := .slice a11 x10.1.length c12) rfl (by rw [h218] <;> rfl) ?_
              refine sxb_take 3 (.int .i64 x216) [] rfl rfl rfl rfl (by kernel_rfl) (by kernel_rfl) (by kernel_rfl) (by kernel_rfl) (by kernel_rfl) (by kernel_rfl) rfl (show _ = #[true, true, true, true, false, false, false, false, false, false, false, false, false, false, false, false, false, false, false, false, false, false, false, false, false, false, false, false, false, false, false, false, false, false, false, false, false, false] from rfl) (yv_loadF (j := 1) rfl tf3 rfl rfl (fun _ => rfl) rfl) ?_
              refine sxb_takeP 4 (.bool (decide (0 ≤ x216))) rfl rfl rfl rfl (by kernel_rfl) (by kernel_rfl) (by kernel_rfl) (by kernel_rfl) (by kernel_rfl) rfl (show _ = #[true, true, true, true, true, false, false, false, false, false, false, false, false, false, false, false, false, false, false, false, false, false, false, false, false, false, false, false, false, false, false, false, false, false, false, false, false, false] from rfl) (yv_pv rfl) ?_
              refine sxb_takeP 5 (.bool (decide (0 ≤ x216))) rfl rfl rfl rfl (by kernel_rfl) (by kernel_rfl) (by kernel_rfl) (by kernel_rfl) (by kernel_rfl) rfl (show _ = #[true, true, true, true, true, true, false, false, false, false, false, false, false, false, false, false, false, false, false, false, false, false, false, false, false, false, false, false, false, false, false, false, false, false, false, false, false, false] from rfl) (yv_pv rfl) ?_
              refine sxb_again (d := 60) (v := .bool false) rfl (by rw [h220] <;> rfl) ?_
              refine sxb_skip 6 rfl rfl rfl rfl (by kernel_rfl) (by kernel_rfl) (by kernel_rfl) (by kernel_rfl) (by kernel_rfl) rfl (show _ = #[true, true, true, true, true, true, true, false, false, false, false, false, false, false, false, false, false, false, false, false, false, false, false, false, false, false, false, false, false, false, false, false, false, false, false, false, false, false] from rfl) ?_
              refine sxb_skip 7 rfl rfl rfl rfl (by kernel_rfl) (by kernel_rfl) (by kernel_rfl) (by kernel_rfl) (by kernel_rfl) rfl (show _ = #[true, true, true, true, true, true, true, true, false, false, false, false, false, false, false, false, false, false, false, false, false, false, false, false, false, false, false, false, false, false, false, false, false, false, false, false, false, false] from rfl) ?_
              refine sxb_skip 8 rfl rfl rfl rfl (by kernel_rfl) (by kernel_rfl) (by kernel_rfl) (by kernel_rfl) (by kernel_rfl) rfl (show _ = #[true, true, true, true, true, true, true, true, true, false, false, false, false, false, false, false, false, false, false, false, false, false, false, false, false, false, false, false, false, false, false, false, false, false, false, false, false, false] from rfl) ?_
              refine sxb_skip 9 rfl rfl rfl rfl (by kernel_rfl) (by kernel_rfl) (by kernel_rfl) (by kernel_rfl) (by kernel_rfl) rfl (show _ = #[true, true, true, true, true, true, true, true, true, true, false, false, false, false, false, false, false, false, false, false, false, false, false, false, false, false, false, false, false, false, false, false, false, false, false, false, false, false] from rfl) ?_
              refine sxb_skip 10 rfl rfl rfl rfl (by kernel_rfl) (by kernel_rfl) (by kernel_rfl) (by kernel_rfl) (by kernel_rfl) rfl (show _ = #[true, true, true, true, true, true, true, true, true, true, true, false, false, false, false, false, false, false, false, false, false, false, false, false, false, false, false, false, false, false, false, false, false, false, false, false, false, false] from rfl) ?_
              refine sxb_skip 11 rfl rfl rfl rfl (by kernel_rfl) (by kernel_rfl) (by kernel_rfl) (by kernel_rfl) (by kernel_rfl) rfl (show _ = #[true, true, true, true, true, true, true, true, true, true, true, true, false, false, false, false, false, false, false, false, false, false, false, false, false, false, false, false, false, false, false, false, false, false, false, false, false, false] from rfl) ?_
              refine sxb_skip 12 rfl rfl rfl rfl (by kernel_rfl) (by kernel_rfl) (by kernel_rfl) (by kernel_rfl) (by kernel_rfl) rfl (show _ = #[true, true, true, true, true, true, true, true, true, true, true, true, true, false, false, false, false, false, false, false, false, false, false, false, false, false, false, false, false, false, false, false, false, false, false, false, false, false] from rfl) ?_
              refine sxb_skip 13 rfl rfl rfl rfl (by kernel_rfl) (by kernel_rfl) (by kernel_rfl) (by kernel_rfl) (by kernel_rfl) rfl (show _ = #[true, true, true, true, true, true, true, true, true, true, true, true, true, true, false, false, false, false, false, false, false, false, false, false, false, false, false, false, false, false, false, false, false, false, false, false, false, false] from rfl) ?_
              refine sxb_skip 14 rfl rfl rfl rfl (by kernel_rfl) (by kernel_rfl) (by kernel_rfl) (by kernel_rfl) (by kernel_rfl) rfl (show _ = #[true, true, true, true, true, true, true, true, true, true, true, true, true, true, true, false, false, false, false, false, false, false, false, false, false, false, false, false, false, false, false, false, false, false, false, false, false, false] from rfl) ?_
              refine sxb_takeP 15 (.bool false) rfl rfl rfl rfl (by kernel_rfl) (by kernel_rfl) (by kernel_rfl) (by kernel_rfl) (by kernel_rfl) rfl (show _ = #[true, true, true, true, true, true, true, true, true, true, true, true, true, true, true, true, false, false, false, false, false, false, false, false, false, false, false, false, false, false, false, false, false, false, false, false, false, false] from rfl) (yv_pv rfl) ?_
              refine sxb_takeP 16 (.bool false) rfl rfl rfl rfl (by kernel_rfl) (by kernel_rfl) (by kernel_rfl) (by kernel_rfl) (by kernel_rfl) rfl (show _ = #[true, true, true, true, true, true, true, true, true, true, true, true, true, true, true, true, true, false, false, false, false, false, false, false, false, false, false, false, false, false, false, false, false, false, false, false, false, false] from rfl) (yv_pv rfl) ?_
              refine sxb_takeP 17 (.slice a8 x7.1.length c9) rfl rfl rfl rfl (by kernel_rfl) (by kernel_rfl) (by kernel_rfl) (by kernel_rfl) (by kernel_rfl) rfl (show _ = #[true, true, true, true, true, true, true, true, true, true, true, true, true, true, true, true, true, true, false, false, false, false, false, false, false, false, false, false, false, false, false, false, false, false, false, false, false, false] from rfl) (yv_pv rfl) ?_
              refine sxb_takeP 18 (.int .i64 x5) rfl rfl rfl rfl (by kernel_rfl) (by kernel_rfl) (by kernel_rfl) (by kernel_rfl) (by kernel_rfl) rfl (show _ = #[true, true, true, true, true, true, true, true, true, true, true, true, true, true, true, true, true, true, true, false, false, false, false, false, false, false, false, false, false, false, false, false, false, false, false, false, false, false] from rfl) (yv_pv rfl) ?_
              refine sxb_again (d := 72) (v := .slice (some ⟨g248, 0, none⟩) x7.1.length c9) rfl (by rw [h249] <;> rfl) ?_
              refine sxb_takeP 19 (.pointer (some ⟨g248, x5.toNat * 1, none⟩)) rfl rfl rfl rfl (by kernel_rfl) (by kernel_rfl) (by kernel_rfl) (by kernel_rfl) (by kernel_rfl) rfl (show _ = #[true, true, true, true, true, true, true, true, true, true, true, true, true, true, true, true, true, true, true, true, false, false, false, false, false, false, false, false, false, false, false, false, false, false, false, false, false, false] from rfl) (yv_idxO Try.underlying25 tf3 rfl rfl (idx_get e247).1 (idx_lt e247)) ?_
              refine sxb_again (d := 72) (v := .slice a8 x7.1.length c9) rfl (by rw [h249] <;> rfl) ?_
              refine sxb_take 20 (.int .i64 x247) [] rfl rfl rfl rfl (by kernel_rfl) (by kernel_rfl) (by kernel_rfl) (by kernel_rfl) (by kernel_rfl) (by kernel_rfl) rfl (show _ = #[true, true, true, true, true, true, true, true, true, true, true, true, true, true, true, true, true, true, true, true, true, false, false, false, false, false, false, false, false, false, false, false, false, false, false, false, false, false] from rfl) (yv_loadF (j := 2) rfl tf3 rfl rfl (fun _ => rfl) rfl) ?_
              refine sxb_takeP 21 (.int .i64 x5) rfl rfl rfl rfl (by kernel_rfl) (by kernel_rfl) (by kernel_rfl) (by kernel_rfl) (by kernel_rfl) rfl (show _ = #[true, true, true, true, true, true, true, true, true, true, true, true, true, true, true, true, true, true, true, true, true, true, false, false, false, false, false, false, false, false, false, false, false, false, false, false, false, false] from rfl) (yv_pv rfl) ?_
              refine sxb_takeP 22 (.bool (decide (x5 < x247))) rfl rfl rfl rfl (by kernel_rfl) (by kernel_rfl) (by kernel_rfl) (by kernel_rfl) (by kernel_rfl) rfl (show _ = #[true, true, true, true, true, true, true, true, true, true, true, true, true, true, true, true, true, true, true, true, true, true, true, false, false, false, false, false, false, false, false, false, false, false, false, false, false, false] from rfl) (yv_pv rfl) ?_
              refine sxb_takeP 23 (.bool (decide (x5 < x247))) rfl rfl rfl rfl (by kernel_rfl) (by kernel_rfl) (by kernel_rfl) (by kernel_rfl) (by kernel_rfl) rfl (show _ = #[true, true, true, true, true, true, true, true, true, true, true, true, true, true, true, true, true, true, true, true, true, true, true, true, false, false, false, false, false, false, false, false, false, false, false, false, false, false] from rfl) (yv_pv rfl) ?_
              refine sxb_takeP 24 (.bool (decide (x5 < x247))) rfl rfl rfl rfl (by kernel_rfl) (by kernel_rfl) (by kernel_rfl) (by kernel_rfl) (by kernel_rfl) rfl (show _ = #[true, true, true, true, true, true, true, true, true, true, true, true, true, true, true, true, true, true, true, true, true, true, true, true, true, false, false, false, false, false, false, false, false, false, false, false, false, false] from rfl) (yv_pv rfl) ?_
              refine sxb_again (d := 79) (v := .bool false) rfl (by rw [h251] <;> rfl) ?_
              refine sxb_takeP 25 (.slice a8 x7.1.length c9) rfl rfl rfl rfl (by kernel_rfl) (by kernel_rfl) (by kernel_rfl) (by kernel_rfl) (by kernel_rfl) rfl (show _ = #[true, true, true, true, true, true, true, true, true, true, true, true, true, true, true, true, true, true, true, true, true, true, true, true, true, true, false, false, false, false, false, false, false, false, false, false, false, false] from rfl) (yv_pv rfl) ?_
              refine sxb_takeP 26 (.slice a8 x7.1.length c9) rfl rfl rfl rfl (by kernel_rfl) (by kernel_rfl) (by kernel_rfl) (by kernel_rfl) (by kernel_rfl) rfl (show _ = #[true, true, true, true, true, true, true, true, true, true, true, true, true, true, true, true, true, true, true, true, true, true, true, true, true, true, true, false, false, false, false, false, false, false, false, false, false, false] from rfl) (yv_pv rfl) ?_
              refine sxb_takeP 27 (.int .i64 x5) rfl rfl rfl rfl (by kernel_rfl) (by kernel_rfl) (by kernel_rfl) (by kernel_rfl) (by kernel_rfl) rfl (show _ = #[true, true, true, true, true, true, true, true, true, true, true, true, true, true, true, true, true, true, true, true, true, true, true, true, true, true, true, true, false, false, false, false, false, false, false, false, false, false] from rfl) (yv_pv rfl) ?_
              refine sxb_again (d := 81) (v := .slice (some ⟨g253, 0, none⟩) x7.1.length c9) rfl (by rw [h254] <;> rfl) ?_
              refine sxb_takeP 28 (.pointer (some ⟨g253, x5.toNat * 1, none⟩)) rfl rfl rfl rfl (by kernel_rfl) (by kernel_rfl) (by kernel_rfl) (by kernel_rfl) (by kernel_rfl) rfl (show _ = #[true, true, true, true, true, true, true, true, true, true, true, true, true, true, true, true, true, true, true, true, true, true, true, true, true, true, true, true, true, false, false, false, false, false, false, false, false, false] from rfl) (yv_idxO Try.underlying25 tf3 rfl rfl (idx_get e252).1 (idx_lt e252)) ?_
              refine sxb_again (d := 81) (v := .slice a8 x7.1.length c9) rfl (by rw [h254] <;> rfl) ?_
              refine sxb_take 29 (.int .i64 x252) [] rfl rfl rfl rfl (by kernel_rfl) (by kernel_rfl) (by kernel_rfl) (by kernel_rfl) (by kernel_rfl) (by kernel_rfl) rfl (show _ = #[true, true, true, true, true, true, true, true, true, true, true, true, true, true, true, true, true, true, true, true, true, true, true, true, true, true, true, true, true, true, false, false, false, false, false, false, false, false] from rfl) (yv_loadF (j := 3) rfl tf3 rfl rfl (fun _ => rfl) rfl) ?_
              refine sxb_again (d := 80) (v := .slice (some ⟨g257, 0, none⟩) x7.1.length c9) rfl (by rw [h258] <;> rfl) ?_
              refine sxb_takeP 30 (.pointer (some ⟨g257, x252.toNat * 1, none⟩)) rfl rfl rfl rfl (by kernel_rfl) (by kernel_rfl) (by kernel_rfl) (by kernel_rfl) (by kernel_rfl) rfl (show _ = #[true, true, true, true, true, true, true, true, true, true, true, true, true, true, true, true, true, true, true, true, true, true, true, true, true, true, true, true, true, true, true, false, false, false, false, false, false, false] from rfl) (yv_idxO Try.underlying25 tf3 rfl rfl (idx_get e256).1 (idx_lt e256)) ?_
              refine sxb_again (d := 80) (v := .slice a8 x7.1.length c9) rfl (by rw [h258] <;> rfl) ?_
              refine sxb_take 31 (.int .i64 x256) [] rfl rfl rfl rfl (by kernel_rfl) (by kernel_rfl) (by kernel_rfl) (by kernel_rfl) (by kernel_rfl) (by kernel_rfl) rfl (show _ = #[true, true, true, true, true, true, true, true, true, true, true, true, true, true, true, true, true, true, true, true, true, true, true, true, true, true, true, true, true, true, true, true, false, false, false, false, false, false] from rfl) (yv_loadF (j := 4) rfl tf3 rfl rfl (fun _ => rfl) rfl) ?_
              refine sxb_takeP 32 (.slice a8 x7.1.length c9) rfl rfl rfl rfl (by kernel_rfl) (by kernel_rfl) (by kernel_rfl) (by kernel_rfl) (by kernel_rfl) rfl (show _ = #[true, true, true, true, true, true, true, true, true, true, true, true, true, true, true, true, true, true, true, true, true, true, true, true, true, true, true, true, true, true, true, true, true, false, false, false, false, false] from rfl) (yv_pv rfl) ?_
              refine sxb_takeP 33 (.int .i64 x5) rfl rfl rfl rfl (by kernel_rfl) (by kernel_rfl) (by kernel_rfl) (by kernel_rfl) (by kernel_rfl) rfl (show _ = #[true, true, true, true, true, true, true, true, true, true, true, true, true, true, true, true, true, true, true, true, true, true, true, true, true, true, true, true, true, true, true, true, true, true, false, false, false, false] from rfl) (yv_pv rfl) ?_
              refine sxb_again (d := 87) (v := .slice (some ⟨g261, 0, none⟩) x7.1.length c9) rfl (by rw [h262] <;> rfl) ?_
              refine sxb_takeP 34 (.pointer (some ⟨g261, x5.toNat * 1, none⟩)) rfl rfl rfl rfl (by kernel_rfl) (by kernel_rfl) (by kernel_rfl) (by kernel_rfl) (by kernel_rfl) rfl (show _ = #[true, true, true, true, true, true, true, true, true, true, true, true, true, true, true, true, true, true, true, true, true, true, true, true, true, true, true, true, true, true, true, true, true, true, true, false, false, false] from rfl) (yv_idxO Try.underlying25 tf3 rfl rfl (idx_get e260).1 (idx_lt e260)) ?_
              refine sxb_again (d := 87) (v := .slice a8 x7.1.length c9) rfl (by rw [h262] <;> rfl) ?_
              refine sxb_take 35 (.int .i64 x260) [] rfl rfl rfl rfl (by kernel_rfl) (by kernel_rfl) (by kernel_rfl) (by kernel_rfl) (by kernel_rfl) (by kernel_rfl) rfl (show _ = #[true, true, true, true, true, true, true, true, true, true, true, true, true, true, true, true, true, true, true, true, true, true, true, true, true, true, true, true, true, true, true, true, true, true, true, true, false, false] from rfl) (yv_loadF (j := 5) rfl tf3 rfl rfl (fun _ => rfl) rfl) ?_
              refine sxb_takeP 36 (.bool ((x256 : Int) != x260)) rfl rfl rfl rfl (by kernel_rfl) (by kernel_rfl) (by kernel_rfl) (by kernel_rfl) (by kernel_rfl) rfl (show _ = #[true, true, true, true, true, true, true, true, true, true, true, true, true, true, true, true, true, true, true, true, true, true, true, true, true, true, true, true, true, true, true, true, true, true, true, true, true, false] from rfl) (yv_pv rfl) ?_
              refine sxb_takeP 37 (.bool ((x256 : Int) != x260)) rfl rfl rfl rfl (by kernel_rfl) (by kernel_rfl) (by kernel_rfl) (by kernel_rfl) (by kernel_rfl) rfl (show _ = #[true, true, true, true, true, true, true, true, true, true, true, true, true, true, true, true, true, true, true, true, true, true, true, true, true, true, true, true, true, true, true, true, true, true, true, true, true, true] from rfl) (yv_pv rfl) ?_
              refine sxb_done (by kernel_rfl) ?_
              refine sxq_np ?_ (by intro c h; cases h)
              exact sxq_meetP (((x256 : Int) != x260), ()) (lk_cons rfl (lk_cons rfl (lk_cons rfl (lk_cons rfl (lk_cons rfl lk_nil))))) (.cons 0 rfl .nil) (.cons 0 rfl .nil) (fk_cons 0 rfl fk_nil)
        · rintro ⟨x178, _⟩
          try dsimp only
          refine sxc_if rfl (fun h215 => ?_) (fun h215 => ?_)
          · refine sxc_seq ?_
            refine sxc_region ?_
            refine sxo_assign rfl rfl rfl ?_
            refine sxo_nil ?_
            refine sxq_next ?_
            refine sxc_ret ?_
            refine sxq_thenR ?_
            exact sxq_doneP () (.inl rfl) (res1 rfl rfl) (fun h => by subst h; rfl) (fun h => by subst h; exact .nil)
          · refine sxc_skip ?_
            refine sxq_next ?_
            refine sxc_seq ?_
            refine sxc_region ?_
            refine sxo_loadB (i := 0) rfl rfl tf24 rfl rfl (by simp) rfl rfl ?_
            refine sxo_call ent26 rfl rfl rfl (fun x179 e179 => C_graph_Both F x1 a2 c3 x179 e179) (.consF 0 rfl .nil) (fun x179 e179 => ?_)
            rintro ⟨a180, c181⟩
            refine sxo_move rfl rfl rfl ?_
            refine sxo_extract rfl rfl rfl rfl ?_
            refine sxo_extract rfl rfl rfl rfl ?_
            refine sxo_alloc rfl tf24 rfl (fun g182 => ?_)
            refine sxo_storeB (i := 0) rfl rfl rfl tf24 rfl rfl rfl rfl rfl ?_
            refine sxo_assign rfl rfl rfl ?_
            refine sxo_nil ?_
            refine sxq_next ?_
            refine sxc_seq ?_
            refine sxc_seq ?_
            refine sxc_region ?_
            refine sxo_move rfl rfl rfl ?_
            refine sxo_neq rfl rfl rfl rfl ?_
            refine sxo_nil ?_
            refine sxq_next ?_
            refine sxc_if rfl (fun h214 => ?_) (fun h214 => ?_)
            · refine sxc_seq ?_
              refine sxc_region ?_
              refine sxo_move rfl rfl rfl ?_
              refine sxo_eql rfl rfl rfl rfl ?_
              refine sxo_assign rfl rfl rfl ?_
              refine sxo_nil ?_
              refine sxq_next ?_
              refine sxc_ret ?_
              refine sxq_thenR ?_
              exact sxq_doneP () (.inl rfl) (res1 rfl rfl) (fun h => by subst h; rfl) (fun h => by subst h; exact .nil)
            · refine sxc_skip ?_
              refine sxq_next ?_
              refine sxc_seq ?_
              refine sxc_region ?_
              refine sxo_loadB (i := 0) rfl rfl tf24 rfl rfl (by simp) rfl rfl ?_
              refine sxo_move rfl rfl rfl ?_
              refine sxo_call ent10 rfl rfl rfl (fun x184 e184 => C_walk_Far F x179.1 a180 c181 x4 x184 e184) (.consG 0 rfl (nest_sl rN25_in) .nil) (fun x184 e184 => ?_)
              rintro ⟨a185, c186⟩
              refine sxo_move rfl rfl rfl ?_
              refine sxo_extract rfl rfl rfl rfl ?_
              refine sxo_extract rfl rfl rfl rfl ?_
              refine sxo_assign rfl rfl rfl ?_
              refine sxo_assign rfl rfl rfl ?_
              refine sxo_nil ?_
              refine sxq_next ?_
              refine sxc_join (fun ((x200, _) : (Bool × Unit)) => [(6, .bool x200)]) (fun ((x200, _) : (Bool × Unit)) => []) (fun ((x200, _) : (Bool × Unit)) => []) (fun ((x200, _) : (Bool × Unit)) => []) (fun ((x200, _) : (Bool × Unit)) => M_L_WalkParts_j5 F x200) ?_ ?_
              · refine sxc_split (fun h201 => ?_) (fun h201 => ?_)
                · refine sxc_idxO (j := 0) rfl (fun x202 e202 g203 h204 => ?_)
                  replace h204 : a185 = some ⟨g203, 0, none⟩ := h204
                  have h205 := own_of (k := x184.1.length) (c := c186) h204
                  refine sxc_idxO (j := 2) rfl (fun x206 e206 g207 h208 => ?_)
                  replace h208 : a8 = some ⟨g207, 0, none⟩ := h208
                  have h209 := own_of (k := x7.1.length) (c := c9) h208
                  refine sxc_idxO (j := 2) rfl (fun x210 e210 g211 h212 => ?_)
                  replace h212 : a8 = some ⟨g211, 0, none⟩ := h212
                  have h213 := own_of (k := x7.1.length) (c := c9) h212
                  refine sxb_draw mixed [] [⟨g182, 24, [.slice a180 x179.1.length c181.1]⟩, ⟨g6, 24, [.slice a2 x1.length c3.1]⟩] [SlN eN25 iN25 1 (.slice a2 x1.length c3.1) x1 c3.2, CellsAt g203 (x5.toNat * 1) ((eI .i64) x202), CellsAt g207 (x4.toNat * 1) ((eI .i64) x206), CellsAt g211 (x5.toNat * 1) ((eI .i64) x210)] (.cons 0 rfl (.cons 0 rfl .nil)) (gk_F 0 rfl (gk_R 0 rfl (at_row (eI_ok .i64) e202 h204) (gk_R 2 rfl (at_row (eI_ok .i64) e206 h208) (gk_R 2 rfl (at_row (eI_ok .i64) e210 h212) gk_nil)))) 20 rfl ?_
                  refine sxb_takeP 0 (.int .i64 x184.2) rfl rfl rfl rfl (by kernel_rfl) (by kernel_rfl) (by kernel_rfl) (by kernel_rfl) (by kernel_rfl) rfl (show _ = #[true, false, false, false, false, false, false, false, false, false, false, false, false, false, false, false, false, false, false, false] from rfl) (yv_pv rfl) ?_
                  refine sxb_takeP 1 (.bool ((x184.2 : Int) == 0)) rfl rfl rfl rfl (by kernel_rfl) (by kernel_rfl) (by kernel_rfl) (by kernel_rfl) (by kernel_rfl) rfl (show _ = #[true, true, false, false, false, false, false, false, false, false, false, false, false, false, false, false, false, false, false, false] from rfl) (yv_pv rfl) ?_
                  refine sxb_takeP 2 (.bool ((x184.2 : Int) == 0)) rfl rfl rfl rfl (by kernel_rfl) (by kernel_rfl) (by kernel_rfl) (by kernel_rfl) (by kernel_rfl) rfl (show _ = #[true, true, true, false, false, false, false, false, false, false, false, false, false, false, false, false, false, false, false, false] from rfl) (yv_pv rfl) ?_
                  refine sxb_again (d := 110) (v := .bool true) rfl (by rw [h201] <;> rfl) ?_
                  refine sxb_takeP 3 (.slice a185 x184.1.length c186) rfl rfl rfl rfl (by kernel_rfl) (by kernel_rfl) (by kernel_rfl) (by kernel_rfl) (by kernel_rfl) rfl (show _ = #[true, true, true, true, false, false, false, false, false, false, false, false, false, false, false, false, false, false, false, false] from rfl) (yv_pv rfl) ?_
                  refine sxb_takeP 4 (.int .i64 x5) rfl rfl rfl rfl (by kernel_rfl) (by kernel_rfl) (by kernel_rfl) (by kernel_rfl) (by kernel_rfl) rfl (show _ = #[true, true, true, true, true, false, false, false, false, false, false, false, false, false, false, false, false, false, false, false] from rfl) (yv_pv rfl) ?_
                  refine sxb_again (d := 111) (v := .slice (some ⟨g203, 0, none⟩) x184.1.length c186) rfl (by rw [h204] <;> rfl) ?_
                  refine sxb_takeP 5 (.pointer (some ⟨g203, x5.toNat * 1, none⟩)) rfl rfl rfl rfl (by kernel_rfl) (by kernel_rfl) (by kernel_rfl) (by kernel_rfl) (by kernel_rfl) rfl (show _ = #[true, true, true, true, true, true, false, false, false, false, false, false, false, false, false, false, false, false, false, false] from rfl) (yv_idxO Try.underlying25 tf3 rfl rfl (idx_get e202).1 (idx_lt e202)) ?_
                  refine sxb_again (d := 111) (v := .slice a185 x184.1.length c186) rfl (by rw [h204] <;> rfl) ?_
                  refine sxb_take 6 (.int .i64 x202) [] rfl rfl rfl rfl (by kernel_rfl) (by kernel_rfl) (by kernel_rfl) (by kernel_rfl) (by kernel_rfl) (by kernel_rfl) rfl (show _ = #[true, true, true, true, true, true, true, false, false, false, false, false, false, false, false, false, false, false, false, false] from rfl) (yv_loadF (j := 1) rfl tf3 rfl rfl (fun _ => rfl) rfl) ?_
                  refine sxb_takeP 7 (.bool (decide (0 ≤ x202))) rfl rfl rfl rfl (by kernel_rfl) (by kernel_rfl) (by kernel_rfl) (by kernel_rfl) (by kernel_rfl) rfl (show _ = #[true, true, true, true, true, true, true, true, false, false, false, false, false, false, false, false, false, false, false, false] from rfl) (yv_pv rfl) ?_
                  refine sxb_takeP 8 (.slice a8 x7.1.length c9) rfl rfl rfl rfl (by kernel_rfl) (by kernel_rfl) (by kernel_rfl) (by kernel_rfl) (by kernel_rfl) rfl (show _ = #[true, true, true, true, true, true, true, true, true, false, false, false, false, false, false, false, false, false, false, false] from rfl) (yv_pv rfl) ?_
                  refine sxb_takeP 9 (.int .i64 x4) rfl rfl rfl rfl (by kernel_rfl) (by kernel_rfl) (by kernel_rfl) (by kernel_rfl) (by kernel_rfl) rfl (show _ = #[true, true, true, true, true, true, true, true, true, true, false, false, false, false, false, false, false, false, false, false] from rfl) (yv_pv rfl) ?_
                  refine sxb_again (d := 116) (v := .slice (some ⟨g207, 0, none⟩) x7.1.length c9) rfl (by rw [h208] <;> rfl) ?_
                  refine sxb_takeP 10 (.pointer (some ⟨g207, x4.toNat * 1, none⟩)) rfl rfl rfl rfl (by kernel_rfl) (by kernel_rfl) (by kernel_rfl) (by kernel_rfl) (by kernel_rfl) rfl (show _ = #[true, true, true, true, true, true, true, true, true, true, true, false, false, false, false, false, false, false, false, false] from rfl) (yv_idxO Try.underlying25 tf3 rfl rfl (idx_get e206).1 (idx_lt e206)) ?_
                  refine sxb_again (d := 116) (v := .slice a8 x7.1.length c9) rfl (by rw [h208] <;> rfl) ?_
                  refine sxb_take 11 (.int .i64 x206) [] rfl rfl rfl rfl (by kernel_rfl) (by kernel_rfl) (by kernel_rfl) (by kernel_rfl) (by kernel_rfl) (by kernel_rfl) rfl (show _ = #[true, true, true, true, true, true, true, true, true, true, true, true, false, false, false, false, false, false, false, false] from rfl) (yv_loadF (j := 2) rfl tf3 rfl rfl (fun _ => rfl) rfl) ?_
                  refine sxb_takeP 12 (.slice a8 x7.1.length c9) rfl rfl rfl rfl (by kernel_rfl) (by kernel_rfl) (by kernel_rfl) (by kernel_rfl) (by kernel_rfl) rfl (show _ = #[true, true, true, true, true, true, true, true, true, true, true, true, true, false, false, false, false, false, false, false] from rfl) (yv_pv rfl) ?_
                  refine sxb_takeP 13 (.int .i64 x5) rfl rfl rfl rfl (by kernel_rfl) (by kernel_rfl) (by kernel_rfl) (by kernel_rfl) (by kernel_rfl) rfl (show _ = #[true, true, true, true, true, true, true, true, true, true, true, true, true, true, false, false, false, false, false, false] from rfl) (yv_pv rfl) ?_
                  refine sxb_again (d := 120) (v := .slice (some ⟨g211, 0, none⟩) x7.1.length c9) rfl (by rw [h212] <;> rfl) ?_
                  refine sxb_takeP 14 (.pointer (some ⟨g211, x5.toNat * 1, none⟩)) rfl rfl rfl rfl (by kernel_rfl) (by kernel_rfl) (by kernel_rfl) (by kernel_rfl) (by kernel_rfl) rfl (show _ = #[true, true, true, true, true, true, true, true, true, true, true, true, true, true, true, false, false, false, false, false] from rfl) (yv_idxO Try.underlying25 tf3 rfl rfl (idx_get e210).1 (idx_lt e210)) ?_
                  refine sxb_again (d := 120) (v := .slice a8 x7.1.length c9) rfl (by rw [h212] <;> rfl) ?_
                  refine sxb_take 15 (.int .i64 x210) [] rfl rfl rfl rfl (by kernel_rfl) (by kernel_rfl) (by kernel_rfl) (by kernel_rfl) (by kernel_rfl) (by kernel_rfl) rfl (show _ = #[true, true, true, true, true, true, true, true, true, true, true, true, true, true, true, true, false, false, false, false] from rfl) (yv_loadF (j := 3) rfl tf3 rfl rfl (fun _ => rfl) rfl) ?_
                  refine sxb_takeP 16 (.bool ((x206 : Int) == x210)) rfl rfl rfl rfl (by kernel_rfl) (by kernel_rfl) (by kernel_rfl) (by kernel_rfl) (by kernel_rfl) rfl (show _ = #[true, true, true, true, true, true, true, true, true, true, true, true, true, true, true, true, true, false, false, false] from rfl) (yv_pv rfl) ?_
                  refine sxb_step 17 rfl (by kernel_rfl) (show _ = #[true, true, true, true, true, true, true, true, true, true, true, true, true, true, true, true, true, true, false, false] from rfl) ?_
                  refine sxo_eqb rfl Try.underlying4 rfl rfl rfl ?_
                  refine sxo_nil ?_
                  refine sxq_anyB (.cons 0 rfl (.cons 0 rfl .nil)) (gk_F 0 rfl (gk_R 0 rfl (at_row (eI_ok .i64) e202 h204) (gk_R 2 rfl (at_row (eI_ok .i64) e206 h208) (gk_R 2 rfl (at_row (eI_ok .i64) e210 h212) gk_nil)))) ?_
                  refine sxb_takeP 18 (.bool ((decide (0 ≤ x202)) == ((x206 : Int) == x210))) rfl rfl rfl rfl (by kernel_rfl) (by kernel_rfl) (by kernel_rfl) (by kernel_rfl) (by kernel_rfl) rfl (show _ = #[true, true, true, true, true, true, true, true, true, true, true, true, true, true, true, true, true, true, true, false] from rfl) (yv_pv rfl) ?_
                  refine sxb_takeP 19 (.bool ((decide (0 ≤ x202)) == ((x206 : Int) == x210))) rfl rfl rfl rfl (by kernel_rfl) (by kernel_rfl) (by kernel_rfl) (by kernel_rfl) (by kernel_rfl) rfl (show _ = #[true, true, true, true, true, true, true, true, true, true, true, true, true, true, true, true, true, true, true, true] from rfl) (yv_pv rfl) ?_
                  refine sxb_done (by kernel_rfl) ?_
                  refine sxq_np ?_ (by intro c h; cases h)
                  exact sxq_meetP (((decide (0 ≤ x202)) == ((x206 : Int) == x210)), ()) (lk_cons rfl lk_nil) .nil .nil fk_nil
                · refine sxb_draw mixed [] [⟨g182, 24, [.slice a180 x179.1.length c181.1]⟩, ⟨g6, 24, [.slice a2 x1.length c3.1]⟩] [SlN eN25 iN25 1 (.slice a2 x1.length c3.1) x1 c3.2] (.cons 0 rfl (.cons 0 rfl .nil)) (gk_F 0 rfl gk_nil) 20 rfl ?_
                  refine sxb_takeP 0 (.int .i64 x184.2) rfl rfl rfl rfl (by kernel_rfl) (by kernel_rfl) (by kernel_rfl) (by kernel_rfl) (by kernel_rfl) rfl (show _ = #[true, false, false, false, false, false, false, false, false, false, false, false, false, false, false, false, false, false, false, false] from rfl) (yv_pv rfl) ?_
                  refine sxb_takeP 1 (.bool ((x184.2 : Int) == 0)) rfl rfl rfl rfl (by kernel_rfl) (by kernel_rfl) (by kernel_rfl) (by kernel_rfl) (by kernel_rfl) rfl (show _ = #[true, true, false, false, false, false, false, false, false, false, false, false, false, false, false, false, false, false, false, false] from rfl) (yv_pv rfl) ?_
                  refine sxb_takeP 2 (.bool ((x184.2 : Int) == 0)) rfl rfl rfl rfl (by kernel_rfl) (by kernel_rfl) (by kernel_rfl) (by kernel_rfl) (by kernel_rfl) rfl (show _ = #[true, true, true, false, false, false, false, false, false, false, false, false, false, false, false, false, false, false, false, false] from rfl) (yv_pv rfl) ?_
                  refine sxb_again (d := 110) (v := .bool false) rfl (by rw [h201] <;> rfl) ?_
                  refine sxb_skip 3 rfl rfl rfl rfl (by kernel_rfl) (by kernel_rfl) (by kernel_rfl) (by kernel_rfl) (by kernel_rfl) rfl (show _ = #[true, true, true, true, false, false, false, false, false, false, false, false, false, false, false, false, false, false, false, false] from rfl) ?_
                  refine sxb_skip 4 rfl rfl rfl rfl (by kernel_rfl) (by kernel_rfl) (by kernel_rfl) (by kernel_rfl) (by kernel_rfl) rfl (show _ = #[true, true, true, true, true, false, false, false, false, false, false, false, false, false, false, false, false, false, false, false] from rfl) ?_
                  refine sxb_skip 5 rfl rfl rfl rfl (by kernel_rfl) (by kernel_rfl) (by kernel_rfl) (by kernel_rfl) (by kernel_rfl) rfl (show _ = #[true, true, true, true, true, true, false, false, false, false, false, false, false, false, false, false, false, false, false, false] from rfl) ?_
                  refine sxb_skip 6 rfl rfl rfl rfl (by kernel_rfl) (by kernel_rfl) (by kernel_rfl) (by kernel_rfl) (by kernel_rfl) rfl (show _ = #[true, true, true, true, true, true, true, false, false, false, false, false, false, false, false, false, false, false, false, false] from rfl) ?_
                  refine sxb_skip 7 rfl rfl rfl rfl (by kernel_rfl) (by kernel_rfl) (by kernel_rfl) (by kernel_rfl) (by kernel_rfl) rfl (show _ = #[true, true, true, true, true, true, true, true, false, false, false, false, false, false, false, false, false, false, false, false] from rfl) ?_
                  refine sxb_skip 8 rfl rfl rfl rfl (by kernel_rfl) (by kernel_rfl) (by kernel_rfl) (by kernel_rfl) (by kernel_rfl) rfl (show _ = #[true, true, true, true, true, true, true, true, true, false, false, false, false, false, false, false, false, false, false, false] from rfl) ?_
                  refine sxb_skip 9 rfl rfl rfl rfl (by kernel_rfl) (by kernel_rfl) (by kernel_rfl) (by kernel_rfl) (by kernel_rfl) rfl (show _ = #[true, true, true, true, true, true, true, true, true, true, false, false, false, false, false, false, false, false, false, false] from rfl) ?_
                  refine sxb_skip 10 rfl rfl rfl rfl (by kernel_rfl) (by kernel_rfl) (by kernel_rfl) (by kernel_rfl) (by kernel_rfl) rfl (show _ = #[true, true, true, true, true, true, true, true, true, true, true, false, false, false, false, false, false, false, false, false] from rfl) ?_
                  refine sxb_skip 11 rfl rfl rfl rfl (by kernel_rfl) (by kernel_rfl) (by kernel_rfl) (by kernel_rfl) (by kernel_rfl) rfl (show _ = #[true, true, true, true, true, true, true, true, true, true, true, true, false, false, false, false, false, false, false, false] from rfl) ?_
                  refine sxb_skip 12 rfl rfl rfl rfl (by kernel_rfl) (by kernel_rfl) (by kernel_rfl) (by kernel_rfl) (by kernel_rfl) rfl (show _ = #[true, true, true, true, true, true, true, true, true, true, true, true, true, false, false, false, false, false, false, false] from rfl) ?_
                  refine sxb_skip 13 rfl rfl rfl rfl (by kernel_rfl) (by kernel_rfl) (by kernel_rfl) (by kernel_rfl) (by kernel_rfl) rfl (show _ = #[true, true, true, true, true, true, true, true, true, true, true, true, true, true, false, false, false, false, false, false] from rfl) ?_
                  refine sxb_skip 14 rfl rfl rfl rfl (by kernel_rfl) (by kernel_rfl) (by kernel_rfl) (by kernel_rfl) (by kernel_rfl) rfl (show _ = #[true, true, true, true, true, true, true, true, true, true, true, true, true, true, true, false, false, false, false, false] from rfl) ?_
                  refine sxb_skip 15 rfl rfl rfl rfl (by kernel_rfl) (by kernel_rfl) (by kernel_rfl) (by kernel_rfl) (by kernel_rfl) rfl (show _ = #[true, true, true, true, true, true, true, true, true, true, true, true, true, true, true, true, false, false, false, false] from rfl) ?_
                  refine sxb_skip 16 rfl rfl rfl rfl (by kernel_rfl) (by kernel_rfl) (by kernel_rfl) (by kernel_rfl) (by kernel_rfl) rfl (show _ = #[true, true, true, true, true, true, true, true, true, true, true, true, true, true, true, true, true, false, false, false] from rfl) ?_
                  refine sxb_skip 17 rfl rfl rfl rfl (by kernel_rfl) (by kernel_rfl) (by kernel_rfl) (by kernel_rfl) (by kernel_rfl) rfl (show _ = #[true, true, true, true, true, true, true, true, true, true, true, true, true, true, true, true, true, true, false, false] from rfl) ?_
                  refine sxb_takeP 18 (.bool false) rfl rfl rfl rfl (by kernel_rfl) (by kernel_rfl) (by kernel_rfl) (by kernel_rfl) (by kernel_rfl) rfl (show _ = #[true, true, true, true, true, true, true, true, true, true, true, true, true, true, true, true, true, true, true, false] from rfl) (yv_pv rfl) ?_
                  refine sxb_takeP 19 (.bool false) rfl rfl rfl rfl (by kernel_rfl) (by kernel_rfl) (by kernel_rfl) (by kernel_rfl) (by kernel_rfl) rfl (show _ = #[true, true, true, true, true, true, true, true, true, true, true, true, true, true, true, true, true, true, true, true] from rfl) (yv_pv rfl) ?_
                  refine sxb_done (by kernel_rfl) ?_
                  refine sxq_np ?_ (by intro c h; cases h)
                  exact sxq_meetP (false, ()) (lk_cons rfl lk_nil) .nil .nil fk_nil
              · rintro ⟨x200, _⟩
                try dsimp only
                refine sxc_ret ?_
                exact sxq_doneP () (.inl rfl) (res1 rfl rfl) (fun h => by subst h; rfl) (fun h => by subst h; exact .nil)
end Go.Proofs.Ytldpjaphbikjnaa
