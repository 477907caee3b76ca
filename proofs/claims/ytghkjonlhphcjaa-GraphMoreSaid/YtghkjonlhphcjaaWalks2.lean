/- Each Go function of this seat computes what its model says, part 2. -/
import Derived.Test.YtghkjonlhphcjaaWalks
namespace Go.Proofs.Ytghkjonlhphcjaa
open Go SX
theorem C_R_SameArcs (F : Nat) (x1 : List (Int × Int)) (a2 : Option Addr) (c3 : Nat) (x4 : List (Int × Int)) (a5 : Option Addr) (c6 : Nat) (r : Bool) (hm : M_R_SameArcs F x1 x4 = some r) :
    Pure Try.prog 27 [.slice a2 x1.length c3, .slice a5 x4.length c6] [Sl eS44 2 (.slice a2 x1.length c3) x1, Sl eS44 2 (.slice a5 x4.length c6) x4] Unit (fun _ => .bool r) (fun _ => []) (fun _ => []) := by
  refine pure_of Try.func27 rfl Try.ntmps27 rfl hm (fun w => ?_)
  refine sxc_env (l' := [(0, .slice a2 x1.length c3), (1, .slice a5 x4.length c6)]) rfl ?_
  refine sxc_seq ?_
  refine sxc_region ?_
  refine sxo_assign rfl rfl rfl ?_
  refine sxo_nil ?_
  refine sxq_next ?_
  refine sxc_seq ?_
  refine sxc_seq ?_
  refine sxc_region ?_
  refine sxo_move rfl rfl rfl ?_
  refine sxo_len rfl Try.underlying25 rfl rfl ?_
  refine sxo_move rfl rfl rfl ?_
  refine sxo_len rfl Try.underlying25 rfl rfl ?_
  refine sxo_neq rfl rfl rfl rfl ?_
  refine sxo_nil ?_
  refine sxq_next ?_
  refine sxc_if rfl (fun h228 => ?_) (fun h228 => ?_)
  · refine sxc_seq ?_
    refine sxc_region ?_
    refine sxo_assign rfl rfl rfl ?_
    refine sxo_nil ?_
    refine sxq_next ?_
    refine sxc_ret ?_
    refine sxq_thenR ?_
    exact sxq_doneP () (.inl rfl) (res1 rfl rfl) (fun h => by subst h; rfl) (fun h => by subst h; exact .nil)
  · refine sxc_skip ?_
    refine sxq_next ?_
    refine sxc_join (fun ((_, _) : (Unit × Unit)) => []) (fun ((_, _) : (Unit × Unit)) => []) (fun ((_, _) : (Unit × Unit)) => []) (fun ((_, _) : (Unit × Unit)) => []) (fun ((_, _) : (Unit × Unit)) => M_R_SameArcs_j2 F) ?_ ?_
    · refine sxc_seq ?_
      refine sxc_region ?_
      refine sxo_assign rfl rfl rfl ?_
      refine sxo_nil ?_
      refine sxq_next ?_
      refine sxc_block ?_
      refine sxc_loopP (fun ((x154, _) : (Int × Unit)) => [(0, .slice a2 x1.length c3), (1, .slice a5 x4.length c6), (5, .int .i64 x154)]) (fun ((x154, _) : (Int × Unit)) => []) (fun ((x154, _) : (Int × Unit)) => []) (fun ((x154, _) : (Int × Unit)) => [Sl eS44 2 (.slice a2 x1.length c3) x1, Sl eS44 2 (.slice a5 x4.length c6) x4]) (fun k (s : (Int × Unit)) => M_R_SameArcs_l3 F x1 x4 k s.1) (0, ()) F (lk_cons rfl (lk_cons rfl (lk_cons rfl lk_nil))) .nil .nil (fk_cons 0 rfl (fk_cons 1 rfl fk_nil)) (fun _ => rfl) ?_
      intro k191
      rintro ⟨x154, _⟩
      try dsimp only
      refine sxc_meq (m' := M_R_SameArcs_b3 F x1 x4 (M_R_SameArcs_l3 F x1 x4 k191) x154) rfl ?_
      refine sxc_seq ?_
      refine sxc_seq ?_
      refine sxc_region ?_
      refine sxo_move rfl rfl rfl ?_
      refine sxo_move rfl rfl rfl ?_
      refine sxo_len rfl Try.underlying25 rfl rfl ?_
      refine sxo_lss rfl rfl rfl rfl ?_
      refine sxo_nil ?_
      refine sxq_next ?_
      refine sxc_if rfl (fun h227 => ?_) (fun h227 => ?_)
      · refine sxc_skip ?_
        refine sxq_next ?_
        refine sxc_seq ?_
        refine sxc_block ?_
        refine sxc_seq ?_
        refine sxc_idxF (j := 0) eS44_ok (by decide) rfl (fun x218 e218 b219 o220 h221 => ?_)
        replace h221 : a2 = some ⟨b219, o220, none⟩ := h221
        refine sxc_idxF (j := 2) eS44_ok (by decide) rfl (fun x222 e222 b223 o224 h225 => ?_)
        replace h225 : a5 = some ⟨b223, o224, none⟩ := h225
        refine sxb_draw mixed [] [] [CellsAt b223 (o224 + x154.toNat * 2) (eS44 x222), CellsAt b219 (o220 + x154.toNat * 2) (eS44 x218), Sl eS44 2 (.slice a2 x1.length c3) x1, Sl eS44 2 (.slice a5 x4.length c6) x4] .nil (gk_F 0 rfl (gk_F 1 rfl (gk_F 2 rfl (gk_F 3 rfl gk_nil)))) 9 rfl ?_
        refine sxb_takeP 0 (.slice a2 x1.length c3) rfl rfl rfl rfl (by kernel_rfl) (by kernel_rfl) (by kernel_rfl) (by kernel_rfl) (by kernel_rfl) rfl (show _ = #[true, false, false, false, false, false, false, false, false] from rfl) (yv_pv rfl) ?_
        refine sxb_takeP 1 (.int .i64 x154) rfl rfl rfl rfl (by kernel_rfl) (by kernel_rfl) (by kernel_rfl) (by kernel_rfl) (by kernel_rfl) rfl (show _ = #[true, true, false, false, false, false, false, false, false] from rfl) (yv_pv rfl) ?_
        refine sxb_again (d := 17) (v := .slice (some ⟨b219, o220, none⟩) x1.length c3) rfl (by rw [h221]) ?_
        refine sxb_takeP 2 (.pointer (some ⟨b219, (o220 + x154.toNat * 2), none⟩)) rfl rfl rfl rfl (by kernel_rfl) (by kernel_rfl) (by kernel_rfl) (by kernel_rfl) (by kernel_rfl) rfl (show _ = #[true, true, true, false, false, false, false, false, false] from rfl) (yv_idx Try.underlying25 tf44 rfl rfl (idx_get e218).1 (idx_lt e218)) ?_
        refine sxb_again (d := 17) (v := .slice a2 x1.length c3) rfl (by rw [h221]) ?_
        refine sxb_take 3 (.agg #[.int .i64 x218.1, .int .i64 x218.2]) [] rfl rfl rfl rfl (by kernel_rfl) (by kernel_rfl) (by kernel_rfl) (by kernel_rfl) (by kernel_rfl) (by kernel_rfl) rfl (show _ = #[true, true, true, true, false, false, false, false, false] from rfl) (yv_loadF (j := 1) rfl tf44 rfl rfl (by simp) rfl) ?_
        refine sxb_takeP 4 (.slice a5 x4.length c6) rfl rfl rfl rfl (by kernel_rfl) (by kernel_rfl) (by kernel_rfl) (by kernel_rfl) (by kernel_rfl) rfl (show _ = #[true, true, true, true, true, false, false, false, false] from rfl) (yv_pv rfl) ?_
        refine sxb_takeP 5 (.int .i64 x154) rfl rfl rfl rfl (by kernel_rfl) (by kernel_rfl) (by kernel_rfl) (by kernel_rfl) (by kernel_rfl) rfl (show _ = #[true, true, true, true, true, true, false, false, false] from rfl) (yv_pv rfl) ?_
        refine sxb_again (d := 21) (v := .slice (some ⟨b223, o224, none⟩) x4.length c6) rfl (by rw [h225]) ?_
        refine sxb_takeP 6 (.pointer (some ⟨b223, (o224 + x154.toNat * 2), none⟩)) rfl rfl rfl rfl (by kernel_rfl) (by kernel_rfl) (by kernel_rfl) (by kernel_rfl) (by kernel_rfl) rfl (show _ = #[true, true, true, true, true, true, true, false, false] from rfl) (yv_idx Try.underlying25 tf44 rfl rfl (idx_get e222).1 (idx_lt e222)) ?_
        refine sxb_again (d := 21) (v := .slice a5 x4.length c6) rfl (by rw [h225]) ?_
        refine sxb_take 7 (.agg #[.int .i64 x222.1, .int .i64 x222.2]) [] rfl rfl rfl rfl (by kernel_rfl) (by kernel_rfl) (by kernel_rfl) (by kernel_rfl) (by kernel_rfl) (by kernel_rfl) rfl (show _ = #[true, true, true, true, true, true, true, true, false] from rfl) (yv_loadF (j := 0) rfl tf44 rfl rfl (by simp) rfl) ?_
        refine sxb_takeP 8 (.bool (!(((x218.1 : Int) == x222.1) && ((x218.2 : Int) == x222.2)))) rfl rfl rfl rfl (by kernel_rfl) (by kernel_rfl) (by kernel_rfl) (by kernel_rfl) (by kernel_rfl) rfl (show _ = #[true, true, true, true, true, true, true, true, true] from rfl) (yv_neq2 rfl rfl se44) ?_
        refine sxb_done (by kernel_rfl) ?_
        refine sxq_np ?_ (by intro c h; cases h)
        refine sxq_next ?_
        refine sxc_if rfl (fun h226 => ?_) (fun h226 => ?_)
        · refine sxc_seq ?_
          refine sxc_region ?_
          refine sxo_assign rfl rfl rfl ?_
          refine sxo_nil ?_
          refine sxq_next ?_
          refine sxc_ret ?_
          refine sxq_blkR ?_
          refine sxq_thenR ?_
          refine sxq_thenR ?_
          refine sxq_blkR ?_
          refine sxq_thenR ?_
          exact sxq_doneP () (.inl rfl) (res1 rfl rfl) (fun h => by subst h; rfl) (fun h => by subst h; exact .nil)
        · refine sxc_skip ?_
          refine sxq_blkN ?_
          refine sxq_next ?_
          refine sxc_region ?_
          refine sxo_move rfl rfl rfl ?_
          refine sxo_add rfl rfl rfl rfl ?_
          refine sxo_assign rfl rfl rfl ?_
          refine sxo_nil ?_
          exact sxq_againP (iadd .i64 x154 1, ()) (lk_cons rfl (lk_cons rfl (lk_cons rfl lk_nil))) .nil .nil (fk_cons 2 rfl (fk_cons 3 rfl fk_nil))
      · refine sxc_exit ?_
        refine sxq_thenX ?_
        refine sxq_thenX ?_
        refine sxq_blkX ?_
        exact sxq_meetP ((), ()) lk_nil .nil .nil fk_nil
    · rintro ⟨_, _⟩
      try dsimp only
      refine sxc_seq ?_
      refine sxc_region ?_
      refine sxo_assign rfl rfl rfl ?_
      refine sxo_nil ?_
      refine sxq_next ?_
      refine sxc_ret ?_
      exact sxq_doneP () (.inl rfl) (res1 rfl rfl) (fun h => by subst h; rfl) (fun h => by subst h; exact .nil)

theorem C_R_SameInts (F : Nat) (x1 : List Int) (a2 : Option Addr) (c3 : Nat) (x4 : List Int) (a5 : Option Addr) (c6 : Nat) (r : Bool) (hm : M_R_SameInts F x1 x4 = some r) :
    Pure Try.prog 29 [.slice a2 x1.length c3, .slice a5 x4.length c6] [Sl (eI .i64) 1 (.slice a2 x1.length c3) x1, Sl (eI .i64) 1 (.slice a5 x4.length c6) x4] Unit (fun _ => .bool r) (fun _ => []) (fun _ => []) := by
  refine pure_of Try.func29 rfl Try.ntmps29 rfl hm (fun w => ?_)
  refine sxc_env (l' := [(0, .slice a2 x1.length c3), (1, .slice a5 x4.length c6)]) rfl ?_
  refine sxc_seq ?_
  refine sxc_region ?_
  refine sxo_assign rfl rfl rfl ?_
  refine sxo_nil ?_
  refine sxq_next ?_
  refine sxc_seq ?_
  refine sxc_seq ?_
  refine sxc_region ?_
  refine sxo_move rfl rfl rfl ?_
  refine sxo_len rfl Try.underlying32 rfl rfl ?_
  refine sxo_move rfl rfl rfl ?_
  refine sxo_len rfl Try.underlying32 rfl rfl ?_
  refine sxo_neq rfl rfl rfl rfl ?_
  refine sxo_nil ?_
  refine sxq_next ?_
  refine sxc_if rfl (fun h228 => ?_) (fun h228 => ?_)
  · refine sxc_seq ?_
    refine sxc_region ?_
    refine sxo_assign rfl rfl rfl ?_
    refine sxo_nil ?_
    refine sxq_next ?_
    refine sxc_ret ?_
    refine sxq_thenR ?_
    exact sxq_doneP () (.inl rfl) (res1 rfl rfl) (fun h => by subst h; rfl) (fun h => by subst h; exact .nil)
  · refine sxc_skip ?_
    refine sxq_next ?_
    refine sxc_join (fun ((_, _) : (Unit × Unit)) => []) (fun ((_, _) : (Unit × Unit)) => []) (fun ((_, _) : (Unit × Unit)) => []) (fun ((_, _) : (Unit × Unit)) => []) (fun ((_, _) : (Unit × Unit)) => M_R_SameInts_j2 F) ?_ ?_
    · refine sxc_seq ?_
      refine sxc_region ?_
      refine sxo_assign rfl rfl rfl ?_
      refine sxo_nil ?_
      refine sxq_next ?_
      refine sxc_block ?_
      refine sxc_loopP (fun ((x154, _) : (Int × Unit)) => [(0, .slice a2 x1.length c3), (1, .slice a5 x4.length c6), (5, .int .i64 x154)]) (fun ((x154, _) : (Int × Unit)) => []) (fun ((x154, _) : (Int × Unit)) => []) (fun ((x154, _) : (Int × Unit)) => [Sl (eI .i64) 1 (.slice a2 x1.length c3) x1, Sl (eI .i64) 1 (.slice a5 x4.length c6) x4]) (fun k (s : (Int × Unit)) => M_R_SameInts_l3 F x1 x4 k s.1) (0, ()) F (lk_cons rfl (lk_cons rfl (lk_cons rfl lk_nil))) .nil .nil (fk_cons 0 rfl (fk_cons 1 rfl fk_nil)) (fun _ => rfl) ?_
      intro k191
      rintro ⟨x154, _⟩
      try dsimp only
      refine sxc_meq (m' := M_R_SameInts_b3 F x1 x4 (M_R_SameInts_l3 F x1 x4 k191) x154) rfl ?_
      refine sxc_seq ?_
      refine sxc_seq ?_
      refine sxc_region ?_
      refine sxo_move rfl rfl rfl ?_
      refine sxo_move rfl rfl rfl ?_
      refine sxo_len rfl Try.underlying32 rfl rfl ?_
      refine sxo_lss rfl rfl rfl rfl ?_
      refine sxo_nil ?_
      refine sxq_next ?_
      refine sxc_if rfl (fun h227 => ?_) (fun h227 => ?_)
      · refine sxc_skip ?_
        refine sxq_next ?_
        refine sxc_seq ?_
        refine sxc_block ?_
        refine sxc_seq ?_
        refine sxc_idxF (j := 0) (eI_ok .i64) (by decide) rfl (fun x218 e218 b219 o220 h221 => ?_)
        replace h221 : a2 = some ⟨b219, o220, none⟩ := h221
        refine sxc_idxF (j := 2) (eI_ok .i64) (by decide) rfl (fun x222 e222 b223 o224 h225 => ?_)
        replace h225 : a5 = some ⟨b223, o224, none⟩ := h225
        refine sxb_draw mixed [] [] [CellsAt b223 (o224 + x154.toNat * 1) ((eI .i64) x222), CellsAt b219 (o220 + x154.toNat * 1) ((eI .i64) x218), Sl (eI .i64) 1 (.slice a2 x1.length c3) x1, Sl (eI .i64) 1 (.slice a5 x4.length c6) x4] .nil (gk_F 0 rfl (gk_F 1 rfl (gk_F 2 rfl (gk_F 3 rfl gk_nil)))) 9 rfl ?_
        refine sxb_takeP 0 (.slice a2 x1.length c3) rfl rfl rfl rfl (by kernel_rfl) (by kernel_rfl) (by kernel_rfl) (by kernel_rfl) (by kernel_rfl) rfl (show _ = #[true, false, false, false, false, false, false, false, false] from rfl) (yv_pv rfl) ?_
        refine sxb_takeP 1 (.int .i64 x154) rfl rfl rfl rfl (by kernel_rfl) (by kernel_rfl) (by kernel_rfl) (by kernel_rfl) (by kernel_rfl) rfl (show _ = #[true, true, false, false, false, false, false, false, false] from rfl) (yv_pv rfl) ?_
        refine sxb_again (d := 17) (v := .slice (some ⟨b219, o220, none⟩) x1.length c3) rfl (by rw [h221]) ?_
        refine sxb_takeP 2 (.pointer (some ⟨b219, (o220 + x154.toNat * 1), none⟩)) rfl rfl rfl rfl (by kernel_rfl) (by kernel_rfl) (by kernel_rfl) (by kernel_rfl) (by kernel_rfl) rfl (show _ = #[true, true, true, false, false, false, false, false, false] from rfl) (yv_idx Try.underlying32 tf3 rfl rfl (idx_get e218).1 (idx_lt e218)) ?_
        refine sxb_again (d := 17) (v := .slice a2 x1.length c3) rfl (by rw [h221]) ?_
        refine sxb_take 3 (.int .i64 x218) [] rfl rfl rfl rfl (by kernel_rfl) (by kernel_rfl) (by kernel_rfl) (by kernel_rfl) (by kernel_rfl) (by kernel_rfl) rfl (show _ = #[true, true, true, true, false, false, false, false, false] from rfl) (yv_loadF (j := 1) rfl tf3 rfl rfl (fun _ => rfl) rfl) ?_
        refine sxb_takeP 4 (.slice a5 x4.length c6) rfl rfl rfl rfl (by kernel_rfl) (by kernel_rfl) (by kernel_rfl) (by kernel_rfl) (by kernel_rfl) rfl (show _ = #[true, true, true, true, true, false, false, false, false] from rfl) (yv_pv rfl) ?_
        refine sxb_takeP 5 (.int .i64 x154) rfl rfl rfl rfl (by kernel_rfl) (by kernel_rfl) (by kernel_rfl) (by kernel_rfl) (by kernel_rfl) rfl (show _ = #[true, true, true, true, true, true, false, false, false] from rfl) (yv_pv rfl) ?_
        refine sxb_again (d := 21) (v := .slice (some ⟨b223, o224, none⟩) x4.length c6) rfl (by rw [h225]) ?_
        refine sxb_takeP 6 (.pointer (some ⟨b223, (o224 + x154.toNat * 1), none⟩)) rfl rfl rfl rfl (by kernel_rfl) (by kernel_rfl) (by kernel_rfl) (by kernel_rfl) (by kernel_rfl) rfl (show _ = #[true, true, true, true, true, true, true, false, false] from rfl) (yv_idx Try.underlying32 tf3 rfl rfl (idx_get e222).1 (idx_lt e222)) ?_
        refine sxb_again (d := 21) (v := .slice a5 x4.length c6) rfl (by rw [h225]) ?_
        refine sxb_take 7 (.int .i64 x222) [] rfl rfl rfl rfl (by kernel_rfl) (by kernel_rfl) (by kernel_rfl) (by kernel_rfl) (by kernel_rfl) (by kernel_rfl) rfl (show _ = #[true, true, true, true, true, true, true, true, false] from rfl) (yv_loadF (j := 0) rfl tf3 rfl rfl (fun _ => rfl) rfl) ?_
        refine sxb_takeP 8 (.bool ((x218 : Int) != x222)) rfl rfl rfl rfl (by kernel_rfl) (by kernel_rfl) (by kernel_rfl) (by kernel_rfl) (by kernel_rfl) rfl (show _ = #[true, true, true, true, true, true, true, true, true] from rfl) (yv_pv rfl) ?_
        refine sxb_done (by kernel_rfl) ?_
        refine sxq_np ?_ (by intro c h; cases h)
        refine sxq_next ?_
        refine sxc_if rfl (fun h226 => ?_) (fun h226 => ?_)
        · refine sxc_seq ?_
          refine sxc_region ?_
          refine sxo_assign rfl rfl rfl ?_
          refine sxo_nil ?_
          refine sxq_next ?_
          refine sxc_ret ?_
          refine sxq_blkR ?_
          refine sxq_thenR ?_
          refine sxq_thenR ?_
          refine sxq_blkR ?_
          refine sxq_thenR ?_
          exact sxq_doneP () (.inl rfl) (res1 rfl rfl) (fun h => by subst h; rfl) (fun h => by subst h; exact .nil)
        · refine sxc_skip ?_
          refine sxq_blkN ?_
          refine sxq_next ?_
          refine sxc_region ?_
          refine sxo_move rfl rfl rfl ?_
          refine sxo_add rfl rfl rfl rfl ?_
          refine sxo_assign rfl rfl rfl ?_
          refine sxo_nil ?_
          exact sxq_againP (iadd .i64 x154 1, ()) (lk_cons rfl (lk_cons rfl (lk_cons rfl lk_nil))) .nil .nil (fk_cons 2 rfl (fk_cons 3 rfl fk_nil))
      · refine sxc_exit ?_
        refine sxq_thenX ?_
        refine sxq_thenX ?_
        refine sxq_blkX ?_
        exact sxq_meetP ((), ()) lk_nil .nil .nil fk_nil
    · rintro ⟨_, _⟩
      try dsimp only
      refine sxc_seq ?_
      refine sxc_region ?_
      refine sxo_assign rfl rfl rfl ?_
      refine sxo_nil ?_
      refine sxq_next ?_
      refine sxc_ret ?_
      exact sxq_doneP () (.inl rfl) (res1 rfl rfl) (fun h => by subst h; rfl) (fun h => by subst h; exact .nil)

theorem C_R_SameLists (F : Nat) (x1 : List (List Int)) (a2 : Option Addr) (c3 : (Nat × List (Option Addr × Nat))) (x4 : List (List Int)) (a5 : Option Addr) (c6 : (Nat × List (Option Addr × Nat))) (r : Bool) (hm : M_R_SameLists F x1 x4 = some r) :
    Pure Try.prog 51 [.slice a2 x1.length c3.1, .slice a5 x4.length c6.1] [SlN eN32 iN32 1 (.slice a2 x1.length c3.1) x1 c3.2, SlN eN32 iN32 1 (.slice a5 x4.length c6.1) x4 c6.2] Unit (fun _ => .bool r) (fun _ => []) (fun _ => []) := by
  refine pure_of Try.func51 rfl Try.ntmps51 rfl hm (fun w => ?_)
  refine sxc_env (l' := [(0, .slice a2 x1.length c3.1), (1, .slice a5 x4.length c6.1)]) rfl ?_
  refine sxc_seq ?_
  refine sxc_region ?_
  refine sxo_assign rfl rfl rfl ?_
  refine sxo_nil ?_
  refine sxq_next ?_
  refine sxc_seq ?_
  refine sxc_seq ?_
  refine sxc_region ?_
  refine sxo_move rfl rfl rfl ?_
  refine sxo_len rfl Try.underlying22 rfl rfl ?_
  refine sxo_move rfl rfl rfl ?_
  refine sxo_len rfl Try.underlying22 rfl rfl ?_
  refine sxo_neq rfl rfl rfl rfl ?_
  refine sxo_nil ?_
  refine sxq_next ?_
  refine sxc_if rfl (fun h300 => ?_) (fun h300 => ?_)
  · refine sxc_seq ?_
    refine sxc_region ?_
    refine sxo_assign rfl rfl rfl ?_
    refine sxo_nil ?_
    refine sxq_next ?_
    refine sxc_ret ?_
    refine sxq_thenR ?_
    exact sxq_doneP () (.inl rfl) (res1 rfl rfl) (fun h => by subst h; rfl) (fun h => by subst h; exact .nil)
  · refine sxc_skip ?_
    refine sxq_next ?_
    refine sxc_join (fun ((_, _) : (Unit × Unit)) => []) (fun ((_, _) : (Unit × Unit)) => []) (fun ((_, _) : (Unit × Unit)) => []) (fun ((_, _) : (Unit × Unit)) => []) (fun ((_, _) : (Unit × Unit)) => M_R_SameLists_j2 F) ?_ ?_
    · refine sxc_seq ?_
      refine sxc_region ?_
      refine sxo_assign rfl rfl rfl ?_
      refine sxo_nil ?_
      refine sxq_next ?_
      refine sxc_block ?_
      refine sxc_loopP (fun ((x202, _) : (Int × Unit)) => [(0, .slice a2 x1.length c3.1), (1, .slice a5 x4.length c6.1), (5, .int .i64 x202)]) (fun ((x202, _) : (Int × Unit)) => []) (fun ((x202, _) : (Int × Unit)) => []) (fun ((x202, _) : (Int × Unit)) => [SlN eN32 iN32 1 (.slice a2 x1.length c3.1) x1 c3.2, SlN eN32 iN32 1 (.slice a5 x4.length c6.1) x4 c6.2]) (fun k (s : (Int × Unit)) => M_R_SameLists_l3 F x1 x4 k s.1) (0, ()) F (lk_cons rfl (lk_cons rfl (lk_cons rfl lk_nil))) .nil .nil (fk_cons 0 rfl (fk_cons 1 rfl fk_nil)) (fun _ => rfl) ?_
      intro k251
      rintro ⟨x202, _⟩
      try dsimp only
      refine sxc_meq (m' := M_R_SameLists_b3 F x1 x4 (M_R_SameLists_l3 F x1 x4 k251) x202) rfl ?_
      refine sxc_seq ?_
      refine sxc_seq ?_
      refine sxc_region ?_
      refine sxo_move rfl rfl rfl ?_
      refine sxo_move rfl rfl rfl ?_
      refine sxo_len rfl Try.underlying22 rfl rfl ?_
      refine sxo_lss rfl rfl rfl rfl ?_
      refine sxo_nil ?_
      refine sxq_next ?_
      refine sxc_if rfl (fun h299 => ?_) (fun h299 => ?_)
      · refine sxc_skip ?_
        refine sxq_next ?_
        refine sxc_seq ?_
        refine sxc_block ?_
        refine sxc_seq ?_
        refine sxc_idxN (j := 0) eN32_ok (by decide) rfl (fun x287 e287 g291 b288 o289 h290 => ?_)
        replace h290 : a2 = some ⟨b288, o289, none⟩ := h290
        refine sxc_idxN (j := 3) eN32_ok (by decide) rfl (fun x292 e292 g296 b293 o294 h295 => ?_)
        replace h295 : a5 = some ⟨b293, o294, none⟩ := h295
        refine sxb_draw mixed [] [] [CellsAt b293 (o294 + x202.toNat * 1) (eN32 (x292, g296)), Sl (eI .i64) 1 (.slice g296.1 x292.length g296.2) x292, CellsAt b288 (o289 + x202.toNat * 1) (eN32 (x287, g291)), Sl (eI .i64) 1 (.slice g291.1 x287.length g291.2) x287, SlN eN32 iN32 1 (.slice a2 x1.length c3.1) x1 c3.2, SlN eN32 iN32 1 (.slice a5 x4.length c6.1) x4 c6.2] .nil (gk_F 0 rfl (gk_F 1 rfl (gk_F 2 rfl (gk_F 3 rfl (gk_F 4 rfl (gk_F 5 rfl gk_nil)))))) 10 rfl ?_
        refine sxb_takeP 0 (.slice a2 x1.length c3.1) rfl rfl rfl rfl (by kernel_rfl) (by kernel_rfl) (by kernel_rfl) (by kernel_rfl) (by kernel_rfl) rfl (show _ = #[true, false, false, false, false, false, false, false, false, false] from rfl) (yv_pv rfl) ?_
        refine sxb_takeP 1 (.int .i64 x202) rfl rfl rfl rfl (by kernel_rfl) (by kernel_rfl) (by kernel_rfl) (by kernel_rfl) (by kernel_rfl) rfl (show _ = #[true, true, false, false, false, false, false, false, false, false] from rfl) (yv_pv rfl) ?_
        refine sxb_again (d := 17) (v := .slice (some ⟨b288, o289, none⟩) x1.length c3.1) rfl (by rw [h290]) ?_
        refine sxb_takeP 2 (.pointer (some ⟨b288, (o289 + x202.toNat * 1), none⟩)) rfl rfl rfl rfl (by kernel_rfl) (by kernel_rfl) (by kernel_rfl) (by kernel_rfl) (by kernel_rfl) rfl (show _ = #[true, true, true, false, false, false, false, false, false, false] from rfl) (yv_idx Try.underlying22 tf32 rfl rfl (idx_get e287).1 (idx_lt e287)) ?_
        refine sxb_again (d := 17) (v := .slice a2 x1.length c3.1) rfl (by rw [h290]) ?_
        refine sxb_take 3 (.slice g291.1 x287.length g291.2) [] rfl rfl rfl rfl (by kernel_rfl) (by kernel_rfl) (by kernel_rfl) (by kernel_rfl) (by kernel_rfl) (by kernel_rfl) rfl (show _ = #[true, true, true, true, false, false, false, false, false, false] from rfl) (yv_loadF (j := 2) rfl tf32 rfl rfl (fun _ => rfl) rfl) ?_
        refine sxb_takeP 4 (.slice a5 x4.length c6.1) rfl rfl rfl rfl (by kernel_rfl) (by kernel_rfl) (by kernel_rfl) (by kernel_rfl) (by kernel_rfl) rfl (show _ = #[true, true, true, true, true, false, false, false, false, false] from rfl) (yv_pv rfl) ?_
        refine sxb_takeP 5 (.int .i64 x202) rfl rfl rfl rfl (by kernel_rfl) (by kernel_rfl) (by kernel_rfl) (by kernel_rfl) (by kernel_rfl) rfl (show _ = #[true, true, true, true, true, true, false, false, false, false] from rfl) (yv_pv rfl) ?_
        refine sxb_again (d := 21) (v := .slice (some ⟨b293, o294, none⟩) x4.length c6.1) rfl (by rw [h295]) ?_
        refine sxb_takeP 6 (.pointer (some ⟨b293, (o294 + x202.toNat * 1), none⟩)) rfl rfl rfl rfl (by kernel_rfl) (by kernel_rfl) (by kernel_rfl) (by kernel_rfl) (by kernel_rfl) rfl (show _ = #[true, true, true, true, true, true, true, false, false, false] from rfl) (yv_idx Try.underlying22 tf32 rfl rfl (idx_get e292).1 (idx_lt e292)) ?_
        refine sxb_again (d := 21) (v := .slice a5 x4.length c6.1) rfl (by rw [h295]) ?_
        refine sxb_take 7 (.slice g296.1 x292.length g296.2) [] rfl rfl rfl rfl (by kernel_rfl) (by kernel_rfl) (by kernel_rfl) (by kernel_rfl) (by kernel_rfl) (by kernel_rfl) rfl (show _ = #[true, true, true, true, true, true, true, true, false, false] from rfl) (yv_loadF (j := 0) rfl tf32 rfl rfl (fun _ => rfl) rfl) ?_
        refine sxb_step 8 rfl (by kernel_rfl) (show _ = #[true, true, true, true, true, true, true, true, true, false] from rfl) ?_
        refine sxo_call ent29 rfl rfl rfl (fun x297 e297 => C_R_SameInts F x287 g291.1 g291.2 x292 g296.1 g296.2 x297 e297) (.consF 3 rfl (.consF 1 rfl .nil)) (fun x297 e297 => ?_)
        intro _
        refine sxo_nil ?_
        refine sxq_anyB .nil (gk_F 0 rfl (gk_F 1 rfl (gk_F 2 rfl (gk_F 3 rfl (gk_F 4 rfl (gk_F 5 rfl gk_nil)))))) ?_
        refine sxb_takeP 9 (.bool (!x297)) rfl rfl rfl rfl (by kernel_rfl) (by kernel_rfl) (by kernel_rfl) (by kernel_rfl) (by kernel_rfl) rfl (show _ = #[true, true, true, true, true, true, true, true, true, true] from rfl) (yv_pv rfl) ?_
        refine sxb_done (by kernel_rfl) ?_
        refine sxq_np ?_ (by intro c h; cases h)
        refine sxq_next ?_
        refine sxc_if rfl (fun h298 => ?_) (fun h298 => ?_)
        · refine sxc_seq ?_
          refine sxc_region ?_
          refine sxo_assign rfl rfl rfl ?_
          refine sxo_nil ?_
          refine sxq_next ?_
          refine sxc_ret ?_
          refine sxq_blkR ?_
          refine sxq_thenR ?_
          refine sxq_thenR ?_
          refine sxq_blkR ?_
          refine sxq_thenR ?_
          exact sxq_doneP () (.inl rfl) (res1 rfl rfl) (fun h => by subst h; rfl) (fun h => by subst h; exact .nil)
        · refine sxc_skip ?_
          refine sxq_blkN ?_
          refine sxq_next ?_
          refine sxc_region ?_
          refine sxo_move rfl rfl rfl ?_
          refine sxo_add rfl rfl rfl rfl ?_
          refine sxo_assign rfl rfl rfl ?_
          refine sxo_nil ?_
          exact sxq_againP (iadd .i64 x202 1, ()) (lk_cons rfl (lk_cons rfl (lk_cons rfl lk_nil))) .nil .nil (fk_cons 4 rfl (fk_cons 5 rfl fk_nil))
      · refine sxc_exit ?_
        refine sxq_thenX ?_
        refine sxq_thenX ?_
        refine sxq_blkX ?_
        exact sxq_meetP ((), ()) lk_nil .nil .nil fk_nil
    · rintro ⟨_, _⟩
      try dsimp only
      refine sxc_seq ?_
      refine sxc_region ?_
      refine sxo_assign rfl rfl rfl ?_
      refine sxo_nil ?_
      refine sxq_next ?_
      refine sxc_ret ?_
      exact sxq_doneP () (.inl rfl) (res1 rfl rfl) (fun h => by subst h; rfl) (fun h => by subst h; exact .nil)

set_option maxHeartbeats 4000000 in
theorem C_L_graphBegun (F : Nat)  (r : Bool) (hm : M_L_graphBegun F  = some r) :
    Pure Try.prog 25 [] [] Unit (fun _ => .bool r) (fun _ => []) (fun _ => []) := by
  refine pure_of Try.func25 rfl Try.ntmps25 rfl hm (fun w => ?_)
  refine sxc_env (l' := []) rfl ?_
  refine sxc_seq ?_
  refine sxc_region ?_
  refine sxo_assign rfl rfl rfl ?_
  refine sxo_nil ?_
  refine sxq_next ?_
  refine sxc_seq ?_
  refine sxc_region ?_
  refine sxo_build (cells := [.int .i64 2, .int .i64 0]) rfl st44 rfl (by kernel_rfl) rfl ?_
  refine sxo_build (cells := [.int .i64 0, .int .i64 1]) rfl st44 rfl (by kernel_rfl) rfl ?_
  refine sxo_build (cells := [.int .i64 0, .int .i64 0]) rfl st44 rfl (by kernel_rfl) rfl ?_
  refine sxo_slit (vs := [.agg #[.int .i64 2, .int .i64 0], .agg #[.int .i64 0, .int .i64 1], .agg #[.int .i64 0, .int .i64 0]]) (ys := ([(2, 0), (0, 1), (0, 0)] : List (Int × Int))) eS44_ok (by decide) rfl Try.underlying25 tf44 rfl rfl rfl rfl rfl (by decide) (fun a1 c2 => ?_)
  refine sxo_call ent16 rfl rfl rfl (fun x3 e3 => C_graph_Of F 3 ([(2, 0), (0, 1), (0, 0)] : List (Int × Int)) a1 c2 x3 e3) (.consR 0 (Ro eS44 44 2 (.slice a1 ([(2, 0), (0, 1), (0, 0)] : List (Int × Int)).length c2) ([(2, 0), (0, 1), (0, 0)] : List (Int × Int))) rfl .nil) (fun x3 e3 => ?_)
  rintro ⟨a4, c5⟩
  refine sxo_move rfl rfl rfl ?_
  refine sxo_extract rfl rfl rfl rfl ?_
  refine sxo_extract rfl rfl rfl rfl ?_
  refine sxo_alloc rfl tf24 rfl (fun g6 => ?_)
  refine sxo_storeB (i := 0) rfl rfl rfl tf24 rfl rfl rfl rfl rfl ?_
  refine sxo_assign rfl rfl rfl ?_
  refine sxo_nil ?_
  refine sxq_next ?_
  refine sxc_seq ?_
  refine sxc_region ?_
  refine sxo_loadB (i := 0) rfl rfl tf24 rfl rfl (by simp) rfl rfl ?_
  refine sxo_call ent15 rfl rfl rfl (fun x7 e7 => C_graph_Arcs F x3.1 a4 c5 x7 e7) (.consG 0 rfl (nest_sl rN32_in) .nil) (fun x7 e7 => ?_)
  rintro ⟨a8, c9⟩
  refine sxo_move rfl rfl rfl ?_
  refine sxo_extract rfl rfl rfl rfl ?_
  refine sxo_extract rfl rfl rfl rfl ?_
  refine sxo_assign rfl rfl rfl ?_
  refine sxo_assign rfl rfl rfl ?_
  refine sxo_nil ?_
  refine sxq_next ?_
  refine sxc_seq ?_
  refine sxc_region ?_
  refine sxo_loadB (i := 0) rfl rfl tf24 rfl rfl (by simp) rfl rfl ?_
  refine sxo_call ent17 rfl rfl rfl (fun x10 e10 => C_graph_Turn F x3.1 a4 c5 x10 e10) (.consG 1 rfl (nest_sl rN32_in) .nil) (fun x10 e10 => ?_)
  rintro ⟨a11, c12⟩
  refine sxo_move rfl rfl rfl ?_
  refine sxo_extract rfl rfl rfl rfl ?_
  refine sxo_extract rfl rfl rfl rfl ?_
  refine sxo_alloc rfl tf24 rfl (fun g13 => ?_)
  refine sxo_storeB (i := 0) rfl rfl rfl tf24 rfl rfl rfl rfl rfl ?_
  refine sxo_assign rfl rfl rfl ?_
  refine sxo_nil ?_
  refine sxq_next ?_
  refine sxc_seq ?_
  refine sxc_region ?_
  refine sxo_loadB (i := 1) rfl rfl tf24 rfl rfl (by simp) rfl rfl ?_
  refine sxo_call ent18 rfl rfl rfl (fun x14 e14 => C_graph_Both F x3.1 a4 c5 x14 e14) (.consG 2 rfl (nest_sl rN32_in) .nil) (fun x14 e14 => ?_)
  rintro ⟨a15, c16⟩
  refine sxo_move rfl rfl rfl ?_
  refine sxo_extract rfl rfl rfl rfl ?_
  refine sxo_extract rfl rfl rfl rfl ?_
  refine sxo_alloc rfl tf24 rfl (fun g17 => ?_)
  refine sxo_storeB (i := 0) rfl rfl rfl tf24 rfl rfl rfl rfl rfl ?_
  refine sxo_assign rfl rfl rfl ?_
  refine sxo_nil ?_
  refine sxq_next ?_
  refine sxc_seq ?_
  refine sxc_region ?_
  refine sxo_loadB (i := 2) rfl rfl tf24 rfl rfl (by simp) rfl rfl ?_
  refine sxo_callM ent19 rfl rfl rfl (fun x18 e18 => C_graph_Degrees F x3.1 a4 c5 x18 e18) .nil .nil (.consG 3 rfl (nest_sl rN32_in) .nil) (fun x18 e18 => ?_)
  rintro ⟨⟨a19, c20⟩, ⟨a21, c22⟩⟩
  refine sxo_move rfl rfl rfl ?_
  refine sxo_extract rfl rfl rfl rfl ?_
  refine sxo_extract rfl rfl rfl rfl ?_
  refine sxo_extract rfl rfl rfl rfl ?_
  refine sxo_assign rfl rfl rfl ?_
  refine sxo_assign rfl rfl rfl ?_
  refine sxo_assign rfl rfl rfl ?_
  refine sxo_nil ?_
  refine sxq_next ?_
  refine sxc_seq ?_
  refine sxc_region ?_
  refine sxo_build (cells := [.int .i64 0, .int .i64 0]) rfl st44 rfl (by kernel_rfl) rfl ?_
  refine sxo_build (cells := [.int .i64 0, .int .i64 0]) rfl st44 rfl (by kernel_rfl) rfl ?_
  refine sxo_slit (vs := [.agg #[.int .i64 0, .int .i64 0], .agg #[.int .i64 0, .int .i64 0]]) (ys := ([(0, 0), (0, 0)] : List (Int × Int))) eS44_ok (by decide) rfl Try.underlying25 tf44 rfl rfl rfl rfl rfl (by decide) (fun a23 c24 => ?_)
  refine sxo_call ent16 rfl rfl rfl (fun x25 e25 => C_graph_Of F 1 ([(0, 0), (0, 0)] : List (Int × Int)) a23 c24 x25 e25) (.consR 0 (Ro eS44 44 2 (.slice a23 ([(0, 0), (0, 0)] : List (Int × Int)).length c24) ([(0, 0), (0, 0)] : List (Int × Int))) rfl .nil) (fun x25 e25 => ?_)
  rintro ⟨a26, c27⟩
  refine sxo_move rfl rfl rfl ?_
  refine sxo_extract rfl rfl rfl rfl ?_
  refine sxo_extract rfl rfl rfl rfl ?_
  refine sxo_alloc rfl tf24 rfl (fun g28 => ?_)
  refine sxo_storeB (i := 0) rfl rfl rfl tf24 rfl rfl rfl rfl rfl ?_
  refine sxo_assign rfl rfl rfl ?_
  refine sxo_nil ?_
  refine sxq_next ?_
  refine sxc_seq ?_
  refine sxc_region ?_
  refine sxo_fieldAddr rfl rfl ff24_0 rfl ?_
  refine sxo_loadB (i := 3) rfl rfl tf22 rfl rfl (fun _ => rfl) rfl rfl ?_
  refine sxo_slit (vs := [.int .i64 0, .int .i64 1]) (ys := ([0, 1] : List Int)) (eI_ok .i64) (by decide) rfl Try.underlying32 tf3 rfl rfl rfl rfl rfl (by decide) (fun a29 c30 => ?_)
  refine sxo_slit (vs := [.int .i64 0]) (ys := ([0] : List Int)) (eI_ok .i64) (by decide) rfl Try.underlying32 tf3 rfl rfl rfl rfl rfl (by decide) (fun a31 c32 => ?_)
  refine sxo_freeze 1 rfl ?_
  refine sxo_nilrow' Int (eI .i64) 3 1 ?_
  refine sxo_freeze 0 rfl ?_
  refine sxo_freeze 0 rfl ?_
  refine sxo_slit (vs := [.slice a29 ([0, 1] : List Int).length c30, .slice none 0 0, .slice a31 ([0] : List Int).length c32]) (ys := ([(([0, 1] : List Int), (a29, c30)), (([] : List Int), (none, 0)), (([0] : List Int), (a31, c32))] : List (List Int × (Option Addr × Nat)))) eN32_ok (by decide) rfl Try.underlying22 tf32 rfl rfl rfl rfl rfl (by decide) (fun a33 c34 => ?_)
  refine sxo_nestF (inn := iN32) ([([0, 1] : List Int), ([] : List Int), ([0] : List Int)] : List (List Int)) ([(a29, c30), (none, 0), (a31, c32)] : List (Option Addr × Nat)) 0 rfl rfl (fk_cons 2 rfl (fk_cons 1 rfl (fk_cons 0 rfl fk_nil))) ?_
  refine sxo_call ent51 rfl rfl rfl (fun x35 e35 => C_R_SameLists F x3.1 a4 c5 ([([0, 1] : List Int), ([] : List Int), ([0] : List Int)] : List (List Int)) a33 (c34, ([(a29, c30), (none, 0), (a31, c32)] : List (Option Addr × Nat))) x35 e35) (.consG 7 rfl (nest_sl rN32_in) (.consF 0 rfl .nil)) (fun x35 e35 => ?_)
  intro _
  refine sxo_move rfl rfl rfl ?_
  refine sxo_case 3 x35 [(3, .slice a8 x7.1.length c9), (4, .int .i64 x7.2), (5, .pointer (some ⟨g13, 0, none⟩)), (6, .int .i64 x10.2), (7, .pointer (some ⟨g17, 0, none⟩)), (8, .int .i64 x14.2), (9, .slice a19 x18.1.length c20), (10, .slice a21 x18.2.1.length c22), (11, .int .i64 x18.2.2), (13, .int .i64 x25.2), (59, .bool (x35 && ((x3.2 : Int) == 0)))] (fun h36 => ?_) (fun h36 => ?_) ?_
  · refine sxo_take (os := _) rfl ?_
    refine sxo_isT (k := 56) rfl h36 ?_
    refine sxo_move rfl rfl rfl ?_
    refine sxo_eql rfl rfl rfl rfl ?_
    refine sxo_pick (b := true) rfl rfl rfl rfl ?_
    refine sxo_again (d := 59) (v := .bool (x35 && ((x3.2 : Int) == 0))) rfl (by rw [h36]; simp only [Bool.true_and]) ?_
    refine sxo_nil ?_
    exact sxq_case (lk_cons rfl (lk_cons rfl (lk_cons rfl (lk_cons rfl (lk_cons rfl (lk_cons rfl (lk_cons rfl (lk_cons rfl (lk_cons rfl (lk_cons rfl (lk_cons rfl lk_nil)))))))))))
  · refine sxo_take (os := _) rfl ?_
    refine sxo_isF (k := 56) rfl h36 ?_
    refine sxo_skip rfl rfl rfl ?_
    refine sxo_skip rfl rfl rfl ?_
    refine sxo_pick (b := false) rfl rfl rfl rfl ?_
    refine sxo_again (d := 59) (v := .bool (x35 && ((x3.2 : Int) == 0))) rfl (by rw [h36]; simp only [Bool.false_and]) ?_
    refine sxo_nil ?_
    exact sxq_case (lk_cons rfl (lk_cons rfl (lk_cons rfl (lk_cons rfl (lk_cons rfl (lk_cons rfl (lk_cons rfl (lk_cons rfl (lk_cons rfl (lk_cons rfl (lk_cons rfl lk_nil)))))))))))
  refine sxo_take (os := _) rfl ?_
  refine sxo_move rfl rfl rfl ?_
  refine sxo_join 7 (fun ((x41, _) : (Bool × Unit)) => [(4, .int .i64 x7.2), (5, .pointer (some ⟨g13, 0, none⟩)), (6, .int .i64 x10.2), (7, .pointer (some ⟨g17, 0, none⟩)), (8, .int .i64 x14.2), (9, .slice a19 x18.1.length c20), (10, .slice a21 x18.2.1.length c22), (11, .int .i64 x18.2.2), (13, .int .i64 x25.2), (67, .bool x41)]) (fun ((x41, _) : (Bool × Unit)) => [⟨g17, 24, [.slice a15 x14.1.length c16.1]⟩, ⟨g13, 24, [.slice a11 x10.1.length c12.1]⟩]) (fun ((x41, _) : (Bool × Unit)) => [Ro (eI .i64) 3 1 (.slice a19 x18.1.length c20) x18.1, Ro (eI .i64) 3 1 (.slice a21 x18.2.1.length c22) x18.2.1, RoN eN32 rN32 32 1 (.slice a15 x14.1.length c16.1) x14.1 c16.2 [], RoN eN32 rN32 32 1 (.slice a11 x10.1.length c12.1) x10.1 c12.2 []]) (fun ((x41, _) : (Bool × Unit)) => []) (fun ((x41, _) : (Bool × Unit)) => M_L_graphBegun_j1 F x7 x10 x14 x18 x25 x41) ?_ ?_
  · refine sxo_take (os := _) rfl ?_
    refine sxo_if (fun h37 => ?_) (fun h37 => ?_)
    · refine sxo_isT (k := 60) rfl h37 ?_
      refine sxo_move rfl rfl rfl ?_
      refine sxo_build (cells := [.int .i64 0, .int .i64 0]) rfl st44 rfl (by kernel_rfl) rfl ?_
      refine sxo_build (cells := [.int .i64 0, .int .i64 1]) rfl st44 rfl (by kernel_rfl) rfl ?_
      refine sxo_build (cells := [.int .i64 2, .int .i64 0]) rfl st44 rfl (by kernel_rfl) rfl ?_
      refine sxo_slit (vs := [.agg #[.int .i64 0, .int .i64 0], .agg #[.int .i64 0, .int .i64 1], .agg #[.int .i64 2, .int .i64 0]]) (ys := ([(0, 0), (0, 1), (2, 0)] : List (Int × Int))) eS44_ok (by decide) rfl Try.underlying25 tf44 rfl rfl rfl rfl rfl (by decide) (fun a111 c112 => ?_)
      refine sxo_call ent27 rfl rfl rfl (fun x113 e113 => C_R_SameArcs F x7.1 a8 c9 ([(0, 0), (0, 1), (2, 0)] : List (Int × Int)) a111 c112 x113 e113) (.consR 7 (Ro eS44 44 2 (.slice a8 x7.1.length c9) x7.1) rfl (.consR 0 (Ro eS44 44 2 (.slice a111 ([(0, 0), (0, 1), (2, 0)] : List (Int × Int)).length c112) ([(0, 0), (0, 1), (2, 0)] : List (Int × Int))) rfl .nil)) (fun x113 e113 => ?_)
      intro _
      refine sxo_pick (b := true) rfl rfl rfl rfl ?_
      refine sxo_nil ?_
      exact sxq_meetP (x113, ()) (lk_cons rfl (lk_cons rfl (lk_cons rfl (lk_cons rfl (lk_cons rfl (lk_cons rfl (lk_cons rfl (lk_cons rfl (lk_cons rfl (lk_cons rfl lk_nil)))))))))) (.cons 1 rfl (.cons 1 rfl .nil)) (.cons 3 rfl (.cons 3 rfl (.cons 3 rfl (.cons 3 rfl .nil)))) fk_nil
    · refine sxo_isF (k := 60) rfl h37 ?_
      refine sxo_skip rfl rfl rfl ?_
      refine sxo_skip rfl rfl rfl ?_
      refine sxo_skip rfl rfl rfl ?_
      refine sxo_skip rfl rfl rfl ?_
      refine sxo_skip rfl rfl rfl ?_
      refine sxo_skip rfl rfl rfl ?_
      refine sxo_pick (b := false) rfl rfl rfl rfl ?_
      refine sxo_nil ?_
      exact sxq_meetP (false, ()) (lk_cons rfl (lk_cons rfl (lk_cons rfl (lk_cons rfl (lk_cons rfl (lk_cons rfl (lk_cons rfl (lk_cons rfl (lk_cons rfl (lk_cons rfl lk_nil)))))))))) (.cons 1 rfl (.cons 1 rfl .nil)) (.cons 2 rfl (.cons 2 rfl (.cons 2 rfl (.cons 2 rfl .nil)))) fk_nil
  · rintro ⟨x41, _⟩
    try dsimp only
    refine sxo_take (os := _) rfl ?_
    refine sxo_move rfl rfl rfl ?_
    refine sxo_case 3 x41 [(5, .pointer (some ⟨g13, 0, none⟩)), (6, .int .i64 x10.2), (7, .pointer (some ⟨g17, 0, none⟩)), (8, .int .i64 x14.2), (9, .slice a19 x18.1.length c20), (10, .slice a21 x18.2.1.length c22), (11, .int .i64 x18.2.2), (13, .int .i64 x25.2), (71, .bool (x41 && ((x7.2 : Int) == 0)))] (fun h42 => ?_) (fun h42 => ?_) ?_
    · refine sxo_take (os := _) rfl ?_
      refine sxo_isT (k := 68) rfl h42 ?_
      refine sxo_move rfl rfl rfl ?_
      refine sxo_eql rfl rfl rfl rfl ?_
      refine sxo_pick (b := true) rfl rfl rfl rfl ?_
      refine sxo_again (d := 71) (v := .bool (x41 && ((x7.2 : Int) == 0))) rfl (by rw [h42]; simp only [Bool.true_and]) ?_
      refine sxo_nil ?_
      exact sxq_case (lk_cons rfl (lk_cons rfl (lk_cons rfl (lk_cons rfl (lk_cons rfl (lk_cons rfl (lk_cons rfl (lk_cons rfl (lk_cons rfl lk_nil)))))))))
    · refine sxo_take (os := _) rfl ?_
      refine sxo_isF (k := 68) rfl h42 ?_
      refine sxo_skip rfl rfl rfl ?_
      refine sxo_skip rfl rfl rfl ?_
      refine sxo_pick (b := false) rfl rfl rfl rfl ?_
      refine sxo_again (d := 71) (v := .bool (x41 && ((x7.2 : Int) == 0))) rfl (by rw [h42]; simp only [Bool.false_and]) ?_
      refine sxo_nil ?_
      exact sxq_case (lk_cons rfl (lk_cons rfl (lk_cons rfl (lk_cons rfl (lk_cons rfl (lk_cons rfl (lk_cons rfl (lk_cons rfl (lk_cons rfl lk_nil)))))))))
    refine sxo_take (os := _) rfl ?_
    refine sxo_move rfl rfl rfl ?_
    refine sxo_join 7 (fun ((x51, _) : (Bool × Unit)) => [(6, .int .i64 x10.2), (7, .pointer (some ⟨g17, 0, none⟩)), (8, .int .i64 x14.2), (9, .slice a19 x18.1.length c20), (10, .slice a21 x18.2.1.length c22), (11, .int .i64 x18.2.2), (13, .int .i64 x25.2), (79, .bool x51)]) (fun ((x51, _) : (Bool × Unit)) => [⟨g17, 24, [.slice a15 x14.1.length c16.1]⟩]) (fun ((x51, _) : (Bool × Unit)) => [Ro (eI .i64) 3 1 (.slice a19 x18.1.length c20) x18.1, Ro (eI .i64) 3 1 (.slice a21 x18.2.1.length c22) x18.2.1, RoN eN32 rN32 32 1 (.slice a15 x14.1.length c16.1) x14.1 c16.2 []]) (fun ((x51, _) : (Bool × Unit)) => []) (fun ((x51, _) : (Bool × Unit)) => M_L_graphBegun_j2 F x10 x14 x18 x25 x51) ?_ ?_
    · refine sxo_take (os := _) rfl ?_
      refine sxo_if (fun h43 => ?_) (fun h43 => ?_)
      · refine sxo_isT (k := 72) rfl h43 ?_
        refine sxo_fieldAddr rfl rfl ff24_0 rfl ?_
        refine sxo_loadB (i := 1) rfl rfl tf22 rfl rfl (fun _ => rfl) rfl rfl ?_
        refine sxo_slit (vs := [.int .i64 0, .int .i64 2]) (ys := ([0, 2] : List Int)) (eI_ok .i64) (by decide) rfl Try.underlying32 tf3 rfl rfl rfl rfl rfl (by decide) (fun a104 c105 => ?_)
        refine sxo_slit (vs := [.int .i64 0]) (ys := ([0] : List Int)) (eI_ok .i64) (by decide) rfl Try.underlying32 tf3 rfl rfl rfl rfl rfl (by decide) (fun a106 c107 => ?_)
        refine sxo_freeze 1 rfl ?_
        refine sxo_freeze 0 rfl ?_
        refine sxo_nilrow' Int (eI .i64) 3 1 ?_
        refine sxo_freeze 0 rfl ?_
        refine sxo_slit (vs := [.slice a104 ([0, 2] : List Int).length c105, .slice a106 ([0] : List Int).length c107, .slice none 0 0]) (ys := ([(([0, 2] : List Int), (a104, c105)), (([0] : List Int), (a106, c107)), (([] : List Int), (none, 0))] : List (List Int × (Option Addr × Nat)))) eN32_ok (by decide) rfl Try.underlying22 tf32 rfl rfl rfl rfl rfl (by decide) (fun a108 c109 => ?_)
        refine sxo_nestF (inn := iN32) ([([0, 2] : List Int), ([0] : List Int), ([] : List Int)] : List (List Int)) ([(a104, c105), (a106, c107), (none, 0)] : List (Option Addr × Nat)) 0 rfl rfl (fk_cons 2 rfl (fk_cons 1 rfl (fk_cons 0 rfl fk_nil))) ?_
        refine sxo_call ent51 rfl rfl rfl (fun x110 e110 => C_R_SameLists F x10.1 a11 c12 ([([0, 2] : List Int), ([0] : List Int), ([] : List Int)] : List (List Int)) a108 (c109, ([(a104, c105), (a106, c107), (none, 0)] : List (Option Addr × Nat))) x110 e110) (.consG 3 rfl (nest_sl rN32_in) (.consF 0 rfl .nil)) (fun x110 e110 => ?_)
        intro _
        refine sxo_pick (b := true) rfl rfl rfl rfl ?_
        refine sxo_nil ?_
        exact sxq_meetP (x110, ()) (lk_cons rfl (lk_cons rfl (lk_cons rfl (lk_cons rfl (lk_cons rfl (lk_cons rfl (lk_cons rfl (lk_cons rfl lk_nil)))))))) (.cons 0 rfl .nil) (.cons 0 rfl (.cons 0 rfl (.cons 0 rfl .nil))) fk_nil
      · refine sxo_isF (k := 72) rfl h43 ?_
        refine sxo_skip rfl rfl rfl ?_
        refine sxo_skip rfl rfl rfl ?_
        refine sxo_skip rfl rfl rfl ?_
        refine sxo_skip rfl rfl rfl ?_
        refine sxo_skip rfl rfl rfl ?_
        refine sxo_skip rfl rfl rfl ?_
        refine sxo_pick (b := false) rfl rfl rfl rfl ?_
        refine sxo_nil ?_
        exact sxq_meetP (false, ()) (lk_cons rfl (lk_cons rfl (lk_cons rfl (lk_cons rfl (lk_cons rfl (lk_cons rfl (lk_cons rfl (lk_cons rfl lk_nil)))))))) (.cons 0 rfl .nil) (.cons 0 rfl (.cons 0 rfl (.cons 0 rfl .nil))) fk_nil
    · rintro ⟨x51, _⟩
      try dsimp only
      refine sxo_take (os := _) rfl ?_
      refine sxo_move rfl rfl rfl ?_
      refine sxo_case 3 x51 [(7, .pointer (some ⟨g17, 0, none⟩)), (8, .int .i64 x14.2), (9, .slice a19 x18.1.length c20), (10, .slice a21 x18.2.1.length c22), (11, .int .i64 x18.2.2), (13, .int .i64 x25.2), (83, .bool (x51 && ((x10.2 : Int) == 0)))] (fun h52 => ?_) (fun h52 => ?_) ?_
      · refine sxo_take (os := _) rfl ?_
        refine sxo_isT (k := 80) rfl h52 ?_
        refine sxo_move rfl rfl rfl ?_
        refine sxo_eql rfl rfl rfl rfl ?_
        refine sxo_pick (b := true) rfl rfl rfl rfl ?_
        refine sxo_again (d := 83) (v := .bool (x51 && ((x10.2 : Int) == 0))) rfl (by rw [h52]; simp only [Bool.true_and]) ?_
        refine sxo_nil ?_
        exact sxq_case (lk_cons rfl (lk_cons rfl (lk_cons rfl (lk_cons rfl (lk_cons rfl (lk_cons rfl (lk_cons rfl lk_nil)))))))
      · refine sxo_take (os := _) rfl ?_
        refine sxo_isF (k := 80) rfl h52 ?_
        refine sxo_skip rfl rfl rfl ?_
        refine sxo_skip rfl rfl rfl ?_
        refine sxo_pick (b := false) rfl rfl rfl rfl ?_
        refine sxo_again (d := 83) (v := .bool (x51 && ((x10.2 : Int) == 0))) rfl (by rw [h52]; simp only [Bool.false_and]) ?_
        refine sxo_nil ?_
        exact sxq_case (lk_cons rfl (lk_cons rfl (lk_cons rfl (lk_cons rfl (lk_cons rfl (lk_cons rfl (lk_cons rfl lk_nil)))))))
      refine sxo_take (os := _) rfl ?_
      refine sxo_move rfl rfl rfl ?_
      refine sxo_join 8 (fun ((x63, _) : (Bool × Unit)) => [(8, .int .i64 x14.2), (9, .slice a19 x18.1.length c20), (10, .slice a21 x18.2.1.length c22), (11, .int .i64 x18.2.2), (13, .int .i64 x25.2), (92, .bool x63)]) (fun ((x63, _) : (Bool × Unit)) => []) (fun ((x63, _) : (Bool × Unit)) => [Ro (eI .i64) 3 1 (.slice a19 x18.1.length c20) x18.1, Ro (eI .i64) 3 1 (.slice a21 x18.2.1.length c22) x18.2.1]) (fun ((x63, _) : (Bool × Unit)) => []) (fun ((x63, _) : (Bool × Unit)) => M_L_graphBegun_j3 F x14 x18 x25 x63) ?_ ?_
      · refine sxo_take (os := _) rfl ?_
        refine sxo_if (fun h53 => ?_) (fun h53 => ?_)
        · refine sxo_isT (k := 84) rfl h53 ?_
          refine sxo_fieldAddr rfl rfl ff24_0 rfl ?_
          refine sxo_loadB (i := 0) rfl rfl tf22 rfl rfl (fun _ => rfl) rfl rfl ?_
          refine sxo_slit (vs := [.int .i64 0, .int .i64 1, .int .i64 2]) (ys := ([0, 1, 2] : List Int)) (eI_ok .i64) (by decide) rfl Try.underlying32 tf3 rfl rfl rfl rfl rfl (by decide) (fun a95 c96 => ?_)
          refine sxo_slit (vs := [.int .i64 0]) (ys := ([0] : List Int)) (eI_ok .i64) (by decide) rfl Try.underlying32 tf3 rfl rfl rfl rfl rfl (by decide) (fun a97 c98 => ?_)
          refine sxo_slit (vs := [.int .i64 0]) (ys := ([0] : List Int)) (eI_ok .i64) (by decide) rfl Try.underlying32 tf3 rfl rfl rfl rfl rfl (by decide) (fun a99 c100 => ?_)
          refine sxo_freeze 2 rfl ?_
          refine sxo_freeze 1 rfl ?_
          refine sxo_freeze 0 rfl ?_
          refine sxo_slit (vs := [.slice a95 ([0, 1, 2] : List Int).length c96, .slice a97 ([0] : List Int).length c98, .slice a99 ([0] : List Int).length c100]) (ys := ([(([0, 1, 2] : List Int), (a95, c96)), (([0] : List Int), (a97, c98)), (([0] : List Int), (a99, c100))] : List (List Int × (Option Addr × Nat)))) eN32_ok (by decide) rfl Try.underlying22 tf32 rfl rfl rfl rfl rfl (by decide) (fun a101 c102 => ?_)
          refine sxo_nestF (inn := iN32) ([([0, 1, 2] : List Int), ([0] : List Int), ([0] : List Int)] : List (List Int)) ([(a95, c96), (a97, c98), (a99, c100)] : List (Option Addr × Nat)) 0 rfl rfl (fk_cons 2 rfl (fk_cons 1 rfl (fk_cons 0 rfl fk_nil))) ?_
          refine sxo_call ent51 rfl rfl rfl (fun x103 e103 => C_R_SameLists F x14.1 a15 c16 ([([0, 1, 2] : List Int), ([0] : List Int), ([0] : List Int)] : List (List Int)) a101 (c102, ([(a95, c96), (a97, c98), (a99, c100)] : List (Option Addr × Nat))) x103 e103) (.consG 2 rfl (nest_sl rN32_in) (.consF 0 rfl .nil)) (fun x103 e103 => ?_)
          intro _
          refine sxo_pick (b := true) rfl rfl rfl rfl ?_
          refine sxo_nil ?_
          exact sxq_meetP (x103, ()) (lk_cons rfl (lk_cons rfl (lk_cons rfl (lk_cons rfl (lk_cons rfl (lk_cons rfl lk_nil)))))) .nil (.cons 0 rfl (.cons 0 rfl .nil)) fk_nil
        · refine sxo_isF (k := 84) rfl h53 ?_
          refine sxo_skip rfl rfl rfl ?_
          refine sxo_skip rfl rfl rfl ?_
          refine sxo_skip rfl rfl rfl ?_
          refine sxo_skip rfl rfl rfl ?_
          refine sxo_skip rfl rfl rfl ?_
          refine sxo_skip rfl rfl rfl ?_
          refine sxo_skip rfl rfl rfl ?_
          refine sxo_pick (b := false) rfl rfl rfl rfl ?_
          refine sxo_nil ?_
          exact sxq_meetP (false, ()) (lk_cons rfl (lk_cons rfl (lk_cons rfl (lk_cons rfl (lk_cons rfl (lk_cons rfl lk_nil)))))) .nil (.cons 0 rfl (.cons 0 rfl .nil)) fk_nil
      · rintro ⟨x63, _⟩
        try dsimp only
        refine sxo_take (os := _) rfl ?_
        refine sxo_move rfl rfl rfl ?_
        refine sxo_case 3 x63 [(9, .slice a19 x18.1.length c20), (10, .slice a21 x18.2.1.length c22), (11, .int .i64 x18.2.2), (13, .int .i64 x25.2), (96, .bool (x63 && ((x14.2 : Int) == 0)))] (fun h64 => ?_) (fun h64 => ?_) ?_
        · refine sxo_take (os := _) rfl ?_
          refine sxo_isT (k := 93) rfl h64 ?_
          refine sxo_move rfl rfl rfl ?_
          refine sxo_eql rfl rfl rfl rfl ?_
          refine sxo_pick (b := true) rfl rfl rfl rfl ?_
          refine sxo_again (d := 96) (v := .bool (x63 && ((x14.2 : Int) == 0))) rfl (by rw [h64]; simp only [Bool.true_and]) ?_
          refine sxo_nil ?_
          exact sxq_case (lk_cons rfl (lk_cons rfl (lk_cons rfl (lk_cons rfl (lk_cons rfl lk_nil)))))
        · refine sxo_take (os := _) rfl ?_
          refine sxo_isF (k := 93) rfl h64 ?_
          refine sxo_skip rfl rfl rfl ?_
          refine sxo_skip rfl rfl rfl ?_
          refine sxo_pick (b := false) rfl rfl rfl rfl ?_
          refine sxo_again (d := 96) (v := .bool (x63 && ((x14.2 : Int) == 0))) rfl (by rw [h64]; simp only [Bool.false_and]) ?_
          refine sxo_nil ?_
          exact sxq_case (lk_cons rfl (lk_cons rfl (lk_cons rfl (lk_cons rfl (lk_cons rfl lk_nil)))))
        refine sxo_take (os := _) rfl ?_
        refine sxo_move rfl rfl rfl ?_
        refine sxo_join 4 (fun ((x69, _) : (Bool × Unit)) => [(10, .slice a21 x18.2.1.length c22), (11, .int .i64 x18.2.2), (13, .int .i64 x25.2), (101, .bool x69)]) (fun ((x69, _) : (Bool × Unit)) => []) (fun ((x69, _) : (Bool × Unit)) => [Ro (eI .i64) 3 1 (.slice a21 x18.2.1.length c22) x18.2.1]) (fun ((x69, _) : (Bool × Unit)) => []) (fun ((x69, _) : (Bool × Unit)) => M_L_graphBegun_j4 F x18 x25 x69) ?_ ?_
        · refine sxo_take (os := _) rfl ?_
          refine sxo_if (fun h65 => ?_) (fun h65 => ?_)
          · refine sxo_isT (k := 97) rfl h65 ?_
            refine sxo_move rfl rfl rfl ?_
            refine sxo_slit (vs := [.int .i64 2, .int .i64 0, .int .i64 1]) (ys := ([2, 0, 1] : List Int)) (eI_ok .i64) (by decide) rfl Try.underlying32 tf3 rfl rfl rfl rfl rfl (by decide) (fun a92 c93 => ?_)
            refine sxo_call ent29 rfl rfl rfl (fun x94 e94 => C_R_SameInts F x18.1 a19 c20 ([2, 0, 1] : List Int) a92 c93 x94 e94) (.consR 1 (Ro (eI .i64) 3 1 (.slice a19 x18.1.length c20) x18.1) rfl (.consR 0 (Ro (eI .i64) 3 1 (.slice a92 ([2, 0, 1] : List Int).length c93) ([2, 0, 1] : List Int)) rfl .nil)) (fun x94 e94 => ?_)
            intro _
            refine sxo_pick (b := true) rfl rfl rfl rfl ?_
            refine sxo_nil ?_
            exact sxq_meetP (x94, ()) (lk_cons rfl (lk_cons rfl (lk_cons rfl (lk_cons rfl lk_nil)))) .nil (.cons 2 rfl .nil) fk_nil
          · refine sxo_isF (k := 97) rfl h65 ?_
            refine sxo_skip rfl rfl rfl ?_
            refine sxo_skip rfl rfl rfl ?_
            refine sxo_skip rfl rfl rfl ?_
            refine sxo_pick (b := false) rfl rfl rfl rfl ?_
            refine sxo_nil ?_
            exact sxq_meetP (false, ()) (lk_cons rfl (lk_cons rfl (lk_cons rfl (lk_cons rfl lk_nil)))) .nil (.cons 1 rfl .nil) fk_nil
        · rintro ⟨x69, _⟩
          try dsimp only
          refine sxo_take (os := _) rfl ?_
          refine sxo_move rfl rfl rfl ?_
          refine sxo_join 4 (fun ((x74, _) : (Bool × Unit)) => [(11, .int .i64 x18.2.2), (13, .int .i64 x25.2), (106, .bool x74)]) (fun ((x74, _) : (Bool × Unit)) => []) (fun ((x74, _) : (Bool × Unit)) => []) (fun ((x74, _) : (Bool × Unit)) => []) (fun ((x74, _) : (Bool × Unit)) => M_L_graphBegun_j5 F x18 x25 x74) ?_ ?_
          · refine sxo_take (os := _) rfl ?_
            refine sxo_if (fun h70 => ?_) (fun h70 => ?_)
            · refine sxo_isT (k := 102) rfl h70 ?_
              refine sxo_move rfl rfl rfl ?_
              refine sxo_slit (vs := [.int .i64 2, .int .i64 1, .int .i64 0]) (ys := ([2, 1, 0] : List Int)) (eI_ok .i64) (by decide) rfl Try.underlying32 tf3 rfl rfl rfl rfl rfl (by decide) (fun a89 c90 => ?_)
              refine sxo_call ent29 rfl rfl rfl (fun x91 e91 => C_R_SameInts F x18.2.1 a21 c22 ([2, 1, 0] : List Int) a89 c90 x91 e91) (.consR 1 (Ro (eI .i64) 3 1 (.slice a21 x18.2.1.length c22) x18.2.1) rfl (.consR 0 (Ro (eI .i64) 3 1 (.slice a89 ([2, 1, 0] : List Int).length c90) ([2, 1, 0] : List Int)) rfl .nil)) (fun x91 e91 => ?_)
              intro _
              refine sxo_pick (b := true) rfl rfl rfl rfl ?_
              refine sxo_nil ?_
              exact sxq_meetP (x91, ()) (lk_cons rfl (lk_cons rfl (lk_cons rfl lk_nil))) .nil .nil fk_nil
            · refine sxo_isF (k := 102) rfl h70 ?_
              refine sxo_skip rfl rfl rfl ?_
              refine sxo_skip rfl rfl rfl ?_
              refine sxo_skip rfl rfl rfl ?_
              refine sxo_pick (b := false) rfl rfl rfl rfl ?_
              refine sxo_nil ?_
              exact sxq_meetP (false, ()) (lk_cons rfl (lk_cons rfl (lk_cons rfl lk_nil))) .nil .nil fk_nil
          · rintro ⟨x74, _⟩
            try dsimp only
            refine sxo_take (os := _) rfl ?_
            refine sxo_move rfl rfl rfl ?_
            refine sxo_case 3 x74 [(13, .int .i64 x25.2), (110, .bool (x74 && ((x18.2.2 : Int) == 0)))] (fun h75 => ?_) (fun h75 => ?_) ?_
            · refine sxo_take (os := _) rfl ?_
              refine sxo_isT (k := 107) rfl h75 ?_
              refine sxo_move rfl rfl rfl ?_
              refine sxo_eql rfl rfl rfl rfl ?_
              refine sxo_pick (b := true) rfl rfl rfl rfl ?_
              refine sxo_again (d := 110) (v := .bool (x74 && ((x18.2.2 : Int) == 0))) rfl (by rw [h75]; simp only [Bool.true_and]) ?_
              refine sxo_nil ?_
              exact sxq_case (lk_cons rfl (lk_cons rfl lk_nil))
            · refine sxo_take (os := _) rfl ?_
              refine sxo_isF (k := 107) rfl h75 ?_
              refine sxo_skip rfl rfl rfl ?_
              refine sxo_skip rfl rfl rfl ?_
              refine sxo_pick (b := false) rfl rfl rfl rfl ?_
              refine sxo_again (d := 110) (v := .bool (x74 && ((x18.2.2 : Int) == 0))) rfl (by rw [h75]; simp only [Bool.false_and]) ?_
              refine sxo_nil ?_
              exact sxq_case (lk_cons rfl (lk_cons rfl lk_nil))
            refine sxo_take (os := _) rfl ?_
            refine sxo_move rfl rfl rfl ?_
            refine sxo_case 3 (x74 && ((x18.2.2 : Int) == 0)) [(114, .bool ((x74 && ((x18.2.2 : Int) == 0)) && ((x25.2 : Int) == 6)))] (fun h76 => ?_) (fun h76 => ?_) ?_
            · refine sxo_take (os := _) rfl ?_
              refine sxo_isT (k := 111) rfl h76 ?_
              refine sxo_move rfl rfl rfl ?_
              refine sxo_eql rfl rfl rfl rfl ?_
              refine sxo_pick (b := true) rfl rfl rfl rfl ?_
              refine sxo_again (d := 114) (v := .bool ((x74 && ((x18.2.2 : Int) == 0)) && ((x25.2 : Int) == 6))) rfl (by rw [h76]; simp only [Bool.true_and]) ?_
              refine sxo_nil ?_
              exact sxq_case (lk_cons rfl lk_nil)
            · refine sxo_take (os := _) rfl ?_
              refine sxo_isF (k := 111) rfl h76 ?_
              refine sxo_skip rfl rfl rfl ?_
              refine sxo_skip rfl rfl rfl ?_
              refine sxo_pick (b := false) rfl rfl rfl rfl ?_
              refine sxo_again (d := 114) (v := .bool ((x74 && ((x18.2.2 : Int) == 0)) && ((x25.2 : Int) == 6))) rfl (by rw [h76]; simp only [Bool.false_and]) ?_
              refine sxo_nil ?_
              exact sxq_case (lk_cons rfl lk_nil)
            refine sxo_take (os := _) rfl ?_
            refine sxo_move rfl rfl rfl ?_
            refine sxo_join 6 (fun ((x83, _) : (Bool × Unit)) => [(121, .bool x83)]) (fun ((x83, _) : (Bool × Unit)) => []) (fun ((x83, _) : (Bool × Unit)) => []) (fun ((x83, _) : (Bool × Unit)) => []) (fun ((x83, _) : (Bool × Unit)) => M_L_graphBegun_j6 F x83) ?_ ?_
            · refine sxo_take (os := _) rfl ?_
              refine sxo_if (fun h77 => ?_) (fun h77 => ?_)
              · refine sxo_isT (k := 115) rfl h77 ?_
                refine sxo_slit (vs := [.int .i64 1]) (ys := ([1] : List Int)) (eI_ok .i64) (by decide) rfl Try.underlying32 tf3 rfl rfl rfl rfl rfl (by decide) (fun a84 c85 => ?_)
                refine sxo_freeze 0 rfl ?_
                refine sxo_slit (vs := [.slice a84 ([1] : List Int).length c85]) (ys := ([(([1] : List Int), (a84, c85))] : List (List Int × (Option Addr × Nat)))) eN32_ok (by decide) rfl Try.underlying22 tf32 rfl rfl rfl rfl rfl (by decide) (fun a86 c87 => ?_)
                refine sxo_nestF (inn := iN32) ([([1] : List Int)] : List (List Int)) ([(a84, c85)] : List (Option Addr × Nat)) 0 rfl rfl (fk_cons 0 rfl fk_nil) ?_
                refine sxo_build (cells := [.slice a86 ([([1] : List Int)] : List (List Int)).length c87]) rfl st24 rfl (by kernel_rfl) rfl ?_
                refine sxo_call ent26 rfl rfl rfl (fun x88 e88 => C_graph_Check F ([([1] : List Int)] : List (List Int)) a86 (c87, ([(a84, c85)] : List (Option Addr × Nat))) x88 e88) (.consF 0 rfl .nil) (fun x88 e88 => ?_)
                intro _
                refine sxo_eql rfl rfl rfl rfl ?_
                refine sxo_pick (b := true) rfl rfl rfl rfl ?_
                refine sxo_nil ?_
                exact sxq_meetP (((x88 : Int) == 3), ()) (lk_cons rfl lk_nil) .nil .nil fk_nil
              · refine sxo_isF (k := 115) rfl h77 ?_
                refine sxo_skip rfl rfl rfl ?_
                refine sxo_skip rfl rfl rfl ?_
                refine sxo_skip rfl rfl rfl ?_
                refine sxo_skip rfl rfl rfl ?_
                refine sxo_skip rfl rfl rfl ?_
                refine sxo_pick (b := false) rfl rfl rfl rfl ?_
                refine sxo_nil ?_
                exact sxq_meetP (false, ()) (lk_cons rfl lk_nil) .nil .nil fk_nil
            · rintro ⟨x83, _⟩
              try dsimp only
              refine sxo_take (os := _) rfl ?_
              refine sxo_assign rfl rfl rfl ?_
              refine sxo_nil ?_
              refine sxq_next ?_
              refine sxc_ret ?_
              exact sxq_doneP () (.inl rfl) (res1 rfl rfl) (fun h => by subst h; rfl) (fun h => by subst h; exact .nil)

theorem C_R_SameGraph (F : Nat) (x1 : List (List Int)) (a2 : Option Addr) (c3 : (Nat × List (Option Addr × Nat))) (x4 : List (List Int)) (a5 : Option Addr) (c6 : (Nat × List (Option Addr × Nat))) (r : Bool) (hm : M_R_SameGraph F x1 x4 = some r) :
    Pure Try.prog 28 [.agg #[.slice a2 x1.length c3.1], .agg #[.slice a5 x4.length c6.1]] [SlN eN32 iN32 1 (.slice a2 x1.length c3.1) x1 c3.2, SlN eN32 iN32 1 (.slice a5 x4.length c6.1) x4 c6.2] Unit (fun _ => .bool r) (fun _ => []) (fun _ => []) := by
  refine pure_of Try.func28 rfl Try.ntmps28 rfl hm (fun w => ?_)
  refine sxc_env (l' := [(0, .agg #[.slice a2 x1.length c3.1]), (1, .agg #[.slice a5 x4.length c6.1])]) rfl ?_
  refine sxc_seq ?_
  refine sxc_region ?_
  refine sxo_box rfl rfl rfl (fun g7 => ?_)
  refine sxo_box rfl rfl rfl (fun g8 => ?_)
  refine sxo_assign rfl rfl rfl ?_
  refine sxo_nil ?_
  refine sxq_next ?_
  refine sxc_seq ?_
  refine sxc_region ?_
  refine sxo_fieldAddr rfl rfl ff24_0 rfl ?_
  refine sxo_loadB (i := 1) rfl rfl tf22 rfl rfl (fun _ => rfl) rfl rfl ?_
  refine sxo_fieldAddr rfl rfl ff24_0 rfl ?_
  refine sxo_loadB (i := 0) rfl rfl tf22 rfl rfl (fun _ => rfl) rfl rfl ?_
  refine sxo_call ent51 rfl rfl rfl (fun x9 e9 => C_R_SameLists F x1 a2 c3 x4 a5 c6 x9 e9) (.consF 0 rfl (.consF 1 rfl .nil)) (fun x9 e9 => ?_)
  intro _
  refine sxo_assign rfl rfl rfl ?_
  refine sxo_nil ?_
  refine sxq_next ?_
  refine sxc_ret ?_
  exact sxq_doneP () (.inl rfl) (res1 rfl rfl) (fun h => by subst h; rfl) (fun h => by subst h; exact .nil)

set_option maxHeartbeats 4000000 in
theorem C_L_GraphTells (F : Nat) (x1 : List (List Int)) (a2 : Option Addr) (c3 : (Nat × List (Option Addr × Nat))) (x4 : Int) (x5 : List (Int × Int)) (a6 : Option Addr) (c7 : Nat) (r : Bool) (hm : M_L_GraphTells F x1 x4 x5 = some r) :
    Pure Try.prog 3 [.agg #[.slice a2 x1.length c3.1], .int .i64 x4, .slice a6 x5.length c7] [SlN eN32 iN32 1 (.slice a2 x1.length c3.1) x1 c3.2, Sl eS44 2 (.slice a6 x5.length c7) x5] Unit (fun _ => .bool r) (fun _ => []) (fun _ => []) := by
  refine pure_of Try.func3 rfl Try.ntmps3 rfl hm (fun w => ?_)
  refine sxc_env (l' := [(0, .agg #[.slice a2 x1.length c3.1]), (1, .int .i64 x4), (2, .slice a6 x5.length c7)]) rfl ?_
  refine sxc_seq ?_
  refine sxc_region ?_
  refine sxo_box rfl rfl rfl (fun g8 => ?_)
  refine sxo_assign rfl rfl rfl ?_
  refine sxo_nil ?_
  refine sxq_next ?_
  refine sxc_seq ?_
  refine sxc_region ?_
  refine sxo_loadB (i := 0) rfl rfl tf24 rfl rfl (by simp) rfl rfl ?_
  refine sxo_call ent15 rfl rfl rfl (fun x9 e9 => C_graph_Arcs F x1 a2 c3 x9 e9) (.consF 0 rfl .nil) (fun x9 e9 => ?_)
  rintro ⟨a10, c11⟩
  refine sxo_move rfl rfl rfl ?_
  refine sxo_extract rfl rfl rfl rfl ?_
  refine sxo_extract rfl rfl rfl rfl ?_
  refine sxo_assign rfl rfl rfl ?_
  refine sxo_assign rfl rfl rfl ?_
  refine sxo_nil ?_
  refine sxq_next ?_
  refine sxc_seq ?_
  refine sxc_region ?_
  refine sxo_move rfl rfl rfl ?_
  refine sxo_move rfl rfl rfl ?_
  refine sxo_call ent16 rfl rfl rfl (fun x12 e12 => C_graph_Of F x4 x5 a6 c7 x12 e12) (.consF 1 rfl .nil) (fun x12 e12 => ?_)
  rintro ⟨a13, c14⟩
  refine sxo_move rfl rfl rfl ?_
  refine sxo_extract rfl rfl rfl rfl ?_
  refine sxo_extract rfl rfl rfl rfl ?_
  refine sxo_alloc rfl tf24 rfl (fun g15 => ?_)
  refine sxo_storeB (i := 0) rfl rfl rfl tf24 rfl rfl rfl rfl rfl ?_
  refine sxo_assign rfl rfl rfl ?_
  refine sxo_nil ?_
  refine sxq_next ?_
  refine sxc_seq ?_
  refine sxc_region ?_
  refine sxo_loadB (i := 1) rfl rfl tf24 rfl rfl (by simp) rfl rfl ?_
  refine sxo_call ent17 rfl rfl rfl (fun x16 e16 => C_graph_Turn F x1 a2 c3 x16 e16) (.consF 0 rfl .nil) (fun x16 e16 => ?_)
  rintro ⟨a17, c18⟩
  refine sxo_move rfl rfl rfl ?_
  refine sxo_extract rfl rfl rfl rfl ?_
  refine sxo_extract rfl rfl rfl rfl ?_
  refine sxo_alloc rfl tf24 rfl (fun g19 => ?_)
  refine sxo_storeB (i := 0) rfl rfl rfl tf24 rfl rfl rfl rfl rfl ?_
  refine sxo_assign rfl rfl rfl ?_
  refine sxo_nil ?_
  refine sxq_next ?_
  refine sxc_seq ?_
  refine sxc_region ?_
  refine sxo_loadB (i := 2) rfl rfl tf24 rfl rfl (by simp) rfl rfl ?_
  refine sxo_call ent18 rfl rfl rfl (fun x20 e20 => C_graph_Both F x1 a2 c3 x20 e20) (.consF 0 rfl .nil) (fun x20 e20 => ?_)
  rintro ⟨a21, c22⟩
  refine sxo_move rfl rfl rfl ?_
  refine sxo_extract rfl rfl rfl rfl ?_
  refine sxo_extract rfl rfl rfl rfl ?_
  refine sxo_alloc rfl tf24 rfl (fun g23 => ?_)
  refine sxo_storeB (i := 0) rfl rfl rfl tf24 rfl rfl rfl rfl rfl ?_
  refine sxo_assign rfl rfl rfl ?_
  refine sxo_nil ?_
  refine sxq_next ?_
  refine sxc_seq ?_
  refine sxc_region ?_
  refine sxo_loadB (i := 3) rfl rfl tf24 rfl rfl (by simp) rfl rfl ?_
  refine sxo_callM ent19 rfl rfl rfl (fun x24 e24 => C_graph_Degrees F x1 a2 c3 x24 e24) .nil .nil (.consF 0 rfl .nil) (fun x24 e24 => ?_)
  rintro ⟨⟨a25, c26⟩, ⟨a27, c28⟩⟩
  refine sxo_move rfl rfl rfl ?_
  refine sxo_extract rfl rfl rfl rfl ?_
  refine sxo_extract rfl rfl rfl rfl ?_
  refine sxo_extract rfl rfl rfl rfl ?_
  refine sxo_assign rfl rfl rfl ?_
  refine sxo_assign rfl rfl rfl ?_
  refine sxo_assign rfl rfl rfl ?_
  refine sxo_nil ?_
  refine sxq_next ?_
  refine sxc_seq ?_
  refine sxc_region ?_
  refine sxo_loadB (i := 3) rfl rfl tf24 rfl rfl (by simp) rfl rfl ?_
  refine sxo_call ent20 rfl rfl rfl (fun x29 e29 => C_R_GraphCheck F x1 a2 c3 x29 e29) (.consF 0 rfl .nil) (fun x29 e29 => ?_)
  intro _
  refine sxo_assign rfl rfl rfl ?_
  refine sxo_nil ?_
  refine sxq_next ?_
  refine sxc_seq ?_
  refine sxc_region ?_
  refine sxo_move rfl rfl rfl ?_
  refine sxo_move rfl rfl rfl ?_
  refine sxo_call ent21 rfl rfl rfl (fun x30 e30 => C_R_GraphOf F x4 x5 a6 c7 x30 e30) (.consF 1 rfl .nil) (fun x30 e30 => ?_)
  rintro ⟨a31, c32⟩
  refine sxo_move rfl rfl rfl ?_
  refine sxo_extract rfl rfl rfl rfl ?_
  refine sxo_extract rfl rfl rfl rfl ?_
  refine sxo_alloc rfl tf24 rfl (fun g33 => ?_)
  refine sxo_storeB (i := 0) rfl rfl rfl tf24 rfl rfl rfl rfl rfl ?_
  refine sxo_assign rfl rfl rfl ?_
  refine sxo_nil ?_
  refine sxq_next ?_
  refine sxc_seq ?_
  refine sxc_region ?_
  refine sxo_assign rfl rfl rfl ?_
  refine sxo_nil ?_
  refine sxq_next ?_
  refine sxc_seq ?_
  refine sxc_region ?_
  refine sxo_alloc rfl tf24 rfl (fun g34 => ?_)
  refine sxo_alloc rfl tf24 rfl (fun g35 => ?_)
  refine sxo_nil ?_
  refine sxq_next ?_
  refine sxc_seq ?_
  refine sxc_region ?_
  refine sxo_assign rfl rfl rfl ?_
  refine sxo_assign rfl rfl rfl ?_
  refine sxo_nil ?_
  refine sxq_next ?_
  refine sxc_seq ?_
  refine sxc_region ?_
  refine sxo_move rfl rfl rfl ?_
  refine sxo_assign rfl rfl rfl ?_
  refine sxo_nil ?_
  refine sxq_next ?_
  refine sxc_join (fun (((x355, x358, x361, x362, x365, x368), (a353, c354, a356, c357, a359, c360, a363, c364, a366, c367)) : ((List (Int × Int) × List Int × List Int × Int × List (List Int) × List (List Int)) × (Option Addr × Nat × Option Addr × Nat × Option Addr × Nat × Option Addr × (Nat × List (Option Addr × Nat)) × Option Addr × (Nat × List (Option Addr × Nat))))) => [(3, .pointer (some ⟨g8, 0, none⟩)), (7, .slice a10 x9.1.length c11), (8, .int .i64 x9.2), (9, .pointer (some ⟨g15, 0, none⟩)), (10, .int .i64 x12.2), (11, .pointer (some ⟨g19, 0, none⟩)), (12, .int .i64 x16.2), (13, .pointer (some ⟨g23, 0, none⟩)), (14, .int .i64 x20.2), (15, .slice a25 x24.1.length c26), (16, .slice a27 x24.2.1.length c28), (17, .int .i64 x24.2.2), (18, .int .i64 x29), (19, .pointer (some ⟨g33, 0, none⟩)), (20, .int .i64 x30.2), (21, .slice a353 x355.length c354), (22, .pointer (some ⟨g34, 0, none⟩)), (23, .pointer (some ⟨g35, 0, none⟩)), (24, .slice a356 x358.length c357), (25, .slice a359 x361.length c360), (26, .int .i64 x362)]) (fun (((x355, x358, x361, x362, x365, x368), (a353, c354, a356, c357, a359, c360, a363, c364, a366, c367)) : ((List (Int × Int) × List Int × List Int × Int × List (List Int) × List (List Int)) × (Option Addr × Nat × Option Addr × Nat × Option Addr × Nat × Option Addr × (Nat × List (Option Addr × Nat)) × Option Addr × (Nat × List (Option Addr × Nat))))) => [⟨g35, 24, [.slice a363 x365.length c364.1]⟩, ⟨g34, 24, [.slice a366 x368.length c367.1]⟩, ⟨g33, 24, [.slice a31 x30.1.length c32.1]⟩, ⟨g23, 24, [.slice a21 x20.1.length c22.1]⟩, ⟨g19, 24, [.slice a17 x16.1.length c18.1]⟩, ⟨g15, 24, [.slice a13 x12.1.length c14.1]⟩, ⟨g8, 24, [.slice a2 x1.length c3.1]⟩]) (fun (((x355, x358, x361, x362, x365, x368), (a353, c354, a356, c357, a359, c360, a363, c364, a366, c367)) : ((List (Int × Int) × List Int × List Int × Int × List (List Int) × List (List Int)) × (Option Addr × Nat × Option Addr × Nat × Option Addr × Nat × Option Addr × (Nat × List (Option Addr × Nat)) × Option Addr × (Nat × List (Option Addr × Nat))))) => [Ro eS44 44 2 (.slice a10 x9.1.length c11) x9.1, Ro (eI .i64) 3 1 (.slice a25 x24.1.length c26) x24.1, Ro (eI .i64) 3 1 (.slice a27 x24.2.1.length c28) x24.2.1, Ro eS44 44 2 (.slice a353 x355.length c354) x355, Ro (eI .i64) 3 1 (.slice a356 x358.length c357) x358, Ro (eI .i64) 3 1 (.slice a359 x361.length c360) x361, RoN eN32 rN32 32 1 (.slice a363 x365.length c364.1) x365 c364.2 [], RoN eN32 rN32 32 1 (.slice a366 x368.length c367.1) x368 c367.2 [], RoN eN32 rN32 32 1 (.slice a31 x30.1.length c32.1) x30.1 c32.2 [], RoN eN32 rN32 32 1 (.slice a21 x20.1.length c22.1) x20.1 c22.2 [], RoN eN32 rN32 32 1 (.slice a17 x16.1.length c18.1) x16.1 c18.2 [], RoN eN32 rN32 32 1 (.slice a13 x12.1.length c14.1) x12.1 c14.2 []]) (fun (((x355, x358, x361, x362, x365, x368), (a353, c354, a356, c357, a359, c360, a363, c364, a366, c367)) : ((List (Int × Int) × List Int × List Int × Int × List (List Int) × List (List Int)) × (Option Addr × Nat × Option Addr × Nat × Option Addr × Nat × Option Addr × (Nat × List (Option Addr × Nat)) × Option Addr × (Nat × List (Option Addr × Nat))))) => [SlN eN32 iN32 1 (.slice a2 x1.length c3.1) x1 c3.2]) (fun (((x355, x358, x361, x362, x365, x368), _) : ((List (Int × Int) × List Int × List Int × Int × List (List Int) × List (List Int)) × (Option Addr × Nat × Option Addr × Nat × Option Addr × Nat × Option Addr × (Nat × List (Option Addr × Nat)) × Option Addr × (Nat × List (Option Addr × Nat))))) => M_L_GraphTells_j5 F x1 x9 x12 x16 x20 x24 x29 x30 x355 x358 x361 x362 x365 x368) ?_ ?_
  · refine sxc_seq ?_
    refine sxc_region ?_
    refine sxo_move rfl rfl rfl ?_
    refine sxo_eql rfl rfl rfl rfl ?_
    refine sxo_nil ?_
    refine sxq_next ?_
    refine sxc_if rfl (fun h687 => ?_) (fun h687 => ?_)
    · refine sxc_seq ?_
      refine sxb_draw mixed [] [⟨g35, 24, [.slice none 0 0]⟩, ⟨g33, 24, [.slice a31 x30.1.length c32.1]⟩, ⟨g23, 24, [.slice a21 x20.1.length c22.1]⟩, ⟨g19, 24, [.slice a17 x16.1.length c18.1]⟩, ⟨g15, 24, [.slice a13 x12.1.length c14.1]⟩, ⟨g8, 24, [.slice a2 x1.length c3.1]⟩] [SlN eN32 iN32 1 (.slice a2 x1.length c3.1) x1 c3.2, Sl eS44 2 (.slice a6 x5.length c7) x5] (.cons 0 rfl (.cons 1 rfl (.cons 1 rfl (.cons 1 rfl (.cons 1 rfl (.cons 1 rfl .nil)))))) (gk_F 0 rfl (gk_F 1 rfl gk_nil)) 6 rfl ?_
      refine sxb_take 0 (.agg #[.slice a2 x1.length c3.1]) [] rfl rfl rfl rfl (by kernel_rfl) (by kernel_rfl) (by kernel_rfl) (by kernel_rfl) (by kernel_rfl) (by kernel_rfl) rfl (show _ = #[true, false, false, false, false, false] from rfl) (yv_loadB (i := 5) rfl tf24 rfl rfl (by simp) rfl) ?_
      refine sxb_take 2 (.agg #[.slice a2 x1.length c3.1]) [] rfl rfl rfl rfl (by kernel_rfl) (by kernel_rfl) (by kernel_rfl) (by kernel_rfl) (by kernel_rfl) (by kernel_rfl) rfl (show _ = #[true, false, true, false, false, false] from rfl) (yv_loadB (i := 5) rfl tf24 rfl rfl (by simp) rfl) ?_
      refine sxb_step 1 rfl (by kernel_rfl) (show _ = #[true, true, true, false, false, false] from rfl) ?_
      refine sxo_call ent22 rfl rfl rfl (fun x409 e409 => C_R_GraphArcs F x1 a2 c3 x409 e409) (.consF 0 rfl .nil) (fun x409 e409 => ?_)
      rintro ⟨a410, c411⟩
      refine sxo_nil ?_
      refine sxq_anyB (.cons 0 rfl (.cons 1 rfl (.cons 1 rfl (.cons 1 rfl (.cons 1 rfl (.cons 1 rfl .nil)))))) (gk_F 0 rfl (gk_F 1 rfl gk_nil)) ?_
      refine sxb_step 3 rfl (by kernel_rfl) (show _ = #[true, true, true, true, false, false] from rfl) ?_
      refine sxo_call ent23 rfl rfl rfl (fun x412 e412 => C_R_GraphTurn F x1 a2 c3 x412 e412) (.consF 0 rfl .nil) (fun x412 e412 => ?_)
      rintro ⟨a413, c414⟩
      refine sxo_nil ?_
      refine sxq_anyB (.cons 0 rfl (.cons 1 rfl (.cons 1 rfl (.cons 1 rfl (.cons 1 rfl (.cons 1 rfl .nil)))))) (gk_F 0 rfl (gk_F 1 rfl gk_nil)) ?_
      refine sxb_takeP 4 (.slice a410 x409.length c411) rfl rfl rfl rfl (by kernel_rfl) (by kernel_rfl) (by kernel_rfl) (by kernel_rfl) (by kernel_rfl) rfl (show _ = #[true, true, true, true, true, false] from rfl) (yv_pv rfl) ?_
      refine sxb_step 5 rfl (by kernel_rfl) (show _ = #[true, true, true, true, true, true] from rfl) ?_
      refine sxo_storeB (i := 1) rfl rfl rfl tf24 rfl rfl rfl rfl rfl ?_
      refine sxo_nil ?_
      refine sxq_anyB (.cons 0 rfl (.cons 1 rfl (.cons 1 rfl (.cons 1 rfl (.cons 1 rfl (.cons 1 rfl .nil)))))) (gk_F 0 rfl (gk_F 1 rfl gk_nil)) ?_
      refine sxb_done (by kernel_rfl) ?_
      refine sxq_np ?_ (by intro c h; cases h)
      refine sxq_next ?_
      refine sxc_seq ?_
      refine sxc_region ?_
      refine sxo_loadB (i := 6) rfl rfl tf24 rfl rfl (by simp) rfl rfl ?_
      refine sxo_call ent24 rfl rfl rfl (fun x415 e415 => C_R_GraphBoth F x1 a2 c3 x415 e415) (.consF 0 rfl .nil) (fun x415 e415 => ?_)
      rintro ⟨a416, c417⟩
      refine sxo_move rfl rfl rfl ?_
      refine sxo_extract rfl rfl rfl rfl ?_
      refine sxo_extract rfl rfl rfl rfl ?_
      refine sxo_storeB (i := 0) rfl rfl rfl tf24 rfl rfl rfl rfl rfl ?_
      refine sxo_assign rfl rfl rfl ?_
      refine sxo_nil ?_
      refine sxq_next ?_
      refine sxc_seq ?_
      refine sxc_region ?_
      refine sxo_assign rfl rfl rfl ?_
      refine sxo_nil ?_
      refine sxq_next ?_
      refine sxc_block ?_
      refine sxc_nilrow Int (eI .i64) 3 1 ?_
      refine sxc_nilrow Int (eI .i64) 3 1 ?_
      refine sxc_loopP (fun (((x509, x512, x513), (a507, c508, a510, c511)) : ((List Int × List Int × Int) × (Option Addr × Nat × Option Addr × Nat))) => [(3, .pointer (some ⟨g8, 0, none⟩)), (7, .slice a10 x9.1.length c11), (8, .int .i64 x9.2), (9, .pointer (some ⟨g15, 0, none⟩)), (10, .int .i64 x12.2), (11, .pointer (some ⟨g19, 0, none⟩)), (12, .int .i64 x16.2), (13, .pointer (some ⟨g23, 0, none⟩)), (14, .int .i64 x20.2), (15, .slice a25 x24.1.length c26), (16, .slice a27 x24.2.1.length c28), (17, .int .i64 x24.2.2), (18, .int .i64 x29), (19, .pointer (some ⟨g33, 0, none⟩)), (20, .int .i64 x30.2), (21, .slice a410 x409.length c411), (22, .pointer (some ⟨g34, 0, none⟩)), (23, .pointer (some ⟨g35, 0, none⟩)), (24, .slice a507 x509.length c508), (25, .slice a510 x512.length c511), (26, .int .i64 x415.2), (27, .int .i64 x513)]) (fun (((x509, x512, x513), (a507, c508, a510, c511)) : ((List Int × List Int × Int) × (Option Addr × Nat × Option Addr × Nat))) => [⟨g35, 24, [.slice a416 x415.1.length c417.1]⟩, ⟨g34, 24, [.slice a413 x412.length c414.1]⟩, ⟨g33, 24, [.slice a31 x30.1.length c32.1]⟩, ⟨g23, 24, [.slice a21 x20.1.length c22.1]⟩, ⟨g19, 24, [.slice a17 x16.1.length c18.1]⟩, ⟨g15, 24, [.slice a13 x12.1.length c14.1]⟩, ⟨g8, 24, [.slice a2 x1.length c3.1]⟩]) (fun (((x509, x512, x513), (a507, c508, a510, c511)) : ((List Int × List Int × Int) × (Option Addr × Nat × Option Addr × Nat))) => [Ro eS44 44 2 (.slice a10 x9.1.length c11) x9.1, Ro (eI .i64) 3 1 (.slice a25 x24.1.length c26) x24.1, Ro (eI .i64) 3 1 (.slice a27 x24.2.1.length c28) x24.2.1, Ro eS44 44 2 (.slice a410 x409.length c411) x409, Ro (eI .i64) 3 1 (.slice a507 x509.length c508) x509, Ro (eI .i64) 3 1 (.slice a510 x512.length c511) x512, RoN eN32 rN32 32 1 (.slice a416 x415.1.length c417.1) x415.1 c417.2 [], RoN eN32 rN32 32 1 (.slice a413 x412.length c414.1) x412 c414.2 [], RoN eN32 rN32 32 1 (.slice a31 x30.1.length c32.1) x30.1 c32.2 [], RoN eN32 rN32 32 1 (.slice a21 x20.1.length c22.1) x20.1 c22.2 [], RoN eN32 rN32 32 1 (.slice a17 x16.1.length c18.1) x16.1 c18.2 [], RoN eN32 rN32 32 1 (.slice a13 x12.1.length c14.1) x12.1 c14.2 []]) (fun (((x509, x512, x513), (a507, c508, a510, c511)) : ((List Int × List Int × Int) × (Option Addr × Nat × Option Addr × Nat))) => [SlN eN32 iN32 1 (.slice a2 x1.length c3.1) x1 c3.2]) (fun k (s : ((List Int × List Int × Int) × (Option Addr × Nat × Option Addr × Nat))) => M_L_GraphTells_l15 F x1 x9 x12 x16 x20 x24 x29 x30 x409 x412 x415 k s.1) ((([] : List Int), ([] : List Int), 0), (none, 0, none, 0)) F (lk_cons rfl (lk_cons rfl (lk_cons rfl (lk_cons rfl (lk_cons rfl (lk_cons rfl (lk_cons rfl (lk_cons rfl (lk_cons rfl (lk_cons rfl (lk_cons rfl (lk_cons rfl (lk_cons rfl (lk_cons rfl (lk_cons rfl (lk_cons rfl (lk_cons rfl (lk_cons rfl (lk_cons rfl (lk_cons rfl (lk_cons rfl (lk_cons rfl lk_nil)))))))))))))))))))))) (.cons 0 rfl (.cons 0 rfl (.cons 0 rfl (.cons 0 rfl (.cons 0 rfl (.cons 0 rfl (.cons 0 rfl .nil))))))) (.cons 11 rfl (.cons 6 rfl (.cons 6 rfl (.cons 4 rfl (.cons 0 rfl (.cons 0 rfl (.cons 0 rfl (.cons 0 rfl (.cons 0 rfl (.cons 0 rfl (.cons 0 rfl (.cons 0 rfl .nil)))))))))))) (fk_cons 0 rfl fk_nil) (fun _ => rfl) ?_
      intro k600
      rintro ⟨⟨x509, x512, x513⟩, ⟨a507, c508, a510, c511⟩⟩
      try dsimp only
      refine sxc_meq (m' := M_L_GraphTells_b15 F x1 x9 x12 x16 x20 x24 x29 x30 x409 x412 x415 (M_L_GraphTells_l15 F x1 x9 x12 x16 x20 x24 x29 x30 x409 x412 x415 k600) x509 x512 x513) rfl ?_
      refine sxc_seq ?_
      refine sxc_seq ?_
      refine sxc_region ?_
      refine sxo_move rfl rfl rfl ?_
      refine sxo_fieldAddr rfl rfl ff24_0 rfl ?_
      refine sxo_loadB (i := 6) rfl rfl tf22 rfl rfl (fun _ => rfl) rfl rfl ?_
      refine sxo_len rfl Try.underlying22 rfl rfl ?_
      refine sxo_lss rfl rfl rfl rfl ?_
      refine sxo_nil ?_
      refine sxq_next ?_
      refine sxc_if rfl (fun h686 => ?_) (fun h686 => ?_)
      · refine sxc_skip ?_
        refine sxq_next ?_
        refine sxc_join (fun (((x643, x646), (a641, c642, a644, c645)) : ((List Int × List Int) × (Option Addr × Nat × Option Addr × Nat))) => [(3, .pointer (some ⟨g8, 0, none⟩)), (7, .slice a10 x9.1.length c11), (8, .int .i64 x9.2), (9, .pointer (some ⟨g15, 0, none⟩)), (10, .int .i64 x12.2), (11, .pointer (some ⟨g19, 0, none⟩)), (12, .int .i64 x16.2), (13, .pointer (some ⟨g23, 0, none⟩)), (14, .int .i64 x20.2), (15, .slice a25 x24.1.length c26), (16, .slice a27 x24.2.1.length c28), (17, .int .i64 x24.2.2), (18, .int .i64 x29), (19, .pointer (some ⟨g33, 0, none⟩)), (20, .int .i64 x30.2), (21, .slice a410 x409.length c411), (22, .pointer (some ⟨g34, 0, none⟩)), (23, .pointer (some ⟨g35, 0, none⟩)), (24, .slice a641 x643.length c642), (25, .slice a644 x646.length c645), (26, .int .i64 x415.2), (27, .int .i64 x513)]) (fun (((x643, x646), (a641, c642, a644, c645)) : ((List Int × List Int) × (Option Addr × Nat × Option Addr × Nat))) => [⟨g35, 24, [.slice a416 x415.1.length c417.1]⟩, ⟨g34, 24, [.slice a413 x412.length c414.1]⟩, ⟨g33, 24, [.slice a31 x30.1.length c32.1]⟩, ⟨g23, 24, [.slice a21 x20.1.length c22.1]⟩, ⟨g19, 24, [.slice a17 x16.1.length c18.1]⟩, ⟨g15, 24, [.slice a13 x12.1.length c14.1]⟩, ⟨g8, 24, [.slice a2 x1.length c3.1]⟩]) (fun (((x643, x646), (a641, c642, a644, c645)) : ((List Int × List Int) × (Option Addr × Nat × Option Addr × Nat))) => [Ro eS44 44 2 (.slice a10 x9.1.length c11) x9.1, Ro (eI .i64) 3 1 (.slice a25 x24.1.length c26) x24.1, Ro (eI .i64) 3 1 (.slice a27 x24.2.1.length c28) x24.2.1, Ro eS44 44 2 (.slice a410 x409.length c411) x409, Ro (eI .i64) 3 1 (.slice a641 x643.length c642) x643, Ro (eI .i64) 3 1 (.slice a644 x646.length c645) x646, RoN eN32 rN32 32 1 (.slice a416 x415.1.length c417.1) x415.1 c417.2 [], RoN eN32 rN32 32 1 (.slice a413 x412.length c414.1) x412 c414.2 [], RoN eN32 rN32 32 1 (.slice a31 x30.1.length c32.1) x30.1 c32.2 [], RoN eN32 rN32 32 1 (.slice a21 x20.1.length c22.1) x20.1 c22.2 [], RoN eN32 rN32 32 1 (.slice a17 x16.1.length c18.1) x16.1 c18.2 [], RoN eN32 rN32 32 1 (.slice a13 x12.1.length c14.1) x12.1 c14.2 []]) (fun (((x643, x646), (a641, c642, a644, c645)) : ((List Int × List Int) × (Option Addr × Nat × Option Addr × Nat))) => [SlN eN32 iN32 1 (.slice a2 x1.length c3.1) x1 c3.2]) (fun (((x643, x646), _) : ((List Int × List Int) × (Option Addr × Nat × Option Addr × Nat))) => M_L_GraphTells_j16 F (M_L_GraphTells_l15 F x1 x9 x12 x16 x20 x24 x29 x30 x409 x412 x415 k600) x513 x643 x646) ?_ ?_
        · refine sxc_block ?_
          refine sxc_idxN (j := 0) eN32_ok (by decide) rfl (fun x647 e647 g651 b648 o649 h650 => ?_)
          replace h650 : a2 = some ⟨b648, o649, none⟩ := h650
          refine sxc_idxP (j := 7) rfl (fun x652 e652 g653 h654 g655 h656 => ?_)
          replace h656 : a413 = some ⟨g655, 0, none⟩ := h656
          have h657 := own_of (k := x412.length) (c := c414.1) h656
          refine sxc_openN (i := 7) rfl h654 (List.not_mem_nil) ?_
          refine sxb_draw mixed [] [⟨g35, 24, [.slice a416 x415.1.length c417.1]⟩, ⟨g34, 24, [.slice a413 x412.length c414.1]⟩, ⟨g33, 24, [.slice a31 x30.1.length c32.1]⟩, ⟨g23, 24, [.slice a21 x20.1.length c22.1]⟩, ⟨g19, 24, [.slice a17 x16.1.length c18.1]⟩, ⟨g15, 24, [.slice a13 x12.1.length c14.1]⟩, ⟨g8, 24, [.slice a2 x1.length c3.1]⟩] [CellsAt b648 (o649 + x513.toNat * 1) (eN32 (x647, g651)), Sl (eI .i64) 1 (.slice g651.1 x647.length g651.2) x647, SlN eN32 iN32 1 (.slice a2 x1.length c3.1) x1 c3.2, CellsAt g655 (x513.toNat * 1) (eN32 (x652, g653))] (.cons 0 rfl (.cons 0 rfl (.cons 0 rfl (.cons 0 rfl (.cons 0 rfl (.cons 0 rfl (.cons 0 rfl .nil))))))) (gk_F 0 rfl (gk_F 1 rfl (gk_F 2 rfl (gk_R 1 rfl (at_rowN eN32_ok h654 h656) gk_nil)))) 20 rfl ?_
          refine sxb_takeP 0 (.slice a507 x509.length c508) rfl rfl rfl rfl (by kernel_rfl) (by kernel_rfl) (by kernel_rfl) (by kernel_rfl) (by kernel_rfl) rfl (show _ = #[true, false, false, false, false, false, false, false, false, false, false, false, false, false, false, false, false, false, false, false] from rfl) (yv_pv rfl) ?_
          refine sxb_takeP 1 (.pointer (some ⟨g8, 0, none⟩)) rfl rfl rfl rfl (by kernel_rfl) (by kernel_rfl) (by kernel_rfl) (by kernel_rfl) (by kernel_rfl) rfl (show _ = #[true, true, false, false, false, false, false, false, false, false, false, false, false, false, false, false, false, false, false, false] from rfl) (yv_fieldAddr rfl ff24_0) ?_
          refine sxb_take 2 (.slice a2 x1.length c3.1) [] rfl rfl rfl rfl (by kernel_rfl) (by kernel_rfl) (by kernel_rfl) (by kernel_rfl) (by kernel_rfl) (by kernel_rfl) rfl (show _ = #[true, true, true, false, false, false, false, false, false, false, false, false, false, false, false, false, false, false, false, false] from rfl) (yv_loadB (i := 6) rfl tf22 rfl rfl (fun _ => rfl) rfl) ?_
          refine sxb_takeP 3 (.int .i64 x513) rfl rfl rfl rfl (by kernel_rfl) (by kernel_rfl) (by kernel_rfl) (by kernel_rfl) (by kernel_rfl) rfl (show _ = #[true, true, true, true, false, false, false, false, false, false, false, false, false, false, false, false, false, false, false, false] from rfl) (yv_pv rfl) ?_
          refine sxb_again (d := 84) (v := .slice (some ⟨b648, o649, none⟩) x1.length c3.1) rfl (by rw [h650]) ?_
          refine sxb_takeP 4 (.pointer (some ⟨b648, (o649 + x513.toNat * 1), none⟩)) rfl rfl rfl rfl (by kernel_rfl) (by kernel_rfl) (by kernel_rfl) (by kernel_rfl) (by kernel_rfl) rfl (show _ = #[true, true, true, true, true, false, false, false, false, false, false, false, false, false, false, false, false, false, false, false] from rfl) (yv_idx Try.underlying22 tf32 rfl rfl (idx_get e647).1 (idx_lt e647)) ?_
          refine sxb_again (d := 84) (v := .slice a2 x1.length c3.1) rfl (by rw [h650]) ?_
          refine sxb_take 5 (.slice g651.1 x647.length g651.2) [] rfl rfl rfl rfl (by kernel_rfl) (by kernel_rfl) (by kernel_rfl) (by kernel_rfl) (by kernel_rfl) (by kernel_rfl) rfl (show _ = #[true, true, true, true, true, true, false, false, false, false, false, false, false, false, false, false, false, false, false, false] from rfl) (yv_loadF (j := 0) rfl tf32 rfl rfl (fun _ => rfl) rfl) ?_
          refine sxb_takeP 6 (.int .i64 (x647.length : Int)) rfl rfl rfl rfl (by kernel_rfl) (by kernel_rfl) (by kernel_rfl) (by kernel_rfl) (by kernel_rfl) rfl (show _ = #[true, true, true, true, true, true, true, false, false, false, false, false, false, false, false, false, false, false, false, false] from rfl) (yv_len Try.underlying32 rfl) ?_
          refine sxb_takeP 9 (.slice a510 x512.length c511) rfl rfl rfl rfl (by kernel_rfl) (by kernel_rfl) (by kernel_rfl) (by kernel_rfl) (by kernel_rfl) rfl (show _ = #[true, true, true, true, true, true, true, false, false, true, false, false, false, false, false, false, false, false, false, false] from rfl) (yv_pv rfl) ?_
          refine sxb_takeP 10 (.pointer (some ⟨g34, 0, none⟩)) rfl rfl rfl rfl (by kernel_rfl) (by kernel_rfl) (by kernel_rfl) (by kernel_rfl) (by kernel_rfl) rfl (show _ = #[true, true, true, true, true, true, true, false, false, true, true, false, false, false, false, false, false, false, false, false] from rfl) (yv_fieldAddr rfl ff24_0) ?_
          refine sxb_take 11 (.slice a413 x412.length c414.1) [] rfl rfl rfl rfl (by kernel_rfl) (by kernel_rfl) (by kernel_rfl) (by kernel_rfl) (by kernel_rfl) (by kernel_rfl) rfl (show _ = #[true, true, true, true, true, true, true, false, false, true, true, true, false, false, false, false, false, false, false, false] from rfl) (yv_loadB (i := 1) rfl tf22 rfl rfl (fun _ => rfl) rfl) ?_
          refine sxb_takeP 12 (.int .i64 x513) rfl rfl rfl rfl (by kernel_rfl) (by kernel_rfl) (by kernel_rfl) (by kernel_rfl) (by kernel_rfl) rfl (show _ = #[true, true, true, true, true, true, true, false, false, true, true, true, true, false, false, false, false, false, false, false] from rfl) (yv_pv rfl) ?_
          refine sxb_again (d := 93) (v := .slice (some ⟨g655, 0, none⟩) x412.length c414.1) rfl (by rw [h656]) ?_
          refine sxb_takeP 13 (.pointer (some ⟨g655, x513.toNat * 1, none⟩)) rfl rfl rfl rfl (by kernel_rfl) (by kernel_rfl) (by kernel_rfl) (by kernel_rfl) (by kernel_rfl) rfl (show _ = #[true, true, true, true, true, true, true, false, false, true, true, true, true, true, false, false, false, false, false, false] from rfl) (yv_idxO Try.underlying22 tf32 rfl rfl (idx_get e652).1 (idx_lt e652)) ?_
          refine sxb_again (d := 93) (v := .slice a413 x412.length c414.1) rfl (by rw [h656]) ?_
          refine sxb_take 14 (.slice g653.1 x652.length g653.2) [] rfl rfl rfl rfl (by kernel_rfl) (by kernel_rfl) (by kernel_rfl) (by kernel_rfl) (by kernel_rfl) (by kernel_rfl) rfl (show _ = #[true, true, true, true, true, true, true, false, false, true, true, true, true, true, true, false, false, false, false, false] from rfl) (yv_loadF (j := 3) rfl tf32 rfl rfl (fun _ => rfl) rfl) ?_
          refine sxb_takeP 15 (.int .i64 (x652.length : Int)) rfl rfl rfl rfl (by kernel_rfl) (by kernel_rfl) (by kernel_rfl) (by kernel_rfl) (by kernel_rfl) rfl (show _ = #[true, true, true, true, true, true, true, false, false, true, true, true, true, true, true, true, false, false, false, false] from rfl) (yv_len Try.underlying32 rfl) ?_
          refine sxb_two 7 16 rfl rfl (by kernel_rfl) (show _ = #[true, true, true, true, true, true, true, true, false, true, true, true, true, true, true, true, false, false, false, false] from rfl) (show _ = #[true, true, true, true, true, true, true, false, false, true, true, true, true, true, true, true, true, false, false, false] from rfl) ?_ ?_
          · refine sxo_slit (vs := [.int .i64 (x647.length : Int)]) (ys := ([(x647.length : Int)] : List Int)) (eI_ok .i64) (by decide) rfl Try.underlying32 tf3 rfl rfl rfl rfl rfl (by decide) (fun a658 c659 => ?_)
            refine sxo_nil ?_
            refine sxq_anyB (.cons 0 rfl (.cons 0 rfl (.cons 0 rfl (.cons 0 rfl (.cons 0 rfl (.cons 0 rfl (.cons 0 rfl .nil))))))) (gk_F 0 rfl (gk_F 1 rfl (gk_F 2 rfl (gk_R 2 rfl (at_rowN eN32_ok h654 h656) gk_nil)))) ?_
            refine sxb_two 8 16 rfl rfl (by kernel_rfl) (show _ = #[true, true, true, true, true, true, true, true, true, true, true, true, true, true, true, true, false, false, false, false] from rfl) (show _ = #[true, true, true, true, true, true, true, true, false, true, true, true, true, true, true, true, true, false, false, false] from rfl) ?_ ?_
            · refine sxo_app 7 (eI_ok .i64) rfl Try.underlying32 tf3 rfl rfl rfl rfl rfl (.inl ⟨0, _, rfl⟩) rfl rfl (fun x660 e660 a661 c662 => ?_)
              refine sxo_nil ?_
              refine sxq_anyB (.cons 0 rfl (.cons 0 rfl (.cons 0 rfl (.cons 0 rfl (.cons 0 rfl (.cons 0 rfl (.cons 0 rfl .nil))))))) (gk_F 0 rfl (gk_F 1 rfl (gk_F 2 rfl (gk_R 3 rfl (at_rowN eN32_ok h654 h656) gk_nil)))) ?_
              refine sxb_step 16 rfl (by kernel_rfl) (show _ = #[true, true, true, true, true, true, true, true, true, true, true, true, true, true, true, true, true, false, false, false] from rfl) ?_
              refine sxo_slit (vs := [.int .i64 (x652.length : Int)]) (ys := ([(x652.length : Int)] : List Int)) (eI_ok .i64) (by decide) rfl Try.underlying32 tf3 rfl rfl rfl rfl rfl (by decide) (fun a663 c664 => ?_)
              refine sxo_nil ?_
              refine sxq_anyB (.cons 0 rfl (.cons 0 rfl (.cons 0 rfl (.cons 0 rfl (.cons 0 rfl (.cons 0 rfl (.cons 0 rfl .nil))))))) (gk_F 0 rfl (gk_F 1 rfl (gk_F 2 rfl (gk_R 4 rfl (at_rowN eN32_ok h654 h656) gk_nil)))) ?_
              refine sxb_step 17 rfl (by kernel_rfl) (show _ = #[true, true, true, true, true, true, true, true, true, true, true, true, true, true, true, true, true, true, false, false] from rfl) ?_
              refine sxo_app 9 (eI_ok .i64) rfl Try.underlying32 tf3 rfl rfl rfl rfl rfl (.inl ⟨0, _, rfl⟩) rfl rfl (fun x665 e665 a666 c667 => ?_)
              refine sxo_nil ?_
              refine sxq_anyB (.cons 0 rfl (.cons 0 rfl (.cons 0 rfl (.cons 0 rfl (.cons 0 rfl (.cons 0 rfl (.cons 0 rfl .nil))))))) (gk_F 0 rfl (gk_F 1 rfl (gk_F 2 rfl (gk_R 5 rfl (at_rowN eN32_ok h654 h656) gk_nil)))) ?_
              refine sxb_takeP 18 (.slice a661 x660.length c662) rfl rfl rfl rfl (by kernel_rfl) (by kernel_rfl) (by kernel_rfl) (by kernel_rfl) (by kernel_rfl) rfl (show _ = #[true, true, true, true, true, true, true, true, true, true, true, true, true, true, true, true, true, true, true, false] from rfl) (yv_pv rfl) ?_
              refine sxb_takeP 19 (.slice a666 x665.length c667) rfl rfl rfl rfl (by kernel_rfl) (by kernel_rfl) (by kernel_rfl) (by kernel_rfl) (by kernel_rfl) rfl (show _ = #[true, true, true, true, true, true, true, true, true, true, true, true, true, true, true, true, true, true, true, true] from rfl) (yv_pv rfl) ?_
              refine sxb_done (by kernel_rfl) ?_
              refine sxq_np ?_ (by intro c h; cases h)
              refine sxq_blkN ?_
              refine sxq_closeN (rin := rN32) (p := (x652, g653)) (i := 4) (k := 0) (.cons 4 rfl .nil) rfl rfl h654 ?_
              exact sxq_meetP ((x660, x665), (a661, c662, a666, c667)) (lk_cons rfl (lk_cons rfl (lk_cons rfl (lk_cons rfl (lk_cons rfl (lk_cons rfl (lk_cons rfl (lk_cons rfl (lk_cons rfl (lk_cons rfl (lk_cons rfl (lk_cons rfl (lk_cons rfl (lk_cons rfl (lk_cons rfl (lk_cons rfl (lk_cons rfl (lk_cons rfl (lk_cons rfl (lk_cons rfl (lk_cons rfl (lk_cons rfl lk_nil)))))))))))))))))))))) (.cons 0 rfl (.cons 0 rfl (.cons 0 rfl (.cons 0 rfl (.cons 0 rfl (.cons 0 rfl (.cons 0 rfl .nil))))))) (.cons 5 rfl (.cons 5 rfl (.cons 5 rfl (.cons 5 rfl (.cons 3 rfl (.cons 1 rfl (.cons 3 rfl (.cons 0 rfl (.cons 2 rfl (.cons 2 rfl (.cons 2 rfl (.cons 2 rfl .nil)))))))))))) (fk_cons 2 rfl fk_nil)
            · refine sxo_meq (m' := ((app 8796093022208 x509 ([(x647.length : Int)] : List Int)).bind fun x670 => ((app 8796093022208 x512 ([(x652.length : Int)] : List Int)).bind fun x673 => M_L_GraphTells_j16 F (M_L_GraphTells_l15 F x1 x9 x12 x16 x20 x24 x29 x30 x409 x412 x415 k600) x513 x670 x673))) (rfl) ?_
              refine sxo_slit (vs := [.int .i64 (x652.length : Int)]) (ys := ([(x652.length : Int)] : List Int)) (eI_ok .i64) (by decide) rfl Try.underlying32 tf3 rfl rfl rfl rfl rfl (by decide) (fun a668 c669 => ?_)
              refine sxo_nil ?_
              refine sxq_anyB (.cons 0 rfl (.cons 0 rfl (.cons 0 rfl (.cons 0 rfl (.cons 0 rfl (.cons 0 rfl (.cons 0 rfl .nil))))))) (gk_F 0 rfl (gk_F 1 rfl (gk_F 2 rfl (gk_R 3 rfl (at_rowN eN32_ok h654 h656) gk_nil)))) ?_
              refine sxb_step 8 rfl (by kernel_rfl) (show _ = #[true, true, true, true, true, true, true, true, true, true, true, true, true, true, true, true, true, false, false, false] from rfl) ?_
              refine sxo_app 8 (eI_ok .i64) rfl Try.underlying32 tf3 rfl rfl rfl rfl rfl (.inl ⟨1, _, rfl⟩) rfl rfl (fun x670 e670 a671 c672 => ?_)
              refine sxo_nil ?_
              refine sxq_anyB (.cons 0 rfl (.cons 0 rfl (.cons 0 rfl (.cons 0 rfl (.cons 0 rfl (.cons 0 rfl (.cons 0 rfl .nil))))))) (gk_F 0 rfl (gk_F 1 rfl (gk_F 2 rfl (gk_R 4 rfl (at_rowN eN32_ok h654 h656) gk_nil)))) ?_
              refine sxb_step 17 rfl (by kernel_rfl) (show _ = #[true, true, true, true, true, true, true, true, true, true, true, true, true, true, true, true, true, true, false, false] from rfl) ?_
              refine sxo_app 9 (eI_ok .i64) rfl Try.underlying32 tf3 rfl rfl rfl rfl rfl (.inl ⟨1, _, rfl⟩) rfl rfl (fun x673 e673 a674 c675 => ?_)
              refine sxo_nil ?_
              refine sxq_anyB (.cons 0 rfl (.cons 0 rfl (.cons 0 rfl (.cons 0 rfl (.cons 0 rfl (.cons 0 rfl (.cons 0 rfl .nil))))))) (gk_F 0 rfl (gk_F 1 rfl (gk_F 2 rfl (gk_R 5 rfl (at_rowN eN32_ok h654 h656) gk_nil)))) ?_
              refine sxb_takeP 18 (.slice a671 x670.length c672) rfl rfl rfl rfl (by kernel_rfl) (by kernel_rfl) (by kernel_rfl) (by kernel_rfl) (by kernel_rfl) rfl (show _ = #[true, true, true, true, true, true, true, true, true, true, true, true, true, true, true, true, true, true, true, false] from rfl) (yv_pv rfl) ?_
              refine sxb_takeP 19 (.slice a674 x673.length c675) rfl rfl rfl rfl (by kernel_rfl) (by kernel_rfl) (by kernel_rfl) (by kernel_rfl) (by kernel_rfl) rfl (show _ = #[true, true, true, true, true, true, true, true, true, true, true, true, true, true, true, true, true, true, true, true] from rfl) (yv_pv rfl) ?_
              refine sxb_done (by kernel_rfl) ?_
              refine sxq_np ?_ (by intro c h; cases h)
              refine sxq_blkN ?_
              refine sxq_closeN (rin := rN32) (p := (x652, g653)) (i := 4) (k := 0) (.cons 4 rfl .nil) rfl rfl h654 ?_
              exact sxq_meetP ((x670, x673), (a671, c672, a674, c675)) (lk_cons rfl (lk_cons rfl (lk_cons rfl (lk_cons rfl (lk_cons rfl (lk_cons rfl (lk_cons rfl (lk_cons rfl (lk_cons rfl (lk_cons rfl (lk_cons rfl (lk_cons rfl (lk_cons rfl (lk_cons rfl (lk_cons rfl (lk_cons rfl (lk_cons rfl (lk_cons rfl (lk_cons rfl (lk_cons rfl (lk_cons rfl (lk_cons rfl lk_nil)))))))))))))))))))))) (.cons 0 rfl (.cons 0 rfl (.cons 0 rfl (.cons 0 rfl (.cons 0 rfl (.cons 0 rfl (.cons 0 rfl .nil))))))) (.cons 5 rfl (.cons 5 rfl (.cons 5 rfl (.cons 5 rfl (.cons 2 rfl (.cons 1 rfl (.cons 3 rfl (.cons 0 rfl (.cons 2 rfl (.cons 2 rfl (.cons 2 rfl (.cons 2 rfl .nil)))))))))))) (fk_cons 2 rfl fk_nil)
          · refine sxo_meq (m' := ((app 8796093022208 x509 ([(x647.length : Int)] : List Int)).bind fun x680 => ((app 8796093022208 x512 ([(x652.length : Int)] : List Int)).bind fun x683 => M_L_GraphTells_j16 F (M_L_GraphTells_l15 F x1 x9 x12 x16 x20 x24 x29 x30 x409 x412 x415 k600) x513 x680 x683))) (rfl) ?_
            refine sxo_slit (vs := [.int .i64 (x652.length : Int)]) (ys := ([(x652.length : Int)] : List Int)) (eI_ok .i64) (by decide) rfl Try.underlying32 tf3 rfl rfl rfl rfl rfl (by decide) (fun a676 c677 => ?_)
            refine sxo_nil ?_
            refine sxq_anyB (.cons 0 rfl (.cons 0 rfl (.cons 0 rfl (.cons 0 rfl (.cons 0 rfl (.cons 0 rfl (.cons 0 rfl .nil))))))) (gk_F 0 rfl (gk_F 1 rfl (gk_F 2 rfl (gk_R 2 rfl (at_rowN eN32_ok h654 h656) gk_nil)))) ?_
            refine sxb_step 7 rfl (by kernel_rfl) (show _ = #[true, true, true, true, true, true, true, true, false, true, true, true, true, true, true, true, true, false, false, false] from rfl) ?_
            refine sxo_slit (vs := [.int .i64 (x647.length : Int)]) (ys := ([(x647.length : Int)] : List Int)) (eI_ok .i64) (by decide) rfl Try.underlying32 tf3 rfl rfl rfl rfl rfl (by decide) (fun a678 c679 => ?_)
            refine sxo_nil ?_
            refine sxq_anyB (.cons 0 rfl (.cons 0 rfl (.cons 0 rfl (.cons 0 rfl (.cons 0 rfl (.cons 0 rfl (.cons 0 rfl .nil))))))) (gk_F 0 rfl (gk_F 1 rfl (gk_F 2 rfl (gk_R 3 rfl (at_rowN eN32_ok h654 h656) gk_nil)))) ?_
            refine sxb_step 8 rfl (by kernel_rfl) (show _ = #[true, true, true, true, true, true, true, true, true, true, true, true, true, true, true, true, true, false, false, false] from rfl) ?_
            refine sxo_app 8 (eI_ok .i64) rfl Try.underlying32 tf3 rfl rfl rfl rfl rfl (.inl ⟨0, _, rfl⟩) rfl rfl (fun x680 e680 a681 c682 => ?_)
            refine sxo_nil ?_
            refine sxq_anyB (.cons 0 rfl (.cons 0 rfl (.cons 0 rfl (.cons 0 rfl (.cons 0 rfl (.cons 0 rfl (.cons 0 rfl .nil))))))) (gk_F 0 rfl (gk_F 1 rfl (gk_F 2 rfl (gk_R 4 rfl (at_rowN eN32_ok h654 h656) gk_nil)))) ?_
            refine sxb_step 17 rfl (by kernel_rfl) (show _ = #[true, true, true, true, true, true, true, true, true, true, true, true, true, true, true, true, true, true, false, false] from rfl) ?_
            refine sxo_app 9 (eI_ok .i64) rfl Try.underlying32 tf3 rfl rfl rfl rfl rfl (.inl ⟨2, _, rfl⟩) rfl rfl (fun x683 e683 a684 c685 => ?_)
            refine sxo_nil ?_
            refine sxq_anyB (.cons 0 rfl (.cons 0 rfl (.cons 0 rfl (.cons 0 rfl (.cons 0 rfl (.cons 0 rfl (.cons 0 rfl .nil))))))) (gk_F 0 rfl (gk_F 1 rfl (gk_F 2 rfl (gk_R 5 rfl (at_rowN eN32_ok h654 h656) gk_nil)))) ?_
            refine sxb_takeP 18 (.slice a681 x680.length c682) rfl rfl rfl rfl (by kernel_rfl) (by kernel_rfl) (by kernel_rfl) (by kernel_rfl) (by kernel_rfl) rfl (show _ = #[true, true, true, true, true, true, true, true, true, true, true, true, true, true, true, true, true, true, true, false] from rfl) (yv_pv rfl) ?_
            refine sxb_takeP 19 (.slice a684 x683.length c685) rfl rfl rfl rfl (by kernel_rfl) (by kernel_rfl) (by kernel_rfl) (by kernel_rfl) (by kernel_rfl) rfl (show _ = #[true, true, true, true, true, true, true, true, true, true, true, true, true, true, true, true, true, true, true, true] from rfl) (yv_pv rfl) ?_
            refine sxb_done (by kernel_rfl) ?_
            refine sxq_np ?_ (by intro c h; cases h)
            refine sxq_blkN ?_
            refine sxq_closeN (rin := rN32) (p := (x652, g653)) (i := 4) (k := 0) (.cons 4 rfl .nil) rfl rfl h654 ?_
            exact sxq_meetP ((x680, x683), (a681, c682, a684, c685)) (lk_cons rfl (lk_cons rfl (lk_cons rfl (lk_cons rfl (lk_cons rfl (lk_cons rfl (lk_cons rfl (lk_cons rfl (lk_cons rfl (lk_cons rfl (lk_cons rfl (lk_cons rfl (lk_cons rfl (lk_cons rfl (lk_cons rfl (lk_cons rfl (lk_cons rfl (lk_cons rfl (lk_cons rfl (lk_cons rfl (lk_cons rfl (lk_cons rfl lk_nil)))))))))))))))))))))) (.cons 0 rfl (.cons 0 rfl (.cons 0 rfl (.cons 0 rfl (.cons 0 rfl (.cons 0 rfl (.cons 0 rfl .nil))))))) (.cons 5 rfl (.cons 5 rfl (.cons 5 rfl (.cons 5 rfl (.cons 2 rfl (.cons 1 rfl (.cons 3 rfl (.cons 0 rfl (.cons 2 rfl (.cons 2 rfl (.cons 2 rfl (.cons 2 rfl .nil)))))))))))) (fk_cons 2 rfl fk_nil)
        · rintro ⟨⟨x643, x646⟩, ⟨a641, c642, a644, c645⟩⟩
          try dsimp only
          refine sxc_region ?_
          refine sxo_move rfl rfl rfl ?_
          refine sxo_add rfl rfl rfl rfl ?_
          refine sxo_assign rfl rfl rfl ?_
          refine sxo_nil ?_
          exact sxq_againP ((x643, x646, iadd .i64 x513 1), (a641, c642, a644, c645)) (lk_cons rfl (lk_cons rfl (lk_cons rfl (lk_cons rfl (lk_cons rfl (lk_cons rfl (lk_cons rfl (lk_cons rfl (lk_cons rfl (lk_cons rfl (lk_cons rfl (lk_cons rfl (lk_cons rfl (lk_cons rfl (lk_cons rfl (lk_cons rfl (lk_cons rfl (lk_cons rfl (lk_cons rfl (lk_cons rfl (lk_cons rfl (lk_cons rfl lk_nil)))))))))))))))))))))) (.cons 0 rfl (.cons 0 rfl (.cons 0 rfl (.cons 0 rfl (.cons 0 rfl (.cons 0 rfl (.cons 0 rfl .nil))))))) (.cons 0 rfl (.cons 0 rfl (.cons 0 rfl (.cons 0 rfl (.cons 0 rfl (.cons 0 rfl (.cons 0 rfl (.cons 0 rfl (.cons 0 rfl (.cons 0 rfl (.cons 0 rfl (.cons 0 rfl .nil)))))))))))) (fk_cons 0 rfl fk_nil)
      · refine sxc_exit ?_
        refine sxq_thenX ?_
        refine sxq_thenX ?_
        refine sxq_blkX ?_
        exact sxq_meetP ((x409, x509, x512, x415.2, x415.1, x412), (a410, c411, a507, c508, a510, c511, a416, c417, a413, c414)) (lk_cons rfl (lk_cons rfl (lk_cons rfl (lk_cons rfl (lk_cons rfl (lk_cons rfl (lk_cons rfl (lk_cons rfl (lk_cons rfl (lk_cons rfl (lk_cons rfl (lk_cons rfl (lk_cons rfl (lk_cons rfl (lk_cons rfl (lk_cons rfl (lk_cons rfl (lk_cons rfl (lk_cons rfl (lk_cons rfl (lk_cons rfl lk_nil))))))))))))))))))))) (.cons 0 rfl (.cons 0 rfl (.cons 0 rfl (.cons 0 rfl (.cons 0 rfl (.cons 0 rfl (.cons 0 rfl .nil))))))) (.cons 0 rfl (.cons 0 rfl (.cons 0 rfl (.cons 0 rfl (.cons 0 rfl (.cons 0 rfl (.cons 0 rfl (.cons 0 rfl (.cons 0 rfl (.cons 0 rfl (.cons 0 rfl (.cons 0 rfl .nil)))))))))))) (fk_cons 0 rfl fk_nil)
    · refine sxc_skip ?_
      refine sxq_nilrow (Int × Int) eS44 44 2 ?_
      refine sxq_nilrow Int (eI .i64) 3 1 ?_
      refine sxq_nilrow Int (eI .i64) 3 1 ?_
      refine sxq_nilN (List Int) (Option Addr × Nat) eN32 rN32 32 1 ?_
      refine sxq_nilN (List Int) (Option Addr × Nat) eN32 rN32 32 1 ?_
      exact sxq_meetP ((([] : List (Int × Int)), ([] : List Int), ([] : List Int), x29, ([] : List (List Int)), ([] : List (List Int))), (none, 0, none, 0, none, 0, none, (0, ([] : List (Option Addr × Nat))), none, (0, ([] : List (Option Addr × Nat))))) (lk_cons rfl (lk_cons rfl (lk_cons rfl (lk_cons rfl (lk_cons rfl (lk_cons rfl (lk_cons rfl (lk_cons rfl (lk_cons rfl (lk_cons rfl (lk_cons rfl (lk_cons rfl (lk_cons rfl (lk_cons rfl (lk_cons rfl (lk_cons rfl (lk_cons rfl (lk_cons rfl (lk_cons rfl (lk_cons rfl (lk_cons rfl lk_nil))))))))))))))))))))) (.cons 0 rfl (.cons 0 rfl (.cons 0 rfl (.cons 0 rfl (.cons 0 rfl (.cons 0 rfl (.cons 0 rfl .nil))))))) (.cons 11 rfl (.cons 6 rfl (.cons 6 rfl (.cons 4 rfl (.cons 2 rfl (.cons 2 rfl (.cons 0 rfl (.cons 0 rfl (.cons 0 rfl (.cons 0 rfl (.cons 0 rfl (.cons 0 rfl .nil)))))))))))) (fk_cons 0 rfl fk_nil)
  · rintro ⟨⟨x355, x358, x361, x362, x365, x368⟩, ⟨a353, c354, a356, c357, a359, c360, a363, c364, a366, c367⟩⟩
    try dsimp only
    refine sxc_seq ?_
    refine sxc_region ?_
    refine sxo_call ent25 rfl rfl rfl (fun x369 e369 => C_L_graphBegun F  x369 e369) .nil (fun x369 e369 => ?_)
    intro _
    refine sxo_move rfl rfl rfl ?_
    refine sxo_join 5 (fun ((x372, _) : (Bool × Unit)) => [(7, .slice a10 x9.1.length c11), (8, .int .i64 x9.2), (9, .pointer (some ⟨g15, 0, none⟩)), (10, .int .i64 x12.2), (11, .pointer (some ⟨g19, 0, none⟩)), (12, .int .i64 x16.2), (13, .pointer (some ⟨g23, 0, none⟩)), (14, .int .i64 x20.2), (15, .slice a25 x24.1.length c26), (16, .slice a27 x24.2.1.length c28), (17, .int .i64 x24.2.2), (18, .int .i64 x29), (19, .pointer (some ⟨g33, 0, none⟩)), (20, .int .i64 x30.2), (21, .slice a353 x355.length c354), (22, .pointer (some ⟨g34, 0, none⟩)), (23, .pointer (some ⟨g35, 0, none⟩)), (24, .slice a356 x358.length c357), (25, .slice a359 x361.length c360), (26, .int .i64 x362), (106, .bool x372)]) (fun ((x372, _) : (Bool × Unit)) => [⟨g35, 24, [.slice a363 x365.length c364.1]⟩, ⟨g34, 24, [.slice a366 x368.length c367.1]⟩, ⟨g33, 24, [.slice a31 x30.1.length c32.1]⟩, ⟨g23, 24, [.slice a21 x20.1.length c22.1]⟩, ⟨g19, 24, [.slice a17 x16.1.length c18.1]⟩, ⟨g15, 24, [.slice a13 x12.1.length c14.1]⟩]) (fun ((x372, _) : (Bool × Unit)) => [Ro eS44 44 2 (.slice a10 x9.1.length c11) x9.1, Ro (eI .i64) 3 1 (.slice a25 x24.1.length c26) x24.1, Ro (eI .i64) 3 1 (.slice a27 x24.2.1.length c28) x24.2.1, Ro eS44 44 2 (.slice a353 x355.length c354) x355, Ro (eI .i64) 3 1 (.slice a356 x358.length c357) x358, Ro (eI .i64) 3 1 (.slice a359 x361.length c360) x361, RoN eN32 rN32 32 1 (.slice a363 x365.length c364.1) x365 c364.2 [], RoN eN32 rN32 32 1 (.slice a366 x368.length c367.1) x368 c367.2 [], RoN eN32 rN32 32 1 (.slice a31 x30.1.length c32.1) x30.1 c32.2 [], RoN eN32 rN32 32 1 (.slice a21 x20.1.length c22.1) x20.1 c22.2 [], RoN eN32 rN32 32 1 (.slice a17 x16.1.length c18.1) x16.1 c18.2 [], RoN eN32 rN32 32 1 (.slice a13 x12.1.length c14.1) x12.1 c14.2 []]) (fun ((x372, _) : (Bool × Unit)) => []) (fun ((x372, _) : (Bool × Unit)) => M_L_GraphTells_j6 F x9 x12 x16 x20 x24 x29 x30 x355 x358 x361 x362 x365 x368 x372) ?_ ?_
    · refine sxo_take (os := _) rfl ?_
      refine sxo_if (fun h370 => ?_) (fun h370 => ?_)
      · refine sxo_isT (k := 101) rfl h370 ?_
        refine sxo_loadB (i := 6) rfl rfl tf24 rfl rfl (by simp) rfl rfl ?_
        refine sxo_call ent26 rfl rfl rfl (fun x402 e402 => C_graph_Check F x1 a2 c3 x402 e402) (.consF 0 rfl .nil) (fun x402 e402 => ?_)
        intro _
        refine sxo_move rfl rfl rfl ?_
        refine sxo_eql rfl rfl rfl rfl ?_
        refine sxo_pick (b := true) rfl rfl rfl rfl ?_
        refine sxo_nil ?_
        exact sxq_meetP (((x402 : Int) == x29), ()) (lk_cons rfl (lk_cons rfl (lk_cons rfl (lk_cons rfl (lk_cons rfl (lk_cons rfl (lk_cons rfl (lk_cons rfl (lk_cons rfl (lk_cons rfl (lk_cons rfl (lk_cons rfl (lk_cons rfl (lk_cons rfl (lk_cons rfl (lk_cons rfl (lk_cons rfl (lk_cons rfl (lk_cons rfl (lk_cons rfl (lk_cons rfl lk_nil))))))))))))))))))))) (.cons 0 rfl (.cons 0 rfl (.cons 0 rfl (.cons 0 rfl (.cons 0 rfl (.cons 0 rfl .nil)))))) (.cons 0 rfl (.cons 0 rfl (.cons 0 rfl (.cons 0 rfl (.cons 0 rfl (.cons 0 rfl (.cons 0 rfl (.cons 0 rfl (.cons 0 rfl (.cons 0 rfl (.cons 0 rfl (.cons 0 rfl .nil)))))))))))) fk_nil
      · refine sxo_isF (k := 101) rfl h370 ?_
        refine sxo_skip rfl rfl rfl ?_
        refine sxo_skip rfl rfl rfl ?_
        refine sxo_skip rfl rfl rfl ?_
        refine sxo_skip rfl rfl rfl ?_
        refine sxo_pick (b := false) rfl rfl rfl rfl ?_
        refine sxo_nil ?_
        exact sxq_meetP (false, ()) (lk_cons rfl (lk_cons rfl (lk_cons rfl (lk_cons rfl (lk_cons rfl (lk_cons rfl (lk_cons rfl (lk_cons rfl (lk_cons rfl (lk_cons rfl (lk_cons rfl (lk_cons rfl (lk_cons rfl (lk_cons rfl (lk_cons rfl (lk_cons rfl (lk_cons rfl (lk_cons rfl (lk_cons rfl (lk_cons rfl (lk_cons rfl lk_nil))))))))))))))))))))) (.cons 0 rfl (.cons 0 rfl (.cons 0 rfl (.cons 0 rfl (.cons 0 rfl (.cons 0 rfl .nil)))))) (.cons 0 rfl (.cons 0 rfl (.cons 0 rfl (.cons 0 rfl (.cons 0 rfl (.cons 0 rfl (.cons 0 rfl (.cons 0 rfl (.cons 0 rfl (.cons 0 rfl (.cons 0 rfl (.cons 0 rfl .nil)))))))))))) fk_nil
    · rintro ⟨x372, _⟩
      try dsimp only
      refine sxo_take (os := _) rfl ?_
      refine sxo_move rfl rfl rfl ?_
      refine sxo_join 4 (fun ((x375, _) : (Bool × Unit)) => [(8, .int .i64 x9.2), (9, .pointer (some ⟨g15, 0, none⟩)), (10, .int .i64 x12.2), (11, .pointer (some ⟨g19, 0, none⟩)), (12, .int .i64 x16.2), (13, .pointer (some ⟨g23, 0, none⟩)), (14, .int .i64 x20.2), (15, .slice a25 x24.1.length c26), (16, .slice a27 x24.2.1.length c28), (17, .int .i64 x24.2.2), (18, .int .i64 x29), (19, .pointer (some ⟨g33, 0, none⟩)), (20, .int .i64 x30.2), (22, .pointer (some ⟨g34, 0, none⟩)), (23, .pointer (some ⟨g35, 0, none⟩)), (24, .slice a356 x358.length c357), (25, .slice a359 x361.length c360), (26, .int .i64 x362), (111, .bool x375)]) (fun ((x375, _) : (Bool × Unit)) => [⟨g35, 24, [.slice a363 x365.length c364.1]⟩, ⟨g34, 24, [.slice a366 x368.length c367.1]⟩, ⟨g33, 24, [.slice a31 x30.1.length c32.1]⟩, ⟨g23, 24, [.slice a21 x20.1.length c22.1]⟩, ⟨g19, 24, [.slice a17 x16.1.length c18.1]⟩, ⟨g15, 24, [.slice a13 x12.1.length c14.1]⟩]) (fun ((x375, _) : (Bool × Unit)) => [Ro (eI .i64) 3 1 (.slice a25 x24.1.length c26) x24.1, Ro (eI .i64) 3 1 (.slice a27 x24.2.1.length c28) x24.2.1, Ro (eI .i64) 3 1 (.slice a356 x358.length c357) x358, Ro (eI .i64) 3 1 (.slice a359 x361.length c360) x361, RoN eN32 rN32 32 1 (.slice a363 x365.length c364.1) x365 c364.2 [], RoN eN32 rN32 32 1 (.slice a366 x368.length c367.1) x368 c367.2 [], RoN eN32 rN32 32 1 (.slice a31 x30.1.length c32.1) x30.1 c32.2 [], RoN eN32 rN32 32 1 (.slice a21 x20.1.length c22.1) x20.1 c22.2 [], RoN eN32 rN32 32 1 (.slice a17 x16.1.length c18.1) x16.1 c18.2 [], RoN eN32 rN32 32 1 (.slice a13 x12.1.length c14.1) x12.1 c14.2 []]) (fun ((x375, _) : (Bool × Unit)) => []) (fun ((x375, _) : (Bool × Unit)) => M_L_GraphTells_j7 F x9 x12 x16 x20 x24 x29 x30 x358 x361 x362 x365 x368 x375) ?_ ?_
      · refine sxo_take (os := _) rfl ?_
        refine sxo_if (fun h373 => ?_) (fun h373 => ?_)
        · refine sxo_isT (k := 107) rfl h373 ?_
          refine sxo_move rfl rfl rfl ?_
          refine sxo_move rfl rfl rfl ?_
          refine sxo_call ent27 rfl rfl rfl (fun x401 e401 => C_R_SameArcs F x9.1 a10 c11 x355 a353 c354 x401 e401) (.consR 0 (Ro eS44 44 2 (.slice a10 x9.1.length c11) x9.1) rfl (.consR 3 (Ro eS44 44 2 (.slice a353 x355.length c354) x355) rfl .nil)) (fun x401 e401 => ?_)
          intro _
          refine sxo_pick (b := true) rfl rfl rfl rfl ?_
          refine sxo_nil ?_
          exact sxq_meetP (x401, ()) (lk_cons rfl (lk_cons rfl (lk_cons rfl (lk_cons rfl (lk_cons rfl (lk_cons rfl (lk_cons rfl (lk_cons rfl (lk_cons rfl (lk_cons rfl (lk_cons rfl (lk_cons rfl (lk_cons rfl (lk_cons rfl (lk_cons rfl (lk_cons rfl (lk_cons rfl (lk_cons rfl (lk_cons rfl lk_nil))))))))))))))))))) (.cons 0 rfl (.cons 0 rfl (.cons 0 rfl (.cons 0 rfl (.cons 0 rfl (.cons 0 rfl .nil)))))) (.cons 1 rfl (.cons 1 rfl (.cons 2 rfl (.cons 2 rfl (.cons 2 rfl (.cons 2 rfl (.cons 2 rfl (.cons 2 rfl (.cons 2 rfl (.cons 2 rfl .nil)))))))))) fk_nil
        · refine sxo_isF (k := 107) rfl h373 ?_
          refine sxo_skip rfl rfl rfl ?_
          refine sxo_skip rfl rfl rfl ?_
          refine sxo_skip rfl rfl rfl ?_
          refine sxo_pick (b := false) rfl rfl rfl rfl ?_
          refine sxo_nil ?_
          exact sxq_meetP (false, ()) (lk_cons rfl (lk_cons rfl (lk_cons rfl (lk_cons rfl (lk_cons rfl (lk_cons rfl (lk_cons rfl (lk_cons rfl (lk_cons rfl (lk_cons rfl (lk_cons rfl (lk_cons rfl (lk_cons rfl (lk_cons rfl (lk_cons rfl (lk_cons rfl (lk_cons rfl (lk_cons rfl (lk_cons rfl lk_nil))))))))))))))))))) (.cons 0 rfl (.cons 0 rfl (.cons 0 rfl (.cons 0 rfl (.cons 0 rfl (.cons 0 rfl .nil)))))) (.cons 1 rfl (.cons 1 rfl (.cons 2 rfl (.cons 2 rfl (.cons 2 rfl (.cons 2 rfl (.cons 2 rfl (.cons 2 rfl (.cons 2 rfl (.cons 2 rfl .nil)))))))))) fk_nil
      · rintro ⟨x375, _⟩
        try dsimp only
        refine sxo_take (os := _) rfl ?_
        refine sxo_move rfl rfl rfl ?_
        refine sxo_case 4 x375 [(9, .pointer (some ⟨g15, 0, none⟩)), (10, .int .i64 x12.2), (11, .pointer (some ⟨g19, 0, none⟩)), (12, .int .i64 x16.2), (13, .pointer (some ⟨g23, 0, none⟩)), (14, .int .i64 x20.2), (15, .slice a25 x24.1.length c26), (16, .slice a27 x24.2.1.length c28), (17, .int .i64 x24.2.2), (18, .int .i64 x29), (19, .pointer (some ⟨g33, 0, none⟩)), (20, .int .i64 x30.2), (22, .pointer (some ⟨g34, 0, none⟩)), (23, .pointer (some ⟨g35, 0, none⟩)), (24, .slice a356 x358.length c357), (25, .slice a359 x361.length c360), (26, .int .i64 x362), (116, .bool (x375 && ((x9.2 : Int) == x29)))] (fun h376 => ?_) (fun h376 => ?_) ?_
        · refine sxo_take (os := _) rfl ?_
          refine sxo_isT (k := 112) rfl h376 ?_
          refine sxo_move rfl rfl rfl ?_
          refine sxo_move rfl rfl rfl ?_
          refine sxo_eql rfl rfl rfl rfl ?_
          refine sxo_pick (b := true) rfl rfl rfl rfl ?_
          refine sxo_again (d := 116) (v := .bool (x375 && ((x9.2 : Int) == x29))) rfl (by rw [h376]; simp only [Bool.true_and]) ?_
          refine sxo_nil ?_
          exact sxq_case (lk_cons rfl (lk_cons rfl (lk_cons rfl (lk_cons rfl (lk_cons rfl (lk_cons rfl (lk_cons rfl (lk_cons rfl (lk_cons rfl (lk_cons rfl (lk_cons rfl (lk_cons rfl (lk_cons rfl (lk_cons rfl (lk_cons rfl (lk_cons rfl (lk_cons rfl (lk_cons rfl lk_nil))))))))))))))))))
        · refine sxo_take (os := _) rfl ?_
          refine sxo_isF (k := 112) rfl h376 ?_
          refine sxo_skip rfl rfl rfl ?_
          refine sxo_skip rfl rfl rfl ?_
          refine sxo_skip rfl rfl rfl ?_
          refine sxo_pick (b := false) rfl rfl rfl rfl ?_
          refine sxo_again (d := 116) (v := .bool (x375 && ((x9.2 : Int) == x29))) rfl (by rw [h376]; simp only [Bool.false_and]) ?_
          refine sxo_nil ?_
          exact sxq_case (lk_cons rfl (lk_cons rfl (lk_cons rfl (lk_cons rfl (lk_cons rfl (lk_cons rfl (lk_cons rfl (lk_cons rfl (lk_cons rfl (lk_cons rfl (lk_cons rfl (lk_cons rfl (lk_cons rfl (lk_cons rfl (lk_cons rfl (lk_cons rfl (lk_cons rfl (lk_cons rfl lk_nil))))))))))))))))))
        refine sxo_take (os := _) rfl ?_
        refine sxo_move rfl rfl rfl ?_
        refine sxo_join 4 (fun ((x379, _) : (Bool × Unit)) => [(10, .int .i64 x12.2), (11, .pointer (some ⟨g19, 0, none⟩)), (12, .int .i64 x16.2), (13, .pointer (some ⟨g23, 0, none⟩)), (14, .int .i64 x20.2), (15, .slice a25 x24.1.length c26), (16, .slice a27 x24.2.1.length c28), (17, .int .i64 x24.2.2), (18, .int .i64 x29), (20, .int .i64 x30.2), (22, .pointer (some ⟨g34, 0, none⟩)), (23, .pointer (some ⟨g35, 0, none⟩)), (24, .slice a356 x358.length c357), (25, .slice a359 x361.length c360), (26, .int .i64 x362), (121, .bool x379)]) (fun ((x379, _) : (Bool × Unit)) => [⟨g35, 24, [.slice a363 x365.length c364.1]⟩, ⟨g34, 24, [.slice a366 x368.length c367.1]⟩, ⟨g23, 24, [.slice a21 x20.1.length c22.1]⟩, ⟨g19, 24, [.slice a17 x16.1.length c18.1]⟩]) (fun ((x379, _) : (Bool × Unit)) => [Ro (eI .i64) 3 1 (.slice a25 x24.1.length c26) x24.1, Ro (eI .i64) 3 1 (.slice a27 x24.2.1.length c28) x24.2.1, Ro (eI .i64) 3 1 (.slice a356 x358.length c357) x358, Ro (eI .i64) 3 1 (.slice a359 x361.length c360) x361, RoN eN32 rN32 32 1 (.slice a363 x365.length c364.1) x365 c364.2 [], RoN eN32 rN32 32 1 (.slice a366 x368.length c367.1) x368 c367.2 [], RoN eN32 rN32 32 1 (.slice a21 x20.1.length c22.1) x20.1 c22.2 [], RoN eN32 rN32 32 1 (.slice a17 x16.1.length c18.1) x16.1 c18.2 []]) (fun ((x379, _) : (Bool × Unit)) => []) (fun ((x379, _) : (Bool × Unit)) => M_L_GraphTells_j8 F x12 x16 x20 x24 x29 x30 x358 x361 x362 x365 x368 x379) ?_ ?_
        · refine sxo_take (os := _) rfl ?_
          refine sxo_if (fun h377 => ?_) (fun h377 => ?_)
          · refine sxo_isT (k := 117) rfl h377 ?_
            refine sxo_loadB (i := 5) rfl rfl tf24 rfl rfl (by simp) rfl rfl ?_
            refine sxo_loadB (i := 2) rfl rfl tf24 rfl rfl (by simp) rfl rfl ?_
            refine sxo_call ent28 rfl rfl rfl (fun x400 e400 => C_R_SameGraph F x12.1 a13 c14 x30.1 a31 c32 x400 e400) (.consG 9 rfl (nest_sl rN32_in) (.consG 6 rfl (nest_sl rN32_in) .nil)) (fun x400 e400 => ?_)
            intro _
            refine sxo_pick (b := true) rfl rfl rfl rfl ?_
            refine sxo_nil ?_
            exact sxq_meetP (x400, ()) (lk_cons rfl (lk_cons rfl (lk_cons rfl (lk_cons rfl (lk_cons rfl (lk_cons rfl (lk_cons rfl (lk_cons rfl (lk_cons rfl (lk_cons rfl (lk_cons rfl (lk_cons rfl (lk_cons rfl (lk_cons rfl (lk_cons rfl (lk_cons rfl lk_nil)))))))))))))))) (.cons 0 rfl (.cons 0 rfl (.cons 1 rfl (.cons 1 rfl .nil)))) (.cons 0 rfl (.cons 0 rfl (.cons 0 rfl (.cons 0 rfl (.cons 0 rfl (.cons 0 rfl (.cons 1 rfl (.cons 1 rfl .nil)))))))) fk_nil
          · refine sxo_isF (k := 117) rfl h377 ?_
            refine sxo_skip rfl rfl rfl ?_
            refine sxo_skip rfl rfl rfl ?_
            refine sxo_skip rfl rfl rfl ?_
            refine sxo_pick (b := false) rfl rfl rfl rfl ?_
            refine sxo_nil ?_
            exact sxq_meetP (false, ()) (lk_cons rfl (lk_cons rfl (lk_cons rfl (lk_cons rfl (lk_cons rfl (lk_cons rfl (lk_cons rfl (lk_cons rfl (lk_cons rfl (lk_cons rfl (lk_cons rfl (lk_cons rfl (lk_cons rfl (lk_cons rfl (lk_cons rfl (lk_cons rfl lk_nil)))))))))))))))) (.cons 0 rfl (.cons 0 rfl (.cons 1 rfl (.cons 1 rfl .nil)))) (.cons 0 rfl (.cons 0 rfl (.cons 0 rfl (.cons 0 rfl (.cons 0 rfl (.cons 0 rfl (.cons 1 rfl (.cons 1 rfl .nil)))))))) fk_nil
        · rintro ⟨x379, _⟩
          try dsimp only
          refine sxo_take (os := _) rfl ?_
          refine sxo_move rfl rfl rfl ?_
          refine sxo_case 4 x379 [(11, .pointer (some ⟨g19, 0, none⟩)), (12, .int .i64 x16.2), (13, .pointer (some ⟨g23, 0, none⟩)), (14, .int .i64 x20.2), (15, .slice a25 x24.1.length c26), (16, .slice a27 x24.2.1.length c28), (17, .int .i64 x24.2.2), (18, .int .i64 x29), (22, .pointer (some ⟨g34, 0, none⟩)), (23, .pointer (some ⟨g35, 0, none⟩)), (24, .slice a356 x358.length c357), (25, .slice a359 x361.length c360), (26, .int .i64 x362), (126, .bool (x379 && ((x12.2 : Int) == x30.2)))] (fun h380 => ?_) (fun h380 => ?_) ?_
          · refine sxo_take (os := _) rfl ?_
            refine sxo_isT (k := 122) rfl h380 ?_
            refine sxo_move rfl rfl rfl ?_
            refine sxo_move rfl rfl rfl ?_
            refine sxo_eql rfl rfl rfl rfl ?_
            refine sxo_pick (b := true) rfl rfl rfl rfl ?_
            refine sxo_again (d := 126) (v := .bool (x379 && ((x12.2 : Int) == x30.2))) rfl (by rw [h380]; simp only [Bool.true_and]) ?_
            refine sxo_nil ?_
            exact sxq_case (lk_cons rfl (lk_cons rfl (lk_cons rfl (lk_cons rfl (lk_cons rfl (lk_cons rfl (lk_cons rfl (lk_cons rfl (lk_cons rfl (lk_cons rfl (lk_cons rfl (lk_cons rfl (lk_cons rfl (lk_cons rfl lk_nil))))))))))))))
          · refine sxo_take (os := _) rfl ?_
            refine sxo_isF (k := 122) rfl h380 ?_
            refine sxo_skip rfl rfl rfl ?_
            refine sxo_skip rfl rfl rfl ?_
            refine sxo_skip rfl rfl rfl ?_
            refine sxo_pick (b := false) rfl rfl rfl rfl ?_
            refine sxo_again (d := 126) (v := .bool (x379 && ((x12.2 : Int) == x30.2))) rfl (by rw [h380]; simp only [Bool.false_and]) ?_
            refine sxo_nil ?_
            exact sxq_case (lk_cons rfl (lk_cons rfl (lk_cons rfl (lk_cons rfl (lk_cons rfl (lk_cons rfl (lk_cons rfl (lk_cons rfl (lk_cons rfl (lk_cons rfl (lk_cons rfl (lk_cons rfl (lk_cons rfl (lk_cons rfl lk_nil))))))))))))))
          refine sxo_take (os := _) rfl ?_
          refine sxo_move rfl rfl rfl ?_
          refine sxo_join 4 (fun ((x383, _) : (Bool × Unit)) => [(12, .int .i64 x16.2), (13, .pointer (some ⟨g23, 0, none⟩)), (14, .int .i64 x20.2), (15, .slice a25 x24.1.length c26), (16, .slice a27 x24.2.1.length c28), (17, .int .i64 x24.2.2), (18, .int .i64 x29), (23, .pointer (some ⟨g35, 0, none⟩)), (24, .slice a356 x358.length c357), (25, .slice a359 x361.length c360), (26, .int .i64 x362), (131, .bool x383)]) (fun ((x383, _) : (Bool × Unit)) => [⟨g35, 24, [.slice a363 x365.length c364.1]⟩, ⟨g23, 24, [.slice a21 x20.1.length c22.1]⟩]) (fun ((x383, _) : (Bool × Unit)) => [Ro (eI .i64) 3 1 (.slice a25 x24.1.length c26) x24.1, Ro (eI .i64) 3 1 (.slice a27 x24.2.1.length c28) x24.2.1, Ro (eI .i64) 3 1 (.slice a356 x358.length c357) x358, Ro (eI .i64) 3 1 (.slice a359 x361.length c360) x361, RoN eN32 rN32 32 1 (.slice a363 x365.length c364.1) x365 c364.2 [], RoN eN32 rN32 32 1 (.slice a21 x20.1.length c22.1) x20.1 c22.2 []]) (fun ((x383, _) : (Bool × Unit)) => []) (fun ((x383, _) : (Bool × Unit)) => M_L_GraphTells_j9 F x16 x20 x24 x29 x358 x361 x362 x365 x383) ?_ ?_
          · refine sxo_take (os := _) rfl ?_
            refine sxo_if (fun h381 => ?_) (fun h381 => ?_)
            · refine sxo_isT (k := 127) rfl h381 ?_
              refine sxo_loadB (i := 3) rfl rfl tf24 rfl rfl (by simp) rfl rfl ?_
              refine sxo_loadB (i := 1) rfl rfl tf24 rfl rfl (by simp) rfl rfl ?_
              refine sxo_call ent28 rfl rfl rfl (fun x399 e399 => C_R_SameGraph F x16.1 a17 c18 x368 a366 c367 x399 e399) (.consG 7 rfl (nest_sl rN32_in) (.consG 5 rfl (nest_sl rN32_in) .nil)) (fun x399 e399 => ?_)
              intro _
              refine sxo_pick (b := true) rfl rfl rfl rfl ?_
              refine sxo_nil ?_
              exact sxq_meetP (x399, ()) (lk_cons rfl (lk_cons rfl (lk_cons rfl (lk_cons rfl (lk_cons rfl (lk_cons rfl (lk_cons rfl (lk_cons rfl (lk_cons rfl (lk_cons rfl (lk_cons rfl (lk_cons rfl lk_nil)))))))))))) (.cons 0 rfl (.cons 1 rfl .nil)) (.cons 0 rfl (.cons 0 rfl (.cons 0 rfl (.cons 0 rfl (.cons 0 rfl (.cons 1 rfl .nil)))))) fk_nil
            · refine sxo_isF (k := 127) rfl h381 ?_
              refine sxo_skip rfl rfl rfl ?_
              refine sxo_skip rfl rfl rfl ?_
              refine sxo_skip rfl rfl rfl ?_
              refine sxo_pick (b := false) rfl rfl rfl rfl ?_
              refine sxo_nil ?_
              exact sxq_meetP (false, ()) (lk_cons rfl (lk_cons rfl (lk_cons rfl (lk_cons rfl (lk_cons rfl (lk_cons rfl (lk_cons rfl (lk_cons rfl (lk_cons rfl (lk_cons rfl (lk_cons rfl (lk_cons rfl lk_nil)))))))))))) (.cons 0 rfl (.cons 1 rfl .nil)) (.cons 0 rfl (.cons 0 rfl (.cons 0 rfl (.cons 0 rfl (.cons 0 rfl (.cons 1 rfl .nil)))))) fk_nil
          · rintro ⟨x383, _⟩
            try dsimp only
            refine sxo_take (os := _) rfl ?_
            refine sxo_move rfl rfl rfl ?_
            refine sxo_case 4 x383 [(13, .pointer (some ⟨g23, 0, none⟩)), (14, .int .i64 x20.2), (15, .slice a25 x24.1.length c26), (16, .slice a27 x24.2.1.length c28), (17, .int .i64 x24.2.2), (18, .int .i64 x29), (23, .pointer (some ⟨g35, 0, none⟩)), (24, .slice a356 x358.length c357), (25, .slice a359 x361.length c360), (26, .int .i64 x362), (136, .bool (x383 && ((x16.2 : Int) == x29)))] (fun h384 => ?_) (fun h384 => ?_) ?_
            · refine sxo_take (os := _) rfl ?_
              refine sxo_isT (k := 132) rfl h384 ?_
              refine sxo_move rfl rfl rfl ?_
              refine sxo_move rfl rfl rfl ?_
              refine sxo_eql rfl rfl rfl rfl ?_
              refine sxo_pick (b := true) rfl rfl rfl rfl ?_
              refine sxo_again (d := 136) (v := .bool (x383 && ((x16.2 : Int) == x29))) rfl (by rw [h384]; simp only [Bool.true_and]) ?_
              refine sxo_nil ?_
              exact sxq_case (lk_cons rfl (lk_cons rfl (lk_cons rfl (lk_cons rfl (lk_cons rfl (lk_cons rfl (lk_cons rfl (lk_cons rfl (lk_cons rfl (lk_cons rfl (lk_cons rfl lk_nil)))))))))))
            · refine sxo_take (os := _) rfl ?_
              refine sxo_isF (k := 132) rfl h384 ?_
              refine sxo_skip rfl rfl rfl ?_
              refine sxo_skip rfl rfl rfl ?_
              refine sxo_skip rfl rfl rfl ?_
              refine sxo_pick (b := false) rfl rfl rfl rfl ?_
              refine sxo_again (d := 136) (v := .bool (x383 && ((x16.2 : Int) == x29))) rfl (by rw [h384]; simp only [Bool.false_and]) ?_
              refine sxo_nil ?_
              exact sxq_case (lk_cons rfl (lk_cons rfl (lk_cons rfl (lk_cons rfl (lk_cons rfl (lk_cons rfl (lk_cons rfl (lk_cons rfl (lk_cons rfl (lk_cons rfl (lk_cons rfl lk_nil)))))))))))
            refine sxo_take (os := _) rfl ?_
            refine sxo_move rfl rfl rfl ?_
            refine sxo_join 4 (fun ((x387, _) : (Bool × Unit)) => [(14, .int .i64 x20.2), (15, .slice a25 x24.1.length c26), (16, .slice a27 x24.2.1.length c28), (17, .int .i64 x24.2.2), (18, .int .i64 x29), (24, .slice a356 x358.length c357), (25, .slice a359 x361.length c360), (26, .int .i64 x362), (141, .bool x387)]) (fun ((x387, _) : (Bool × Unit)) => []) (fun ((x387, _) : (Bool × Unit)) => [Ro (eI .i64) 3 1 (.slice a25 x24.1.length c26) x24.1, Ro (eI .i64) 3 1 (.slice a27 x24.2.1.length c28) x24.2.1, Ro (eI .i64) 3 1 (.slice a356 x358.length c357) x358, Ro (eI .i64) 3 1 (.slice a359 x361.length c360) x361]) (fun ((x387, _) : (Bool × Unit)) => []) (fun ((x387, _) : (Bool × Unit)) => M_L_GraphTells_j10 F x20 x24 x29 x358 x361 x362 x387) ?_ ?_
            · refine sxo_take (os := _) rfl ?_
              refine sxo_if (fun h385 => ?_) (fun h385 => ?_)
              · refine sxo_isT (k := 137) rfl h385 ?_
                refine sxo_loadB (i := 1) rfl rfl tf24 rfl rfl (by simp) rfl rfl ?_
                refine sxo_loadB (i := 0) rfl rfl tf24 rfl rfl (by simp) rfl rfl ?_
                refine sxo_call ent28 rfl rfl rfl (fun x398 e398 => C_R_SameGraph F x20.1 a21 c22 x365 a363 c364 x398 e398) (.consG 5 rfl (nest_sl rN32_in) (.consG 4 rfl (nest_sl rN32_in) .nil)) (fun x398 e398 => ?_)
                intro _
                refine sxo_pick (b := true) rfl rfl rfl rfl ?_
                refine sxo_nil ?_
                exact sxq_meetP (x398, ()) (lk_cons rfl (lk_cons rfl (lk_cons rfl (lk_cons rfl (lk_cons rfl (lk_cons rfl (lk_cons rfl (lk_cons rfl (lk_cons rfl lk_nil))))))))) .nil (.cons 0 rfl (.cons 0 rfl (.cons 0 rfl (.cons 0 rfl .nil)))) fk_nil
              · refine sxo_isF (k := 137) rfl h385 ?_
                refine sxo_skip rfl rfl rfl ?_
                refine sxo_skip rfl rfl rfl ?_
                refine sxo_skip rfl rfl rfl ?_
                refine sxo_pick (b := false) rfl rfl rfl rfl ?_
                refine sxo_nil ?_
                exact sxq_meetP (false, ()) (lk_cons rfl (lk_cons rfl (lk_cons rfl (lk_cons rfl (lk_cons rfl (lk_cons rfl (lk_cons rfl (lk_cons rfl (lk_cons rfl lk_nil))))))))) .nil (.cons 0 rfl (.cons 0 rfl (.cons 0 rfl (.cons 0 rfl .nil)))) fk_nil
            · rintro ⟨x387, _⟩
              try dsimp only
              refine sxo_take (os := _) rfl ?_
              refine sxo_move rfl rfl rfl ?_
              refine sxo_case 4 x387 [(15, .slice a25 x24.1.length c26), (16, .slice a27 x24.2.1.length c28), (17, .int .i64 x24.2.2), (18, .int .i64 x29), (24, .slice a356 x358.length c357), (25, .slice a359 x361.length c360), (146, .bool (x387 && ((x20.2 : Int) == x362)))] (fun h388 => ?_) (fun h388 => ?_) ?_
              · refine sxo_take (os := _) rfl ?_
                refine sxo_isT (k := 142) rfl h388 ?_
                refine sxo_move rfl rfl rfl ?_
                refine sxo_move rfl rfl rfl ?_
                refine sxo_eql rfl rfl rfl rfl ?_
                refine sxo_pick (b := true) rfl rfl rfl rfl ?_
                refine sxo_again (d := 146) (v := .bool (x387 && ((x20.2 : Int) == x362))) rfl (by rw [h388]; simp only [Bool.true_and]) ?_
                refine sxo_nil ?_
                exact sxq_case (lk_cons rfl (lk_cons rfl (lk_cons rfl (lk_cons rfl (lk_cons rfl (lk_cons rfl (lk_cons rfl lk_nil)))))))
              · refine sxo_take (os := _) rfl ?_
                refine sxo_isF (k := 142) rfl h388 ?_
                refine sxo_skip rfl rfl rfl ?_
                refine sxo_skip rfl rfl rfl ?_
                refine sxo_skip rfl rfl rfl ?_
                refine sxo_pick (b := false) rfl rfl rfl rfl ?_
                refine sxo_again (d := 146) (v := .bool (x387 && ((x20.2 : Int) == x362))) rfl (by rw [h388]; simp only [Bool.false_and]) ?_
                refine sxo_nil ?_
                exact sxq_case (lk_cons rfl (lk_cons rfl (lk_cons rfl (lk_cons rfl (lk_cons rfl (lk_cons rfl (lk_cons rfl lk_nil)))))))
              refine sxo_take (os := _) rfl ?_
              refine sxo_move rfl rfl rfl ?_
              refine sxo_join 4 (fun ((x391, _) : (Bool × Unit)) => [(16, .slice a27 x24.2.1.length c28), (17, .int .i64 x24.2.2), (18, .int .i64 x29), (25, .slice a359 x361.length c360), (151, .bool x391)]) (fun ((x391, _) : (Bool × Unit)) => []) (fun ((x391, _) : (Bool × Unit)) => [Ro (eI .i64) 3 1 (.slice a27 x24.2.1.length c28) x24.2.1, Ro (eI .i64) 3 1 (.slice a359 x361.length c360) x361]) (fun ((x391, _) : (Bool × Unit)) => []) (fun ((x391, _) : (Bool × Unit)) => M_L_GraphTells_j11 F x24 x29 x361 x391) ?_ ?_
              · refine sxo_take (os := _) rfl ?_
                refine sxo_if (fun h389 => ?_) (fun h389 => ?_)
                · refine sxo_isT (k := 147) rfl h389 ?_
                  refine sxo_move rfl rfl rfl ?_
                  refine sxo_move rfl rfl rfl ?_
                  refine sxo_call ent29 rfl rfl rfl (fun x397 e397 => C_R_SameInts F x24.1 a25 c26 x358 a356 c357 x397 e397) (.consR 0 (Ro (eI .i64) 3 1 (.slice a25 x24.1.length c26) x24.1) rfl (.consR 2 (Ro (eI .i64) 3 1 (.slice a356 x358.length c357) x358) rfl .nil)) (fun x397 e397 => ?_)
                  intro _
                  refine sxo_pick (b := true) rfl rfl rfl rfl ?_
                  refine sxo_nil ?_
                  exact sxq_meetP (x397, ()) (lk_cons rfl (lk_cons rfl (lk_cons rfl (lk_cons rfl (lk_cons rfl lk_nil))))) .nil (.cons 1 rfl (.cons 2 rfl .nil)) fk_nil
                · refine sxo_isF (k := 147) rfl h389 ?_
                  refine sxo_skip rfl rfl rfl ?_
                  refine sxo_skip rfl rfl rfl ?_
                  refine sxo_skip rfl rfl rfl ?_
                  refine sxo_pick (b := false) rfl rfl rfl rfl ?_
                  refine sxo_nil ?_
                  exact sxq_meetP (false, ()) (lk_cons rfl (lk_cons rfl (lk_cons rfl (lk_cons rfl (lk_cons rfl lk_nil))))) .nil (.cons 1 rfl (.cons 2 rfl .nil)) fk_nil
              · rintro ⟨x391, _⟩
                try dsimp only
                refine sxo_take (os := _) rfl ?_
                refine sxo_move rfl rfl rfl ?_
                refine sxo_join 4 (fun ((x394, _) : (Bool × Unit)) => [(17, .int .i64 x24.2.2), (18, .int .i64 x29), (156, .bool x394)]) (fun ((x394, _) : (Bool × Unit)) => []) (fun ((x394, _) : (Bool × Unit)) => []) (fun ((x394, _) : (Bool × Unit)) => []) (fun ((x394, _) : (Bool × Unit)) => M_L_GraphTells_j12 F x24 x29 x394) ?_ ?_
                · refine sxo_take (os := _) rfl ?_
                  refine sxo_if (fun h392 => ?_) (fun h392 => ?_)
                  · refine sxo_isT (k := 152) rfl h392 ?_
                    refine sxo_move rfl rfl rfl ?_
                    refine sxo_move rfl rfl rfl ?_
                    refine sxo_call ent29 rfl rfl rfl (fun x396 e396 => C_R_SameInts F x24.2.1 a27 c28 x361 a359 c360 x396 e396) (.consR 0 (Ro (eI .i64) 3 1 (.slice a27 x24.2.1.length c28) x24.2.1) rfl (.consR 1 (Ro (eI .i64) 3 1 (.slice a359 x361.length c360) x361) rfl .nil)) (fun x396 e396 => ?_)
                    intro _
                    refine sxo_pick (b := true) rfl rfl rfl rfl ?_
                    refine sxo_nil ?_
                    exact sxq_meetP (x396, ()) (lk_cons rfl (lk_cons rfl (lk_cons rfl lk_nil))) .nil .nil fk_nil
                  · refine sxo_isF (k := 152) rfl h392 ?_
                    refine sxo_skip rfl rfl rfl ?_
                    refine sxo_skip rfl rfl rfl ?_
                    refine sxo_skip rfl rfl rfl ?_
                    refine sxo_pick (b := false) rfl rfl rfl rfl ?_
                    refine sxo_nil ?_
                    exact sxq_meetP (false, ()) (lk_cons rfl (lk_cons rfl (lk_cons rfl lk_nil))) .nil .nil fk_nil
                · rintro ⟨x394, _⟩
                  try dsimp only
                  refine sxo_take (os := _) rfl ?_
                  refine sxo_move rfl rfl rfl ?_
                  refine sxo_case 4 x394 [(161, .bool (x394 && ((x24.2.2 : Int) == x29)))] (fun h395 => ?_) (fun h395 => ?_) ?_
                  · refine sxo_take (os := _) rfl ?_
                    refine sxo_isT (k := 157) rfl h395 ?_
                    refine sxo_move rfl rfl rfl ?_
                    refine sxo_move rfl rfl rfl ?_
                    refine sxo_eql rfl rfl rfl rfl ?_
                    refine sxo_pick (b := true) rfl rfl rfl rfl ?_
                    refine sxo_again (d := 161) (v := .bool (x394 && ((x24.2.2 : Int) == x29))) rfl (by rw [h395]; simp only [Bool.true_and]) ?_
                    refine sxo_nil ?_
                    exact sxq_case (lk_cons rfl lk_nil)
                  · refine sxo_take (os := _) rfl ?_
                    refine sxo_isF (k := 157) rfl h395 ?_
                    refine sxo_skip rfl rfl rfl ?_
                    refine sxo_skip rfl rfl rfl ?_
                    refine sxo_skip rfl rfl rfl ?_
                    refine sxo_pick (b := false) rfl rfl rfl rfl ?_
                    refine sxo_again (d := 161) (v := .bool (x394 && ((x24.2.2 : Int) == x29))) rfl (by rw [h395]; simp only [Bool.false_and]) ?_
                    refine sxo_nil ?_
                    exact sxq_case (lk_cons rfl lk_nil)
                  refine sxo_take (os := _) rfl ?_
                  refine sxo_assign rfl rfl rfl ?_
                  refine sxo_nil ?_
                  refine sxq_next ?_
                  refine sxc_ret ?_
                  exact sxq_doneP () (.inl rfl) (res1 rfl rfl) (fun h => by subst h; rfl) (fun h => by subst h; exact .nil)

theorem C_L_GraphBack (F : Nat) (x1 : List (List Int)) (a2 : Option Addr) (c3 : (Nat × List (Option Addr × Nat))) (x4 : Int) (r : Bool) (hm : M_L_GraphBack F x1 x4 = some r) :
    Pure Try.prog 4 [.agg #[.slice a2 x1.length c3.1], .int .i64 x4] [SlN eN32 iN32 1 (.slice a2 x1.length c3.1) x1 c3.2] Unit (fun _ => .bool r) (fun _ => []) (fun _ => []) := by
  refine pure_of Try.func4 rfl Try.ntmps4 rfl hm (fun w => ?_)
  refine sxc_env (l' := [(0, .agg #[.slice a2 x1.length c3.1]), (1, .int .i64 x4)]) rfl ?_
  refine sxc_seq ?_
  refine sxc_region ?_
  refine sxo_box rfl rfl rfl (fun g5 => ?_)
  refine sxo_assign rfl rfl rfl ?_
  refine sxo_nil ?_
  refine sxq_next ?_
  refine sxc_seq ?_
  refine sxc_region ?_
  refine sxo_loadB (i := 0) rfl rfl tf24 rfl rfl (by simp) rfl rfl ?_
  refine sxo_call ent15 rfl rfl rfl (fun x6 e6 => C_graph_Arcs F x1 a2 c3 x6 e6) (.consF 0 rfl .nil) (fun x6 e6 => ?_)
  rintro ⟨a7, c8⟩
  refine sxo_move rfl rfl rfl ?_
  refine sxo_extract rfl rfl rfl rfl ?_
  refine sxo_extract rfl rfl rfl rfl ?_
  refine sxo_assign rfl rfl rfl ?_
  refine sxo_assign rfl rfl rfl ?_
  refine sxo_nil ?_
  refine sxq_next ?_
  refine sxc_seq ?_
  refine sxc_seq ?_
  refine sxc_region ?_
  refine sxo_call ent25 rfl rfl rfl (fun x11 e11 => C_L_graphBegun F  x11 e11) .nil (fun x11 e11 => ?_)
  intro _
  refine sxo_not rfl rfl rfl ?_
  refine sxo_nil ?_
  refine sxq_next ?_
  refine sxc_if rfl (fun h167 => ?_) (fun h167 => ?_)
  · refine sxc_seq ?_
    refine sxc_region ?_
    refine sxo_assign rfl rfl rfl ?_
    refine sxo_nil ?_
    refine sxq_next ?_
    refine sxc_ret ?_
    refine sxq_thenR ?_
    exact sxq_doneP () (.inl rfl) (res1 rfl rfl) (fun h => by subst h; rfl) (fun h => by subst h; exact .nil)
  · refine sxc_skip ?_
    refine sxq_next ?_
    refine sxc_seq ?_
    refine sxc_seq ?_
    refine sxc_region ?_
    refine sxo_move rfl rfl rfl ?_
    refine sxo_neq rfl rfl rfl rfl ?_
    refine sxo_nil ?_
    refine sxq_next ?_
    refine sxc_if rfl (fun h166 => ?_) (fun h166 => ?_)
    · refine sxc_seq ?_
      refine sxc_region ?_
      refine sxo_move rfl rfl rfl ?_
      refine sxo_len rfl Try.underlying25 rfl rfl ?_
      refine sxo_eql rfl rfl rfl rfl ?_
      refine sxo_assign rfl rfl rfl ?_
      refine sxo_nil ?_
      refine sxq_next ?_
      refine sxc_ret ?_
      refine sxq_thenR ?_
      exact sxq_doneP () (.inl rfl) (res1 rfl rfl) (fun h => by subst h; rfl) (fun h => by subst h; exact .nil)
    · refine sxc_skip ?_
      refine sxq_next ?_
      refine sxc_seq ?_
      refine sxc_region ?_
      refine sxo_assign rfl rfl rfl ?_
      refine sxo_nil ?_
      refine sxq_next ?_
      refine sxc_join (fun ((x86, (a84, c85)) : (List (Int × Int) × (Option Addr × Nat))) => [(2, .pointer (some ⟨g5, 0, none⟩)), (7, .slice a84 x86.length c85)]) (fun ((x86, (a84, c85)) : (List (Int × Int) × (Option Addr × Nat))) => [⟨g5, 24, [.slice a2 x1.length c3.1]⟩]) (fun ((x86, (a84, c85)) : (List (Int × Int) × (Option Addr × Nat))) => [Ro eS44 44 2 (.slice a84 x86.length c85) x86]) (fun ((x86, (a84, c85)) : (List (Int × Int) × (Option Addr × Nat))) => [SlN eN32 iN32 1 (.slice a2 x1.length c3.1) x1 c3.2]) (fun ((x86, _) : (List (Int × Int) × (Option Addr × Nat))) => M_L_GraphBack_j2 F x1 x86) ?_ ?_
      · refine sxc_seq ?_
        refine sxc_region ?_
        refine sxo_assign rfl rfl rfl ?_
        refine sxo_nil ?_
        refine sxq_next ?_
        refine sxc_block ?_
        refine sxc_nilrow (Int × Int) eS44 44 2 ?_
        refine sxc_loopP (fun (((x119, x120), (a117, c118)) : ((List (Int × Int) × Int) × (Option Addr × Nat))) => [(1, .int .i64 x4), (2, .pointer (some ⟨g5, 0, none⟩)), (5, .slice a7 x6.1.length c8), (7, .slice a117 x119.length c118), (8, .int .i64 x120)]) (fun (((x119, x120), (a117, c118)) : ((List (Int × Int) × Int) × (Option Addr × Nat))) => [⟨g5, 24, [.slice a2 x1.length c3.1]⟩]) (fun (((x119, x120), (a117, c118)) : ((List (Int × Int) × Int) × (Option Addr × Nat))) => [Ro eS44 44 2 (.slice a7 x6.1.length c8) x6.1, Ro eS44 44 2 (.slice a117 x119.length c118) x119]) (fun (((x119, x120), (a117, c118)) : ((List (Int × Int) × Int) × (Option Addr × Nat))) => [SlN eN32 iN32 1 (.slice a2 x1.length c3.1) x1 c3.2]) (fun k (s : ((List (Int × Int) × Int) × (Option Addr × Nat))) => M_L_GraphBack_l4 F x1 x4 x6 k s.1) ((([] : List (Int × Int)), 0), (none, 0)) F (lk_cons rfl (lk_cons rfl (lk_cons rfl (lk_cons rfl (lk_cons rfl lk_nil))))) (.cons 0 rfl .nil) (.cons 1 rfl (.cons 0 rfl .nil)) (fk_cons 0 rfl fk_nil) (fun _ => rfl) ?_
        intro k143
        rintro ⟨⟨x119, x120⟩, ⟨a117, c118⟩⟩
        try dsimp only
        refine sxc_meq (m' := M_L_GraphBack_b4 F x1 x4 x6 (M_L_GraphBack_l4 F x1 x4 x6 k143) x119 x120) rfl ?_
        refine sxc_seq ?_
        refine sxc_seq ?_
        refine sxc_region ?_
        refine sxo_move rfl rfl rfl ?_
        refine sxo_move rfl rfl rfl ?_
        refine sxo_len rfl Try.underlying25 rfl rfl ?_
        refine sxo_lss rfl rfl rfl rfl ?_
        refine sxo_nil ?_
        refine sxq_next ?_
        refine sxc_if rfl (fun h165 => ?_) (fun h165 => ?_)
        · refine sxc_skip ?_
          refine sxq_next ?_
          refine sxc_seq ?_
          refine sxc_block ?_
          refine sxc_seq ?_
          refine sxc_region ?_
          refine sxo_move rfl rfl rfl ?_
          refine sxo_move rfl rfl rfl ?_
          refine sxo_rem rfl rfl rfl rfl rfl ?_
          refine sxo_add rfl rfl rfl rfl ?_
          refine sxo_rem rfl rfl rfl rfl rfl ?_
          refine sxo_add rfl rfl rfl rfl ?_
          refine sxo_move rfl rfl rfl ?_
          refine sxo_len rfl Try.underlying25 rfl rfl ?_
          refine sxo_chk (fun h155 => ?_)
          refine sxo_rem rfl rfl rfl rfl h155 ?_
          refine sxo_assign rfl rfl rfl ?_
          refine sxo_lett (fun x156 e156 => ?_)
          refine sxo_again (d := 9) (v := .int .i64 x156) rfl (by rw [e156]) ?_
          refine sxo_nil ?_
          refine sxq_next ?_
          refine sxc_region ?_
          refine sxo_move rfl rfl rfl ?_
          refine sxo_move rfl rfl rfl ?_
          refine sxo_move rfl rfl rfl ?_
          refine sxo_len rfl Try.underlying25 rfl rfl ?_
          refine sxo_sub rfl rfl rfl rfl ?_
          refine sxo_move rfl rfl rfl ?_
          refine sxo_sub rfl rfl rfl rfl ?_
          refine sxo_indexR (j := 0) rfl Try.underlying25 tf44 rfl rfl rfl rfl (fun x157 e157 g158 h159 => ?_)
          refine sxo_loadR (j := 0) (y := x157) eS44_ok rfl rfl tf44 rfl h159 (idx_get e157).2.2 (by simp) rfl rfl ?_
          refine sxo_slit (vs := [.agg #[.int .i64 x157.1, .int .i64 x157.2]]) (ys := ([(x157.1, x157.2)] : List (Int × Int))) eS44_ok (by decide) rfl Try.underlying25 tf44 rfl rfl rfl rfl rfl (by decide) (fun a160 c161 => ?_)
          refine sxo_app 2 eS44_ok rfl Try.underlying25 tf44 rfl rfl rfl rfl rfl (.inl ⟨0, _, rfl⟩) rfl rfl (fun x162 e162 a163 c164 => ?_)
          refine sxo_assign rfl rfl rfl ?_
          refine sxo_nil ?_
          refine sxq_blkN ?_
          refine sxq_next ?_
          refine sxc_region ?_
          refine sxo_move rfl rfl rfl ?_
          refine sxo_add rfl rfl rfl rfl ?_
          refine sxo_assign rfl rfl rfl ?_
          refine sxo_nil ?_
          exact sxq_againP ((x162, iadd .i64 x120 1), (a163, c164)) (lk_cons rfl (lk_cons rfl (lk_cons rfl (lk_cons rfl (lk_cons rfl lk_nil))))) (.cons 0 rfl .nil) (.cons 2 rfl (.cons 0 rfl .nil)) (fk_cons 0 rfl fk_nil)
        · refine sxc_exit ?_
          refine sxq_thenX ?_
          refine sxq_thenX ?_
          refine sxq_blkX ?_
          exact sxq_meetP (x119, (a117, c118)) (lk_cons rfl (lk_cons rfl lk_nil)) (.cons 0 rfl .nil) (.cons 1 rfl .nil) (fk_cons 0 rfl fk_nil)
      · rintro ⟨x86, ⟨a84, c85⟩⟩
        try dsimp only
        refine sxc_seq ?_
        refine sxc_region ?_
        refine sxo_fieldAddr rfl rfl ff24_0 rfl ?_
        refine sxo_loadB (i := 0) rfl rfl tf22 rfl rfl (fun _ => rfl) rfl rfl ?_
        refine sxo_len rfl Try.underlying22 rfl rfl ?_
        refine sxo_move rfl rfl rfl ?_
        refine sxo_call ent16 rfl rfl rfl (fun x87 e87 => C_graph_Of F (x1.length : Int) x86 a84 c85 x87 e87) (.consR 0 (Ro eS44 44 2 (.slice a84 x86.length c85) x86) rfl .nil) (fun x87 e87 => ?_)
        rintro ⟨a88, c89⟩
        refine sxo_move rfl rfl rfl ?_
        refine sxo_extract rfl rfl rfl rfl ?_
        refine sxo_extract rfl rfl rfl rfl ?_
        refine sxo_alloc rfl tf24 rfl (fun g90 => ?_)
        refine sxo_storeB (i := 0) rfl rfl rfl tf24 rfl rfl rfl rfl rfl ?_
        refine sxo_assign rfl rfl rfl ?_
        refine sxo_nil ?_
        refine sxq_next ?_
        refine sxc_seq ?_
        refine sxc_region ?_
        refine sxo_move rfl rfl rfl ?_
        refine sxo_eql rfl rfl rfl rfl ?_
        refine sxo_move rfl rfl rfl ?_
        refine sxo_join 4 (fun ((x93, _) : (Bool × Unit)) => [(64, .bool x93)]) (fun ((x93, _) : (Bool × Unit)) => []) (fun ((x93, _) : (Bool × Unit)) => []) (fun ((x93, _) : (Bool × Unit)) => []) (fun ((x93, _) : (Bool × Unit)) => M_L_GraphBack_j3 F x93) ?_ ?_
        · refine sxo_take (os := _) rfl ?_
          refine sxo_if (fun h91 => ?_) (fun h91 => ?_)
          · refine sxo_isT (k := 60) rfl h91 ?_
            refine sxo_loadB (i := 0) rfl rfl tf24 rfl rfl (by simp) rfl rfl ?_
            refine sxo_loadB (i := 1) rfl rfl tf24 rfl rfl (by simp) rfl rfl ?_
            refine sxo_call ent28 rfl rfl rfl (fun x94 e94 => C_R_SameGraph F x87.1 a88 c89 x1 a2 c3 x94 e94) (.consG 0 rfl (nest_sl rN32_in) (.consF 0 rfl .nil)) (fun x94 e94 => ?_)
            intro _
            refine sxo_pick (b := true) rfl rfl rfl rfl ?_
            refine sxo_nil ?_
            exact sxq_meetP (x94, ()) (lk_cons rfl lk_nil) .nil .nil fk_nil
          · refine sxo_isF (k := 60) rfl h91 ?_
            refine sxo_skip rfl rfl rfl ?_
            refine sxo_skip rfl rfl rfl ?_
            refine sxo_skip rfl rfl rfl ?_
            refine sxo_pick (b := false) rfl rfl rfl rfl ?_
            refine sxo_nil ?_
            exact sxq_meetP (false, ()) (lk_cons rfl lk_nil) .nil .nil fk_nil
        · rintro ⟨x93, _⟩
          try dsimp only
          refine sxo_take (os := _) rfl ?_
          refine sxo_assign rfl rfl rfl ?_
          refine sxo_nil ?_
          refine sxq_next ?_
          refine sxc_ret ?_
          exact sxq_doneP () (.inl rfl) (res1 rfl rfl) (fun h => by subst h; rfl) (fun h => by subst h; exact .nil)

set_option maxHeartbeats 4000000 in
theorem C_L_GraphTurn (F : Nat) (x1 : List (List Int)) (a2 : Option Addr) (c3 : (Nat × List (Option Addr × Nat))) (r : Bool) (hm : M_L_GraphTurn F x1 = some r) :
    Pure Try.prog 5 [.agg #[.slice a2 x1.length c3.1]] [SlN eN32 iN32 1 (.slice a2 x1.length c3.1) x1 c3.2] Unit (fun _ => .bool r) (fun _ => []) (fun _ => []) := by
  refine pure_of Try.func5 rfl Try.ntmps5 rfl hm (fun w => ?_)
  refine sxc_env (l' := [(0, .agg #[.slice a2 x1.length c3.1])]) rfl ?_
  refine sxc_seq ?_
  refine sxc_region ?_
  refine sxo_box rfl rfl rfl (fun g4 => ?_)
  refine sxo_assign rfl rfl rfl ?_
  refine sxo_nil ?_
  refine sxq_next ?_
  refine sxc_seq ?_
  refine sxc_region ?_
  refine sxo_loadB (i := 0) rfl rfl tf24 rfl rfl (by simp) rfl rfl ?_
  refine sxo_call ent17 rfl rfl rfl (fun x5 e5 => C_graph_Turn F x1 a2 c3 x5 e5) (.consF 0 rfl .nil) (fun x5 e5 => ?_)
  rintro ⟨a6, c7⟩
  refine sxo_move rfl rfl rfl ?_
  refine sxo_extract rfl rfl rfl rfl ?_
  refine sxo_extract rfl rfl rfl rfl ?_
  refine sxo_alloc rfl tf24 rfl (fun g8 => ?_)
  refine sxo_storeB (i := 0) rfl rfl rfl tf24 rfl rfl rfl rfl rfl ?_
  refine sxo_assign rfl rfl rfl ?_
  refine sxo_nil ?_
  refine sxq_next ?_
  refine sxc_seq ?_
  refine sxc_seq ?_
  refine sxc_region ?_
  refine sxo_call ent25 rfl rfl rfl (fun x11 e11 => C_L_graphBegun F  x11 e11) .nil (fun x11 e11 => ?_)
  intro _
  refine sxo_not rfl rfl rfl ?_
  refine sxo_nil ?_
  refine sxq_next ?_
  refine sxc_if rfl (fun h155 => ?_) (fun h155 => ?_)
  · refine sxc_seq ?_
    refine sxc_region ?_
    refine sxo_assign rfl rfl rfl ?_
    refine sxo_nil ?_
    refine sxq_next ?_
    refine sxc_ret ?_
    refine sxq_thenR ?_
    exact sxq_doneP () (.inl rfl) (res1 rfl rfl) (fun h => by subst h; rfl) (fun h => by subst h; exact .nil)
  · refine sxc_skip ?_
    refine sxq_next ?_
    refine sxc_seq ?_
    refine sxc_seq ?_
    refine sxc_region ?_
    refine sxo_move rfl rfl rfl ?_
    refine sxo_neq rfl rfl rfl rfl ?_
    refine sxo_nil ?_
    refine sxq_next ?_
    refine sxc_if rfl (fun h154 => ?_) (fun h154 => ?_)
    · refine sxc_seq ?_
      refine sxc_region ?_
      refine sxo_loadB (i := 0) rfl rfl tf24 rfl rfl (by simp) rfl rfl ?_
      refine sxo_build (cells := [.slice none 0 0]) rfl st24 rfl (by kernel_rfl) rfl ?_
      refine sxo_nilN (List Int) (Option Addr × Nat) eN32 rN32 32 1 ?_
      refine sxo_call ent28 rfl rfl rfl (fun x14 e14 => C_R_SameGraph F x5.1 a6 c7 ([] : List (List Int)) none (0, ([] : List (Option Addr × Nat))) x14 e14) (.consG 1 rfl (nest_sl rN32_in) (.consG 0 rfl (nest_sl rN32_in) .nil)) (fun x14 e14 => ?_)
      intro _
      refine sxo_assign rfl rfl rfl ?_
      refine sxo_nil ?_
      refine sxq_next ?_
      refine sxc_ret ?_
      refine sxq_thenR ?_
      exact sxq_doneP () (.inl rfl) (res1 rfl rfl) (fun h => by subst h; rfl) (fun h => by subst h; exact .nil)
    · refine sxc_skip ?_
      refine sxq_next ?_
      refine sxc_seq ?_
      refine sxc_region ?_
      refine sxo_loadB (i := 0) rfl rfl tf24 rfl rfl (by simp) rfl rfl ?_
      refine sxo_call ent17 rfl rfl rfl (fun x15 e15 => C_graph_Turn F x5.1 a6 c7 x15 e15) (.consG 0 rfl (nest_sl rN32_in) .nil) (fun x15 e15 => ?_)
      rintro ⟨a16, c17⟩
      refine sxo_move rfl rfl rfl ?_
      refine sxo_extract rfl rfl rfl rfl ?_
      refine sxo_extract rfl rfl rfl rfl ?_
      refine sxo_alloc rfl tf24 rfl (fun g18 => ?_)
      refine sxo_storeB (i := 0) rfl rfl rfl tf24 rfl rfl rfl rfl rfl ?_
      refine sxo_assign rfl rfl rfl ?_
      refine sxo_nil ?_
      refine sxq_next ?_
      refine sxc_seq ?_
      refine sxc_region ?_
      refine sxo_loadB (i := 2) rfl rfl tf24 rfl rfl (by simp) rfl rfl ?_
      refine sxo_callM ent19 rfl rfl rfl (fun x19 e19 => C_graph_Degrees F x1 a2 c3 x19 e19) .nil .nil (.consF 0 rfl .nil) (fun x19 e19 => ?_)
      rintro ⟨⟨a20, c21⟩, ⟨a22, c23⟩⟩
      refine sxo_move rfl rfl rfl ?_
      refine sxo_extract rfl rfl rfl rfl ?_
      refine sxo_extract rfl rfl rfl rfl ?_
      refine sxo_extract rfl rfl rfl rfl ?_
      refine sxo_assign rfl rfl rfl ?_
      refine sxo_assign rfl rfl rfl ?_
      refine sxo_assign rfl rfl rfl ?_
      refine sxo_nil ?_
      refine sxq_next ?_
      refine sxc_seq ?_
      refine sxc_region ?_
      refine sxo_loadB (i := 1) rfl rfl tf24 rfl rfl (by simp) rfl rfl ?_
      refine sxo_callM ent19 rfl rfl rfl (fun x24 e24 => C_graph_Degrees F x5.1 a6 c7 x24 e24) .nil .nil (.consG 3 rfl (nest_sl rN32_in) .nil) (fun x24 e24 => ?_)
      rintro ⟨⟨a25, c26⟩, ⟨a27, c28⟩⟩
      refine sxo_move rfl rfl rfl ?_
      refine sxo_extract rfl rfl rfl rfl ?_
      refine sxo_extract rfl rfl rfl rfl ?_
      refine sxo_extract rfl rfl rfl rfl ?_
      refine sxo_assign rfl rfl rfl ?_
      refine sxo_assign rfl rfl rfl ?_
      refine sxo_assign rfl rfl rfl ?_
      refine sxo_nil ?_
      refine sxq_next ?_
      refine sxc_seq ?_
      refine sxc_region ?_
      refine sxo_assign rfl rfl rfl ?_
      refine sxo_assign rfl rfl rfl ?_
      refine sxo_nil ?_
      refine sxq_next ?_
      refine sxc_join (fun (((x81, x82), _) : ((Int × Int) × Unit)) => [(1, .pointer (some ⟨g4, 0, none⟩)), (3, .pointer (some ⟨g8, 0, none⟩)), (5, .pointer (some ⟨g18, 0, none⟩)), (6, .int .i64 x15.2), (7, .slice a20 x19.1.length c21), (8, .slice a22 x19.2.1.length c23), (9, .int .i64 x19.2.2), (10, .slice a25 x24.1.length c26), (11, .slice a27 x24.2.1.length c28), (12, .int .i64 x24.2.2), (13, .int .i64 x81), (14, .int .i64 x82)]) (fun (((x81, x82), _) : ((Int × Int) × Unit)) => [⟨g18, 24, [.slice a16 x15.1.length c17.1]⟩, ⟨g8, 24, [.slice a6 x5.1.length c7.1]⟩, ⟨g4, 24, [.slice a2 x1.length c3.1]⟩]) (fun (((x81, x82), _) : ((Int × Int) × Unit)) => [Ro (eI .i64) 3 1 (.slice a20 x19.1.length c21) x19.1, Ro (eI .i64) 3 1 (.slice a22 x19.2.1.length c23) x19.2.1, Ro (eI .i64) 3 1 (.slice a25 x24.1.length c26) x24.1, Ro (eI .i64) 3 1 (.slice a27 x24.2.1.length c28) x24.2.1, RoN eN32 rN32 32 1 (.slice a16 x15.1.length c17.1) x15.1 c17.2 [], RoN eN32 rN32 32 1 (.slice a6 x5.1.length c7.1) x5.1 c7.2 []]) (fun (((x81, x82), _) : ((Int × Int) × Unit)) => [SlN eN32 iN32 1 (.slice a2 x1.length c3.1) x1 c3.2]) (fun (((x81, x82), _) : ((Int × Int) × Unit)) => M_L_GraphTurn_j2 F x1 x5 x15 x19 x24 x81 x82) ?_ ?_
      · refine sxc_seq ?_
        refine sxc_region ?_
        refine sxo_assign rfl rfl rfl ?_
        refine sxo_nil ?_
        refine sxq_next ?_
        refine sxc_block ?_
        refine sxc_loopP (fun (((x118, x119, x120), _) : ((Int × Int × Int) × Unit)) => [(1, .pointer (some ⟨g4, 0, none⟩)), (3, .pointer (some ⟨g8, 0, none⟩)), (5, .pointer (some ⟨g18, 0, none⟩)), (6, .int .i64 x15.2), (7, .slice a20 x19.1.length c21), (8, .slice a22 x19.2.1.length c23), (9, .int .i64 x19.2.2), (10, .slice a25 x24.1.length c26), (11, .slice a27 x24.2.1.length c28), (12, .int .i64 x24.2.2), (13, .int .i64 x118), (14, .int .i64 x119), (15, .int .i64 x120)]) (fun (((x118, x119, x120), _) : ((Int × Int × Int) × Unit)) => [⟨g18, 24, [.slice a16 x15.1.length c17.1]⟩, ⟨g8, 24, [.slice a6 x5.1.length c7.1]⟩, ⟨g4, 24, [.slice a2 x1.length c3.1]⟩]) (fun (((x118, x119, x120), _) : ((Int × Int × Int) × Unit)) => [Ro (eI .i64) 3 1 (.slice a20 x19.1.length c21) x19.1, Ro (eI .i64) 3 1 (.slice a22 x19.2.1.length c23) x19.2.1, Ro (eI .i64) 3 1 (.slice a25 x24.1.length c26) x24.1, Ro (eI .i64) 3 1 (.slice a27 x24.2.1.length c28) x24.2.1, RoN eN32 rN32 32 1 (.slice a16 x15.1.length c17.1) x15.1 c17.2 [], RoN eN32 rN32 32 1 (.slice a6 x5.1.length c7.1) x5.1 c7.2 []]) (fun (((x118, x119, x120), _) : ((Int × Int × Int) × Unit)) => [SlN eN32 iN32 1 (.slice a2 x1.length c3.1) x1 c3.2]) (fun k (s : ((Int × Int × Int) × Unit)) => M_L_GraphTurn_l7 F x1 x5 x15 x19 x24 k s.1) ((0, 0, 0), ()) F (lk_cons rfl (lk_cons rfl (lk_cons rfl (lk_cons rfl (lk_cons rfl (lk_cons rfl (lk_cons rfl (lk_cons rfl (lk_cons rfl (lk_cons rfl (lk_cons rfl (lk_cons rfl (lk_cons rfl lk_nil))))))))))))) (.cons 0 rfl (.cons 0 rfl (.cons 0 rfl .nil))) (.cons 2 rfl (.cons 2 rfl (.cons 0 rfl (.cons 0 rfl (.cons 0 rfl (.cons 0 rfl .nil)))))) (fk_cons 0 rfl fk_nil) (fun _ => rfl) ?_
        intro k137
        rintro ⟨⟨x118, x119, x120⟩, _⟩
        try dsimp only
        refine sxc_meq (m' := M_L_GraphTurn_b7 F x1 x5 x15 x19 x24 (M_L_GraphTurn_l7 F x1 x5 x15 x19 x24 k137) x118 x119 x120) rfl ?_
        refine sxc_seq ?_
        refine sxc_seq ?_
        refine sxc_region ?_
        refine sxo_move rfl rfl rfl ?_
        refine sxo_move rfl rfl rfl ?_
        refine sxo_len rfl Try.underlying32 rfl rfl ?_
        refine sxo_lss rfl rfl rfl rfl ?_
        refine sxo_move rfl rfl rfl ?_
        refine sxo_case 5 (decide (x120 < (x19.1.length : Int))) [(1, .pointer (some ⟨g4, 0, none⟩)), (3, .pointer (some ⟨g8, 0, none⟩)), (5, .pointer (some ⟨g18, 0, none⟩)), (6, .int .i64 x15.2), (7, .slice a20 x19.1.length c21), (8, .slice a22 x19.2.1.length c23), (9, .int .i64 x19.2.2), (10, .slice a25 x24.1.length c26), (11, .slice a27 x24.2.1.length c28), (12, .int .i64 x24.2.2), (13, .int .i64 x118), (14, .int .i64 x119), (15, .int .i64 x120), (54, .bool ((decide (x120 < (x19.1.length : Int))) && (decide (x120 < (x19.2.1.length : Int)))))] (fun h140 => ?_) (fun h140 => ?_) ?_
        · refine sxo_take (os := _) rfl ?_
          refine sxo_isT (k := 49) rfl h140 ?_
          refine sxo_move rfl rfl rfl ?_
          refine sxo_move rfl rfl rfl ?_
          refine sxo_len rfl Try.underlying32 rfl rfl ?_
          refine sxo_lss rfl rfl rfl rfl ?_
          refine sxo_pick (b := true) rfl rfl rfl rfl ?_
          refine sxo_again (d := 54) (v := .bool ((decide (x120 < (x19.1.length : Int))) && (decide (x120 < (x19.2.1.length : Int))))) rfl (by rw [h140]; simp only [Bool.true_and]) ?_
          refine sxo_nil ?_
          exact sxq_case (lk_cons rfl (lk_cons rfl (lk_cons rfl (lk_cons rfl (lk_cons rfl (lk_cons rfl (lk_cons rfl (lk_cons rfl (lk_cons rfl (lk_cons rfl (lk_cons rfl (lk_cons rfl (lk_cons rfl (lk_cons rfl lk_nil))))))))))))))
        · refine sxo_take (os := _) rfl ?_
          refine sxo_isF (k := 49) rfl h140 ?_
          refine sxo_skip rfl rfl rfl ?_
          refine sxo_skip rfl rfl rfl ?_
          refine sxo_skip rfl rfl rfl ?_
          refine sxo_skip rfl rfl rfl ?_
          refine sxo_pick (b := false) rfl rfl rfl rfl ?_
          refine sxo_again (d := 54) (v := .bool ((decide (x120 < (x19.1.length : Int))) && (decide (x120 < (x19.2.1.length : Int))))) rfl (by rw [h140]; simp only [Bool.false_and]) ?_
          refine sxo_nil ?_
          exact sxq_case (lk_cons rfl (lk_cons rfl (lk_cons rfl (lk_cons rfl (lk_cons rfl (lk_cons rfl (lk_cons rfl (lk_cons rfl (lk_cons rfl (lk_cons rfl (lk_cons rfl (lk_cons rfl (lk_cons rfl (lk_cons rfl lk_nil))))))))))))))
        refine sxo_take (os := _) rfl ?_
        refine sxo_nil ?_
        refine sxq_next ?_
        refine sxc_if rfl (fun h153 => ?_) (fun h153 => ?_)
        · refine sxc_skip ?_
          refine sxq_next ?_
          refine sxc_seq ?_
          refine sxc_block ?_
          refine sxc_seq ?_
          refine sxc_region ?_
          refine sxo_move rfl rfl rfl ?_
          refine sxo_move rfl rfl rfl ?_
          refine sxo_move rfl rfl rfl ?_
          refine sxo_indexR (j := 0) rfl Try.underlying32 tf3 rfl rfl rfl rfl (fun x147 e147 g148 h149 => ?_)
          refine sxo_loadR (j := 0) (y := x147) (eI_ok .i64) rfl rfl tf3 rfl h149 (idx_get e147).2.2 (fun _ => rfl) rfl rfl ?_
          refine sxo_add rfl rfl rfl rfl ?_
          refine sxo_assign rfl rfl rfl ?_
          refine sxo_nil ?_
          refine sxq_next ?_
          refine sxc_region ?_
          refine sxo_move rfl rfl rfl ?_
          refine sxo_move rfl rfl rfl ?_
          refine sxo_move rfl rfl rfl ?_
          refine sxo_indexR (j := 1) rfl Try.underlying32 tf3 rfl rfl rfl rfl (fun x150 e150 g151 h152 => ?_)
          refine sxo_loadR (j := 1) (y := x150) (eI_ok .i64) rfl rfl tf3 rfl h152 (idx_get e150).2.2 (fun _ => rfl) rfl rfl ?_
          refine sxo_add rfl rfl rfl rfl ?_
          refine sxo_assign rfl rfl rfl ?_
          refine sxo_nil ?_
          refine sxq_blkN ?_
          refine sxq_next ?_
          refine sxc_region ?_
          refine sxo_move rfl rfl rfl ?_
          refine sxo_add rfl rfl rfl rfl ?_
          refine sxo_assign rfl rfl rfl ?_
          refine sxo_nil ?_
          exact sxq_againP ((iadd .i64 x118 x147, iadd .i64 x119 x150, iadd .i64 x120 1), ()) (lk_cons rfl (lk_cons rfl (lk_cons rfl (lk_cons rfl (lk_cons rfl (lk_cons rfl (lk_cons rfl (lk_cons rfl (lk_cons rfl (lk_cons rfl (lk_cons rfl (lk_cons rfl (lk_cons rfl lk_nil))))))))))))) (.cons 0 rfl (.cons 0 rfl (.cons 0 rfl .nil))) (.cons 0 rfl (.cons 0 rfl (.cons 0 rfl (.cons 0 rfl (.cons 0 rfl (.cons 0 rfl .nil)))))) (fk_cons 0 rfl fk_nil)
        · refine sxc_exit ?_
          refine sxq_thenX ?_
          refine sxq_thenX ?_
          refine sxq_blkX ?_
          exact sxq_meetP ((x118, x119), ()) (lk_cons rfl (lk_cons rfl (lk_cons rfl (lk_cons rfl (lk_cons rfl (lk_cons rfl (lk_cons rfl (lk_cons rfl (lk_cons rfl (lk_cons rfl (lk_cons rfl (lk_cons rfl lk_nil)))))))))))) (.cons 0 rfl (.cons 0 rfl (.cons 0 rfl .nil))) (.cons 0 rfl (.cons 0 rfl (.cons 0 rfl (.cons 0 rfl (.cons 0 rfl (.cons 0 rfl .nil)))))) (fk_cons 0 rfl fk_nil)
      · rintro ⟨⟨x81, x82⟩, _⟩
        try dsimp only
        refine sxc_seq ?_
        refine sxc_region ?_
        refine sxo_move rfl rfl rfl ?_
        refine sxo_eql rfl rfl rfl rfl ?_
        refine sxo_move rfl rfl rfl ?_
        refine sxo_join 4 (fun ((x85, _) : (Bool × Unit)) => [(3, .pointer (some ⟨g8, 0, none⟩)), (7, .slice a20 x19.1.length c21), (8, .slice a22 x19.2.1.length c23), (9, .int .i64 x19.2.2), (10, .slice a25 x24.1.length c26), (11, .slice a27 x24.2.1.length c28), (12, .int .i64 x24.2.2), (13, .int .i64 x81), (14, .int .i64 x82), (75, .bool x85)]) (fun ((x85, _) : (Bool × Unit)) => [⟨g8, 24, [.slice a6 x5.1.length c7.1]⟩]) (fun ((x85, _) : (Bool × Unit)) => [Ro (eI .i64) 3 1 (.slice a20 x19.1.length c21) x19.1, Ro (eI .i64) 3 1 (.slice a22 x19.2.1.length c23) x19.2.1, Ro (eI .i64) 3 1 (.slice a25 x24.1.length c26) x24.1, Ro (eI .i64) 3 1 (.slice a27 x24.2.1.length c28) x24.2.1, RoN eN32 rN32 32 1 (.slice a6 x5.1.length c7.1) x5.1 c7.2 []]) (fun ((x85, _) : (Bool × Unit)) => []) (fun ((x85, _) : (Bool × Unit)) => M_L_GraphTurn_j3 F x5 x19 x24 x81 x82 x85) ?_ ?_
        · refine sxo_take (os := _) rfl ?_
          refine sxo_if (fun h83 => ?_) (fun h83 => ?_)
          · refine sxo_isT (k := 71) rfl h83 ?_
            refine sxo_loadB (i := 0) rfl rfl tf24 rfl rfl (by simp) rfl rfl ?_
            refine sxo_loadB (i := 2) rfl rfl tf24 rfl rfl (by simp) rfl rfl ?_
            refine sxo_call ent28 rfl rfl rfl (fun x101 e101 => C_R_SameGraph F x15.1 a16 c17 x1 a2 c3 x101 e101) (.consG 4 rfl (nest_sl rN32_in) (.consF 0 rfl .nil)) (fun x101 e101 => ?_)
            intro _
            refine sxo_pick (b := true) rfl rfl rfl rfl ?_
            refine sxo_nil ?_
            exact sxq_meetP (x101, ()) (lk_cons rfl (lk_cons rfl (lk_cons rfl (lk_cons rfl (lk_cons rfl (lk_cons rfl (lk_cons rfl (lk_cons rfl (lk_cons rfl (lk_cons rfl lk_nil)))))))))) (.cons 1 rfl .nil) (.cons 0 rfl (.cons 0 rfl (.cons 0 rfl (.cons 0 rfl (.cons 1 rfl .nil))))) fk_nil
          · refine sxo_isF (k := 71) rfl h83 ?_
            refine sxo_skip rfl rfl rfl ?_
            refine sxo_skip rfl rfl rfl ?_
            refine sxo_skip rfl rfl rfl ?_
            refine sxo_pick (b := false) rfl rfl rfl rfl ?_
            refine sxo_nil ?_
            exact sxq_meetP (false, ()) (lk_cons rfl (lk_cons rfl (lk_cons rfl (lk_cons rfl (lk_cons rfl (lk_cons rfl (lk_cons rfl (lk_cons rfl (lk_cons rfl (lk_cons rfl lk_nil)))))))))) (.cons 1 rfl .nil) (.cons 0 rfl (.cons 0 rfl (.cons 0 rfl (.cons 0 rfl (.cons 1 rfl .nil))))) fk_nil
        · rintro ⟨x85, _⟩
          try dsimp only
          refine sxo_take (os := _) rfl ?_
          refine sxo_move rfl rfl rfl ?_
          refine sxo_case 3 x85 [(3, .pointer (some ⟨g8, 0, none⟩)), (7, .slice a20 x19.1.length c21), (8, .slice a22 x19.2.1.length c23), (10, .slice a25 x24.1.length c26), (11, .slice a27 x24.2.1.length c28), (12, .int .i64 x24.2.2), (13, .int .i64 x81), (14, .int .i64 x82), (79, .bool (x85 && ((x19.2.2 : Int) == 0)))] (fun h86 => ?_) (fun h86 => ?_) ?_
          · refine sxo_take (os := _) rfl ?_
            refine sxo_isT (k := 76) rfl h86 ?_
            refine sxo_move rfl rfl rfl ?_
            refine sxo_eql rfl rfl rfl rfl ?_
            refine sxo_pick (b := true) rfl rfl rfl rfl ?_
            refine sxo_again (d := 79) (v := .bool (x85 && ((x19.2.2 : Int) == 0))) rfl (by rw [h86]; simp only [Bool.true_and]) ?_
            refine sxo_nil ?_
            exact sxq_case (lk_cons rfl (lk_cons rfl (lk_cons rfl (lk_cons rfl (lk_cons rfl (lk_cons rfl (lk_cons rfl (lk_cons rfl (lk_cons rfl lk_nil)))))))))
          · refine sxo_take (os := _) rfl ?_
            refine sxo_isF (k := 76) rfl h86 ?_
            refine sxo_skip rfl rfl rfl ?_
            refine sxo_skip rfl rfl rfl ?_
            refine sxo_pick (b := false) rfl rfl rfl rfl ?_
            refine sxo_again (d := 79) (v := .bool (x85 && ((x19.2.2 : Int) == 0))) rfl (by rw [h86]; simp only [Bool.false_and]) ?_
            refine sxo_nil ?_
            exact sxq_case (lk_cons rfl (lk_cons rfl (lk_cons rfl (lk_cons rfl (lk_cons rfl (lk_cons rfl (lk_cons rfl (lk_cons rfl (lk_cons rfl lk_nil)))))))))
          refine sxo_take (os := _) rfl ?_
          refine sxo_move rfl rfl rfl ?_
          refine sxo_case 3 (x85 && ((x19.2.2 : Int) == 0)) [(3, .pointer (some ⟨g8, 0, none⟩)), (7, .slice a20 x19.1.length c21), (8, .slice a22 x19.2.1.length c23), (10, .slice a25 x24.1.length c26), (11, .slice a27 x24.2.1.length c28), (13, .int .i64 x81), (14, .int .i64 x82), (83, .bool ((x85 && ((x19.2.2 : Int) == 0)) && ((x24.2.2 : Int) == 0)))] (fun h87 => ?_) (fun h87 => ?_) ?_
          · refine sxo_take (os := _) rfl ?_
            refine sxo_isT (k := 80) rfl h87 ?_
            refine sxo_move rfl rfl rfl ?_
            refine sxo_eql rfl rfl rfl rfl ?_
            refine sxo_pick (b := true) rfl rfl rfl rfl ?_
            refine sxo_again (d := 83) (v := .bool ((x85 && ((x19.2.2 : Int) == 0)) && ((x24.2.2 : Int) == 0))) rfl (by rw [h87]; simp only [Bool.true_and]) ?_
            refine sxo_nil ?_
            exact sxq_case (lk_cons rfl (lk_cons rfl (lk_cons rfl (lk_cons rfl (lk_cons rfl (lk_cons rfl (lk_cons rfl (lk_cons rfl lk_nil))))))))
          · refine sxo_take (os := _) rfl ?_
            refine sxo_isF (k := 80) rfl h87 ?_
            refine sxo_skip rfl rfl rfl ?_
            refine sxo_skip rfl rfl rfl ?_
            refine sxo_pick (b := false) rfl rfl rfl rfl ?_
            refine sxo_again (d := 83) (v := .bool ((x85 && ((x19.2.2 : Int) == 0)) && ((x24.2.2 : Int) == 0))) rfl (by rw [h87]; simp only [Bool.false_and]) ?_
            refine sxo_nil ?_
            exact sxq_case (lk_cons rfl (lk_cons rfl (lk_cons rfl (lk_cons rfl (lk_cons rfl (lk_cons rfl (lk_cons rfl (lk_cons rfl lk_nil))))))))
          refine sxo_take (os := _) rfl ?_
          refine sxo_move rfl rfl rfl ?_
          refine sxo_join 4 (fun ((x90, _) : (Bool × Unit)) => [(3, .pointer (some ⟨g8, 0, none⟩)), (8, .slice a22 x19.2.1.length c23), (10, .slice a25 x24.1.length c26), (13, .int .i64 x81), (14, .int .i64 x82), (88, .bool x90)]) (fun ((x90, _) : (Bool × Unit)) => [⟨g8, 24, [.slice a6 x5.1.length c7.1]⟩]) (fun ((x90, _) : (Bool × Unit)) => [Ro (eI .i64) 3 1 (.slice a22 x19.2.1.length c23) x19.2.1, Ro (eI .i64) 3 1 (.slice a25 x24.1.length c26) x24.1, RoN eN32 rN32 32 1 (.slice a6 x5.1.length c7.1) x5.1 c7.2 []]) (fun ((x90, _) : (Bool × Unit)) => []) (fun ((x90, _) : (Bool × Unit)) => M_L_GraphTurn_j4 F x5 x19 x24 x81 x82 x90) ?_ ?_
          · refine sxo_take (os := _) rfl ?_
            refine sxo_if (fun h88 => ?_) (fun h88 => ?_)
            · refine sxo_isT (k := 84) rfl h88 ?_
              refine sxo_move rfl rfl rfl ?_
              refine sxo_move rfl rfl rfl ?_
              refine sxo_call ent29 rfl rfl rfl (fun x100 e100 => C_R_SameInts F x19.1 a20 c21 x24.2.1 a27 c28 x100 e100) (.consR 0 (Ro (eI .i64) 3 1 (.slice a20 x19.1.length c21) x19.1) rfl (.consR 3 (Ro (eI .i64) 3 1 (.slice a27 x24.2.1.length c28) x24.2.1) rfl .nil)) (fun x100 e100 => ?_)
              intro _
              refine sxo_pick (b := true) rfl rfl rfl rfl ?_
              refine sxo_nil ?_
              exact sxq_meetP (x100, ()) (lk_cons rfl (lk_cons rfl (lk_cons rfl (lk_cons rfl (lk_cons rfl (lk_cons rfl lk_nil)))))) (.cons 0 rfl .nil) (.cons 1 rfl (.cons 1 rfl (.cons 2 rfl .nil))) fk_nil
            · refine sxo_isF (k := 84) rfl h88 ?_
              refine sxo_skip rfl rfl rfl ?_
              refine sxo_skip rfl rfl rfl ?_
              refine sxo_skip rfl rfl rfl ?_
              refine sxo_pick (b := false) rfl rfl rfl rfl ?_
              refine sxo_nil ?_
              exact sxq_meetP (false, ()) (lk_cons rfl (lk_cons rfl (lk_cons rfl (lk_cons rfl (lk_cons rfl (lk_cons rfl lk_nil)))))) (.cons 0 rfl .nil) (.cons 1 rfl (.cons 1 rfl (.cons 2 rfl .nil))) fk_nil
          · rintro ⟨x90, _⟩
            try dsimp only
            refine sxo_take (os := _) rfl ?_
            refine sxo_move rfl rfl rfl ?_
            refine sxo_join 4 (fun ((x93, _) : (Bool × Unit)) => [(3, .pointer (some ⟨g8, 0, none⟩)), (13, .int .i64 x81), (14, .int .i64 x82), (93, .bool x93)]) (fun ((x93, _) : (Bool × Unit)) => [⟨g8, 24, [.slice a6 x5.1.length c7.1]⟩]) (fun ((x93, _) : (Bool × Unit)) => [RoN eN32 rN32 32 1 (.slice a6 x5.1.length c7.1) x5.1 c7.2 []]) (fun ((x93, _) : (Bool × Unit)) => []) (fun ((x93, _) : (Bool × Unit)) => M_L_GraphTurn_j5 F x5 x81 x82 x93) ?_ ?_
            · refine sxo_take (os := _) rfl ?_
              refine sxo_if (fun h91 => ?_) (fun h91 => ?_)
              · refine sxo_isT (k := 89) rfl h91 ?_
                refine sxo_move rfl rfl rfl ?_
                refine sxo_move rfl rfl rfl ?_
                refine sxo_call ent29 rfl rfl rfl (fun x99 e99 => C_R_SameInts F x19.2.1 a22 c23 x24.1 a25 c26 x99 e99) (.consR 0 (Ro (eI .i64) 3 1 (.slice a22 x19.2.1.length c23) x19.2.1) rfl (.consR 1 (Ro (eI .i64) 3 1 (.slice a25 x24.1.length c26) x24.1) rfl .nil)) (fun x99 e99 => ?_)
                intro _
                refine sxo_pick (b := true) rfl rfl rfl rfl ?_
                refine sxo_nil ?_
                exact sxq_meetP (x99, ()) (lk_cons rfl (lk_cons rfl (lk_cons rfl (lk_cons rfl lk_nil)))) (.cons 0 rfl .nil) (.cons 2 rfl .nil) fk_nil
              · refine sxo_isF (k := 89) rfl h91 ?_
                refine sxo_skip rfl rfl rfl ?_
                refine sxo_skip rfl rfl rfl ?_
                refine sxo_skip rfl rfl rfl ?_
                refine sxo_pick (b := false) rfl rfl rfl rfl ?_
                refine sxo_nil ?_
                exact sxq_meetP (false, ()) (lk_cons rfl (lk_cons rfl (lk_cons rfl (lk_cons rfl lk_nil)))) (.cons 0 rfl .nil) (.cons 2 rfl .nil) fk_nil
            · rintro ⟨x93, _⟩
              try dsimp only
              refine sxo_take (os := _) rfl ?_
              refine sxo_move rfl rfl rfl ?_
              refine sxo_case 4 x93 [(3, .pointer (some ⟨g8, 0, none⟩)), (98, .bool (x93 && ((x81 : Int) == x82)))] (fun h94 => ?_) (fun h94 => ?_) ?_
              · refine sxo_take (os := _) rfl ?_
                refine sxo_isT (k := 94) rfl h94 ?_
                refine sxo_move rfl rfl rfl ?_
                refine sxo_move rfl rfl rfl ?_
                refine sxo_eql rfl rfl rfl rfl ?_
                refine sxo_pick (b := true) rfl rfl rfl rfl ?_
                refine sxo_again (d := 98) (v := .bool (x93 && ((x81 : Int) == x82))) rfl (by rw [h94]; simp only [Bool.true_and]) ?_
                refine sxo_nil ?_
                exact sxq_case (lk_cons rfl (lk_cons rfl lk_nil))
              · refine sxo_take (os := _) rfl ?_
                refine sxo_isF (k := 94) rfl h94 ?_
                refine sxo_skip rfl rfl rfl ?_
                refine sxo_skip rfl rfl rfl ?_
                refine sxo_skip rfl rfl rfl ?_
                refine sxo_pick (b := false) rfl rfl rfl rfl ?_
                refine sxo_again (d := 98) (v := .bool (x93 && ((x81 : Int) == x82))) rfl (by rw [h94]; simp only [Bool.false_and]) ?_
                refine sxo_nil ?_
                exact sxq_case (lk_cons rfl (lk_cons rfl lk_nil))
              refine sxo_take (os := _) rfl ?_
              refine sxo_move rfl rfl rfl ?_
              refine sxo_join 4 (fun ((x97, _) : (Bool × Unit)) => [(103, .bool x97)]) (fun ((x97, _) : (Bool × Unit)) => []) (fun ((x97, _) : (Bool × Unit)) => []) (fun ((x97, _) : (Bool × Unit)) => []) (fun ((x97, _) : (Bool × Unit)) => M_L_GraphTurn_j6 F x97) ?_ ?_
              · refine sxo_take (os := _) rfl ?_
                refine sxo_if (fun h95 => ?_) (fun h95 => ?_)
                · refine sxo_isT (k := 99) rfl h95 ?_
                  refine sxo_loadB (i := 0) rfl rfl tf24 rfl rfl (by simp) rfl rfl ?_
                  refine sxo_call ent26 rfl rfl rfl (fun x98 e98 => C_graph_Check F x5.1 a6 c7 x98 e98) (.consG 0 rfl (nest_sl rN32_in) .nil) (fun x98 e98 => ?_)
                  intro _
                  refine sxo_eql rfl rfl rfl rfl ?_
                  refine sxo_pick (b := true) rfl rfl rfl rfl ?_
                  refine sxo_nil ?_
                  exact sxq_meetP (((x98 : Int) == 0), ()) (lk_cons rfl lk_nil) .nil .nil fk_nil
                · refine sxo_isF (k := 99) rfl h95 ?_
                  refine sxo_skip rfl rfl rfl ?_
                  refine sxo_skip rfl rfl rfl ?_
                  refine sxo_skip rfl rfl rfl ?_
                  refine sxo_pick (b := false) rfl rfl rfl rfl ?_
                  refine sxo_nil ?_
                  exact sxq_meetP (false, ()) (lk_cons rfl lk_nil) .nil .nil fk_nil
              · rintro ⟨x97, _⟩
                try dsimp only
                refine sxo_take (os := _) rfl ?_
                refine sxo_assign rfl rfl rfl ?_
                refine sxo_nil ?_
                refine sxq_next ?_
                refine sxc_ret ?_
                exact sxq_doneP () (.inl rfl) (res1 rfl rfl) (fun h => by subst h; rfl) (fun h => by subst h; exact .nil)

set_option maxHeartbeats 4000000 in
theorem C_L_GraphBoth (F : Nat) (x1 : List (List Int)) (a2 : Option Addr) (c3 : (Nat × List (Option Addr × Nat))) (x4 : Int) (x5 : Int) (r : Bool) (hm : M_L_GraphBoth F x1 x4 x5 = some r) :
    Pure Try.prog 6 [.agg #[.slice a2 x1.length c3.1], .agg #[.int .i64 x4, .int .i64 x5]] [SlN eN32 iN32 1 (.slice a2 x1.length c3.1) x1 c3.2] Unit (fun _ => .bool r) (fun _ => []) (fun _ => []) := by
  refine pure_of Try.func6 rfl Try.ntmps6 rfl hm (fun w => ?_)
  refine sxc_env (l' := [(0, .agg #[.slice a2 x1.length c3.1]), (1, .agg #[.int .i64 x4, .int .i64 x5])]) rfl ?_
  refine sxc_seq ?_
  refine sxc_region ?_
  refine sxo_box rfl rfl rfl (fun g6 => ?_)
  refine sxo_box rfl rfl rfl (fun g7 => ?_)
  refine sxo_assign rfl rfl rfl ?_
  refine sxo_nil ?_
  refine sxq_next ?_
  refine sxc_seq ?_
  refine sxc_region ?_
  refine sxo_loadB (i := 1) rfl rfl tf24 rfl rfl (by simp) rfl rfl ?_
  refine sxo_call ent18 rfl rfl rfl (fun x8 e8 => C_graph_Both F x1 a2 c3 x8 e8) (.consF 0 rfl .nil) (fun x8 e8 => ?_)
  rintro ⟨a9, c10⟩
  refine sxo_move rfl rfl rfl ?_
  refine sxo_extract rfl rfl rfl rfl ?_
  refine sxo_extract rfl rfl rfl rfl ?_
  refine sxo_alloc rfl tf24 rfl (fun g11 => ?_)
  refine sxo_storeB (i := 0) rfl rfl rfl tf24 rfl rfl rfl rfl rfl ?_
  refine sxo_assign rfl rfl rfl ?_
  refine sxo_nil ?_
  refine sxq_next ?_
  refine sxc_seq ?_
  refine sxc_seq ?_
  refine sxc_region ?_
  refine sxo_call ent25 rfl rfl rfl (fun x14 e14 => C_L_graphBegun F  x14 e14) .nil (fun x14 e14 => ?_)
  intro _
  refine sxo_not rfl rfl rfl ?_
  refine sxo_nil ?_
  refine sxq_next ?_
  refine sxc_if rfl (fun h64 => ?_) (fun h64 => ?_)
  · refine sxc_seq ?_
    refine sxc_region ?_
    refine sxo_assign rfl rfl rfl ?_
    refine sxo_nil ?_
    refine sxq_next ?_
    refine sxc_ret ?_
    refine sxq_thenR ?_
    exact sxq_doneP () (.inl rfl) (res1 rfl rfl) (fun h => by subst h; rfl) (fun h => by subst h; exact .nil)
  · refine sxc_skip ?_
    refine sxq_next ?_
    refine sxc_seq ?_
    refine sxc_seq ?_
    refine sxc_region ?_
    refine sxo_move rfl rfl rfl ?_
    refine sxo_neq rfl rfl rfl rfl ?_
    refine sxo_nil ?_
    refine sxq_next ?_
    refine sxc_if rfl (fun h63 => ?_) (fun h63 => ?_)
    · refine sxc_seq ?_
      refine sxc_region ?_
      refine sxo_loadB (i := 0) rfl rfl tf24 rfl rfl (by simp) rfl rfl ?_
      refine sxo_build (cells := [.slice none 0 0]) rfl st24 rfl (by kernel_rfl) rfl ?_
      refine sxo_nilN (List Int) (Option Addr × Nat) eN32 rN32 32 1 ?_
      refine sxo_call ent28 rfl rfl rfl (fun x17 e17 => C_R_SameGraph F x8.1 a9 c10 ([] : List (List Int)) none (0, ([] : List (Option Addr × Nat))) x17 e17) (.consG 1 rfl (nest_sl rN32_in) (.consG 0 rfl (nest_sl rN32_in) .nil)) (fun x17 e17 => ?_)
      intro _
      refine sxo_assign rfl rfl rfl ?_
      refine sxo_nil ?_
      refine sxq_next ?_
      refine sxc_ret ?_
      refine sxq_thenR ?_
      exact sxq_doneP () (.inl rfl) (res1 rfl rfl) (fun h => by subst h; rfl) (fun h => by subst h; exact .nil)
    · refine sxc_skip ?_
      refine sxq_next ?_
      refine sxc_seq ?_
      refine sxc_region ?_
      refine sxo_loadB (i := 0) rfl rfl tf24 rfl rfl (by simp) rfl rfl ?_
      refine sxo_call ent17 rfl rfl rfl (fun x18 e18 => C_graph_Turn F x8.1 a9 c10 x18 e18) (.consG 0 rfl (nest_sl rN32_in) .nil) (fun x18 e18 => ?_)
      rintro ⟨a19, c20⟩
      refine sxo_move rfl rfl rfl ?_
      refine sxo_extract rfl rfl rfl rfl ?_
      refine sxo_extract rfl rfl rfl rfl ?_
      refine sxo_alloc rfl tf24 rfl (fun g21 => ?_)
      refine sxo_storeB (i := 0) rfl rfl rfl tf24 rfl rfl rfl rfl rfl ?_
      refine sxo_assign rfl rfl rfl ?_
      refine sxo_nil ?_
      refine sxq_next ?_
      refine sxc_seq ?_
      refine sxc_region ?_
      refine sxo_loadB (i := 1) rfl rfl tf24 rfl rfl (by simp) rfl rfl ?_
      refine sxo_call ent18 rfl rfl rfl (fun x22 e22 => C_graph_Both F x8.1 a9 c10 x22 e22) (.consG 1 rfl (nest_sl rN32_in) .nil) (fun x22 e22 => ?_)
      rintro ⟨a23, c24⟩
      refine sxo_move rfl rfl rfl ?_
      refine sxo_extract rfl rfl rfl rfl ?_
      refine sxo_extract rfl rfl rfl rfl ?_
      refine sxo_alloc rfl tf24 rfl (fun g25 => ?_)
      refine sxo_storeB (i := 0) rfl rfl rfl tf24 rfl rfl rfl rfl rfl ?_
      refine sxo_assign rfl rfl rfl ?_
      refine sxo_nil ?_
      refine sxq_next ?_
      refine sxc_seq ?_
      refine sxc_seq ?_
      refine sxc_region ?_
      refine sxo_move rfl rfl rfl ?_
      refine sxo_neq rfl rfl rfl rfl ?_
      refine sxo_move rfl rfl rfl ?_
      refine sxo_case 3 ((x18.2 : Int) != 0) [(2, .pointer (some ⟨g6, 0, none⟩)), (3, .pointer (some ⟨g7, 0, none⟩)), (5, .pointer (some ⟨g11, 0, none⟩)), (7, .pointer (some ⟨g21, 0, none⟩)), (9, .pointer (some ⟨g25, 0, none⟩)), (39, .bool (((x18.2 : Int) != 0) || ((x22.2 : Int) != 0)))] (fun h36 => ?_) (fun h36 => ?_) ?_
      · refine sxo_take (os := _) rfl ?_
        refine sxo_isT (k := 36) rfl h36 ?_
        refine sxo_skip rfl rfl rfl ?_
        refine sxo_skip rfl rfl rfl ?_
        refine sxo_pick (b := true) rfl rfl rfl rfl ?_
        refine sxo_again (d := 39) (v := .bool (((x18.2 : Int) != 0) || ((x22.2 : Int) != 0))) rfl (by rw [h36]; simp only [Bool.true_or]) ?_
        refine sxo_nil ?_
        exact sxq_case (lk_cons rfl (lk_cons rfl (lk_cons rfl (lk_cons rfl (lk_cons rfl (lk_cons rfl lk_nil))))))
      · refine sxo_take (os := _) rfl ?_
        refine sxo_isF (k := 36) rfl h36 ?_
        refine sxo_move rfl rfl rfl ?_
        refine sxo_neq rfl rfl rfl rfl ?_
        refine sxo_pick (b := false) rfl rfl rfl rfl ?_
        refine sxo_again (d := 39) (v := .bool (((x18.2 : Int) != 0) || ((x22.2 : Int) != 0))) rfl (by rw [h36]; simp only [Bool.false_or]) ?_
        refine sxo_nil ?_
        exact sxq_case (lk_cons rfl (lk_cons rfl (lk_cons rfl (lk_cons rfl (lk_cons rfl (lk_cons rfl lk_nil))))))
      refine sxo_take (os := _) rfl ?_
      refine sxo_move rfl rfl rfl ?_
      refine sxo_join 5 (fun ((x39, _) : (Bool × Unit)) => [(2, .pointer (some ⟨g6, 0, none⟩)), (3, .pointer (some ⟨g7, 0, none⟩)), (5, .pointer (some ⟨g11, 0, none⟩)), (9, .pointer (some ⟨g25, 0, none⟩)), (45, .bool x39)]) (fun ((x39, _) : (Bool × Unit)) => [⟨g25, 24, [.slice a23 x22.1.length c24.1]⟩, ⟨g11, 24, [.slice a9 x8.1.length c10.1]⟩, ⟨g7, 44, [.int .i64 x4, .int .i64 x5]⟩, ⟨g6, 24, [.slice a2 x1.length c3.1]⟩]) (fun ((x39, _) : (Bool × Unit)) => [RoN eN32 rN32 32 1 (.slice a23 x22.1.length c24.1) x22.1 c24.2 [], RoN eN32 rN32 32 1 (.slice a9 x8.1.length c10.1) x8.1 c10.2 []]) (fun ((x39, _) : (Bool × Unit)) => [SlN eN32 iN32 1 (.slice a2 x1.length c3.1) x1 c3.2]) (fun ((x39, _) : (Bool × Unit)) => M_L_GraphBoth_j3 F x1 x4 x5 x8 x22 x39) ?_ ?_
      · refine sxo_take (os := _) rfl ?_
        refine sxo_if (fun h37 => ?_) (fun h37 => ?_)
        · refine sxo_isT (k := 40) rfl h37 ?_
          refine sxo_skip rfl rfl rfl ?_
          refine sxo_skip rfl rfl rfl ?_
          refine sxo_skip rfl rfl rfl ?_
          refine sxo_skip rfl rfl rfl ?_
          refine sxo_pick (b := true) rfl rfl rfl rfl ?_
          refine sxo_nil ?_
          exact sxq_meetP (true, ()) (lk_cons rfl (lk_cons rfl (lk_cons rfl (lk_cons rfl (lk_cons rfl lk_nil))))) (.cons 0 rfl (.cons 1 rfl (.cons 1 rfl (.cons 1 rfl .nil)))) (.cons 0 rfl (.cons 1 rfl .nil)) (fk_cons 0 rfl fk_nil)
        · refine sxo_isF (k := 40) rfl h37 ?_
          refine sxo_loadB (i := 1) rfl rfl tf24 rfl rfl (by simp) rfl rfl ?_
          refine sxo_loadB (i := 2) rfl rfl tf24 rfl rfl (by simp) rfl rfl ?_
          refine sxo_call ent28 rfl rfl rfl (fun x62 e62 => C_R_SameGraph F x18.1 a19 c20 x8.1 a9 c10 x62 e62) (.consG 1 rfl (nest_sl rN32_in) (.consG 2 rfl (nest_sl rN32_in) .nil)) (fun x62 e62 => ?_)
          intro _
          refine sxo_not rfl rfl rfl ?_
          refine sxo_pick (b := false) rfl rfl rfl rfl ?_
          refine sxo_nil ?_
          exact sxq_meetP ((!x62), ()) (lk_cons rfl (lk_cons rfl (lk_cons rfl (lk_cons rfl (lk_cons rfl lk_nil))))) (.cons 0 rfl (.cons 1 rfl (.cons 1 rfl (.cons 1 rfl .nil)))) (.cons 0 rfl (.cons 1 rfl .nil)) (fk_cons 0 rfl fk_nil)
      · rintro ⟨x39, _⟩
        try dsimp only
        refine sxo_take (os := _) rfl ?_
        refine sxo_move rfl rfl rfl ?_
        refine sxo_join 5 (fun ((x42, _) : (Bool × Unit)) => [(2, .pointer (some ⟨g6, 0, none⟩)), (3, .pointer (some ⟨g7, 0, none⟩)), (5, .pointer (some ⟨g11, 0, none⟩)), (51, .bool x42)]) (fun ((x42, _) : (Bool × Unit)) => [⟨g11, 24, [.slice a9 x8.1.length c10.1]⟩, ⟨g7, 44, [.int .i64 x4, .int .i64 x5]⟩, ⟨g6, 24, [.slice a2 x1.length c3.1]⟩]) (fun ((x42, _) : (Bool × Unit)) => [RoN eN32 rN32 32 1 (.slice a9 x8.1.length c10.1) x8.1 c10.2 []]) (fun ((x42, _) : (Bool × Unit)) => [SlN eN32 iN32 1 (.slice a2 x1.length c3.1) x1 c3.2]) (fun ((x42, _) : (Bool × Unit)) => M_L_GraphBoth_j4 F x1 x4 x5 x8 x42) ?_ ?_
        · refine sxo_take (os := _) rfl ?_
          refine sxo_if (fun h40 => ?_) (fun h40 => ?_)
          · refine sxo_isT (k := 46) rfl h40 ?_
            refine sxo_skip rfl rfl rfl ?_
            refine sxo_skip rfl rfl rfl ?_
            refine sxo_skip rfl rfl rfl ?_
            refine sxo_skip rfl rfl rfl ?_
            refine sxo_pick (b := true) rfl rfl rfl rfl ?_
            refine sxo_nil ?_
            exact sxq_meetP (true, ()) (lk_cons rfl (lk_cons rfl (lk_cons rfl (lk_cons rfl lk_nil)))) (.cons 1 rfl (.cons 1 rfl (.cons 1 rfl .nil))) (.cons 1 rfl .nil) (fk_cons 0 rfl fk_nil)
          · refine sxo_isF (k := 46) rfl h40 ?_
            refine sxo_loadB (i := 0) rfl rfl tf24 rfl rfl (by simp) rfl rfl ?_
            refine sxo_loadB (i := 1) rfl rfl tf24 rfl rfl (by simp) rfl rfl ?_
            refine sxo_call ent28 rfl rfl rfl (fun x61 e61 => C_R_SameGraph F x22.1 a23 c24 x8.1 a9 c10 x61 e61) (.consG 0 rfl (nest_sl rN32_in) (.consG 1 rfl (nest_sl rN32_in) .nil)) (fun x61 e61 => ?_)
            intro _
            refine sxo_not rfl rfl rfl ?_
            refine sxo_pick (b := false) rfl rfl rfl rfl ?_
            refine sxo_nil ?_
            exact sxq_meetP ((!x61), ()) (lk_cons rfl (lk_cons rfl (lk_cons rfl (lk_cons rfl lk_nil)))) (.cons 1 rfl (.cons 1 rfl (.cons 1 rfl .nil))) (.cons 1 rfl .nil) (fk_cons 0 rfl fk_nil)
        · rintro ⟨x42, _⟩
          try dsimp only
          refine sxo_take (os := _) rfl ?_
          refine sxo_nil ?_
          refine sxq_next ?_
          refine sxc_if rfl (fun h60 => ?_) (fun h60 => ?_)
          · refine sxc_seq ?_
            refine sxc_region ?_
            refine sxo_assign rfl rfl rfl ?_
            refine sxo_nil ?_
            refine sxq_next ?_
            refine sxc_ret ?_
            refine sxq_thenR ?_
            exact sxq_doneP () (.inl rfl) (res1 rfl rfl) (fun h => by subst h; rfl) (fun h => by subst h; exact .nil)
          · refine sxc_skip ?_
            refine sxq_next ?_
            refine sxc_seq ?_
            refine sxc_region ?_
            refine sxo_fieldAddr rfl rfl ff24_0 rfl ?_
            refine sxo_loadB (i := 2) rfl rfl tf22 rfl rfl (fun _ => rfl) rfl rfl ?_
            refine sxo_len rfl Try.underlying22 rfl rfl ?_
            refine sxo_assign rfl rfl rfl ?_
            refine sxo_nil ?_
            refine sxq_next ?_
            refine sxc_seq ?_
            refine sxc_seq ?_
            refine sxc_region ?_
            refine sxo_fieldAddr rfl rfl ff44_0 rfl ?_
            refine sxo_loadB (i := 1) rfl rfl tf3 rfl rfl (fun _ => rfl) rfl rfl ?_
            refine sxo_lss rfl rfl rfl rfl ?_
            refine sxo_move rfl rfl rfl ?_
            refine sxo_case 5 (decide (x4 < 0)) [(2, .pointer (some ⟨g6, 0, none⟩)), (3, .pointer (some ⟨g7, 0, none⟩)), (5, .pointer (some ⟨g11, 0, none⟩)), (11, .int .i64 (x1.length : Int)), (63, .bool ((decide (x4 < 0)) || (decide ((x1.length : Int) ≤ x4))))] (fun h47 => ?_) (fun h47 => ?_) ?_
            · refine sxo_take (os := _) rfl ?_
              refine sxo_isT (k := 58) rfl h47 ?_
              refine sxo_skip rfl rfl rfl ?_
              refine sxo_skip rfl rfl rfl ?_
              refine sxo_skip rfl rfl rfl ?_
              refine sxo_skip rfl rfl rfl ?_
              refine sxo_pick (b := true) rfl rfl rfl rfl ?_
              refine sxo_again (d := 63) (v := .bool ((decide (x4 < 0)) || (decide ((x1.length : Int) ≤ x4)))) rfl (by rw [h47]; simp only [Bool.true_or]) ?_
              refine sxo_nil ?_
              exact sxq_case (lk_cons rfl (lk_cons rfl (lk_cons rfl (lk_cons rfl (lk_cons rfl lk_nil)))))
            · refine sxo_take (os := _) rfl ?_
              refine sxo_isF (k := 58) rfl h47 ?_
              refine sxo_fieldAddr rfl rfl ff44_0 rfl ?_
              refine sxo_loadB (i := 1) rfl rfl tf3 rfl rfl (fun _ => rfl) rfl rfl ?_
              refine sxo_move rfl rfl rfl ?_
              refine sxo_geq rfl rfl rfl rfl ?_
              refine sxo_pick (b := false) rfl rfl rfl rfl ?_
              refine sxo_again (d := 63) (v := .bool ((decide (x4 < 0)) || (decide ((x1.length : Int) ≤ x4)))) rfl (by rw [h47]; simp only [Bool.false_or]) ?_
              refine sxo_nil ?_
              exact sxq_case (lk_cons rfl (lk_cons rfl (lk_cons rfl (lk_cons rfl (lk_cons rfl lk_nil)))))
            refine sxo_take (os := _) rfl ?_
            refine sxo_move rfl rfl rfl ?_
            refine sxo_case 4 ((decide (x4 < 0)) || (decide ((x1.length : Int) ≤ x4))) [(2, .pointer (some ⟨g6, 0, none⟩)), (3, .pointer (some ⟨g7, 0, none⟩)), (5, .pointer (some ⟨g11, 0, none⟩)), (11, .int .i64 (x1.length : Int)), (68, .bool (((decide (x4 < 0)) || (decide ((x1.length : Int) ≤ x4))) || (decide (x5 < 0))))] (fun h48 => ?_) (fun h48 => ?_) ?_
            · refine sxo_take (os := _) rfl ?_
              refine sxo_isT (k := 64) rfl h48 ?_
              refine sxo_skip rfl rfl rfl ?_
              refine sxo_skip rfl rfl rfl ?_
              refine sxo_skip rfl rfl rfl ?_
              refine sxo_pick (b := true) rfl rfl rfl rfl ?_
              refine sxo_again (d := 68) (v := .bool (((decide (x4 < 0)) || (decide ((x1.length : Int) ≤ x4))) || (decide (x5 < 0)))) rfl (by rw [h48]; simp only [Bool.true_or]) ?_
              refine sxo_nil ?_
              exact sxq_case (lk_cons rfl (lk_cons rfl (lk_cons rfl (lk_cons rfl (lk_cons rfl lk_nil)))))
            · refine sxo_take (os := _) rfl ?_
              refine sxo_isF (k := 64) rfl h48 ?_
              refine sxo_fieldAddr rfl rfl ff44_1 rfl ?_
              refine sxo_loadB (i := 1) rfl rfl tf3 rfl rfl (fun _ => rfl) rfl rfl ?_
              refine sxo_lss rfl rfl rfl rfl ?_
              refine sxo_pick (b := false) rfl rfl rfl rfl ?_
              refine sxo_again (d := 68) (v := .bool (((decide (x4 < 0)) || (decide ((x1.length : Int) ≤ x4))) || (decide (x5 < 0)))) rfl (by rw [h48]; simp only [Bool.false_or]) ?_
              refine sxo_nil ?_
              exact sxq_case (lk_cons rfl (lk_cons rfl (lk_cons rfl (lk_cons rfl (lk_cons rfl lk_nil)))))
            refine sxo_take (os := _) rfl ?_
            refine sxo_move rfl rfl rfl ?_
            refine sxo_case 5 (((decide (x4 < 0)) || (decide ((x1.length : Int) ≤ x4))) || (decide (x5 < 0))) [(2, .pointer (some ⟨g6, 0, none⟩)), (3, .pointer (some ⟨g7, 0, none⟩)), (5, .pointer (some ⟨g11, 0, none⟩)), (74, .bool ((((decide (x4 < 0)) || (decide ((x1.length : Int) ≤ x4))) || (decide (x5 < 0))) || (decide ((x1.length : Int) ≤ x5))))] (fun h49 => ?_) (fun h49 => ?_) ?_
            · refine sxo_take (os := _) rfl ?_
              refine sxo_isT (k := 69) rfl h49 ?_
              refine sxo_skip rfl rfl rfl ?_
              refine sxo_skip rfl rfl rfl ?_
              refine sxo_skip rfl rfl rfl ?_
              refine sxo_skip rfl rfl rfl ?_
              refine sxo_pick (b := true) rfl rfl rfl rfl ?_
              refine sxo_again (d := 74) (v := .bool ((((decide (x4 < 0)) || (decide ((x1.length : Int) ≤ x4))) || (decide (x5 < 0))) || (decide ((x1.length : Int) ≤ x5)))) rfl (by rw [h49]; simp only [Bool.true_or]) ?_
              refine sxo_nil ?_
              exact sxq_case (lk_cons rfl (lk_cons rfl (lk_cons rfl (lk_cons rfl lk_nil))))
            · refine sxo_take (os := _) rfl ?_
              refine sxo_isF (k := 69) rfl h49 ?_
              refine sxo_fieldAddr rfl rfl ff44_1 rfl ?_
              refine sxo_loadB (i := 1) rfl rfl tf3 rfl rfl (fun _ => rfl) rfl rfl ?_
              refine sxo_move rfl rfl rfl ?_
              refine sxo_geq rfl rfl rfl rfl ?_
              refine sxo_pick (b := false) rfl rfl rfl rfl ?_
              refine sxo_again (d := 74) (v := .bool ((((decide (x4 < 0)) || (decide ((x1.length : Int) ≤ x4))) || (decide (x5 < 0))) || (decide ((x1.length : Int) ≤ x5)))) rfl (by rw [h49]; simp only [Bool.false_or]) ?_
              refine sxo_nil ?_
              exact sxq_case (lk_cons rfl (lk_cons rfl (lk_cons rfl (lk_cons rfl lk_nil))))
            refine sxo_take (os := _) rfl ?_
            refine sxo_nil ?_
            refine sxq_next ?_
            refine sxc_if rfl (fun h59 => ?_) (fun h59 => ?_)
            · refine sxc_seq ?_
              refine sxc_region ?_
              refine sxo_assign rfl rfl rfl ?_
              refine sxo_nil ?_
              refine sxq_next ?_
              refine sxc_ret ?_
              refine sxq_thenR ?_
              exact sxq_doneP () (.inl rfl) (res1 rfl rfl) (fun h => by subst h; rfl) (fun h => by subst h; exact .nil)
            · refine sxc_skip ?_
              refine sxq_next ?_
              refine sxc_join (fun ((x54, _) : (Bool × Unit)) => [(4, .bool x54)]) (fun ((x54, _) : (Bool × Unit)) => []) (fun ((x54, _) : (Bool × Unit)) => []) (fun ((x54, _) : (Bool × Unit)) => []) (fun ((x54, _) : (Bool × Unit)) => M_L_GraphBoth_j5 F x54) ?_ ?_
              · refine sxb_draw mixed [] [⟨g11, 24, [.slice a9 x8.1.length c10.1]⟩, ⟨g7, 44, [.int .i64 x4, .int .i64 x5]⟩, ⟨g6, 24, [.slice a2 x1.length c3.1]⟩] [SlN eN32 iN32 1 (.slice a2 x1.length c3.1) x1 c3.2] (.cons 0 rfl (.cons 0 rfl (.cons 0 rfl .nil))) (gk_F 0 rfl gk_nil) 22 rfl ?_
                refine sxb_take 0 (.agg #[.slice a9 x8.1.length c10.1]) [] rfl rfl rfl rfl (by kernel_rfl) (by kernel_rfl) (by kernel_rfl) (by kernel_rfl) (by kernel_rfl) (by kernel_rfl) rfl (show _ = #[true, false, false, false, false, false, false, false, false, false, false, false, false, false, false, false, false, false, false, false, false, false] from rfl) (yv_loadB (i := 0) rfl tf24 rfl rfl (by simp) rfl) ?_
                refine sxb_takeP 1 (.pointer (some ⟨g7, 0, none⟩)) rfl rfl rfl rfl (by kernel_rfl) (by kernel_rfl) (by kernel_rfl) (by kernel_rfl) (by kernel_rfl) rfl (show _ = #[true, true, false, false, false, false, false, false, false, false, false, false, false, false, false, false, false, false, false, false, false, false] from rfl) (yv_fieldAddr rfl ff44_0) ?_
                refine sxb_take 2 (.int .i64 x4) [] rfl rfl rfl rfl (by kernel_rfl) (by kernel_rfl) (by kernel_rfl) (by kernel_rfl) (by kernel_rfl) (by kernel_rfl) rfl (show _ = #[true, true, true, false, false, false, false, false, false, false, false, false, false, false, false, false, false, false, false, false, false, false] from rfl) (yv_loadB (i := 1) rfl tf3 rfl rfl (fun _ => rfl) rfl) ?_
                refine sxb_takeP 3 (.pointer (some ⟨g7, 1, none⟩)) rfl rfl rfl rfl (by kernel_rfl) (by kernel_rfl) (by kernel_rfl) (by kernel_rfl) (by kernel_rfl) rfl (show _ = #[true, true, true, true, false, false, false, false, false, false, false, false, false, false, false, false, false, false, false, false, false, false] from rfl) (yv_fieldAddr rfl ff44_1) ?_
                refine sxb_take 4 (.int .i64 x5) [] rfl rfl rfl rfl (by kernel_rfl) (by kernel_rfl) (by kernel_rfl) (by kernel_rfl) (by kernel_rfl) (by kernel_rfl) rfl (show _ = #[true, true, true, true, true, false, false, false, false, false, false, false, false, false, false, false, false, false, false, false, false, false] from rfl) (yv_loadB (i := 1) rfl tf3 rfl rfl (fun _ => rfl) rfl) ?_
                refine sxb_take 6 (.agg #[.slice a2 x1.length c3.1]) [] rfl rfl rfl rfl (by kernel_rfl) (by kernel_rfl) (by kernel_rfl) (by kernel_rfl) (by kernel_rfl) (by kernel_rfl) rfl (show _ = #[true, true, true, true, true, false, true, false, false, false, false, false, false, false, false, false, false, false, false, false, false, false] from rfl) (yv_loadB (i := 2) rfl tf24 rfl rfl (by simp) rfl) ?_
                refine sxb_takeP 7 (.pointer (some ⟨g7, 0, none⟩)) rfl rfl rfl rfl (by kernel_rfl) (by kernel_rfl) (by kernel_rfl) (by kernel_rfl) (by kernel_rfl) rfl (show _ = #[true, true, true, true, true, false, true, true, false, false, false, false, false, false, false, false, false, false, false, false, false, false] from rfl) (yv_fieldAddr rfl ff44_0) ?_
                refine sxb_take 8 (.int .i64 x4) [] rfl rfl rfl rfl (by kernel_rfl) (by kernel_rfl) (by kernel_rfl) (by kernel_rfl) (by kernel_rfl) (by kernel_rfl) rfl (show _ = #[true, true, true, true, true, false, true, true, true, false, false, false, false, false, false, false, false, false, false, false, false, false] from rfl) (yv_loadB (i := 1) rfl tf3 rfl rfl (fun _ => rfl) rfl) ?_
                refine sxb_takeP 9 (.pointer (some ⟨g7, 1, none⟩)) rfl rfl rfl rfl (by kernel_rfl) (by kernel_rfl) (by kernel_rfl) (by kernel_rfl) (by kernel_rfl) rfl (show _ = #[true, true, true, true, true, false, true, true, true, true, false, false, false, false, false, false, false, false, false, false, false, false] from rfl) (yv_fieldAddr rfl ff44_1) ?_
                refine sxb_take 10 (.int .i64 x5) [] rfl rfl rfl rfl (by kernel_rfl) (by kernel_rfl) (by kernel_rfl) (by kernel_rfl) (by kernel_rfl) (by kernel_rfl) rfl (show _ = #[true, true, true, true, true, false, true, true, true, true, true, false, false, false, false, false, false, false, false, false, false, false] from rfl) (yv_loadB (i := 1) rfl tf3 rfl rfl (fun _ => rfl) rfl) ?_
                refine sxb_step 5 rfl (by kernel_rfl) (show _ = #[true, true, true, true, true, true, true, true, true, true, true, false, false, false, false, false, false, false, false, false, false, false] from rfl) ?_
                refine sxo_call ent30 rfl rfl rfl (fun x55 e55 => C_R_Leads F x8.1 a9 c10 x4 x5 x55 e55) (.consG 0 rfl (nest_sl rN32_in) .nil) (fun x55 e55 => ?_)
                intro _
                refine sxo_nil ?_
                refine sxq_anyB (.cons 0 rfl (.cons 0 rfl (.cons 0 rfl .nil))) (gk_F 0 rfl gk_nil) ?_
                refine sxb_step 11 rfl (by kernel_rfl) (show _ = #[true, true, true, true, true, true, true, true, true, true, true, true, false, false, false, false, false, false, false, false, false, false] from rfl) ?_
                refine sxo_call ent30 rfl rfl rfl (fun x56 e56 => C_R_Leads F x1 a2 c3 x4 x5 x56 e56) (.consF 0 rfl .nil) (fun x56 e56 => ?_)
                intro _
                refine sxo_nil ?_
                refine sxq_anyB (.cons 0 rfl (.cons 0 rfl (.cons 0 rfl .nil))) (gk_F 0 rfl gk_nil) ?_
                refine sxb_takeP 12 (.bool x56) rfl rfl rfl rfl (by kernel_rfl) (by kernel_rfl) (by kernel_rfl) (by kernel_rfl) (by kernel_rfl) rfl (show _ = #[true, true, true, true, true, true, true, true, true, true, true, true, true, false, false, false, false, false, false, false, false, false] from rfl) (yv_pv rfl) ?_
                refine sxb_if (fun h57 => ?_) (fun h57 => ?_)
                · refine sxb_again (d := 87) (v := .bool true) rfl (by rw [h57]) ?_
                  refine sxb_skip 13 rfl rfl rfl rfl (by kernel_rfl) (by kernel_rfl) (by kernel_rfl) (by kernel_rfl) (by kernel_rfl) rfl (show _ = #[true, true, true, true, true, true, true, true, true, true, true, true, true, true, false, false, false, false, false, false, false, false] from rfl) ?_
                  refine sxb_skip 14 rfl rfl rfl rfl (by kernel_rfl) (by kernel_rfl) (by kernel_rfl) (by kernel_rfl) (by kernel_rfl) rfl (show _ = #[true, true, true, true, true, true, true, true, true, true, true, true, true, true, true, false, false, false, false, false, false, false] from rfl) ?_
                  refine sxb_skip 15 rfl rfl rfl rfl (by kernel_rfl) (by kernel_rfl) (by kernel_rfl) (by kernel_rfl) (by kernel_rfl) rfl (show _ = #[true, true, true, true, true, true, true, true, true, true, true, true, true, true, true, true, false, false, false, false, false, false] from rfl) ?_
                  refine sxb_skip 16 rfl rfl rfl rfl (by kernel_rfl) (by kernel_rfl) (by kernel_rfl) (by kernel_rfl) (by kernel_rfl) rfl (show _ = #[true, true, true, true, true, true, true, true, true, true, true, true, true, true, true, true, true, false, false, false, false, false] from rfl) ?_
                  refine sxb_skip 17 rfl rfl rfl rfl (by kernel_rfl) (by kernel_rfl) (by kernel_rfl) (by kernel_rfl) (by kernel_rfl) rfl (show _ = #[true, true, true, true, true, true, true, true, true, true, true, true, true, true, true, true, true, true, false, false, false, false] from rfl) ?_
                  refine sxb_skip 18 rfl rfl rfl rfl (by kernel_rfl) (by kernel_rfl) (by kernel_rfl) (by kernel_rfl) (by kernel_rfl) rfl (show _ = #[true, true, true, true, true, true, true, true, true, true, true, true, true, true, true, true, true, true, true, false, false, false] from rfl) ?_
                  refine sxb_takeP 19 (.bool true) rfl rfl rfl rfl (by kernel_rfl) (by kernel_rfl) (by kernel_rfl) (by kernel_rfl) (by kernel_rfl) rfl (show _ = #[true, true, true, true, true, true, true, true, true, true, true, true, true, true, true, true, true, true, true, true, false, false] from rfl) (yv_pv rfl) ?_
                  refine sxb_step 20 rfl (by kernel_rfl) (show _ = #[true, true, true, true, true, true, true, true, true, true, true, true, true, true, true, true, true, true, true, true, true, false] from rfl) ?_
                  refine sxo_eqb rfl Try.underlying4 rfl rfl rfl ?_
                  refine sxo_nil ?_
                  refine sxq_anyB (.cons 0 rfl (.cons 0 rfl (.cons 0 rfl .nil))) (gk_F 0 rfl gk_nil) ?_
                  refine sxb_takeP 21 (.bool (x55 == true)) rfl rfl rfl rfl (by kernel_rfl) (by kernel_rfl) (by kernel_rfl) (by kernel_rfl) (by kernel_rfl) rfl (show _ = #[true, true, true, true, true, true, true, true, true, true, true, true, true, true, true, true, true, true, true, true, true, true] from rfl) (yv_pv rfl) ?_
                  refine sxb_done (by kernel_rfl) ?_
                  refine sxq_np ?_ (by intro c h; cases h)
                  exact sxq_meetP ((x55 == true), ()) (lk_cons rfl lk_nil) .nil .nil fk_nil
                · refine sxb_again (d := 87) (v := .bool false) rfl (by rw [h57]) ?_
                  refine sxb_take 13 (.agg #[.slice a2 x1.length c3.1]) [] rfl rfl rfl rfl (by kernel_rfl) (by kernel_rfl) (by kernel_rfl) (by kernel_rfl) (by kernel_rfl) (by kernel_rfl) rfl (show _ = #[true, true, true, true, true, true, true, true, true, true, true, true, true, true, false, false, false, false, false, false, false, false] from rfl) (yv_loadB (i := 2) rfl tf24 rfl rfl (by simp) rfl) ?_
                  refine sxb_takeP 14 (.pointer (some ⟨g7, 1, none⟩)) rfl rfl rfl rfl (by kernel_rfl) (by kernel_rfl) (by kernel_rfl) (by kernel_rfl) (by kernel_rfl) rfl (show _ = #[true, true, true, true, true, true, true, true, true, true, true, true, true, true, true, false, false, false, false, false, false, false] from rfl) (yv_fieldAddr rfl ff44_1) ?_
                  refine sxb_take 15 (.int .i64 x5) [] rfl rfl rfl rfl (by kernel_rfl) (by kernel_rfl) (by kernel_rfl) (by kernel_rfl) (by kernel_rfl) (by kernel_rfl) rfl (show _ = #[true, true, true, true, true, true, true, true, true, true, true, true, true, true, true, true, false, false, false, false, false, false] from rfl) (yv_loadB (i := 1) rfl tf3 rfl rfl (fun _ => rfl) rfl) ?_
                  refine sxb_takeP 16 (.pointer (some ⟨g7, 0, none⟩)) rfl rfl rfl rfl (by kernel_rfl) (by kernel_rfl) (by kernel_rfl) (by kernel_rfl) (by kernel_rfl) rfl (show _ = #[true, true, true, true, true, true, true, true, true, true, true, true, true, true, true, true, true, false, false, false, false, false] from rfl) (yv_fieldAddr rfl ff44_0) ?_
                  refine sxb_take 17 (.int .i64 x4) [] rfl rfl rfl rfl (by kernel_rfl) (by kernel_rfl) (by kernel_rfl) (by kernel_rfl) (by kernel_rfl) (by kernel_rfl) rfl (show _ = #[true, true, true, true, true, true, true, true, true, true, true, true, true, true, true, true, true, true, false, false, false, false] from rfl) (yv_loadB (i := 1) rfl tf3 rfl rfl (fun _ => rfl) rfl) ?_
                  refine sxb_step 18 rfl (by kernel_rfl) (show _ = #[true, true, true, true, true, true, true, true, true, true, true, true, true, true, true, true, true, true, true, false, false, false] from rfl) ?_
                  refine sxo_call ent30 rfl rfl rfl (fun x58 e58 => C_R_Leads F x1 a2 c3 x5 x4 x58 e58) (.consF 0 rfl .nil) (fun x58 e58 => ?_)
                  intro _
                  refine sxo_nil ?_
                  refine sxq_anyB (.cons 0 rfl (.cons 0 rfl (.cons 0 rfl .nil))) (gk_F 0 rfl gk_nil) ?_
                  refine sxb_takeP 19 (.bool x58) rfl rfl rfl rfl (by kernel_rfl) (by kernel_rfl) (by kernel_rfl) (by kernel_rfl) (by kernel_rfl) rfl (show _ = #[true, true, true, true, true, true, true, true, true, true, true, true, true, true, true, true, true, true, true, true, false, false] from rfl) (yv_pv rfl) ?_
                  refine sxb_step 20 rfl (by kernel_rfl) (show _ = #[true, true, true, true, true, true, true, true, true, true, true, true, true, true, true, true, true, true, true, true, true, false] from rfl) ?_
                  refine sxo_eqb rfl Try.underlying4 rfl rfl rfl ?_
                  refine sxo_nil ?_
                  refine sxq_anyB (.cons 0 rfl (.cons 0 rfl (.cons 0 rfl .nil))) (gk_F 0 rfl gk_nil) ?_
                  refine sxb_takeP 21 (.bool (x55 == x58)) rfl rfl rfl rfl (by kernel_rfl) (by kernel_rfl) (by kernel_rfl) (by kernel_rfl) (by kernel_rfl) rfl (show _ = #[true, true, true, true, true, true, true, true, true, true, true, true, true, true, true, true, true, true, true, true, true, true] from rfl) (yv_pv rfl) ?_
                  refine sxb_done (by kernel_rfl) ?_
                  refine sxq_np ?_ (by intro c h; cases h)
                  exact sxq_meetP ((x55 == x58), ()) (lk_cons rfl lk_nil) .nil .nil fk_nil
              · rintro ⟨x54, _⟩
                try dsimp only
                refine sxc_ret ?_
                exact sxq_doneP () (.inl rfl) (res1 rfl rfl) (fun h => by subst h; rfl) (fun h => by subst h; exact .nil)

set_option maxHeartbeats 4000000 in
theorem C_L_GraphLess (F : Nat) (x1 : List (List Int)) (a2 : Option Addr) (c3 : (Nat × List (Option Addr × Nat))) (x4 : Int) (r : Bool) (hm : M_L_GraphLess F x1 x4 = some r) :
    Pure Try.prog 8 [.agg #[.slice a2 x1.length c3.1], .int .i64 x4] [SlN eN32 iN32 1 (.slice a2 x1.length c3.1) x1 c3.2] Unit (fun _ => .bool r) (fun _ => []) (fun _ => []) := by
  refine pure_of Try.func8 rfl Try.ntmps8 rfl hm (fun w => ?_)
  refine sxc_env (l' := [(0, .agg #[.slice a2 x1.length c3.1]), (1, .int .i64 x4)]) rfl ?_
  refine sxc_seq ?_
  refine sxc_region ?_
  refine sxo_box rfl rfl rfl (fun g5 => ?_)
  refine sxo_assign rfl rfl rfl ?_
  refine sxo_nil ?_
  refine sxq_next ?_
  refine sxc_seq ?_
  refine sxc_region ?_
  refine sxo_loadB (i := 0) rfl rfl tf24 rfl rfl (by simp) rfl rfl ?_
  refine sxo_call ent15 rfl rfl rfl (fun x6 e6 => C_graph_Arcs F x1 a2 c3 x6 e6) (.consF 0 rfl .nil) (fun x6 e6 => ?_)
  rintro ⟨a7, c8⟩
  refine sxo_move rfl rfl rfl ?_
  refine sxo_extract rfl rfl rfl rfl ?_
  refine sxo_extract rfl rfl rfl rfl ?_
  refine sxo_assign rfl rfl rfl ?_
  refine sxo_assign rfl rfl rfl ?_
  refine sxo_nil ?_
  refine sxq_next ?_
  refine sxc_seq ?_
  refine sxc_seq ?_
  refine sxc_region ?_
  refine sxo_call ent25 rfl rfl rfl (fun x11 e11 => C_L_graphBegun F  x11 e11) .nil (fun x11 e11 => ?_)
  intro _
  refine sxo_not rfl rfl rfl ?_
  refine sxo_nil ?_
  refine sxq_next ?_
  refine sxc_if rfl (fun h90 => ?_) (fun h90 => ?_)
  · refine sxc_seq ?_
    refine sxc_region ?_
    refine sxo_assign rfl rfl rfl ?_
    refine sxo_nil ?_
    refine sxq_next ?_
    refine sxc_ret ?_
    refine sxq_thenR ?_
    exact sxq_doneP () (.inl rfl) (res1 rfl rfl) (fun h => by subst h; rfl) (fun h => by subst h; exact .nil)
  · refine sxc_skip ?_
    refine sxq_next ?_
    refine sxc_seq ?_
    refine sxc_seq ?_
    refine sxc_region ?_
    refine sxo_move rfl rfl rfl ?_
    refine sxo_neq rfl rfl rfl rfl ?_
    refine sxo_move rfl rfl rfl ?_
    refine sxo_case 3 ((x6.2 : Int) != 0) [(1, .int .i64 x4), (2, .pointer (some ⟨g5, 0, none⟩)), (5, .slice a7 x6.1.length c8), (6, .int .i64 x6.2), (24, .bool (((x6.2 : Int) != 0) || (decide (x4 < 0))))] (fun h16 => ?_) (fun h16 => ?_) ?_
    · refine sxo_take (os := _) rfl ?_
      refine sxo_isT (k := 21) rfl h16 ?_
      refine sxo_skip rfl rfl rfl ?_
      refine sxo_skip rfl rfl rfl ?_
      refine sxo_pick (b := true) rfl rfl rfl rfl ?_
      refine sxo_again (d := 24) (v := .bool (((x6.2 : Int) != 0) || (decide (x4 < 0)))) rfl (by rw [h16]; simp only [Bool.true_or]) ?_
      refine sxo_nil ?_
      exact sxq_case (lk_cons rfl (lk_cons rfl (lk_cons rfl (lk_cons rfl (lk_cons rfl lk_nil)))))
    · refine sxo_take (os := _) rfl ?_
      refine sxo_isF (k := 21) rfl h16 ?_
      refine sxo_move rfl rfl rfl ?_
      refine sxo_lss rfl rfl rfl rfl ?_
      refine sxo_pick (b := false) rfl rfl rfl rfl ?_
      refine sxo_again (d := 24) (v := .bool (((x6.2 : Int) != 0) || (decide (x4 < 0)))) rfl (by rw [h16]; simp only [Bool.false_or]) ?_
      refine sxo_nil ?_
      exact sxq_case (lk_cons rfl (lk_cons rfl (lk_cons rfl (lk_cons rfl (lk_cons rfl lk_nil)))))
    refine sxo_take (os := _) rfl ?_
    refine sxo_move rfl rfl rfl ?_
    refine sxo_case 5 (((x6.2 : Int) != 0) || (decide (x4 < 0))) [(1, .int .i64 x4), (2, .pointer (some ⟨g5, 0, none⟩)), (5, .slice a7 x6.1.length c8), (6, .int .i64 x6.2), (30, .bool ((((x6.2 : Int) != 0) || (decide (x4 < 0))) || (decide ((x6.1.length : Int) ≤ x4))))] (fun h17 => ?_) (fun h17 => ?_) ?_
    · refine sxo_take (os := _) rfl ?_
      refine sxo_isT (k := 25) rfl h17 ?_
      refine sxo_skip rfl rfl rfl ?_
      refine sxo_skip rfl rfl rfl ?_
      refine sxo_skip rfl rfl rfl ?_
      refine sxo_skip rfl rfl rfl ?_
      refine sxo_pick (b := true) rfl rfl rfl rfl ?_
      refine sxo_again (d := 30) (v := .bool ((((x6.2 : Int) != 0) || (decide (x4 < 0))) || (decide ((x6.1.length : Int) ≤ x4)))) rfl (by rw [h17]; simp only [Bool.true_or]) ?_
      refine sxo_nil ?_
      exact sxq_case (lk_cons rfl (lk_cons rfl (lk_cons rfl (lk_cons rfl (lk_cons rfl lk_nil)))))
    · refine sxo_take (os := _) rfl ?_
      refine sxo_isF (k := 25) rfl h17 ?_
      refine sxo_move rfl rfl rfl ?_
      refine sxo_move rfl rfl rfl ?_
      refine sxo_len rfl Try.underlying25 rfl rfl ?_
      refine sxo_geq rfl rfl rfl rfl ?_
      refine sxo_pick (b := false) rfl rfl rfl rfl ?_
      refine sxo_again (d := 30) (v := .bool ((((x6.2 : Int) != 0) || (decide (x4 < 0))) || (decide ((x6.1.length : Int) ≤ x4)))) rfl (by rw [h17]; simp only [Bool.false_or]) ?_
      refine sxo_nil ?_
      exact sxq_case (lk_cons rfl (lk_cons rfl (lk_cons rfl (lk_cons rfl (lk_cons rfl lk_nil)))))
    refine sxo_take (os := _) rfl ?_
    refine sxo_nil ?_
    refine sxq_next ?_
    refine sxc_if rfl (fun h89 => ?_) (fun h89 => ?_)
    · refine sxc_seq ?_
      refine sxc_region ?_
      refine sxo_move rfl rfl rfl ?_
      refine sxo_eql rfl rfl rfl rfl ?_
      refine sxo_move rfl rfl rfl ?_
      refine sxo_case 4 ((x6.2 : Int) == 0) [(37, .bool (((x6.2 : Int) == 0) || (((x6.1.length : Int) : Int) == 0)))] (fun h18 => ?_) (fun h18 => ?_) ?_
      · refine sxo_take (os := _) rfl ?_
        refine sxo_isT (k := 33) rfl h18 ?_
        refine sxo_skip rfl rfl rfl ?_
        refine sxo_skip rfl rfl rfl ?_
        refine sxo_skip rfl rfl rfl ?_
        refine sxo_pick (b := true) rfl rfl rfl rfl ?_
        refine sxo_again (d := 37) (v := .bool (((x6.2 : Int) == 0) || (((x6.1.length : Int) : Int) == 0))) rfl (by rw [h18]; simp only [Bool.true_or]) ?_
        refine sxo_nil ?_
        exact sxq_case (lk_cons rfl lk_nil)
      · refine sxo_take (os := _) rfl ?_
        refine sxo_isF (k := 33) rfl h18 ?_
        refine sxo_move rfl rfl rfl ?_
        refine sxo_len rfl Try.underlying25 rfl rfl ?_
        refine sxo_eql rfl rfl rfl rfl ?_
        refine sxo_pick (b := false) rfl rfl rfl rfl ?_
        refine sxo_again (d := 37) (v := .bool (((x6.2 : Int) == 0) || (((x6.1.length : Int) : Int) == 0))) rfl (by rw [h18]; simp only [Bool.false_or]) ?_
        refine sxo_nil ?_
        exact sxq_case (lk_cons rfl lk_nil)
      refine sxo_take (os := _) rfl ?_
      refine sxo_assign rfl rfl rfl ?_
      refine sxo_nil ?_
      refine sxq_next ?_
      refine sxc_ret ?_
      refine sxq_thenR ?_
      exact sxq_doneP () (.inl rfl) (res1 rfl rfl) (fun h => by subst h; rfl) (fun h => by subst h; exact .nil)
    · refine sxc_skip ?_
      refine sxq_next ?_
      refine sxc_seq ?_
      refine sxc_freeze 0 rfl ?_
      refine sxc_cutH 0 eS44_ok rfl (fun x37 e37 a38 c39 h40 h41 => ?_)
      refine sxc_cutH 1 eS44_ok rfl (fun x42 e42 a43 c44 h45 h46 => ?_)
      refine sxb_draw mixed [] [⟨g5, 24, [.slice a2 x1.length c3.1]⟩] [Sl eS44 2 (.slice a43 x42.length c44) x42, Sl eS44 2 (.slice a38 x37.length c39) x37, Sl eS44 2 (.slice a7 x6.1.length c8) x6.1, SlN eN32 iN32 1 (.slice a2 x1.length c3.1) x1 c3.2] (.cons 0 rfl .nil) (gk_F 0 rfl (gk_F 1 rfl (gk_F 2 rfl (gk_F 3 rfl gk_nil)))) 11 rfl ?_
      refine sxb_takeP 1 (.slice a7 x6.1.length c8) rfl rfl rfl rfl (by kernel_rfl) (by kernel_rfl) (by kernel_rfl) (by kernel_rfl) (by kernel_rfl) rfl (show _ = #[false, true, false, false, false, false, false, false, false, false, false] from rfl) (yv_pv rfl) ?_
      refine sxb_takeP 2 (.int .i64 x4) rfl rfl rfl rfl (by kernel_rfl) (by kernel_rfl) (by kernel_rfl) (by kernel_rfl) (by kernel_rfl) rfl (show _ = #[false, true, true, false, false, false, false, false, false, false, false] from rfl) (yv_pv rfl) ?_
      refine sxb_takeP 3 (.slice a38 x37.length c39) rfl rfl rfl rfl (by kernel_rfl) (by kernel_rfl) (by kernel_rfl) (by kernel_rfl) (by kernel_rfl) rfl (show _ = #[false, true, true, true, false, false, false, false, false, false, false] from rfl) (yv_cut Try.underlying25 tf44 rfl rfl rfl e37 h41 h40) ?_
      refine sxb_takeP 5 (.slice a7 x6.1.length c8) rfl rfl rfl rfl (by kernel_rfl) (by kernel_rfl) (by kernel_rfl) (by kernel_rfl) (by kernel_rfl) rfl (show _ = #[false, true, true, true, false, true, false, false, false, false, false] from rfl) (yv_pv rfl) ?_
      refine sxb_takeP 6 (.int .i64 x4) rfl rfl rfl rfl (by kernel_rfl) (by kernel_rfl) (by kernel_rfl) (by kernel_rfl) (by kernel_rfl) rfl (show _ = #[false, true, true, true, false, true, true, false, false, false, false] from rfl) (yv_pv rfl) ?_
      refine sxb_takeP 7 (.int .i64 (iadd .i64 x4 1)) rfl rfl rfl rfl (by kernel_rfl) (by kernel_rfl) (by kernel_rfl) (by kernel_rfl) (by kernel_rfl) rfl (show _ = #[false, true, true, true, false, true, true, true, false, false, false] from rfl) (yv_pv rfl) ?_
      refine sxb_takeP 8 (.slice a43 x42.length c44) rfl rfl rfl rfl (by kernel_rfl) (by kernel_rfl) (by kernel_rfl) (by kernel_rfl) (by kernel_rfl) rfl (show _ = #[false, true, true, true, false, true, true, true, true, false, false] from rfl) (yv_cut Try.underlying25 tf44 rfl rfl rfl e42 h46 h45) ?_
      refine sxb_step 0 rfl (by kernel_rfl) (show _ = #[true, true, true, true, false, true, true, true, true, false, false] from rfl) ?_
      refine sxo_slit (vs := []) (ys := ([] : List (Int × Int))) eS44_ok (by decide) rfl Try.underlying25 tf44 rfl rfl rfl rfl rfl (by decide) (fun a47 c48 => ?_)
      refine sxo_nil ?_
      refine sxq_anyB (.cons 0 rfl .nil) (gk_F 0 rfl (gk_F 1 rfl (gk_F 2 rfl (gk_F 3 rfl gk_nil)))) ?_
      refine sxb_step 4 rfl (by kernel_rfl) (show _ = #[true, true, true, true, true, true, true, true, true, false, false] from rfl) ?_
      refine sxo_app 0 eS44_ok rfl Try.underlying25 tf44 rfl rfl rfl rfl rfl (.inr ⟨1, rfl⟩) rfl rfl (fun x49 e49 a50 c51 => ?_)
      refine sxo_nil ?_
      refine sxq_anyB (.cons 0 rfl .nil) (gk_F 0 rfl (gk_F 1 rfl (gk_F 2 rfl (gk_F 3 rfl gk_nil)))) ?_
      refine sxb_step 9 rfl (by kernel_rfl) (show _ = #[true, true, true, true, true, true, true, true, true, true, false] from rfl) ?_
      refine sxo_app 0 eS44_ok rfl Try.underlying25 tf44 rfl rfl rfl rfl rfl (.inr ⟨0, rfl⟩) rfl rfl (fun x52 e52 a53 c54 => ?_)
      refine sxo_nil ?_
      refine sxq_anyB (.cons 0 rfl .nil) (gk_F 0 rfl (gk_F 1 rfl (gk_F 2 rfl (gk_F 3 rfl gk_nil)))) ?_
      refine sxb_takeP 10 (.slice a53 x52.length c54) rfl rfl rfl rfl (by kernel_rfl) (by kernel_rfl) (by kernel_rfl) (by kernel_rfl) (by kernel_rfl) rfl (show _ = #[true, true, true, true, true, true, true, true, true, true, true] from rfl) (yv_pv rfl) ?_
      refine sxb_done (by kernel_rfl) ?_
      refine sxq_np ?_ (by intro c h; cases h)
      refine sxq_next ?_
      refine sxc_seq ?_
      refine sxc_region ?_
      refine sxo_fieldAddr rfl rfl ff24_0 rfl ?_
      refine sxo_loadB (i := 0) rfl rfl tf22 rfl rfl (fun _ => rfl) rfl rfl ?_
      refine sxo_len rfl Try.underlying22 rfl rfl ?_
      refine sxo_move rfl rfl rfl ?_
      refine sxo_call ent16 rfl rfl rfl (fun x55 e55 => C_graph_Of F (x1.length : Int) x52 a53 c54 x55 e55) (.consR 0 (Ro eS44 44 2 (.slice a53 x52.length c54) x52) rfl .nil) (fun x55 e55 => ?_)
      rintro ⟨a56, c57⟩
      refine sxo_move rfl rfl rfl ?_
      refine sxo_extract rfl rfl rfl rfl ?_
      refine sxo_extract rfl rfl rfl rfl ?_
      refine sxo_alloc rfl tf24 rfl (fun g58 => ?_)
      refine sxo_storeB (i := 0) rfl rfl rfl tf24 rfl rfl rfl rfl rfl ?_
      refine sxo_assign rfl rfl rfl ?_
      refine sxo_nil ?_
      refine sxq_next ?_
      refine sxc_seq ?_
      refine sxc_region ?_
      refine sxo_loadB (i := 0) rfl rfl tf24 rfl rfl (by simp) rfl rfl ?_
      refine sxo_call ent15 rfl rfl rfl (fun x59 e59 => C_graph_Arcs F x55.1 a56 c57 x59 e59) (.consG 0 rfl (nest_sl rN32_in) .nil) (fun x59 e59 => ?_)
      rintro ⟨a60, c61⟩
      refine sxo_move rfl rfl rfl ?_
      refine sxo_extract rfl rfl rfl rfl ?_
      refine sxo_extract rfl rfl rfl rfl ?_
      refine sxo_assign rfl rfl rfl ?_
      refine sxo_assign rfl rfl rfl ?_
      refine sxo_nil ?_
      refine sxq_next ?_
      refine sxc_join (fun ((x75, _) : (Bool × Unit)) => [(4, .bool x75)]) (fun ((x75, _) : (Bool × Unit)) => []) (fun ((x75, _) : (Bool × Unit)) => []) (fun ((x75, _) : (Bool × Unit)) => []) (fun ((x75, _) : (Bool × Unit)) => M_L_GraphLess_j1 F x75) ?_ ?_
      · refine sxc_split (fun h76 => ?_) (fun h76 => ?_)
        · refine sxc_split (fun h77 => ?_) (fun h77 => ?_)
          · refine sxc_idxF (j := 2) eS44_ok (by decide) rfl (fun x78 e78 b79 o80 h81 => ?_)
            replace h81 : a7 = some ⟨b79, o80, none⟩ := h81
            refine sxc_idxF (j := 3) eS44_ok (by decide) rfl (fun x82 e82 b83 o84 h85 => ?_)
            replace h85 : a7 = some ⟨b83, o84, none⟩ := h85
            refine sxb_draw mixed [] [⟨g58, 24, [.slice a56 x55.1.length c57.1]⟩, ⟨g5, 24, [.slice a2 x1.length c3.1]⟩] [CellsAt b83 (o84 + x4.toNat * 2) (eS44 x82), CellsAt b79 (o80 + x4.toNat * 2) (eS44 x78), Sl eS44 2 (.slice a43 x42.length c44) x42, Sl eS44 2 (.slice a38 x37.length c39) x37, Sl eS44 2 (.slice a7 x6.1.length c8) x6.1, SlN eN32 iN32 1 (.slice a2 x1.length c3.1) x1 c3.2] (.cons 0 rfl (.cons 0 rfl .nil)) (gk_F 0 rfl (gk_F 1 rfl (gk_F 2 rfl (gk_F 3 rfl (gk_F 4 rfl (gk_F 5 rfl gk_nil)))))) 27 rfl ?_
            refine sxb_takeP 0 (.int .i64 x55.2) rfl rfl rfl rfl (by kernel_rfl) (by kernel_rfl) (by kernel_rfl) (by kernel_rfl) (by kernel_rfl) rfl (show _ = #[true, false, false, false, false, false, false, false, false, false, false, false, false, false, false, false, false, false, false, false, false, false, false, false, false, false, false] from rfl) (yv_pv rfl) ?_
            refine sxb_takeP 1 (.bool ((x55.2 : Int) == 0)) rfl rfl rfl rfl (by kernel_rfl) (by kernel_rfl) (by kernel_rfl) (by kernel_rfl) (by kernel_rfl) rfl (show _ = #[true, true, false, false, false, false, false, false, false, false, false, false, false, false, false, false, false, false, false, false, false, false, false, false, false, false, false] from rfl) (yv_pv rfl) ?_
            refine sxb_takeP 2 (.bool ((x55.2 : Int) == 0)) rfl rfl rfl rfl (by kernel_rfl) (by kernel_rfl) (by kernel_rfl) (by kernel_rfl) (by kernel_rfl) rfl (show _ = #[true, true, true, false, false, false, false, false, false, false, false, false, false, false, false, false, false, false, false, false, false, false, false, false, false, false, false] from rfl) (yv_pv rfl) ?_
            refine sxb_again (d := 63) (v := .bool true) rfl (by rw [h76]) ?_
            refine sxb_takeP 3 (.int .i64 x59.2) rfl rfl rfl rfl (by kernel_rfl) (by kernel_rfl) (by kernel_rfl) (by kernel_rfl) (by kernel_rfl) rfl (show _ = #[true, true, true, true, false, false, false, false, false, false, false, false, false, false, false, false, false, false, false, false, false, false, false, false, false, false, false] from rfl) (yv_pv rfl) ?_
            refine sxb_takeP 4 (.bool ((x59.2 : Int) == 0)) rfl rfl rfl rfl (by kernel_rfl) (by kernel_rfl) (by kernel_rfl) (by kernel_rfl) (by kernel_rfl) rfl (show _ = #[true, true, true, true, true, false, false, false, false, false, false, false, false, false, false, false, false, false, false, false, false, false, false, false, false, false, false] from rfl) (yv_pv rfl) ?_
            refine sxb_takeP 5 (.bool ((x59.2 : Int) == 0)) rfl rfl rfl rfl (by kernel_rfl) (by kernel_rfl) (by kernel_rfl) (by kernel_rfl) (by kernel_rfl) rfl (show _ = #[true, true, true, true, true, true, false, false, false, false, false, false, false, false, false, false, false, false, false, false, false, false, false, false, false, false, false] from rfl) (yv_pv rfl) ?_
            refine sxb_takeP 6 (.bool ((x59.2 : Int) == 0)) rfl rfl rfl rfl (by kernel_rfl) (by kernel_rfl) (by kernel_rfl) (by kernel_rfl) (by kernel_rfl) rfl (show _ = #[true, true, true, true, true, true, true, false, false, false, false, false, false, false, false, false, false, false, false, false, false, false, false, false, false, false, false] from rfl) (yv_pv rfl) ?_
            refine sxb_again (d := 67) (v := .bool true) rfl (by rw [h77]) ?_
            refine sxb_takeP 7 (.slice a60 x59.1.length c61) rfl rfl rfl rfl (by kernel_rfl) (by kernel_rfl) (by kernel_rfl) (by kernel_rfl) (by kernel_rfl) rfl (show _ = #[true, true, true, true, true, true, true, true, false, false, false, false, false, false, false, false, false, false, false, false, false, false, false, false, false, false, false] from rfl) (yv_pv rfl) ?_
            refine sxb_takeP 8 (.slice a53 x52.length c54) rfl rfl rfl rfl (by kernel_rfl) (by kernel_rfl) (by kernel_rfl) (by kernel_rfl) (by kernel_rfl) rfl (show _ = #[true, true, true, true, true, true, true, true, true, false, false, false, false, false, false, false, false, false, false, false, false, false, false, false, false, false, false] from rfl) (yv_pv rfl) ?_
            refine sxb_step 9 rfl (by kernel_rfl) (show _ = #[true, true, true, true, true, true, true, true, true, true, false, false, false, false, false, false, false, false, false, false, false, false, false, false, false, false, false] from rfl) ?_
            refine sxo_call ent27 rfl rfl rfl (fun x86 e86 => C_R_SameArcs F x59.1 a60 c61 x52 a53 c54 x86 e86) (.consR 0 (Ro eS44 44 2 (.slice a60 x59.1.length c61) x59.1) rfl (.consR 2 (Ro eS44 44 2 (.slice a53 x52.length c54) x52) rfl .nil)) (fun x86 e86 => ?_)
            intro _
            refine sxo_nil ?_
            refine sxq_anyB (.cons 0 rfl (.cons 0 rfl .nil)) (gk_F 0 rfl (gk_F 1 rfl (gk_F 2 rfl (gk_F 3 rfl (gk_F 4 rfl (gk_F 5 rfl gk_nil)))))) ?_
            refine sxb_takeP 10 (.bool x86) rfl rfl rfl rfl (by kernel_rfl) (by kernel_rfl) (by kernel_rfl) (by kernel_rfl) (by kernel_rfl) rfl (show _ = #[true, true, true, true, true, true, true, true, true, true, true, false, false, false, false, false, false, false, false, false, false, false, false, false, false, false, false] from rfl) (yv_pv rfl) ?_
            refine sxb_takeP 11 (.bool x86) rfl rfl rfl rfl (by kernel_rfl) (by kernel_rfl) (by kernel_rfl) (by kernel_rfl) (by kernel_rfl) rfl (show _ = #[true, true, true, true, true, true, true, true, true, true, true, true, false, false, false, false, false, false, false, false, false, false, false, false, false, false, false] from rfl) (yv_pv rfl) ?_
            refine sxb_if (fun h87 => ?_) (fun h87 => ?_)
            · refine sxb_again (d := 72) (v := .bool true) rfl (by rw [h87]) ?_
              refine sxb_take 12 (.agg #[.slice a56 x55.1.length c57.1]) [] rfl rfl rfl rfl (by kernel_rfl) (by kernel_rfl) (by kernel_rfl) (by kernel_rfl) (by kernel_rfl) (by kernel_rfl) rfl (show _ = #[true, true, true, true, true, true, true, true, true, true, true, true, true, false, false, false, false, false, false, false, false, false, false, false, false, false, false] from rfl) (yv_loadB (i := 0) rfl tf24 rfl rfl (by simp) rfl) ?_
              refine sxb_takeP 13 (.slice a7 x6.1.length c8) rfl rfl rfl rfl (by kernel_rfl) (by kernel_rfl) (by kernel_rfl) (by kernel_rfl) (by kernel_rfl) rfl (show _ = #[true, true, true, true, true, true, true, true, true, true, true, true, true, true, false, false, false, false, false, false, false, false, false, false, false, false, false] from rfl) (yv_pv rfl) ?_
              refine sxb_takeP 14 (.int .i64 x4) rfl rfl rfl rfl (by kernel_rfl) (by kernel_rfl) (by kernel_rfl) (by kernel_rfl) (by kernel_rfl) rfl (show _ = #[true, true, true, true, true, true, true, true, true, true, true, true, true, true, true, false, false, false, false, false, false, false, false, false, false, false, false] from rfl) (yv_pv rfl) ?_
              refine sxb_again (d := 74) (v := .slice (some ⟨b79, o80, none⟩) x6.1.length c8) rfl (by rw [h81]) ?_
              refine sxb_takeP 15 (.pointer (some ⟨b79, (o80 + x4.toNat * 2), none⟩)) rfl rfl rfl rfl (by kernel_rfl) (by kernel_rfl) (by kernel_rfl) (by kernel_rfl) (by kernel_rfl) rfl (show _ = #[true, true, true, true, true, true, true, true, true, true, true, true, true, true, true, true, false, false, false, false, false, false, false, false, false, false, false] from rfl) (yv_idx Try.underlying25 tf44 rfl rfl (idx_get e78).1 (idx_lt e78)) ?_
              refine sxb_again (d := 74) (v := .slice a7 x6.1.length c8) rfl (by rw [h81]) ?_
              refine sxb_takeP 16 (.pointer (some ⟨b79, (o80 + x4.toNat * 2) + 0, none⟩)) rfl rfl rfl rfl (by kernel_rfl) (by kernel_rfl) (by kernel_rfl) (by kernel_rfl) (by kernel_rfl) rfl (show _ = #[true, true, true, true, true, true, true, true, true, true, true, true, true, true, true, true, true, false, false, false, false, false, false, false, false, false, false] from rfl) (yv_fieldAddr rfl ff44_0) ?_
              refine sxb_take 17 (.int .i64 x78.1) [] rfl rfl rfl rfl (by kernel_rfl) (by kernel_rfl) (by kernel_rfl) (by kernel_rfl) (by kernel_rfl) (by kernel_rfl) rfl (show _ = #[true, true, true, true, true, true, true, true, true, true, true, true, true, true, true, true, true, true, false, false, false, false, false, false, false, false, false] from rfl) (yv_loadFo (j := 1) (off := 0) rfl tf3 rfl rfl (fun _ => rfl) rfl) ?_
              refine sxb_takeP 18 (.slice a7 x6.1.length c8) rfl rfl rfl rfl (by kernel_rfl) (by kernel_rfl) (by kernel_rfl) (by kernel_rfl) (by kernel_rfl) rfl (show _ = #[true, true, true, true, true, true, true, true, true, true, true, true, true, true, true, true, true, true, true, false, false, false, false, false, false, false, false] from rfl) (yv_pv rfl) ?_
              refine sxb_takeP 19 (.int .i64 x4) rfl rfl rfl rfl (by kernel_rfl) (by kernel_rfl) (by kernel_rfl) (by kernel_rfl) (by kernel_rfl) rfl (show _ = #[true, true, true, true, true, true, true, true, true, true, true, true, true, true, true, true, true, true, true, true, false, false, false, false, false, false, false] from rfl) (yv_pv rfl) ?_
              refine sxb_again (d := 79) (v := .slice (some ⟨b83, o84, none⟩) x6.1.length c8) rfl (by rw [h85]) ?_
              refine sxb_takeP 20 (.pointer (some ⟨b83, (o84 + x4.toNat * 2), none⟩)) rfl rfl rfl rfl (by kernel_rfl) (by kernel_rfl) (by kernel_rfl) (by kernel_rfl) (by kernel_rfl) rfl (show _ = #[true, true, true, true, true, true, true, true, true, true, true, true, true, true, true, true, true, true, true, true, true, false, false, false, false, false, false] from rfl) (yv_idx Try.underlying25 tf44 rfl rfl (idx_get e82).1 (idx_lt e82)) ?_
              refine sxb_again (d := 79) (v := .slice a7 x6.1.length c8) rfl (by rw [h85]) ?_
              refine sxb_takeP 21 (.pointer (some ⟨b83, (o84 + x4.toNat * 2) + 1, none⟩)) rfl rfl rfl rfl (by kernel_rfl) (by kernel_rfl) (by kernel_rfl) (by kernel_rfl) (by kernel_rfl) rfl (show _ = #[true, true, true, true, true, true, true, true, true, true, true, true, true, true, true, true, true, true, true, true, true, true, false, false, false, false, false] from rfl) (yv_fieldAddr rfl ff44_1) ?_
              refine sxb_take 22 (.int .i64 x82.2) [] rfl rfl rfl rfl (by kernel_rfl) (by kernel_rfl) (by kernel_rfl) (by kernel_rfl) (by kernel_rfl) (by kernel_rfl) rfl (show _ = #[true, true, true, true, true, true, true, true, true, true, true, true, true, true, true, true, true, true, true, true, true, true, true, false, false, false, false] from rfl) (yv_loadFo (j := 0) (off := 1) rfl tf3 rfl rfl (fun _ => rfl) rfl) ?_
              refine sxb_step 23 rfl (by kernel_rfl) (show _ = #[true, true, true, true, true, true, true, true, true, true, true, true, true, true, true, true, true, true, true, true, true, true, true, true, false, false, false] from rfl) ?_
              refine sxo_call ent30 rfl rfl rfl (fun x88 e88 => C_R_Leads F x55.1 a56 c57 x78.1 x82.2 x88 e88) (.consG 1 rfl (nest_sl rN32_in) .nil) (fun x88 e88 => ?_)
              intro _
              refine sxo_nil ?_
              refine sxq_anyB (.cons 0 rfl (.cons 0 rfl .nil)) (gk_F 0 rfl (gk_F 1 rfl (gk_F 2 rfl (gk_F 3 rfl (gk_F 4 rfl (gk_F 5 rfl gk_nil)))))) ?_
              refine sxb_takeP 24 (.bool (!x88)) rfl rfl rfl rfl (by kernel_rfl) (by kernel_rfl) (by kernel_rfl) (by kernel_rfl) (by kernel_rfl) rfl (show _ = #[true, true, true, true, true, true, true, true, true, true, true, true, true, true, true, true, true, true, true, true, true, true, true, true, true, false, false] from rfl) (yv_pv rfl) ?_
              refine sxb_takeP 25 (.bool (!x88)) rfl rfl rfl rfl (by kernel_rfl) (by kernel_rfl) (by kernel_rfl) (by kernel_rfl) (by kernel_rfl) rfl (show _ = #[true, true, true, true, true, true, true, true, true, true, true, true, true, true, true, true, true, true, true, true, true, true, true, true, true, true, false] from rfl) (yv_pv rfl) ?_
              refine sxb_takeP 26 (.bool (!x88)) rfl rfl rfl rfl (by kernel_rfl) (by kernel_rfl) (by kernel_rfl) (by kernel_rfl) (by kernel_rfl) rfl (show _ = #[true, true, true, true, true, true, true, true, true, true, true, true, true, true, true, true, true, true, true, true, true, true, true, true, true, true, true] from rfl) (yv_pv rfl) ?_
              refine sxb_done (by kernel_rfl) ?_
              refine sxq_np ?_ (by intro c h; cases h)
              exact sxq_meetP ((!x88), ()) (lk_cons rfl lk_nil) .nil .nil fk_nil
            · refine sxb_again (d := 72) (v := .bool false) rfl (by rw [h87]) ?_
              refine sxb_skip 12 rfl rfl rfl rfl (by kernel_rfl) (by kernel_rfl) (by kernel_rfl) (by kernel_rfl) (by kernel_rfl) rfl (show _ = #[true, true, true, true, true, true, true, true, true, true, true, true, true, false, false, false, false, false, false, false, false, false, false, false, false, false, false] from rfl) ?_
              refine sxb_skip 13 rfl rfl rfl rfl (by kernel_rfl) (by kernel_rfl) (by kernel_rfl) (by kernel_rfl) (by kernel_rfl) rfl (show _ = #[true, true, true, true, true, true, true, true, true, true, true, true, true, true, false, false, false, false, false, false, false, false, false, false, false, false, false] from rfl) ?_
              refine sxb_skip 14 rfl rfl rfl rfl (by kernel_rfl) (by kernel_rfl) (by kernel_rfl) (by kernel_rfl) (by kernel_rfl) rfl (show _ = #[true, true, true, true, true, true, true, true, true, true, true, true, true, true, true, false, false, false, false, false, false, false, false, false, false, false, false] from rfl) ?_
              refine sxb_skip 15 rfl rfl rfl rfl (by kernel_rfl) (by kernel_rfl) (by kernel_rfl) (by kernel_rfl) (by kernel_rfl) rfl (show _ = #[true, true, true, true, true, true, true, true, true, true, true, true, true, true, true, true, false, false, false, false, false, false, false, false, false, false, false] from rfl) ?_
              refine sxb_skip 16 rfl rfl rfl rfl (by kernel_rfl) (by kernel_rfl) (by kernel_rfl) (by kernel_rfl) (by kernel_rfl) rfl (show _ = #[true, true, true, true, true, true, true, true, true, true, true, true, true, true, true, true, true, false, false, false, false, false, false, false, false, false, false] from rfl) ?_
              refine sxb_skip 17 rfl rfl rfl rfl (by kernel_rfl) (by kernel_rfl) (by kernel_rfl) (by kernel_rfl) (by kernel_rfl) rfl (show _ = #[true, true, true, true, true, true, true, true, true, true, true, true, true, true, true, true, true, true, false, false, false, false, false, false, false, false, false] from rfl) ?_
              refine sxb_skip 18 rfl rfl rfl rfl (by kernel_rfl) (by kernel_rfl) (by kernel_rfl) (by kernel_rfl) (by kernel_rfl) rfl (show _ = #[true, true, true, true, true, true, true, true, true, true, true, true, true, true, true, true, true, true, true, false, false, false, false, false, false, false, false] from rfl) ?_
              refine sxb_skip 19 rfl rfl rfl rfl (by kernel_rfl) (by kernel_rfl) (by kernel_rfl) (by kernel_rfl) (by kernel_rfl) rfl (show _ = #[true, true, true, true, true, true, true, true, true, true, true, true, true, true, true, true, true, true, true, true, false, false, false, false, false, false, false] from rfl) ?_
              refine sxb_skip 20 rfl rfl rfl rfl (by kernel_rfl) (by kernel_rfl) (by kernel_rfl) (by kernel_rfl) (by kernel_rfl) rfl (show _ = #[true, true, true, true, true, true, true, true, true, true, true, true, true, true, true, true, true, true, true, true, true, false, false, false, false, false, false] from rfl) ?_
              refine sxb_skip 21 rfl rfl rfl rfl (by kernel_rfl) (by kernel_rfl) (by kernel_rfl) (by kernel_rfl) (by kernel_rfl) rfl (show _ = #[true, true, true, true, true, true, true, true, true, true, true, true, true, true, true, true, true, true, true, true, true, true, false, false, false, false, false] from rfl) ?_
              refine sxb_skip 22 rfl rfl rfl rfl (by kernel_rfl) (by kernel_rfl) (by kernel_rfl) (by kernel_rfl) (by kernel_rfl) rfl (show _ = #[true, true, true, true, true, true, true, true, true, true, true, true, true, true, true, true, true, true, true, true, true, true, true, false, false, false, false] from rfl) ?_
              refine sxb_skip 23 rfl rfl rfl rfl (by kernel_rfl) (by kernel_rfl) (by kernel_rfl) (by kernel_rfl) (by kernel_rfl) rfl (show _ = #[true, true, true, true, true, true, true, true, true, true, true, true, true, true, true, true, true, true, true, true, true, true, true, true, false, false, false] from rfl) ?_
              refine sxb_skip 24 rfl rfl rfl rfl (by kernel_rfl) (by kernel_rfl) (by kernel_rfl) (by kernel_rfl) (by kernel_rfl) rfl (show _ = #[true, true, true, true, true, true, true, true, true, true, true, true, true, true, true, true, true, true, true, true, true, true, true, true, true, false, false] from rfl) ?_
              refine sxb_takeP 25 (.bool false) rfl rfl rfl rfl (by kernel_rfl) (by kernel_rfl) (by kernel_rfl) (by kernel_rfl) (by kernel_rfl) rfl (show _ = #[true, true, true, true, true, true, true, true, true, true, true, true, true, true, true, true, true, true, true, true, true, true, true, true, true, true, false] from rfl) (yv_pv rfl) ?_
              refine sxb_takeP 26 (.bool false) rfl rfl rfl rfl (by kernel_rfl) (by kernel_rfl) (by kernel_rfl) (by kernel_rfl) (by kernel_rfl) rfl (show _ = #[true, true, true, true, true, true, true, true, true, true, true, true, true, true, true, true, true, true, true, true, true, true, true, true, true, true, true] from rfl) (yv_pv rfl) ?_
              refine sxb_done (by kernel_rfl) ?_
              refine sxq_np ?_ (by intro c h; cases h)
              exact sxq_meetP (false, ()) (lk_cons rfl lk_nil) .nil .nil fk_nil
          · refine sxb_draw mixed [] [⟨g58, 24, [.slice a56 x55.1.length c57.1]⟩, ⟨g5, 24, [.slice a2 x1.length c3.1]⟩] [Sl eS44 2 (.slice a43 x42.length c44) x42, Sl eS44 2 (.slice a38 x37.length c39) x37, Sl eS44 2 (.slice a7 x6.1.length c8) x6.1, SlN eN32 iN32 1 (.slice a2 x1.length c3.1) x1 c3.2] (.cons 0 rfl (.cons 0 rfl .nil)) (gk_F 0 rfl (gk_F 1 rfl (gk_F 2 rfl (gk_F 3 rfl gk_nil)))) 27 rfl ?_
            refine sxb_takeP 0 (.int .i64 x55.2) rfl rfl rfl rfl (by kernel_rfl) (by kernel_rfl) (by kernel_rfl) (by kernel_rfl) (by kernel_rfl) rfl (show _ = #[true, false, false, false, false, false, false, false, false, false, false, false, false, false, false, false, false, false, false, false, false, false, false, false, false, false, false] from rfl) (yv_pv rfl) ?_
            refine sxb_takeP 1 (.bool ((x55.2 : Int) == 0)) rfl rfl rfl rfl (by kernel_rfl) (by kernel_rfl) (by kernel_rfl) (by kernel_rfl) (by kernel_rfl) rfl (show _ = #[true, true, false, false, false, false, false, false, false, false, false, false, false, false, false, false, false, false, false, false, false, false, false, false, false, false, false] from rfl) (yv_pv rfl) ?_
            refine sxb_takeP 2 (.bool ((x55.2 : Int) == 0)) rfl rfl rfl rfl (by kernel_rfl) (by kernel_rfl) (by kernel_rfl) (by kernel_rfl) (by kernel_rfl) rfl (show _ = #[true, true, true, false, false, false, false, false, false, false, false, false, false, false, false, false, false, false, false, false, false, false, false, false, false, false, false] from rfl) (yv_pv rfl) ?_
            refine sxb_again (d := 63) (v := .bool true) rfl (by rw [h76]) ?_
            refine sxb_takeP 3 (.int .i64 x59.2) rfl rfl rfl rfl (by kernel_rfl) (by kernel_rfl) (by kernel_rfl) (by kernel_rfl) (by kernel_rfl) rfl (show _ = #[true, true, true, true, false, false, false, false, false, false, false, false, false, false, false, false, false, false, false, false, false, false, false, false, false, false, false] from rfl) (yv_pv rfl) ?_
            refine sxb_takeP 4 (.bool ((x59.2 : Int) == 0)) rfl rfl rfl rfl (by kernel_rfl) (by kernel_rfl) (by kernel_rfl) (by kernel_rfl) (by kernel_rfl) rfl (show _ = #[true, true, true, true, true, false, false, false, false, false, false, false, false, false, false, false, false, false, false, false, false, false, false, false, false, false, false] from rfl) (yv_pv rfl) ?_
            refine sxb_takeP 5 (.bool ((x59.2 : Int) == 0)) rfl rfl rfl rfl (by kernel_rfl) (by kernel_rfl) (by kernel_rfl) (by kernel_rfl) (by kernel_rfl) rfl (show _ = #[true, true, true, true, true, true, false, false, false, false, false, false, false, false, false, false, false, false, false, false, false, false, false, false, false, false, false] from rfl) (yv_pv rfl) ?_
            refine sxb_takeP 6 (.bool ((x59.2 : Int) == 0)) rfl rfl rfl rfl (by kernel_rfl) (by kernel_rfl) (by kernel_rfl) (by kernel_rfl) (by kernel_rfl) rfl (show _ = #[true, true, true, true, true, true, true, false, false, false, false, false, false, false, false, false, false, false, false, false, false, false, false, false, false, false, false] from rfl) (yv_pv rfl) ?_
            refine sxb_again (d := 67) (v := .bool false) rfl (by rw [h77]) ?_
            refine sxb_skip 7 rfl rfl rfl rfl (by kernel_rfl) (by kernel_rfl) (by kernel_rfl) (by kernel_rfl) (by kernel_rfl) rfl (show _ = #[true, true, true, true, true, true, true, true, false, false, false, false, false, false, false, false, false, false, false, false, false, false, false, false, false, false, false] from rfl) ?_
            refine sxb_skip 8 rfl rfl rfl rfl (by kernel_rfl) (by kernel_rfl) (by kernel_rfl) (by kernel_rfl) (by kernel_rfl) rfl (show _ = #[true, true, true, true, true, true, true, true, true, false, false, false, false, false, false, false, false, false, false, false, false, false, false, false, false, false, false] from rfl) ?_
            refine sxb_skip 9 rfl rfl rfl rfl (by kernel_rfl) (by kernel_rfl) (by kernel_rfl) (by kernel_rfl) (by kernel_rfl) rfl (show _ = #[true, true, true, true, true, true, true, true, true, true, false, false, false, false, false, false, false, false, false, false, false, false, false, false, false, false, false] from rfl) ?_
            refine sxb_takeP 10 (.bool false) rfl rfl rfl rfl (by kernel_rfl) (by kernel_rfl) (by kernel_rfl) (by kernel_rfl) (by kernel_rfl) rfl (show _ = #[true, true, true, true, true, true, true, true, true, true, true, false, false, false, false, false, false, false, false, false, false, false, false, false, false, false, false] from rfl) (yv_pv rfl) ?_
            refine sxb_takeP 11 (.bool false) rfl rfl rfl rfl (by kernel_rfl) (by kernel_rfl) (by kernel_rfl) (by kernel_rfl) (by kernel_rfl) rfl (show _ = #[true, true, true, true, true, true, true, true, true, true, true, true, false, false, false, false, false, false, false, false, false, false, false, false, false, false, false] from rfl) (yv_pv rfl) ?_
            refine sxb_skip 12 rfl rfl rfl rfl (by kernel_rfl) (by kernel_rfl) (by kernel_rfl) (by kernel_rfl) (by kernel_rfl) rfl (show _ = #[true, true, true, true, true, true, true, true, true, true, true, true, true, false, false, false, false, false, false, false, false, false, false, false, false, false, false] from rfl) ?_
            refine sxb_skip 13 rfl rfl rfl rfl (by kernel_rfl) (by kernel_rfl) (by kernel_rfl) (by kernel_rfl) (by kernel_rfl) rfl (show _ = #[true, true, true, true, true, true, true, true, true, true, true, true, true, true, false, false, false, false, false, false, false, false, false, false, false, false, false] from rfl) ?_
            refine sxb_skip 14 rfl rfl rfl rfl (by kernel_rfl) (by kernel_rfl) (by kernel_rfl) (by kernel_rfl) (by kernel_rfl) rfl (show _ = #[true, true, true, true, true, true, true, true, true, true, true, true, true, true, true, false, false, false, false, false, false, false, false, false, false, false, false] from rfl) ?_
            refine sxb_skip 15 rfl rfl rfl rfl (by kernel_rfl) (by kernel_rfl) (by kernel_rfl) (by kernel_rfl) (by kernel_rfl) rfl (show _ = #[true, true, true, true, true, true, true, true, true, true, true, true, true, true, true, true, false, false, false, false, false, false, false, false, false, false, false] from rfl) ?_
            refine sxb_skip 16 rfl rfl rfl rfl (by kernel_rfl) (by kernel_rfl) (by kernel_rfl) (by kernel_rfl) (by kernel_rfl) rfl (show _ = #[true, true, true, true, true, true, true, true, true, true, true, true, true, true, true, true, true, false, false, false, false, false, false, false, false, false, false] from rfl) ?_
            refine sxb_skip 17 rfl rfl rfl rfl (by kernel_rfl) (by kernel_rfl) (by kernel_rfl) (by kernel_rfl) (by kernel_rfl) rfl (show _ = #[true, true, true, true, true, true, true, true, true, true, true, true, true, true, true, true, true, true, false, false, false, false, false, false, false, false, false] from rfl) ?_
            refine sxb_skip 18 rfl rfl rfl rfl (by kernel_rfl) (by kernel_rfl) (by kernel_rfl) (by kernel_rfl) (by kernel_rfl) rfl (show _ = #[true, true, true, true, true, true, true, true, true, true, true, true, true, true, true, true, true, true, true, false, false, false, false, false, false, false, false] from rfl) ?_
            refine sxb_skip 19 rfl rfl rfl rfl (by kernel_rfl) (by kernel_rfl) (by kernel_rfl) (by kernel_rfl) (by kernel_rfl) rfl (show _ = #[true, true, true, true, true, true, true, true, true, true, true, true, true, true, true, true, true, true, true, true, false, false, false, false, false, false, false] from rfl) ?_
            refine sxb_skip 20 rfl rfl rfl rfl (by kernel_rfl) (by kernel_rfl) (by kernel_rfl) (by kernel_rfl) (by kernel_rfl) rfl (show _ = #[true, true, true, true, true, true, true, true, true, true, true, true, true, true, true, true, true, true, true, true, true, false, false, false, false, false, false] from rfl) ?_
            refine sxb_skip 21 rfl rfl rfl rfl (by kernel_rfl) (by kernel_rfl) (by kernel_rfl) (by kernel_rfl) (by kernel_rfl) rfl (show _ = #[true, true, true, true, true, true, true, true, true, true, true, true, true, true, true, true, true, true, true, true, true, true, false, false, false, false, false] from rfl) ?_
            refine sxb_skip 22 rfl rfl rfl rfl (by kernel_rfl) (by kernel_rfl) (by kernel_rfl) (by kernel_rfl) (by kernel_rfl) rfl (show _ = #[true, true, true, true, true, true, true, true, true, true, true, true, true, true, true, true, true, true, true, true, true, true, true, false, false, false, false] from rfl) ?_
            refine sxb_skip 23 rfl rfl rfl rfl (by kernel_rfl) (by kernel_rfl) (by kernel_rfl) (by kernel_rfl) (by kernel_rfl) rfl (show _ = #[true, true, true, true, true, true, true, true, true, true, true, true, true, true, true, true, true, true, true, true, true, true, true, true, false, false, false] from rfl) ?_
            refine sxb_skip 24 rfl rfl rfl rfl (by kernel_rfl) (by kernel_rfl) (by kernel_rfl) (by kernel_rfl) (by kernel_rfl) rfl (show _ = #[true, true, true, true, true, true, true, true, true, true, true, true, true, true, true, true, true, true, true, true, true, true, true, true, true, false, false] from rfl) ?_
            refine sxb_takeP 25 (.bool false) rfl rfl rfl rfl (by kernel_rfl) (by kernel_rfl) (by kernel_rfl) (by kernel_rfl) (by kernel_rfl) rfl (show _ = #[true, true, true, true, true, true, true, true, true, true, true, true, true, true, true, true, true, true, true, true, true, true, true, true, true, true, false] from rfl) (yv_pv rfl) ?_
            refine sxb_takeP 26 (.bool false) rfl rfl rfl rfl (by kernel_rfl) (by kernel_rfl) (by kernel_rfl) (by kernel_rfl) (by kernel_rfl) rfl (show _ = #[true, true, true, true, true, true, true, true, true, true, true, true, true, true, true, true, true, true, true, true, true, true, true, true, true, true, true] from rfl) (yv_pv rfl) ?_
            refine sxb_done (by kernel_rfl) ?_
            refine sxq_np ?_ (by intro c h; cases h)
            exact sxq_meetP (false, ()) (lk_cons rfl lk_nil) .nil .nil fk_nil
        · refine sxb_draw mixed [] [⟨g58, 24, [.slice a56 x55.1.length c57.1]⟩, ⟨g5, 24, [.slice a2 x1.length c3.1]⟩] [Sl eS44 2 (.slice a43 x42.length c44) x42, Sl eS44 2 (.slice a38 x37.length c39) x37, Sl eS44 2 (.slice a7 x6.1.length c8) x6.1, SlN eN32 iN32 1 (.slice a2 x1.length c3.1) x1 c3.2] (.cons 0 rfl (.cons 0 rfl .nil)) (gk_F 0 rfl (gk_F 1 rfl (gk_F 2 rfl (gk_F 3 rfl gk_nil)))) 27 rfl ?_
          refine sxb_takeP 0 (.int .i64 x55.2) rfl rfl rfl rfl (by kernel_rfl) (by kernel_rfl) (by kernel_rfl) (by kernel_rfl) (by kernel_rfl) rfl (show _ = #[true, false, false, false, false, false, false, false, false, false, false, false, false, false, false, false, false, false, false, false, false, false, false, false, false, false, false] from rfl) (yv_pv rfl) ?_
          refine sxb_takeP 1 (.bool ((x55.2 : Int) == 0)) rfl rfl rfl rfl (by kernel_rfl) (by kernel_rfl) (by kernel_rfl) (by kernel_rfl) (by kernel_rfl) rfl (show _ = #[true, true, false, false, false, false, false, false, false, false, false, false, false, false, false, false, false, false, false, false, false, false, false, false, false, false, false] from rfl) (yv_pv rfl) ?_
          refine sxb_takeP 2 (.bool ((x55.2 : Int) == 0)) rfl rfl rfl rfl (by kernel_rfl) (by kernel_rfl) (by kernel_rfl) (by kernel_rfl) (by kernel_rfl) rfl (show _ = #[true, true, true, false, false, false, false, false, false, false, false, false, false, false, false, false, false, false, false, false, false, false, false, false, false, false, false] from rfl) (yv_pv rfl) ?_
          refine sxb_again (d := 63) (v := .bool false) rfl (by rw [h76]) ?_
          refine sxb_skip 3 rfl rfl rfl rfl (by kernel_rfl) (by kernel_rfl) (by kernel_rfl) (by kernel_rfl) (by kernel_rfl) rfl (show _ = #[true, true, true, true, false, false, false, false, false, false, false, false, false, false, false, false, false, false, false, false, false, false, false, false, false, false, false] from rfl) ?_
          refine sxb_skip 4 rfl rfl rfl rfl (by kernel_rfl) (by kernel_rfl) (by kernel_rfl) (by kernel_rfl) (by kernel_rfl) rfl (show _ = #[true, true, true, true, true, false, false, false, false, false, false, false, false, false, false, false, false, false, false, false, false, false, false, false, false, false, false] from rfl) ?_
          refine sxb_takeP 5 (.bool false) rfl rfl rfl rfl (by kernel_rfl) (by kernel_rfl) (by kernel_rfl) (by kernel_rfl) (by kernel_rfl) rfl (show _ = #[true, true, true, true, true, true, false, false, false, false, false, false, false, false, false, false, false, false, false, false, false, false, false, false, false, false, false] from rfl) (yv_pv rfl) ?_
          refine sxb_takeP 6 (.bool false) rfl rfl rfl rfl (by kernel_rfl) (by kernel_rfl) (by kernel_rfl) (by kernel_rfl) (by kernel_rfl) rfl (show _ = #[true, true, true, true, true, true, true, false, false, false, false, false, false, false, false, false, false, false, false, false, false, false, false, false, false, false, false] from rfl) (yv_pv rfl) ?_
          refine sxb_skip 7 rfl rfl rfl rfl (by kernel_rfl) (by kernel_rfl) (by kernel_rfl) (by kernel_rfl) (by kernel_rfl) rfl (show _ = #[true, true, true, true, true, true, true, true, false, false, false, false, false, false, false, false, false, false, false, false, false, false, false, false, false, false, false] from rfl) ?_
          refine sxb_skip 8 rfl rfl rfl rfl (by kernel_rfl) (by kernel_rfl) (by kernel_rfl) (by kernel_rfl) (by kernel_rfl) rfl (show _ = #[true, true, true, true, true, true, true, true, true, false, false, false, false, false, false, false, false, false, false, false, false, false, false, false, false, false, false] from rfl) ?_
          refine sxb_skip 9 rfl rfl rfl rfl (by kernel_rfl) (by kernel_rfl) (by kernel_rfl) (by kernel_rfl) (by kernel_rfl) rfl (show _ = #[true, true, true, true, true, true, true, true, true, true, false, false, false, false, false, false, false, false, false, false, false, false, false, false, false, false, false] from rfl) ?_
          refine sxb_takeP 10 (.bool false) rfl rfl rfl rfl (by kernel_rfl) (by kernel_rfl) (by kernel_rfl) (by kernel_rfl) (by kernel_rfl) rfl (show _ = #[true, true, true, true, true, true, true, true, true, true, true, false, false, false, false, false, false, false, false, false, false, false, false, false, false, false, false] from rfl) (yv_pv rfl) ?_
          refine sxb_takeP 11 (.bool false) rfl rfl rfl rfl (by kernel_rfl) (by kernel_rfl) (by kernel_rfl) (by kernel_rfl) (by kernel_rfl) rfl (show _ = #[true, true, true, true, true, true, true, true, true, true, true, true, false, false, false, false, false, false, false, false, false, false, false, false, false, false, false] from rfl) (yv_pv rfl) ?_
          refine sxb_skip 12 rfl rfl rfl rfl (by kernel_rfl) (by kernel_rfl) (by kernel_rfl) (by kernel_rfl) (by kernel_rfl) rfl (show _ = #[true, true, true, true, true, true, true, true, true, true, true, true, true, false, false, false, false, false, false, false, false, false, false, false, false, false, false] from rfl) ?_
          refine sxb_skip 13 rfl rfl rfl rfl (by kernel_rfl) (by kernel_rfl) (by kernel_rfl) (by kernel_rfl) (by kernel_rfl) rfl (show _ = #[true, true, true, true, true, true, true, true, true, true, true, true, true, true, false, false, false, false, false, false, false, false, false, false, false, false, false] from rfl) ?_
          refine sxb_skip 14 rfl rfl rfl rfl (by kernel_rfl) (by kernel_rfl) (by kernel_rfl) (by kernel_rfl) (by kernel_rfl) rfl (show _ = #[true, true, true, true, true, true, true, true, true, true, true, true, true, true, true, false, false, false, false, false, false, false, false, false, false, false, false] from rfl) ?_
          refine sxb_skip 15 rfl rfl rfl rfl (by kernel_rfl) (by kernel_rfl) (by kernel_rfl) (by kernel_rfl) (by kernel_rfl) rfl (show _ = #[true, true, true, true, true, true, true, true, true, true, true, true, true, true, true, true, false, false, false, false, false, false, false, false, false, false, false] from rfl) ?_
          refine sxb_skip 16 rfl rfl rfl rfl (by kernel_rfl) (by kernel_rfl) (by kernel_rfl) (by kernel_rfl) (by kernel_rfl) rfl (show _ = #[true, true, true, true, true, true, true, true, true, true, true, true, true, true, true, true, true, false, false, false, false, false, false, false, false, false, false] from rfl) ?_
          refine sxb_skip 17 rfl rfl rfl rfl (by kernel_rfl) (by kernel_rfl) (by kernel_rfl) (by kernel_rfl) (by kernel_rfl) rfl (show _ = #[true, true, true, true, true, true, true, true, true, true, true, true, true, true, true, true, true, true, false, false, false, false, false, false, false, false, false] from rfl) ?_
          refine sxb_skip 18 rfl rfl rfl rfl (by kernel_rfl) (by kernel_rfl) (by kernel_rfl) (by kernel_rfl) (by kernel_rfl) rfl (show _ = #[true, true, true, true, true, true, true, true, true, true, true, true, true, true, true, true, true, true, true, false, false, false, false, false, false, false, false] from rfl) ?_
          refine sxb_skip 19 rfl rfl rfl rfl (by kernel_rfl) (by kernel_rfl) (by kernel_rfl) (by kernel_rfl) (by kernel_rfl) rfl (show _ = #[true, true, true, true, true, true, true, true, true, true, true, true, true, true, true, true, true, true, true, true, false, false, false, false, false, false, false] from rfl) ?_
          refine sxb_skip 20 rfl rfl rfl rfl (by kernel_rfl) (by kernel_rfl) (by kernel_rfl) (by kernel_rfl) (by kernel_rfl) rfl (show _ = #[true, true, true, true, true, true, true, true, true, true, true, true, true, true, true, true, true, true, true, true, true, false, false, false, false, false, false] from rfl) ?_
          refine sxb_skip 21 rfl rfl rfl rfl (by kernel_rfl) (by kernel_rfl) (by kernel_rfl) (by kernel_rfl) (by kernel_rfl) rfl (show _ = #[true, true, true, true, true, true, true, true, true, true, true, true, true, true, true, true, true, true, true, true, true, true, false, false, false, false, false] from rfl) ?_
          refine sxb_skip 22 rfl rfl rfl rfl (by kernel_rfl) (by kernel_rfl) (by kernel_rfl) (by kernel_rfl) (by kernel_rfl) rfl (show _ = #[true, true, true, true, true, true, true, true, true, true, true, true, true, true, true, true, true, true, true, true, true, true, true, false, false, false, false] from rfl) ?_
          refine sxb_skip 23 rfl rfl rfl rfl (by kernel_rfl) (by kernel_rfl) (by kernel_rfl) (by kernel_rfl) (by kernel_rfl) rfl (show _ = #[true, true, true, true, true, true, true, true, true, true, true, true, true, true, true, true, true, true, true, true, true, true, true, true, false, false, false] from rfl) ?_
          refine sxb_skip 24 rfl rfl rfl rfl (by kernel_rfl) (by kernel_rfl) (by kernel_rfl) (by kernel_rfl) (by kernel_rfl) rfl (show _ = #[true, true, true, true, true, true, true, true, true, true, true, true, true, true, true, true, true, true, true, true, true, true, true, true, true, false, false] from rfl) ?_
          refine sxb_takeP 25 (.bool false) rfl rfl rfl rfl (by kernel_rfl) (by kernel_rfl) (by kernel_rfl) (by kernel_rfl) (by kernel_rfl) rfl (show _ = #[true, true, true, true, true, true, true, true, true, true, true, true, true, true, true, true, true, true, true, true, true, true, true, true, true, true, false] from rfl) (yv_pv rfl) ?_
          refine sxb_takeP 26 (.bool false) rfl rfl rfl rfl (by kernel_rfl) (by kernel_rfl) (by kernel_rfl) (by kernel_rfl) (by kernel_rfl) rfl (show _ = #[true, true, true, true, true, true, true, true, true, true, true, true, true, true, true, true, true, true, true, true, true, true, true, true, true, true, true] from rfl) (yv_pv rfl) ?_
          refine sxb_done (by kernel_rfl) ?_
          refine sxq_np ?_ (by intro c h; cases h)
          exact sxq_meetP (false, ()) (lk_cons rfl lk_nil) .nil .nil fk_nil
      · rintro ⟨x75, _⟩
        try dsimp only
        refine sxc_ret ?_
        exact sxq_doneP () (.inl rfl) (res1 rfl rfl) (fun h => by subst h; rfl) (fun h => by subst h; exact .nil)
end Go.Proofs.Ytghkjonlhphcjaa
