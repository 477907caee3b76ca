/- Each Go function of this seat computes what its model says. -/
import Derived.Test.YtghkjonlhphcjaaRows
import Derived.Test.YtghkjonlhphcjaaModels
import Derived.Test.YtghkjonlhphcjaaShelf
namespace Go.Proofs.Ytghkjonlhphcjaa
open Go SX
def eN32 (p : List Int × (Option Addr × Nat)) : List Value := [.slice p.2.1 p.1.length p.2.2]
def iN32 (p : List Int × (Option Addr × Nat)) : List (World → Prop) := [Sl (eI .i64) 1 (.slice p.2.1 p.1.length p.2.2) p.1]
theorem eN32_ok : EncOk eN32 1 := ⟨fun _ => rfl, fun _ => rfl⟩
theorem tf3 : TyF Try.prog 3 false (.int .i64 0) 1 8 := .of (by kernel_rfl) (by kernel_rfl)
theorem tf4 : TyF Try.prog 4 false (.bool false) 1 1 := .of (by kernel_rfl) (by kernel_rfl)
theorem tf32 : TyF Try.prog 32 false (.slice none 0 0) 1 24 := .of (by kernel_rfl) (by kernel_rfl)
theorem ff91_0 : FdF Try.prog 91 0 0 := .of (by kernel_rfl)
theorem ff91_1 : FdF Try.prog 91 1 1 := .of (by kernel_rfl)
theorem ff91_2 : FdF Try.prog 91 2 2 := .of (by kernel_rfl)
theorem st91 : StF Try.prog 91 [(0, 1), (1, 1), (2, 1)] (.agg #[.slice none 0 0, .bool false, .int .i64 0]) := .of (by kernel_rfl) (by kernel_rfl)
theorem mixed : Try.prog.follows .mixedOrders = true := by kernel_rfl
theorem ent29 : Enters Try.prog 29 := enters_of Try.func29 rfl rfl
theorem ent32 : Enters Try.prog 32 := enters_of Try.func32 rfl rfl
theorem ent33 : Enters Try.prog 33 := enters_of Try.func33 rfl rfl
theorem ent34 : Enters Try.prog 34 := enters_of Try.func34 rfl rfl
theorem ent35 : Enters Try.prog 35 := enters_of Try.func35 rfl rfl
theorem ent36 : Enters Try.prog 36 := enters_of Try.func36 rfl rfl
theorem ent37 : Enters Try.prog 37 := enters_of Try.func37 rfl rfl
theorem ent38 : Enters Try.prog 38 := enters_of Try.func38 rfl rfl
theorem ent39 : Enters Try.prog 39 := enters_of Try.func39 rfl rfl
theorem ent40 : Enters Try.prog 40 := enters_of Try.func40 rfl rfl
theorem ent50 : Enters Try.prog 50 := enters_of Try.func50 rfl rfl
theorem ent52 : Enters Try.prog 52 := enters_of Try.func52 rfl rfl
theorem ent53 : Enters Try.prog 53 := enters_of Try.func53 rfl rfl
theorem ent54 : Enters Try.prog 54 := enters_of Try.func54 rfl rfl
theorem ent55 : Enters Try.prog 55 := enters_of Try.func55 rfl rfl
theorem ent56 : Enters Try.prog 56 := enters_of Try.func56 rfl rfl
theorem ent57 : Enters Try.prog 57 := enters_of Try.func57 rfl rfl
theorem ent58 : Enters Try.prog 58 := enters_of Try.func58 rfl rfl
theorem ent59 : Enters Try.prog 59 := enters_of Try.func59 rfl rfl
theorem ent60 : Enters Try.prog 60 := enters_of Try.func60 rfl rfl
theorem ent68 : Enters Try.prog 68 := enters_of Try.func68 rfl rfl
theorem ent69 : Enters Try.prog 69 := enters_of Try.func69 rfl rfl
theorem ent70 : Enters Try.prog 70 := enters_of Try.func70 rfl rfl
theorem ent71 : Enters Try.prog 71 := enters_of Try.func71 rfl rfl
theorem ent73 : Enters Try.prog 73 := enters_of Try.func73 rfl rfl
theorem ent84 : Enters Try.prog 84 := enters_of Try.func84 rfl rfl
theorem ent85 : Enters Try.prog 85 := enters_of Try.func85 rfl rfl

theorem C_R_SameInts (F : Nat) (x1 : List Int) (a2 : Option Addr) (c3 : Nat) (x4 : List Int) (a5 : Option Addr) (c6 : Nat) (r : Bool) (hm : M_R_SameInts F x1 x4 = some r) :
    Pure Try.prog 29 [.slice a2 x1.length c3, .slice a5 x4.length c6] [Sl (eI .i64) 1 (.slice a2 x1.length c3) x1, Sl (eI .i64) 1 (.slice a5 x4.length c6) x4] Unit (fun _ => .bool r) (fun _ => []) (fun _ => []) := by
  refine pure_of Try.func29 rfl Try.ntmps29 rfl hm (fun w => ?_)
  refine sxc_env (l' := [(0, .slice a2 x1.length c3), (1, .slice a5 x4.length c6)]) rfl ?_
  refine sxc_seq ?_
  refine sxc_region ?_
  refine sxo_assign rfl rfl rfl ?_
  refine sxo_nil ?_
  refine sxq_next ?_
  refine sxc_seq ?_
  refine sxc_seq ?_
  refine sxc_region ?_
  refine sxo_move rfl rfl rfl ?_
  refine sxo_len rfl Try.underlying32 rfl rfl ?_
  refine sxo_move rfl rfl rfl ?_
  refine sxo_len rfl Try.underlying32 rfl rfl ?_
  refine sxo_neq rfl rfl rfl rfl ?_
  refine sxo_nil ?_
  refine sxq_next ?_
  refine sxc_if rfl (fun h228 => ?_) (fun h228 => ?_)
  · refine sxc_seq ?_
    refine sxc_region ?_
    refine sxo_assign rfl rfl rfl ?_
    refine sxo_nil ?_
    refine sxq_next ?_
    refine sxc_ret ?_
    refine sxq_thenR ?_
    exact sxq_doneP () (.inl rfl) (res1 rfl rfl) (fun h => by subst h; rfl) (fun h => by subst h; exact .nil)
  · refine sxc_skip ?_
    refine sxq_next ?_
    refine sxc_join (fun ((_, _) : (Unit × Unit)) => []) (fun ((_, _) : (Unit × Unit)) => []) (fun ((_, _) : (Unit × Unit)) => []) (fun ((_, _) : (Unit × Unit)) => []) (fun ((_, _) : (Unit × Unit)) => M_R_SameInts_j2 F) ?_ ?_
    · refine sxc_seq ?_
      refine sxc_region ?_
      refine sxo_assign rfl rfl rfl ?_
      refine sxo_nil ?_
      refine sxq_next ?_
      refine sxc_block ?_
      refine sxc_loopP (fun ((x154, _) : (Int × Unit)) => [(0, .slice a2 x1.length c3), (1, .slice a5 x4.length c6), (5, .int .i64 x154)]) (fun ((x154, _) : (Int × Unit)) => []) (fun ((x154, _) : (Int × Unit)) => []) (fun ((x154, _) : (Int × Unit)) => [Sl (eI .i64) 1 (.slice a2 x1.length c3) x1, Sl (eI .i64) 1 (.slice a5 x4.length c6) x4]) (fun k (s : (Int × Unit)) => M_R_SameInts_l3 F x1 x4 k s.1) (0, ()) F (lk_cons rfl (lk_cons rfl (lk_cons rfl lk_nil))) .nil .nil (fk_cons 0 rfl (fk_cons 1 rfl fk_nil)) (fun _ => rfl) ?_
      intro k191
      rintro ⟨x154, _⟩
      try dsimp only
      refine sxc_meq (m' := M_R_SameInts_b3 F x1 x4 (M_R_SameInts_l3 F x1 x4 k191) x154) rfl ?_
      refine sxc_seq ?_
      refine sxc_seq ?_
      refine sxc_region ?_
      refine sxo_move rfl rfl rfl ?_
      refine sxo_move rfl rfl rfl ?_
      refine sxo_len rfl Try.underlying32 rfl rfl ?_
      refine sxo_lss rfl rfl rfl rfl ?_
      refine sxo_nil ?_
      refine sxq_next ?_
      refine sxc_if rfl (fun h227 => ?_) (fun h227 => ?_)
      · refine sxc_skip ?_
        refine sxq_next ?_
        refine sxc_seq ?_
        refine sxc_block ?_
        refine sxc_seq ?_
        refine sxc_idxF (j := 0) (eI_ok .i64) (by decide) rfl (fun x218 e218 b219 o220 h221 => ?_)
        replace h221 : a2 = some ⟨b219, o220, none⟩ := h221
        refine sxc_idxF (j := 2) (eI_ok .i64) (by decide) rfl (fun x222 e222 b223 o224 h225 => ?_)
        replace h225 : a5 = some ⟨b223, o224, none⟩ := h225
        refine sxb_draw mixed [] [] [CellsAt b223 (o224 + x154.toNat * 1) ((eI .i64) x222), CellsAt b219 (o220 + x154.toNat * 1) ((eI .i64) x218), Sl (eI .i64) 1 (.slice a2 x1.length c3) x1, Sl (eI .i64) 1 (.slice a5 x4.length c6) x4] .nil (gk_F 0 rfl (gk_F 1 rfl (gk_F 2 rfl (gk_F 3 rfl gk_nil)))) 9 rfl ?_
        refine sxb_takeP 0 (.slice a2 x1.length c3) rfl rfl rfl rfl (by kernel_rfl) (by kernel_rfl) (by kernel_rfl) (by kernel_rfl) (by kernel_rfl) rfl (show _ = #[true, false, false, false, false, false, false, false, false] from rfl) (yv_pv rfl) ?_
        refine sxb_takeP 1 (.int .i64 x154) rfl rfl rfl rfl (by kernel_rfl) (by kernel_rfl) (by kernel_rfl) (by kernel_rfl) (by kernel_rfl) rfl (show _ = #[true, true, false, false, false, false, false, false, false] from rfl) (yv_pv rfl) ?_
        refine sxb_again (d := 17) (v := .slice (some ⟨b219, o220, none⟩) x1.length c3) rfl (by rw [h221]) ?_
        refine sxb_takeP 2 (.pointer (some ⟨b219, (o220 + x154.toNat * 1), none⟩)) rfl rfl rfl rfl (by kernel_rfl) (by kernel_rfl) (by kernel_rfl) (by kernel_rfl) (by kernel_rfl) rfl (show _ = #[true, true, true, false, false, false, false, false, false] from rfl) (yv_idx Try.underlying32 tf3 rfl rfl (idx_get e218).1 (idx_lt e218)) ?_
        refine sxb_again (d := 17) (v := .slice a2 x1.length c3) rfl (by rw [h221]) ?_
        refine sxb_take 3 (.int .i64 x218) [] rfl rfl rfl rfl (by kernel_rfl) (by kernel_rfl) (by kernel_rfl) (by kernel_rfl) (by kernel_rfl) (by kernel_rfl) rfl (show _ = #[true, true, true, true, false, false, false, false, false] from rfl) (yv_loadF (j := 1) rfl tf3 rfl rfl (fun _ => rfl) rfl) ?_
        refine sxb_takeP 4 (.slice a5 x4.length c6) rfl rfl rfl rfl (by kernel_rfl) (by kernel_rfl) (by kernel_rfl) (by kernel_rfl) (by kernel_rfl) rfl (show _ = #[true, true, true, true, true, false, false, false, false] from rfl) (yv_pv rfl) ?_
        refine sxb_takeP 5 (.int .i64 x154) rfl rfl rfl rfl (by kernel_rfl) (by kernel_rfl) (by kernel_rfl) (by kernel_rfl) (by kernel_rfl) rfl (show _ = #[true, true, true, true, true, true, false, false, false] from rfl) (yv_pv rfl) ?_
        refine sxb_again (d := 21) (v := .slice (some ⟨b223, o224, none⟩) x4.length c6) rfl (by rw [h225]) ?_
        refine sxb_takeP 6 (.pointer (some ⟨b223, (o224 + x154.toNat * 1), none⟩)) rfl rfl rfl rfl (by kernel_rfl) (by kernel_rfl) (by kernel_rfl) (by kernel_rfl) (by kernel_rfl) rfl (show _ = #[true, true, true, true, true, true, true, false, false] from rfl) (yv_idx Try.underlying32 tf3 rfl rfl (idx_get e222).1 (idx_lt e222)) ?_
        refine sxb_again (d := 21) (v := .slice a5 x4.length c6) rfl (by rw [h225]) ?_
        refine sxb_take 7 (.int .i64 x222) [] rfl rfl rfl rfl (by kernel_rfl) (by kernel_rfl) (by kernel_rfl) (by kernel_rfl) (by kernel_rfl) (by kernel_rfl) rfl (show _ = #[true, true, true, true, true, true, true, true, false] from rfl) (yv_loadF (j := 0) rfl tf3 rfl rfl (fun _ => rfl) rfl) ?_
        refine sxb_takeP 8 (.bool ((x218 : Int) != x222)) rfl rfl rfl rfl (by kernel_rfl) (by kernel_rfl) (by kernel_rfl) (by kernel_rfl) (by kernel_rfl) rfl (show _ = #[true, true, true, true, true, true, true, true, true] from rfl) (yv_pv rfl) ?_
        refine sxb_done (by kernel_rfl) ?_
        refine sxq_np ?_ (by intro c h; cases h)
        refine sxq_next ?_
        refine sxc_if rfl (fun h226 => ?_) (fun h226 => ?_)
        · refine sxc_seq ?_
          refine sxc_region ?_
          refine sxo_assign rfl rfl rfl ?_
          refine sxo_nil ?_
          refine sxq_next ?_
          refine sxc_ret ?_
          refine sxq_blkR ?_
          refine sxq_thenR ?_
          refine sxq_thenR ?_
          refine sxq_blkR ?_
          refine sxq_thenR ?_
          exact sxq_doneP () (.inl rfl) (res1 rfl rfl) (fun h => by subst h; rfl) (fun h => by subst h; exact .nil)
        · refine sxc_skip ?_
          refine sxq_blkN ?_
          refine sxq_next ?_
          refine sxc_region ?_
          refine sxo_move rfl rfl rfl ?_
          refine sxo_add rfl rfl rfl rfl ?_
          refine sxo_assign rfl rfl rfl ?_
          refine sxo_nil ?_
          exact sxq_againP (iadd .i64 x154 1, ()) (lk_cons rfl (lk_cons rfl (lk_cons rfl lk_nil))) .nil .nil (fk_cons 2 rfl (fk_cons 3 rfl fk_nil))
      · refine sxc_exit ?_
        refine sxq_thenX ?_
        refine sxq_thenX ?_
        refine sxq_blkX ?_
        exact sxq_meetP ((), ()) lk_nil .nil .nil fk_nil
    · rintro ⟨_, _⟩
      try dsimp only
      refine sxc_seq ?_
      refine sxc_region ?_
      refine sxo_assign rfl rfl rfl ?_
      refine sxo_nil ?_
      refine sxq_next ?_
      refine sxc_ret ?_
      exact sxq_doneP () (.inl rfl) (res1 rfl rfl) (fun h => by subst h; rfl) (fun h => by subst h; exact .nil)

theorem C_gaps_node (F : Nat) (x1 : Int) (r : Bool) (hm : M_gaps_node F x1 = some r) :
    Pure Try.prog 68 [.int .i64 x1] [] Unit (fun _ => .bool r) (fun _ => []) (fun _ => []) := by
  refine pure_of Try.func68 rfl Try.ntmps68 rfl hm (fun w => ?_)
  refine sxc_env (l' := [(0, .int .i64 x1)]) rfl ?_
  refine sxc_seq ?_
  refine sxc_region ?_
  refine sxo_assign rfl rfl rfl ?_
  refine sxo_nil ?_
  refine sxq_next ?_
  refine sxc_seq ?_
  refine sxc_region ?_
  refine sxo_move rfl rfl rfl ?_
  refine sxo_geq rfl rfl rfl rfl ?_
  refine sxo_move rfl rfl rfl ?_
  refine sxo_case 3 (decide (0 ≤ x1)) [(8, .bool ((decide (0 ≤ x1)) && (decide (x1 ≤ 1048576))))] (fun h2 => ?_) (fun h2 => ?_) ?_
  · refine sxo_take (os := _) rfl ?_
    refine sxo_isT (k := 5) rfl h2 ?_
    refine sxo_move rfl rfl rfl ?_
    refine sxo_leq rfl rfl rfl rfl ?_
    refine sxo_pick (b := true) rfl rfl rfl rfl ?_
    refine sxo_again (d := 8) (v := .bool ((decide (0 ≤ x1)) && (decide (x1 ≤ 1048576)))) rfl (by rw [h2]; simp only [Bool.true_and]) ?_
    refine sxo_nil ?_
    exact sxq_case (lk_cons rfl lk_nil)
  · refine sxo_take (os := _) rfl ?_
    refine sxo_isF (k := 5) rfl h2 ?_
    refine sxo_skip rfl rfl rfl ?_
    refine sxo_skip rfl rfl rfl ?_
    refine sxo_pick (b := false) rfl rfl rfl rfl ?_
    refine sxo_again (d := 8) (v := .bool ((decide (0 ≤ x1)) && (decide (x1 ≤ 1048576)))) rfl (by rw [h2]; simp only [Bool.false_and]) ?_
    refine sxo_nil ?_
    exact sxq_case (lk_cons rfl lk_nil)
  refine sxo_take (os := _) rfl ?_
  refine sxo_assign rfl rfl rfl ?_
  refine sxo_nil ?_
  refine sxq_next ?_
  refine sxc_ret ?_
  exact sxq_doneP () (.inl rfl) (res1 rfl rfl) (fun h => by subst h; rfl) (fun h => by subst h; exact .nil)

theorem C_gaps_Check (F : Nat) (x1 : List Int) (a2 : Option Addr) (c3 : Nat) (r : Int) (hm : M_gaps_Check F x1 = some r) :
    Pure Try.prog 52 [.slice a2 x1.length c3] [Sl (eI .i64) 1 (.slice a2 x1.length c3) x1] Unit (fun _ => .int .i64 r) (fun _ => []) (fun _ => []) := by
  refine pure_of Try.func52 rfl Try.ntmps52 rfl hm (fun w => ?_)
  refine sxc_env (l' := [(0, .slice a2 x1.length c3)]) rfl ?_
  refine sxc_seq ?_
  refine sxc_region ?_
  refine sxo_assign rfl rfl rfl ?_
  refine sxo_nil ?_
  refine sxq_next ?_
  refine sxc_seq ?_
  refine sxc_seq ?_
  refine sxc_region ?_
  refine sxo_move rfl rfl rfl ?_
  refine sxo_len rfl Try.underlying32 rfl rfl ?_
  refine sxo_gtr rfl rfl rfl rfl ?_
  refine sxo_nil ?_
  refine sxq_next ?_
  refine sxc_if rfl (fun h131 => ?_) (fun h131 => ?_)
  · refine sxc_seq ?_
    refine sxc_region ?_
    refine sxo_assign rfl rfl rfl ?_
    refine sxo_nil ?_
    refine sxq_next ?_
    refine sxc_ret ?_
    refine sxq_thenR ?_
    exact sxq_doneP () (.inl rfl) (res1 rfl rfl) (fun h => by subst h; rfl) (fun h => by subst h; exact .nil)
  · refine sxc_skip ?_
    refine sxq_next ?_
    refine sxc_seq ?_
    refine sxc_region ?_
    refine sxo_assign rfl rfl rfl ?_
    refine sxo_nil ?_
    refine sxq_next ?_
    refine sxc_join (fun ((_, _) : (Unit × Unit)) => []) (fun ((_, _) : (Unit × Unit)) => []) (fun ((_, _) : (Unit × Unit)) => []) (fun ((_, _) : (Unit × Unit)) => []) (fun ((_, _) : (Unit × Unit)) => M_gaps_Check_j2 F) ?_ ?_
    · refine sxc_seq ?_
      refine sxc_region ?_
      refine sxo_move rfl rfl rfl ?_
      refine sxo_len rfl Try.underlying32 rfl rfl ?_
      refine sxo_move rfl rfl rfl ?_
      refine sxo_nil ?_
      refine sxq_next ?_
      refine sxc_block ?_
      refine sxc_loopP (fun (((x88, x89), _) : ((Int × Int) × Unit)) => [(3, .int .i64 x88), (9, .slice a2 x1.length c3), (10, .int .i64 (x1.length : Int)), (11, .int .i64 x89)]) (fun (((x88, x89), _) : ((Int × Int) × Unit)) => []) (fun (((x88, x89), _) : ((Int × Int) × Unit)) => []) (fun (((x88, x89), _) : ((Int × Int) × Unit)) => [Sl (eI .i64) 1 (.slice a2 x1.length c3) x1]) (fun k (s : ((Int × Int) × Unit)) => M_gaps_Check_l3 F x1 k s.1) ((-1, 0), ()) F (lk_cons rfl (lk_cons rfl (lk_cons rfl (lk_cons rfl lk_nil)))) .nil .nil (fk_cons 0 rfl fk_nil) (fun _ => rfl) ?_
      intro k110
      rintro ⟨⟨x88, x89⟩, _⟩
      try dsimp only
      refine sxc_meq (m' := M_gaps_Check_b3 F x1 (M_gaps_Check_l3 F x1 k110) x88 x89) rfl ?_
      refine sxc_seq ?_
      refine sxc_region ?_
      refine sxo_lss rfl rfl rfl rfl ?_
      refine sxo_nil ?_
      refine sxq_next ?_
      refine sxc_seq ?_
      refine sxc_if rfl (fun h130 => ?_) (fun h130 => ?_)
      · refine sxc_skip ?_
        refine sxq_next ?_
        refine sxc_seq ?_
        refine sxc_block ?_
        refine sxc_seq ?_
        refine sxc_region ?_
        refine sxo_indexF (j := 0) (eI_ok .i64) (by decide) rfl Try.underlying32 tf3 rfl rfl rfl rfl (fun x121 e121 b122 o123 => ?_)
        refine sxo_loadF (j := 0) rfl rfl tf3 rfl rfl (fun _ => rfl) rfl rfl ?_
        refine sxo_assign rfl rfl rfl ?_
        refine sxo_nil ?_
        refine sxq_next ?_
        refine sxc_seq ?_
        refine sxc_block ?_
        refine sxc_seq ?_
        refine sxc_region ?_
        refine sxo_move rfl rfl rfl ?_
        refine sxo_call ent68 rfl rfl rfl (fun x127 e127 => C_gaps_node F x121 x127 e127) .nil (fun x127 e127 => ?_)
        intro _
        refine sxo_not rfl rfl rfl ?_
        refine sxo_assign rfl rfl rfl ?_
        refine sxo_nil ?_
        refine sxq_next ?_
        refine sxc_if rfl (fun h129 => ?_) (fun h129 => ?_)
        · refine sxc_seq ?_
          refine sxc_region ?_
          refine sxo_assign rfl rfl rfl ?_
          refine sxo_nil ?_
          refine sxq_next ?_
          refine sxc_ret ?_
          refine sxq_blkR ?_
          refine sxq_thenR ?_
          refine sxq_blkR ?_
          refine sxq_thenR ?_
          refine sxq_thenR ?_
          refine sxq_blkR ?_
          refine sxq_thenR ?_
          exact sxq_doneP () (.inl rfl) (res1 rfl rfl) (fun h => by subst h; rfl) (fun h => by subst h; exact .nil)
        · refine sxc_seq ?_
          refine sxc_region ?_
          refine sxo_move rfl rfl rfl ?_
          refine sxo_move rfl rfl rfl ?_
          refine sxo_leq rfl rfl rfl rfl ?_
          refine sxo_assign rfl rfl rfl ?_
          refine sxo_nil ?_
          refine sxq_next ?_
          refine sxc_if rfl (fun h128 => ?_) (fun h128 => ?_)
          · refine sxc_seq ?_
            refine sxc_region ?_
            refine sxo_assign rfl rfl rfl ?_
            refine sxo_nil ?_
            refine sxq_next ?_
            refine sxc_ret ?_
            refine sxq_blkR ?_
            refine sxq_thenR ?_
            refine sxq_blkR ?_
            refine sxq_thenR ?_
            refine sxq_thenR ?_
            refine sxq_blkR ?_
            refine sxq_thenR ?_
            exact sxq_doneP () (.inl rfl) (res1 rfl rfl) (fun h => by subst h; rfl) (fun h => by subst h; exact .nil)
          · refine sxc_skip ?_
            refine sxq_blkN ?_
            refine sxq_next ?_
            refine sxc_region ?_
            refine sxo_move rfl rfl rfl ?_
            refine sxo_assign rfl rfl rfl ?_
            refine sxo_nil ?_
            refine sxq_blkN ?_
            refine sxq_next ?_
            refine sxc_region ?_
            refine sxo_add rfl rfl rfl rfl ?_
            refine sxo_move rfl rfl rfl ?_
            refine sxo_nil ?_
            exact sxq_againP ((x121, iadd .i64 x89 1), ()) (lk_cons rfl (lk_cons rfl (lk_cons rfl (lk_cons rfl lk_nil)))) .nil .nil (fk_cons 1 rfl fk_nil)
      · refine sxc_exit ?_
        refine sxq_thenX ?_
        refine sxq_thenX ?_
        refine sxq_blkX ?_
        exact sxq_meetP ((), ()) lk_nil .nil .nil fk_nil
    · rintro ⟨_, _⟩
      try dsimp only
      refine sxc_seq ?_
      refine sxc_region ?_
      refine sxo_assign rfl rfl rfl ?_
      refine sxo_nil ?_
      refine sxq_next ?_
      refine sxc_ret ?_
      exact sxq_doneP () (.inl rfl) (res1 rfl rfl) (fun h => by subst h; rfl) (fun h => by subst h; exact .nil)

theorem C_cmp_isNaN_int (F : Nat) (x1 : Int) (r : Bool) (hm : M_cmp_isNaN_int F x1 = some r) :
    Pure Try.prog 73 [.int .i64 x1] [] Unit (fun _ => .bool r) (fun _ => []) (fun _ => []) := by
  refine pure_of Try.func73 rfl Try.ntmps73 rfl hm (fun w => ?_)
  refine sxc_env (l' := [(0, .int .i64 x1)]) rfl ?_
  refine sxc_seq ?_
  refine sxc_region ?_
  refine sxo_assign rfl rfl rfl ?_
  refine sxo_nil ?_
  refine sxq_next ?_
  refine sxc_seq ?_
  refine sxc_region ?_
  refine sxo_move rfl rfl rfl ?_
  refine sxo_move rfl rfl rfl ?_
  refine sxo_neq rfl rfl rfl rfl ?_
  refine sxo_assign rfl rfl rfl ?_
  refine sxo_nil ?_
  refine sxq_next ?_
  refine sxc_ret ?_
  exact sxq_doneP () (.inl rfl) (res1 rfl rfl) (fun h => by subst h; rfl) (fun h => by subst h; exact .nil)

theorem C_cmp_Less_int (F : Nat) (x1 : Int) (x2 : Int) (r : Bool) (hm : M_cmp_Less_int F x1 x2 = some r) :
    Pure Try.prog 84 [.int .i64 x1, .int .i64 x2] [] Unit (fun _ => .bool r) (fun _ => []) (fun _ => []) := by
  refine pure_of Try.func84 rfl Try.ntmps84 rfl hm (fun w => ?_)
  refine sxc_env (l' := [(0, .int .i64 x1), (1, .int .i64 x2)]) rfl ?_
  refine sxc_seq ?_
  refine sxc_region ?_
  refine sxo_assign rfl rfl rfl ?_
  refine sxo_nil ?_
  refine sxq_next ?_
  refine sxc_seq ?_
  refine sxc_region ?_
  refine sxo_move rfl rfl rfl ?_
  refine sxo_call ent73 rfl rfl rfl (fun x3 e3 => C_cmp_isNaN_int F x1 x3 e3) .nil (fun x3 e3 => ?_)
  intro _
  refine sxo_move rfl rfl rfl ?_
  refine sxo_join 4 (fun ((x6, _) : (Bool × Unit)) => [(0, .int .i64 x1), (1, .int .i64 x2), (11, .bool x6)]) (fun ((x6, _) : (Bool × Unit)) => []) (fun ((x6, _) : (Bool × Unit)) => []) (fun ((x6, _) : (Bool × Unit)) => []) (fun ((x6, _) : (Bool × Unit)) => M_cmp_Less_int_j1 F x1 x2 x6) ?_ ?_
  · refine sxo_take (os := _) rfl ?_
    refine sxo_if (fun h4 => ?_) (fun h4 => ?_)
    · refine sxo_isT (k := 7) rfl h4 ?_
      refine sxo_move rfl rfl rfl ?_
      refine sxo_call ent73 rfl rfl rfl (fun x8 e8 => C_cmp_isNaN_int F x2 x8 e8) .nil (fun x8 e8 => ?_)
      intro _
      refine sxo_not rfl rfl rfl ?_
      refine sxo_pick (b := true) rfl rfl rfl rfl ?_
      refine sxo_nil ?_
      exact sxq_meetP ((!x8), ()) (lk_cons rfl (lk_cons rfl (lk_cons rfl lk_nil))) .nil .nil fk_nil
    · refine sxo_isF (k := 7) rfl h4 ?_
      refine sxo_skip rfl rfl rfl ?_
      refine sxo_skip rfl rfl rfl ?_
      refine sxo_skip rfl rfl rfl ?_
      refine sxo_pick (b := false) rfl rfl rfl rfl ?_
      refine sxo_nil ?_
      exact sxq_meetP (false, ()) (lk_cons rfl (lk_cons rfl (lk_cons rfl lk_nil))) .nil .nil fk_nil
  · rintro ⟨x6, _⟩
    try dsimp only
    refine sxo_take (os := _) rfl ?_
    refine sxo_move rfl rfl rfl ?_
    refine sxo_case 4 x6 [(16, .bool (x6 || (decide (x1 < x2))))] (fun h7 => ?_) (fun h7 => ?_) ?_
    · refine sxo_take (os := _) rfl ?_
      refine sxo_isT (k := 12) rfl h7 ?_
      refine sxo_skip rfl rfl rfl ?_
      refine sxo_skip rfl rfl rfl ?_
      refine sxo_skip rfl rfl rfl ?_
      refine sxo_pick (b := true) rfl rfl rfl rfl ?_
      refine sxo_again (d := 16) (v := .bool (x6 || (decide (x1 < x2)))) rfl (by rw [h7]; simp only [Bool.true_or]) ?_
      refine sxo_nil ?_
      exact sxq_case (lk_cons rfl lk_nil)
    · refine sxo_take (os := _) rfl ?_
      refine sxo_isF (k := 12) rfl h7 ?_
      refine sxo_move rfl rfl rfl ?_
      refine sxo_move rfl rfl rfl ?_
      refine sxo_lss rfl rfl rfl rfl ?_
      refine sxo_pick (b := false) rfl rfl rfl rfl ?_
      refine sxo_again (d := 16) (v := .bool (x6 || (decide (x1 < x2)))) rfl (by rw [h7]; simp only [Bool.false_or]) ?_
      refine sxo_nil ?_
      exact sxq_case (lk_cons rfl lk_nil)
    refine sxo_take (os := _) rfl ?_
    refine sxo_assign rfl rfl rfl ?_
    refine sxo_nil ?_
    refine sxq_next ?_
    refine sxc_ret ?_
    exact sxq_doneP () (.inl rfl) (res1 rfl rfl) (fun h => by subst h; rfl) (fun h => by subst h; exact .nil)

theorem C_slices_isNaN_int (F : Nat) (x1 : Int) (r : Bool) (hm : M_slices_isNaN_int F x1 = some r) :
    Pure Try.prog 85 [.int .i64 x1] [] Unit (fun _ => .bool r) (fun _ => []) (fun _ => []) := by
  refine pure_of Try.func85 rfl Try.ntmps85 rfl hm (fun w => ?_)
  refine sxc_env (l' := [(0, .int .i64 x1)]) rfl ?_
  refine sxc_seq ?_
  refine sxc_region ?_
  refine sxo_assign rfl rfl rfl ?_
  refine sxo_nil ?_
  refine sxq_next ?_
  refine sxc_seq ?_
  refine sxc_region ?_
  refine sxo_move rfl rfl rfl ?_
  refine sxo_move rfl rfl rfl ?_
  refine sxo_neq rfl rfl rfl rfl ?_
  refine sxo_assign rfl rfl rfl ?_
  refine sxo_nil ?_
  refine sxq_next ?_
  refine sxc_ret ?_
  exact sxq_doneP () (.inl rfl) (res1 rfl rfl) (fun h => by subst h; rfl) (fun h => by subst h; exact .nil)

theorem C_slices_BinarySearch_int_int (F : Nat) (x1 : List Int) (a2 : Option Addr) (c3 : Nat) (x4 : Int) (r : (Int × Bool)) (hm : M_slices_BinarySearch_int_int F x1 x4 = some r) :
    Pure Try.prog 69 [.slice a2 x1.length c3, .int .i64 x4] [Sl (eI .i64) 1 (.slice a2 x1.length c3) x1] Unit (fun _ => .tuple #[.int .i64 r.1, .bool r.2]) (fun _ => []) (fun _ => []) := by
  refine pure_of Try.func69 rfl Try.ntmps69 rfl hm (fun w => ?_)
  refine sxc_env (l' := [(0, .slice a2 x1.length c3), (1, .int .i64 x4)]) rfl ?_
  refine sxc_seq ?_
  refine sxc_region ?_
  refine sxo_assign rfl rfl rfl ?_
  refine sxo_assign rfl rfl rfl ?_
  refine sxo_nil ?_
  refine sxq_next ?_
  refine sxc_seq ?_
  refine sxc_region ?_
  refine sxo_move rfl rfl rfl ?_
  refine sxo_len rfl Try.underlying32 rfl rfl ?_
  refine sxo_assign rfl rfl rfl ?_
  refine sxo_nil ?_
  refine sxq_next ?_
  refine sxc_seq ?_
  refine sxc_region ?_
  refine sxo_move rfl rfl rfl ?_
  refine sxo_assign rfl rfl rfl ?_
  refine sxo_assign rfl rfl rfl ?_
  refine sxo_nil ?_
  refine sxq_next ?_
  refine sxc_join (fun ((x32, _) : (Int × Unit)) => [(0, .slice a2 x1.length c3), (1, .int .i64 x4), (6, .int .i64 (x1.length : Int)), (7, .int .i64 x32)]) (fun ((x32, _) : (Int × Unit)) => []) (fun ((x32, _) : (Int × Unit)) => []) (fun ((x32, _) : (Int × Unit)) => [Sl (eI .i64) 1 (.slice a2 x1.length c3) x1]) (fun ((x32, _) : (Int × Unit)) => M_slices_BinarySearch_int_int_j2 F x1 x4 x32) ?_ ?_
  · refine sxc_block ?_
    refine sxc_loopP (fun (((x85, x86), _) : ((Int × Int) × Unit)) => [(0, .slice a2 x1.length c3), (1, .int .i64 x4), (6, .int .i64 (x1.length : Int)), (7, .int .i64 x85), (8, .int .i64 x86)]) (fun (((x85, x86), _) : ((Int × Int) × Unit)) => []) (fun (((x85, x86), _) : ((Int × Int) × Unit)) => []) (fun (((x85, x86), _) : ((Int × Int) × Unit)) => [Sl (eI .i64) 1 (.slice a2 x1.length c3) x1]) (fun k (s : ((Int × Int) × Unit)) => M_slices_BinarySearch_int_int_l10 F x1 x4 k s.1) ((0, (x1.length : Int)), ()) F (lk_cons rfl (lk_cons rfl (lk_cons rfl (lk_cons rfl (lk_cons rfl lk_nil))))) .nil .nil (fk_cons 0 rfl fk_nil) (fun _ => rfl) ?_
    intro k95
    rintro ⟨⟨x85, x86⟩, _⟩
    try dsimp only
    refine sxc_meq (m' := M_slices_BinarySearch_int_int_b10 F x1 x4 (M_slices_BinarySearch_int_int_l10 F x1 x4 k95) x85 x86) rfl ?_
    refine sxc_seq ?_
    refine sxc_seq ?_
    refine sxc_region ?_
    refine sxo_move rfl rfl rfl ?_
    refine sxo_move rfl rfl rfl ?_
    refine sxo_lss rfl rfl rfl rfl ?_
    refine sxo_nil ?_
    refine sxq_next ?_
    refine sxc_if rfl (fun h103 => ?_) (fun h103 => ?_)
    · refine sxc_skip ?_
      refine sxq_next ?_
      refine sxc_block ?_
      refine sxc_seq ?_
      refine sxc_region ?_
      refine sxo_move rfl rfl rfl ?_
      refine sxo_move rfl rfl rfl ?_
      refine sxo_add rfl rfl rfl rfl ?_
      refine sxo_conv rfl Try.underlying3 Try.underlying87 rfl rfl ?_
      refine sxo_shr rfl rfl rfl rfl rfl ?_
      refine sxo_conv rfl Try.underlying87 Try.underlying3 rfl rfl ?_
      refine sxo_assign rfl rfl rfl ?_
      refine sxo_lett (fun x97 e97 => ?_)
      refine sxo_again (d := 9) (v := .int .i64 x97) rfl (by rw [e97]) ?_
      refine sxo_nil ?_
      refine sxq_next ?_
      refine sxc_seq ?_
      refine sxc_region ?_
      refine sxo_move rfl rfl rfl ?_
      refine sxo_move rfl rfl rfl ?_
      refine sxo_indexF (j := 0) (eI_ok .i64) (by decide) rfl Try.underlying32 tf3 rfl rfl rfl rfl (fun x98 e98 b99 o100 => ?_)
      refine sxo_loadF (j := 0) rfl rfl tf3 rfl rfl (fun _ => rfl) rfl rfl ?_
      refine sxo_move rfl rfl rfl ?_
      refine sxo_call ent84 rfl rfl rfl (fun x101 e101 => C_cmp_Less_int F x98 x4 x101 e101) .nil (fun x101 e101 => ?_)
      intro _
      refine sxo_nil ?_
      refine sxq_next ?_
      refine sxc_if rfl (fun h102 => ?_) (fun h102 => ?_)
      · refine sxc_region ?_
        refine sxo_move rfl rfl rfl ?_
        refine sxo_add rfl rfl rfl rfl ?_
        refine sxo_assign rfl rfl rfl ?_
        refine sxo_nil ?_
        refine sxq_blkN ?_
        exact sxq_againP ((iadd .i64 x97 1, x86), ()) (lk_cons rfl (lk_cons rfl (lk_cons rfl (lk_cons rfl (lk_cons rfl lk_nil))))) .nil .nil (fk_cons 1 rfl fk_nil)
      · refine sxc_region ?_
        refine sxo_move rfl rfl rfl ?_
        refine sxo_assign rfl rfl rfl ?_
        refine sxo_nil ?_
        refine sxq_blkN ?_
        exact sxq_againP ((x85, x97), ()) (lk_cons rfl (lk_cons rfl (lk_cons rfl (lk_cons rfl (lk_cons rfl lk_nil))))) .nil .nil (fk_cons 1 rfl fk_nil)
    · refine sxc_exit ?_
      refine sxq_thenX ?_
      refine sxq_thenX ?_
      refine sxq_blkX ?_
      exact sxq_meetP (x85, ()) (lk_cons rfl (lk_cons rfl (lk_cons rfl (lk_cons rfl lk_nil)))) .nil .nil (fk_cons 0 rfl fk_nil)
  · rintro ⟨x32, _⟩
    try dsimp only
    refine sxc_seq ?_
    refine sxc_region ?_
    refine sxo_move rfl rfl rfl ?_
    refine sxo_move rfl rfl rfl ?_
    refine sxo_move rfl rfl rfl ?_
    refine sxo_lss rfl rfl rfl rfl ?_
    refine sxo_move rfl rfl rfl ?_
    refine sxo_join 18 (fun ((x55, _) : (Bool × Unit)) => [(31, .int .i64 x32), (53, .bool x55)]) (fun ((x55, _) : (Bool × Unit)) => []) (fun ((x55, _) : (Bool × Unit)) => []) (fun ((x55, _) : (Bool × Unit)) => []) (fun ((x55, _) : (Bool × Unit)) => M_slices_BinarySearch_int_int_j6 F x32 x55) ?_ ?_
    · refine sxo_take (os := _) rfl ?_
      refine sxo_if (fun h33 => ?_) (fun h33 => ?_)
      · refine sxo_isT (k := 35) rfl h33 ?_
        refine sxo_move rfl rfl rfl ?_
        refine sxo_move rfl rfl rfl ?_
        refine sxo_indexF (j := 0) (eI_ok .i64) (by decide) rfl Try.underlying32 tf3 rfl rfl rfl rfl (fun x56 e56 b57 o58 => ?_)
        refine sxo_loadF (j := 0) rfl rfl tf3 rfl rfl (fun _ => rfl) rfl rfl ?_
        refine sxo_move rfl rfl rfl ?_
        refine sxo_eql rfl rfl rfl rfl ?_
        refine sxo_move rfl rfl rfl ?_
        refine sxo_join 10 (fun ((x68, _) : (Bool × Unit)) => [(31, .int .i64 x32), (35, .bool true), (52, .bool x68)]) (fun ((x68, _) : (Bool × Unit)) => []) (fun ((x68, _) : (Bool × Unit)) => []) (fun ((x68, _) : (Bool × Unit)) => []) (fun ((x68, _) : (Bool × Unit)) => M_slices_BinarySearch_int_int_j8 F x32 x68) ?_ ?_
        · refine sxo_take (os := _) rfl ?_
          refine sxo_if (fun h59 => ?_) (fun h59 => ?_)
          · refine sxo_isT (k := 42) rfl h59 ?_
            refine sxo_skip rfl rfl rfl ?_
            refine sxo_skip rfl rfl rfl ?_
            refine sxo_skip rfl rfl rfl ?_
            refine sxo_skip rfl rfl rfl ?_
            refine sxo_skip rfl rfl rfl ?_
            refine sxo_skip rfl rfl rfl ?_
            refine sxo_skip rfl rfl rfl ?_
            refine sxo_skip rfl rfl rfl ?_
            refine sxo_skip rfl rfl rfl ?_
            refine sxo_pick (b := true) rfl rfl rfl rfl ?_
            refine sxo_nil ?_
            exact sxq_meetP (true, ()) (lk_cons rfl (lk_cons rfl (lk_cons rfl lk_nil))) .nil .nil fk_nil
          · refine sxo_isF (k := 42) rfl h59 ?_
            refine sxo_move rfl rfl rfl ?_
            refine sxo_move rfl rfl rfl ?_
            refine sxo_indexF (j := 1) (eI_ok .i64) (by decide) rfl Try.underlying32 tf3 rfl rfl rfl rfl (fun x69 e69 b70 o71 => ?_)
            refine sxo_loadF (j := 0) rfl rfl tf3 rfl rfl (fun _ => rfl) rfl rfl ?_
            refine sxo_call ent85 rfl rfl rfl (fun x72 e72 => C_slices_isNaN_int F x69 x72 e72) .nil (fun x72 e72 => ?_)
            intro _
            refine sxo_move rfl rfl rfl ?_
            refine sxo_join 3 (fun ((x75, _) : (Bool × Unit)) => [(31, .int .i64 x32), (35, .bool true), (42, .bool false), (51, .bool x75)]) (fun ((x75, _) : (Bool × Unit)) => []) (fun ((x75, _) : (Bool × Unit)) => []) (fun ((x75, _) : (Bool × Unit)) => []) (fun ((x75, _) : (Bool × Unit)) => M_slices_BinarySearch_int_int_j9 F x32 x75) ?_ ?_
            · refine sxo_take (os := _) rfl ?_
              refine sxo_if (fun h73 => ?_) (fun h73 => ?_)
              · refine sxo_isT (k := 48) rfl h73 ?_
                refine sxo_move rfl rfl rfl ?_
                refine sxo_call ent85 rfl rfl rfl (fun x76 e76 => C_slices_isNaN_int F x4 x76 e76) .nil (fun x76 e76 => ?_)
                intro _
                refine sxo_pick (b := true) rfl rfl rfl rfl ?_
                refine sxo_nil ?_
                exact sxq_meetP (x76, ()) (lk_cons rfl (lk_cons rfl (lk_cons rfl (lk_cons rfl lk_nil)))) .nil .nil fk_nil
              · refine sxo_isF (k := 48) rfl h73 ?_
                refine sxo_skip rfl rfl rfl ?_
                refine sxo_skip rfl rfl rfl ?_
                refine sxo_pick (b := false) rfl rfl rfl rfl ?_
                refine sxo_nil ?_
                exact sxq_meetP (false, ()) (lk_cons rfl (lk_cons rfl (lk_cons rfl (lk_cons rfl lk_nil)))) .nil .nil fk_nil
            · rintro ⟨x75, _⟩
              try dsimp only
              refine sxo_take (os := _) rfl ?_
              refine sxo_pick (b := false) rfl rfl rfl rfl ?_
              refine sxo_nil ?_
              exact sxq_meetP (x75, ()) (lk_cons rfl (lk_cons rfl (lk_cons rfl lk_nil))) .nil .nil fk_nil
        · rintro ⟨x68, _⟩
          try dsimp only
          refine sxo_take (os := _) rfl ?_
          refine sxo_pick (b := true) rfl rfl rfl rfl ?_
          refine sxo_nil ?_
          exact sxq_meetP (x68, ()) (lk_cons rfl (lk_cons rfl lk_nil)) .nil .nil fk_nil
      · refine sxo_isF (k := 35) rfl h33 ?_
        refine sxo_skip rfl rfl rfl ?_
        refine sxo_skip rfl rfl rfl ?_
        refine sxo_skip rfl rfl rfl ?_
        refine sxo_skip rfl rfl rfl ?_
        refine sxo_skip rfl rfl rfl ?_
        refine sxo_skip rfl rfl rfl ?_
        refine sxo_skip rfl rfl rfl ?_
        refine sxo_skip rfl rfl rfl ?_
        refine sxo_skip rfl rfl rfl ?_
        refine sxo_skip rfl rfl rfl ?_
        refine sxo_skip rfl rfl rfl ?_
        refine sxo_skip rfl rfl rfl ?_
        refine sxo_skip rfl rfl rfl ?_
        refine sxo_skip rfl rfl rfl ?_
        refine sxo_skip rfl rfl rfl ?_
        refine sxo_skip rfl rfl rfl ?_
        refine sxo_skip rfl rfl rfl ?_
        refine sxo_pick (b := false) rfl rfl rfl rfl ?_
        refine sxo_nil ?_
        exact sxq_meetP (false, ()) (lk_cons rfl (lk_cons rfl lk_nil)) .nil .nil fk_nil
    · rintro ⟨x55, _⟩
      try dsimp only
      refine sxo_take (os := _) rfl ?_
      refine sxo_assign rfl rfl rfl ?_
      refine sxo_assign rfl rfl rfl ?_
      refine sxo_nil ?_
      refine sxq_next ?_
      refine sxc_ret ?_
      exact sxq_doneP () (.inl rfl) (res2 rfl rfl rfl) (fun h => by subst h; rfl) (fun h => by subst h; exact .nil)

theorem C_parts_turner_see (F : Nat) (g1 : Nat) (x2 : List Int) (a3 : Option Addr) (c4 : Nat) (x5 : Bool) (x6 : Int) (x7 : Bool) (r : (List Int × Bool × Int)) (hm : M_parts_turner_see F x2 x5 x6 x7 = some r) :
    PureM Try.prog 70 [.pointer (some ⟨g1, 0, none⟩), .bool x7] [⟨g1, 91, [.slice a3 x2.length c4, .bool x5, .int .i64 x6]⟩] [Ro (eI .i64) 3 1 (.slice a3 x2.length c4) x2] [] (Option Addr × Nat) (fun _ => .tuple #[]) (fun g => [⟨g1, 91, [.slice g.1 r.1.length g.2, .bool r.2.1, .int .i64 r.2.2]⟩]) (fun g => [Ro (eI .i64) 3 1 (.slice g.1 r.1.length g.2) r.1]) := by
  refine pureM_of Try.func70 rfl Try.ntmps70 rfl hm (fun w => ?_)
  refine sxc_env (l' := [(0, .pointer (some ⟨g1, 0, none⟩)), (1, .bool x7)]) rfl ?_
  refine sxc_join (fun (((x21, x22, x23), (a19, c20)) : ((List Int × Bool × Int) × (Option Addr × Nat))) => [(0, .pointer (some ⟨g1, 0, none⟩))]) (fun (((x21, x22, x23), (a19, c20)) : ((List Int × Bool × Int) × (Option Addr × Nat))) => [⟨g1, 91, [.slice a19 x21.length c20, .bool x22, .int .i64 x23]⟩]) (fun (((x21, x22, x23), (a19, c20)) : ((List Int × Bool × Int) × (Option Addr × Nat))) => [Ro (eI .i64) 3 1 (.slice a19 x21.length c20) x21]) (fun (((x21, x22, x23), (a19, c20)) : ((List Int × Bool × Int) × (Option Addr × Nat))) => []) (fun (((x21, x22, x23), _) : ((List Int × Bool × Int) × (Option Addr × Nat))) => M_parts_turner_see_j1 F x21 x22 x23) ?_ ?_
  · refine sxc_seq ?_
    refine sxc_region ?_
    refine sxo_move rfl rfl rfl ?_
    refine sxo_move rfl rfl rfl ?_
    refine sxo_nilCheck rfl rfl rfl ?_
    refine sxo_fieldAddr rfl rfl ff91_1 rfl ?_
    refine sxo_loadB (i := 0) rfl rfl tf4 rfl rfl (fun _ => rfl) rfl rfl ?_
    refine sxo_neb rfl Try.underlying4 rfl rfl rfl ?_
    refine sxo_nil ?_
    refine sxq_next ?_
    refine sxc_if rfl (fun h34 => ?_) (fun h34 => ?_)
    · refine sxc_seq ?_
      refine sxb_draw mixed [13] [⟨g1, 91, [.slice a3 x2.length c4, .bool x5, .int .i64 x6]⟩] [] (.cons 0 rfl .nil) gk_nil 14 rfl ?_
      refine sxb_takeP 0 (.pointer (some ⟨g1, 0, none⟩)) rfl rfl rfl rfl (by kernel_rfl) (by kernel_rfl) (by kernel_rfl) (by kernel_rfl) (by kernel_rfl) rfl (show _ = #[true, false, false, false, false, false, false, false, false, false, false, false, false, false] from rfl) (yv_pv rfl) ?_
      refine sxb_takeP 1 (.pointer (some ⟨g1, 0, none⟩)) rfl rfl rfl rfl (by kernel_rfl) (by kernel_rfl) (by kernel_rfl) (by kernel_rfl) (by kernel_rfl) rfl (show _ = #[true, true, false, false, false, false, false, false, false, false, false, false, false, false] from rfl) (yv_pv rfl) ?_
      refine sxb_takeP 2 (.pointer (some ⟨g1, 0, none⟩)) rfl rfl rfl rfl (by kernel_rfl) (by kernel_rfl) (by kernel_rfl) (by kernel_rfl) (by kernel_rfl) rfl (show _ = #[true, true, true, false, false, false, false, false, false, false, false, false, false, false] from rfl) (yv_pv rfl) ?_
      refine sxb_takeP 3 (.pointer (some ⟨g1, 0, none⟩)) rfl rfl rfl rfl (by kernel_rfl) (by kernel_rfl) (by kernel_rfl) (by kernel_rfl) (by kernel_rfl) rfl (show _ = #[true, true, true, true, false, false, false, false, false, false, false, false, false, false] from rfl) (yv_fieldAddr rfl ff91_0) ?_
      refine sxb_take 4 (.slice a3 x2.length c4) [[13]] rfl rfl rfl rfl (by kernel_rfl) (by kernel_rfl) (by kernel_rfl) (by kernel_rfl) (by kernel_rfl) (by kernel_rfl) rfl (show _ = #[true, true, true, true, true, false, false, false, false, false, false, false, false, false] from rfl) (yv_loadB (i := 0) rfl tf32 rfl rfl (fun _ => rfl) rfl) ?_
      refine sxb_takeP 5 (.pointer (some ⟨g1, 0, none⟩)) rfl rfl rfl rfl (by kernel_rfl) (by kernel_rfl) (by kernel_rfl) (by kernel_rfl) (by kernel_rfl) rfl (show _ = #[true, true, true, true, true, true, false, false, false, false, false, false, false, false] from rfl) (yv_pv rfl) ?_
      refine sxb_takeP 6 (.pointer (some ⟨g1, 0, none⟩)) rfl rfl rfl rfl (by kernel_rfl) (by kernel_rfl) (by kernel_rfl) (by kernel_rfl) (by kernel_rfl) rfl (show _ = #[true, true, true, true, true, true, true, false, false, false, false, false, false, false] from rfl) (yv_pv rfl) ?_
      refine sxb_takeP 7 (.pointer (some ⟨g1, 2, none⟩)) rfl rfl rfl rfl (by kernel_rfl) (by kernel_rfl) (by kernel_rfl) (by kernel_rfl) (by kernel_rfl) rfl (show _ = #[true, true, true, true, true, true, true, true, false, false, false, false, false, false] from rfl) (yv_fieldAddr rfl ff91_2) ?_
      refine sxb_take 8 (.int .i64 x6) [[13]] rfl rfl rfl rfl (by kernel_rfl) (by kernel_rfl) (by kernel_rfl) (by kernel_rfl) (by kernel_rfl) (by kernel_rfl) rfl (show _ = #[true, true, true, true, true, true, true, true, true, false, false, false, false, false] from rfl) (yv_loadB (i := 0) rfl tf3 rfl rfl (fun _ => rfl) rfl) ?_
      refine sxb_step 9 rfl (by kernel_rfl) (show _ = #[true, true, true, true, true, true, true, true, true, true, false, false, false, false] from rfl) ?_
      refine sxo_slit (vs := [.int .i64 x6]) (ys := ([x6] : List Int)) (eI_ok .i64) (by decide) rfl Try.underlying32 tf3 rfl rfl rfl rfl rfl (by decide) (fun a29 c30 => ?_)
      refine sxo_nil ?_
      refine sxq_anyB (.cons 0 rfl .nil) gk_nil ?_
      refine sxb_step 10 rfl (by kernel_rfl) (show _ = #[true, true, true, true, true, true, true, true, true, true, true, false, false, false] from rfl) ?_
      refine sxo_app 1 (eI_ok .i64) rfl Try.underlying32 tf3 rfl rfl rfl rfl rfl (.inl ⟨0, _, rfl⟩) rfl rfl (fun x31 e31 a32 c33 => ?_)
      refine sxo_nil ?_
      refine sxq_anyB (.cons 0 rfl .nil) gk_nil ?_
      refine sxb_takeP 11 (.pointer (some ⟨g1, 0, none⟩)) rfl rfl rfl rfl (by kernel_rfl) (by kernel_rfl) (by kernel_rfl) (by kernel_rfl) (by kernel_rfl) rfl (show _ = #[true, true, true, true, true, true, true, true, true, true, true, true, false, false] from rfl) (yv_pv rfl) ?_
      refine sxb_takeP 12 (.pointer (some ⟨g1, 0, none⟩)) rfl rfl rfl rfl (by kernel_rfl) (by kernel_rfl) (by kernel_rfl) (by kernel_rfl) (by kernel_rfl) rfl (show _ = #[true, true, true, true, true, true, true, true, true, true, true, true, true, false] from rfl) (yv_fieldAddr rfl ff91_0) ?_
      refine sxb_step 13 rfl (by kernel_rfl) (show _ = #[true, true, true, true, true, true, true, true, true, true, true, true, true, true] from rfl) ?_
      refine sxo_storeB (i := 0) rfl rfl rfl tf32 rfl rfl rfl rfl rfl ?_
      refine sxo_nil ?_
      refine sxq_anyW 13 rfl rfl ?_
      refine sxb_done (by kernel_rfl) ?_
      refine sxq_np ?_ (by intro c h; cases h)
      refine sxq_next ?_
      refine sxc_region ?_
      refine sxo_move rfl rfl rfl ?_
      refine sxo_move rfl rfl rfl ?_
      refine sxo_move rfl rfl rfl ?_
      refine sxo_nilCheck rfl rfl rfl ?_
      refine sxo_fieldAddr rfl rfl ff91_1 rfl ?_
      refine sxo_storeB (i := 0) rfl rfl rfl tf4 rfl rfl rfl rfl rfl ?_
      refine sxo_nilCheck rfl rfl rfl ?_
      refine sxo_fieldAddr rfl rfl ff91_2 rfl ?_
      refine sxo_storeB (i := 0) rfl rfl rfl tf3 rfl rfl rfl rfl rfl ?_
      refine sxo_nil ?_
      exact sxq_meetP ((x31, x7, 0), (a32, c33)) (lk_cons rfl lk_nil) (.cons 0 rfl .nil) (.cons 0 rfl .nil) fk_nil
    · refine sxc_skip ?_
      exact sxq_meetP ((x2, x5, x6), (a3, c4)) (lk_cons rfl lk_nil) (.cons 0 rfl .nil) (.cons 0 rfl .nil) fk_nil
  · rintro ⟨⟨x21, x22, x23⟩, ⟨a19, c20⟩⟩
    try dsimp only
    refine sxc_region ?_
    refine sxo_move rfl rfl rfl ?_
    refine sxo_nilCheck rfl rfl rfl ?_
    refine sxo_fieldAddr rfl rfl ff91_2 rfl ?_
    refine sxo_loadB (i := 0) rfl rfl tf3 rfl rfl (fun _ => rfl) rfl rfl ?_
    refine sxo_add rfl rfl rfl rfl ?_
    refine sxo_nilCheck rfl rfl rfl ?_
    refine sxo_fieldAddr rfl rfl ff91_2 rfl ?_
    refine sxo_storeB (i := 0) rfl rfl rfl tf3 rfl rfl rfl rfl rfl ?_
    refine sxo_nil ?_
    exact sxq_doneM (a19, c20) (.inr rfl) (res0 rfl) (fun h => by subst h; rfl) (fun h => by subst h; exact (.cons 0 rfl .nil)) (fun h => by subst h; exact (.cons 0 rfl .nil))

theorem C_parts_Raw (F : Nat) (x1 : List Int) (a2 : Option Addr) (c3 : Nat) (x4 : List Int) (a5 : Option Addr) (c6 : Nat) (r : (List Int × List Int)) (hm : M_parts_Raw F x1 x4 = some r) :
    Pure Try.prog 53 [.slice a2 x1.length c3, .slice a5 x4.length c6] [Sl (eI .i64) 1 (.slice a2 x1.length c3) x1, Sl (eI .i64) 1 (.slice a5 x4.length c6) x4] ((Option Addr × Nat) × (Option Addr × Nat)) (fun g => .tuple #[.slice g.1.1 r.1.length g.1.2, .slice g.2.1 r.2.length g.2.2]) (fun g => [Ro (eI .i64) 3 1 (.slice g.1.1 r.1.length g.1.2) r.1, Ro (eI .i64) 3 1 (.slice g.2.1 r.2.length g.2.2) r.2]) (fun _ => []) := by
  refine pure_of Try.func53 rfl Try.ntmps53 rfl hm (fun w => ?_)
  refine sxc_env (l' := [(0, .slice a2 x1.length c3), (1, .slice a5 x4.length c6)]) rfl ?_
  refine sxc_seq ?_
  refine sxc_region ?_
  refine sxo_assign rfl rfl rfl ?_
  refine sxo_assign rfl rfl rfl ?_
  refine sxo_nil ?_
  refine sxq_next ?_
  refine sxc_seq ?_
  refine sxc_region ?_
  refine sxo_build (cells := [.slice none 0 0, .bool true, .int .i64 0]) rfl st91 rfl (by kernel_rfl) rfl ?_
  refine sxo_box rfl rfl rfl (fun g7 => ?_)
  refine sxo_assign rfl rfl rfl ?_
  refine sxo_nil ?_
  refine sxq_next ?_
  refine sxc_join (fun (((x66, x67, x68), (a64, c65)) : ((List Int × Bool × Int) × (Option Addr × Nat))) => [(0, .slice a2 x1.length c3), (1, .slice a5 x4.length c6), (5, .slice none 0 0), (6, .pointer (some ⟨g7, 0, none⟩))]) (fun (((x66, x67, x68), (a64, c65)) : ((List Int × Bool × Int) × (Option Addr × Nat))) => [⟨g7, 91, [.slice a64 x66.length c65, .bool x67, .int .i64 x68]⟩]) (fun (((x66, x67, x68), (a64, c65)) : ((List Int × Bool × Int) × (Option Addr × Nat))) => [Ro (eI .i64) 3 1 (.slice a64 x66.length c65) x66]) (fun (((x66, x67, x68), (a64, c65)) : ((List Int × Bool × Int) × (Option Addr × Nat))) => [Sl (eI .i64) 1 (.slice a2 x1.length c3) x1, Sl (eI .i64) 1 (.slice a5 x4.length c6) x4]) (fun (((x66, x67, x68), _) : ((List Int × Bool × Int) × (Option Addr × Nat))) => M_parts_Raw_j2 F x1 x4 x66 x67 x68) ?_ ?_
  · refine sxc_seq ?_
    refine sxc_region ?_
    refine sxo_move rfl rfl rfl ?_
    refine sxo_len rfl Try.underlying32 rfl rfl ?_
    refine sxo_move rfl rfl rfl ?_
    refine sxo_nil ?_
    refine sxq_next ?_
    refine sxc_block ?_
    refine sxc_nilrow Int (eI .i64) 3 1 ?_
    refine sxc_loopP (fun (((x249, x252, x253, x254), (a250, c251)) : ((Int × List Int × Bool × Int) × (Option Addr × Nat))) => [(0, .slice a2 x1.length c3), (1, .slice a5 x4.length c6), (5, .slice none 0 0), (6, .pointer (some ⟨g7, 0, none⟩)), (17, .slice a2 x1.length c3), (18, .int .i64 (x1.length : Int)), (19, .int .i64 x249)]) (fun (((x249, x252, x253, x254), (a250, c251)) : ((Int × List Int × Bool × Int) × (Option Addr × Nat))) => [⟨g7, 91, [.slice a250 x252.length c251, .bool x253, .int .i64 x254]⟩]) (fun (((x249, x252, x253, x254), (a250, c251)) : ((Int × List Int × Bool × Int) × (Option Addr × Nat))) => [Ro (eI .i64) 3 1 (.slice a250 x252.length c251) x252]) (fun (((x249, x252, x253, x254), (a250, c251)) : ((Int × List Int × Bool × Int) × (Option Addr × Nat))) => [Sl (eI .i64) 1 (.slice a2 x1.length c3) x1, Sl (eI .i64) 1 (.slice a5 x4.length c6) x4]) (fun k (s : ((Int × List Int × Bool × Int) × (Option Addr × Nat))) => M_parts_Raw_l12 F x1 x4 k s.1) ((0, ([] : List Int), true, 0), (none, 0)) F (lk_cons rfl (lk_cons rfl (lk_cons rfl (lk_cons rfl (lk_cons rfl (lk_cons rfl (lk_cons rfl lk_nil))))))) (.cons 0 rfl .nil) (.cons 0 rfl .nil) (fk_cons 0 rfl (fk_cons 1 rfl fk_nil)) (fun _ => rfl) ?_
    intro k271
    rintro ⟨⟨x249, x252, x253, x254⟩, ⟨a250, c251⟩⟩
    try dsimp only
    refine sxc_meq (m' := M_parts_Raw_b12 F x1 x4 (M_parts_Raw_l12 F x1 x4 k271) x249 x252 x253 x254) rfl ?_
    refine sxc_seq ?_
    refine sxc_region ?_
    refine sxo_lss rfl rfl rfl rfl ?_
    refine sxo_nil ?_
    refine sxq_next ?_
    refine sxc_seq ?_
    refine sxc_if rfl (fun h287 => ?_) (fun h287 => ?_)
    · refine sxc_skip ?_
      refine sxq_next ?_
      refine sxc_seq ?_
      refine sxc_block ?_
      refine sxc_seq ?_
      refine sxc_region ?_
      refine sxo_indexF (j := 0) (eI_ok .i64) (by decide) rfl Try.underlying32 tf3 rfl rfl rfl rfl (fun x280 e280 b281 o282 => ?_)
      refine sxo_loadF (j := 0) rfl rfl tf3 rfl rfl (fun _ => rfl) rfl rfl ?_
      refine sxo_assign rfl rfl rfl ?_
      refine sxo_nil ?_
      refine sxq_next ?_
      refine sxc_seq ?_
      refine sxc_region ?_
      refine sxo_move rfl rfl rfl ?_
      refine sxo_move rfl rfl rfl ?_
      refine sxo_call ent69 rfl rfl rfl (fun x283 e283 => C_slices_BinarySearch_int_int F x4 a5 c6 x280 x283 e283) (.consF 2 rfl .nil) (fun x283 e283 => ?_)
      intro _
      refine sxo_move rfl rfl rfl ?_
      refine sxo_extract rfl rfl rfl rfl ?_
      refine sxo_extract rfl rfl rfl rfl ?_
      refine sxo_assign rfl rfl rfl ?_
      refine sxo_assign rfl rfl rfl ?_
      refine sxo_nil ?_
      refine sxq_next ?_
      refine sxc_region ?_
      refine sxo_move rfl rfl rfl ?_
      refine sxo_move rfl rfl rfl ?_
      refine sxo_callM ent70 rfl rfl rfl (fun x284 e284 => C_parts_turner_see F g7 x252 a250 c251 x253 x254 x283.2 x284 e284) (.cons 0 rfl .nil) (.cons 0 rfl .nil) .nil (fun x284 e284 => ?_)
      rintro ⟨a285, c286⟩
      refine sxo_nil ?_
      refine sxq_blkN ?_
      refine sxq_next ?_
      refine sxc_region ?_
      refine sxo_add rfl rfl rfl rfl ?_
      refine sxo_move rfl rfl rfl ?_
      refine sxo_nil ?_
      exact sxq_againP ((iadd .i64 x249 1, x284.1, x284.2.1, x284.2.2), (a285, c286)) (lk_cons rfl (lk_cons rfl (lk_cons rfl (lk_cons rfl (lk_cons rfl (lk_cons rfl (lk_cons rfl lk_nil))))))) (.cons 0 rfl .nil) (.cons 0 rfl .nil) (fk_cons 1 rfl (fk_cons 2 rfl fk_nil))
    · refine sxc_exit ?_
      refine sxq_thenX ?_
      refine sxq_thenX ?_
      refine sxq_blkX ?_
      exact sxq_meetP ((x252, x253, x254), (a250, c251)) (lk_cons rfl (lk_cons rfl (lk_cons rfl (lk_cons rfl lk_nil)))) (.cons 0 rfl .nil) (.cons 0 rfl .nil) (fk_cons 0 rfl (fk_cons 1 rfl fk_nil))
  · rintro ⟨⟨x66, x67, x68⟩, ⟨a64, c65⟩⟩
    try dsimp only
    refine sxc_join (fun ((x151, (a149, c150)) : (List Int × (Option Addr × Nat))) => [(5, .slice a149 x151.length c150), (6, .pointer (some ⟨g7, 0, none⟩))]) (fun ((x151, (a149, c150)) : (List Int × (Option Addr × Nat))) => [⟨g7, 91, [.slice a64 x66.length c65, .bool x67, .int .i64 x68]⟩]) (fun ((x151, (a149, c150)) : (List Int × (Option Addr × Nat))) => [Ro (eI .i64) 3 1 (.slice a149 x151.length c150) x151, Ro (eI .i64) 3 1 (.slice a64 x66.length c65) x66]) (fun ((x151, (a149, c150)) : (List Int × (Option Addr × Nat))) => []) (fun ((x151, _) : (List Int × (Option Addr × Nat))) => M_parts_Raw_j7 F x66 x151) ?_ ?_
    · refine sxc_seq ?_
      refine sxc_region ?_
      refine sxo_move rfl rfl rfl ?_
      refine sxo_len rfl Try.underlying32 rfl rfl ?_
      refine sxo_move rfl rfl rfl ?_
      refine sxo_nil ?_
      refine sxq_next ?_
      refine sxc_block ?_
      refine sxc_nilrow Int (eI .i64) 3 1 ?_
      refine sxc_loopP (fun (((x179, x180), (a177, c178)) : ((List Int × Int) × (Option Addr × Nat))) => [(0, .slice a2 x1.length c3), (5, .slice a177 x179.length c178), (6, .pointer (some ⟨g7, 0, none⟩)), (33, .slice a5 x4.length c6), (34, .int .i64 (x4.length : Int)), (35, .int .i64 x180)]) (fun (((x179, x180), (a177, c178)) : ((List Int × Int) × (Option Addr × Nat))) => [⟨g7, 91, [.slice a64 x66.length c65, .bool x67, .int .i64 x68]⟩]) (fun (((x179, x180), (a177, c178)) : ((List Int × Int) × (Option Addr × Nat))) => [Ro (eI .i64) 3 1 (.slice a177 x179.length c178) x179, Ro (eI .i64) 3 1 (.slice a64 x66.length c65) x66]) (fun (((x179, x180), (a177, c178)) : ((List Int × Int) × (Option Addr × Nat))) => [Sl (eI .i64) 1 (.slice a2 x1.length c3) x1, Sl (eI .i64) 1 (.slice a5 x4.length c6) x4]) (fun k (s : ((List Int × Int) × (Option Addr × Nat))) => M_parts_Raw_l10 F x1 x4 x66 k s.1) ((([] : List Int), 0), (none, 0)) F (lk_cons rfl (lk_cons rfl (lk_cons rfl (lk_cons rfl (lk_cons rfl (lk_cons rfl lk_nil)))))) (.cons 0 rfl .nil) (.cons 0 rfl (.cons 0 rfl .nil)) (fk_cons 0 rfl (fk_cons 1 rfl fk_nil)) (fun _ => rfl) ?_
      intro k206
      rintro ⟨⟨x179, x180⟩, ⟨a177, c178⟩⟩
      try dsimp only
      refine sxc_meq (m' := M_parts_Raw_b10 F x1 x4 x66 (M_parts_Raw_l10 F x1 x4 x66 k206) x179 x180) rfl ?_
      refine sxc_seq ?_
      refine sxc_region ?_
      refine sxo_lss rfl rfl rfl rfl ?_
      refine sxo_nil ?_
      refine sxq_next ?_
      refine sxc_seq ?_
      refine sxc_if rfl (fun h231 => ?_) (fun h231 => ?_)
      · refine sxc_skip ?_
        refine sxq_next ?_
        refine sxc_join (fun ((x220, (a218, c219)) : (List Int × (Option Addr × Nat))) => [(0, .slice a2 x1.length c3), (5, .slice a218 x220.length c219), (6, .pointer (some ⟨g7, 0, none⟩)), (33, .slice a5 x4.length c6), (34, .int .i64 (x4.length : Int)), (35, .int .i64 x180)]) (fun ((x220, (a218, c219)) : (List Int × (Option Addr × Nat))) => [⟨g7, 91, [.slice a64 x66.length c65, .bool x67, .int .i64 x68]⟩]) (fun ((x220, (a218, c219)) : (List Int × (Option Addr × Nat))) => [Ro (eI .i64) 3 1 (.slice a218 x220.length c219) x220, Ro (eI .i64) 3 1 (.slice a64 x66.length c65) x66]) (fun ((x220, (a218, c219)) : (List Int × (Option Addr × Nat))) => [Sl (eI .i64) 1 (.slice a2 x1.length c3) x1, Sl (eI .i64) 1 (.slice a5 x4.length c6) x4]) (fun ((x220, _) : (List Int × (Option Addr × Nat))) => M_parts_Raw_j11 F (M_parts_Raw_l10 F x1 x4 x66 k206) x180 x220) ?_ ?_
        · refine sxc_block ?_
          refine sxc_seq ?_
          refine sxc_region ?_
          refine sxo_indexF (j := 1) (eI_ok .i64) (by decide) rfl Try.underlying32 tf3 rfl rfl rfl rfl (fun x221 e221 b222 o223 => ?_)
          refine sxo_loadF (j := 0) rfl rfl tf3 rfl rfl (fun _ => rfl) rfl rfl ?_
          refine sxo_assign rfl rfl rfl ?_
          refine sxo_nil ?_
          refine sxq_next ?_
          refine sxc_seq ?_
          refine sxc_region ?_
          refine sxo_move rfl rfl rfl ?_
          refine sxo_move rfl rfl rfl ?_
          refine sxo_call ent69 rfl rfl rfl (fun x224 e224 => C_slices_BinarySearch_int_int F x1 a2 c3 x221 x224 e224) (.consF 1 rfl .nil) (fun x224 e224 => ?_)
          intro _
          refine sxo_move rfl rfl rfl ?_
          refine sxo_extract rfl rfl rfl rfl ?_
          refine sxo_extract rfl rfl rfl rfl ?_
          refine sxo_assign rfl rfl rfl ?_
          refine sxo_assign rfl rfl rfl ?_
          refine sxo_nil ?_
          refine sxq_next ?_
          refine sxc_seq ?_
          refine sxc_region ?_
          refine sxo_move rfl rfl rfl ?_
          refine sxo_not rfl rfl rfl ?_
          refine sxo_nil ?_
          refine sxq_next ?_
          refine sxc_if rfl (fun h230 => ?_) (fun h230 => ?_)
          · refine sxc_region ?_
            refine sxo_move rfl rfl rfl ?_
            refine sxo_move rfl rfl rfl ?_
            refine sxo_slit (vs := [.int .i64 x221]) (ys := ([x221] : List Int)) (eI_ok .i64) (by decide) rfl Try.underlying32 tf3 rfl rfl rfl rfl rfl (by decide) (fun a225 c226 => ?_)
            refine sxo_app 1 (eI_ok .i64) rfl Try.underlying32 tf3 rfl rfl rfl rfl rfl (.inl ⟨0, _, rfl⟩) rfl rfl (fun x227 e227 a228 c229 => ?_)
            refine sxo_assign rfl rfl rfl ?_
            refine sxo_nil ?_
            refine sxq_blkN ?_
            exact sxq_meetP (x227, (a228, c229)) (lk_cons rfl (lk_cons rfl (lk_cons rfl (lk_cons rfl (lk_cons rfl (lk_cons rfl lk_nil)))))) (.cons 0 rfl .nil) (.cons 0 rfl (.cons 1 rfl .nil)) (fk_cons 1 rfl (fk_cons 2 rfl fk_nil))
          · refine sxc_skip ?_
            refine sxq_blkN ?_
            exact sxq_meetP (x179, (a177, c178)) (lk_cons rfl (lk_cons rfl (lk_cons rfl (lk_cons rfl (lk_cons rfl (lk_cons rfl lk_nil)))))) (.cons 0 rfl .nil) (.cons 0 rfl (.cons 0 rfl .nil)) (fk_cons 1 rfl (fk_cons 2 rfl fk_nil))
        · rintro ⟨x220, ⟨a218, c219⟩⟩
          try dsimp only
          refine sxc_region ?_
          refine sxo_add rfl rfl rfl rfl ?_
          refine sxo_move rfl rfl rfl ?_
          refine sxo_nil ?_
          exact sxq_againP ((x220, iadd .i64 x180 1), (a218, c219)) (lk_cons rfl (lk_cons rfl (lk_cons rfl (lk_cons rfl (lk_cons rfl (lk_cons rfl lk_nil)))))) (.cons 0 rfl .nil) (.cons 0 rfl (.cons 0 rfl .nil)) (fk_cons 0 rfl (fk_cons 1 rfl fk_nil))
      · refine sxc_exit ?_
        refine sxq_thenX ?_
        refine sxq_thenX ?_
        refine sxq_blkX ?_
        exact sxq_meetP (x179, (a177, c178)) (lk_cons rfl (lk_cons rfl lk_nil)) (.cons 0 rfl .nil) (.cons 0 rfl (.cons 0 rfl .nil)) fk_nil
    · rintro ⟨x151, ⟨a149, c150⟩⟩
      try dsimp only
      refine sxc_seq ?_
      refine sxc_region ?_
      refine sxo_move rfl rfl rfl ?_
      refine sxo_nilCheck rfl rfl rfl ?_
      refine sxo_fieldAddr rfl rfl ff91_0 rfl ?_
      refine sxo_loadB (i := 0) rfl rfl tf32 rfl rfl (fun _ => rfl) rfl rfl ?_
      refine sxo_move rfl rfl rfl ?_
      refine sxo_assign rfl rfl rfl ?_
      refine sxo_assign rfl rfl rfl ?_
      refine sxo_nil ?_
      refine sxq_next ?_
      refine sxc_ret ?_
      exact sxq_doneP ((a64, c65), (a149, c150)) (.inl rfl) (res2 rfl rfl rfl) (fun h => by subst h; rfl) (fun h => by subst h; exact (.cons 1 rfl (.cons 0 rfl .nil)))

theorem C_parts_Blocks (F : Nat) (x1 : List Int) (a2 : Option Addr) (c3 : Nat) (x4 : List Int) (a5 : Option Addr) (c6 : Nat) (r : (List Int × List Int × Int)) (hm : M_parts_Blocks F x1 x4 = some r) :
    Pure Try.prog 32 [.slice a2 x1.length c3, .slice a5 x4.length c6] [Sl (eI .i64) 1 (.slice a2 x1.length c3) x1, Sl (eI .i64) 1 (.slice a5 x4.length c6) x4] ((Option Addr × Nat) × (Option Addr × Nat)) (fun g => .tuple #[.slice g.1.1 r.1.length g.1.2, .slice g.2.1 r.2.1.length g.2.2, .int .i64 r.2.2]) (fun g => [Ro (eI .i64) 3 1 (.slice g.1.1 r.1.length g.1.2) r.1, Ro (eI .i64) 3 1 (.slice g.2.1 r.2.1.length g.2.2) r.2.1]) (fun _ => []) := by
  refine pure_of Try.func32 rfl Try.ntmps32 rfl hm (fun w => ?_)
  refine sxc_env (l' := [(0, .slice a2 x1.length c3), (1, .slice a5 x4.length c6)]) rfl ?_
  refine sxc_seq ?_
  refine sxc_region ?_
  refine sxo_assign rfl rfl rfl ?_
  refine sxo_assign rfl rfl rfl ?_
  refine sxo_assign rfl rfl rfl ?_
  refine sxo_nil ?_
  refine sxq_next ?_
  refine sxc_seq ?_
  refine sxc_region ?_
  refine sxo_move rfl rfl rfl ?_
  refine sxo_call ent52 rfl rfl rfl (fun x7 e7 => C_gaps_Check F x1 a2 c3 x7 e7) (.consF 0 rfl .nil) (fun x7 e7 => ?_)
  intro _
  refine sxo_assign rfl rfl rfl ?_
  refine sxo_nil ?_
  refine sxq_next ?_
  refine sxc_join (fun ((x10, _) : (Int × Unit)) => [(0, .slice a2 x1.length c3), (1, .slice a5 x4.length c6), (7, .int .i64 x10)]) (fun ((x10, _) : (Int × Unit)) => []) (fun ((x10, _) : (Int × Unit)) => []) (fun ((x10, _) : (Int × Unit)) => [Sl (eI .i64) 1 (.slice a2 x1.length c3) x1, Sl (eI .i64) 1 (.slice a5 x4.length c6) x4]) (fun ((x10, _) : (Int × Unit)) => M_parts_Blocks_j1 F x1 x4 x10) ?_ ?_
  · refine sxc_seq ?_
    refine sxc_region ?_
    refine sxo_move rfl rfl rfl ?_
    refine sxo_eql rfl rfl rfl rfl ?_
    refine sxo_nil ?_
    refine sxq_next ?_
    refine sxc_if rfl (fun h19 => ?_) (fun h19 => ?_)
    · refine sxc_region ?_
      refine sxo_move rfl rfl rfl ?_
      refine sxo_call ent52 rfl rfl rfl (fun x18 e18 => C_gaps_Check F x4 a5 c6 x18 e18) (.consF 1 rfl .nil) (fun x18 e18 => ?_)
      intro _
      refine sxo_assign rfl rfl rfl ?_
      refine sxo_nil ?_
      exact sxq_meetP (x18, ()) (lk_cons rfl (lk_cons rfl (lk_cons rfl lk_nil))) .nil .nil (fk_cons 0 rfl (fk_cons 1 rfl fk_nil))
    · refine sxc_skip ?_
      exact sxq_meetP (x7, ()) (lk_cons rfl (lk_cons rfl (lk_cons rfl lk_nil))) .nil .nil (fk_cons 0 rfl (fk_cons 1 rfl fk_nil))
  · rintro ⟨x10, _⟩
    try dsimp only
    refine sxc_seq ?_
    refine sxc_seq ?_
    refine sxc_region ?_
    refine sxo_move rfl rfl rfl ?_
    refine sxo_neq rfl rfl rfl rfl ?_
    refine sxo_nil ?_
    refine sxq_next ?_
    refine sxc_if rfl (fun h17 => ?_) (fun h17 => ?_)
    · refine sxc_seq ?_
      refine sxc_region ?_
      refine sxo_move rfl rfl rfl ?_
      refine sxo_assign rfl rfl rfl ?_
      refine sxo_assign rfl rfl rfl ?_
      refine sxo_assign rfl rfl rfl ?_
      refine sxo_nil ?_
      refine sxq_next ?_
      refine sxc_ret ?_
      refine sxq_thenR ?_
      refine sxq_nilrow Int (eI .i64) 3 1 ?_
      refine sxq_nilrow Int (eI .i64) 3 1 ?_
      exact sxq_doneP ((none, 0), (none, 0)) (.inl rfl) (res3 rfl rfl rfl rfl) (fun h => by subst h; rfl) (fun h => by subst h; exact (.cons 0 rfl (.cons 0 rfl .nil)))
    · refine sxc_skip ?_
      refine sxq_next ?_
      refine sxc_seq ?_
      refine sxc_region ?_
      refine sxo_move rfl rfl rfl ?_
      refine sxo_move rfl rfl rfl ?_
      refine sxo_call ent53 rfl rfl rfl (fun x12 e12 => C_parts_Raw F x1 a2 c3 x4 a5 c6 x12 e12) (.consF 0 rfl (.consF 1 rfl .nil)) (fun x12 e12 => ?_)
      rintro ⟨⟨a13, c14⟩, ⟨a15, c16⟩⟩
      refine sxo_move rfl rfl rfl ?_
      refine sxo_extract rfl rfl rfl rfl ?_
      refine sxo_extract rfl rfl rfl rfl ?_
      refine sxo_assign rfl rfl rfl ?_
      refine sxo_assign rfl rfl rfl ?_
      refine sxo_nil ?_
      refine sxq_next ?_
      refine sxc_seq ?_
      refine sxc_region ?_
      refine sxo_move rfl rfl rfl ?_
      refine sxo_move rfl rfl rfl ?_
      refine sxo_assign rfl rfl rfl ?_
      refine sxo_assign rfl rfl rfl ?_
      refine sxo_assign rfl rfl rfl ?_
      refine sxo_nil ?_
      refine sxq_next ?_
      refine sxc_ret ?_
      exact sxq_doneP ((a13, c14), (a15, c16)) (.inl rfl) (res3 rfl rfl rfl rfl) (fun h => by subst h; rfl) (fun h => by subst h; exact (.cons 0 rfl (.cons 0 rfl .nil)))

theorem C_parts_check (F : Nat) (x1 : List Int) (a2 : Option Addr) (c3 : Nat) (x4 : Int) (r : Int) (hm : M_parts_check F x1 x4 = some r) :
    Pure Try.prog 54 [.slice a2 x1.length c3, .int .i64 x4] [Sl (eI .i64) 1 (.slice a2 x1.length c3) x1] Unit (fun _ => .int .i64 r) (fun _ => []) (fun _ => []) := by
  refine pure_of Try.func54 rfl Try.ntmps54 rfl hm (fun w => ?_)
  refine sxc_env (l' := [(0, .slice a2 x1.length c3), (1, .int .i64 x4)]) rfl ?_
  refine sxc_seq ?_
  refine sxc_region ?_
  refine sxo_assign rfl rfl rfl ?_
  refine sxo_nil ?_
  refine sxq_next ?_
  refine sxc_seq ?_
  refine sxc_seq ?_
  refine sxc_region ?_
  refine sxo_move rfl rfl rfl ?_
  refine sxo_len rfl Try.underlying32 rfl rfl ?_
  refine sxo_move rfl rfl rfl ?_
  refine sxo_add rfl rfl rfl rfl ?_
  refine sxo_gtr rfl rfl rfl rfl ?_
  refine sxo_nil ?_
  refine sxq_next ?_
  refine sxc_if rfl (fun h195 => ?_) (fun h195 => ?_)
  · refine sxc_seq ?_
    refine sxc_region ?_
    refine sxo_assign rfl rfl rfl ?_
    refine sxo_nil ?_
    refine sxq_next ?_
    refine sxc_ret ?_
    refine sxq_thenR ?_
    exact sxq_doneP () (.inl rfl) (res1 rfl rfl) (fun h => by subst h; rfl) (fun h => by subst h; exact .nil)
  · refine sxc_skip ?_
    refine sxq_next ?_
    refine sxc_seq ?_
    refine sxc_region ?_
    refine sxo_assign rfl rfl rfl ?_
    refine sxo_nil ?_
    refine sxq_next ?_
    refine sxc_join (fun ((x99, _) : (Int × Unit)) => [(1, .int .i64 x4), (5, .int .i64 x99)]) (fun ((x99, _) : (Int × Unit)) => []) (fun ((x99, _) : (Int × Unit)) => []) (fun ((x99, _) : (Int × Unit)) => []) (fun ((x99, _) : (Int × Unit)) => M_parts_check_j14 F x4 x99) ?_ ?_
    · refine sxc_seq ?_
      refine sxc_region ?_
      refine sxo_move rfl rfl rfl ?_
      refine sxo_len rfl Try.underlying32 rfl rfl ?_
      refine sxo_move rfl rfl rfl ?_
      refine sxo_nil ?_
      refine sxq_next ?_
      refine sxc_block ?_
      refine sxc_loopP (fun (((x132, x133), _) : ((Int × Int) × Unit)) => [(1, .int .i64 x4), (5, .int .i64 x132), (13, .slice a2 x1.length c3), (14, .int .i64 (x1.length : Int)), (15, .int .i64 x133)]) (fun (((x132, x133), _) : ((Int × Int) × Unit)) => []) (fun (((x132, x133), _) : ((Int × Int) × Unit)) => []) (fun (((x132, x133), _) : ((Int × Int) × Unit)) => [Sl (eI .i64) 1 (.slice a2 x1.length c3) x1]) (fun k (s : ((Int × Int) × Unit)) => M_parts_check_l23 F x1 x4 k s.1) ((0, 0), ()) F (lk_cons rfl (lk_cons rfl (lk_cons rfl (lk_cons rfl (lk_cons rfl lk_nil))))) .nil .nil (fk_cons 0 rfl fk_nil) (fun _ => rfl) ?_
      intro k164
      rintro ⟨⟨x132, x133⟩, _⟩
      try dsimp only
      refine sxc_meq (m' := M_parts_check_b23 F x1 x4 (M_parts_check_l23 F x1 x4 k164) x132 x133) rfl ?_
      refine sxc_seq ?_
      refine sxc_region ?_
      refine sxo_lss rfl rfl rfl rfl ?_
      refine sxo_nil ?_
      refine sxq_next ?_
      refine sxc_seq ?_
      refine sxc_if rfl (fun h194 => ?_) (fun h194 => ?_)
      · refine sxc_skip ?_
        refine sxq_next ?_
        refine sxc_seq ?_
        refine sxc_block ?_
        refine sxc_seq ?_
        refine sxc_region ?_
        refine sxo_move rfl rfl rfl ?_
        refine sxo_indexF (j := 0) (eI_ok .i64) (by decide) rfl Try.underlying32 tf3 rfl rfl rfl rfl (fun x180 e180 b181 o182 => ?_)
        refine sxo_loadF (j := 0) rfl rfl tf3 rfl rfl (fun _ => rfl) rfl rfl ?_
        refine sxo_assign rfl rfl rfl ?_
        refine sxo_assign rfl rfl rfl ?_
        refine sxo_nil ?_
        refine sxq_next ?_
        refine sxc_seq ?_
        refine sxc_seq ?_
        refine sxc_region ?_
        refine sxo_move rfl rfl rfl ?_
        refine sxo_lss rfl rfl rfl rfl ?_
        refine sxo_move rfl rfl rfl ?_
        refine sxo_join 7 (fun ((x190, _) : (Bool × Unit)) => [(1, .int .i64 x4), (5, .int .i64 x132), (7, .int .i64 x180), (13, .slice a2 x1.length c3), (14, .int .i64 (x1.length : Int)), (15, .int .i64 x133), (29, .bool x190)]) (fun ((x190, _) : (Bool × Unit)) => []) (fun ((x190, _) : (Bool × Unit)) => []) (fun ((x190, _) : (Bool × Unit)) => [Sl (eI .i64) 1 (.slice a2 x1.length c3) x1]) (fun ((x190, _) : (Bool × Unit)) => M_parts_check_j27 F (M_parts_check_l23 F x1 x4 k164) x4 x132 x133 x180 x190) ?_ ?_
        · refine sxo_take (os := _) rfl ?_
          refine sxo_if (fun h188 => ?_) (fun h188 => ?_)
          · refine sxo_isT (k := 22) rfl h188 ?_
            refine sxo_skip rfl rfl rfl ?_
            refine sxo_skip rfl rfl rfl ?_
            refine sxo_skip rfl rfl rfl ?_
            refine sxo_skip rfl rfl rfl ?_
            refine sxo_skip rfl rfl rfl ?_
            refine sxo_skip rfl rfl rfl ?_
            refine sxo_pick (b := true) rfl rfl rfl rfl ?_
            refine sxo_nil ?_
            exact sxq_meetP (true, ()) (lk_cons rfl (lk_cons rfl (lk_cons rfl (lk_cons rfl (lk_cons rfl (lk_cons rfl (lk_cons rfl lk_nil))))))) .nil .nil (fk_cons 1 rfl fk_nil)
          · refine sxo_isF (k := 22) rfl h188 ?_
            refine sxo_move rfl rfl rfl ?_
            refine sxo_lss rfl rfl rfl rfl ?_
            refine sxo_move rfl rfl rfl ?_
            refine sxo_case 3 (decide (x180 < 1)) [(1, .int .i64 x4), (5, .int .i64 x132), (13, .slice a2 x1.length c3), (14, .int .i64 (x1.length : Int)), (15, .int .i64 x133), (7, .int .i64 x180), (22, .bool false), (23, .int .i64 x180), (24, .bool (decide (x180 < 1))), (25, .bool (decide (x180 < 1))), (28, .bool ((decide (x180 < 1)) && (decide (0 < x133))))] (fun h193 => ?_) (fun h193 => ?_) ?_
            · refine sxo_take (os := _) rfl ?_
              refine sxo_isT (k := 25) rfl h193 ?_
              refine sxo_move rfl rfl rfl ?_
              refine sxo_gtr rfl rfl rfl rfl ?_
              refine sxo_pick (b := true) rfl rfl rfl rfl ?_
              refine sxo_again (d := 28) (v := .bool ((decide (x180 < 1)) && (decide (0 < x133)))) rfl (by rw [h193]; simp only [Bool.true_and]) ?_
              refine sxo_again (d := 25) (v := .bool (decide (x180 < 1))) rfl (by rw [h193]) ?_
              refine sxo_nil ?_
              exact sxq_case (lk_cons rfl (lk_cons rfl (lk_cons rfl (lk_cons rfl (lk_cons rfl (lk_cons rfl (lk_cons rfl (lk_cons rfl (lk_cons rfl (lk_cons rfl (lk_cons rfl lk_nil)))))))))))
            · refine sxo_take (os := _) rfl ?_
              refine sxo_isF (k := 25) rfl h193 ?_
              refine sxo_skip rfl rfl rfl ?_
              refine sxo_skip rfl rfl rfl ?_
              refine sxo_pick (b := false) rfl rfl rfl rfl ?_
              refine sxo_again (d := 28) (v := .bool ((decide (x180 < 1)) && (decide (0 < x133)))) rfl (by rw [h193]; simp only [Bool.false_and]) ?_
              refine sxo_again (d := 25) (v := .bool (decide (x180 < 1))) rfl (by rw [h193]) ?_
              refine sxo_nil ?_
              exact sxq_case (lk_cons rfl (lk_cons rfl (lk_cons rfl (lk_cons rfl (lk_cons rfl (lk_cons rfl (lk_cons rfl (lk_cons rfl (lk_cons rfl (lk_cons rfl (lk_cons rfl lk_nil)))))))))))
            refine sxo_take (os := _) rfl ?_
            refine sxo_pick (b := false) rfl rfl rfl rfl ?_
            refine sxo_nil ?_
            exact sxq_meetP (((decide (x180 < 1)) && (decide (0 < x133))), ()) (lk_cons rfl (lk_cons rfl (lk_cons rfl (lk_cons rfl (lk_cons rfl (lk_cons rfl (lk_cons rfl lk_nil))))))) .nil .nil (fk_cons 1 rfl fk_nil)
        · rintro ⟨x190, _⟩
          try dsimp only
          refine sxo_take (os := _) rfl ?_
          refine sxo_nil ?_
          refine sxq_next ?_
          refine sxc_if rfl (fun h192 => ?_) (fun h192 => ?_)
          · refine sxc_seq ?_
            refine sxc_region ?_
            refine sxo_assign rfl rfl rfl ?_
            refine sxo_nil ?_
            refine sxq_next ?_
            refine sxc_ret ?_
            refine sxq_thenR ?_
            refine sxq_blkR ?_
            refine sxq_thenR ?_
            refine sxq_thenR ?_
            refine sxq_blkR ?_
            refine sxq_thenR ?_
            exact sxq_doneP () (.inl rfl) (res1 rfl rfl) (fun h => by subst h; rfl) (fun h => by subst h; exact .nil)
          · refine sxc_skip ?_
            refine sxq_next ?_
            refine sxc_region ?_
            refine sxo_move rfl rfl rfl ?_
            refine sxo_move rfl rfl rfl ?_
            refine sxo_move rfl rfl rfl ?_
            refine sxo_add rfl rfl rfl rfl ?_
            refine sxo_min rfl rfl rfl rfl ?_
            refine sxo_add rfl rfl rfl rfl ?_
            refine sxo_move rfl rfl rfl ?_
            refine sxo_add rfl rfl rfl rfl ?_
            refine sxo_min rfl rfl rfl rfl ?_
            refine sxo_assign rfl rfl rfl ?_
            refine sxo_lett (fun x191 e191 => ?_)
            refine sxo_again (d := 5) (v := .int .i64 x191) rfl (by rw [e191]) ?_
            refine sxo_nil ?_
            refine sxq_blkN ?_
            refine sxq_next ?_
            refine sxc_region ?_
            refine sxo_add rfl rfl rfl rfl ?_
            refine sxo_move rfl rfl rfl ?_
            refine sxo_nil ?_
            exact sxq_againP ((x191, iadd .i64 x133 1), ()) (lk_cons rfl (lk_cons rfl (lk_cons rfl (lk_cons rfl (lk_cons rfl lk_nil))))) .nil .nil (fk_cons 0 rfl fk_nil)
      · refine sxc_exit ?_
        refine sxq_thenX ?_
        refine sxq_thenX ?_
        refine sxq_blkX ?_
        exact sxq_meetP (x132, ()) (lk_cons rfl (lk_cons rfl lk_nil)) .nil .nil fk_nil
    · rintro ⟨x99, _⟩
      try dsimp only
      refine sxc_seq ?_
      refine sxc_seq ?_
      refine sxc_region ?_
      refine sxo_move rfl rfl rfl ?_
      refine sxo_move rfl rfl rfl ?_
      refine sxo_gtr rfl rfl rfl rfl ?_
      refine sxo_nil ?_
      refine sxq_next ?_
      refine sxc_if rfl (fun h101 => ?_) (fun h101 => ?_)
      · refine sxc_seq ?_
        refine sxc_region ?_
        refine sxo_assign rfl rfl rfl ?_
        refine sxo_nil ?_
        refine sxq_next ?_
        refine sxc_ret ?_
        refine sxq_thenR ?_
        exact sxq_doneP () (.inl rfl) (res1 rfl rfl) (fun h => by subst h; rfl) (fun h => by subst h; exact .nil)
      · refine sxc_skip ?_
        refine sxq_next ?_
        refine sxc_seq ?_
        refine sxc_region ?_
        refine sxo_assign rfl rfl rfl ?_
        refine sxo_nil ?_
        refine sxq_next ?_
        refine sxc_ret ?_
        exact sxq_doneP () (.inl rfl) (res1 rfl rfl) (fun h => by subst h; rfl) (fun h => by subst h; exact .nil)

theorem C_parts_copied (F : Nat) (x1 : List Int) (a2 : Option Addr) (c3 : Nat) (x4 : List Int) (a5 : Option Addr) (c6 : Nat) (r : List Int) (hm : M_parts_copied F x1 x4 = some r) :
    Pure Try.prog 55 [.slice a2 x1.length c3, .slice a5 x4.length c6] [Sl (eI .i64) 1 (.slice a2 x1.length c3) x1, Sl (eI .i64) 1 (.slice a5 x4.length c6) x4] (Option Addr × Nat) (fun g => .slice g.1 r.length g.2) (fun g => [Ro (eI .i64) 3 1 (.slice g.1 r.length g.2) r]) (fun _ => []) := by
  refine pure_of Try.func55 rfl Try.ntmps55 rfl hm (fun w => ?_)
  refine sxc_env (l' := [(0, .slice a2 x1.length c3), (1, .slice a5 x4.length c6)]) rfl ?_
  refine sxc_seq ?_
  refine sxc_region ?_
  refine sxo_assign rfl rfl rfl ?_
  refine sxo_nil ?_
  refine sxq_next ?_
  refine sxc_seq ?_
  refine sxc_region ?_
  refine sxo_assign rfl rfl rfl ?_
  refine sxo_nil ?_
  refine sxq_next ?_
  refine sxc_seq ?_
  refine sxc_region ?_
  refine sxo_assign rfl rfl rfl ?_
  refine sxo_nil ?_
  refine sxq_next ?_
  refine sxc_join (fun (((x158, x161, x162), (a156, c157, a159, c160)) : ((List Int × List Int × Bool) × (Option Addr × Nat × Option Addr × Nat))) => [(0, .slice a156 x158.length c157), (5, .slice a159 x161.length c160), (6, .bool x162)]) (fun (((x158, x161, x162), (a156, c157, a159, c160)) : ((List Int × List Int × Bool) × (Option Addr × Nat × Option Addr × Nat))) => []) (fun (((x158, x161, x162), (a156, c157, a159, c160)) : ((List Int × List Int × Bool) × (Option Addr × Nat × Option Addr × Nat))) => [Ro (eI .i64) 3 1 (.slice a159 x161.length c160) x161]) (fun (((x158, x161, x162), (a156, c157, a159, c160)) : ((List Int × List Int × Bool) × (Option Addr × Nat × Option Addr × Nat))) => [Sl (eI .i64) 1 (.slice a156 x158.length c157) x158]) (fun (((x158, x161, x162), _) : ((List Int × List Int × Bool) × (Option Addr × Nat × Option Addr × Nat))) => M_parts_copied_j6 F x158 x161 x162) ?_ ?_
  · refine sxc_seq ?_
    refine sxc_region ?_
    refine sxo_move rfl rfl rfl ?_
    refine sxo_len rfl Try.underlying32 rfl rfl ?_
    refine sxo_move rfl rfl rfl ?_
    refine sxo_nil ?_
    refine sxq_next ?_
    refine sxc_block ?_
    refine sxc_nilrow Int (eI .i64) 3 1 ?_
    refine sxc_loopP (fun (((x217, x220, x221, x222), (a215, c216, a218, c219)) : ((List Int × List Int × Bool × Int) × (Option Addr × Nat × Option Addr × Nat))) => [(0, .slice a215 x217.length c216), (5, .slice a218 x220.length c219), (6, .bool x221), (9, .slice a5 x4.length c6), (10, .int .i64 (x4.length : Int)), (11, .int .i64 x222)]) (fun (((x217, x220, x221, x222), (a215, c216, a218, c219)) : ((List Int × List Int × Bool × Int) × (Option Addr × Nat × Option Addr × Nat))) => []) (fun (((x217, x220, x221, x222), (a215, c216, a218, c219)) : ((List Int × List Int × Bool × Int) × (Option Addr × Nat × Option Addr × Nat))) => [Ro (eI .i64) 3 1 (.slice a218 x220.length c219) x220]) (fun (((x217, x220, x221, x222), (a215, c216, a218, c219)) : ((List Int × List Int × Bool × Int) × (Option Addr × Nat × Option Addr × Nat))) => [Sl (eI .i64) 1 (.slice a215 x217.length c216) x217, Sl (eI .i64) 1 (.slice a5 x4.length c6) x4]) (fun k (s : ((List Int × List Int × Bool × Int) × (Option Addr × Nat × Option Addr × Nat))) => M_parts_copied_l10 F x4 k s.1) ((x1, ([] : List Int), true, 0), (a2, c3, none, 0)) F (lk_cons rfl (lk_cons rfl (lk_cons rfl (lk_cons rfl (lk_cons rfl (lk_cons rfl lk_nil)))))) .nil (.cons 0 rfl .nil) (fk_cons 0 rfl (fk_cons 1 rfl fk_nil)) (fun _ => rfl) ?_
    intro k271
    rintro ⟨⟨x217, x220, x221, x222⟩, ⟨a215, c216, a218, c219⟩⟩
    try dsimp only
    refine sxc_meq (m' := M_parts_copied_b10 F x4 (M_parts_copied_l10 F x4 k271) x217 x220 x221 x222) rfl ?_
    refine sxc_seq ?_
    refine sxc_region ?_
    refine sxo_lss rfl rfl rfl rfl ?_
    refine sxo_nil ?_
    refine sxq_next ?_
    refine sxc_seq ?_
    refine sxc_if rfl (fun h319 => ?_) (fun h319 => ?_)
    · refine sxc_skip ?_
      refine sxq_next ?_
      refine sxc_seq ?_
      refine sxc_block ?_
      refine sxc_seq ?_
      refine sxc_region ?_
      refine sxo_indexF (j := 1) (eI_ok .i64) (by decide) rfl Try.underlying32 tf3 rfl rfl rfl rfl (fun x296 e296 b297 o298 => ?_)
      refine sxo_loadF (j := 0) rfl rfl tf3 rfl rfl (fun _ => rfl) rfl rfl ?_
      refine sxo_assign rfl rfl rfl ?_
      refine sxo_nil ?_
      refine sxq_next ?_
      refine sxc_join (fun ((x308, (a306, c307)) : (List Int × (Option Addr × Nat))) => [(0, .slice a215 x217.length c216), (5, .slice a306 x308.length c307), (6, .bool x221), (8, .int .i64 x296), (9, .slice a5 x4.length c6), (10, .int .i64 (x4.length : Int)), (11, .int .i64 x222)]) (fun ((x308, (a306, c307)) : (List Int × (Option Addr × Nat))) => []) (fun ((x308, (a306, c307)) : (List Int × (Option Addr × Nat))) => [Ro (eI .i64) 3 1 (.slice a306 x308.length c307) x308]) (fun ((x308, (a306, c307)) : (List Int × (Option Addr × Nat))) => [Sl (eI .i64) 1 (.slice a215 x217.length c216) x217, Sl (eI .i64) 1 (.slice a5 x4.length c6) x4]) (fun ((x308, _) : (List Int × (Option Addr × Nat))) => M_parts_copied_j12 F (M_parts_copied_l10 F x4 k271) x217 x221 x222 x296 x308) ?_ ?_
      · refine sxc_seq ?_
        refine sxc_region ?_
        refine sxo_move rfl rfl rfl ?_
        refine sxo_nil ?_
        refine sxq_next ?_
        refine sxc_if rfl (fun h318 => ?_) (fun h318 => ?_)
        · refine sxc_region ?_
          refine sxo_move rfl rfl rfl ?_
          refine sxo_move rfl rfl rfl ?_
          refine sxo_move rfl rfl rfl ?_
          refine sxo_cut (j := 1) (eI_ok .i64) rfl Try.underlying32 tf3 rfl rfl rfl rfl rfl (fun x312 e312 a313 c314 => ?_)
          refine sxo_app 0 (eI_ok .i64) rfl Try.underlying32 tf3 rfl rfl rfl rfl rfl (.inr ⟨0, rfl⟩) rfl rfl (fun x315 e315 a316 c317 => ?_)
          refine sxo_assign rfl rfl rfl ?_
          refine sxo_nil ?_
          exact sxq_meetP (x315, (a316, c317)) (lk_cons rfl (lk_cons rfl (lk_cons rfl (lk_cons rfl (lk_cons rfl (lk_cons rfl (lk_cons rfl lk_nil))))))) .nil (.cons 0 rfl .nil) (fk_cons 2 rfl (fk_cons 3 rfl fk_nil))
        · refine sxc_skip ?_
          exact sxq_meetP (x220, (a218, c219)) (lk_cons rfl (lk_cons rfl (lk_cons rfl (lk_cons rfl (lk_cons rfl (lk_cons rfl (lk_cons rfl lk_nil))))))) .nil (.cons 0 rfl .nil) (fk_cons 1 rfl (fk_cons 2 rfl fk_nil))
      · rintro ⟨x308, ⟨a306, c307⟩⟩
        try dsimp only
        refine sxc_region ?_
        refine sxo_move rfl rfl rfl ?_
        refine sxo_move rfl rfl rfl ?_
        refine sxo_cut (j := 0) (eI_ok .i64) rfl Try.underlying32 tf3 rfl rfl rfl rfl rfl (fun x309 e309 a310 c311 => ?_)
        refine sxo_move rfl rfl rfl ?_
        refine sxo_not rfl rfl rfl ?_
        refine sxo_assign rfl rfl rfl ?_
        refine sxo_assign rfl rfl rfl ?_
        refine sxo_nil ?_
        refine sxq_blkN ?_
        refine sxq_next ?_
        refine sxc_region ?_
        refine sxo_add rfl rfl rfl rfl ?_
        refine sxo_move rfl rfl rfl ?_
        refine sxo_nil ?_
        exact sxq_againP ((x309, x308, (!x221), iadd .i64 x222 1), (a310, c311, a306, c307)) (lk_cons rfl (lk_cons rfl (lk_cons rfl (lk_cons rfl (lk_cons rfl (lk_cons rfl lk_nil)))))) .nil (.cons 0 rfl .nil) (fk_cons 0 rfl (fk_cons 2 rfl fk_nil))
    · refine sxc_exit ?_
      refine sxq_thenX ?_
      refine sxq_thenX ?_
      refine sxq_blkX ?_
      exact sxq_meetP ((x217, x220, x221), (a215, c216, a218, c219)) (lk_cons rfl (lk_cons rfl (lk_cons rfl lk_nil))) .nil (.cons 0 rfl .nil) (fk_cons 0 rfl fk_nil)
  · rintro ⟨⟨x158, x161, x162⟩, ⟨a156, c157, a159, c160⟩⟩
    try dsimp only
    refine sxc_join (fun ((x169, (a167, c168)) : (List Int × (Option Addr × Nat))) => [(5, .slice a167 x169.length c168)]) (fun ((x169, (a167, c168)) : (List Int × (Option Addr × Nat))) => []) (fun ((x169, (a167, c168)) : (List Int × (Option Addr × Nat))) => [Ro (eI .i64) 3 1 (.slice a167 x169.length c168) x169]) (fun ((x169, (a167, c168)) : (List Int × (Option Addr × Nat))) => []) (fun ((x169, _) : (List Int × (Option Addr × Nat))) => M_parts_copied_j7 F x169) ?_ ?_
    · refine sxc_seq ?_
      refine sxc_region ?_
      refine sxo_move rfl rfl rfl ?_
      refine sxo_nil ?_
      refine sxq_next ?_
      refine sxc_if rfl (fun h173 => ?_) (fun h173 => ?_)
      · refine sxc_region ?_
        refine sxo_move rfl rfl rfl ?_
        refine sxo_move rfl rfl rfl ?_
        refine sxo_app 0 (eI_ok .i64) rfl Try.underlying32 tf3 rfl rfl rfl rfl rfl (.inr ⟨0, rfl⟩) rfl rfl (fun x170 e170 a171 c172 => ?_)
        refine sxo_assign rfl rfl rfl ?_
        refine sxo_nil ?_
        exact sxq_meetP (x170, (a171, c172)) (lk_cons rfl lk_nil) .nil (.cons 0 rfl .nil) fk_nil
      · refine sxc_skip ?_
        exact sxq_meetP (x161, (a159, c160)) (lk_cons rfl lk_nil) .nil (.cons 0 rfl .nil) fk_nil
    · rintro ⟨x169, ⟨a167, c168⟩⟩
      try dsimp only
      refine sxc_seq ?_
      refine sxc_region ?_
      refine sxo_move rfl rfl rfl ?_
      refine sxo_assign rfl rfl rfl ?_
      refine sxo_nil ?_
      refine sxq_next ?_
      refine sxc_ret ?_
      exact sxq_doneP (a167, c168) (.inl rfl) (res1 rfl rfl) (fun h => by subst h; rfl) (fun h => by subst h; exact (.cons 0 rfl .nil))

theorem C_parts_Copy (F : Nat) (x1 : List Int) (a2 : Option Addr) (c3 : Nat) (x4 : List Int) (a5 : Option Addr) (c6 : Nat) (r : (List Int × Int)) (hm : M_parts_Copy F x1 x4 = some r) :
    Pure Try.prog 33 [.slice a2 x1.length c3, .slice a5 x4.length c6] [Sl (eI .i64) 1 (.slice a2 x1.length c3) x1, Sl (eI .i64) 1 (.slice a5 x4.length c6) x4] (Option Addr × Nat) (fun g => .tuple #[.slice g.1 r.1.length g.2, .int .i64 r.2]) (fun g => [Ro (eI .i64) 3 1 (.slice g.1 r.1.length g.2) r.1]) (fun _ => []) := by
  refine pure_of Try.func33 rfl Try.ntmps33 rfl hm (fun w => ?_)
  refine sxc_env (l' := [(0, .slice a2 x1.length c3), (1, .slice a5 x4.length c6)]) rfl ?_
  refine sxc_seq ?_
  refine sxc_region ?_
  refine sxo_assign rfl rfl rfl ?_
  refine sxo_assign rfl rfl rfl ?_
  refine sxo_nil ?_
  refine sxq_next ?_
  refine sxc_seq ?_
  refine sxc_region ?_
  refine sxo_move rfl rfl rfl ?_
  refine sxo_call ent52 rfl rfl rfl (fun x7 e7 => C_gaps_Check F x1 a2 c3 x7 e7) (.consF 0 rfl .nil) (fun x7 e7 => ?_)
  intro _
  refine sxo_assign rfl rfl rfl ?_
  refine sxo_nil ?_
  refine sxq_next ?_
  refine sxc_join (fun ((x10, _) : (Int × Unit)) => [(0, .slice a2 x1.length c3), (1, .slice a5 x4.length c6), (6, .int .i64 x10)]) (fun ((x10, _) : (Int × Unit)) => []) (fun ((x10, _) : (Int × Unit)) => []) (fun ((x10, _) : (Int × Unit)) => [Sl (eI .i64) 1 (.slice a2 x1.length c3) x1, Sl (eI .i64) 1 (.slice a5 x4.length c6) x4]) (fun ((x10, _) : (Int × Unit)) => M_parts_Copy_j1 F x1 x4 x10) ?_ ?_
  · refine sxc_seq ?_
    refine sxc_region ?_
    refine sxo_move rfl rfl rfl ?_
    refine sxo_eql rfl rfl rfl rfl ?_
    refine sxo_nil ?_
    refine sxq_next ?_
    refine sxc_if rfl (fun h17 => ?_) (fun h17 => ?_)
    · refine sxc_region ?_
      refine sxo_move rfl rfl rfl ?_
      refine sxo_move rfl rfl rfl ?_
      refine sxo_len rfl Try.underlying32 rfl rfl ?_
      refine sxo_call ent54 rfl rfl rfl (fun x16 e16 => C_parts_check F x4 a5 c6 (x1.length : Int) x16 e16) (.consF 1 rfl .nil) (fun x16 e16 => ?_)
      intro _
      refine sxo_assign rfl rfl rfl ?_
      refine sxo_nil ?_
      exact sxq_meetP (x16, ()) (lk_cons rfl (lk_cons rfl (lk_cons rfl lk_nil))) .nil .nil (fk_cons 0 rfl (fk_cons 1 rfl fk_nil))
    · refine sxc_skip ?_
      exact sxq_meetP (x7, ()) (lk_cons rfl (lk_cons rfl (lk_cons rfl lk_nil))) .nil .nil (fk_cons 0 rfl (fk_cons 1 rfl fk_nil))
  · rintro ⟨x10, _⟩
    try dsimp only
    refine sxc_seq ?_
    refine sxc_seq ?_
    refine sxc_region ?_
    refine sxo_move rfl rfl rfl ?_
    refine sxo_neq rfl rfl rfl rfl ?_
    refine sxo_nil ?_
    refine sxq_next ?_
    refine sxc_if rfl (fun h15 => ?_) (fun h15 => ?_)
    · refine sxc_seq ?_
      refine sxc_region ?_
      refine sxo_move rfl rfl rfl ?_
      refine sxo_assign rfl rfl rfl ?_
      refine sxo_assign rfl rfl rfl ?_
      refine sxo_nil ?_
      refine sxq_next ?_
      refine sxc_ret ?_
      refine sxq_thenR ?_
      refine sxq_nilrow Int (eI .i64) 3 1 ?_
      exact sxq_doneP (none, 0) (.inl rfl) (res2 rfl rfl rfl) (fun h => by subst h; rfl) (fun h => by subst h; exact (.cons 0 rfl .nil))
    · refine sxc_skip ?_
      refine sxq_next ?_
      refine sxc_seq ?_
      refine sxc_region ?_
      refine sxo_move rfl rfl rfl ?_
      refine sxo_move rfl rfl rfl ?_
      refine sxo_call ent55 rfl rfl rfl (fun x12 e12 => C_parts_copied F x1 a2 c3 x4 a5 c6 x12 e12) (.consF 0 rfl (.consF 1 rfl .nil)) (fun x12 e12 => ?_)
      rintro ⟨a13, c14⟩
      refine sxo_assign rfl rfl rfl ?_
      refine sxo_assign rfl rfl rfl ?_
      refine sxo_nil ?_
      refine sxq_next ?_
      refine sxc_ret ?_
      exact sxq_doneP (a13, c14) (.inl rfl) (res2 rfl rfl rfl) (fun h => by subst h; rfl) (fun h => by subst h; exact (.cons 0 rfl .nil))

theorem C_slices_Grow_int_int (F : Nat) (x1 : List Int) (a2 : Option Addr) (c3 : Nat) (x4 : Int) (r : List Int) (hm : M_slices_Grow_int_int F x1 c3 x4 = some r) :
    PureM Try.prog 71 [.slice a2 x1.length c3, .int .i64 x4] [] [Ro (eI .i64) 3 1 (.slice a2 x1.length c3) x1] [] (Option Addr × Nat) (fun g => .slice g.1 r.length g.2) (fun _ => []) (fun g => [Ro (eI .i64) 3 1 (.slice g.1 r.length g.2) r]) := by
  refine pureM_of Try.func71 rfl Try.ntmps71 rfl hm (fun w => ?_)
  refine sxc_env (l' := [(0, .slice a2 x1.length c3), (1, .int .i64 x4)]) rfl ?_
  refine sxc_seq ?_
  refine sxc_region ?_
  refine sxo_assign rfl rfl rfl ?_
  refine sxo_nil ?_
  refine sxq_next ?_
  refine sxc_seq ?_
  refine sxc_seq ?_
  refine sxc_region ?_
  refine sxo_move rfl rfl rfl ?_
  refine sxo_lss rfl rfl rfl rfl ?_
  refine sxo_nil ?_
  refine sxq_next ?_
  refine sxc_if rfl (fun h23 => ?_) (fun h23 => ?_)
  · exact sxc_none
  · refine sxc_skip ?_
    refine sxq_next ?_
    refine sxc_join (fun ((x15, (a13, c14)) : (List Int × (Option Addr × Nat))) => [(0, .slice a13 x15.length c14)]) (fun ((x15, (a13, c14)) : (List Int × (Option Addr × Nat))) => []) (fun ((x15, (a13, c14)) : (List Int × (Option Addr × Nat))) => [Ro (eI .i64) 3 1 (.slice a13 x15.length c14) x15]) (fun ((x15, (a13, c14)) : (List Int × (Option Addr × Nat))) => []) (fun ((x15, _) : (List Int × (Option Addr × Nat))) => M_slices_Grow_int_int_j1 F x15) ?_ ?_
    · refine sxc_seq ?_
      refine sxc_region ?_
      refine sxo_move rfl rfl rfl ?_
      refine sxo_move rfl rfl rfl ?_
      refine sxo_cap rfl Try.underlying32 rfl rfl ?_
      refine sxo_move rfl rfl rfl ?_
      refine sxo_len rfl Try.underlying32 rfl rfl ?_
      refine sxo_sub rfl rfl rfl rfl ?_
      refine sxo_sub rfl rfl rfl rfl ?_
      refine sxo_assign rfl rfl rfl ?_
      refine sxo_lett (fun x16 e16 => ?_)
      refine sxo_again (d := 1) (v := .int .i64 x16) rfl (by rw [e16]) ?_
      refine sxo_nil ?_
      refine sxq_next ?_
      refine sxc_seq ?_
      refine sxc_region ?_
      refine sxo_move rfl rfl rfl ?_
      refine sxo_gtr rfl rfl rfl rfl ?_
      refine sxo_nil ?_
      refine sxq_next ?_
      refine sxc_if rfl (fun h22 => ?_) (fun h22 => ?_)
      · refine sxc_region ?_
        refine sxo_move rfl rfl rfl ?_
        refine sxo_move rfl rfl rfl ?_
        refine sxo_cap rfl Try.underlying32 rfl rfl ?_
        refine sxo_cutR (i := 0) (eI_ok .i64) rfl Try.underlying32 tf3 rfl rfl rfl rfl (fun x17 e17 => ?_)
        refine sxo_move rfl rfl rfl ?_
        refine sxo_appZ (y := (0 : Int)) 0 (eI_ok .i64) rfl Try.underlying32 Try.underlying3 tf3 rfl rfl rfl rfl rfl rfl rfl rfl rfl (fun x18 e18 a19 c20 => ?_)
        refine sxo_move rfl rfl rfl ?_
        refine sxo_len rfl Try.underlying32 rfl rfl ?_
        refine sxo_cutR (i := 0) (eI_ok .i64) rfl Try.underlying32 tf3 rfl rfl rfl rfl (fun x21 e21 => ?_)
        refine sxo_assign rfl rfl rfl ?_
        refine sxo_nil ?_
        exact sxq_meetP (x21, (a19, c20)) (lk_cons rfl lk_nil) .nil (.cons 0 rfl .nil) fk_nil
      · refine sxc_skip ?_
        exact sxq_meetP (x1, (a2, c3)) (lk_cons rfl lk_nil) .nil (.cons 0 rfl .nil) fk_nil
    · rintro ⟨x15, ⟨a13, c14⟩⟩
      try dsimp only
      refine sxc_seq ?_
      refine sxc_region ?_
      refine sxo_move rfl rfl rfl ?_
      refine sxo_assign rfl rfl rfl ?_
      refine sxo_nil ?_
      refine sxq_next ?_
      refine sxc_ret ?_
      exact sxq_doneM (a13, c14) (.inl rfl) (res1 rfl rfl) (fun h => by subst h; rfl) (fun h => by subst h; exact .nil) (fun h => by subst h; exact (.cons 0 rfl .nil))

theorem C_slices_Concat_int_int (F : Nat) (x1 : List (List Int)) (a2 : Option Addr) (c3 : (Nat × List (Option Addr × Nat))) (r : List Int) (hm : M_slices_Concat_int_int F x1 = some r) :
    Pure Try.prog 56 [.slice a2 x1.length c3.1] [SlN eN32 iN32 1 (.slice a2 x1.length c3.1) x1 c3.2] (Option Addr × Nat) (fun g => .slice g.1 r.length g.2) (fun g => [Ro (eI .i64) 3 1 (.slice g.1 r.length g.2) r]) (fun _ => []) := by
  refine pure_of Try.func56 rfl Try.ntmps56 rfl hm (fun w => ?_)
  refine sxc_env (l' := [(0, .slice a2 x1.length c3.1)]) rfl ?_
  refine sxc_seq ?_
  refine sxc_region ?_
  refine sxo_assign rfl rfl rfl ?_
  refine sxo_nil ?_
  refine sxq_next ?_
  refine sxc_seq ?_
  refine sxc_region ?_
  refine sxo_assign rfl rfl rfl ?_
  refine sxo_nil ?_
  refine sxq_next ?_
  refine sxc_join (fun ((x43, _) : (Int × Unit)) => [(0, .slice a2 x1.length c3.1), (3, .int .i64 x43)]) (fun ((x43, _) : (Int × Unit)) => []) (fun ((x43, _) : (Int × Unit)) => []) (fun ((x43, _) : (Int × Unit)) => [SlN eN32 iN32 1 (.slice a2 x1.length c3.1) x1 c3.2]) (fun ((x43, _) : (Int × Unit)) => M_slices_Concat_int_int_j2 F x1 x43) ?_ ?_
  · refine sxc_seq ?_
    refine sxc_region ?_
    refine sxo_move rfl rfl rfl ?_
    refine sxo_len rfl Try.underlying22 rfl rfl ?_
    refine sxo_move rfl rfl rfl ?_
    refine sxo_nil ?_
    refine sxq_next ?_
    refine sxc_block ?_
    refine sxc_loopP (fun (((x168, x169), _) : ((Int × Int) × Unit)) => [(0, .slice a2 x1.length c3.1), (3, .int .i64 x168), (9, .slice a2 x1.length c3.1), (10, .int .i64 (x1.length : Int)), (11, .int .i64 x169)]) (fun (((x168, x169), _) : ((Int × Int) × Unit)) => []) (fun (((x168, x169), _) : ((Int × Int) × Unit)) => []) (fun (((x168, x169), _) : ((Int × Int) × Unit)) => [SlN eN32 iN32 1 (.slice a2 x1.length c3.1) x1 c3.2]) (fun k (s : ((Int × Int) × Unit)) => M_slices_Concat_int_int_l6 F x1 k s.1) ((0, 0), ()) F (lk_cons rfl (lk_cons rfl (lk_cons rfl (lk_cons rfl (lk_cons rfl lk_nil))))) .nil .nil (fk_cons 0 rfl fk_nil) (fun _ => rfl) ?_
    intro k182
    rintro ⟨⟨x168, x169⟩, _⟩
    try dsimp only
    refine sxc_meq (m' := M_slices_Concat_int_int_b6 F x1 (M_slices_Concat_int_int_l6 F x1 k182) x168 x169) rfl ?_
    refine sxc_seq ?_
    refine sxc_region ?_
    refine sxo_lss rfl rfl rfl rfl ?_
    refine sxo_nil ?_
    refine sxq_next ?_
    refine sxc_seq ?_
    refine sxc_if rfl (fun h194 => ?_) (fun h194 => ?_)
    · refine sxc_skip ?_
      refine sxq_next ?_
      refine sxc_seq ?_
      refine sxc_block ?_
      refine sxc_seq ?_
      refine sxc_region ?_
      refine sxo_indexN (j := 0) eN32_ok (by decide) rfl Try.underlying22 tf32 rfl rfl rfl rfl (fun x189 e189 g192 b190 o191 => ?_)
      refine sxo_loadF (j := 0) rfl rfl tf32 rfl rfl (fun _ => rfl) rfl rfl ?_
      refine sxo_assign rfl rfl rfl ?_
      refine sxo_nil ?_
      refine sxq_next ?_
      refine sxc_seq ?_
      refine sxc_region ?_
      refine sxo_move rfl rfl rfl ?_
      refine sxo_move rfl rfl rfl ?_
      refine sxo_len rfl Try.underlying32 rfl rfl ?_
      refine sxo_add rfl rfl rfl rfl ?_
      refine sxo_assign rfl rfl rfl ?_
      refine sxo_nil ?_
      refine sxq_next ?_
      refine sxc_seq ?_
      refine sxc_region ?_
      refine sxo_move rfl rfl rfl ?_
      refine sxo_lss rfl rfl rfl rfl ?_
      refine sxo_nil ?_
      refine sxq_next ?_
      refine sxc_if rfl (fun h193 => ?_) (fun h193 => ?_)
      · exact sxc_none
      · refine sxc_skip ?_
        refine sxq_blkN ?_
        refine sxq_next ?_
        refine sxc_region ?_
        refine sxo_add rfl rfl rfl rfl ?_
        refine sxo_move rfl rfl rfl ?_
        refine sxo_nil ?_
        exact sxq_againP ((iadd .i64 x168 (x189.length : Int), iadd .i64 x169 1), ()) (lk_cons rfl (lk_cons rfl (lk_cons rfl (lk_cons rfl (lk_cons rfl lk_nil))))) .nil .nil (fk_cons 2 rfl fk_nil)
    · refine sxc_exit ?_
      refine sxq_thenX ?_
      refine sxq_thenX ?_
      refine sxq_blkX ?_
      exact sxq_meetP (x168, ()) (lk_cons rfl (lk_cons rfl lk_nil)) .nil .nil (fk_cons 0 rfl fk_nil)
  · rintro ⟨x43, _⟩
    try dsimp only
    refine sxc_seq ?_
    refine sxc_region ?_
    refine sxo_move rfl rfl rfl ?_
    refine sxo_nilrow' Int (eI .i64) 3 1 ?_
    refine sxo_callM ent71 rfl rfl rfl (fun x44 e44 => C_slices_Grow_int_int F ([] : List Int) none 0 x43 x44 e44) .nil (.cons 0 rfl .nil) .nil (fun x44 e44 => ?_)
    rintro ⟨a45, c46⟩
    refine sxo_assign rfl rfl rfl ?_
    refine sxo_nil ?_
    refine sxq_next ?_
    refine sxc_join (fun ((x102, (a100, c101)) : (List Int × (Option Addr × Nat))) => [(6, .slice a100 x102.length c101)]) (fun ((x102, (a100, c101)) : (List Int × (Option Addr × Nat))) => []) (fun ((x102, (a100, c101)) : (List Int × (Option Addr × Nat))) => [Ro (eI .i64) 3 1 (.slice a100 x102.length c101) x102]) (fun ((x102, (a100, c101)) : (List Int × (Option Addr × Nat))) => []) (fun ((x102, _) : (List Int × (Option Addr × Nat))) => M_slices_Concat_int_int_j4 F x102) ?_ ?_
    · refine sxc_seq ?_
      refine sxc_region ?_
      refine sxo_move rfl rfl rfl ?_
      refine sxo_len rfl Try.underlying22 rfl rfl ?_
      refine sxo_move rfl rfl rfl ?_
      refine sxo_nil ?_
      refine sxq_next ?_
      refine sxc_block ?_
      refine sxc_loopP (fun (((x121, x122), (a119, c120)) : ((List Int × Int) × (Option Addr × Nat))) => [(6, .slice a119 x121.length c120), (25, .slice a2 x1.length c3.1), (26, .int .i64 (x1.length : Int)), (27, .int .i64 x122)]) (fun (((x121, x122), (a119, c120)) : ((List Int × Int) × (Option Addr × Nat))) => []) (fun (((x121, x122), (a119, c120)) : ((List Int × Int) × (Option Addr × Nat))) => [Ro (eI .i64) 3 1 (.slice a119 x121.length c120) x121]) (fun (((x121, x122), (a119, c120)) : ((List Int × Int) × (Option Addr × Nat))) => [SlN eN32 iN32 1 (.slice a2 x1.length c3.1) x1 c3.2]) (fun k (s : ((List Int × Int) × (Option Addr × Nat))) => M_slices_Concat_int_int_l5 F x1 k s.1) ((x44, 0), (a45, c46)) F (lk_cons rfl (lk_cons rfl (lk_cons rfl (lk_cons rfl lk_nil)))) .nil (.cons 0 rfl .nil) (fk_cons 0 rfl fk_nil) (fun _ => rfl) ?_
      intro k139
      rintro ⟨⟨x121, x122⟩, ⟨a119, c120⟩⟩
      try dsimp only
      refine sxc_meq (m' := M_slices_Concat_int_int_b5 F x1 (M_slices_Concat_int_int_l5 F x1 k139) x121 x122) rfl ?_
      refine sxc_seq ?_
      refine sxc_region ?_
      refine sxo_lss rfl rfl rfl rfl ?_
      refine sxo_nil ?_
      refine sxq_next ?_
      refine sxc_seq ?_
      refine sxc_if rfl (fun h155 => ?_) (fun h155 => ?_)
      · refine sxc_skip ?_
        refine sxq_next ?_
        refine sxc_seq ?_
        refine sxc_block ?_
        refine sxc_seq ?_
        refine sxc_region ?_
        refine sxo_indexN (j := 0) eN32_ok (by decide) rfl Try.underlying22 tf32 rfl rfl rfl rfl (fun x148 e148 g151 b149 o150 => ?_)
        refine sxo_loadF (j := 0) rfl rfl tf32 rfl rfl (fun _ => rfl) rfl rfl ?_
        refine sxo_assign rfl rfl rfl ?_
        refine sxo_nil ?_
        refine sxq_next ?_
        refine sxc_region ?_
        refine sxo_move rfl rfl rfl ?_
        refine sxo_move rfl rfl rfl ?_
        refine sxo_app 0 (eI_ok .i64) rfl Try.underlying32 tf3 rfl rfl rfl rfl rfl (.inr ⟨1, rfl⟩) rfl rfl (fun x152 e152 a153 c154 => ?_)
        refine sxo_assign rfl rfl rfl ?_
        refine sxo_nil ?_
        refine sxq_blkN ?_
        refine sxq_next ?_
        refine sxc_region ?_
        refine sxo_add rfl rfl rfl rfl ?_
        refine sxo_move rfl rfl rfl ?_
        refine sxo_nil ?_
        exact sxq_againP ((x152, iadd .i64 x122 1), (a153, c154)) (lk_cons rfl (lk_cons rfl (lk_cons rfl (lk_cons rfl lk_nil)))) .nil (.cons 0 rfl .nil) (fk_cons 2 rfl fk_nil)
      · refine sxc_exit ?_
        refine sxq_thenX ?_
        refine sxq_thenX ?_
        refine sxq_blkX ?_
        exact sxq_meetP (x121, (a119, c120)) (lk_cons rfl lk_nil) .nil (.cons 0 rfl .nil) fk_nil
    · rintro ⟨x102, ⟨a100, c101⟩⟩
      try dsimp only
      refine sxc_seq ?_
      refine sxc_region ?_
      refine sxo_move rfl rfl rfl ?_
      refine sxo_assign rfl rfl rfl ?_
      refine sxo_nil ?_
      refine sxq_next ?_
      refine sxc_ret ?_
      exact sxq_doneP (a100, c101) (.inl rfl) (res1 rfl rfl) (fun h => by subst h; rfl) (fun h => by subst h; exact (.cons 0 rfl .nil))

theorem C_slices_Sort_int_int (F : Nat) (x1 : List Int) (a2 : Option Addr) (c3 : Nat) (r : List Int) (hm : M_slices_Sort_int_int F x1 = some r) :
    PureM Try.prog 57 [.slice a2 x1.length c3] [] [Ro (eI .i64) 3 1 (.slice a2 x1.length c3) x1] [] Unit (fun _ => .tuple #[]) (fun _ => []) (fun _ => [Ro (eI .i64) 3 1 (.slice a2 r.length c3) r]) := by
  unfold M_slices_Sort_int_int at hm
  split at hm
  · cases hm
    exact sort_pureM Try.slices_Sort_int Try.slices_Sort_int_none (by assumption)
  · simp at hm

theorem C_slices_Compact_int_int (F : Nat) (x1 : List Int) (a2 : Option Addr) (c3 : Nat) (r : List Int) (hm : M_slices_Compact_int_int F x1 = some r) :
    PureM Try.prog 58 [.slice a2 x1.length c3] [] [Ro (eI .i64) 3 1 (.slice a2 x1.length c3) x1] [] (Option Addr × Nat) (fun g => .slice g.1 r.length g.2) (fun _ => []) (fun g => [Ro (eI .i64) 3 1 (.slice g.1 r.length g.2) r]) := by
  unfold M_slices_Compact_int_int at hm
  split at hm
  · cases hm
    exact compact_pureM Try.slices_Compact_int Try.slices_Compact_int_empty (by assumption)
  · simp at hm

theorem C_slices_Clone_int_int (F : Nat) (x1 : List Int) (a2 : Option Addr) (c3 : Nat) (r : List Int) (hm : M_slices_Clone_int_int F x1 = some r) :
    Pure Try.prog 59 [.slice a2 x1.length c3] [Sl (eI .i64) 1 (.slice a2 x1.length c3) x1] (Option Addr × Nat) (fun g => .slice g.1 r.length g.2) (fun g => [Ro (eI .i64) 3 1 (.slice g.1 r.length g.2) r]) (fun _ => []) := by
  refine pure_of Try.func59 rfl Try.ntmps59 rfl hm (fun w => ?_)
  refine sxc_env (l' := [(0, .slice a2 x1.length c3)]) rfl ?_
  refine sxc_seq ?_
  refine sxc_region ?_
  refine sxo_assign rfl rfl rfl ?_
  refine sxo_nil ?_
  refine sxq_next ?_
  refine sxc_seq ?_
  refine sxc_seq ?_
  refine sxc_region ?_
  refine sxo_move rfl rfl rfl ?_
  refine sxo_eqnil rfl Try.underlying32 rfl rfl rfl ?_
  refine sxo_nil ?_
  refine sxq_next ?_
  refine sxc_cond rfl (fun h11 => ?_) (fun h11 => ?_)
  · refine sxc_nilx 0 (eI_ok .i64) (by decide) rfl h11 (fun h12 => ?_)
    subst h12
    refine sxc_meq (m' := some ([] : List Int)) rfl ?_
    refine sxc_seq ?_
    refine sxc_region ?_
    refine sxo_assign rfl rfl rfl ?_
    refine sxo_nil ?_
    refine sxq_next ?_
    refine sxc_ret ?_
    refine sxq_thenR ?_
    refine sxq_nilrow Int (eI .i64) 3 1 ?_
    exact sxq_doneP (none, 0) (.inl rfl) (res1 rfl rfl) (fun h => by subst h; rfl) (fun h => by subst h; exact (.cons 0 rfl .nil))
  · refine sxc_skip ?_
    refine sxq_next ?_
    refine sxc_seq ?_
    refine sxc_region ?_
    refine sxo_slit (vs := []) (ys := ([] : List Int)) (eI_ok .i64) (by decide) rfl Try.underlying32 tf3 rfl rfl rfl rfl rfl (by decide) (fun a6 c7 => ?_)
    refine sxo_move rfl rfl rfl ?_
    refine sxo_app 0 (eI_ok .i64) rfl Try.underlying32 tf3 rfl rfl rfl rfl rfl (.inr ⟨0, rfl⟩) rfl rfl (fun x8 e8 a9 c10 => ?_)
    refine sxo_assign rfl rfl rfl ?_
    refine sxo_nil ?_
    refine sxq_next ?_
    refine sxc_ret ?_
    exact sxq_doneP (a9, c10) (.inl rfl) (res1 rfl rfl) (fun h => by subst h; rfl) (fun h => by subst h; exact (.cons 0 rfl .nil))

theorem C_parts_Join (F : Nat) (x1 : List Int) (a2 : Option Addr) (c3 : Nat) (x4 : List Int) (a5 : Option Addr) (c6 : Nat) (x7 : List Int) (a8 : Option Addr) (c9 : Nat) (r : (List Int × Int)) (hm : M_parts_Join F x1 x4 x7 = some r) :
    Pure Try.prog 34 [.slice a2 x1.length c3, .slice a5 x4.length c6, .slice a8 x7.length c9] [Sl (eI .i64) 1 (.slice a2 x1.length c3) x1, Sl (eI .i64) 1 (.slice a5 x4.length c6) x4, Sl (eI .i64) 1 (.slice a8 x7.length c9) x7] (Option Addr × Nat) (fun g => .tuple #[.slice g.1 r.1.length g.2, .int .i64 r.2]) (fun g => [Ro (eI .i64) 3 1 (.slice g.1 r.1.length g.2) r.1]) (fun _ => []) := by
  refine pure_of Try.func34 rfl Try.ntmps34 rfl hm (fun w => ?_)
  refine sxc_env (l' := [(0, .slice a2 x1.length c3), (1, .slice a5 x4.length c6), (2, .slice a8 x7.length c9)]) rfl ?_
  refine sxc_seq ?_
  refine sxc_region ?_
  refine sxo_assign rfl rfl rfl ?_
  refine sxo_assign rfl rfl rfl ?_
  refine sxo_nil ?_
  refine sxq_next ?_
  refine sxc_seq ?_
  refine sxc_region ?_
  refine sxo_move rfl rfl rfl ?_
  refine sxo_move rfl rfl rfl ?_
  refine sxo_call ent33 rfl rfl rfl (fun x10 e10 => C_parts_Copy F x1 a2 c3 x4 a5 c6 x10 e10) (.consF 0 rfl (.consF 1 rfl .nil)) (fun x10 e10 => ?_)
  rintro ⟨a11, c12⟩
  refine sxo_move rfl rfl rfl ?_
  refine sxo_extract rfl rfl rfl rfl ?_
  refine sxo_extract rfl rfl rfl rfl ?_
  refine sxo_assign rfl rfl rfl ?_
  refine sxo_assign rfl rfl rfl ?_
  refine sxo_nil ?_
  refine sxq_next ?_
  refine sxc_join (fun ((x15, _) : (Int × Unit)) => [(2, .slice a8 x7.length c9), (8, .slice a11 x10.1.length c12), (9, .int .i64 x15)]) (fun ((x15, _) : (Int × Unit)) => []) (fun ((x15, _) : (Int × Unit)) => [Ro (eI .i64) 3 1 (.slice a11 x10.1.length c12) x10.1]) (fun ((x15, _) : (Int × Unit)) => [Sl (eI .i64) 1 (.slice a8 x7.length c9) x7]) (fun ((x15, _) : (Int × Unit)) => M_parts_Join_j1 F x7 x10 x15) ?_ ?_
  · refine sxc_seq ?_
    refine sxc_region ?_
    refine sxo_move rfl rfl rfl ?_
    refine sxo_eql rfl rfl rfl rfl ?_
    refine sxo_nil ?_
    refine sxq_next ?_
    refine sxc_if rfl (fun h42 => ?_) (fun h42 => ?_)
    · refine sxc_region ?_
      refine sxo_move rfl rfl rfl ?_
      refine sxo_call ent52 rfl rfl rfl (fun x41 e41 => C_gaps_Check F x7 a8 c9 x41 e41) (.consF 2 rfl .nil) (fun x41 e41 => ?_)
      intro _
      refine sxo_assign rfl rfl rfl ?_
      refine sxo_nil ?_
      exact sxq_meetP (x41, ()) (lk_cons rfl (lk_cons rfl (lk_cons rfl lk_nil))) .nil (.cons 0 rfl .nil) (fk_cons 2 rfl fk_nil)
    · refine sxc_skip ?_
      exact sxq_meetP (x10.2, ()) (lk_cons rfl (lk_cons rfl (lk_cons rfl lk_nil))) .nil (.cons 0 rfl .nil) (fk_cons 2 rfl fk_nil)
  · rintro ⟨x15, _⟩
    try dsimp only
    refine sxc_seq ?_
    refine sxc_seq ?_
    refine sxc_region ?_
    refine sxo_move rfl rfl rfl ?_
    refine sxo_neq rfl rfl rfl rfl ?_
    refine sxo_nil ?_
    refine sxq_next ?_
    refine sxc_if rfl (fun h40 => ?_) (fun h40 => ?_)
    · refine sxc_seq ?_
      refine sxc_region ?_
      refine sxo_move rfl rfl rfl ?_
      refine sxo_assign rfl rfl rfl ?_
      refine sxo_assign rfl rfl rfl ?_
      refine sxo_nil ?_
      refine sxq_next ?_
      refine sxc_ret ?_
      refine sxq_thenR ?_
      refine sxq_nilrow Int (eI .i64) 3 1 ?_
      exact sxq_doneP (none, 0) (.inl rfl) (res2 rfl rfl rfl) (fun h => by subst h; rfl) (fun h => by subst h; exact (.cons 0 rfl .nil))
    · refine sxc_skip ?_
      refine sxq_next ?_
      refine sxc_seq ?_
      refine sxc_region ?_
      refine sxo_move rfl rfl rfl ?_
      refine sxo_move rfl rfl rfl ?_
      refine sxo_freeze 0 rfl ?_
      refine sxo_slit (vs := [.slice a11 x10.1.length c12, .slice a8 x7.length c9]) (ys := ([(x10.1, (a11, c12)), (x7, (a8, c9))] : List (List Int × (Option Addr × Nat)))) eN32_ok (by decide) rfl Try.underlying22 tf32 rfl rfl rfl rfl rfl (by decide) (fun a17 c18 => ?_)
      refine sxo_nestF (inn := iN32) ([x10.1, x7] : List (List Int)) ([(a11, c12), (a8, c9)] : List (Option Addr × Nat)) 0 rfl rfl (fk_cons 0 rfl (fk_cons 1 rfl fk_nil)) ?_
      refine sxo_call ent56 rfl rfl rfl (fun x19 e19 => C_slices_Concat_int_int F ([x10.1, x7] : List (List Int)) a17 (c18, ([(a11, c12), (a8, c9)] : List (Option Addr × Nat))) x19 e19) (.consF 0 rfl .nil) (fun x19 e19 => ?_)
      rintro ⟨a20, c21⟩
      refine sxo_assign rfl rfl rfl ?_
      refine sxo_nil ?_
      refine sxq_next ?_
      refine sxc_seq ?_
      refine sxc_region ?_
      refine sxo_move rfl rfl rfl ?_
      refine sxo_callM ent57 rfl rfl rfl (fun x22 e22 => C_slices_Sort_int_int F x19 a20 c21 x22 e22) .nil (.cons 0 rfl .nil) .nil (fun x22 e22 => ?_)
      intro _
      refine sxo_chk (fun h23 => ?_)
      replace h23 := of_decide_eq_true h23
      refine sxo_again (d := 10) (v := .slice a20 x22.length c21) rfl (by rw [h23]) ?_
      refine sxo_again (d := 27) (v := .slice a20 x22.length c21) rfl (by rw [h23]) ?_
      refine sxo_again (d := 28) (v := .slice a20 x22.length c21) rfl (by rw [h23]) ?_
      refine sxo_nil ?_
      refine sxq_next ?_
      refine sxc_seq ?_
      refine sxc_block ?_
      refine sxc_seq ?_
      refine sxc_region ?_
      refine sxo_move rfl rfl rfl ?_
      refine sxo_call ent59 rfl rfl rfl (fun x32 e32 => C_slices_Clone_int_int F x22 a20 c21 x32 e32) (.consR 0 (Ro (eI .i64) 3 1 (.slice a20 x22.length c21) x22) rfl .nil) (fun x32 e32 => ?_)
      rintro ⟨a33, c34⟩
      refine sxo_callM ent58 rfl rfl rfl (fun x35 e35 => C_slices_Compact_int_int F x32 a33 c34 x35 e35) .nil (.cons 0 rfl .nil) .nil (fun x35 e35 => ?_)
      rintro ⟨a36, c37⟩
      refine sxo_len rfl Try.underlying32 rfl rfl ?_
      refine sxo_move rfl rfl rfl ?_
      refine sxo_len rfl Try.underlying32 rfl rfl ?_
      refine sxo_lss rfl rfl rfl rfl ?_
      refine sxo_assign rfl rfl rfl ?_
      refine sxo_nil ?_
      refine sxq_next ?_
      refine sxc_if rfl (fun h39 => ?_) (fun h39 => ?_)
      · refine sxc_seq ?_
        refine sxc_region ?_
        refine sxo_assign rfl rfl rfl ?_
        refine sxo_assign rfl rfl rfl ?_
        refine sxo_nil ?_
        refine sxq_next ?_
        refine sxc_ret ?_
        refine sxq_blkR ?_
        refine sxq_thenR ?_
        refine sxq_nilrow Int (eI .i64) 3 1 ?_
        exact sxq_doneP (none, 0) (.inl rfl) (res2 rfl rfl rfl) (fun h => by subst h; rfl) (fun h => by subst h; exact (.cons 0 rfl .nil))
      · refine sxc_seq ?_
        refine sxc_region ?_
        refine sxo_move rfl rfl rfl ?_
        refine sxo_len rfl Try.underlying32 rfl rfl ?_
        refine sxo_gtr rfl rfl rfl rfl ?_
        refine sxo_assign rfl rfl rfl ?_
        refine sxo_nil ?_
        refine sxq_next ?_
        refine sxc_if rfl (fun h38 => ?_) (fun h38 => ?_)
        · refine sxc_seq ?_
          refine sxc_region ?_
          refine sxo_assign rfl rfl rfl ?_
          refine sxo_assign rfl rfl rfl ?_
          refine sxo_nil ?_
          refine sxq_next ?_
          refine sxc_ret ?_
          refine sxq_blkR ?_
          refine sxq_thenR ?_
          refine sxq_nilrow Int (eI .i64) 3 1 ?_
          exact sxq_doneP (none, 0) (.inl rfl) (res2 rfl rfl rfl) (fun h => by subst h; rfl) (fun h => by subst h; exact (.cons 0 rfl .nil))
        · refine sxc_skip ?_
          refine sxq_blkN ?_
          refine sxq_next ?_
          refine sxc_seq ?_
          refine sxc_region ?_
          refine sxo_move rfl rfl rfl ?_
          refine sxo_assign rfl rfl rfl ?_
          refine sxo_assign rfl rfl rfl ?_
          refine sxo_nil ?_
          refine sxq_next ?_
          refine sxc_ret ?_
          exact sxq_doneP (a20, c21) (.inl rfl) (res2 rfl rfl rfl) (fun h => by subst h; rfl) (fun h => by subst h; exact (.cons 1 rfl .nil))

theorem C_R_between (F : Nat) (x1 : Int) (x2 : Int) (x3 : Int) (r : Bool) (hm : M_R_between F x1 x2 x3 = some r) :
    Pure Try.prog 50 [.int .i64 x1, .int .i64 x2, .int .i64 x3] [] Unit (fun _ => .bool r) (fun _ => []) (fun _ => []) := by
  refine pure_of Try.func50 rfl Try.ntmps50 rfl hm (fun w => ?_)
  refine sxc_env (l' := [(0, .int .i64 x1), (1, .int .i64 x2), (2, .int .i64 x3)]) rfl ?_
  refine sxc_seq ?_
  refine sxc_region ?_
  refine sxo_assign rfl rfl rfl ?_
  refine sxo_nil ?_
  refine sxq_next ?_
  refine sxc_seq ?_
  refine sxc_region ?_
  refine sxo_move rfl rfl rfl ?_
  refine sxo_move rfl rfl rfl ?_
  refine sxo_geq rfl rfl rfl rfl ?_
  refine sxo_move rfl rfl rfl ?_
  refine sxo_case 4 (decide (x2 ≤ x1)) [(14, .bool ((decide (x2 ≤ x1)) && (decide (x1 ≤ x3))))] (fun h4 => ?_) (fun h4 => ?_) ?_
  · refine sxo_take (os := _) rfl ?_
    refine sxo_isT (k := 10) rfl h4 ?_
    refine sxo_move rfl rfl rfl ?_
    refine sxo_move rfl rfl rfl ?_
    refine sxo_leq rfl rfl rfl rfl ?_
    refine sxo_pick (b := true) rfl rfl rfl rfl ?_
    refine sxo_again (d := 14) (v := .bool ((decide (x2 ≤ x1)) && (decide (x1 ≤ x3)))) rfl (by rw [h4]; simp only [Bool.true_and]) ?_
    refine sxo_nil ?_
    exact sxq_case (lk_cons rfl lk_nil)
  · refine sxo_take (os := _) rfl ?_
    refine sxo_isF (k := 10) rfl h4 ?_
    refine sxo_skip rfl rfl rfl ?_
    refine sxo_skip rfl rfl rfl ?_
    refine sxo_skip rfl rfl rfl ?_
    refine sxo_pick (b := false) rfl rfl rfl rfl ?_
    refine sxo_again (d := 14) (v := .bool ((decide (x2 ≤ x1)) && (decide (x1 ≤ x3)))) rfl (by rw [h4]; simp only [Bool.false_and]) ?_
    refine sxo_nil ?_
    exact sxq_case (lk_cons rfl lk_nil)
  refine sxo_take (os := _) rfl ?_
  refine sxo_assign rfl rfl rfl ?_
  refine sxo_nil ?_
  refine sxq_next ?_
  refine sxc_ret ?_
  exact sxq_doneP () (.inl rfl) (res1 rfl rfl) (fun h => by subst h; rfl) (fun h => by subst h; exact .nil)

theorem C_R_RisingCheck (F : Nat) (x1 : List Int) (a2 : Option Addr) (c3 : Nat) (r : Int) (hm : M_R_RisingCheck F x1 = some r) :
    Pure Try.prog 35 [.slice a2 x1.length c3] [Sl (eI .i64) 1 (.slice a2 x1.length c3) x1] Unit (fun _ => .int .i64 r) (fun _ => []) (fun _ => []) := by
  refine pure_of Try.func35 rfl Try.ntmps35 rfl hm (fun w => ?_)
  refine sxc_env (l' := [(0, .slice a2 x1.length c3)]) rfl ?_
  refine sxc_seq ?_
  refine sxc_region ?_
  refine sxo_assign rfl rfl rfl ?_
  refine sxo_nil ?_
  refine sxq_next ?_
  refine sxc_seq ?_
  refine sxc_seq ?_
  refine sxc_region ?_
  refine sxo_move rfl rfl rfl ?_
  refine sxo_len rfl Try.underlying32 rfl rfl ?_
  refine sxo_gtr rfl rfl rfl rfl ?_
  refine sxo_nil ?_
  refine sxq_next ?_
  refine sxc_if rfl (fun h381 => ?_) (fun h381 => ?_)
  · refine sxc_seq ?_
    refine sxc_region ?_
    refine sxo_assign rfl rfl rfl ?_
    refine sxo_nil ?_
    refine sxq_next ?_
    refine sxc_ret ?_
    refine sxq_thenR ?_
    exact sxq_doneP () (.inl rfl) (res1 rfl rfl) (fun h => by subst h; rfl) (fun h => by subst h; exact .nil)
  · refine sxc_skip ?_
    refine sxq_next ?_
    refine sxc_join (fun ((_, _) : (Unit × Unit)) => []) (fun ((_, _) : (Unit × Unit)) => []) (fun ((_, _) : (Unit × Unit)) => []) (fun ((_, _) : (Unit × Unit)) => []) (fun ((_, _) : (Unit × Unit)) => M_R_RisingCheck_j8 F) ?_ ?_
    · refine sxc_seq ?_
      refine sxc_region ?_
      refine sxo_assign rfl rfl rfl ?_
      refine sxo_nil ?_
      refine sxq_next ?_
      refine sxc_block ?_
      refine sxc_loopP (fun ((x255, _) : (Int × Unit)) => [(0, .slice a2 x1.length c3), (3, .int .i64 x255)]) (fun ((x255, _) : (Int × Unit)) => []) (fun ((x255, _) : (Int × Unit)) => []) (fun ((x255, _) : (Int × Unit)) => [Sl (eI .i64) 1 (.slice a2 x1.length c3) x1]) (fun k (s : (Int × Unit)) => M_R_RisingCheck_l13 F x1 k s.1) (0, ()) F (lk_cons rfl (lk_cons rfl lk_nil)) .nil .nil (fk_cons 0 rfl fk_nil) (fun _ => rfl) ?_
      intro k318
      rintro ⟨x255, _⟩
      try dsimp only
      refine sxc_meq (m' := M_R_RisingCheck_b13 F x1 (M_R_RisingCheck_l13 F x1 k318) x255) rfl ?_
      refine sxc_seq ?_
      refine sxc_seq ?_
      refine sxc_region ?_
      refine sxo_move rfl rfl rfl ?_
      refine sxo_move rfl rfl rfl ?_
      refine sxo_len rfl Try.underlying32 rfl rfl ?_
      refine sxo_lss rfl rfl rfl rfl ?_
      refine sxo_nil ?_
      refine sxq_next ?_
      refine sxc_if rfl (fun h380 => ?_) (fun h380 => ?_)
      · refine sxc_skip ?_
        refine sxq_next ?_
        refine sxc_seq ?_
        refine sxc_block ?_
        refine sxc_seq ?_
        refine sxc_seq ?_
        refine sxc_region ?_
        refine sxo_move rfl rfl rfl ?_
        refine sxo_move rfl rfl rfl ?_
        refine sxo_indexF (j := 0) (eI_ok .i64) (by decide) rfl Try.underlying32 tf3 rfl rfl rfl rfl (fun x355 e355 b356 o357 => ?_)
        refine sxo_loadF (j := 0) rfl rfl tf3 rfl rfl (fun _ => rfl) rfl rfl ?_
        refine sxo_call ent50 rfl rfl rfl (fun x358 e358 => C_R_between F x355 0 1048576 x358 e358) .nil (fun x358 e358 => ?_)
        intro _
        refine sxo_not rfl rfl rfl ?_
        refine sxo_nil ?_
        refine sxq_next ?_
        refine sxc_if rfl (fun h379 => ?_) (fun h379 => ?_)
        · refine sxc_seq ?_
          refine sxc_region ?_
          refine sxo_assign rfl rfl rfl ?_
          refine sxo_nil ?_
          refine sxq_next ?_
          refine sxc_ret ?_
          refine sxq_thenR ?_
          refine sxq_blkR ?_
          refine sxq_thenR ?_
          refine sxq_thenR ?_
          refine sxq_blkR ?_
          refine sxq_thenR ?_
          exact sxq_doneP () (.inl rfl) (res1 rfl rfl) (fun h => by subst h; rfl) (fun h => by subst h; exact .nil)
        · refine sxc_skip ?_
          refine sxq_next ?_
          refine sxc_join (fun ((x368, _) : (Bool × Unit)) => [(0, .slice a2 x1.length c3), (3, .int .i64 x255), (32, .bool x368)]) (fun ((x368, _) : (Bool × Unit)) => []) (fun ((x368, _) : (Bool × Unit)) => []) (fun ((x368, _) : (Bool × Unit)) => [Sl (eI .i64) 1 (.slice a2 x1.length c3) x1]) (fun ((x368, _) : (Bool × Unit)) => M_R_RisingCheck_j15 F (M_R_RisingCheck_l13 F x1 k318) x255 x368) ?_ ?_
          · refine sxc_split (fun h370 => ?_) (fun h370 => ?_)
            · refine sxc_idxF (j := 1) (eI_ok .i64) (by decide) rfl (fun x371 e371 b372 o373 h374 => ?_)
              replace h374 : a2 = some ⟨b372, o373, none⟩ := h374
              refine sxc_idxF (j := 2) (eI_ok .i64) (by decide) rfl (fun x375 e375 b376 o377 h378 => ?_)
              replace h378 : a2 = some ⟨b376, o377, none⟩ := h378
              refine sxb_draw mixed [] [] [CellsAt b376 (o377 + (isub .i64 x255 1).toNat * 1) ((eI .i64) x375), CellsAt b372 (o373 + x255.toNat * 1) ((eI .i64) x371), CellsAt b356 o357 ((eI .i64) x355), Sl (eI .i64) 1 (.slice a2 x1.length c3) x1] .nil (gk_F 0 rfl (gk_F 1 rfl (gk_F 2 rfl (gk_F 3 rfl gk_nil)))) 14 rfl ?_
              refine sxb_takeP 0 (.int .i64 x255) rfl rfl rfl rfl (by kernel_rfl) (by kernel_rfl) (by kernel_rfl) (by kernel_rfl) (by kernel_rfl) rfl (show _ = #[true, false, false, false, false, false, false, false, false, false, false, false, false, false] from rfl) (yv_pv rfl) ?_
              refine sxb_takeP 1 (.bool (decide (0 < x255))) rfl rfl rfl rfl (by kernel_rfl) (by kernel_rfl) (by kernel_rfl) (by kernel_rfl) (by kernel_rfl) rfl (show _ = #[true, true, false, false, false, false, false, false, false, false, false, false, false, false] from rfl) (yv_pv rfl) ?_
              refine sxb_takeP 2 (.bool (decide (0 < x255))) rfl rfl rfl rfl (by kernel_rfl) (by kernel_rfl) (by kernel_rfl) (by kernel_rfl) (by kernel_rfl) rfl (show _ = #[true, true, true, false, false, false, false, false, false, false, false, false, false, false] from rfl) (yv_pv rfl) ?_
              refine sxb_again (d := 21) (v := .bool true) rfl (by rw [h370]) ?_
              refine sxb_takeP 3 (.slice a2 x1.length c3) rfl rfl rfl rfl (by kernel_rfl) (by kernel_rfl) (by kernel_rfl) (by kernel_rfl) (by kernel_rfl) rfl (show _ = #[true, true, true, true, false, false, false, false, false, false, false, false, false, false] from rfl) (yv_pv rfl) ?_
              refine sxb_takeP 4 (.int .i64 x255) rfl rfl rfl rfl (by kernel_rfl) (by kernel_rfl) (by kernel_rfl) (by kernel_rfl) (by kernel_rfl) rfl (show _ = #[true, true, true, true, true, false, false, false, false, false, false, false, false, false] from rfl) (yv_pv rfl) ?_
              refine sxb_again (d := 22) (v := .slice (some ⟨b372, o373, none⟩) x1.length c3) rfl (by rw [h374]) ?_
              refine sxb_takeP 5 (.pointer (some ⟨b372, (o373 + x255.toNat * 1), none⟩)) rfl rfl rfl rfl (by kernel_rfl) (by kernel_rfl) (by kernel_rfl) (by kernel_rfl) (by kernel_rfl) rfl (show _ = #[true, true, true, true, true, true, false, false, false, false, false, false, false, false] from rfl) (yv_idx Try.underlying32 tf3 rfl rfl (idx_get e371).1 (idx_lt e371)) ?_
              refine sxb_again (d := 22) (v := .slice a2 x1.length c3) rfl (by rw [h374]) ?_
              refine sxb_take 6 (.int .i64 x371) [] rfl rfl rfl rfl (by kernel_rfl) (by kernel_rfl) (by kernel_rfl) (by kernel_rfl) (by kernel_rfl) (by kernel_rfl) rfl (show _ = #[true, true, true, true, true, true, true, false, false, false, false, false, false, false] from rfl) (yv_loadF (j := 1) rfl tf3 rfl rfl (fun _ => rfl) rfl) ?_
              refine sxb_takeP 7 (.slice a2 x1.length c3) rfl rfl rfl rfl (by kernel_rfl) (by kernel_rfl) (by kernel_rfl) (by kernel_rfl) (by kernel_rfl) rfl (show _ = #[true, true, true, true, true, true, true, true, false, false, false, false, false, false] from rfl) (yv_pv rfl) ?_
              refine sxb_takeP 8 (.int .i64 x255) rfl rfl rfl rfl (by kernel_rfl) (by kernel_rfl) (by kernel_rfl) (by kernel_rfl) (by kernel_rfl) rfl (show _ = #[true, true, true, true, true, true, true, true, true, false, false, false, false, false] from rfl) (yv_pv rfl) ?_
              refine sxb_takeP 9 (.int .i64 (isub .i64 x255 1)) rfl rfl rfl rfl (by kernel_rfl) (by kernel_rfl) (by kernel_rfl) (by kernel_rfl) (by kernel_rfl) rfl (show _ = #[true, true, true, true, true, true, true, true, true, true, false, false, false, false] from rfl) (yv_pv rfl) ?_
              refine sxb_again (d := 26) (v := .slice (some ⟨b376, o377, none⟩) x1.length c3) rfl (by rw [h378]) ?_
              refine sxb_takeP 10 (.pointer (some ⟨b376, (o377 + (isub .i64 x255 1).toNat * 1), none⟩)) rfl rfl rfl rfl (by kernel_rfl) (by kernel_rfl) (by kernel_rfl) (by kernel_rfl) (by kernel_rfl) rfl (show _ = #[true, true, true, true, true, true, true, true, true, true, true, false, false, false] from rfl) (yv_idx Try.underlying32 tf3 rfl rfl (idx_get e375).1 (idx_lt e375)) ?_
              refine sxb_again (d := 26) (v := .slice a2 x1.length c3) rfl (by rw [h378]) ?_
              refine sxb_take 11 (.int .i64 x375) [] rfl rfl rfl rfl (by kernel_rfl) (by kernel_rfl) (by kernel_rfl) (by kernel_rfl) (by kernel_rfl) (by kernel_rfl) rfl (show _ = #[true, true, true, true, true, true, true, true, true, true, true, true, false, false] from rfl) (yv_loadF (j := 0) rfl tf3 rfl rfl (fun _ => rfl) rfl) ?_
              refine sxb_takeP 12 (.bool (decide (x371 ≤ x375))) rfl rfl rfl rfl (by kernel_rfl) (by kernel_rfl) (by kernel_rfl) (by kernel_rfl) (by kernel_rfl) rfl (show _ = #[true, true, true, true, true, true, true, true, true, true, true, true, true, false] from rfl) (yv_pv rfl) ?_
              refine sxb_takeP 13 (.bool (decide (x371 ≤ x375))) rfl rfl rfl rfl (by kernel_rfl) (by kernel_rfl) (by kernel_rfl) (by kernel_rfl) (by kernel_rfl) rfl (show _ = #[true, true, true, true, true, true, true, true, true, true, true, true, true, true] from rfl) (yv_pv rfl) ?_
              refine sxb_done (by kernel_rfl) ?_
              refine sxq_np ?_ (by intro c h; cases h)
              exact sxq_meetP ((decide (x371 ≤ x375)), ()) (lk_cons rfl (lk_cons rfl (lk_cons rfl lk_nil))) .nil .nil (fk_cons 3 rfl fk_nil)
            · refine sxb_draw mixed [] [] [CellsAt b356 o357 ((eI .i64) x355), Sl (eI .i64) 1 (.slice a2 x1.length c3) x1] .nil (gk_F 0 rfl (gk_F 1 rfl gk_nil)) 14 rfl ?_
              refine sxb_takeP 0 (.int .i64 x255) rfl rfl rfl rfl (by kernel_rfl) (by kernel_rfl) (by kernel_rfl) (by kernel_rfl) (by kernel_rfl) rfl (show _ = #[true, false, false, false, false, false, false, false, false, false, false, false, false, false] from rfl) (yv_pv rfl) ?_
              refine sxb_takeP 1 (.bool (decide (0 < x255))) rfl rfl rfl rfl (by kernel_rfl) (by kernel_rfl) (by kernel_rfl) (by kernel_rfl) (by kernel_rfl) rfl (show _ = #[true, true, false, false, false, false, false, false, false, false, false, false, false, false] from rfl) (yv_pv rfl) ?_
              refine sxb_takeP 2 (.bool (decide (0 < x255))) rfl rfl rfl rfl (by kernel_rfl) (by kernel_rfl) (by kernel_rfl) (by kernel_rfl) (by kernel_rfl) rfl (show _ = #[true, true, true, false, false, false, false, false, false, false, false, false, false, false] from rfl) (yv_pv rfl) ?_
              refine sxb_again (d := 21) (v := .bool false) rfl (by rw [h370]) ?_
              refine sxb_skip 3 rfl rfl rfl rfl (by kernel_rfl) (by kernel_rfl) (by kernel_rfl) (by kernel_rfl) (by kernel_rfl) rfl (show _ = #[true, true, true, true, false, false, false, false, false, false, false, false, false, false] from rfl) ?_
              refine sxb_skip 4 rfl rfl rfl rfl (by kernel_rfl) (by kernel_rfl) (by kernel_rfl) (by kernel_rfl) (by kernel_rfl) rfl (show _ = #[true, true, true, true, true, false, false, false, false, false, false, false, false, false] from rfl) ?_
              refine sxb_skip 5 rfl rfl rfl rfl (by kernel_rfl) (by kernel_rfl) (by kernel_rfl) (by kernel_rfl) (by kernel_rfl) rfl (show _ = #[true, true, true, true, true, true, false, false, false, false, false, false, false, false] from rfl) ?_
              refine sxb_skip 6 rfl rfl rfl rfl (by kernel_rfl) (by kernel_rfl) (by kernel_rfl) (by kernel_rfl) (by kernel_rfl) rfl (show _ = #[true, true, true, true, true, true, true, false, false, false, false, false, false, false] from rfl) ?_
              refine sxb_skip 7 rfl rfl rfl rfl (by kernel_rfl) (by kernel_rfl) (by kernel_rfl) (by kernel_rfl) (by kernel_rfl) rfl (show _ = #[true, true, true, true, true, true, true, true, false, false, false, false, false, false] from rfl) ?_
              refine sxb_skip 8 rfl rfl rfl rfl (by kernel_rfl) (by kernel_rfl) (by kernel_rfl) (by kernel_rfl) (by kernel_rfl) rfl (show _ = #[true, true, true, true, true, true, true, true, true, false, false, false, false, false] from rfl) ?_
              refine sxb_skip 9 rfl rfl rfl rfl (by kernel_rfl) (by kernel_rfl) (by kernel_rfl) (by kernel_rfl) (by kernel_rfl) rfl (show _ = #[true, true, true, true, true, true, true, true, true, true, false, false, false, false] from rfl) ?_
              refine sxb_skip 10 rfl rfl rfl rfl (by kernel_rfl) (by kernel_rfl) (by kernel_rfl) (by kernel_rfl) (by kernel_rfl) rfl (show _ = #[true, true, true, true, true, true, true, true, true, true, true, false, false, false] from rfl) ?_
              refine sxb_skip 11 rfl rfl rfl rfl (by kernel_rfl) (by kernel_rfl) (by kernel_rfl) (by kernel_rfl) (by kernel_rfl) rfl (show _ = #[true, true, true, true, true, true, true, true, true, true, true, true, false, false] from rfl) ?_
              refine sxb_skip 12 rfl rfl rfl rfl (by kernel_rfl) (by kernel_rfl) (by kernel_rfl) (by kernel_rfl) (by kernel_rfl) rfl (show _ = #[true, true, true, true, true, true, true, true, true, true, true, true, true, false] from rfl) ?_
              refine sxb_takeP 13 (.bool false) rfl rfl rfl rfl (by kernel_rfl) (by kernel_rfl) (by kernel_rfl) (by kernel_rfl) (by kernel_rfl) rfl (show _ = #[true, true, true, true, true, true, true, true, true, true, true, true, true, true] from rfl) (yv_pv rfl) ?_
              refine sxb_done (by kernel_rfl) ?_
              refine sxq_np ?_ (by intro c h; cases h)
              exact sxq_meetP (false, ()) (lk_cons rfl (lk_cons rfl (lk_cons rfl lk_nil))) .nil .nil (fk_cons 1 rfl fk_nil)
          · rintro ⟨x368, _⟩
            try dsimp only
            refine sxc_if rfl (fun h369 => ?_) (fun h369 => ?_)
            · refine sxc_seq ?_
              refine sxc_region ?_
              refine sxo_assign rfl rfl rfl ?_
              refine sxo_nil ?_
              refine sxq_next ?_
              refine sxc_ret ?_
              refine sxq_blkR ?_
              refine sxq_thenR ?_
              refine sxq_thenR ?_
              refine sxq_blkR ?_
              refine sxq_thenR ?_
              exact sxq_doneP () (.inl rfl) (res1 rfl rfl) (fun h => by subst h; rfl) (fun h => by subst h; exact .nil)
            · refine sxc_skip ?_
              refine sxq_blkN ?_
              refine sxq_next ?_
              refine sxc_region ?_
              refine sxo_move rfl rfl rfl ?_
              refine sxo_add rfl rfl rfl rfl ?_
              refine sxo_assign rfl rfl rfl ?_
              refine sxo_nil ?_
              exact sxq_againP (iadd .i64 x255 1, ()) (lk_cons rfl (lk_cons rfl lk_nil)) .nil .nil (fk_cons 0 rfl fk_nil)
      · refine sxc_exit ?_
        refine sxq_thenX ?_
        refine sxq_thenX ?_
        refine sxq_blkX ?_
        exact sxq_meetP ((), ()) lk_nil .nil .nil fk_nil
    · rintro ⟨_, _⟩
      try dsimp only
      refine sxc_seq ?_
      refine sxc_region ?_
      refine sxo_assign rfl rfl rfl ?_
      refine sxo_nil ?_
      refine sxq_next ?_
      refine sxc_ret ?_
      exact sxq_doneP () (.inl rfl) (res1 rfl rfl) (fun h => by subst h; rfl) (fun h => by subst h; exact .nil)

theorem C_R_HasInt (F : Nat) (x1 : List Int) (a2 : Option Addr) (c3 : Nat) (x4 : Int) (r : Bool) (hm : M_R_HasInt F x1 x4 = some r) :
    Pure Try.prog 40 [.slice a2 x1.length c3, .int .i64 x4] [Sl (eI .i64) 1 (.slice a2 x1.length c3) x1] Unit (fun _ => .bool r) (fun _ => []) (fun _ => []) := by
  refine pure_of Try.func40 rfl Try.ntmps40 rfl hm (fun w => ?_)
  refine sxc_env (l' := [(0, .slice a2 x1.length c3), (1, .int .i64 x4)]) rfl ?_
  refine sxc_seq ?_
  refine sxc_region ?_
  refine sxo_assign rfl rfl rfl ?_
  refine sxo_nil ?_
  refine sxq_next ?_
  refine sxc_join (fun ((_, _) : (Unit × Unit)) => []) (fun ((_, _) : (Unit × Unit)) => []) (fun ((_, _) : (Unit × Unit)) => []) (fun ((_, _) : (Unit × Unit)) => []) (fun ((_, _) : (Unit × Unit)) => M_R_HasInt_j2 F) ?_ ?_
  · refine sxc_seq ?_
    refine sxc_region ?_
    refine sxo_assign rfl rfl rfl ?_
    refine sxo_nil ?_
    refine sxq_next ?_
    refine sxc_block ?_
    refine sxc_loopP (fun ((x47, _) : (Int × Unit)) => [(0, .slice a2 x1.length c3), (1, .int .i64 x4), (5, .int .i64 x47)]) (fun ((x47, _) : (Int × Unit)) => []) (fun ((x47, _) : (Int × Unit)) => []) (fun ((x47, _) : (Int × Unit)) => [Sl (eI .i64) 1 (.slice a2 x1.length c3) x1]) (fun k (s : (Int × Unit)) => M_R_HasInt_l3 F x1 x4 k s.1) (0, ()) F (lk_cons rfl (lk_cons rfl (lk_cons rfl lk_nil))) .nil .nil (fk_cons 0 rfl fk_nil) (fun _ => rfl) ?_
    intro k58
    rintro ⟨x47, _⟩
    try dsimp only
    refine sxc_meq (m' := M_R_HasInt_b3 F x1 x4 (M_R_HasInt_l3 F x1 x4 k58) x47) rfl ?_
    refine sxc_seq ?_
    refine sxc_seq ?_
    refine sxc_region ?_
    refine sxo_move rfl rfl rfl ?_
    refine sxo_move rfl rfl rfl ?_
    refine sxo_len rfl Try.underlying32 rfl rfl ?_
    refine sxo_lss rfl rfl rfl rfl ?_
    refine sxo_nil ?_
    refine sxq_next ?_
    refine sxc_if rfl (fun h68 => ?_) (fun h68 => ?_)
    · refine sxc_skip ?_
      refine sxq_next ?_
      refine sxc_seq ?_
      refine sxc_block ?_
      refine sxc_seq ?_
      refine sxc_region ?_
      refine sxo_move rfl rfl rfl ?_
      refine sxo_move rfl rfl rfl ?_
      refine sxo_indexF (j := 0) (eI_ok .i64) (by decide) rfl Try.underlying32 tf3 rfl rfl rfl rfl (fun x64 e64 b65 o66 => ?_)
      refine sxo_loadF (j := 0) rfl rfl tf3 rfl rfl (fun _ => rfl) rfl rfl ?_
      refine sxo_move rfl rfl rfl ?_
      refine sxo_eql rfl rfl rfl rfl ?_
      refine sxo_nil ?_
      refine sxq_next ?_
      refine sxc_if rfl (fun h67 => ?_) (fun h67 => ?_)
      · refine sxc_seq ?_
        refine sxc_region ?_
        refine sxo_assign rfl rfl rfl ?_
        refine sxo_nil ?_
        refine sxq_next ?_
        refine sxc_ret ?_
        refine sxq_blkR ?_
        refine sxq_thenR ?_
        refine sxq_thenR ?_
        refine sxq_blkR ?_
        refine sxq_thenR ?_
        exact sxq_doneP () (.inl rfl) (res1 rfl rfl) (fun h => by subst h; rfl) (fun h => by subst h; exact .nil)
      · refine sxc_skip ?_
        refine sxq_blkN ?_
        refine sxq_next ?_
        refine sxc_region ?_
        refine sxo_move rfl rfl rfl ?_
        refine sxo_add rfl rfl rfl rfl ?_
        refine sxo_assign rfl rfl rfl ?_
        refine sxo_nil ?_
        exact sxq_againP (iadd .i64 x47 1, ()) (lk_cons rfl (lk_cons rfl (lk_cons rfl lk_nil))) .nil .nil (fk_cons 1 rfl fk_nil)
    · refine sxc_exit ?_
      refine sxq_thenX ?_
      refine sxq_thenX ?_
      refine sxq_blkX ?_
      exact sxq_meetP ((), ()) lk_nil .nil .nil fk_nil
  · rintro ⟨_, _⟩
    try dsimp only
    refine sxc_seq ?_
    refine sxc_region ?_
    refine sxo_assign rfl rfl rfl ?_
    refine sxo_nil ?_
    refine sxq_next ?_
    refine sxc_ret ?_
    exact sxq_doneP () (.inl rfl) (res1 rfl rfl) (fun h => by subst h; rfl) (fun h => by subst h; exact .nil)

set_option maxHeartbeats 4000000 in
theorem C_R_PartsBlocks (F : Nat) (x1 : List Int) (a2 : Option Addr) (c3 : Nat) (x4 : List Int) (a5 : Option Addr) (c6 : Nat) (r : (List Int × List Int)) (hm : M_R_PartsBlocks F x1 x4 = some r) :
    Pure Try.prog 36 [.slice a2 x1.length c3, .slice a5 x4.length c6] [Sl (eI .i64) 1 (.slice a2 x1.length c3) x1, Sl (eI .i64) 1 (.slice a5 x4.length c6) x4] ((Option Addr × Nat) × (Option Addr × Nat)) (fun g => .tuple #[.slice g.1.1 r.1.length g.1.2, .slice g.2.1 r.2.length g.2.2]) (fun g => [Ro (eI .i64) 3 1 (.slice g.1.1 r.1.length g.1.2) r.1, Ro (eI .i64) 3 1 (.slice g.2.1 r.2.length g.2.2) r.2]) (fun _ => []) := by
  refine pure_of Try.func36 rfl Try.ntmps36 rfl hm (fun w => ?_)
  refine sxc_env (l' := [(0, .slice a2 x1.length c3), (1, .slice a5 x4.length c6)]) rfl ?_
  refine sxc_seq ?_
  refine sxc_region ?_
  refine sxo_assign rfl rfl rfl ?_
  refine sxo_assign rfl rfl rfl ?_
  refine sxo_nil ?_
  refine sxq_next ?_
  refine sxc_seq ?_
  refine sxc_region ?_
  refine sxo_assign rfl rfl rfl ?_
  refine sxo_assign rfl rfl rfl ?_
  refine sxo_nil ?_
  refine sxq_next ?_
  refine sxc_seq ?_
  refine sxc_region ?_
  refine sxo_assign rfl rfl rfl ?_
  refine sxo_nil ?_
  refine sxq_next ?_
  refine sxc_join (fun ((x210, (a208, c209)) : (List Int × (Option Addr × Nat))) => [(0, .slice a2 x1.length c3), (1, .slice a5 x4.length c6), (6, .slice a208 x210.length c209), (7, .slice none 0 0)]) (fun ((x210, (a208, c209)) : (List Int × (Option Addr × Nat))) => []) (fun ((x210, (a208, c209)) : (List Int × (Option Addr × Nat))) => [Ro (eI .i64) 3 1 (.slice a208 x210.length c209) x210]) (fun ((x210, (a208, c209)) : (List Int × (Option Addr × Nat))) => [Sl (eI .i64) 1 (.slice a2 x1.length c3) x1, Sl (eI .i64) 1 (.slice a5 x4.length c6) x4]) (fun ((x210, _) : (List Int × (Option Addr × Nat))) => M_R_PartsBlocks_j14 F x1 x4 x210) ?_ ?_
  · refine sxc_seq ?_
    refine sxc_region ?_
    refine sxo_assign rfl rfl rfl ?_
    refine sxo_nil ?_
    refine sxq_next ?_
    refine sxc_block ?_
    refine sxc_nilrow Int (eI .i64) 3 1 ?_
    refine sxc_loopP (fun (((x511, x512, x513), (a509, c510)) : ((List Int × Int × Int) × (Option Addr × Nat))) => [(0, .slice a2 x1.length c3), (1, .slice a5 x4.length c6), (6, .slice a509 x511.length c510), (7, .slice none 0 0), (8, .int .i64 x512), (9, .int .i64 x513)]) (fun (((x511, x512, x513), (a509, c510)) : ((List Int × Int × Int) × (Option Addr × Nat))) => []) (fun (((x511, x512, x513), (a509, c510)) : ((List Int × Int × Int) × (Option Addr × Nat))) => [Ro (eI .i64) 3 1 (.slice a509 x511.length c510) x511]) (fun (((x511, x512, x513), (a509, c510)) : ((List Int × Int × Int) × (Option Addr × Nat))) => [Sl (eI .i64) 1 (.slice a2 x1.length c3) x1, Sl (eI .i64) 1 (.slice a5 x4.length c6) x4]) (fun k (s : ((List Int × Int × Int) × (Option Addr × Nat))) => M_R_PartsBlocks_l33 F x1 x4 k s.1) ((([] : List Int), 0, 0), (none, 0)) F (lk_cons rfl (lk_cons rfl (lk_cons rfl (lk_cons rfl (lk_cons rfl (lk_cons rfl lk_nil)))))) .nil (.cons 0 rfl .nil) (fk_cons 0 rfl (fk_cons 1 rfl fk_nil)) (fun _ => rfl) ?_
    intro k562
    rintro ⟨⟨x511, x512, x513⟩, ⟨a509, c510⟩⟩
    try dsimp only
    refine sxc_meq (m' := M_R_PartsBlocks_b33 F x1 x4 (M_R_PartsBlocks_l33 F x1 x4 k562) x511 x512 x513) rfl ?_
    refine sxc_seq ?_
    refine sxc_seq ?_
    refine sxc_region ?_
    refine sxo_move rfl rfl rfl ?_
    refine sxo_move rfl rfl rfl ?_
    refine sxo_len rfl Try.underlying32 rfl rfl ?_
    refine sxo_lss rfl rfl rfl rfl ?_
    refine sxo_nil ?_
    refine sxq_next ?_
    refine sxc_if rfl (fun h610 => ?_) (fun h610 => ?_)
    · refine sxc_skip ?_
      refine sxq_next ?_
      refine sxc_join (fun (((x587, x588), (a585, c586)) : ((List Int × Int) × (Option Addr × Nat))) => [(0, .slice a2 x1.length c3), (1, .slice a5 x4.length c6), (6, .slice a585 x587.length c586), (7, .slice none 0 0), (8, .int .i64 x588), (9, .int .i64 x513)]) (fun (((x587, x588), (a585, c586)) : ((List Int × Int) × (Option Addr × Nat))) => []) (fun (((x587, x588), (a585, c586)) : ((List Int × Int) × (Option Addr × Nat))) => [Ro (eI .i64) 3 1 (.slice a585 x587.length c586) x587]) (fun (((x587, x588), (a585, c586)) : ((List Int × Int) × (Option Addr × Nat))) => [Sl (eI .i64) 1 (.slice a2 x1.length c3) x1, Sl (eI .i64) 1 (.slice a5 x4.length c6) x4]) (fun (((x587, x588), _) : ((List Int × Int) × (Option Addr × Nat))) => M_R_PartsBlocks_j35 F (M_R_PartsBlocks_l33 F x1 x4 k562) x513 x587 x588) ?_ ?_
      · refine sxc_block ?_
        refine sxc_seq ?_
        refine sxc_region ?_
        refine sxo_assign rfl rfl rfl ?_
        refine sxo_nil ?_
        refine sxq_next ?_
        refine sxc_join (fun ((x594, _) : (Bool × Unit)) => [(0, .slice a2 x1.length c3), (1, .slice a5 x4.length c6), (6, .slice a509 x511.length c510), (7, .slice none 0 0), (8, .int .i64 x512), (9, .int .i64 x513), (10, .bool x594)]) (fun ((x594, _) : (Bool × Unit)) => []) (fun ((x594, _) : (Bool × Unit)) => [Ro (eI .i64) 3 1 (.slice a509 x511.length c510) x511]) (fun ((x594, _) : (Bool × Unit)) => [Sl (eI .i64) 1 (.slice a2 x1.length c3) x1, Sl (eI .i64) 1 (.slice a5 x4.length c6) x4]) (fun ((x594, _) : (Bool × Unit)) => M_R_PartsBlocks_j36 F (M_R_PartsBlocks_l33 F x1 x4 k562) x1 x4 x511 x512 x513 x594) ?_ ?_
        · refine sxc_seq ?_
          refine sxc_region ?_
          refine sxo_move rfl rfl rfl ?_
          refine sxo_gtr rfl rfl rfl rfl ?_
          refine sxo_nil ?_
          refine sxq_next ?_
          refine sxc_if rfl (fun h609 => ?_) (fun h609 => ?_)
          · refine sxc_region ?_
            refine sxo_move rfl rfl rfl ?_
            refine sxo_move rfl rfl rfl ?_
            refine sxo_move rfl rfl rfl ?_
            refine sxo_sub rfl rfl rfl rfl ?_
            refine sxo_indexF (j := 0) (eI_ok .i64) (by decide) rfl Try.underlying32 tf3 rfl rfl rfl rfl (fun x605 e605 b606 o607 => ?_)
            refine sxo_loadF (j := 0) rfl rfl tf3 rfl rfl (fun _ => rfl) rfl rfl ?_
            refine sxo_call ent40 rfl rfl rfl (fun x608 e608 => C_R_HasInt F x4 a5 c6 x605 x608 e608) (.consF 2 rfl .nil) (fun x608 e608 => ?_)
            intro _
            refine sxo_assign rfl rfl rfl ?_
            refine sxo_nil ?_
            exact sxq_meetP (x608, ()) (lk_cons rfl (lk_cons rfl (lk_cons rfl (lk_cons rfl (lk_cons rfl (lk_cons rfl (lk_cons rfl lk_nil))))))) .nil (.cons 0 rfl .nil) (fk_cons 1 rfl (fk_cons 2 rfl fk_nil))
          · refine sxc_skip ?_
            exact sxq_meetP (true, ()) (lk_cons rfl (lk_cons rfl (lk_cons rfl (lk_cons rfl (lk_cons rfl (lk_cons rfl (lk_cons rfl lk_nil))))))) .nil (.cons 0 rfl .nil) (fk_cons 0 rfl (fk_cons 1 rfl fk_nil))
        · rintro ⟨x594, _⟩
          try dsimp only
          refine sxc_seq ?_
          refine sxc_region ?_
          refine sxo_move rfl rfl rfl ?_
          refine sxo_move rfl rfl rfl ?_
          refine sxo_move rfl rfl rfl ?_
          refine sxo_indexF (j := 0) (eI_ok .i64) (by decide) rfl Try.underlying32 tf3 rfl rfl rfl rfl (fun x595 e595 b596 o597 => ?_)
          refine sxo_loadF (j := 0) rfl rfl tf3 rfl rfl (fun _ => rfl) rfl rfl ?_
          refine sxo_call ent40 rfl rfl rfl (fun x598 e598 => C_R_HasInt F x4 a5 c6 x595 x598 e598) (.consF 2 rfl .nil) (fun x598 e598 => ?_)
          intro _
          refine sxo_move rfl rfl rfl ?_
          refine sxo_neb rfl Try.underlying4 rfl rfl rfl ?_
          refine sxo_nil ?_
          refine sxq_next ?_
          refine sxc_if rfl (fun h604 => ?_) (fun h604 => ?_)
          · refine sxc_seq ?_
            refine sxc_region ?_
            refine sxo_move rfl rfl rfl ?_
            refine sxo_move rfl rfl rfl ?_
            refine sxo_move rfl rfl rfl ?_
            refine sxo_sub rfl rfl rfl rfl ?_
            refine sxo_slit (vs := [.int .i64 (isub .i64 x513 x512)]) (ys := ([isub .i64 x513 x512] : List Int)) (eI_ok .i64) (by decide) rfl Try.underlying32 tf3 rfl rfl rfl rfl rfl (by decide) (fun a599 c600 => ?_)
            refine sxo_app 1 (eI_ok .i64) rfl Try.underlying32 tf3 rfl rfl rfl rfl rfl (.inl ⟨0, _, rfl⟩) rfl rfl (fun x601 e601 a602 c603 => ?_)
            refine sxo_assign rfl rfl rfl ?_
            refine sxo_nil ?_
            refine sxq_next ?_
            refine sxc_region ?_
            refine sxo_move rfl rfl rfl ?_
            refine sxo_assign rfl rfl rfl ?_
            refine sxo_nil ?_
            refine sxq_blkN ?_
            exact sxq_meetP ((x601, x513), (a602, c603)) (lk_cons rfl (lk_cons rfl (lk_cons rfl (lk_cons rfl (lk_cons rfl (lk_cons rfl lk_nil)))))) .nil (.cons 0 rfl .nil) (fk_cons 1 rfl (fk_cons 2 rfl fk_nil))
          · refine sxc_skip ?_
            refine sxq_blkN ?_
            exact sxq_meetP ((x511, x512), (a509, c510)) (lk_cons rfl (lk_cons rfl (lk_cons rfl (lk_cons rfl (lk_cons rfl (lk_cons rfl lk_nil)))))) .nil (.cons 0 rfl .nil) (fk_cons 1 rfl (fk_cons 2 rfl fk_nil))
      · rintro ⟨⟨x587, x588⟩, ⟨a585, c586⟩⟩
        try dsimp only
        refine sxc_region ?_
        refine sxo_move rfl rfl rfl ?_
        refine sxo_add rfl rfl rfl rfl ?_
        refine sxo_assign rfl rfl rfl ?_
        refine sxo_nil ?_
        exact sxq_againP ((x587, x588, iadd .i64 x513 1), (a585, c586)) (lk_cons rfl (lk_cons rfl (lk_cons rfl (lk_cons rfl (lk_cons rfl (lk_cons rfl lk_nil)))))) .nil (.cons 0 rfl .nil) (fk_cons 0 rfl (fk_cons 1 rfl fk_nil))
    · refine sxc_exit ?_
      refine sxq_thenX ?_
      refine sxq_thenX ?_
      refine sxq_blkX ?_
      exact sxq_meetP (x511, (a509, c510)) (lk_cons rfl (lk_cons rfl (lk_cons rfl (lk_cons rfl lk_nil)))) .nil (.cons 0 rfl .nil) (fk_cons 0 rfl (fk_cons 1 rfl fk_nil))
  · rintro ⟨x210, ⟨a208, c209⟩⟩
    try dsimp only
    refine sxc_join (fun ((x311, (a309, c310)) : (List Int × (Option Addr × Nat))) => [(6, .slice a208 x210.length c209), (7, .slice a309 x311.length c310)]) (fun ((x311, (a309, c310)) : (List Int × (Option Addr × Nat))) => []) (fun ((x311, (a309, c310)) : (List Int × (Option Addr × Nat))) => [Ro (eI .i64) 3 1 (.slice a208 x210.length c209) x210, Ro (eI .i64) 3 1 (.slice a309 x311.length c310) x311]) (fun ((x311, (a309, c310)) : (List Int × (Option Addr × Nat))) => []) (fun ((x311, _) : (List Int × (Option Addr × Nat))) => M_R_PartsBlocks_j19 F x210 x311) ?_ ?_
    · refine sxc_seq ?_
      refine sxc_region ?_
      refine sxo_assign rfl rfl rfl ?_
      refine sxo_nil ?_
      refine sxq_next ?_
      refine sxc_block ?_
      refine sxc_nilrow Int (eI .i64) 3 1 ?_
      refine sxc_loopP (fun (((x345, x346), (a343, c344)) : ((List Int × Int) × (Option Addr × Nat))) => [(0, .slice a2 x1.length c3), (1, .slice a5 x4.length c6), (6, .slice a208 x210.length c209), (7, .slice a343 x345.length c344), (11, .int .i64 x346)]) (fun (((x345, x346), (a343, c344)) : ((List Int × Int) × (Option Addr × Nat))) => []) (fun (((x345, x346), (a343, c344)) : ((List Int × Int) × (Option Addr × Nat))) => [Ro (eI .i64) 3 1 (.slice a208 x210.length c209) x210, Ro (eI .i64) 3 1 (.slice a343 x345.length c344) x345]) (fun (((x345, x346), (a343, c344)) : ((List Int × Int) × (Option Addr × Nat))) => [Sl (eI .i64) 1 (.slice a2 x1.length c3) x1, Sl (eI .i64) 1 (.slice a5 x4.length c6) x4]) (fun k (s : ((List Int × Int) × (Option Addr × Nat))) => M_R_PartsBlocks_l22 F x1 x4 x210 k s.1) ((([] : List Int), 0), (none, 0)) F (lk_cons rfl (lk_cons rfl (lk_cons rfl (lk_cons rfl (lk_cons rfl lk_nil))))) .nil (.cons 1 rfl (.cons 0 rfl .nil)) (fk_cons 0 rfl (fk_cons 1 rfl fk_nil)) (fun _ => rfl) ?_
      intro k378
      rintro ⟨⟨x345, x346⟩, ⟨a343, c344⟩⟩
      try dsimp only
      refine sxc_meq (m' := M_R_PartsBlocks_b22 F x1 x4 x210 (M_R_PartsBlocks_l22 F x1 x4 x210 k378) x345 x346) rfl ?_
      refine sxc_seq ?_
      refine sxc_seq ?_
      refine sxc_region ?_
      refine sxo_move rfl rfl rfl ?_
      refine sxo_move rfl rfl rfl ?_
      refine sxo_len rfl Try.underlying32 rfl rfl ?_
      refine sxo_lss rfl rfl rfl rfl ?_
      refine sxo_nil ?_
      refine sxq_next ?_
      refine sxc_if rfl (fun h409 => ?_) (fun h409 => ?_)
      · refine sxc_skip ?_
        refine sxq_next ?_
        refine sxc_join (fun ((x395, (a393, c394)) : (List Int × (Option Addr × Nat))) => [(0, .slice a2 x1.length c3), (1, .slice a5 x4.length c6), (6, .slice a208 x210.length c209), (7, .slice a393 x395.length c394), (11, .int .i64 x346)]) (fun ((x395, (a393, c394)) : (List Int × (Option Addr × Nat))) => []) (fun ((x395, (a393, c394)) : (List Int × (Option Addr × Nat))) => [Ro (eI .i64) 3 1 (.slice a208 x210.length c209) x210, Ro (eI .i64) 3 1 (.slice a393 x395.length c394) x395]) (fun ((x395, (a393, c394)) : (List Int × (Option Addr × Nat))) => [Sl (eI .i64) 1 (.slice a2 x1.length c3) x1, Sl (eI .i64) 1 (.slice a5 x4.length c6) x4]) (fun ((x395, _) : (List Int × (Option Addr × Nat))) => M_R_PartsBlocks_j23 F (M_R_PartsBlocks_l22 F x1 x4 x210 k378) x346 x395) ?_ ?_
        · refine sxc_block ?_
          refine sxc_seq ?_
          refine sxc_region ?_
          refine sxo_move rfl rfl rfl ?_
          refine sxo_move rfl rfl rfl ?_
          refine sxo_move rfl rfl rfl ?_
          refine sxo_indexF (j := 1) (eI_ok .i64) (by decide) rfl Try.underlying32 tf3 rfl rfl rfl rfl (fun x396 e396 b397 o398 => ?_)
          refine sxo_loadF (j := 0) rfl rfl tf3 rfl rfl (fun _ => rfl) rfl rfl ?_
          refine sxo_call ent40 rfl rfl rfl (fun x399 e399 => C_R_HasInt F x1 a2 c3 x396 x399 e399) (.consF 1 rfl .nil) (fun x399 e399 => ?_)
          intro _
          refine sxo_not rfl rfl rfl ?_
          refine sxo_nil ?_
          refine sxq_next ?_
          refine sxc_if rfl (fun h408 => ?_) (fun h408 => ?_)
          · refine sxc_region ?_
            refine sxo_move rfl rfl rfl ?_
            refine sxo_move rfl rfl rfl ?_
            refine sxo_move rfl rfl rfl ?_
            refine sxo_indexF (j := 2) (eI_ok .i64) (by decide) rfl Try.underlying32 tf3 rfl rfl rfl rfl (fun x400 e400 b401 o402 => ?_)
            refine sxo_loadF (j := 0) rfl rfl tf3 rfl rfl (fun _ => rfl) rfl rfl ?_
            refine sxo_slit (vs := [.int .i64 x400]) (ys := ([x400] : List Int)) (eI_ok .i64) (by decide) rfl Try.underlying32 tf3 rfl rfl rfl rfl rfl (by decide) (fun a403 c404 => ?_)
            refine sxo_app 2 (eI_ok .i64) rfl Try.underlying32 tf3 rfl rfl rfl rfl rfl (.inl ⟨0, _, rfl⟩) rfl rfl (fun x405 e405 a406 c407 => ?_)
            refine sxo_assign rfl rfl rfl ?_
            refine sxo_nil ?_
            refine sxq_blkN ?_
            exact sxq_meetP (x405, (a406, c407)) (lk_cons rfl (lk_cons rfl (lk_cons rfl (lk_cons rfl (lk_cons rfl lk_nil))))) .nil (.cons 2 rfl (.cons 0 rfl .nil)) (fk_cons 2 rfl (fk_cons 3 rfl fk_nil))
          · refine sxc_skip ?_
            refine sxq_blkN ?_
            exact sxq_meetP (x345, (a343, c344)) (lk_cons rfl (lk_cons rfl (lk_cons rfl (lk_cons rfl (lk_cons rfl lk_nil))))) .nil (.cons 0 rfl (.cons 0 rfl .nil)) (fk_cons 1 rfl (fk_cons 2 rfl fk_nil))
        · rintro ⟨x395, ⟨a393, c394⟩⟩
          try dsimp only
          refine sxc_region ?_
          refine sxo_move rfl rfl rfl ?_
          refine sxo_add rfl rfl rfl rfl ?_
          refine sxo_assign rfl rfl rfl ?_
          refine sxo_nil ?_
          exact sxq_againP ((x395, iadd .i64 x346 1), (a393, c394)) (lk_cons rfl (lk_cons rfl (lk_cons rfl (lk_cons rfl (lk_cons rfl lk_nil))))) .nil (.cons 0 rfl (.cons 0 rfl .nil)) (fk_cons 0 rfl (fk_cons 1 rfl fk_nil))
      · refine sxc_exit ?_
        refine sxq_thenX ?_
        refine sxq_thenX ?_
        refine sxq_blkX ?_
        exact sxq_meetP (x345, (a343, c344)) (lk_cons rfl (lk_cons rfl lk_nil)) .nil (.cons 0 rfl (.cons 0 rfl .nil)) fk_nil
    · rintro ⟨x311, ⟨a309, c310⟩⟩
      try dsimp only
      refine sxc_seq ?_
      refine sxc_region ?_
      refine sxo_move rfl rfl rfl ?_
      refine sxo_move rfl rfl rfl ?_
      refine sxo_assign rfl rfl rfl ?_
      refine sxo_assign rfl rfl rfl ?_
      refine sxo_nil ?_
      refine sxq_next ?_
      refine sxc_ret ?_
      exact sxq_doneP ((a208, c209), (a309, c310)) (.inl rfl) (res2 rfl rfl rfl) (fun h => by subst h; rfl) (fun h => by subst h; exact (.cons 0 rfl (.cons 0 rfl .nil)))

set_option maxHeartbeats 4000000 in
theorem C_R_PartsCopy (F : Nat) (x1 : List Int) (a2 : Option Addr) (c3 : Nat) (x4 : List Int) (a5 : Option Addr) (c6 : Nat) (r : (List Int × Int)) (hm : M_R_PartsCopy F x1 x4 = some r) :
    Pure Try.prog 37 [.slice a2 x1.length c3, .slice a5 x4.length c6] [Sl (eI .i64) 1 (.slice a2 x1.length c3) x1, Sl (eI .i64) 1 (.slice a5 x4.length c6) x4] (Option Addr × Nat) (fun g => .tuple #[.slice g.1 r.1.length g.2, .int .i64 r.2]) (fun g => [Ro (eI .i64) 3 1 (.slice g.1 r.1.length g.2) r.1]) (fun _ => []) := by
  refine pure_of Try.func37 rfl Try.ntmps37 rfl hm (fun w => ?_)
  refine sxc_env (l' := [(0, .slice a2 x1.length c3), (1, .slice a5 x4.length c6)]) rfl ?_
  refine sxc_seq ?_
  refine sxc_region ?_
  refine sxo_assign rfl rfl rfl ?_
  refine sxo_assign rfl rfl rfl ?_
  refine sxo_nil ?_
  refine sxq_next ?_
  refine sxc_seq ?_
  refine sxc_region ?_
  refine sxo_move rfl rfl rfl ?_
  refine sxo_call ent35 rfl rfl rfl (fun x7 e7 => C_R_RisingCheck F x1 a2 c3 x7 e7) (.consF 0 rfl .nil) (fun x7 e7 => ?_)
  intro _
  refine sxo_assign rfl rfl rfl ?_
  refine sxo_nil ?_
  refine sxq_next ?_
  refine sxc_seq ?_
  refine sxc_seq ?_
  refine sxc_region ?_
  refine sxo_move rfl rfl rfl ?_
  refine sxo_neq rfl rfl rfl rfl ?_
  refine sxo_nil ?_
  refine sxq_next ?_
  refine sxc_if rfl (fun h2277 => ?_) (fun h2277 => ?_)
  · refine sxc_seq ?_
    refine sxc_region ?_
    refine sxo_move rfl rfl rfl ?_
    refine sxo_assign rfl rfl rfl ?_
    refine sxo_assign rfl rfl rfl ?_
    refine sxo_nil ?_
    refine sxq_next ?_
    refine sxc_ret ?_
    refine sxq_thenR ?_
    refine sxq_nilrow Int (eI .i64) 3 1 ?_
    exact sxq_doneP (none, 0) (.inl rfl) (res2 rfl rfl rfl) (fun h => by subst h; rfl) (fun h => by subst h; exact (.cons 0 rfl .nil))
  · refine sxc_skip ?_
    refine sxq_next ?_
    refine sxc_seq ?_
    refine sxc_seq ?_
    refine sxc_region ?_
    refine sxo_move rfl rfl rfl ?_
    refine sxo_len rfl Try.underlying32 rfl rfl ?_
    refine sxo_move rfl rfl rfl ?_
    refine sxo_len rfl Try.underlying32 rfl rfl ?_
    refine sxo_add rfl rfl rfl rfl ?_
    refine sxo_gtr rfl rfl rfl rfl ?_
    refine sxo_nil ?_
    refine sxq_next ?_
    refine sxc_if rfl (fun h2276 => ?_) (fun h2276 => ?_)
    · refine sxc_seq ?_
      refine sxc_region ?_
      refine sxo_assign rfl rfl rfl ?_
      refine sxo_assign rfl rfl rfl ?_
      refine sxo_nil ?_
      refine sxq_next ?_
      refine sxc_ret ?_
      refine sxq_thenR ?_
      refine sxq_nilrow Int (eI .i64) 3 1 ?_
      exact sxq_doneP (none, 0) (.inl rfl) (res2 rfl rfl rfl) (fun h => by subst h; rfl) (fun h => by subst h; exact (.cons 0 rfl .nil))
    · refine sxc_skip ?_
      refine sxq_next ?_
      refine sxc_seq ?_
      refine sxc_region ?_
      refine sxo_assign rfl rfl rfl ?_
      refine sxo_nil ?_
      refine sxq_next ?_
      refine sxc_join (fun ((x268, _) : (Int × Unit)) => [(0, .slice a2 x1.length c3), (1, .slice a5 x4.length c6), (7, .int .i64 x268)]) (fun ((x268, _) : (Int × Unit)) => []) (fun ((x268, _) : (Int × Unit)) => []) (fun ((x268, _) : (Int × Unit)) => [Sl (eI .i64) 1 (.slice a2 x1.length c3) x1, Sl (eI .i64) 1 (.slice a5 x4.length c6) x4]) (fun ((x268, _) : (Int × Unit)) => M_R_PartsCopy_j23 F x1 x4 x268) ?_ ?_
      · refine sxc_seq ?_
        refine sxc_region ?_
        refine sxo_assign rfl rfl rfl ?_
        refine sxo_nil ?_
        refine sxq_next ?_
        refine sxc_block ?_
        refine sxc_loopP (fun (((x2103, x2104), _) : ((Int × Int) × Unit)) => [(0, .slice a2 x1.length c3), (1, .slice a5 x4.length c6), (7, .int .i64 x2103), (8, .int .i64 x2104)]) (fun (((x2103, x2104), _) : ((Int × Int) × Unit)) => []) (fun (((x2103, x2104), _) : ((Int × Int) × Unit)) => []) (fun (((x2103, x2104), _) : ((Int × Int) × Unit)) => [Sl (eI .i64) 1 (.slice a2 x1.length c3) x1, Sl (eI .i64) 1 (.slice a5 x4.length c6) x4]) (fun k (s : ((Int × Int) × Unit)) => M_R_PartsCopy_l227 F x1 x4 k s.1) ((0, 0), ()) F (lk_cons rfl (lk_cons rfl (lk_cons rfl (lk_cons rfl lk_nil)))) .nil .nil (fk_cons 0 rfl (fk_cons 1 rfl fk_nil)) (fun _ => rfl) ?_
        intro k2190
        rintro ⟨⟨x2103, x2104⟩, _⟩
        try dsimp only
        refine sxc_meq (m' := M_R_PartsCopy_b227 F x1 x4 (M_R_PartsCopy_l227 F x1 x4 k2190) x2103 x2104) rfl ?_
        refine sxc_seq ?_
        refine sxc_seq ?_
        refine sxc_region ?_
        refine sxo_move rfl rfl rfl ?_
        refine sxo_move rfl rfl rfl ?_
        refine sxo_len rfl Try.underlying32 rfl rfl ?_
        refine sxo_lss rfl rfl rfl rfl ?_
        refine sxo_nil ?_
        refine sxq_next ?_
        refine sxc_if rfl (fun h2275 => ?_) (fun h2275 => ?_)
        · refine sxc_skip ?_
          refine sxq_next ?_
          refine sxc_join (fun ((x2233, _) : (Int × Unit)) => [(0, .slice a2 x1.length c3), (1, .slice a5 x4.length c6), (7, .int .i64 x2233), (8, .int .i64 x2104)]) (fun ((x2233, _) : (Int × Unit)) => []) (fun ((x2233, _) : (Int × Unit)) => []) (fun ((x2233, _) : (Int × Unit)) => [Sl (eI .i64) 1 (.slice a2 x1.length c3) x1, Sl (eI .i64) 1 (.slice a5 x4.length c6) x4]) (fun ((x2233, _) : (Int × Unit)) => M_R_PartsCopy_j231 F (M_R_PartsCopy_l227 F x1 x4 k2190) x2104 x2233) ?_ ?_
          · refine sxc_block ?_
            refine sxc_seq ?_
            refine sxc_seq ?_
            refine sxc_region ?_
            refine sxo_move rfl rfl rfl ?_
            refine sxo_move rfl rfl rfl ?_
            refine sxo_indexF (j := 1) (eI_ok .i64) (by decide) rfl Try.underlying32 tf3 rfl rfl rfl rfl (fun x2248 e2248 b2249 o2250 => ?_)
            refine sxo_loadF (j := 0) rfl rfl tf3 rfl rfl (fun _ => rfl) rfl rfl ?_
            refine sxo_lss rfl rfl rfl rfl ?_
            refine sxo_move rfl rfl rfl ?_
            refine sxo_join 10 (fun ((x2256, _) : (Bool × Unit)) => [(0, .slice a2 x1.length c3), (1, .slice a5 x4.length c6), (7, .int .i64 x2103), (8, .int .i64 x2104), (45, .bool x2256)]) (fun ((x2256, _) : (Bool × Unit)) => []) (fun ((x2256, _) : (Bool × Unit)) => []) (fun ((x2256, _) : (Bool × Unit)) => [Sl (eI .i64) 1 (.slice a2 x1.length c3) x1, Sl (eI .i64) 1 (.slice a5 x4.length c6) x4]) (fun ((x2256, _) : (Bool × Unit)) => M_R_PartsCopy_j233 F (M_R_PartsCopy_l227 F x1 x4 k2190) x1 x4 x2103 x2104 x2256) ?_ ?_
            · refine sxo_take (os := _) rfl ?_
              refine sxo_if (fun h2251 => ?_) (fun h2251 => ?_)
              · refine sxo_isT (k := 35) rfl h2251 ?_
                refine sxo_skip rfl rfl rfl ?_
                refine sxo_skip rfl rfl rfl ?_
                refine sxo_skip rfl rfl rfl ?_
                refine sxo_skip rfl rfl rfl ?_
                refine sxo_skip rfl rfl rfl ?_
                refine sxo_skip rfl rfl rfl ?_
                refine sxo_skip rfl rfl rfl ?_
                refine sxo_skip rfl rfl rfl ?_
                refine sxo_skip rfl rfl rfl ?_
                refine sxo_pick (b := true) rfl rfl rfl rfl ?_
                refine sxo_nil ?_
                exact sxq_meetP (true, ()) (lk_cons rfl (lk_cons rfl (lk_cons rfl (lk_cons rfl (lk_cons rfl lk_nil))))) .nil .nil (fk_cons 1 rfl (fk_cons 2 rfl fk_nil))
              · refine sxo_isF (k := 35) rfl h2251 ?_
                refine sxo_move rfl rfl rfl ?_
                refine sxo_move rfl rfl rfl ?_
                refine sxo_indexF (j := 2) (eI_ok .i64) (by decide) rfl Try.underlying32 tf3 rfl rfl rfl rfl (fun x2271 e2271 b2272 o2273 => ?_)
                refine sxo_loadF (j := 0) rfl rfl tf3 rfl rfl (fun _ => rfl) rfl rfl ?_
                refine sxo_eql rfl rfl rfl rfl ?_
                refine sxo_move rfl rfl rfl ?_
                refine sxo_case 3 ((x2271 : Int) == 0) [(0, .slice a2 x1.length c3), (1, .slice a5 x4.length c6), (7, .int .i64 x2103), (8, .int .i64 x2104), (35, .bool false), (36, .slice a5 x4.length c6), (37, .int .i64 x2104), (38, .pointer (some ⟨b2272, o2273, none⟩)), (39, .int .i64 x2271), (40, .bool ((x2271 : Int) == 0)), (41, .bool ((x2271 : Int) == 0)), (44, .bool (((x2271 : Int) == 0) && (decide (0 < x2104))))] (fun h2274 => ?_) (fun h2274 => ?_) ?_
                · refine sxo_take (os := _) rfl ?_
                  refine sxo_isT (k := 41) rfl h2274 ?_
                  refine sxo_move rfl rfl rfl ?_
                  refine sxo_gtr rfl rfl rfl rfl ?_
                  refine sxo_pick (b := true) rfl rfl rfl rfl ?_
                  refine sxo_again (d := 44) (v := .bool (((x2271 : Int) == 0) && (decide (0 < x2104)))) rfl (by rw [h2274]; simp only [Bool.true_and]) ?_
                  refine sxo_again (d := 41) (v := .bool ((x2271 : Int) == 0)) rfl (by rw [h2274]) ?_
                  refine sxo_nil ?_
                  exact sxq_case (lk_cons rfl (lk_cons rfl (lk_cons rfl (lk_cons rfl (lk_cons rfl (lk_cons rfl (lk_cons rfl (lk_cons rfl (lk_cons rfl (lk_cons rfl (lk_cons rfl (lk_cons rfl lk_nil))))))))))))
                · refine sxo_take (os := _) rfl ?_
                  refine sxo_isF (k := 41) rfl h2274 ?_
                  refine sxo_skip rfl rfl rfl ?_
                  refine sxo_skip rfl rfl rfl ?_
                  refine sxo_pick (b := false) rfl rfl rfl rfl ?_
                  refine sxo_again (d := 44) (v := .bool (((x2271 : Int) == 0) && (decide (0 < x2104)))) rfl (by rw [h2274]; simp only [Bool.false_and]) ?_
                  refine sxo_again (d := 41) (v := .bool ((x2271 : Int) == 0)) rfl (by rw [h2274]) ?_
                  refine sxo_nil ?_
                  exact sxq_case (lk_cons rfl (lk_cons rfl (lk_cons rfl (lk_cons rfl (lk_cons rfl (lk_cons rfl (lk_cons rfl (lk_cons rfl (lk_cons rfl (lk_cons rfl (lk_cons rfl (lk_cons rfl lk_nil))))))))))))
                refine sxo_take (os := _) rfl ?_
                refine sxo_pick (b := false) rfl rfl rfl rfl ?_
                refine sxo_nil ?_
                exact sxq_meetP ((((x2271 : Int) == 0) && (decide (0 < x2104))), ()) (lk_cons rfl (lk_cons rfl (lk_cons rfl (lk_cons rfl (lk_cons rfl lk_nil))))) .nil .nil (fk_cons 2 rfl (fk_cons 3 rfl fk_nil))
            · rintro ⟨x2256, _⟩
              try dsimp only
              refine sxo_take (os := _) rfl ?_
              refine sxo_nil ?_
              refine sxq_next ?_
              refine sxc_if rfl (fun h2270 => ?_) (fun h2270 => ?_)
              · refine sxc_seq ?_
                refine sxc_region ?_
                refine sxo_assign rfl rfl rfl ?_
                refine sxo_assign rfl rfl rfl ?_
                refine sxo_nil ?_
                refine sxq_next ?_
                refine sxc_ret ?_
                refine sxq_thenR ?_
                refine sxq_blkR ?_
                refine sxq_thenR ?_
                refine sxq_thenR ?_
                refine sxq_blkR ?_
                refine sxq_thenR ?_
                refine sxq_nilrow Int (eI .i64) 3 1 ?_
                exact sxq_doneP (none, 0) (.inl rfl) (res2 rfl rfl rfl) (fun h => by subst h; rfl) (fun h => by subst h; exact (.cons 0 rfl .nil))
              · refine sxc_skip ?_
                refine sxq_next ?_
                refine sxc_join (fun ((x2261, _) : (Int × Unit)) => [(0, .slice a2 x1.length c3), (1, .slice a5 x4.length c6), (7, .int .i64 x2261), (8, .int .i64 x2104)]) (fun ((x2261, _) : (Int × Unit)) => []) (fun ((x2261, _) : (Int × Unit)) => []) (fun ((x2261, _) : (Int × Unit)) => [Sl (eI .i64) 1 (.slice a2 x1.length c3) x1, Sl (eI .i64) 1 (.slice a5 x4.length c6) x4]) (fun ((x2261, _) : (Int × Unit)) => M_R_PartsCopy_j234 F (M_R_PartsCopy_l227 F x1 x4 k2190) x4 x2104 x2261) ?_ ?_
                · refine sxc_seq ?_
                  refine sxc_region ?_
                  refine sxo_move rfl rfl rfl ?_
                  refine sxo_move rfl rfl rfl ?_
                  refine sxo_indexF (j := 1) (eI_ok .i64) (by decide) rfl Try.underlying32 tf3 rfl rfl rfl rfl (fun x2266 e2266 b2267 o2268 => ?_)
                  refine sxo_loadF (j := 0) rfl rfl tf3 rfl rfl (fun _ => rfl) rfl rfl ?_
                  refine sxo_move rfl rfl rfl ?_
                  refine sxo_len rfl Try.underlying32 rfl rfl ?_
                  refine sxo_gtr rfl rfl rfl rfl ?_
                  refine sxo_nil ?_
                  refine sxq_next ?_
                  refine sxc_if rfl (fun h2269 => ?_) (fun h2269 => ?_)
                  · refine sxc_region ?_
                    refine sxo_assign rfl rfl rfl ?_
                    refine sxo_nil ?_
                    exact sxq_meetP (1000, ()) (lk_cons rfl (lk_cons rfl (lk_cons rfl (lk_cons rfl lk_nil)))) .nil .nil (fk_cons 1 rfl (fk_cons 2 rfl fk_nil))
                  · refine sxc_skip ?_
                    exact sxq_meetP (x2103, ()) (lk_cons rfl (lk_cons rfl (lk_cons rfl (lk_cons rfl lk_nil)))) .nil .nil (fk_cons 1 rfl (fk_cons 2 rfl fk_nil))
                · rintro ⟨x2261, _⟩
                  try dsimp only
                  refine sxc_seq ?_
                  refine sxc_region ?_
                  refine sxo_move rfl rfl rfl ?_
                  refine sxo_lss rfl rfl rfl rfl ?_
                  refine sxo_nil ?_
                  refine sxq_next ?_
                  refine sxc_if rfl (fun h2265 => ?_) (fun h2265 => ?_)
                  · refine sxc_region ?_
                    refine sxo_move rfl rfl rfl ?_
                    refine sxo_move rfl rfl rfl ?_
                    refine sxo_move rfl rfl rfl ?_
                    refine sxo_indexF (j := 1) (eI_ok .i64) (by decide) rfl Try.underlying32 tf3 rfl rfl rfl rfl (fun x2262 e2262 b2263 o2264 => ?_)
                    refine sxo_loadF (j := 0) rfl rfl tf3 rfl rfl (fun _ => rfl) rfl rfl ?_
                    refine sxo_add rfl rfl rfl rfl ?_
                    refine sxo_assign rfl rfl rfl ?_
                    refine sxo_nil ?_
                    refine sxq_blkN ?_
                    exact sxq_meetP (iadd .i64 x2261 x2262, ()) (lk_cons rfl (lk_cons rfl (lk_cons rfl (lk_cons rfl lk_nil)))) .nil .nil (fk_cons 1 rfl (fk_cons 2 rfl fk_nil))
                  · refine sxc_skip ?_
                    refine sxq_blkN ?_
                    exact sxq_meetP (x2261, ()) (lk_cons rfl (lk_cons rfl (lk_cons rfl (lk_cons rfl lk_nil)))) .nil .nil (fk_cons 0 rfl (fk_cons 1 rfl fk_nil))
          · rintro ⟨x2233, _⟩
            try dsimp only
            refine sxc_region ?_
            refine sxo_move rfl rfl rfl ?_
            refine sxo_add rfl rfl rfl rfl ?_
            refine sxo_assign rfl rfl rfl ?_
            refine sxo_nil ?_
            exact sxq_againP ((x2233, iadd .i64 x2104 1), ()) (lk_cons rfl (lk_cons rfl (lk_cons rfl (lk_cons rfl lk_nil)))) .nil .nil (fk_cons 0 rfl (fk_cons 1 rfl fk_nil))
        · refine sxc_exit ?_
          refine sxq_thenX ?_
          refine sxq_thenX ?_
          refine sxq_blkX ?_
          exact sxq_meetP (x2103, ()) (lk_cons rfl (lk_cons rfl (lk_cons rfl lk_nil))) .nil .nil (fk_cons 0 rfl (fk_cons 1 rfl fk_nil))
      · rintro ⟨x268, _⟩
        try dsimp only
        refine sxc_seq ?_
        refine sxc_seq ?_
        refine sxc_region ?_
        refine sxo_move rfl rfl rfl ?_
        refine sxo_move rfl rfl rfl ?_
        refine sxo_len rfl Try.underlying32 rfl rfl ?_
        refine sxo_gtr rfl rfl rfl rfl ?_
        refine sxo_nil ?_
        refine sxq_next ?_
        refine sxc_if rfl (fun h2017 => ?_) (fun h2017 => ?_)
        · refine sxc_seq ?_
          refine sxc_region ?_
          refine sxo_assign rfl rfl rfl ?_
          refine sxo_assign rfl rfl rfl ?_
          refine sxo_nil ?_
          refine sxq_next ?_
          refine sxc_ret ?_
          refine sxq_thenR ?_
          refine sxq_nilrow Int (eI .i64) 3 1 ?_
          exact sxq_doneP (none, 0) (.inl rfl) (res2 rfl rfl rfl) (fun h => by subst h; rfl) (fun h => by subst h; exact (.cons 0 rfl .nil))
        · refine sxc_skip ?_
          refine sxq_next ?_
          refine sxc_seq ?_
          refine sxc_region ?_
          refine sxo_assign rfl rfl rfl ?_
          refine sxo_nil ?_
          refine sxq_next ?_
          refine sxc_join (fun ((x1144, (a1142, c1143)) : (List Int × (Option Addr × Nat))) => [(9, .slice a1142 x1144.length c1143)]) (fun ((x1144, (a1142, c1143)) : (List Int × (Option Addr × Nat))) => []) (fun ((x1144, (a1142, c1143)) : (List Int × (Option Addr × Nat))) => [Ro (eI .i64) 3 1 (.slice a1142 x1144.length c1143) x1144]) (fun ((x1144, (a1142, c1143)) : (List Int × (Option Addr × Nat))) => []) (fun ((x1144, _) : (List Int × (Option Addr × Nat))) => M_R_PartsCopy_j118 F x1144) ?_ ?_
          · refine sxc_seq ?_
            refine sxc_region ?_
            refine sxo_assign rfl rfl rfl ?_
            refine sxo_nil ?_
            refine sxq_next ?_
            refine sxc_block ?_
            refine sxc_nilrow Int (eI .i64) 3 1 ?_
            refine sxc_loopP (fun (((x1436, x1437), (a1434, c1435)) : ((List Int × Int) × (Option Addr × Nat))) => [(0, .slice a2 x1.length c3), (1, .slice a5 x4.length c6), (9, .slice a1434 x1436.length c1435), (10, .int .i64 x1437)]) (fun (((x1436, x1437), (a1434, c1435)) : ((List Int × Int) × (Option Addr × Nat))) => []) (fun (((x1436, x1437), (a1434, c1435)) : ((List Int × Int) × (Option Addr × Nat))) => [Ro (eI .i64) 3 1 (.slice a1434 x1436.length c1435) x1436]) (fun (((x1436, x1437), (a1434, c1435)) : ((List Int × Int) × (Option Addr × Nat))) => [Sl (eI .i64) 1 (.slice a2 x1.length c3) x1, Sl (eI .i64) 1 (.slice a5 x4.length c6) x4]) (fun k (s : ((List Int × Int) × (Option Addr × Nat))) => M_R_PartsCopy_l181 F x1 x4 k s.1) ((([] : List Int), 0), (none, 0)) F (lk_cons rfl (lk_cons rfl (lk_cons rfl (lk_cons rfl lk_nil)))) .nil (.cons 0 rfl .nil) (fk_cons 0 rfl (fk_cons 1 rfl fk_nil)) (fun _ => rfl) ?_
            intro k1727
            rintro ⟨⟨x1436, x1437⟩, ⟨a1434, c1435⟩⟩
            try dsimp only
            refine sxc_meq (m' := M_R_PartsCopy_b181 F x1 x4 (M_R_PartsCopy_l181 F x1 x4 k1727) x1436 x1437) rfl ?_
            refine sxc_seq ?_
            refine sxc_seq ?_
            refine sxc_region ?_
            refine sxo_move rfl rfl rfl ?_
            refine sxo_move rfl rfl rfl ?_
            refine sxo_len rfl Try.underlying32 rfl rfl ?_
            refine sxo_lss rfl rfl rfl rfl ?_
            refine sxo_nil ?_
            refine sxq_next ?_
            refine sxc_if rfl (fun h2016 => ?_) (fun h2016 => ?_)
            · refine sxc_skip ?_
              refine sxq_next ?_
              refine sxc_join (fun ((x1873, (a1871, c1872)) : (List Int × (Option Addr × Nat))) => [(0, .slice a2 x1.length c3), (1, .slice a5 x4.length c6), (9, .slice a1871 x1873.length c1872), (10, .int .i64 x1437)]) (fun ((x1873, (a1871, c1872)) : (List Int × (Option Addr × Nat))) => []) (fun ((x1873, (a1871, c1872)) : (List Int × (Option Addr × Nat))) => [Ro (eI .i64) 3 1 (.slice a1871 x1873.length c1872) x1873]) (fun ((x1873, (a1871, c1872)) : (List Int × (Option Addr × Nat))) => [Sl (eI .i64) 1 (.slice a2 x1.length c3) x1, Sl (eI .i64) 1 (.slice a5 x4.length c6) x4]) (fun ((x1873, _) : (List Int × (Option Addr × Nat))) => M_R_PartsCopy_j197 F (M_R_PartsCopy_l181 F x1 x4 k1727) x1437 x1873) ?_ ?_
              · refine sxc_block ?_
                refine sxc_seq ?_
                refine sxc_region ?_
                refine sxo_assign rfl rfl rfl ?_
                refine sxo_assign rfl rfl rfl ?_
                refine sxo_nil ?_
                refine sxq_next ?_
                refine sxc_join (fun ((x1940, _) : (Int × Unit)) => [(0, .slice a2 x1.length c3), (1, .slice a5 x4.length c6), (9, .slice a1434 x1436.length c1435), (10, .int .i64 x1437), (11, .int .i64 x1940)]) (fun ((x1940, _) : (Int × Unit)) => []) (fun ((x1940, _) : (Int × Unit)) => [Ro (eI .i64) 3 1 (.slice a1434 x1436.length c1435) x1436]) (fun ((x1940, _) : (Int × Unit)) => [Sl (eI .i64) 1 (.slice a2 x1.length c3) x1, Sl (eI .i64) 1 (.slice a5 x4.length c6) x4]) (fun ((x1940, _) : (Int × Unit)) => M_R_PartsCopy_j205 F (M_R_PartsCopy_l181 F x1 x4 k1727) x1 x1436 x1437 x1940) ?_ ?_
                · refine sxc_block ?_
                  refine sxc_loopP (fun (((x1971, x1972), _) : ((Int × Int) × Unit)) => [(0, .slice a2 x1.length c3), (1, .slice a5 x4.length c6), (9, .slice a1434 x1436.length c1435), (10, .int .i64 x1437), (11, .int .i64 x1971), (12, .int .i64 x1972)]) (fun (((x1971, x1972), _) : ((Int × Int) × Unit)) => []) (fun (((x1971, x1972), _) : ((Int × Int) × Unit)) => [Ro (eI .i64) 3 1 (.slice a1434 x1436.length c1435) x1436]) (fun (((x1971, x1972), _) : ((Int × Int) × Unit)) => [Sl (eI .i64) 1 (.slice a2 x1.length c3) x1, Sl (eI .i64) 1 (.slice a5 x4.length c6) x4]) (fun k (s : ((Int × Int) × Unit)) => M_R_PartsCopy_l210 F (M_R_PartsCopy_l181 F x1 x4 k1727) x1 x4 x1436 x1437 k s.1) ((0, 0), ()) F (lk_cons rfl (lk_cons rfl (lk_cons rfl (lk_cons rfl (lk_cons rfl (lk_cons rfl lk_nil)))))) .nil (.cons 0 rfl .nil) (fk_cons 0 rfl (fk_cons 1 rfl fk_nil)) (fun _ => rfl) ?_
                  intro k1994
                  rintro ⟨⟨x1971, x1972⟩, _⟩
                  try dsimp only
                  refine sxc_meq (m' := M_R_PartsCopy_b210 F (M_R_PartsCopy_l181 F x1 x4 k1727) x1 x4 x1436 x1437 (M_R_PartsCopy_l210 F (M_R_PartsCopy_l181 F x1 x4 k1727) x1 x4 x1436 x1437 k1994) x1971 x1972) rfl ?_
                  refine sxc_seq ?_
                  refine sxc_seq ?_
                  refine sxc_region ?_
                  refine sxo_move rfl rfl rfl ?_
                  refine sxo_move rfl rfl rfl ?_
                  refine sxo_len rfl Try.underlying32 rfl rfl ?_
                  refine sxo_lss rfl rfl rfl rfl ?_
                  refine sxo_move rfl rfl rfl ?_
                  refine sxo_join 9 (fun ((x2008, _) : (Bool × Unit)) => [(0, .slice a2 x1.length c3), (1, .slice a5 x4.length c6), (9, .slice a1434 x1436.length c1435), (10, .int .i64 x1437), (11, .int .i64 x1971), (12, .int .i64 x1972), (84, .bool x2008)]) (fun ((x2008, _) : (Bool × Unit)) => []) (fun ((x2008, _) : (Bool × Unit)) => [Ro (eI .i64) 3 1 (.slice a1434 x1436.length c1435) x1436]) (fun ((x2008, _) : (Bool × Unit)) => [Sl (eI .i64) 1 (.slice a2 x1.length c3) x1, Sl (eI .i64) 1 (.slice a5 x4.length c6) x4]) (fun ((x2008, _) : (Bool × Unit)) => M_R_PartsCopy_j212 F (M_R_PartsCopy_l181 F x1 x4 k1727) (M_R_PartsCopy_l210 F (M_R_PartsCopy_l181 F x1 x4 k1727) x1 x4 x1436 x1437 k1994) x1 x4 x1436 x1437 x1971 x1972 x2008) ?_ ?_
                  · refine sxo_take (os := _) rfl ?_
                    refine sxo_if (fun h2004 => ?_) (fun h2004 => ?_)
                    · refine sxo_isT (k := 75) rfl h2004 ?_
                      refine sxo_move rfl rfl rfl ?_
                      refine sxo_move rfl rfl rfl ?_
                      refine sxo_move rfl rfl rfl ?_
                      refine sxo_move rfl rfl rfl ?_
                      refine sxo_indexF (j := 1) (eI_ok .i64) (by decide) rfl Try.underlying32 tf3 rfl rfl rfl rfl (fun x2013 e2013 b2014 o2015 => ?_)
                      refine sxo_loadF (j := 0) rfl rfl tf3 rfl rfl (fun _ => rfl) rfl rfl ?_
                      refine sxo_add rfl rfl rfl rfl ?_
                      refine sxo_geq rfl rfl rfl rfl ?_
                      refine sxo_pick (b := true) rfl rfl rfl rfl ?_
                      refine sxo_nil ?_
                      exact sxq_meetP ((decide ((iadd .i64 x1972 x2013) ≤ x1437)), ()) (lk_cons rfl (lk_cons rfl (lk_cons rfl (lk_cons rfl (lk_cons rfl (lk_cons rfl (lk_cons rfl lk_nil))))))) .nil (.cons 0 rfl .nil) (fk_cons 1 rfl (fk_cons 2 rfl fk_nil))
                    · refine sxo_isF (k := 75) rfl h2004 ?_
                      refine sxo_skip rfl rfl rfl ?_
                      refine sxo_skip rfl rfl rfl ?_
                      refine sxo_skip rfl rfl rfl ?_
                      refine sxo_skip rfl rfl rfl ?_
                      refine sxo_skip rfl rfl rfl ?_
                      refine sxo_skip rfl rfl rfl ?_
                      refine sxo_skip rfl rfl rfl ?_
                      refine sxo_skip rfl rfl rfl ?_
                      refine sxo_pick (b := false) rfl rfl rfl rfl ?_
                      refine sxo_nil ?_
                      exact sxq_meetP (false, ()) (lk_cons rfl (lk_cons rfl (lk_cons rfl (lk_cons rfl (lk_cons rfl (lk_cons rfl (lk_cons rfl lk_nil))))))) .nil (.cons 0 rfl .nil) (fk_cons 0 rfl (fk_cons 1 rfl fk_nil))
                  · rintro ⟨x2008, _⟩
                    try dsimp only
                    refine sxo_take (os := _) rfl ?_
                    refine sxo_nil ?_
                    refine sxq_next ?_
                    refine sxc_if rfl (fun h2012 => ?_) (fun h2012 => ?_)
                    · refine sxc_skip ?_
                      refine sxq_next ?_
                      refine sxc_block ?_
                      refine sxc_seq ?_
                      refine sxc_region ?_
                      refine sxo_move rfl rfl rfl ?_
                      refine sxo_move rfl rfl rfl ?_
                      refine sxo_move rfl rfl rfl ?_
                      refine sxo_indexF (j := 1) (eI_ok .i64) (by decide) rfl Try.underlying32 tf3 rfl rfl rfl rfl (fun x2009 e2009 b2010 o2011 => ?_)
                      refine sxo_loadF (j := 0) rfl rfl tf3 rfl rfl (fun _ => rfl) rfl rfl ?_
                      refine sxo_add rfl rfl rfl rfl ?_
                      refine sxo_assign rfl rfl rfl ?_
                      refine sxo_nil ?_
                      refine sxq_next ?_
                      refine sxc_region ?_
                      refine sxo_move rfl rfl rfl ?_
                      refine sxo_add rfl rfl rfl rfl ?_
                      refine sxo_assign rfl rfl rfl ?_
                      refine sxo_nil ?_
                      refine sxq_blkN ?_
                      exact sxq_againP ((iadd .i64 x1971 1, iadd .i64 x1972 x2009), ()) (lk_cons rfl (lk_cons rfl (lk_cons rfl (lk_cons rfl (lk_cons rfl (lk_cons rfl lk_nil)))))) .nil (.cons 0 rfl .nil) (fk_cons 1 rfl (fk_cons 2 rfl fk_nil))
                    · refine sxc_exit ?_
                      refine sxq_thenX ?_
                      refine sxq_thenX ?_
                      refine sxq_blkX ?_
                      exact sxq_meetP (x1971, ()) (lk_cons rfl (lk_cons rfl (lk_cons rfl (lk_cons rfl (lk_cons rfl lk_nil))))) .nil (.cons 0 rfl .nil) (fk_cons 0 rfl (fk_cons 1 rfl fk_nil))
                · rintro ⟨x1940, _⟩
                  try dsimp only
                  refine sxc_seq ?_
                  refine sxc_region ?_
                  refine sxo_move rfl rfl rfl ?_
                  refine sxo_rem rfl rfl rfl rfl rfl ?_
                  refine sxo_eql rfl rfl rfl rfl ?_
                  refine sxo_nil ?_
                  refine sxq_next ?_
                  refine sxc_if rfl (fun h1949 => ?_) (fun h1949 => ?_)
                  · refine sxc_region ?_
                    refine sxo_move rfl rfl rfl ?_
                    refine sxo_move rfl rfl rfl ?_
                    refine sxo_move rfl rfl rfl ?_
                    refine sxo_indexF (j := 0) (eI_ok .i64) (by decide) rfl Try.underlying32 tf3 rfl rfl rfl rfl (fun x1941 e1941 b1942 o1943 => ?_)
                    refine sxo_loadF (j := 0) rfl rfl tf3 rfl rfl (fun _ => rfl) rfl rfl ?_
                    refine sxo_slit (vs := [.int .i64 x1941]) (ys := ([x1941] : List Int)) (eI_ok .i64) (by decide) rfl Try.underlying32 tf3 rfl rfl rfl rfl rfl (by decide) (fun a1944 c1945 => ?_)
                    refine sxo_app 1 (eI_ok .i64) rfl Try.underlying32 tf3 rfl rfl rfl rfl rfl (.inl ⟨0, _, rfl⟩) rfl rfl (fun x1946 e1946 a1947 c1948 => ?_)
                    refine sxo_assign rfl rfl rfl ?_
                    refine sxo_nil ?_
                    refine sxq_blkN ?_
                    exact sxq_meetP (x1946, (a1947, c1948)) (lk_cons rfl (lk_cons rfl (lk_cons rfl (lk_cons rfl lk_nil)))) .nil (.cons 0 rfl .nil) (fk_cons 1 rfl (fk_cons 2 rfl fk_nil))
                  · refine sxc_skip ?_
                    refine sxq_blkN ?_
                    exact sxq_meetP (x1436, (a1434, c1435)) (lk_cons rfl (lk_cons rfl (lk_cons rfl (lk_cons rfl lk_nil)))) .nil (.cons 0 rfl .nil) (fk_cons 0 rfl (fk_cons 1 rfl fk_nil))
              · rintro ⟨x1873, ⟨a1871, c1872⟩⟩
                try dsimp only
                refine sxc_region ?_
                refine sxo_move rfl rfl rfl ?_
                refine sxo_add rfl rfl rfl rfl ?_
                refine sxo_assign rfl rfl rfl ?_
                refine sxo_nil ?_
                exact sxq_againP ((x1873, iadd .i64 x1437 1), (a1871, c1872)) (lk_cons rfl (lk_cons rfl (lk_cons rfl (lk_cons rfl lk_nil)))) .nil (.cons 0 rfl .nil) (fk_cons 0 rfl (fk_cons 1 rfl fk_nil))
            · refine sxc_exit ?_
              refine sxq_thenX ?_
              refine sxq_thenX ?_
              refine sxq_blkX ?_
              exact sxq_meetP (x1436, (a1434, c1435)) (lk_cons rfl lk_nil) .nil (.cons 0 rfl .nil) fk_nil
          · rintro ⟨x1144, ⟨a1142, c1143⟩⟩
            try dsimp only
            refine sxc_seq ?_
            refine sxc_region ?_
            refine sxo_move rfl rfl rfl ?_
            refine sxo_assign rfl rfl rfl ?_
            refine sxo_assign rfl rfl rfl ?_
            refine sxo_nil ?_
            refine sxq_next ?_
            refine sxc_ret ?_
            exact sxq_doneP (a1142, c1143) (.inl rfl) (res2 rfl rfl rfl) (fun h => by subst h; rfl) (fun h => by subst h; exact (.cons 0 rfl .nil))

set_option maxHeartbeats 4000000 in
theorem C_R_Merged (F : Nat) (x1 : List Int) (a2 : Option Addr) (c3 : Nat) (x4 : List Int) (a5 : Option Addr) (c6 : Nat) (r : (List Int × Int)) (hm : M_R_Merged F x1 x4 = some r) :
    Pure Try.prog 60 [.slice a2 x1.length c3, .slice a5 x4.length c6] [Sl (eI .i64) 1 (.slice a2 x1.length c3) x1, Sl (eI .i64) 1 (.slice a5 x4.length c6) x4] (Option Addr × Nat) (fun g => .tuple #[.slice g.1 r.1.length g.2, .int .i64 r.2]) (fun g => [Ro (eI .i64) 3 1 (.slice g.1 r.1.length g.2) r.1]) (fun _ => []) := by
  refine pure_of Try.func60 rfl Try.ntmps60 rfl hm (fun w => ?_)
  refine sxc_env (l' := [(0, .slice a2 x1.length c3), (1, .slice a5 x4.length c6)]) rfl ?_
  refine sxc_seq ?_
  refine sxc_region ?_
  refine sxo_assign rfl rfl rfl ?_
  refine sxo_assign rfl rfl rfl ?_
  refine sxo_nil ?_
  refine sxq_next ?_
  refine sxc_seq ?_
  refine sxc_region ?_
  refine sxo_assign rfl rfl rfl ?_
  refine sxo_nil ?_
  refine sxq_next ?_
  refine sxc_seq ?_
  refine sxc_region ?_
  refine sxo_assign rfl rfl rfl ?_
  refine sxo_assign rfl rfl rfl ?_
  refine sxo_nil ?_
  refine sxq_next ?_
  refine sxc_join (fun ((x273, (a271, c272)) : (List Int × (Option Addr × Nat))) => [(6, .slice a271 x273.length c272)]) (fun ((x273, (a271, c272)) : (List Int × (Option Addr × Nat))) => []) (fun ((x273, (a271, c272)) : (List Int × (Option Addr × Nat))) => [Ro (eI .i64) 3 1 (.slice a271 x273.length c272) x273]) (fun ((x273, (a271, c272)) : (List Int × (Option Addr × Nat))) => []) (fun ((x273, _) : (List Int × (Option Addr × Nat))) => M_R_Merged_j11 F x273) ?_ ?_
  · refine sxc_block ?_
    refine sxc_nilrow Int (eI .i64) 3 1 ?_
    refine sxc_loopP (fun (((x364, x365, x366), (a362, c363)) : ((List Int × Int × Int) × (Option Addr × Nat))) => [(0, .slice a2 x1.length c3), (1, .slice a5 x4.length c6), (6, .slice a362 x364.length c363), (7, .int .i64 x365), (8, .int .i64 x366)]) (fun (((x364, x365, x366), (a362, c363)) : ((List Int × Int × Int) × (Option Addr × Nat))) => []) (fun (((x364, x365, x366), (a362, c363)) : ((List Int × Int × Int) × (Option Addr × Nat))) => [Ro (eI .i64) 3 1 (.slice a362 x364.length c363) x364]) (fun (((x364, x365, x366), (a362, c363)) : ((List Int × Int × Int) × (Option Addr × Nat))) => [Sl (eI .i64) 1 (.slice a2 x1.length c3) x1, Sl (eI .i64) 1 (.slice a5 x4.length c6) x4]) (fun k (s : ((List Int × Int × Int) × (Option Addr × Nat))) => M_R_Merged_l18 F x1 x4 k s.1) ((([] : List Int), 0, 0), (none, 0)) F (lk_cons rfl (lk_cons rfl (lk_cons rfl (lk_cons rfl (lk_cons rfl lk_nil))))) .nil (.cons 0 rfl .nil) (fk_cons 0 rfl (fk_cons 1 rfl fk_nil)) (fun _ => rfl) ?_
    intro k453
    rintro ⟨⟨x364, x365, x366⟩, ⟨a362, c363⟩⟩
    try dsimp only
    refine sxc_meq (m' := M_R_Merged_b18 F x1 x4 (M_R_Merged_l18 F x1 x4 k453) x364 x365 x366) rfl ?_
    refine sxc_seq ?_
    refine sxc_seq ?_
    refine sxc_region ?_
    refine sxo_move rfl rfl rfl ?_
    refine sxo_move rfl rfl rfl ?_
    refine sxo_len rfl Try.underlying32 rfl rfl ?_
    refine sxo_lss rfl rfl rfl rfl ?_
    refine sxo_move rfl rfl rfl ?_
    refine sxo_case 5 (decide (x365 < (x1.length : Int))) [(0, .slice a2 x1.length c3), (1, .slice a5 x4.length c6), (6, .slice a362 x364.length c363), (7, .int .i64 x365), (8, .int .i64 x366), (18, .bool ((decide (x365 < (x1.length : Int))) || (decide (x366 < (x4.length : Int)))))] (fun h456 => ?_) (fun h456 => ?_) ?_
    · refine sxo_take (os := _) rfl ?_
      refine sxo_isT (k := 13) rfl h456 ?_
      refine sxo_skip rfl rfl rfl ?_
      refine sxo_skip rfl rfl rfl ?_
      refine sxo_skip rfl rfl rfl ?_
      refine sxo_skip rfl rfl rfl ?_
      refine sxo_pick (b := true) rfl rfl rfl rfl ?_
      refine sxo_again (d := 18) (v := .bool ((decide (x365 < (x1.length : Int))) || (decide (x366 < (x4.length : Int))))) rfl (by rw [h456]; simp only [Bool.true_or]) ?_
      refine sxo_nil ?_
      exact sxq_case (lk_cons rfl (lk_cons rfl (lk_cons rfl (lk_cons rfl (lk_cons rfl (lk_cons rfl lk_nil))))))
    · refine sxo_take (os := _) rfl ?_
      refine sxo_isF (k := 13) rfl h456 ?_
      refine sxo_move rfl rfl rfl ?_
      refine sxo_move rfl rfl rfl ?_
      refine sxo_len rfl Try.underlying32 rfl rfl ?_
      refine sxo_lss rfl rfl rfl rfl ?_
      refine sxo_pick (b := false) rfl rfl rfl rfl ?_
      refine sxo_again (d := 18) (v := .bool ((decide (x365 < (x1.length : Int))) || (decide (x366 < (x4.length : Int))))) rfl (by rw [h456]; simp only [Bool.false_or]) ?_
      refine sxo_nil ?_
      exact sxq_case (lk_cons rfl (lk_cons rfl (lk_cons rfl (lk_cons rfl (lk_cons rfl (lk_cons rfl lk_nil))))))
    refine sxo_take (os := _) rfl ?_
    refine sxo_nil ?_
    refine sxq_next ?_
    refine sxc_if rfl (fun h539 => ?_) (fun h539 => ?_)
    · refine sxc_skip ?_
      refine sxq_next ?_
      refine sxc_block ?_
      refine sxc_seq ?_
      refine sxc_join (fun ((x489, _) : (Bool × Unit)) => [(0, .slice a2 x1.length c3), (1, .slice a5 x4.length c6), (6, .slice a362 x364.length c363), (7, .int .i64 x365), (8, .int .i64 x366), (39, .bool x489)]) (fun ((x489, _) : (Bool × Unit)) => []) (fun ((x489, _) : (Bool × Unit)) => [Ro (eI .i64) 3 1 (.slice a362 x364.length c363) x364]) (fun ((x489, _) : (Bool × Unit)) => [Sl (eI .i64) 1 (.slice a2 x1.length c3) x1, Sl (eI .i64) 1 (.slice a5 x4.length c6) x4]) (fun ((x489, _) : (Bool × Unit)) => M_R_Merged_j20 F (M_R_Merged_l18 F x1 x4 k453) x1 x4 x364 x365 x366 x489) ?_ ?_
      · refine sxc_split (fun h529 => ?_) (fun h529 => ?_)
        · refine sxc_split (fun h530 => ?_) (fun h530 => ?_)
          · refine sxc_idxF (j := 0) (eI_ok .i64) (by decide) rfl (fun x531 e531 b532 o533 h534 => ?_)
            replace h534 : a2 = some ⟨b532, o533, none⟩ := h534
            refine sxc_idxF (j := 2) (eI_ok .i64) (by decide) rfl (fun x535 e535 b536 o537 h538 => ?_)
            replace h538 : a5 = some ⟨b536, o537, none⟩ := h538
            refine sxb_draw mixed [] [] [CellsAt b536 (o537 + x366.toNat * 1) ((eI .i64) x535), CellsAt b532 (o533 + x365.toNat * 1) ((eI .i64) x531), Sl (eI .i64) 1 (.slice a2 x1.length c3) x1, Sl (eI .i64) 1 (.slice a5 x4.length c6) x4] .nil (gk_F 0 rfl (gk_F 1 rfl (gk_F 2 rfl (gk_F 3 rfl gk_nil)))) 21 rfl ?_
            refine sxb_takeP 0 (.int .i64 x365) rfl rfl rfl rfl (by kernel_rfl) (by kernel_rfl) (by kernel_rfl) (by kernel_rfl) (by kernel_rfl) rfl (show _ = #[true, false, false, false, false, false, false, false, false, false, false, false, false, false, false, false, false, false, false, false, false] from rfl) (yv_pv rfl) ?_
            refine sxb_takeP 1 (.slice a2 x1.length c3) rfl rfl rfl rfl (by kernel_rfl) (by kernel_rfl) (by kernel_rfl) (by kernel_rfl) (by kernel_rfl) rfl (show _ = #[true, true, false, false, false, false, false, false, false, false, false, false, false, false, false, false, false, false, false, false, false] from rfl) (yv_pv rfl) ?_
            refine sxb_takeP 2 (.int .i64 (x1.length : Int)) rfl rfl rfl rfl (by kernel_rfl) (by kernel_rfl) (by kernel_rfl) (by kernel_rfl) (by kernel_rfl) rfl (show _ = #[true, true, true, false, false, false, false, false, false, false, false, false, false, false, false, false, false, false, false, false, false] from rfl) (yv_len Try.underlying32 rfl) ?_
            refine sxb_takeP 3 (.bool (decide (x365 < (x1.length : Int)))) rfl rfl rfl rfl (by kernel_rfl) (by kernel_rfl) (by kernel_rfl) (by kernel_rfl) (by kernel_rfl) rfl (show _ = #[true, true, true, true, false, false, false, false, false, false, false, false, false, false, false, false, false, false, false, false, false] from rfl) (yv_pv rfl) ?_
            refine sxb_takeP 4 (.bool (decide (x365 < (x1.length : Int)))) rfl rfl rfl rfl (by kernel_rfl) (by kernel_rfl) (by kernel_rfl) (by kernel_rfl) (by kernel_rfl) rfl (show _ = #[true, true, true, true, true, false, false, false, false, false, false, false, false, false, false, false, false, false, false, false, false] from rfl) (yv_pv rfl) ?_
            refine sxb_again (d := 23) (v := .bool true) rfl (by rw [h529]) ?_
            refine sxb_takeP 5 (.int .i64 x366) rfl rfl rfl rfl (by kernel_rfl) (by kernel_rfl) (by kernel_rfl) (by kernel_rfl) (by kernel_rfl) rfl (show _ = #[true, true, true, true, true, true, false, false, false, false, false, false, false, false, false, false, false, false, false, false, false] from rfl) (yv_pv rfl) ?_
            refine sxb_takeP 6 (.slice a5 x4.length c6) rfl rfl rfl rfl (by kernel_rfl) (by kernel_rfl) (by kernel_rfl) (by kernel_rfl) (by kernel_rfl) rfl (show _ = #[true, true, true, true, true, true, true, false, false, false, false, false, false, false, false, false, false, false, false, false, false] from rfl) (yv_pv rfl) ?_
            refine sxb_takeP 7 (.int .i64 (x4.length : Int)) rfl rfl rfl rfl (by kernel_rfl) (by kernel_rfl) (by kernel_rfl) (by kernel_rfl) (by kernel_rfl) rfl (show _ = #[true, true, true, true, true, true, true, true, false, false, false, false, false, false, false, false, false, false, false, false, false] from rfl) (yv_len Try.underlying32 rfl) ?_
            refine sxb_takeP 8 (.bool (decide (x366 < (x4.length : Int)))) rfl rfl rfl rfl (by kernel_rfl) (by kernel_rfl) (by kernel_rfl) (by kernel_rfl) (by kernel_rfl) rfl (show _ = #[true, true, true, true, true, true, true, true, true, false, false, false, false, false, false, false, false, false, false, false, false] from rfl) (yv_pv rfl) ?_
            refine sxb_takeP 9 (.bool (decide (x366 < (x4.length : Int)))) rfl rfl rfl rfl (by kernel_rfl) (by kernel_rfl) (by kernel_rfl) (by kernel_rfl) (by kernel_rfl) rfl (show _ = #[true, true, true, true, true, true, true, true, true, true, false, false, false, false, false, false, false, false, false, false, false] from rfl) (yv_pv rfl) ?_
            refine sxb_takeP 10 (.bool (decide (x366 < (x4.length : Int)))) rfl rfl rfl rfl (by kernel_rfl) (by kernel_rfl) (by kernel_rfl) (by kernel_rfl) (by kernel_rfl) rfl (show _ = #[true, true, true, true, true, true, true, true, true, true, true, false, false, false, false, false, false, false, false, false, false] from rfl) (yv_pv rfl) ?_
            refine sxb_again (d := 29) (v := .bool true) rfl (by rw [h530]) ?_
            refine sxb_takeP 11 (.slice a2 x1.length c3) rfl rfl rfl rfl (by kernel_rfl) (by kernel_rfl) (by kernel_rfl) (by kernel_rfl) (by kernel_rfl) rfl (show _ = #[true, true, true, true, true, true, true, true, true, true, true, true, false, false, false, false, false, false, false, false, false] from rfl) (yv_pv rfl) ?_
            refine sxb_takeP 12 (.int .i64 x365) rfl rfl rfl rfl (by kernel_rfl) (by kernel_rfl) (by kernel_rfl) (by kernel_rfl) (by kernel_rfl) rfl (show _ = #[true, true, true, true, true, true, true, true, true, true, true, true, true, false, false, false, false, false, false, false, false] from rfl) (yv_pv rfl) ?_
            refine sxb_again (d := 30) (v := .slice (some ⟨b532, o533, none⟩) x1.length c3) rfl (by rw [h534]) ?_
            refine sxb_takeP 13 (.pointer (some ⟨b532, (o533 + x365.toNat * 1), none⟩)) rfl rfl rfl rfl (by kernel_rfl) (by kernel_rfl) (by kernel_rfl) (by kernel_rfl) (by kernel_rfl) rfl (show _ = #[true, true, true, true, true, true, true, true, true, true, true, true, true, true, false, false, false, false, false, false, false] from rfl) (yv_idx Try.underlying32 tf3 rfl rfl (idx_get e531).1 (idx_lt e531)) ?_
            refine sxb_again (d := 30) (v := .slice a2 x1.length c3) rfl (by rw [h534]) ?_
            refine sxb_take 14 (.int .i64 x531) [] rfl rfl rfl rfl (by kernel_rfl) (by kernel_rfl) (by kernel_rfl) (by kernel_rfl) (by kernel_rfl) (by kernel_rfl) rfl (show _ = #[true, true, true, true, true, true, true, true, true, true, true, true, true, true, true, false, false, false, false, false, false] from rfl) (yv_loadF (j := 1) rfl tf3 rfl rfl (fun _ => rfl) rfl) ?_
            refine sxb_takeP 15 (.slice a5 x4.length c6) rfl rfl rfl rfl (by kernel_rfl) (by kernel_rfl) (by kernel_rfl) (by kernel_rfl) (by kernel_rfl) rfl (show _ = #[true, true, true, true, true, true, true, true, true, true, true, true, true, true, true, true, false, false, false, false, false] from rfl) (yv_pv rfl) ?_
            refine sxb_takeP 16 (.int .i64 x366) rfl rfl rfl rfl (by kernel_rfl) (by kernel_rfl) (by kernel_rfl) (by kernel_rfl) (by kernel_rfl) rfl (show _ = #[true, true, true, true, true, true, true, true, true, true, true, true, true, true, true, true, true, false, false, false, false] from rfl) (yv_pv rfl) ?_
            refine sxb_again (d := 34) (v := .slice (some ⟨b536, o537, none⟩) x4.length c6) rfl (by rw [h538]) ?_
            refine sxb_takeP 17 (.pointer (some ⟨b536, (o537 + x366.toNat * 1), none⟩)) rfl rfl rfl rfl (by kernel_rfl) (by kernel_rfl) (by kernel_rfl) (by kernel_rfl) (by kernel_rfl) rfl (show _ = #[true, true, true, true, true, true, true, true, true, true, true, true, true, true, true, true, true, true, false, false, false] from rfl) (yv_idx Try.underlying32 tf3 rfl rfl (idx_get e535).1 (idx_lt e535)) ?_
            refine sxb_again (d := 34) (v := .slice a5 x4.length c6) rfl (by rw [h538]) ?_
            refine sxb_take 18 (.int .i64 x535) [] rfl rfl rfl rfl (by kernel_rfl) (by kernel_rfl) (by kernel_rfl) (by kernel_rfl) (by kernel_rfl) (by kernel_rfl) rfl (show _ = #[true, true, true, true, true, true, true, true, true, true, true, true, true, true, true, true, true, true, true, false, false] from rfl) (yv_loadF (j := 0) rfl tf3 rfl rfl (fun _ => rfl) rfl) ?_
            refine sxb_takeP 19 (.bool ((x531 : Int) == x535)) rfl rfl rfl rfl (by kernel_rfl) (by kernel_rfl) (by kernel_rfl) (by kernel_rfl) (by kernel_rfl) rfl (show _ = #[true, true, true, true, true, true, true, true, true, true, true, true, true, true, true, true, true, true, true, true, false] from rfl) (yv_pv rfl) ?_
            refine sxb_takeP 20 (.bool ((x531 : Int) == x535)) rfl rfl rfl rfl (by kernel_rfl) (by kernel_rfl) (by kernel_rfl) (by kernel_rfl) (by kernel_rfl) rfl (show _ = #[true, true, true, true, true, true, true, true, true, true, true, true, true, true, true, true, true, true, true, true, true] from rfl) (yv_pv rfl) ?_
            refine sxb_done (by kernel_rfl) ?_
            refine sxq_np ?_ (by intro c h; cases h)
            exact sxq_meetP (((x531 : Int) == x535), ()) (lk_cons rfl (lk_cons rfl (lk_cons rfl (lk_cons rfl (lk_cons rfl (lk_cons rfl lk_nil)))))) .nil (.cons 0 rfl .nil) (fk_cons 2 rfl (fk_cons 3 rfl fk_nil))
          · refine sxb_draw mixed [] [] [Sl (eI .i64) 1 (.slice a2 x1.length c3) x1, Sl (eI .i64) 1 (.slice a5 x4.length c6) x4] .nil (gk_F 0 rfl (gk_F 1 rfl gk_nil)) 21 rfl ?_
            refine sxb_takeP 0 (.int .i64 x365) rfl rfl rfl rfl (by kernel_rfl) (by kernel_rfl) (by kernel_rfl) (by kernel_rfl) (by kernel_rfl) rfl (show _ = #[true, false, false, false, false, false, false, false, false, false, false, false, false, false, false, false, false, false, false, false, false] from rfl) (yv_pv rfl) ?_
            refine sxb_takeP 1 (.slice a2 x1.length c3) rfl rfl rfl rfl (by kernel_rfl) (by kernel_rfl) (by kernel_rfl) (by kernel_rfl) (by kernel_rfl) rfl (show _ = #[true, true, false, false, false, false, false, false, false, false, false, false, false, false, false, false, false, false, false, false, false] from rfl) (yv_pv rfl) ?_
            refine sxb_takeP 2 (.int .i64 (x1.length : Int)) rfl rfl rfl rfl (by kernel_rfl) (by kernel_rfl) (by kernel_rfl) (by kernel_rfl) (by kernel_rfl) rfl (show _ = #[true, true, true, false, false, false, false, false, false, false, false, false, false, false, false, false, false, false, false, false, false] from rfl) (yv_len Try.underlying32 rfl) ?_
            refine sxb_takeP 3 (.bool (decide (x365 < (x1.length : Int)))) rfl rfl rfl rfl (by kernel_rfl) (by kernel_rfl) (by kernel_rfl) (by kernel_rfl) (by kernel_rfl) rfl (show _ = #[true, true, true, true, false, false, false, false, false, false, false, false, false, false, false, false, false, false, false, false, false] from rfl) (yv_pv rfl) ?_
            refine sxb_takeP 4 (.bool (decide (x365 < (x1.length : Int)))) rfl rfl rfl rfl (by kernel_rfl) (by kernel_rfl) (by kernel_rfl) (by kernel_rfl) (by kernel_rfl) rfl (show _ = #[true, true, true, true, true, false, false, false, false, false, false, false, false, false, false, false, false, false, false, false, false] from rfl) (yv_pv rfl) ?_
            refine sxb_again (d := 23) (v := .bool true) rfl (by rw [h529]) ?_
            refine sxb_takeP 5 (.int .i64 x366) rfl rfl rfl rfl (by kernel_rfl) (by kernel_rfl) (by kernel_rfl) (by kernel_rfl) (by kernel_rfl) rfl (show _ = #[true, true, true, true, true, true, false, false, false, false, false, false, false, false, false, false, false, false, false, false, false] from rfl) (yv_pv rfl) ?_
            refine sxb_takeP 6 (.slice a5 x4.length c6) rfl rfl rfl rfl (by kernel_rfl) (by kernel_rfl) (by kernel_rfl) (by kernel_rfl) (by kernel_rfl) rfl (show _ = #[true, true, true, true, true, true, true, false, false, false, false, false, false, false, false, false, false, false, false, false, false] from rfl) (yv_pv rfl) ?_
            refine sxb_takeP 7 (.int .i64 (x4.length : Int)) rfl rfl rfl rfl (by kernel_rfl) (by kernel_rfl) (by kernel_rfl) (by kernel_rfl) (by kernel_rfl) rfl (show _ = #[true, true, true, true, true, true, true, true, false, false, false, false, false, false, false, false, false, false, false, false, false] from rfl) (yv_len Try.underlying32 rfl) ?_
            refine sxb_takeP 8 (.bool (decide (x366 < (x4.length : Int)))) rfl rfl rfl rfl (by kernel_rfl) (by kernel_rfl) (by kernel_rfl) (by kernel_rfl) (by kernel_rfl) rfl (show _ = #[true, true, true, true, true, true, true, true, true, false, false, false, false, false, false, false, false, false, false, false, false] from rfl) (yv_pv rfl) ?_
            refine sxb_takeP 9 (.bool (decide (x366 < (x4.length : Int)))) rfl rfl rfl rfl (by kernel_rfl) (by kernel_rfl) (by kernel_rfl) (by kernel_rfl) (by kernel_rfl) rfl (show _ = #[true, true, true, true, true, true, true, true, true, true, false, false, false, false, false, false, false, false, false, false, false] from rfl) (yv_pv rfl) ?_
            refine sxb_takeP 10 (.bool (decide (x366 < (x4.length : Int)))) rfl rfl rfl rfl (by kernel_rfl) (by kernel_rfl) (by kernel_rfl) (by kernel_rfl) (by kernel_rfl) rfl (show _ = #[true, true, true, true, true, true, true, true, true, true, true, false, false, false, false, false, false, false, false, false, false] from rfl) (yv_pv rfl) ?_
            refine sxb_again (d := 29) (v := .bool false) rfl (by rw [h530]) ?_
            refine sxb_skip 11 rfl rfl rfl rfl (by kernel_rfl) (by kernel_rfl) (by kernel_rfl) (by kernel_rfl) (by kernel_rfl) rfl (show _ = #[true, true, true, true, true, true, true, true, true, true, true, true, false, false, false, false, false, false, false, false, false] from rfl) ?_
            refine sxb_skip 12 rfl rfl rfl rfl (by kernel_rfl) (by kernel_rfl) (by kernel_rfl) (by kernel_rfl) (by kernel_rfl) rfl (show _ = #[true, true, true, true, true, true, true, true, true, true, true, true, true, false, false, false, false, false, false, false, false] from rfl) ?_
            refine sxb_skip 13 rfl rfl rfl rfl (by kernel_rfl) (by kernel_rfl) (by kernel_rfl) (by kernel_rfl) (by kernel_rfl) rfl (show _ = #[true, true, true, true, true, true, true, true, true, true, true, true, true, true, false, false, false, false, false, false, false] from rfl) ?_
            refine sxb_skip 14 rfl rfl rfl rfl (by kernel_rfl) (by kernel_rfl) (by kernel_rfl) (by kernel_rfl) (by kernel_rfl) rfl (show _ = #[true, true, true, true, true, true, true, true, true, true, true, true, true, true, true, false, false, false, false, false, false] from rfl) ?_
            refine sxb_skip 15 rfl rfl rfl rfl (by kernel_rfl) (by kernel_rfl) (by kernel_rfl) (by kernel_rfl) (by kernel_rfl) rfl (show _ = #[true, true, true, true, true, true, true, true, true, true, true, true, true, true, true, true, false, false, false, false, false] from rfl) ?_
            refine sxb_skip 16 rfl rfl rfl rfl (by kernel_rfl) (by kernel_rfl) (by kernel_rfl) (by kernel_rfl) (by kernel_rfl) rfl (show _ = #[true, true, true, true, true, true, true, true, true, true, true, true, true, true, true, true, true, false, false, false, false] from rfl) ?_
            refine sxb_skip 17 rfl rfl rfl rfl (by kernel_rfl) (by kernel_rfl) (by kernel_rfl) (by kernel_rfl) (by kernel_rfl) rfl (show _ = #[true, true, true, true, true, true, true, true, true, true, true, true, true, true, true, true, true, true, false, false, false] from rfl) ?_
            refine sxb_skip 18 rfl rfl rfl rfl (by kernel_rfl) (by kernel_rfl) (by kernel_rfl) (by kernel_rfl) (by kernel_rfl) rfl (show _ = #[true, true, true, true, true, true, true, true, true, true, true, true, true, true, true, true, true, true, true, false, false] from rfl) ?_
            refine sxb_skip 19 rfl rfl rfl rfl (by kernel_rfl) (by kernel_rfl) (by kernel_rfl) (by kernel_rfl) (by kernel_rfl) rfl (show _ = #[true, true, true, true, true, true, true, true, true, true, true, true, true, true, true, true, true, true, true, true, false] from rfl) ?_
            refine sxb_takeP 20 (.bool false) rfl rfl rfl rfl (by kernel_rfl) (by kernel_rfl) (by kernel_rfl) (by kernel_rfl) (by kernel_rfl) rfl (show _ = #[true, true, true, true, true, true, true, true, true, true, true, true, true, true, true, true, true, true, true, true, true] from rfl) (yv_pv rfl) ?_
            refine sxb_done (by kernel_rfl) ?_
            refine sxq_np ?_ (by intro c h; cases h)
            exact sxq_meetP (false, ()) (lk_cons rfl (lk_cons rfl (lk_cons rfl (lk_cons rfl (lk_cons rfl (lk_cons rfl lk_nil)))))) .nil (.cons 0 rfl .nil) (fk_cons 0 rfl (fk_cons 1 rfl fk_nil))
        · refine sxb_draw mixed [] [] [Sl (eI .i64) 1 (.slice a2 x1.length c3) x1, Sl (eI .i64) 1 (.slice a5 x4.length c6) x4] .nil (gk_F 0 rfl (gk_F 1 rfl gk_nil)) 21 rfl ?_
          refine sxb_takeP 0 (.int .i64 x365) rfl rfl rfl rfl (by kernel_rfl) (by kernel_rfl) (by kernel_rfl) (by kernel_rfl) (by kernel_rfl) rfl (show _ = #[true, false, false, false, false, false, false, false, false, false, false, false, false, false, false, false, false, false, false, false, false] from rfl) (yv_pv rfl) ?_
          refine sxb_takeP 1 (.slice a2 x1.length c3) rfl rfl rfl rfl (by kernel_rfl) (by kernel_rfl) (by kernel_rfl) (by kernel_rfl) (by kernel_rfl) rfl (show _ = #[true, true, false, false, false, false, false, false, false, false, false, false, false, false, false, false, false, false, false, false, false] from rfl) (yv_pv rfl) ?_
          refine sxb_takeP 2 (.int .i64 (x1.length : Int)) rfl rfl rfl rfl (by kernel_rfl) (by kernel_rfl) (by kernel_rfl) (by kernel_rfl) (by kernel_rfl) rfl (show _ = #[true, true, true, false, false, false, false, false, false, false, false, false, false, false, false, false, false, false, false, false, false] from rfl) (yv_len Try.underlying32 rfl) ?_
          refine sxb_takeP 3 (.bool (decide (x365 < (x1.length : Int)))) rfl rfl rfl rfl (by kernel_rfl) (by kernel_rfl) (by kernel_rfl) (by kernel_rfl) (by kernel_rfl) rfl (show _ = #[true, true, true, true, false, false, false, false, false, false, false, false, false, false, false, false, false, false, false, false, false] from rfl) (yv_pv rfl) ?_
          refine sxb_takeP 4 (.bool (decide (x365 < (x1.length : Int)))) rfl rfl rfl rfl (by kernel_rfl) (by kernel_rfl) (by kernel_rfl) (by kernel_rfl) (by kernel_rfl) rfl (show _ = #[true, true, true, true, true, false, false, false, false, false, false, false, false, false, false, false, false, false, false, false, false] from rfl) (yv_pv rfl) ?_
          refine sxb_again (d := 23) (v := .bool false) rfl (by rw [h529]) ?_
          refine sxb_skip 5 rfl rfl rfl rfl (by kernel_rfl) (by kernel_rfl) (by kernel_rfl) (by kernel_rfl) (by kernel_rfl) rfl (show _ = #[true, true, true, true, true, true, false, false, false, false, false, false, false, false, false, false, false, false, false, false, false] from rfl) ?_
          refine sxb_skip 6 rfl rfl rfl rfl (by kernel_rfl) (by kernel_rfl) (by kernel_rfl) (by kernel_rfl) (by kernel_rfl) rfl (show _ = #[true, true, true, true, true, true, true, false, false, false, false, false, false, false, false, false, false, false, false, false, false] from rfl) ?_
          refine sxb_skip 7 rfl rfl rfl rfl (by kernel_rfl) (by kernel_rfl) (by kernel_rfl) (by kernel_rfl) (by kernel_rfl) rfl (show _ = #[true, true, true, true, true, true, true, true, false, false, false, false, false, false, false, false, false, false, false, false, false] from rfl) ?_
          refine sxb_skip 8 rfl rfl rfl rfl (by kernel_rfl) (by kernel_rfl) (by kernel_rfl) (by kernel_rfl) (by kernel_rfl) rfl (show _ = #[true, true, true, true, true, true, true, true, true, false, false, false, false, false, false, false, false, false, false, false, false] from rfl) ?_
          refine sxb_takeP 9 (.bool false) rfl rfl rfl rfl (by kernel_rfl) (by kernel_rfl) (by kernel_rfl) (by kernel_rfl) (by kernel_rfl) rfl (show _ = #[true, true, true, true, true, true, true, true, true, true, false, false, false, false, false, false, false, false, false, false, false] from rfl) (yv_pv rfl) ?_
          refine sxb_takeP 10 (.bool false) rfl rfl rfl rfl (by kernel_rfl) (by kernel_rfl) (by kernel_rfl) (by kernel_rfl) (by kernel_rfl) rfl (show _ = #[true, true, true, true, true, true, true, true, true, true, true, false, false, false, false, false, false, false, false, false, false] from rfl) (yv_pv rfl) ?_
          refine sxb_skip 11 rfl rfl rfl rfl (by kernel_rfl) (by kernel_rfl) (by kernel_rfl) (by kernel_rfl) (by kernel_rfl) rfl (show _ = #[true, true, true, true, true, true, true, true, true, true, true, true, false, false, false, false, false, false, false, false, false] from rfl) ?_
          refine sxb_skip 12 rfl rfl rfl rfl (by kernel_rfl) (by kernel_rfl) (by kernel_rfl) (by kernel_rfl) (by kernel_rfl) rfl (show _ = #[true, true, true, true, true, true, true, true, true, true, true, true, true, false, false, false, false, false, false, false, false] from rfl) ?_
          refine sxb_skip 13 rfl rfl rfl rfl (by kernel_rfl) (by kernel_rfl) (by kernel_rfl) (by kernel_rfl) (by kernel_rfl) rfl (show _ = #[true, true, true, true, true, true, true, true, true, true, true, true, true, true, false, false, false, false, false, false, false] from rfl) ?_
          refine sxb_skip 14 rfl rfl rfl rfl (by kernel_rfl) (by kernel_rfl) (by kernel_rfl) (by kernel_rfl) (by kernel_rfl) rfl (show _ = #[true, true, true, true, true, true, true, true, true, true, true, true, true, true, true, false, false, false, false, false, false] from rfl) ?_
          refine sxb_skip 15 rfl rfl rfl rfl (by kernel_rfl) (by kernel_rfl) (by kernel_rfl) (by kernel_rfl) (by kernel_rfl) rfl (show _ = #[true, true, true, true, true, true, true, true, true, true, true, true, true, true, true, true, false, false, false, false, false] from rfl) ?_
          refine sxb_skip 16 rfl rfl rfl rfl (by kernel_rfl) (by kernel_rfl) (by kernel_rfl) (by kernel_rfl) (by kernel_rfl) rfl (show _ = #[true, true, true, true, true, true, true, true, true, true, true, true, true, true, true, true, true, false, false, false, false] from rfl) ?_
          refine sxb_skip 17 rfl rfl rfl rfl (by kernel_rfl) (by kernel_rfl) (by kernel_rfl) (by kernel_rfl) (by kernel_rfl) rfl (show _ = #[true, true, true, true, true, true, true, true, true, true, true, true, true, true, true, true, true, true, false, false, false] from rfl) ?_
          refine sxb_skip 18 rfl rfl rfl rfl (by kernel_rfl) (by kernel_rfl) (by kernel_rfl) (by kernel_rfl) (by kernel_rfl) rfl (show _ = #[true, true, true, true, true, true, true, true, true, true, true, true, true, true, true, true, true, true, true, false, false] from rfl) ?_
          refine sxb_skip 19 rfl rfl rfl rfl (by kernel_rfl) (by kernel_rfl) (by kernel_rfl) (by kernel_rfl) (by kernel_rfl) rfl (show _ = #[true, true, true, true, true, true, true, true, true, true, true, true, true, true, true, true, true, true, true, true, false] from rfl) ?_
          refine sxb_takeP 20 (.bool false) rfl rfl rfl rfl (by kernel_rfl) (by kernel_rfl) (by kernel_rfl) (by kernel_rfl) (by kernel_rfl) rfl (show _ = #[true, true, true, true, true, true, true, true, true, true, true, true, true, true, true, true, true, true, true, true, true] from rfl) (yv_pv rfl) ?_
          refine sxb_done (by kernel_rfl) ?_
          refine sxq_np ?_ (by intro c h; cases h)
          exact sxq_meetP (false, ()) (lk_cons rfl (lk_cons rfl (lk_cons rfl (lk_cons rfl (lk_cons rfl (lk_cons rfl lk_nil)))))) .nil (.cons 0 rfl .nil) (fk_cons 0 rfl (fk_cons 1 rfl fk_nil))
      · rintro ⟨x489, _⟩
        try dsimp only
        refine sxc_if rfl (fun h528 => ?_) (fun h528 => ?_)
        · refine sxc_seq ?_
          refine sxc_region ?_
          refine sxo_assign rfl rfl rfl ?_
          refine sxo_assign rfl rfl rfl ?_
          refine sxo_nil ?_
          refine sxq_next ?_
          refine sxc_ret ?_
          refine sxq_thenR ?_
          refine sxq_blkR ?_
          refine sxq_thenR ?_
          refine sxq_blkR ?_
          refine sxq_thenR ?_
          refine sxq_nilrow Int (eI .i64) 3 1 ?_
          exact sxq_doneP (none, 0) (.inl rfl) (res2 rfl rfl rfl) (fun h => by subst h; rfl) (fun h => by subst h; exact (.cons 0 rfl .nil))
        · refine sxc_skip ?_
          refine sxq_next ?_
          refine sxc_join (fun ((x500, _) : (Bool × Unit)) => [(0, .slice a2 x1.length c3), (1, .slice a5 x4.length c6), (6, .slice a362 x364.length c363), (7, .int .i64 x365), (8, .int .i64 x366), (60, .bool x500)]) (fun ((x500, _) : (Bool × Unit)) => []) (fun ((x500, _) : (Bool × Unit)) => [Ro (eI .i64) 3 1 (.slice a362 x364.length c363) x364]) (fun ((x500, _) : (Bool × Unit)) => [Sl (eI .i64) 1 (.slice a2 x1.length c3) x1, Sl (eI .i64) 1 (.slice a5 x4.length c6) x4]) (fun ((x500, _) : (Bool × Unit)) => M_R_Merged_j21 F (M_R_Merged_l18 F x1 x4 k453) x1 x4 x364 x365 x366 x500) ?_ ?_
          · refine sxc_split (fun h518 => ?_) (fun h518 => ?_)
            · refine sxb_draw mixed [] [] [Sl (eI .i64) 1 (.slice a2 x1.length c3) x1, Sl (eI .i64) 1 (.slice a5 x4.length c6) x4] .nil (gk_F 0 rfl (gk_F 1 rfl gk_nil)) 21 rfl ?_
              refine sxb_takeP 0 (.int .i64 x366) rfl rfl rfl rfl (by kernel_rfl) (by kernel_rfl) (by kernel_rfl) (by kernel_rfl) (by kernel_rfl) rfl (show _ = #[true, false, false, false, false, false, false, false, false, false, false, false, false, false, false, false, false, false, false, false, false] from rfl) (yv_pv rfl) ?_
              refine sxb_takeP 1 (.slice a5 x4.length c6) rfl rfl rfl rfl (by kernel_rfl) (by kernel_rfl) (by kernel_rfl) (by kernel_rfl) (by kernel_rfl) rfl (show _ = #[true, true, false, false, false, false, false, false, false, false, false, false, false, false, false, false, false, false, false, false, false] from rfl) (yv_pv rfl) ?_
              refine sxb_takeP 2 (.int .i64 (x4.length : Int)) rfl rfl rfl rfl (by kernel_rfl) (by kernel_rfl) (by kernel_rfl) (by kernel_rfl) (by kernel_rfl) rfl (show _ = #[true, true, true, false, false, false, false, false, false, false, false, false, false, false, false, false, false, false, false, false, false] from rfl) (yv_len Try.underlying32 rfl) ?_
              refine sxb_takeP 3 (.bool (decide ((x4.length : Int) ≤ x366))) rfl rfl rfl rfl (by kernel_rfl) (by kernel_rfl) (by kernel_rfl) (by kernel_rfl) (by kernel_rfl) rfl (show _ = #[true, true, true, true, false, false, false, false, false, false, false, false, false, false, false, false, false, false, false, false, false] from rfl) (yv_pv rfl) ?_
              refine sxb_takeP 4 (.bool (decide ((x4.length : Int) ≤ x366))) rfl rfl rfl rfl (by kernel_rfl) (by kernel_rfl) (by kernel_rfl) (by kernel_rfl) (by kernel_rfl) rfl (show _ = #[true, true, true, true, true, false, false, false, false, false, false, false, false, false, false, false, false, false, false, false, false] from rfl) (yv_pv rfl) ?_
              refine sxb_again (d := 44) (v := .bool true) rfl (by rw [h518]) ?_
              refine sxb_skip 5 rfl rfl rfl rfl (by kernel_rfl) (by kernel_rfl) (by kernel_rfl) (by kernel_rfl) (by kernel_rfl) rfl (show _ = #[true, true, true, true, true, true, false, false, false, false, false, false, false, false, false, false, false, false, false, false, false] from rfl) ?_
              refine sxb_skip 6 rfl rfl rfl rfl (by kernel_rfl) (by kernel_rfl) (by kernel_rfl) (by kernel_rfl) (by kernel_rfl) rfl (show _ = #[true, true, true, true, true, true, true, false, false, false, false, false, false, false, false, false, false, false, false, false, false] from rfl) ?_
              refine sxb_skip 7 rfl rfl rfl rfl (by kernel_rfl) (by kernel_rfl) (by kernel_rfl) (by kernel_rfl) (by kernel_rfl) rfl (show _ = #[true, true, true, true, true, true, true, true, false, false, false, false, false, false, false, false, false, false, false, false, false] from rfl) ?_
              refine sxb_skip 8 rfl rfl rfl rfl (by kernel_rfl) (by kernel_rfl) (by kernel_rfl) (by kernel_rfl) (by kernel_rfl) rfl (show _ = #[true, true, true, true, true, true, true, true, true, false, false, false, false, false, false, false, false, false, false, false, false] from rfl) ?_
              refine sxb_skip 9 rfl rfl rfl rfl (by kernel_rfl) (by kernel_rfl) (by kernel_rfl) (by kernel_rfl) (by kernel_rfl) rfl (show _ = #[true, true, true, true, true, true, true, true, true, true, false, false, false, false, false, false, false, false, false, false, false] from rfl) ?_
              refine sxb_skip 10 rfl rfl rfl rfl (by kernel_rfl) (by kernel_rfl) (by kernel_rfl) (by kernel_rfl) (by kernel_rfl) rfl (show _ = #[true, true, true, true, true, true, true, true, true, true, true, false, false, false, false, false, false, false, false, false, false] from rfl) ?_
              refine sxb_skip 11 rfl rfl rfl rfl (by kernel_rfl) (by kernel_rfl) (by kernel_rfl) (by kernel_rfl) (by kernel_rfl) rfl (show _ = #[true, true, true, true, true, true, true, true, true, true, true, true, false, false, false, false, false, false, false, false, false] from rfl) ?_
              refine sxb_skip 12 rfl rfl rfl rfl (by kernel_rfl) (by kernel_rfl) (by kernel_rfl) (by kernel_rfl) (by kernel_rfl) rfl (show _ = #[true, true, true, true, true, true, true, true, true, true, true, true, true, false, false, false, false, false, false, false, false] from rfl) ?_
              refine sxb_skip 13 rfl rfl rfl rfl (by kernel_rfl) (by kernel_rfl) (by kernel_rfl) (by kernel_rfl) (by kernel_rfl) rfl (show _ = #[true, true, true, true, true, true, true, true, true, true, true, true, true, true, false, false, false, false, false, false, false] from rfl) ?_
              refine sxb_skip 14 rfl rfl rfl rfl (by kernel_rfl) (by kernel_rfl) (by kernel_rfl) (by kernel_rfl) (by kernel_rfl) rfl (show _ = #[true, true, true, true, true, true, true, true, true, true, true, true, true, true, true, false, false, false, false, false, false] from rfl) ?_
              refine sxb_skip 15 rfl rfl rfl rfl (by kernel_rfl) (by kernel_rfl) (by kernel_rfl) (by kernel_rfl) (by kernel_rfl) rfl (show _ = #[true, true, true, true, true, true, true, true, true, true, true, true, true, true, true, true, false, false, false, false, false] from rfl) ?_
              refine sxb_skip 16 rfl rfl rfl rfl (by kernel_rfl) (by kernel_rfl) (by kernel_rfl) (by kernel_rfl) (by kernel_rfl) rfl (show _ = #[true, true, true, true, true, true, true, true, true, true, true, true, true, true, true, true, true, false, false, false, false] from rfl) ?_
              refine sxb_skip 17 rfl rfl rfl rfl (by kernel_rfl) (by kernel_rfl) (by kernel_rfl) (by kernel_rfl) (by kernel_rfl) rfl (show _ = #[true, true, true, true, true, true, true, true, true, true, true, true, true, true, true, true, true, true, false, false, false] from rfl) ?_
              refine sxb_skip 18 rfl rfl rfl rfl (by kernel_rfl) (by kernel_rfl) (by kernel_rfl) (by kernel_rfl) (by kernel_rfl) rfl (show _ = #[true, true, true, true, true, true, true, true, true, true, true, true, true, true, true, true, true, true, true, false, false] from rfl) ?_
              refine sxb_skip 19 rfl rfl rfl rfl (by kernel_rfl) (by kernel_rfl) (by kernel_rfl) (by kernel_rfl) (by kernel_rfl) rfl (show _ = #[true, true, true, true, true, true, true, true, true, true, true, true, true, true, true, true, true, true, true, true, false] from rfl) ?_
              refine sxb_takeP 20 (.bool true) rfl rfl rfl rfl (by kernel_rfl) (by kernel_rfl) (by kernel_rfl) (by kernel_rfl) (by kernel_rfl) rfl (show _ = #[true, true, true, true, true, true, true, true, true, true, true, true, true, true, true, true, true, true, true, true, true] from rfl) (yv_pv rfl) ?_
              refine sxb_done (by kernel_rfl) ?_
              refine sxq_np ?_ (by intro c h; cases h)
              exact sxq_meetP (true, ()) (lk_cons rfl (lk_cons rfl (lk_cons rfl (lk_cons rfl (lk_cons rfl (lk_cons rfl lk_nil)))))) .nil (.cons 0 rfl .nil) (fk_cons 0 rfl (fk_cons 1 rfl fk_nil))
            · refine sxc_split (fun h519 => ?_) (fun h519 => ?_)
              · refine sxc_idxF (j := 0) (eI_ok .i64) (by decide) rfl (fun x520 e520 b521 o522 h523 => ?_)
                replace h523 : a2 = some ⟨b521, o522, none⟩ := h523
                refine sxc_idxF (j := 2) (eI_ok .i64) (by decide) rfl (fun x524 e524 b525 o526 h527 => ?_)
                replace h527 : a5 = some ⟨b525, o526, none⟩ := h527
                refine sxb_draw mixed [] [] [CellsAt b525 (o526 + x366.toNat * 1) ((eI .i64) x524), CellsAt b521 (o522 + x365.toNat * 1) ((eI .i64) x520), Sl (eI .i64) 1 (.slice a2 x1.length c3) x1, Sl (eI .i64) 1 (.slice a5 x4.length c6) x4] .nil (gk_F 0 rfl (gk_F 1 rfl (gk_F 2 rfl (gk_F 3 rfl gk_nil)))) 21 rfl ?_
                refine sxb_takeP 0 (.int .i64 x366) rfl rfl rfl rfl (by kernel_rfl) (by kernel_rfl) (by kernel_rfl) (by kernel_rfl) (by kernel_rfl) rfl (show _ = #[true, false, false, false, false, false, false, false, false, false, false, false, false, false, false, false, false, false, false, false, false] from rfl) (yv_pv rfl) ?_
                refine sxb_takeP 1 (.slice a5 x4.length c6) rfl rfl rfl rfl (by kernel_rfl) (by kernel_rfl) (by kernel_rfl) (by kernel_rfl) (by kernel_rfl) rfl (show _ = #[true, true, false, false, false, false, false, false, false, false, false, false, false, false, false, false, false, false, false, false, false] from rfl) (yv_pv rfl) ?_
                refine sxb_takeP 2 (.int .i64 (x4.length : Int)) rfl rfl rfl rfl (by kernel_rfl) (by kernel_rfl) (by kernel_rfl) (by kernel_rfl) (by kernel_rfl) rfl (show _ = #[true, true, true, false, false, false, false, false, false, false, false, false, false, false, false, false, false, false, false, false, false] from rfl) (yv_len Try.underlying32 rfl) ?_
                refine sxb_takeP 3 (.bool (decide ((x4.length : Int) ≤ x366))) rfl rfl rfl rfl (by kernel_rfl) (by kernel_rfl) (by kernel_rfl) (by kernel_rfl) (by kernel_rfl) rfl (show _ = #[true, true, true, true, false, false, false, false, false, false, false, false, false, false, false, false, false, false, false, false, false] from rfl) (yv_pv rfl) ?_
                refine sxb_takeP 4 (.bool (decide ((x4.length : Int) ≤ x366))) rfl rfl rfl rfl (by kernel_rfl) (by kernel_rfl) (by kernel_rfl) (by kernel_rfl) (by kernel_rfl) rfl (show _ = #[true, true, true, true, true, false, false, false, false, false, false, false, false, false, false, false, false, false, false, false, false] from rfl) (yv_pv rfl) ?_
                refine sxb_again (d := 44) (v := .bool false) rfl (by rw [h518]) ?_
                refine sxb_takeP 5 (.int .i64 x365) rfl rfl rfl rfl (by kernel_rfl) (by kernel_rfl) (by kernel_rfl) (by kernel_rfl) (by kernel_rfl) rfl (show _ = #[true, true, true, true, true, true, false, false, false, false, false, false, false, false, false, false, false, false, false, false, false] from rfl) (yv_pv rfl) ?_
                refine sxb_takeP 6 (.slice a2 x1.length c3) rfl rfl rfl rfl (by kernel_rfl) (by kernel_rfl) (by kernel_rfl) (by kernel_rfl) (by kernel_rfl) rfl (show _ = #[true, true, true, true, true, true, true, false, false, false, false, false, false, false, false, false, false, false, false, false, false] from rfl) (yv_pv rfl) ?_
                refine sxb_takeP 7 (.int .i64 (x1.length : Int)) rfl rfl rfl rfl (by kernel_rfl) (by kernel_rfl) (by kernel_rfl) (by kernel_rfl) (by kernel_rfl) rfl (show _ = #[true, true, true, true, true, true, true, true, false, false, false, false, false, false, false, false, false, false, false, false, false] from rfl) (yv_len Try.underlying32 rfl) ?_
                refine sxb_takeP 8 (.bool (decide (x365 < (x1.length : Int)))) rfl rfl rfl rfl (by kernel_rfl) (by kernel_rfl) (by kernel_rfl) (by kernel_rfl) (by kernel_rfl) rfl (show _ = #[true, true, true, true, true, true, true, true, true, false, false, false, false, false, false, false, false, false, false, false, false] from rfl) (yv_pv rfl) ?_
                refine sxb_takeP 9 (.bool (decide (x365 < (x1.length : Int)))) rfl rfl rfl rfl (by kernel_rfl) (by kernel_rfl) (by kernel_rfl) (by kernel_rfl) (by kernel_rfl) rfl (show _ = #[true, true, true, true, true, true, true, true, true, true, false, false, false, false, false, false, false, false, false, false, false] from rfl) (yv_pv rfl) ?_
                refine sxb_again (d := 49) (v := .bool true) rfl (by rw [h519]) ?_
                refine sxb_takeP 10 (.slice a2 x1.length c3) rfl rfl rfl rfl (by kernel_rfl) (by kernel_rfl) (by kernel_rfl) (by kernel_rfl) (by kernel_rfl) rfl (show _ = #[true, true, true, true, true, true, true, true, true, true, true, false, false, false, false, false, false, false, false, false, false] from rfl) (yv_pv rfl) ?_
                refine sxb_takeP 11 (.int .i64 x365) rfl rfl rfl rfl (by kernel_rfl) (by kernel_rfl) (by kernel_rfl) (by kernel_rfl) (by kernel_rfl) rfl (show _ = #[true, true, true, true, true, true, true, true, true, true, true, true, false, false, false, false, false, false, false, false, false] from rfl) (yv_pv rfl) ?_
                refine sxb_again (d := 50) (v := .slice (some ⟨b521, o522, none⟩) x1.length c3) rfl (by rw [h523]) ?_
                refine sxb_takeP 12 (.pointer (some ⟨b521, (o522 + x365.toNat * 1), none⟩)) rfl rfl rfl rfl (by kernel_rfl) (by kernel_rfl) (by kernel_rfl) (by kernel_rfl) (by kernel_rfl) rfl (show _ = #[true, true, true, true, true, true, true, true, true, true, true, true, true, false, false, false, false, false, false, false, false] from rfl) (yv_idx Try.underlying32 tf3 rfl rfl (idx_get e520).1 (idx_lt e520)) ?_
                refine sxb_again (d := 50) (v := .slice a2 x1.length c3) rfl (by rw [h523]) ?_
                refine sxb_take 13 (.int .i64 x520) [] rfl rfl rfl rfl (by kernel_rfl) (by kernel_rfl) (by kernel_rfl) (by kernel_rfl) (by kernel_rfl) (by kernel_rfl) rfl (show _ = #[true, true, true, true, true, true, true, true, true, true, true, true, true, true, false, false, false, false, false, false, false] from rfl) (yv_loadF (j := 1) rfl tf3 rfl rfl (fun _ => rfl) rfl) ?_
                refine sxb_takeP 14 (.slice a5 x4.length c6) rfl rfl rfl rfl (by kernel_rfl) (by kernel_rfl) (by kernel_rfl) (by kernel_rfl) (by kernel_rfl) rfl (show _ = #[true, true, true, true, true, true, true, true, true, true, true, true, true, true, true, false, false, false, false, false, false] from rfl) (yv_pv rfl) ?_
                refine sxb_takeP 15 (.int .i64 x366) rfl rfl rfl rfl (by kernel_rfl) (by kernel_rfl) (by kernel_rfl) (by kernel_rfl) (by kernel_rfl) rfl (show _ = #[true, true, true, true, true, true, true, true, true, true, true, true, true, true, true, true, false, false, false, false, false] from rfl) (yv_pv rfl) ?_
                refine sxb_again (d := 54) (v := .slice (some ⟨b525, o526, none⟩) x4.length c6) rfl (by rw [h527]) ?_
                refine sxb_takeP 16 (.pointer (some ⟨b525, (o526 + x366.toNat * 1), none⟩)) rfl rfl rfl rfl (by kernel_rfl) (by kernel_rfl) (by kernel_rfl) (by kernel_rfl) (by kernel_rfl) rfl (show _ = #[true, true, true, true, true, true, true, true, true, true, true, true, true, true, true, true, true, false, false, false, false] from rfl) (yv_idx Try.underlying32 tf3 rfl rfl (idx_get e524).1 (idx_lt e524)) ?_
                refine sxb_again (d := 54) (v := .slice a5 x4.length c6) rfl (by rw [h527]) ?_
                refine sxb_take 17 (.int .i64 x524) [] rfl rfl rfl rfl (by kernel_rfl) (by kernel_rfl) (by kernel_rfl) (by kernel_rfl) (by kernel_rfl) (by kernel_rfl) rfl (show _ = #[true, true, true, true, true, true, true, true, true, true, true, true, true, true, true, true, true, true, false, false, false] from rfl) (yv_loadF (j := 0) rfl tf3 rfl rfl (fun _ => rfl) rfl) ?_
                refine sxb_takeP 18 (.bool (decide (x520 < x524))) rfl rfl rfl rfl (by kernel_rfl) (by kernel_rfl) (by kernel_rfl) (by kernel_rfl) (by kernel_rfl) rfl (show _ = #[true, true, true, true, true, true, true, true, true, true, true, true, true, true, true, true, true, true, true, false, false] from rfl) (yv_pv rfl) ?_
                refine sxb_takeP 19 (.bool (decide (x520 < x524))) rfl rfl rfl rfl (by kernel_rfl) (by kernel_rfl) (by kernel_rfl) (by kernel_rfl) (by kernel_rfl) rfl (show _ = #[true, true, true, true, true, true, true, true, true, true, true, true, true, true, true, true, true, true, true, true, false] from rfl) (yv_pv rfl) ?_
                refine sxb_takeP 20 (.bool (decide (x520 < x524))) rfl rfl rfl rfl (by kernel_rfl) (by kernel_rfl) (by kernel_rfl) (by kernel_rfl) (by kernel_rfl) rfl (show _ = #[true, true, true, true, true, true, true, true, true, true, true, true, true, true, true, true, true, true, true, true, true] from rfl) (yv_pv rfl) ?_
                refine sxb_done (by kernel_rfl) ?_
                refine sxq_np ?_ (by intro c h; cases h)
                exact sxq_meetP ((decide (x520 < x524)), ()) (lk_cons rfl (lk_cons rfl (lk_cons rfl (lk_cons rfl (lk_cons rfl (lk_cons rfl lk_nil)))))) .nil (.cons 0 rfl .nil) (fk_cons 2 rfl (fk_cons 3 rfl fk_nil))
              · refine sxb_draw mixed [] [] [Sl (eI .i64) 1 (.slice a2 x1.length c3) x1, Sl (eI .i64) 1 (.slice a5 x4.length c6) x4] .nil (gk_F 0 rfl (gk_F 1 rfl gk_nil)) 21 rfl ?_
                refine sxb_takeP 0 (.int .i64 x366) rfl rfl rfl rfl (by kernel_rfl) (by kernel_rfl) (by kernel_rfl) (by kernel_rfl) (by kernel_rfl) rfl (show _ = #[true, false, false, false, false, false, false, false, false, false, false, false, false, false, false, false, false, false, false, false, false] from rfl) (yv_pv rfl) ?_
                refine sxb_takeP 1 (.slice a5 x4.length c6) rfl rfl rfl rfl (by kernel_rfl) (by kernel_rfl) (by kernel_rfl) (by kernel_rfl) (by kernel_rfl) rfl (show _ = #[true, true, false, false, false, false, false, false, false, false, false, false, false, false, false, false, false, false, false, false, false] from rfl) (yv_pv rfl) ?_
                refine sxb_takeP 2 (.int .i64 (x4.length : Int)) rfl rfl rfl rfl (by kernel_rfl) (by kernel_rfl) (by kernel_rfl) (by kernel_rfl) (by kernel_rfl) rfl (show _ = #[true, true, true, false, false, false, false, false, false, false, false, false, false, false, false, false, false, false, false, false, false] from rfl) (yv_len Try.underlying32 rfl) ?_
                refine sxb_takeP 3 (.bool (decide ((x4.length : Int) ≤ x366))) rfl rfl rfl rfl (by kernel_rfl) (by kernel_rfl) (by kernel_rfl) (by kernel_rfl) (by kernel_rfl) rfl (show _ = #[true, true, true, true, false, false, false, false, false, false, false, false, false, false, false, false, false, false, false, false, false] from rfl) (yv_pv rfl) ?_
                refine sxb_takeP 4 (.bool (decide ((x4.length : Int) ≤ x366))) rfl rfl rfl rfl (by kernel_rfl) (by kernel_rfl) (by kernel_rfl) (by kernel_rfl) (by kernel_rfl) rfl (show _ = #[true, true, true, true, true, false, false, false, false, false, false, false, false, false, false, false, false, false, false, false, false] from rfl) (yv_pv rfl) ?_
                refine sxb_again (d := 44) (v := .bool false) rfl (by rw [h518]) ?_
                refine sxb_takeP 5 (.int .i64 x365) rfl rfl rfl rfl (by kernel_rfl) (by kernel_rfl) (by kernel_rfl) (by kernel_rfl) (by kernel_rfl) rfl (show _ = #[true, true, true, true, true, true, false, false, false, false, false, false, false, false, false, false, false, false, false, false, false] from rfl) (yv_pv rfl) ?_
                refine sxb_takeP 6 (.slice a2 x1.length c3) rfl rfl rfl rfl (by kernel_rfl) (by kernel_rfl) (by kernel_rfl) (by kernel_rfl) (by kernel_rfl) rfl (show _ = #[true, true, true, true, true, true, true, false, false, false, false, false, false, false, false, false, false, false, false, false, false] from rfl) (yv_pv rfl) ?_
                refine sxb_takeP 7 (.int .i64 (x1.length : Int)) rfl rfl rfl rfl (by kernel_rfl) (by kernel_rfl) (by kernel_rfl) (by kernel_rfl) (by kernel_rfl) rfl (show _ = #[true, true, true, true, true, true, true, true, false, false, false, false, false, false, false, false, false, false, false, false, false] from rfl) (yv_len Try.underlying32 rfl) ?_
                refine sxb_takeP 8 (.bool (decide (x365 < (x1.length : Int)))) rfl rfl rfl rfl (by kernel_rfl) (by kernel_rfl) (by kernel_rfl) (by kernel_rfl) (by kernel_rfl) rfl (show _ = #[true, true, true, true, true, true, true, true, true, false, false, false, false, false, false, false, false, false, false, false, false] from rfl) (yv_pv rfl) ?_
                refine sxb_takeP 9 (.bool (decide (x365 < (x1.length : Int)))) rfl rfl rfl rfl (by kernel_rfl) (by kernel_rfl) (by kernel_rfl) (by kernel_rfl) (by kernel_rfl) rfl (show _ = #[true, true, true, true, true, true, true, true, true, true, false, false, false, false, false, false, false, false, false, false, false] from rfl) (yv_pv rfl) ?_
                refine sxb_again (d := 49) (v := .bool false) rfl (by rw [h519]) ?_
                refine sxb_skip 10 rfl rfl rfl rfl (by kernel_rfl) (by kernel_rfl) (by kernel_rfl) (by kernel_rfl) (by kernel_rfl) rfl (show _ = #[true, true, true, true, true, true, true, true, true, true, true, false, false, false, false, false, false, false, false, false, false] from rfl) ?_
                refine sxb_skip 11 rfl rfl rfl rfl (by kernel_rfl) (by kernel_rfl) (by kernel_rfl) (by kernel_rfl) (by kernel_rfl) rfl (show _ = #[true, true, true, true, true, true, true, true, true, true, true, true, false, false, false, false, false, false, false, false, false] from rfl) ?_
                refine sxb_skip 12 rfl rfl rfl rfl (by kernel_rfl) (by kernel_rfl) (by kernel_rfl) (by kernel_rfl) (by kernel_rfl) rfl (show _ = #[true, true, true, true, true, true, true, true, true, true, true, true, true, false, false, false, false, false, false, false, false] from rfl) ?_
                refine sxb_skip 13 rfl rfl rfl rfl (by kernel_rfl) (by kernel_rfl) (by kernel_rfl) (by kernel_rfl) (by kernel_rfl) rfl (show _ = #[true, true, true, true, true, true, true, true, true, true, true, true, true, true, false, false, false, false, false, false, false] from rfl) ?_
                refine sxb_skip 14 rfl rfl rfl rfl (by kernel_rfl) (by kernel_rfl) (by kernel_rfl) (by kernel_rfl) (by kernel_rfl) rfl (show _ = #[true, true, true, true, true, true, true, true, true, true, true, true, true, true, true, false, false, false, false, false, false] from rfl) ?_
                refine sxb_skip 15 rfl rfl rfl rfl (by kernel_rfl) (by kernel_rfl) (by kernel_rfl) (by kernel_rfl) (by kernel_rfl) rfl (show _ = #[true, true, true, true, true, true, true, true, true, true, true, true, true, true, true, true, false, false, false, false, false] from rfl) ?_
                refine sxb_skip 16 rfl rfl rfl rfl (by kernel_rfl) (by kernel_rfl) (by kernel_rfl) (by kernel_rfl) (by kernel_rfl) rfl (show _ = #[true, true, true, true, true, true, true, true, true, true, true, true, true, true, true, true, true, false, false, false, false] from rfl) ?_
                refine sxb_skip 17 rfl rfl rfl rfl (by kernel_rfl) (by kernel_rfl) (by kernel_rfl) (by kernel_rfl) (by kernel_rfl) rfl (show _ = #[true, true, true, true, true, true, true, true, true, true, true, true, true, true, true, true, true, true, false, false, false] from rfl) ?_
                refine sxb_skip 18 rfl rfl rfl rfl (by kernel_rfl) (by kernel_rfl) (by kernel_rfl) (by kernel_rfl) (by kernel_rfl) rfl (show _ = #[true, true, true, true, true, true, true, true, true, true, true, true, true, true, true, true, true, true, true, false, false] from rfl) ?_
                refine sxb_takeP 19 (.bool false) rfl rfl rfl rfl (by kernel_rfl) (by kernel_rfl) (by kernel_rfl) (by kernel_rfl) (by kernel_rfl) rfl (show _ = #[true, true, true, true, true, true, true, true, true, true, true, true, true, true, true, true, true, true, true, true, false] from rfl) (yv_pv rfl) ?_
                refine sxb_takeP 20 (.bool false) rfl rfl rfl rfl (by kernel_rfl) (by kernel_rfl) (by kernel_rfl) (by kernel_rfl) (by kernel_rfl) rfl (show _ = #[true, true, true, true, true, true, true, true, true, true, true, true, true, true, true, true, true, true, true, true, true] from rfl) (yv_pv rfl) ?_
                refine sxb_done (by kernel_rfl) ?_
                refine sxq_np ?_ (by intro c h; cases h)
                exact sxq_meetP (false, ()) (lk_cons rfl (lk_cons rfl (lk_cons rfl (lk_cons rfl (lk_cons rfl (lk_cons rfl lk_nil)))))) .nil (.cons 0 rfl .nil) (fk_cons 0 rfl (fk_cons 1 rfl fk_nil))
          · rintro ⟨x500, _⟩
            try dsimp only
            refine sxc_if rfl (fun h517 => ?_) (fun h517 => ?_)
            · refine sxc_seq ?_
              refine sxc_region ?_
              refine sxo_move rfl rfl rfl ?_
              refine sxo_move rfl rfl rfl ?_
              refine sxo_move rfl rfl rfl ?_
              refine sxo_indexF (j := 0) (eI_ok .i64) (by decide) rfl Try.underlying32 tf3 rfl rfl rfl rfl (fun x501 e501 b502 o503 => ?_)
              refine sxo_loadF (j := 0) rfl rfl tf3 rfl rfl (fun _ => rfl) rfl rfl ?_
              refine sxo_slit (vs := [.int .i64 x501]) (ys := ([x501] : List Int)) (eI_ok .i64) (by decide) rfl Try.underlying32 tf3 rfl rfl rfl rfl rfl (by decide) (fun a504 c505 => ?_)
              refine sxo_app 1 (eI_ok .i64) rfl Try.underlying32 tf3 rfl rfl rfl rfl rfl (.inl ⟨0, _, rfl⟩) rfl rfl (fun x506 e506 a507 c508 => ?_)
              refine sxo_assign rfl rfl rfl ?_
              refine sxo_nil ?_
              refine sxq_next ?_
              refine sxc_region ?_
              refine sxo_move rfl rfl rfl ?_
              refine sxo_add rfl rfl rfl rfl ?_
              refine sxo_assign rfl rfl rfl ?_
              refine sxo_nil ?_
              refine sxq_blkN ?_
              exact sxq_againP ((x506, iadd .i64 x365 1, x366), (a507, c508)) (lk_cons rfl (lk_cons rfl (lk_cons rfl (lk_cons rfl (lk_cons rfl lk_nil))))) .nil (.cons 0 rfl .nil) (fk_cons 1 rfl (fk_cons 2 rfl fk_nil))
            · refine sxc_seq ?_
              refine sxc_region ?_
              refine sxo_move rfl rfl rfl ?_
              refine sxo_move rfl rfl rfl ?_
              refine sxo_move rfl rfl rfl ?_
              refine sxo_indexF (j := 1) (eI_ok .i64) (by decide) rfl Try.underlying32 tf3 rfl rfl rfl rfl (fun x509 e509 b510 o511 => ?_)
              refine sxo_loadF (j := 0) rfl rfl tf3 rfl rfl (fun _ => rfl) rfl rfl ?_
              refine sxo_slit (vs := [.int .i64 x509]) (ys := ([x509] : List Int)) (eI_ok .i64) (by decide) rfl Try.underlying32 tf3 rfl rfl rfl rfl rfl (by decide) (fun a512 c513 => ?_)
              refine sxo_app 1 (eI_ok .i64) rfl Try.underlying32 tf3 rfl rfl rfl rfl rfl (.inl ⟨0, _, rfl⟩) rfl rfl (fun x514 e514 a515 c516 => ?_)
              refine sxo_assign rfl rfl rfl ?_
              refine sxo_nil ?_
              refine sxq_next ?_
              refine sxc_region ?_
              refine sxo_move rfl rfl rfl ?_
              refine sxo_add rfl rfl rfl rfl ?_
              refine sxo_assign rfl rfl rfl ?_
              refine sxo_nil ?_
              refine sxq_blkN ?_
              exact sxq_againP ((x514, x365, iadd .i64 x366 1), (a515, c516)) (lk_cons rfl (lk_cons rfl (lk_cons rfl (lk_cons rfl (lk_cons rfl lk_nil))))) .nil (.cons 0 rfl .nil) (fk_cons 1 rfl (fk_cons 2 rfl fk_nil))
    · refine sxc_exit ?_
      refine sxq_thenX ?_
      refine sxq_thenX ?_
      refine sxq_blkX ?_
      exact sxq_meetP (x364, (a362, c363)) (lk_cons rfl lk_nil) .nil (.cons 0 rfl .nil) fk_nil
  · rintro ⟨x273, ⟨a271, c272⟩⟩
    try dsimp only
    refine sxc_seq ?_
    refine sxc_seq ?_
    refine sxc_region ?_
    refine sxo_move rfl rfl rfl ?_
    refine sxo_len rfl Try.underlying32 rfl rfl ?_
    refine sxo_gtr rfl rfl rfl rfl ?_
    refine sxo_nil ?_
    refine sxq_next ?_
    refine sxc_if rfl (fun h275 => ?_) (fun h275 => ?_)
    · refine sxc_seq ?_
      refine sxc_region ?_
      refine sxo_assign rfl rfl rfl ?_
      refine sxo_assign rfl rfl rfl ?_
      refine sxo_nil ?_
      refine sxq_next ?_
      refine sxc_ret ?_
      refine sxq_thenR ?_
      refine sxq_nilrow Int (eI .i64) 3 1 ?_
      exact sxq_doneP (none, 0) (.inl rfl) (res2 rfl rfl rfl) (fun h => by subst h; rfl) (fun h => by subst h; exact (.cons 0 rfl .nil))
    · refine sxc_skip ?_
      refine sxq_next ?_
      refine sxc_seq ?_
      refine sxc_region ?_
      refine sxo_move rfl rfl rfl ?_
      refine sxo_assign rfl rfl rfl ?_
      refine sxo_assign rfl rfl rfl ?_
      refine sxo_nil ?_
      refine sxq_next ?_
      refine sxc_ret ?_
      exact sxq_doneP (a271, c272) (.inl rfl) (res2 rfl rfl rfl) (fun h => by subst h; rfl) (fun h => by subst h; exact (.cons 0 rfl .nil))

theorem C_R_PartsJoin (F : Nat) (x1 : List Int) (a2 : Option Addr) (c3 : Nat) (x4 : List Int) (a5 : Option Addr) (c6 : Nat) (x7 : List Int) (a8 : Option Addr) (c9 : Nat) (r : (List Int × Int)) (hm : M_R_PartsJoin F x1 x4 x7 = some r) :
    Pure Try.prog 38 [.slice a2 x1.length c3, .slice a5 x4.length c6, .slice a8 x7.length c9] [Sl (eI .i64) 1 (.slice a2 x1.length c3) x1, Sl (eI .i64) 1 (.slice a5 x4.length c6) x4, Sl (eI .i64) 1 (.slice a8 x7.length c9) x7] (Option Addr × Nat) (fun g => .tuple #[.slice g.1 r.1.length g.2, .int .i64 r.2]) (fun g => [Ro (eI .i64) 3 1 (.slice g.1 r.1.length g.2) r.1]) (fun _ => []) := by
  refine pure_of Try.func38 rfl Try.ntmps38 rfl hm (fun w => ?_)
  refine sxc_env (l' := [(0, .slice a2 x1.length c3), (1, .slice a5 x4.length c6), (2, .slice a8 x7.length c9)]) rfl ?_
  refine sxc_seq ?_
  refine sxc_region ?_
  refine sxo_assign rfl rfl rfl ?_
  refine sxo_assign rfl rfl rfl ?_
  refine sxo_nil ?_
  refine sxq_next ?_
  refine sxc_seq ?_
  refine sxc_region ?_
  refine sxo_move rfl rfl rfl ?_
  refine sxo_move rfl rfl rfl ?_
  refine sxo_call ent37 rfl rfl rfl (fun x10 e10 => C_R_PartsCopy F x1 a2 c3 x4 a5 c6 x10 e10) (.consF 0 rfl (.consF 1 rfl .nil)) (fun x10 e10 => ?_)
  rintro ⟨a11, c12⟩
  refine sxo_move rfl rfl rfl ?_
  refine sxo_extract rfl rfl rfl rfl ?_
  refine sxo_extract rfl rfl rfl rfl ?_
  refine sxo_assign rfl rfl rfl ?_
  refine sxo_assign rfl rfl rfl ?_
  refine sxo_nil ?_
  refine sxq_next ?_
  refine sxc_join (fun ((x15, _) : (Int × Unit)) => [(2, .slice a8 x7.length c9), (8, .slice a11 x10.1.length c12), (9, .int .i64 x15)]) (fun ((x15, _) : (Int × Unit)) => []) (fun ((x15, _) : (Int × Unit)) => [Ro (eI .i64) 3 1 (.slice a11 x10.1.length c12) x10.1]) (fun ((x15, _) : (Int × Unit)) => [Sl (eI .i64) 1 (.slice a8 x7.length c9) x7]) (fun ((x15, _) : (Int × Unit)) => M_R_PartsJoin_j1 F x7 x10 x15) ?_ ?_
  · refine sxc_seq ?_
    refine sxc_region ?_
    refine sxo_move rfl rfl rfl ?_
    refine sxo_eql rfl rfl rfl rfl ?_
    refine sxo_nil ?_
    refine sxq_next ?_
    refine sxc_if rfl (fun h22 => ?_) (fun h22 => ?_)
    · refine sxc_region ?_
      refine sxo_move rfl rfl rfl ?_
      refine sxo_call ent35 rfl rfl rfl (fun x21 e21 => C_R_RisingCheck F x7 a8 c9 x21 e21) (.consF 2 rfl .nil) (fun x21 e21 => ?_)
      intro _
      refine sxo_assign rfl rfl rfl ?_
      refine sxo_nil ?_
      exact sxq_meetP (x21, ()) (lk_cons rfl (lk_cons rfl (lk_cons rfl lk_nil))) .nil (.cons 0 rfl .nil) (fk_cons 2 rfl fk_nil)
    · refine sxc_skip ?_
      exact sxq_meetP (x10.2, ()) (lk_cons rfl (lk_cons rfl (lk_cons rfl lk_nil))) .nil (.cons 0 rfl .nil) (fk_cons 2 rfl fk_nil)
  · rintro ⟨x15, _⟩
    try dsimp only
    refine sxc_seq ?_
    refine sxc_seq ?_
    refine sxc_region ?_
    refine sxo_move rfl rfl rfl ?_
    refine sxo_neq rfl rfl rfl rfl ?_
    refine sxo_nil ?_
    refine sxq_next ?_
    refine sxc_if rfl (fun h20 => ?_) (fun h20 => ?_)
    · refine sxc_seq ?_
      refine sxc_region ?_
      refine sxo_move rfl rfl rfl ?_
      refine sxo_assign rfl rfl rfl ?_
      refine sxo_assign rfl rfl rfl ?_
      refine sxo_nil ?_
      refine sxq_next ?_
      refine sxc_ret ?_
      refine sxq_thenR ?_
      refine sxq_nilrow Int (eI .i64) 3 1 ?_
      exact sxq_doneP (none, 0) (.inl rfl) (res2 rfl rfl rfl) (fun h => by subst h; rfl) (fun h => by subst h; exact (.cons 0 rfl .nil))
    · refine sxc_skip ?_
      refine sxq_next ?_
      refine sxc_seq ?_
      refine sxc_region ?_
      refine sxo_move rfl rfl rfl ?_
      refine sxo_move rfl rfl rfl ?_
      refine sxo_call ent60 rfl rfl rfl (fun x17 e17 => C_R_Merged F x10.1 a11 c12 x7 a8 c9 x17 e17) (.consR 0 (Ro (eI .i64) 3 1 (.slice a11 x10.1.length c12) x10.1) rfl (.consF 0 rfl .nil)) (fun x17 e17 => ?_)
      rintro ⟨a18, c19⟩
      refine sxo_extract rfl rfl rfl rfl ?_
      refine sxo_extract rfl rfl rfl rfl ?_
      refine sxo_assign rfl rfl rfl ?_
      refine sxo_assign rfl rfl rfl ?_
      refine sxo_nil ?_
      refine sxq_next ?_
      refine sxc_ret ?_
      exact sxq_doneP (a18, c19) (.inl rfl) (res2 rfl rfl rfl) (fun h => by subst h; rfl) (fun h => by subst h; exact (.cons 0 rfl .nil))

set_option maxHeartbeats 4000000 in
theorem C_L_partsBegun (F : Nat)  (r : Bool) (hm : M_L_partsBegun F  = some r) :
    Pure Try.prog 39 [] [] Unit (fun _ => .bool r) (fun _ => []) (fun _ => []) := by
  refine pure_of Try.func39 rfl Try.ntmps39 rfl hm (fun w => ?_)
  refine sxc_env (l' := []) rfl ?_
  refine sxc_seq ?_
  refine sxc_region ?_
  refine sxo_assign rfl rfl rfl ?_
  refine sxo_nil ?_
  refine sxq_next ?_
  refine sxc_seq ?_
  refine sxc_region ?_
  refine sxo_slit (vs := [.int .i64 1, .int .i64 2, .int .i64 5, .int .i64 7, .int .i64 9]) (ys := ([1, 2, 5, 7, 9] : List Int)) (eI_ok .i64) (by decide) rfl Try.underlying32 tf3 rfl rfl rfl rfl rfl (by decide) (fun a1 c2 => ?_)
  refine sxo_slit (vs := [.int .i64 1, .int .i64 2, .int .i64 3, .int .i64 9]) (ys := ([1, 2, 3, 9] : List Int)) (eI_ok .i64) (by decide) rfl Try.underlying32 tf3 rfl rfl rfl rfl rfl (by decide) (fun a3 c4 => ?_)
  refine sxo_call ent32 rfl rfl rfl (fun x5 e5 => C_parts_Blocks F ([1, 2, 5, 7, 9] : List Int) a1 c2 ([1, 2, 3, 9] : List Int) a3 c4 x5 e5) (.consR 1 (Ro (eI .i64) 3 1 (.slice a1 ([1, 2, 5, 7, 9] : List Int).length c2) ([1, 2, 5, 7, 9] : List Int)) rfl (.consR 0 (Ro (eI .i64) 3 1 (.slice a3 ([1, 2, 3, 9] : List Int).length c4) ([1, 2, 3, 9] : List Int)) rfl .nil)) (fun x5 e5 => ?_)
  rintro ⟨⟨a6, c7⟩, ⟨a8, c9⟩⟩
  refine sxo_move rfl rfl rfl ?_
  refine sxo_extract rfl rfl rfl rfl ?_
  refine sxo_extract rfl rfl rfl rfl ?_
  refine sxo_extract rfl rfl rfl rfl ?_
  refine sxo_assign rfl rfl rfl ?_
  refine sxo_assign rfl rfl rfl ?_
  refine sxo_assign rfl rfl rfl ?_
  refine sxo_nil ?_
  refine sxq_next ?_
  refine sxc_seq ?_
  refine sxc_region ?_
  refine sxo_slit (vs := [.int .i64 1, .int .i64 2, .int .i64 5, .int .i64 7, .int .i64 9]) (ys := ([1, 2, 5, 7, 9] : List Int)) (eI_ok .i64) (by decide) rfl Try.underlying32 tf3 rfl rfl rfl rfl rfl (by decide) (fun a10 c11 => ?_)
  refine sxo_move rfl rfl rfl ?_
  refine sxo_call ent33 rfl rfl rfl (fun x12 e12 => C_parts_Copy F ([1, 2, 5, 7, 9] : List Int) a10 c11 x5.1 a6 c7 x12 e12) (.consR 0 (Ro (eI .i64) 3 1 (.slice a10 ([1, 2, 5, 7, 9] : List Int).length c11) ([1, 2, 5, 7, 9] : List Int)) rfl (.consR 1 (Ro (eI .i64) 3 1 (.slice a6 x5.1.length c7) x5.1) rfl .nil)) (fun x12 e12 => ?_)
  rintro ⟨a13, c14⟩
  refine sxo_move rfl rfl rfl ?_
  refine sxo_extract rfl rfl rfl rfl ?_
  refine sxo_extract rfl rfl rfl rfl ?_
  refine sxo_assign rfl rfl rfl ?_
  refine sxo_assign rfl rfl rfl ?_
  refine sxo_nil ?_
  refine sxq_next ?_
  refine sxc_seq ?_
  refine sxc_region ?_
  refine sxo_slit (vs := [.int .i64 1, .int .i64 2, .int .i64 5, .int .i64 7, .int .i64 9]) (ys := ([1, 2, 5, 7, 9] : List Int)) (eI_ok .i64) (by decide) rfl Try.underlying32 tf3 rfl rfl rfl rfl rfl (by decide) (fun a15 c16 => ?_)
  refine sxo_move rfl rfl rfl ?_
  refine sxo_move rfl rfl rfl ?_
  refine sxo_call ent34 rfl rfl rfl (fun x17 e17 => C_parts_Join F ([1, 2, 5, 7, 9] : List Int) a15 c16 x5.1 a6 c7 x5.2.1 a8 c9 x17 e17) (.consR 0 (Ro (eI .i64) 3 1 (.slice a15 ([1, 2, 5, 7, 9] : List Int).length c16) ([1, 2, 5, 7, 9] : List Int)) rfl (.consR 3 (Ro (eI .i64) 3 1 (.slice a6 x5.1.length c7) x5.1) rfl (.consR 4 (Ro (eI .i64) 3 1 (.slice a8 x5.2.1.length c9) x5.2.1) rfl .nil))) (fun x17 e17 => ?_)
  rintro ⟨a18, c19⟩
  refine sxo_move rfl rfl rfl ?_
  refine sxo_extract rfl rfl rfl rfl ?_
  refine sxo_extract rfl rfl rfl rfl ?_
  refine sxo_assign rfl rfl rfl ?_
  refine sxo_assign rfl rfl rfl ?_
  refine sxo_nil ?_
  refine sxq_next ?_
  refine sxc_seq ?_
  refine sxc_region ?_
  refine sxo_slit (vs := [.int .i64 4]) (ys := ([4] : List Int)) (eI_ok .i64) (by decide) rfl Try.underlying32 tf3 rfl rfl rfl rfl rfl (by decide) (fun a20 c21 => ?_)
  refine sxo_nilrow' Int (eI .i64) 3 1 ?_
  refine sxo_call ent32 rfl rfl rfl (fun x22 e22 => C_parts_Blocks F ([4] : List Int) a20 c21 ([] : List Int) none 0 x22 e22) (.consR 1 (Ro (eI .i64) 3 1 (.slice a20 ([4] : List Int).length c21) ([4] : List Int)) rfl (.consR 0 (Ro (eI .i64) 3 1 (.slice none ([] : List Int).length 0) ([] : List Int)) rfl .nil)) (fun x22 e22 => ?_)
  rintro ⟨⟨a23, c24⟩, ⟨a25, c26⟩⟩
  refine sxo_move rfl rfl rfl ?_
  refine sxo_extract rfl rfl rfl rfl ?_
  refine sxo_extract rfl rfl rfl rfl ?_
  refine sxo_extract rfl rfl rfl rfl ?_
  refine sxo_assign rfl rfl rfl ?_
  refine sxo_assign rfl rfl rfl ?_
  refine sxo_assign rfl rfl rfl ?_
  refine sxo_nil ?_
  refine sxq_next ?_
  refine sxc_seq ?_
  refine sxc_region ?_
  refine sxo_slit (vs := [.int .i64 4]) (ys := ([4] : List Int)) (eI_ok .i64) (by decide) rfl Try.underlying32 tf3 rfl rfl rfl rfl rfl (by decide) (fun a27 c28 => ?_)
  refine sxo_slit (vs := [.int .i64 2]) (ys := ([2] : List Int)) (eI_ok .i64) (by decide) rfl Try.underlying32 tf3 rfl rfl rfl rfl rfl (by decide) (fun a29 c30 => ?_)
  refine sxo_call ent33 rfl rfl rfl (fun x31 e31 => C_parts_Copy F ([4] : List Int) a27 c28 ([2] : List Int) a29 c30 x31 e31) (.consR 1 (Ro (eI .i64) 3 1 (.slice a27 ([4] : List Int).length c28) ([4] : List Int)) rfl (.consR 0 (Ro (eI .i64) 3 1 (.slice a29 ([2] : List Int).length c30) ([2] : List Int)) rfl .nil)) (fun x31 e31 => ?_)
  rintro ⟨a32, c33⟩
  refine sxo_move rfl rfl rfl ?_
  refine sxo_extract rfl rfl rfl rfl ?_
  refine sxo_extract rfl rfl rfl rfl ?_
  refine sxo_assign rfl rfl rfl ?_
  refine sxo_assign rfl rfl rfl ?_
  refine sxo_nil ?_
  refine sxq_next ?_
  refine sxc_seq ?_
  refine sxc_region ?_
  refine sxo_move rfl rfl rfl ?_
  refine sxo_slit (vs := [.int .i64 2, .int .i64 2]) (ys := ([2, 2] : List Int)) (eI_ok .i64) (by decide) rfl Try.underlying32 tf3 rfl rfl rfl rfl rfl (by decide) (fun a34 c35 => ?_)
  refine sxo_call ent29 rfl rfl rfl (fun x36 e36 => C_R_SameInts F x5.1 a6 c7 ([2, 2] : List Int) a34 c35 x36 e36) (.consR 12 (Ro (eI .i64) 3 1 (.slice a6 x5.1.length c7) x5.1) rfl (.consR 0 (Ro (eI .i64) 3 1 (.slice a34 ([2, 2] : List Int).length c35) ([2, 2] : List Int)) rfl .nil)) (fun x36 e36 => ?_)
  intro _
  refine sxo_move rfl rfl rfl ?_
  refine sxo_join 4 (fun ((x41, _) : (Bool × Unit)) => [(3, .int .i64 x5.2.2), (4, .slice a13 x12.1.length c14), (5, .int .i64 x12.2), (6, .slice a18 x17.1.length c19), (7, .int .i64 x17.2), (8, .slice a23 x22.1.length c24), (9, .slice a25 x22.2.1.length c26), (10, .int .i64 x22.2.2), (12, .int .i64 x31.2), (52, .bool x41)]) (fun ((x41, _) : (Bool × Unit)) => []) (fun ((x41, _) : (Bool × Unit)) => [Ro (eI .i64) 3 1 (.slice a13 x12.1.length c14) x12.1, Ro (eI .i64) 3 1 (.slice a18 x17.1.length c19) x17.1, Ro (eI .i64) 3 1 (.slice a23 x22.1.length c24) x22.1, Ro (eI .i64) 3 1 (.slice a25 x22.2.1.length c26) x22.2.1]) (fun ((x41, _) : (Bool × Unit)) => []) (fun ((x41, _) : (Bool × Unit)) => M_L_partsBegun_j1 F x5 x12 x17 x22 x31 x41) ?_ ?_
  · refine sxo_take (os := _) rfl ?_
    refine sxo_if (fun h37 => ?_) (fun h37 => ?_)
    · refine sxo_isT (k := 48) rfl h37 ?_
      refine sxo_move rfl rfl rfl ?_
      refine sxo_slit (vs := [.int .i64 3]) (ys := ([3] : List Int)) (eI_ok .i64) (by decide) rfl Try.underlying32 tf3 rfl rfl rfl rfl rfl (by decide) (fun a72 c73 => ?_)
      refine sxo_call ent29 rfl rfl rfl (fun x74 e74 => C_R_SameInts F x5.2.1 a8 c9 ([3] : List Int) a72 c73 x74 e74) (.consR 14 (Ro (eI .i64) 3 1 (.slice a8 x5.2.1.length c9) x5.2.1) rfl (.consR 0 (Ro (eI .i64) 3 1 (.slice a72 ([3] : List Int).length c73) ([3] : List Int)) rfl .nil)) (fun x74 e74 => ?_)
      intro _
      refine sxo_pick (b := true) rfl rfl rfl rfl ?_
      refine sxo_nil ?_
      exact sxq_meetP (x74, ()) (lk_cons rfl (lk_cons rfl (lk_cons rfl (lk_cons rfl (lk_cons rfl (lk_cons rfl (lk_cons rfl (lk_cons rfl (lk_cons rfl (lk_cons rfl lk_nil)))))))))) .nil (.cons 11 rfl (.cons 9 rfl (.cons 5 rfl (.cons 5 rfl .nil)))) fk_nil
    · refine sxo_isF (k := 48) rfl h37 ?_
      refine sxo_skip rfl rfl rfl ?_
      refine sxo_skip rfl rfl rfl ?_
      refine sxo_skip rfl rfl rfl ?_
      refine sxo_pick (b := false) rfl rfl rfl rfl ?_
      refine sxo_nil ?_
      exact sxq_meetP (false, ()) (lk_cons rfl (lk_cons rfl (lk_cons rfl (lk_cons rfl (lk_cons rfl (lk_cons rfl (lk_cons rfl (lk_cons rfl (lk_cons rfl (lk_cons rfl lk_nil)))))))))) .nil (.cons 10 rfl (.cons 8 rfl (.cons 4 rfl (.cons 4 rfl .nil)))) fk_nil
  · rintro ⟨x41, _⟩
    try dsimp only
    refine sxo_take (os := _) rfl ?_
    refine sxo_move rfl rfl rfl ?_
    refine sxo_case 3 x41 [(4, .slice a13 x12.1.length c14), (5, .int .i64 x12.2), (6, .slice a18 x17.1.length c19), (7, .int .i64 x17.2), (8, .slice a23 x22.1.length c24), (9, .slice a25 x22.2.1.length c26), (10, .int .i64 x22.2.2), (12, .int .i64 x31.2), (56, .bool (x41 && ((x5.2.2 : Int) == 0)))] (fun h42 => ?_) (fun h42 => ?_) ?_
    · refine sxo_take (os := _) rfl ?_
      refine sxo_isT (k := 53) rfl h42 ?_
      refine sxo_move rfl rfl rfl ?_
      refine sxo_eql rfl rfl rfl rfl ?_
      refine sxo_pick (b := true) rfl rfl rfl rfl ?_
      refine sxo_again (d := 56) (v := .bool (x41 && ((x5.2.2 : Int) == 0))) rfl (by rw [h42]; simp only [Bool.true_and]) ?_
      refine sxo_nil ?_
      exact sxq_case (lk_cons rfl (lk_cons rfl (lk_cons rfl (lk_cons rfl (lk_cons rfl (lk_cons rfl (lk_cons rfl (lk_cons rfl (lk_cons rfl lk_nil)))))))))
    · refine sxo_take (os := _) rfl ?_
      refine sxo_isF (k := 53) rfl h42 ?_
      refine sxo_skip rfl rfl rfl ?_
      refine sxo_skip rfl rfl rfl ?_
      refine sxo_pick (b := false) rfl rfl rfl rfl ?_
      refine sxo_again (d := 56) (v := .bool (x41 && ((x5.2.2 : Int) == 0))) rfl (by rw [h42]; simp only [Bool.false_and]) ?_
      refine sxo_nil ?_
      exact sxq_case (lk_cons rfl (lk_cons rfl (lk_cons rfl (lk_cons rfl (lk_cons rfl (lk_cons rfl (lk_cons rfl (lk_cons rfl (lk_cons rfl lk_nil)))))))))
    refine sxo_take (os := _) rfl ?_
    refine sxo_move rfl rfl rfl ?_
    refine sxo_join 4 (fun ((x47, _) : (Bool × Unit)) => [(5, .int .i64 x12.2), (6, .slice a18 x17.1.length c19), (7, .int .i64 x17.2), (8, .slice a23 x22.1.length c24), (9, .slice a25 x22.2.1.length c26), (10, .int .i64 x22.2.2), (12, .int .i64 x31.2), (61, .bool x47)]) (fun ((x47, _) : (Bool × Unit)) => []) (fun ((x47, _) : (Bool × Unit)) => [Ro (eI .i64) 3 1 (.slice a18 x17.1.length c19) x17.1, Ro (eI .i64) 3 1 (.slice a23 x22.1.length c24) x22.1, Ro (eI .i64) 3 1 (.slice a25 x22.2.1.length c26) x22.2.1]) (fun ((x47, _) : (Bool × Unit)) => []) (fun ((x47, _) : (Bool × Unit)) => M_L_partsBegun_j2 F x12 x17 x22 x31 x47) ?_ ?_
    · refine sxo_take (os := _) rfl ?_
      refine sxo_if (fun h43 => ?_) (fun h43 => ?_)
      · refine sxo_isT (k := 57) rfl h43 ?_
        refine sxo_move rfl rfl rfl ?_
        refine sxo_slit (vs := [.int .i64 1, .int .i64 2, .int .i64 9]) (ys := ([1, 2, 9] : List Int)) (eI_ok .i64) (by decide) rfl Try.underlying32 tf3 rfl rfl rfl rfl rfl (by decide) (fun a69 c70 => ?_)
        refine sxo_call ent29 rfl rfl rfl (fun x71 e71 => C_R_SameInts F x12.1 a13 c14 ([1, 2, 9] : List Int) a69 c70 x71 e71) (.consR 1 (Ro (eI .i64) 3 1 (.slice a13 x12.1.length c14) x12.1) rfl (.consR 0 (Ro (eI .i64) 3 1 (.slice a69 ([1, 2, 9] : List Int).length c70) ([1, 2, 9] : List Int)) rfl .nil)) (fun x71 e71 => ?_)
        intro _
        refine sxo_pick (b := true) rfl rfl rfl rfl ?_
        refine sxo_nil ?_
        exact sxq_meetP (x71, ()) (lk_cons rfl (lk_cons rfl (lk_cons rfl (lk_cons rfl (lk_cons rfl (lk_cons rfl (lk_cons rfl (lk_cons rfl lk_nil)))))))) .nil (.cons 2 rfl (.cons 2 rfl (.cons 2 rfl .nil))) fk_nil
      · refine sxo_isF (k := 57) rfl h43 ?_
        refine sxo_skip rfl rfl rfl ?_
        refine sxo_skip rfl rfl rfl ?_
        refine sxo_skip rfl rfl rfl ?_
        refine sxo_pick (b := false) rfl rfl rfl rfl ?_
        refine sxo_nil ?_
        exact sxq_meetP (false, ()) (lk_cons rfl (lk_cons rfl (lk_cons rfl (lk_cons rfl (lk_cons rfl (lk_cons rfl (lk_cons rfl (lk_cons rfl lk_nil)))))))) .nil (.cons 1 rfl (.cons 1 rfl (.cons 1 rfl .nil))) fk_nil
    · rintro ⟨x47, _⟩
      try dsimp only
      refine sxo_take (os := _) rfl ?_
      refine sxo_move rfl rfl rfl ?_
      refine sxo_case 3 x47 [(6, .slice a18 x17.1.length c19), (7, .int .i64 x17.2), (8, .slice a23 x22.1.length c24), (9, .slice a25 x22.2.1.length c26), (10, .int .i64 x22.2.2), (12, .int .i64 x31.2), (65, .bool (x47 && ((x12.2 : Int) == 0)))] (fun h48 => ?_) (fun h48 => ?_) ?_
      · refine sxo_take (os := _) rfl ?_
        refine sxo_isT (k := 62) rfl h48 ?_
        refine sxo_move rfl rfl rfl ?_
        refine sxo_eql rfl rfl rfl rfl ?_
        refine sxo_pick (b := true) rfl rfl rfl rfl ?_
        refine sxo_again (d := 65) (v := .bool (x47 && ((x12.2 : Int) == 0))) rfl (by rw [h48]; simp only [Bool.true_and]) ?_
        refine sxo_nil ?_
        exact sxq_case (lk_cons rfl (lk_cons rfl (lk_cons rfl (lk_cons rfl (lk_cons rfl (lk_cons rfl (lk_cons rfl lk_nil)))))))
      · refine sxo_take (os := _) rfl ?_
        refine sxo_isF (k := 62) rfl h48 ?_
        refine sxo_skip rfl rfl rfl ?_
        refine sxo_skip rfl rfl rfl ?_
        refine sxo_pick (b := false) rfl rfl rfl rfl ?_
        refine sxo_again (d := 65) (v := .bool (x47 && ((x12.2 : Int) == 0))) rfl (by rw [h48]; simp only [Bool.false_and]) ?_
        refine sxo_nil ?_
        exact sxq_case (lk_cons rfl (lk_cons rfl (lk_cons rfl (lk_cons rfl (lk_cons rfl (lk_cons rfl (lk_cons rfl lk_nil)))))))
      refine sxo_take (os := _) rfl ?_
      refine sxo_move rfl rfl rfl ?_
      refine sxo_join 4 (fun ((x53, _) : (Bool × Unit)) => [(7, .int .i64 x17.2), (8, .slice a23 x22.1.length c24), (9, .slice a25 x22.2.1.length c26), (10, .int .i64 x22.2.2), (12, .int .i64 x31.2), (70, .bool x53)]) (fun ((x53, _) : (Bool × Unit)) => []) (fun ((x53, _) : (Bool × Unit)) => [Ro (eI .i64) 3 1 (.slice a23 x22.1.length c24) x22.1, Ro (eI .i64) 3 1 (.slice a25 x22.2.1.length c26) x22.2.1]) (fun ((x53, _) : (Bool × Unit)) => []) (fun ((x53, _) : (Bool × Unit)) => M_L_partsBegun_j3 F x17 x22 x31 x53) ?_ ?_
      · refine sxo_take (os := _) rfl ?_
        refine sxo_if (fun h49 => ?_) (fun h49 => ?_)
        · refine sxo_isT (k := 66) rfl h49 ?_
          refine sxo_move rfl rfl rfl ?_
          refine sxo_slit (vs := [.int .i64 1, .int .i64 2, .int .i64 3, .int .i64 9]) (ys := ([1, 2, 3, 9] : List Int)) (eI_ok .i64) (by decide) rfl Try.underlying32 tf3 rfl rfl rfl rfl rfl (by decide) (fun a66 c67 => ?_)
          refine sxo_call ent29 rfl rfl rfl (fun x68 e68 => C_R_SameInts F x17.1 a18 c19 ([1, 2, 3, 9] : List Int) a66 c67 x68 e68) (.consR 1 (Ro (eI .i64) 3 1 (.slice a18 x17.1.length c19) x17.1) rfl (.consR 0 (Ro (eI .i64) 3 1 (.slice a66 ([1, 2, 3, 9] : List Int).length c67) ([1, 2, 3, 9] : List Int)) rfl .nil)) (fun x68 e68 => ?_)
          intro _
          refine sxo_pick (b := true) rfl rfl rfl rfl ?_
          refine sxo_nil ?_
          exact sxq_meetP (x68, ()) (lk_cons rfl (lk_cons rfl (lk_cons rfl (lk_cons rfl (lk_cons rfl (lk_cons rfl lk_nil)))))) .nil (.cons 2 rfl (.cons 2 rfl .nil)) fk_nil
        · refine sxo_isF (k := 66) rfl h49 ?_
          refine sxo_skip rfl rfl rfl ?_
          refine sxo_skip rfl rfl rfl ?_
          refine sxo_skip rfl rfl rfl ?_
          refine sxo_pick (b := false) rfl rfl rfl rfl ?_
          refine sxo_nil ?_
          exact sxq_meetP (false, ()) (lk_cons rfl (lk_cons rfl (lk_cons rfl (lk_cons rfl (lk_cons rfl (lk_cons rfl lk_nil)))))) .nil (.cons 1 rfl (.cons 1 rfl .nil)) fk_nil
      · rintro ⟨x53, _⟩
        try dsimp only
        refine sxo_take (os := _) rfl ?_
        refine sxo_move rfl rfl rfl ?_
        refine sxo_case 3 x53 [(8, .slice a23 x22.1.length c24), (9, .slice a25 x22.2.1.length c26), (10, .int .i64 x22.2.2), (12, .int .i64 x31.2), (74, .bool (x53 && ((x17.2 : Int) == 0)))] (fun h54 => ?_) (fun h54 => ?_) ?_
        · refine sxo_take (os := _) rfl ?_
          refine sxo_isT (k := 71) rfl h54 ?_
          refine sxo_move rfl rfl rfl ?_
          refine sxo_eql rfl rfl rfl rfl ?_
          refine sxo_pick (b := true) rfl rfl rfl rfl ?_
          refine sxo_again (d := 74) (v := .bool (x53 && ((x17.2 : Int) == 0))) rfl (by rw [h54]; simp only [Bool.true_and]) ?_
          refine sxo_nil ?_
          exact sxq_case (lk_cons rfl (lk_cons rfl (lk_cons rfl (lk_cons rfl (lk_cons rfl lk_nil)))))
        · refine sxo_take (os := _) rfl ?_
          refine sxo_isF (k := 71) rfl h54 ?_
          refine sxo_skip rfl rfl rfl ?_
          refine sxo_skip rfl rfl rfl ?_
          refine sxo_pick (b := false) rfl rfl rfl rfl ?_
          refine sxo_again (d := 74) (v := .bool (x53 && ((x17.2 : Int) == 0))) rfl (by rw [h54]; simp only [Bool.false_and]) ?_
          refine sxo_nil ?_
          exact sxq_case (lk_cons rfl (lk_cons rfl (lk_cons rfl (lk_cons rfl (lk_cons rfl lk_nil)))))
        refine sxo_take (os := _) rfl ?_
        refine sxo_move rfl rfl rfl ?_
        refine sxo_join 4 (fun ((x59, _) : (Bool × Unit)) => [(9, .slice a25 x22.2.1.length c26), (10, .int .i64 x22.2.2), (12, .int .i64 x31.2), (79, .bool x59)]) (fun ((x59, _) : (Bool × Unit)) => []) (fun ((x59, _) : (Bool × Unit)) => [Ro (eI .i64) 3 1 (.slice a25 x22.2.1.length c26) x22.2.1]) (fun ((x59, _) : (Bool × Unit)) => []) (fun ((x59, _) : (Bool × Unit)) => M_L_partsBegun_j4 F x22 x31 x59) ?_ ?_
        · refine sxo_take (os := _) rfl ?_
          refine sxo_if (fun h55 => ?_) (fun h55 => ?_)
          · refine sxo_isT (k := 75) rfl h55 ?_
            refine sxo_move rfl rfl rfl ?_
            refine sxo_slit (vs := [.int .i64 0]) (ys := ([0] : List Int)) (eI_ok .i64) (by decide) rfl Try.underlying32 tf3 rfl rfl rfl rfl rfl (by decide) (fun a63 c64 => ?_)
            refine sxo_call ent29 rfl rfl rfl (fun x65 e65 => C_R_SameInts F x22.1 a23 c24 ([0] : List Int) a63 c64 x65 e65) (.consR 1 (Ro (eI .i64) 3 1 (.slice a23 x22.1.length c24) x22.1) rfl (.consR 0 (Ro (eI .i64) 3 1 (.slice a63 ([0] : List Int).length c64) ([0] : List Int)) rfl .nil)) (fun x65 e65 => ?_)
            intro _
            refine sxo_pick (b := true) rfl rfl rfl rfl ?_
            refine sxo_nil ?_
            exact sxq_meetP (x65, ()) (lk_cons rfl (lk_cons rfl (lk_cons rfl (lk_cons rfl lk_nil)))) .nil (.cons 2 rfl .nil) fk_nil
          · refine sxo_isF (k := 75) rfl h55 ?_
            refine sxo_skip rfl rfl rfl ?_
            refine sxo_skip rfl rfl rfl ?_
            refine sxo_skip rfl rfl rfl ?_
            refine sxo_pick (b := false) rfl rfl rfl rfl ?_
            refine sxo_nil ?_
            exact sxq_meetP (false, ()) (lk_cons rfl (lk_cons rfl (lk_cons rfl (lk_cons rfl lk_nil)))) .nil (.cons 1 rfl .nil) fk_nil
        · rintro ⟨x59, _⟩
          try dsimp only
          refine sxo_take (os := _) rfl ?_
          refine sxo_move rfl rfl rfl ?_
          refine sxo_case 4 x59 [(10, .int .i64 x22.2.2), (12, .int .i64 x31.2), (84, .bool (x59 && (((x22.2.1.length : Int) : Int) == 0)))] (fun h60 => ?_) (fun h60 => ?_) ?_
          · refine sxo_take (os := _) rfl ?_
            refine sxo_isT (k := 80) rfl h60 ?_
            refine sxo_move rfl rfl rfl ?_
            refine sxo_len rfl Try.underlying32 rfl rfl ?_
            refine sxo_eql rfl rfl rfl rfl ?_
            refine sxo_pick (b := true) rfl rfl rfl rfl ?_
            refine sxo_again (d := 84) (v := .bool (x59 && (((x22.2.1.length : Int) : Int) == 0))) rfl (by rw [h60]; simp only [Bool.true_and]) ?_
            refine sxo_nil ?_
            exact sxq_case (lk_cons rfl (lk_cons rfl (lk_cons rfl lk_nil)))
          · refine sxo_take (os := _) rfl ?_
            refine sxo_isF (k := 80) rfl h60 ?_
            refine sxo_skip rfl rfl rfl ?_
            refine sxo_skip rfl rfl rfl ?_
            refine sxo_skip rfl rfl rfl ?_
            refine sxo_pick (b := false) rfl rfl rfl rfl ?_
            refine sxo_again (d := 84) (v := .bool (x59 && (((x22.2.1.length : Int) : Int) == 0))) rfl (by rw [h60]; simp only [Bool.false_and]) ?_
            refine sxo_nil ?_
            exact sxq_case (lk_cons rfl (lk_cons rfl (lk_cons rfl lk_nil)))
          refine sxo_take (os := _) rfl ?_
          refine sxo_move rfl rfl rfl ?_
          refine sxo_case 3 (x59 && (((x22.2.1.length : Int) : Int) == 0)) [(12, .int .i64 x31.2), (88, .bool ((x59 && (((x22.2.1.length : Int) : Int) == 0)) && ((x22.2.2 : Int) == 0)))] (fun h61 => ?_) (fun h61 => ?_) ?_
          · refine sxo_take (os := _) rfl ?_
            refine sxo_isT (k := 85) rfl h61 ?_
            refine sxo_move rfl rfl rfl ?_
            refine sxo_eql rfl rfl rfl rfl ?_
            refine sxo_pick (b := true) rfl rfl rfl rfl ?_
            refine sxo_again (d := 88) (v := .bool ((x59 && (((x22.2.1.length : Int) : Int) == 0)) && ((x22.2.2 : Int) == 0))) rfl (by rw [h61]; simp only [Bool.true_and]) ?_
            refine sxo_nil ?_
            exact sxq_case (lk_cons rfl (lk_cons rfl lk_nil))
          · refine sxo_take (os := _) rfl ?_
            refine sxo_isF (k := 85) rfl h61 ?_
            refine sxo_skip rfl rfl rfl ?_
            refine sxo_skip rfl rfl rfl ?_
            refine sxo_pick (b := false) rfl rfl rfl rfl ?_
            refine sxo_again (d := 88) (v := .bool ((x59 && (((x22.2.1.length : Int) : Int) == 0)) && ((x22.2.2 : Int) == 0))) rfl (by rw [h61]; simp only [Bool.false_and]) ?_
            refine sxo_nil ?_
            exact sxq_case (lk_cons rfl (lk_cons rfl lk_nil))
          refine sxo_take (os := _) rfl ?_
          refine sxo_move rfl rfl rfl ?_
          refine sxo_case 3 ((x59 && (((x22.2.1.length : Int) : Int) == 0)) && ((x22.2.2 : Int) == 0)) [(92, .bool (((x59 && (((x22.2.1.length : Int) : Int) == 0)) && ((x22.2.2 : Int) == 0)) && ((x31.2 : Int) == 8)))] (fun h62 => ?_) (fun h62 => ?_) ?_
          · refine sxo_take (os := _) rfl ?_
            refine sxo_isT (k := 89) rfl h62 ?_
            refine sxo_move rfl rfl rfl ?_
            refine sxo_eql rfl rfl rfl rfl ?_
            refine sxo_pick (b := true) rfl rfl rfl rfl ?_
            refine sxo_again (d := 92) (v := .bool (((x59 && (((x22.2.1.length : Int) : Int) == 0)) && ((x22.2.2 : Int) == 0)) && ((x31.2 : Int) == 8))) rfl (by rw [h62]; simp only [Bool.true_and]) ?_
            refine sxo_nil ?_
            exact sxq_case (lk_cons rfl lk_nil)
          · refine sxo_take (os := _) rfl ?_
            refine sxo_isF (k := 89) rfl h62 ?_
            refine sxo_skip rfl rfl rfl ?_
            refine sxo_skip rfl rfl rfl ?_
            refine sxo_pick (b := false) rfl rfl rfl rfl ?_
            refine sxo_again (d := 92) (v := .bool (((x59 && (((x22.2.1.length : Int) : Int) == 0)) && ((x22.2.2 : Int) == 0)) && ((x31.2 : Int) == 8))) rfl (by rw [h62]; simp only [Bool.false_and]) ?_
            refine sxo_nil ?_
            exact sxq_case (lk_cons rfl lk_nil)
          refine sxo_take (os := _) rfl ?_
          refine sxo_assign rfl rfl rfl ?_
          refine sxo_nil ?_
          refine sxq_next ?_
          refine sxc_ret ?_
          exact sxq_doneP () (.inl rfl) (res1 rfl rfl) (fun h => by subst h; rfl) (fun h => by subst h; exact .nil)

set_option maxHeartbeats 4000000 in
theorem C_L_PartsTell (F : Nat) (x1 : List Int) (a2 : Option Addr) (c3 : Nat) (x4 : List Int) (a5 : Option Addr) (c6 : Nat) (x7 : List Int) (a8 : Option Addr) (c9 : Nat) (r : Bool) (hm : M_L_PartsTell F x1 x4 x7 = some r) :
    Pure Try.prog 9 [.slice a2 x1.length c3, .slice a5 x4.length c6, .slice a8 x7.length c9] [Sl (eI .i64) 1 (.slice a2 x1.length c3) x1, Sl (eI .i64) 1 (.slice a5 x4.length c6) x4, Sl (eI .i64) 1 (.slice a8 x7.length c9) x7] Unit (fun _ => .bool r) (fun _ => []) (fun _ => []) := by
  refine pure_of Try.func9 rfl Try.ntmps9 rfl hm (fun w => ?_)
  refine sxc_env (l' := [(0, .slice a2 x1.length c3), (1, .slice a5 x4.length c6), (2, .slice a8 x7.length c9)]) rfl ?_
  refine sxc_seq ?_
  refine sxc_region ?_
  refine sxo_assign rfl rfl rfl ?_
  refine sxo_nil ?_
  refine sxq_next ?_
  refine sxc_seq ?_
  refine sxc_region ?_
  refine sxo_move rfl rfl rfl ?_
  refine sxo_move rfl rfl rfl ?_
  refine sxo_call ent32 rfl rfl rfl (fun x10 e10 => C_parts_Blocks F x1 a2 c3 x4 a5 c6 x10 e10) (.consF 0 rfl (.consF 1 rfl .nil)) (fun x10 e10 => ?_)
  rintro ⟨⟨a11, c12⟩, ⟨a13, c14⟩⟩
  refine sxo_move rfl rfl rfl ?_
  refine sxo_extract rfl rfl rfl rfl ?_
  refine sxo_extract rfl rfl rfl rfl ?_
  refine sxo_extract rfl rfl rfl rfl ?_
  refine sxo_assign rfl rfl rfl ?_
  refine sxo_assign rfl rfl rfl ?_
  refine sxo_assign rfl rfl rfl ?_
  refine sxo_nil ?_
  refine sxq_next ?_
  refine sxc_seq ?_
  refine sxc_region ?_
  refine sxo_move rfl rfl rfl ?_
  refine sxo_move rfl rfl rfl ?_
  refine sxo_call ent33 rfl rfl rfl (fun x15 e15 => C_parts_Copy F x1 a2 c3 x7 a8 c9 x15 e15) (.consF 0 rfl (.consF 2 rfl .nil)) (fun x15 e15 => ?_)
  rintro ⟨a16, c17⟩
  refine sxo_move rfl rfl rfl ?_
  refine sxo_extract rfl rfl rfl rfl ?_
  refine sxo_extract rfl rfl rfl rfl ?_
  refine sxo_assign rfl rfl rfl ?_
  refine sxo_assign rfl rfl rfl ?_
  refine sxo_nil ?_
  refine sxq_next ?_
  refine sxc_seq ?_
  refine sxc_region ?_
  refine sxo_move rfl rfl rfl ?_
  refine sxo_move rfl rfl rfl ?_
  refine sxo_move rfl rfl rfl ?_
  refine sxo_call ent34 rfl rfl rfl (fun x18 e18 => C_parts_Join F x1 a2 c3 x7 a8 c9 x4 a5 c6 x18 e18) (.consF 0 rfl (.consF 2 rfl (.consF 1 rfl .nil))) (fun x18 e18 => ?_)
  rintro ⟨a19, c20⟩
  refine sxo_move rfl rfl rfl ?_
  refine sxo_extract rfl rfl rfl rfl ?_
  refine sxo_extract rfl rfl rfl rfl ?_
  refine sxo_assign rfl rfl rfl ?_
  refine sxo_assign rfl rfl rfl ?_
  refine sxo_nil ?_
  refine sxq_next ?_
  refine sxc_seq ?_
  refine sxc_region ?_
  refine sxo_move rfl rfl rfl ?_
  refine sxo_call ent35 rfl rfl rfl (fun x21 e21 => C_R_RisingCheck F x1 a2 c3 x21 e21) (.consF 0 rfl .nil) (fun x21 e21 => ?_)
  intro _
  refine sxo_assign rfl rfl rfl ?_
  refine sxo_nil ?_
  refine sxq_next ?_
  refine sxc_join (fun ((x24, _) : (Int × Unit)) => [(0, .slice a2 x1.length c3), (1, .slice a5 x4.length c6), (2, .slice a8 x7.length c9), (7, .slice a11 x10.1.length c12), (8, .slice a13 x10.2.1.length c14), (9, .int .i64 x10.2.2), (10, .slice a16 x15.1.length c17), (11, .int .i64 x15.2), (12, .slice a19 x18.1.length c20), (13, .int .i64 x18.2), (14, .int .i64 x24)]) (fun ((x24, _) : (Int × Unit)) => []) (fun ((x24, _) : (Int × Unit)) => [Ro (eI .i64) 3 1 (.slice a11 x10.1.length c12) x10.1, Ro (eI .i64) 3 1 (.slice a13 x10.2.1.length c14) x10.2.1, Ro (eI .i64) 3 1 (.slice a16 x15.1.length c17) x15.1, Ro (eI .i64) 3 1 (.slice a19 x18.1.length c20) x18.1]) (fun ((x24, _) : (Int × Unit)) => [Sl (eI .i64) 1 (.slice a2 x1.length c3) x1, Sl (eI .i64) 1 (.slice a5 x4.length c6) x4, Sl (eI .i64) 1 (.slice a8 x7.length c9) x7]) (fun ((x24, _) : (Int × Unit)) => M_L_PartsTell_j1 F x1 x4 x7 x10 x15 x18 x24) ?_ ?_
  · refine sxc_seq ?_
    refine sxc_region ?_
    refine sxo_move rfl rfl rfl ?_
    refine sxo_eql rfl rfl rfl rfl ?_
    refine sxo_nil ?_
    refine sxq_next ?_
    refine sxc_if rfl (fun h73 => ?_) (fun h73 => ?_)
    · refine sxc_region ?_
      refine sxo_move rfl rfl rfl ?_
      refine sxo_call ent35 rfl rfl rfl (fun x72 e72 => C_R_RisingCheck F x4 a5 c6 x72 e72) (.consF 1 rfl .nil) (fun x72 e72 => ?_)
      intro _
      refine sxo_assign rfl rfl rfl ?_
      refine sxo_nil ?_
      exact sxq_meetP (x72, ()) (lk_cons rfl (lk_cons rfl (lk_cons rfl (lk_cons rfl (lk_cons rfl (lk_cons rfl (lk_cons rfl (lk_cons rfl (lk_cons rfl (lk_cons rfl (lk_cons rfl lk_nil))))))))))) .nil (.cons 2 rfl (.cons 2 rfl (.cons 1 rfl (.cons 0 rfl .nil)))) (fk_cons 0 rfl (fk_cons 1 rfl (fk_cons 2 rfl fk_nil)))
    · refine sxc_skip ?_
      exact sxq_meetP (x21, ()) (lk_cons rfl (lk_cons rfl (lk_cons rfl (lk_cons rfl (lk_cons rfl (lk_cons rfl (lk_cons rfl (lk_cons rfl (lk_cons rfl (lk_cons rfl (lk_cons rfl lk_nil))))))))))) .nil (.cons 2 rfl (.cons 2 rfl (.cons 1 rfl (.cons 0 rfl .nil)))) (fk_cons 0 rfl (fk_cons 1 rfl (fk_cons 2 rfl fk_nil)))
  · rintro ⟨x24, _⟩
    try dsimp only
    refine sxc_seq ?_
    refine sxc_region ?_
    refine sxo_assign rfl rfl rfl ?_
    refine sxo_assign rfl rfl rfl ?_
    refine sxo_nil ?_
    refine sxq_next ?_
    refine sxc_join (fun (((x36, x39), (a34, c35, a37, c38)) : ((List Int × List Int) × (Option Addr × Nat × Option Addr × Nat))) => [(0, .slice a2 x1.length c3), (1, .slice a5 x4.length c6), (2, .slice a8 x7.length c9), (7, .slice a11 x10.1.length c12), (8, .slice a13 x10.2.1.length c14), (9, .int .i64 x10.2.2), (10, .slice a16 x15.1.length c17), (11, .int .i64 x15.2), (12, .slice a19 x18.1.length c20), (13, .int .i64 x18.2), (14, .int .i64 x24), (15, .slice a34 x36.length c35), (16, .slice a37 x39.length c38)]) (fun (((x36, x39), (a34, c35, a37, c38)) : ((List Int × List Int) × (Option Addr × Nat × Option Addr × Nat))) => []) (fun (((x36, x39), (a34, c35, a37, c38)) : ((List Int × List Int) × (Option Addr × Nat × Option Addr × Nat))) => [Ro (eI .i64) 3 1 (.slice a11 x10.1.length c12) x10.1, Ro (eI .i64) 3 1 (.slice a13 x10.2.1.length c14) x10.2.1, Ro (eI .i64) 3 1 (.slice a16 x15.1.length c17) x15.1, Ro (eI .i64) 3 1 (.slice a19 x18.1.length c20) x18.1, Ro (eI .i64) 3 1 (.slice a34 x36.length c35) x36, Ro (eI .i64) 3 1 (.slice a37 x39.length c38) x39]) (fun (((x36, x39), (a34, c35, a37, c38)) : ((List Int × List Int) × (Option Addr × Nat × Option Addr × Nat))) => [Sl (eI .i64) 1 (.slice a2 x1.length c3) x1, Sl (eI .i64) 1 (.slice a5 x4.length c6) x4, Sl (eI .i64) 1 (.slice a8 x7.length c9) x7]) (fun (((x36, x39), _) : ((List Int × List Int) × (Option Addr × Nat × Option Addr × Nat))) => M_L_PartsTell_j2 F x1 x4 x7 x10 x15 x18 x24 x36 x39) ?_ ?_
    · refine sxc_seq ?_
      refine sxc_region ?_
      refine sxo_move rfl rfl rfl ?_
      refine sxo_eql rfl rfl rfl rfl ?_
      refine sxo_nil ?_
      refine sxq_next ?_
      refine sxc_if rfl (fun h71 => ?_) (fun h71 => ?_)
      · refine sxc_region ?_
        refine sxo_move rfl rfl rfl ?_
        refine sxo_move rfl rfl rfl ?_
        refine sxo_call ent36 rfl rfl rfl (fun x66 e66 => C_R_PartsBlocks F x1 a2 c3 x4 a5 c6 x66 e66) (.consF 0 rfl (.consF 1 rfl .nil)) (fun x66 e66 => ?_)
        rintro ⟨⟨a67, c68⟩, ⟨a69, c70⟩⟩
        refine sxo_move rfl rfl rfl ?_
        refine sxo_extract rfl rfl rfl rfl ?_
        refine sxo_extract rfl rfl rfl rfl ?_
        refine sxo_assign rfl rfl rfl ?_
        refine sxo_assign rfl rfl rfl ?_
        refine sxo_nil ?_
        exact sxq_meetP ((x66.1, x66.2), (a67, c68, a69, c70)) (lk_cons rfl (lk_cons rfl (lk_cons rfl (lk_cons rfl (lk_cons rfl (lk_cons rfl (lk_cons rfl (lk_cons rfl (lk_cons rfl (lk_cons rfl (lk_cons rfl (lk_cons rfl (lk_cons rfl lk_nil))))))))))))) .nil (.cons 2 rfl (.cons 2 rfl (.cons 2 rfl (.cons 2 rfl (.cons 0 rfl (.cons 0 rfl .nil)))))) (fk_cons 0 rfl (fk_cons 1 rfl (fk_cons 2 rfl fk_nil)))
      · refine sxc_skip ?_
        refine sxq_nilrow Int (eI .i64) 3 1 ?_
        refine sxq_nilrow Int (eI .i64) 3 1 ?_
        exact sxq_meetP ((([] : List Int), ([] : List Int)), (none, 0, none, 0)) (lk_cons rfl (lk_cons rfl (lk_cons rfl (lk_cons rfl (lk_cons rfl (lk_cons rfl (lk_cons rfl (lk_cons rfl (lk_cons rfl (lk_cons rfl (lk_cons rfl (lk_cons rfl (lk_cons rfl lk_nil))))))))))))) .nil (.cons 2 rfl (.cons 2 rfl (.cons 2 rfl (.cons 2 rfl (.cons 0 rfl (.cons 0 rfl .nil)))))) (fk_cons 0 rfl (fk_cons 1 rfl (fk_cons 2 rfl fk_nil)))
    · rintro ⟨⟨x36, x39⟩, ⟨a34, c35, a37, c38⟩⟩
      try dsimp only
      refine sxc_seq ?_
      refine sxc_region ?_
      refine sxo_move rfl rfl rfl ?_
      refine sxo_move rfl rfl rfl ?_
      refine sxo_call ent37 rfl rfl rfl (fun x40 e40 => C_R_PartsCopy F x1 a2 c3 x7 a8 c9 x40 e40) (.consF 0 rfl (.consF 2 rfl .nil)) (fun x40 e40 => ?_)
      rintro ⟨a41, c42⟩
      refine sxo_move rfl rfl rfl ?_
      refine sxo_extract rfl rfl rfl rfl ?_
      refine sxo_extract rfl rfl rfl rfl ?_
      refine sxo_assign rfl rfl rfl ?_
      refine sxo_assign rfl rfl rfl ?_
      refine sxo_nil ?_
      refine sxq_next ?_
      refine sxc_seq ?_
      refine sxc_region ?_
      refine sxo_move rfl rfl rfl ?_
      refine sxo_move rfl rfl rfl ?_
      refine sxo_move rfl rfl rfl ?_
      refine sxo_call ent38 rfl rfl rfl (fun x43 e43 => C_R_PartsJoin F x1 a2 c3 x7 a8 c9 x4 a5 c6 x43 e43) (.consF 0 rfl (.consF 2 rfl (.consF 1 rfl .nil))) (fun x43 e43 => ?_)
      rintro ⟨a44, c45⟩
      refine sxo_move rfl rfl rfl ?_
      refine sxo_extract rfl rfl rfl rfl ?_
      refine sxo_extract rfl rfl rfl rfl ?_
      refine sxo_assign rfl rfl rfl ?_
      refine sxo_assign rfl rfl rfl ?_
      refine sxo_nil ?_
      refine sxq_next ?_
      refine sxc_seq ?_
      refine sxc_region ?_
      refine sxo_call ent39 rfl rfl rfl (fun x46 e46 => C_L_partsBegun F  x46 e46) .nil (fun x46 e46 => ?_)
      intro _
      refine sxo_move rfl rfl rfl ?_
      refine sxo_join 4 (fun ((x49, _) : (Bool × Unit)) => [(8, .slice a13 x10.2.1.length c14), (9, .int .i64 x10.2.2), (10, .slice a16 x15.1.length c17), (11, .int .i64 x15.2), (12, .slice a19 x18.1.length c20), (13, .int .i64 x18.2), (14, .int .i64 x24), (16, .slice a37 x39.length c38), (17, .slice a41 x40.1.length c42), (18, .int .i64 x40.2), (19, .slice a44 x43.1.length c45), (20, .int .i64 x43.2), (73, .bool x49)]) (fun ((x49, _) : (Bool × Unit)) => []) (fun ((x49, _) : (Bool × Unit)) => [Ro (eI .i64) 3 1 (.slice a13 x10.2.1.length c14) x10.2.1, Ro (eI .i64) 3 1 (.slice a16 x15.1.length c17) x15.1, Ro (eI .i64) 3 1 (.slice a19 x18.1.length c20) x18.1, Ro (eI .i64) 3 1 (.slice a37 x39.length c38) x39, Ro (eI .i64) 3 1 (.slice a41 x40.1.length c42) x40.1, Ro (eI .i64) 3 1 (.slice a44 x43.1.length c45) x43.1]) (fun ((x49, _) : (Bool × Unit)) => []) (fun ((x49, _) : (Bool × Unit)) => M_L_PartsTell_j3 F x10 x15 x18 x24 x39 x40 x43 x49) ?_ ?_
      · refine sxo_take (os := _) rfl ?_
        refine sxo_if (fun h47 => ?_) (fun h47 => ?_)
        · refine sxo_isT (k := 69) rfl h47 ?_
          refine sxo_move rfl rfl rfl ?_
          refine sxo_move rfl rfl rfl ?_
          refine sxo_call ent29 rfl rfl rfl (fun x65 e65 => C_R_SameInts F x10.1 a11 c12 x36 a34 c35 x65 e65) (.consR 2 (Ro (eI .i64) 3 1 (.slice a11 x10.1.length c12) x10.1) rfl (.consR 6 (Ro (eI .i64) 3 1 (.slice a34 x36.length c35) x36) rfl .nil)) (fun x65 e65 => ?_)
          intro _
          refine sxo_pick (b := true) rfl rfl rfl rfl ?_
          refine sxo_nil ?_
          exact sxq_meetP (x65, ()) (lk_cons rfl (lk_cons rfl (lk_cons rfl (lk_cons rfl (lk_cons rfl (lk_cons rfl (lk_cons rfl (lk_cons rfl (lk_cons rfl (lk_cons rfl (lk_cons rfl (lk_cons rfl (lk_cons rfl lk_nil))))))))))))) .nil (.cons 3 rfl (.cons 3 rfl (.cons 3 rfl (.cons 4 rfl (.cons 1 rfl (.cons 0 rfl .nil)))))) fk_nil
        · refine sxo_isF (k := 69) rfl h47 ?_
          refine sxo_skip rfl rfl rfl ?_
          refine sxo_skip rfl rfl rfl ?_
          refine sxo_skip rfl rfl rfl ?_
          refine sxo_pick (b := false) rfl rfl rfl rfl ?_
          refine sxo_nil ?_
          exact sxq_meetP (false, ()) (lk_cons rfl (lk_cons rfl (lk_cons rfl (lk_cons rfl (lk_cons rfl (lk_cons rfl (lk_cons rfl (lk_cons rfl (lk_cons rfl (lk_cons rfl (lk_cons rfl (lk_cons rfl (lk_cons rfl lk_nil))))))))))))) .nil (.cons 3 rfl (.cons 3 rfl (.cons 3 rfl (.cons 4 rfl (.cons 1 rfl (.cons 0 rfl .nil)))))) fk_nil
      · rintro ⟨x49, _⟩
        try dsimp only
        refine sxo_take (os := _) rfl ?_
        refine sxo_move rfl rfl rfl ?_
        refine sxo_join 4 (fun ((x52, _) : (Bool × Unit)) => [(9, .int .i64 x10.2.2), (10, .slice a16 x15.1.length c17), (11, .int .i64 x15.2), (12, .slice a19 x18.1.length c20), (13, .int .i64 x18.2), (14, .int .i64 x24), (17, .slice a41 x40.1.length c42), (18, .int .i64 x40.2), (19, .slice a44 x43.1.length c45), (20, .int .i64 x43.2), (78, .bool x52)]) (fun ((x52, _) : (Bool × Unit)) => []) (fun ((x52, _) : (Bool × Unit)) => [Ro (eI .i64) 3 1 (.slice a16 x15.1.length c17) x15.1, Ro (eI .i64) 3 1 (.slice a19 x18.1.length c20) x18.1, Ro (eI .i64) 3 1 (.slice a41 x40.1.length c42) x40.1, Ro (eI .i64) 3 1 (.slice a44 x43.1.length c45) x43.1]) (fun ((x52, _) : (Bool × Unit)) => []) (fun ((x52, _) : (Bool × Unit)) => M_L_PartsTell_j4 F x10 x15 x18 x24 x40 x43 x52) ?_ ?_
        · refine sxo_take (os := _) rfl ?_
          refine sxo_if (fun h50 => ?_) (fun h50 => ?_)
          · refine sxo_isT (k := 74) rfl h50 ?_
            refine sxo_move rfl rfl rfl ?_
            refine sxo_move rfl rfl rfl ?_
            refine sxo_call ent29 rfl rfl rfl (fun x64 e64 => C_R_SameInts F x10.2.1 a13 c14 x39 a37 c38 x64 e64) (.consR 0 (Ro (eI .i64) 3 1 (.slice a13 x10.2.1.length c14) x10.2.1) rfl (.consR 3 (Ro (eI .i64) 3 1 (.slice a37 x39.length c38) x39) rfl .nil)) (fun x64 e64 => ?_)
            intro _
            refine sxo_pick (b := true) rfl rfl rfl rfl ?_
            refine sxo_nil ?_
            exact sxq_meetP (x64, ()) (lk_cons rfl (lk_cons rfl (lk_cons rfl (lk_cons rfl (lk_cons rfl (lk_cons rfl (lk_cons rfl (lk_cons rfl (lk_cons rfl (lk_cons rfl (lk_cons rfl lk_nil))))))))))) .nil (.cons 1 rfl (.cons 1 rfl (.cons 2 rfl (.cons 2 rfl .nil)))) fk_nil
          · refine sxo_isF (k := 74) rfl h50 ?_
            refine sxo_skip rfl rfl rfl ?_
            refine sxo_skip rfl rfl rfl ?_
            refine sxo_skip rfl rfl rfl ?_
            refine sxo_pick (b := false) rfl rfl rfl rfl ?_
            refine sxo_nil ?_
            exact sxq_meetP (false, ()) (lk_cons rfl (lk_cons rfl (lk_cons rfl (lk_cons rfl (lk_cons rfl (lk_cons rfl (lk_cons rfl (lk_cons rfl (lk_cons rfl (lk_cons rfl (lk_cons rfl lk_nil))))))))))) .nil (.cons 1 rfl (.cons 1 rfl (.cons 2 rfl (.cons 2 rfl .nil)))) fk_nil
        · rintro ⟨x52, _⟩
          try dsimp only
          refine sxo_take (os := _) rfl ?_
          refine sxo_move rfl rfl rfl ?_
          refine sxo_case 4 x52 [(10, .slice a16 x15.1.length c17), (11, .int .i64 x15.2), (12, .slice a19 x18.1.length c20), (13, .int .i64 x18.2), (17, .slice a41 x40.1.length c42), (18, .int .i64 x40.2), (19, .slice a44 x43.1.length c45), (20, .int .i64 x43.2), (83, .bool (x52 && ((x10.2.2 : Int) == x24)))] (fun h53 => ?_) (fun h53 => ?_) ?_
          · refine sxo_take (os := _) rfl ?_
            refine sxo_isT (k := 79) rfl h53 ?_
            refine sxo_move rfl rfl rfl ?_
            refine sxo_move rfl rfl rfl ?_
            refine sxo_eql rfl rfl rfl rfl ?_
            refine sxo_pick (b := true) rfl rfl rfl rfl ?_
            refine sxo_again (d := 83) (v := .bool (x52 && ((x10.2.2 : Int) == x24))) rfl (by rw [h53]; simp only [Bool.true_and]) ?_
            refine sxo_nil ?_
            exact sxq_case (lk_cons rfl (lk_cons rfl (lk_cons rfl (lk_cons rfl (lk_cons rfl (lk_cons rfl (lk_cons rfl (lk_cons rfl (lk_cons rfl lk_nil)))))))))
          · refine sxo_take (os := _) rfl ?_
            refine sxo_isF (k := 79) rfl h53 ?_
            refine sxo_skip rfl rfl rfl ?_
            refine sxo_skip rfl rfl rfl ?_
            refine sxo_skip rfl rfl rfl ?_
            refine sxo_pick (b := false) rfl rfl rfl rfl ?_
            refine sxo_again (d := 83) (v := .bool (x52 && ((x10.2.2 : Int) == x24))) rfl (by rw [h53]; simp only [Bool.false_and]) ?_
            refine sxo_nil ?_
            exact sxq_case (lk_cons rfl (lk_cons rfl (lk_cons rfl (lk_cons rfl (lk_cons rfl (lk_cons rfl (lk_cons rfl (lk_cons rfl (lk_cons rfl lk_nil)))))))))
          refine sxo_take (os := _) rfl ?_
          refine sxo_move rfl rfl rfl ?_
          refine sxo_join 4 (fun ((x56, _) : (Bool × Unit)) => [(11, .int .i64 x15.2), (12, .slice a19 x18.1.length c20), (13, .int .i64 x18.2), (18, .int .i64 x40.2), (19, .slice a44 x43.1.length c45), (20, .int .i64 x43.2), (88, .bool x56)]) (fun ((x56, _) : (Bool × Unit)) => []) (fun ((x56, _) : (Bool × Unit)) => [Ro (eI .i64) 3 1 (.slice a19 x18.1.length c20) x18.1, Ro (eI .i64) 3 1 (.slice a44 x43.1.length c45) x43.1]) (fun ((x56, _) : (Bool × Unit)) => []) (fun ((x56, _) : (Bool × Unit)) => M_L_PartsTell_j5 F x15 x18 x40 x43 x56) ?_ ?_
          · refine sxo_take (os := _) rfl ?_
            refine sxo_if (fun h54 => ?_) (fun h54 => ?_)
            · refine sxo_isT (k := 84) rfl h54 ?_
              refine sxo_move rfl rfl rfl ?_
              refine sxo_move rfl rfl rfl ?_
              refine sxo_call ent29 rfl rfl rfl (fun x63 e63 => C_R_SameInts F x15.1 a16 c17 x40.1 a41 c42 x63 e63) (.consR 0 (Ro (eI .i64) 3 1 (.slice a16 x15.1.length c17) x15.1) rfl (.consR 2 (Ro (eI .i64) 3 1 (.slice a41 x40.1.length c42) x40.1) rfl .nil)) (fun x63 e63 => ?_)
              intro _
              refine sxo_pick (b := true) rfl rfl rfl rfl ?_
              refine sxo_nil ?_
              exact sxq_meetP (x63, ()) (lk_cons rfl (lk_cons rfl (lk_cons rfl (lk_cons rfl (lk_cons rfl (lk_cons rfl (lk_cons rfl lk_nil))))))) .nil (.cons 1 rfl (.cons 2 rfl .nil)) fk_nil
            · refine sxo_isF (k := 84) rfl h54 ?_
              refine sxo_skip rfl rfl rfl ?_
              refine sxo_skip rfl rfl rfl ?_
              refine sxo_skip rfl rfl rfl ?_
              refine sxo_pick (b := false) rfl rfl rfl rfl ?_
              refine sxo_nil ?_
              exact sxq_meetP (false, ()) (lk_cons rfl (lk_cons rfl (lk_cons rfl (lk_cons rfl (lk_cons rfl (lk_cons rfl (lk_cons rfl lk_nil))))))) .nil (.cons 1 rfl (.cons 2 rfl .nil)) fk_nil
          · rintro ⟨x56, _⟩
            try dsimp only
            refine sxo_take (os := _) rfl ?_
            refine sxo_move rfl rfl rfl ?_
            refine sxo_case 4 x56 [(12, .slice a19 x18.1.length c20), (13, .int .i64 x18.2), (19, .slice a44 x43.1.length c45), (20, .int .i64 x43.2), (93, .bool (x56 && ((x15.2 : Int) == x40.2)))] (fun h57 => ?_) (fun h57 => ?_) ?_
            · refine sxo_take (os := _) rfl ?_
              refine sxo_isT (k := 89) rfl h57 ?_
              refine sxo_move rfl rfl rfl ?_
              refine sxo_move rfl rfl rfl ?_
              refine sxo_eql rfl rfl rfl rfl ?_
              refine sxo_pick (b := true) rfl rfl rfl rfl ?_
              refine sxo_again (d := 93) (v := .bool (x56 && ((x15.2 : Int) == x40.2))) rfl (by rw [h57]; simp only [Bool.true_and]) ?_
              refine sxo_nil ?_
              exact sxq_case (lk_cons rfl (lk_cons rfl (lk_cons rfl (lk_cons rfl (lk_cons rfl lk_nil)))))
            · refine sxo_take (os := _) rfl ?_
              refine sxo_isF (k := 89) rfl h57 ?_
              refine sxo_skip rfl rfl rfl ?_
              refine sxo_skip rfl rfl rfl ?_
              refine sxo_skip rfl rfl rfl ?_
              refine sxo_pick (b := false) rfl rfl rfl rfl ?_
              refine sxo_again (d := 93) (v := .bool (x56 && ((x15.2 : Int) == x40.2))) rfl (by rw [h57]; simp only [Bool.false_and]) ?_
              refine sxo_nil ?_
              exact sxq_case (lk_cons rfl (lk_cons rfl (lk_cons rfl (lk_cons rfl (lk_cons rfl lk_nil)))))
            refine sxo_take (os := _) rfl ?_
            refine sxo_move rfl rfl rfl ?_
            refine sxo_join 4 (fun ((x60, _) : (Bool × Unit)) => [(13, .int .i64 x18.2), (20, .int .i64 x43.2), (98, .bool x60)]) (fun ((x60, _) : (Bool × Unit)) => []) (fun ((x60, _) : (Bool × Unit)) => []) (fun ((x60, _) : (Bool × Unit)) => []) (fun ((x60, _) : (Bool × Unit)) => M_L_PartsTell_j6 F x18 x43 x60) ?_ ?_
            · refine sxo_take (os := _) rfl ?_
              refine sxo_if (fun h58 => ?_) (fun h58 => ?_)
              · refine sxo_isT (k := 94) rfl h58 ?_
                refine sxo_move rfl rfl rfl ?_
                refine sxo_move rfl rfl rfl ?_
                refine sxo_call ent29 rfl rfl rfl (fun x62 e62 => C_R_SameInts F x18.1 a19 c20 x43.1 a44 c45 x62 e62) (.consR 0 (Ro (eI .i64) 3 1 (.slice a19 x18.1.length c20) x18.1) rfl (.consR 1 (Ro (eI .i64) 3 1 (.slice a44 x43.1.length c45) x43.1) rfl .nil)) (fun x62 e62 => ?_)
                intro _
                refine sxo_pick (b := true) rfl rfl rfl rfl ?_
                refine sxo_nil ?_
                exact sxq_meetP (x62, ()) (lk_cons rfl (lk_cons rfl (lk_cons rfl lk_nil))) .nil .nil fk_nil
              · refine sxo_isF (k := 94) rfl h58 ?_
                refine sxo_skip rfl rfl rfl ?_
                refine sxo_skip rfl rfl rfl ?_
                refine sxo_skip rfl rfl rfl ?_
                refine sxo_pick (b := false) rfl rfl rfl rfl ?_
                refine sxo_nil ?_
                exact sxq_meetP (false, ()) (lk_cons rfl (lk_cons rfl (lk_cons rfl lk_nil))) .nil .nil fk_nil
            · rintro ⟨x60, _⟩
              try dsimp only
              refine sxo_take (os := _) rfl ?_
              refine sxo_move rfl rfl rfl ?_
              refine sxo_case 4 x60 [(103, .bool (x60 && ((x18.2 : Int) == x43.2)))] (fun h61 => ?_) (fun h61 => ?_) ?_
              · refine sxo_take (os := _) rfl ?_
                refine sxo_isT (k := 99) rfl h61 ?_
                refine sxo_move rfl rfl rfl ?_
                refine sxo_move rfl rfl rfl ?_
                refine sxo_eql rfl rfl rfl rfl ?_
                refine sxo_pick (b := true) rfl rfl rfl rfl ?_
                refine sxo_again (d := 103) (v := .bool (x60 && ((x18.2 : Int) == x43.2))) rfl (by rw [h61]; simp only [Bool.true_and]) ?_
                refine sxo_nil ?_
                exact sxq_case (lk_cons rfl lk_nil)
              · refine sxo_take (os := _) rfl ?_
                refine sxo_isF (k := 99) rfl h61 ?_
                refine sxo_skip rfl rfl rfl ?_
                refine sxo_skip rfl rfl rfl ?_
                refine sxo_skip rfl rfl rfl ?_
                refine sxo_pick (b := false) rfl rfl rfl rfl ?_
                refine sxo_again (d := 103) (v := .bool (x60 && ((x18.2 : Int) == x43.2))) rfl (by rw [h61]; simp only [Bool.false_and]) ?_
                refine sxo_nil ?_
                exact sxq_case (lk_cons rfl lk_nil)
              refine sxo_take (os := _) rfl ?_
              refine sxo_assign rfl rfl rfl ?_
              refine sxo_nil ?_
              refine sxq_next ?_
              refine sxc_ret ?_
              exact sxq_doneP () (.inl rfl) (res1 rfl rfl) (fun h => by subst h; rfl) (fun h => by subst h; exact .nil)
end Go.Proofs.Ytghkjonlhphcjaa
