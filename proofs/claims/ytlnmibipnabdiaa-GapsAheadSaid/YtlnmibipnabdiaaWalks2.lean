/- Each Go function of this seat computes what its model says, part 2. -/
import Derived.Test.YtlnmibipnabdiaaWalks
namespace Go.Proofs.Ytlnmibipnabdiaa
open Go SX
theorem C_golomb_FromZeta (F : Nat) (x1 : Int) (x2 : List Int) (a3 : Option Addr) (c4 : Nat) (x5 : Int) (x6 : Int) (r : (Int × Int × Int)) (hm : M_golomb_FromZeta F x1 x2 x5 x6 = some r) :
    Pure Try.prog 69 [.agg #[.int .i64 x1, .slice a3 x2.length c4], .int .i64 x5, .int .i64 x6] [Sl (eI .u8) 1 (.slice a3 x2.length c4) x2] Unit (fun _ => .tuple #[.int .u64 r.1, .int .i64 r.2.1, .int .i64 r.2.2]) (fun _ => []) (fun _ => []) := by
  refine pure_of Try.func69 rfl Try.ntmps69 rfl hm (fun w => ?_)
  refine sxc_env (l' := [(0, .agg #[.int .i64 x1, .slice a3 x2.length c4]), (1, .int .i64 x5), (2, .int .i64 x6)]) rfl ?_
  refine sxc_seq ?_
  refine sxc_region ?_
  refine sxo_box rfl rfl rfl (fun g7 => ?_)
  refine sxo_assign rfl rfl rfl ?_
  refine sxo_assign rfl rfl rfl ?_
  refine sxo_assign rfl rfl rfl ?_
  refine sxo_nil ?_
  refine sxq_next ?_
  refine sxc_seq ?_
  refine sxc_region ?_
  refine sxo_loadB (i := 0) rfl rfl tf31 rfl rfl (by simp) rfl rfl ?_
  refine sxo_move rfl rfl rfl ?_
  refine sxo_call ent89 rfl rfl rfl (fun x8 e8 => C_unary_From F x1 x2 a3 c4 x5 x8 e8) (.consF 0 rfl .nil) (fun x8 e8 => ?_)
  intro _
  refine sxo_move rfl rfl rfl ?_
  refine sxo_extract rfl rfl rfl rfl ?_
  refine sxo_extract rfl rfl rfl rfl ?_
  refine sxo_extract rfl rfl rfl rfl ?_
  refine sxo_assign rfl rfl rfl ?_
  refine sxo_assign rfl rfl rfl ?_
  refine sxo_assign rfl rfl rfl ?_
  refine sxo_nil ?_
  refine sxq_next ?_
  refine sxc_seq ?_
  refine sxc_seq ?_
  refine sxc_region ?_
  refine sxo_move rfl rfl rfl ?_
  refine sxo_not rfl rfl rfl ?_
  refine sxo_nil ?_
  refine sxq_next ?_
  refine sxc_if rfl (fun h23 => ?_) (fun h23 => ?_)
  · refine sxc_seq ?_
    refine sxc_region ?_
    refine sxo_assign rfl rfl rfl ?_
    refine sxo_assign rfl rfl rfl ?_
    refine sxo_assign rfl rfl rfl ?_
    refine sxo_nil ?_
    refine sxq_next ?_
    refine sxc_ret ?_
    refine sxq_thenR ?_
    exact sxq_doneP () (.inl rfl) (res3 rfl rfl rfl rfl) (fun h => by subst h; rfl) (fun h => by subst h; exact .nil)
  · refine sxc_skip ?_
    refine sxq_next ?_
    refine sxc_seq ?_
    refine sxc_seq ?_
    refine sxc_region ?_
    refine sxo_move rfl rfl rfl ?_
    refine sxo_move rfl rfl rfl ?_
    refine sxo_conv rfl Try.underlying3 Try.underlying46 rfl rfl ?_
    refine sxo_mul rfl rfl rfl rfl ?_
    refine sxo_geq rfl rfl rfl rfl ?_
    refine sxo_nil ?_
    refine sxq_next ?_
    refine sxc_if rfl (fun h22 => ?_) (fun h22 => ?_)
    · refine sxc_seq ?_
      refine sxc_region ?_
      refine sxo_assign rfl rfl rfl ?_
      refine sxo_assign rfl rfl rfl ?_
      refine sxo_assign rfl rfl rfl ?_
      refine sxo_nil ?_
      refine sxq_next ?_
      refine sxc_ret ?_
      refine sxq_thenR ?_
      exact sxq_doneP () (.inl rfl) (res3 rfl rfl rfl rfl) (fun h => by subst h; rfl) (fun h => by subst h; exact .nil)
    · refine sxc_skip ?_
      refine sxq_next ?_
      refine sxc_seq ?_
      refine sxc_region ?_
      refine sxo_move rfl rfl rfl ?_
      refine sxo_conv rfl Try.underlying46 Try.underlying3 rfl rfl ?_
      refine sxo_move rfl rfl rfl ?_
      refine sxo_mul rfl rfl rfl rfl ?_
      refine sxo_chk (fun h11 => ?_)
      refine sxo_shl rfl rfl rfl rfl h11 ?_
      refine sxo_assign rfl rfl rfl ?_
      refine sxo_lett (fun x12 e12 => ?_)
      refine sxo_again (d := 12) (v := .int .u64 x12) rfl (by rw [e12]) ?_
      refine sxo_nil ?_
      refine sxq_next ?_
      refine sxc_seq ?_
      refine sxc_chk (fun h17 => ?_)
      refine sxb_draw mixed [] [⟨g7, 31, [.int .i64 x1, .slice a3 x2.length c4]⟩] [Sl (eI .u8) 1 (.slice a3 x2.length c4) x2] (.cons 0 rfl .nil) (gk_F 0 rfl gk_nil) 15 rfl ?_
      refine sxb_take 0 (.agg #[.int .i64 x1, .slice a3 x2.length c4]) [] rfl rfl rfl rfl (by kernel_rfl) (by kernel_rfl) (by kernel_rfl) (by kernel_rfl) (by kernel_rfl) (by kernel_rfl) rfl (show _ = #[true, false, false, false, false, false, false, false, false, false, false, false, false, false, false] from rfl) (yv_loadB (i := 0) rfl tf31 rfl rfl (by simp) rfl) ?_
      refine sxb_takeP 1 (.int .i64 x8.2.1) rfl rfl rfl rfl (by kernel_rfl) (by kernel_rfl) (by kernel_rfl) (by kernel_rfl) (by kernel_rfl) rfl (show _ = #[true, true, false, false, false, false, false, false, false, false, false, false, false, false, false] from rfl) (yv_pv rfl) ?_
      refine sxb_takeP 2 (.int .u64 x12) rfl rfl rfl rfl (by kernel_rfl) (by kernel_rfl) (by kernel_rfl) (by kernel_rfl) (by kernel_rfl) rfl (show _ = #[true, true, true, false, false, false, false, false, false, false, false, false, false, false, false] from rfl) (yv_pv rfl) ?_
      refine sxb_takeP 3 (.int .i64 x6) rfl rfl rfl rfl (by kernel_rfl) (by kernel_rfl) (by kernel_rfl) (by kernel_rfl) (by kernel_rfl) rfl (show _ = #[true, true, true, true, false, false, false, false, false, false, false, false, false, false, false] from rfl) (yv_pv rfl) ?_
      refine sxb_takeP 4 (.int .u64 (ishl .u64 x12 x6)) rfl rfl rfl rfl (by kernel_rfl) (by kernel_rfl) (by kernel_rfl) (by kernel_rfl) (by kernel_rfl) rfl (show _ = #[true, true, true, true, true, false, false, false, false, false, false, false, false, false, false] from rfl) (yv_shl rfl rfl h17) ?_
      refine sxb_takeP 5 (.int .u64 x12) rfl rfl rfl rfl (by kernel_rfl) (by kernel_rfl) (by kernel_rfl) (by kernel_rfl) (by kernel_rfl) rfl (show _ = #[true, true, true, true, true, true, false, false, false, false, false, false, false, false, false] from rfl) (yv_pv rfl) ?_
      refine sxb_takeP 6 (.int .u64 (isub .u64 (ishl .u64 x12 x6) x12)) rfl rfl rfl rfl (by kernel_rfl) (by kernel_rfl) (by kernel_rfl) (by kernel_rfl) (by kernel_rfl) rfl (show _ = #[true, true, true, true, true, true, true, false, false, false, false, false, false, false, false] from rfl) (yv_pv rfl) ?_
      refine sxb_step 7 rfl (by kernel_rfl) (show _ = #[true, true, true, true, true, true, true, true, false, false, false, false, false, false, false] from rfl) ?_
      refine sxo_call ent90 rfl rfl rfl (fun x20 e20 => C_golomb_fromLeast F x1 x2 a3 c4 x8.2.1 (isub .u64 (ishl .u64 x12 x6) x12) x20 e20) (.consF 0 rfl .nil) (fun x20 e20 => ?_)
      intro _
      refine sxo_nil ?_
      refine sxq_anyB (.cons 0 rfl .nil) (gk_F 0 rfl gk_nil) ?_
      refine sxb_takeP 8 (.tuple #[.int .u64 x20.1, .int .i64 x20.2.1, .bool x20.2.2]) rfl rfl rfl rfl (by kernel_rfl) (by kernel_rfl) (by kernel_rfl) (by kernel_rfl) (by kernel_rfl) rfl (show _ = #[true, true, true, true, true, true, true, true, true, false, false, false, false, false, false] from rfl) (yv_pv rfl) ?_
      refine sxb_takeP 9 (.int .u64 x20.1) rfl rfl rfl rfl (by kernel_rfl) (by kernel_rfl) (by kernel_rfl) (by kernel_rfl) (by kernel_rfl) rfl (show _ = #[true, true, true, true, true, true, true, true, true, true, false, false, false, false, false] from rfl) (yv_pv rfl) ?_
      refine sxb_takeP 10 (.int .i64 x20.2.1) rfl rfl rfl rfl (by kernel_rfl) (by kernel_rfl) (by kernel_rfl) (by kernel_rfl) (by kernel_rfl) rfl (show _ = #[true, true, true, true, true, true, true, true, true, true, true, false, false, false, false] from rfl) (yv_pv rfl) ?_
      refine sxb_takeP 11 (.bool x20.2.2) rfl rfl rfl rfl (by kernel_rfl) (by kernel_rfl) (by kernel_rfl) (by kernel_rfl) (by kernel_rfl) rfl (show _ = #[true, true, true, true, true, true, true, true, true, true, true, true, false, false, false] from rfl) (yv_pv rfl) ?_
      refine sxb_takeP 12 (.int .u64 x20.1) rfl rfl rfl rfl (by kernel_rfl) (by kernel_rfl) (by kernel_rfl) (by kernel_rfl) (by kernel_rfl) rfl (show _ = #[true, true, true, true, true, true, true, true, true, true, true, true, true, false, false] from rfl) (yv_pv rfl) ?_
      refine sxb_takeP 13 (.int .i64 x20.2.1) rfl rfl rfl rfl (by kernel_rfl) (by kernel_rfl) (by kernel_rfl) (by kernel_rfl) (by kernel_rfl) rfl (show _ = #[true, true, true, true, true, true, true, true, true, true, true, true, true, true, false] from rfl) (yv_pv rfl) ?_
      refine sxb_takeP 14 (.bool x20.2.2) rfl rfl rfl rfl (by kernel_rfl) (by kernel_rfl) (by kernel_rfl) (by kernel_rfl) (by kernel_rfl) rfl (show _ = #[true, true, true, true, true, true, true, true, true, true, true, true, true, true, true] from rfl) (yv_pv rfl) ?_
      refine sxb_done (by kernel_rfl) ?_
      refine sxq_np ?_ (by intro c h; cases h)
      refine sxq_next ?_
      refine sxc_seq ?_
      refine sxc_region ?_
      refine sxo_move rfl rfl rfl ?_
      refine sxo_move rfl rfl rfl ?_
      refine sxo_add rfl rfl rfl rfl ?_
      refine sxo_sub rfl rfl rfl rfl ?_
      refine sxo_move rfl rfl rfl ?_
      refine sxo_move rfl rfl rfl ?_
      refine sxo_call ent91 rfl rfl rfl (fun x21 e21 => C_golomb_ended F (isub .u64 (iadd .u64 x12 x20.1) 1) x20.2.1 x20.2.2 x21 e21) .nil (fun x21 e21 => ?_)
      intro _
      refine sxo_extract rfl rfl rfl rfl ?_
      refine sxo_extract rfl rfl rfl rfl ?_
      refine sxo_extract rfl rfl rfl rfl ?_
      refine sxo_assign rfl rfl rfl ?_
      refine sxo_assign rfl rfl rfl ?_
      refine sxo_assign rfl rfl rfl ?_
      refine sxo_nil ?_
      refine sxq_next ?_
      refine sxc_ret ?_
      exact sxq_doneP () (.inl rfl) (res3 rfl rfl rfl rfl) (fun h => by subst h; rfl) (fun h => by subst h; exact .nil)

theorem C_gaps_From (F : Nat) (x1 : Int) (x2 : List Int) (a3 : Option Addr) (c4 : Nat) (x5 : Int) (x6 : Int) (x7 : Int) (x8 : Int) (r : (List Int × Int × Int)) (hm : M_gaps_From F x1 x2 x5 x6 x7 x8 = some r) :
    Pure Try.prog 50 [.agg #[.int .i64 x1, .slice a3 x2.length c4], .int .i64 x5, .int .i64 x6, .int .i64 x7, .int .i64 x8] [Sl (eI .u8) 1 (.slice a3 x2.length c4) x2] (Option Addr × Nat) (fun g => .tuple #[.slice g.1 r.1.length g.2, .int .i64 r.2.1, .int .i64 r.2.2]) (fun g => [Ro (eI .i64) 3 1 (.slice g.1 r.1.length g.2) r.1]) (fun _ => []) := by
  refine pure_of Try.func50 rfl Try.ntmps50 rfl hm (fun w => ?_)
  refine sxc_env (l' := [(0, .agg #[.int .i64 x1, .slice a3 x2.length c4]), (1, .int .i64 x5), (2, .int .i64 x6), (3, .int .i64 x7), (4, .int .i64 x8)]) rfl ?_
  refine sxc_seq ?_
  refine sxc_region ?_
  refine sxo_box rfl rfl rfl (fun g9 => ?_)
  refine sxo_assign rfl rfl rfl ?_
  refine sxo_assign rfl rfl rfl ?_
  refine sxo_assign rfl rfl rfl ?_
  refine sxo_nil ?_
  refine sxq_next ?_
  refine sxc_seq ?_
  refine sxc_region ?_
  refine sxo_move rfl rfl rfl ?_
  refine sxo_build (cells := [.int .i64 x6, .bool false]) rfl st67 rfl (by kernel_rfl) rfl ?_
  refine sxo_box rfl rfl rfl (fun g10 => ?_)
  refine sxo_assign rfl rfl rfl ?_
  refine sxo_nil ?_
  refine sxq_next ?_
  refine sxc_join (fun (((x105, x108), (a106, c107)) : ((Int × List Int) × (Option Addr × Nat))) => [(1, .int .i64 x105), (10, .slice a106 x108.length c107)]) (fun (((x105, x108), (a106, c107)) : ((Int × List Int) × (Option Addr × Nat))) => []) (fun (((x105, x108), (a106, c107)) : ((Int × List Int) × (Option Addr × Nat))) => [Ro (eI .i64) 3 1 (.slice a106 x108.length c107) x108]) (fun (((x105, x108), (a106, c107)) : ((Int × List Int) × (Option Addr × Nat))) => []) (fun (((x105, x108), _) : ((Int × List Int) × (Option Addr × Nat))) => M_gaps_From_j2 F x105 x108) ?_ ?_
  · refine sxc_seq ?_
    refine sxc_region ?_
    refine sxo_move rfl rfl rfl ?_
    refine sxo_move rfl rfl rfl ?_
    refine sxo_nil ?_
    refine sxq_next ?_
    refine sxc_block ?_
    refine sxc_nilrow Int (eI .i64) 3 1 ?_
    refine sxc_loopP (fun (((x138, x141, x142, x143, x144), (a139, c140)) : ((Int × List Int × Int × Int × Bool) × (Option Addr × Nat))) => [(1, .int .i64 x138), (3, .int .i64 x7), (5, .pointer (some ⟨g9, 0, none⟩)), (10, .slice a139 x141.length c140), (13, .pointer (some ⟨g10, 0, none⟩)), (18, .int .i64 x8), (19, .int .i64 x142)]) (fun (((x138, x141, x142, x143, x144), (a139, c140)) : ((Int × List Int × Int × Int × Bool) × (Option Addr × Nat))) => [⟨g10, 67, [.int .i64 x143, .bool x144]⟩, ⟨g9, 31, [.int .i64 x1, .slice a3 x2.length c4]⟩]) (fun (((x138, x141, x142, x143, x144), (a139, c140)) : ((Int × List Int × Int × Int × Bool) × (Option Addr × Nat))) => [Ro (eI .i64) 3 1 (.slice a139 x141.length c140) x141]) (fun (((x138, x141, x142, x143, x144), (a139, c140)) : ((Int × List Int × Int × Int × Bool) × (Option Addr × Nat))) => [Sl (eI .u8) 1 (.slice a3 x2.length c4) x2]) (fun k (s : ((Int × List Int × Int × Int × Bool) × (Option Addr × Nat))) => M_gaps_From_l3 F x1 x2 x7 x8 k s.1) ((x5, ([] : List Int), 0, x6, false), (none, 0)) F (lk_cons rfl (lk_cons rfl (lk_cons rfl (lk_cons rfl (lk_cons rfl (lk_cons rfl (lk_cons rfl lk_nil))))))) (.cons 0 rfl (.cons 0 rfl .nil)) (.cons 0 rfl .nil) (fk_cons 0 rfl fk_nil) (fun _ => rfl) ?_
    intro k173
    rintro ⟨⟨x138, x141, x142, x143, x144⟩, ⟨a139, c140⟩⟩
    try dsimp only
    refine sxc_meq (m' := M_gaps_From_b3 F x1 x2 x7 x8 (M_gaps_From_l3 F x1 x2 x7 x8 k173) x138 x141 x142 x143 x144) rfl ?_
    refine sxc_seq ?_
    refine sxc_region ?_
    refine sxo_lss rfl rfl rfl rfl ?_
    refine sxo_nil ?_
    refine sxq_next ?_
    refine sxc_seq ?_
    refine sxc_if rfl (fun h201 => ?_) (fun h201 => ?_)
    · refine sxc_skip ?_
      refine sxq_next ?_
      refine sxc_seq ?_
      refine sxc_block ?_
      refine sxc_seq ?_
      refine sxc_region ?_
      refine sxo_assign rfl rfl rfl ?_
      refine sxo_nil ?_
      refine sxq_next ?_
      refine sxc_seq ?_
      refine sxc_seq ?_
      refine sxc_region ?_
      refine sxo_loadB (i := 1) rfl rfl tf31 rfl rfl (by simp) rfl rfl ?_
      refine sxo_move rfl rfl rfl ?_
      refine sxo_move rfl rfl rfl ?_
      refine sxo_call ent69 rfl rfl rfl (fun x190 e190 => C_golomb_FromZeta F x1 x2 a3 c4 x138 x7 x190 e190) (.consF 0 rfl .nil) (fun x190 e190 => ?_)
      intro _
      refine sxo_move rfl rfl rfl ?_
      refine sxo_extract rfl rfl rfl rfl ?_
      refine sxo_extract rfl rfl rfl rfl ?_
      refine sxo_extract rfl rfl rfl rfl ?_
      refine sxo_assign rfl rfl rfl ?_
      refine sxo_assign rfl rfl rfl ?_
      refine sxo_assign rfl rfl rfl ?_
      refine sxo_nil ?_
      refine sxq_next ?_
      refine sxc_seq ?_
      refine sxc_region ?_
      refine sxo_move rfl rfl rfl ?_
      refine sxo_neq rfl rfl rfl rfl ?_
      refine sxo_nil ?_
      refine sxq_next ?_
      refine sxc_if rfl (fun h200 => ?_) (fun h200 => ?_)
      · refine sxc_seq ?_
        refine sxc_region ?_
        refine sxo_move rfl rfl rfl ?_
        refine sxo_assign rfl rfl rfl ?_
        refine sxo_assign rfl rfl rfl ?_
        refine sxo_assign rfl rfl rfl ?_
        refine sxo_nil ?_
        refine sxq_next ?_
        refine sxc_ret ?_
        refine sxq_thenR ?_
        refine sxq_blkR ?_
        refine sxq_thenR ?_
        refine sxq_thenR ?_
        refine sxq_blkR ?_
        refine sxq_thenR ?_
        refine sxq_nilrow Int (eI .i64) 3 1 ?_
        exact sxq_doneP (none, 0) (.inl rfl) (res3 rfl rfl rfl rfl) (fun h => by subst h; rfl) (fun h => by subst h; exact (.cons 0 rfl .nil))
      · refine sxc_skip ?_
        refine sxq_next ?_
        refine sxc_seq ?_
        refine sxc_seq ?_
        refine sxc_region ?_
        refine sxo_move rfl rfl rfl ?_
        refine sxo_move rfl rfl rfl ?_
        refine sxo_callM ent41 rfl rfl rfl (fun x193 e193 => C_gaps_walker_step F g10 x143 x144 x190.1 x193 e193) (.cons 0 rfl .nil) .nil .nil (fun x193 e193 => ?_)
        intro _
        refine sxo_not rfl rfl rfl ?_
        refine sxo_nil ?_
        refine sxq_next ?_
        refine sxc_if rfl (fun h199 => ?_) (fun h199 => ?_)
        · refine sxc_seq ?_
          refine sxc_region ?_
          refine sxo_assign rfl rfl rfl ?_
          refine sxo_assign rfl rfl rfl ?_
          refine sxo_assign rfl rfl rfl ?_
          refine sxo_nil ?_
          refine sxq_next ?_
          refine sxc_ret ?_
          refine sxq_thenR ?_
          refine sxq_blkR ?_
          refine sxq_thenR ?_
          refine sxq_thenR ?_
          refine sxq_blkR ?_
          refine sxq_thenR ?_
          refine sxq_nilrow Int (eI .i64) 3 1 ?_
          exact sxq_doneP (none, 0) (.inl rfl) (res3 rfl rfl rfl rfl) (fun h => by subst h; rfl) (fun h => by subst h; exact (.cons 0 rfl .nil))
        · refine sxc_skip ?_
          refine sxq_next ?_
          refine sxc_region ?_
          refine sxo_move rfl rfl rfl ?_
          refine sxo_move rfl rfl rfl ?_
          refine sxo_nilCheck rfl rfl rfl ?_
          refine sxo_fieldAddr rfl rfl ff67_0 rfl ?_
          refine sxo_loadB (i := 0) rfl rfl tf3 rfl rfl (fun _ => rfl) rfl rfl ?_
          refine sxo_slit (vs := [.int .i64 x193.2.1]) (ys := ([x193.2.1] : List Int)) (eI_ok .i64) (by decide) rfl Try.underlying22 tf3 rfl rfl rfl rfl rfl (by decide) (fun a194 c195 => ?_)
          refine sxo_app 1 (eI_ok .i64) rfl Try.underlying22 tf3 rfl rfl rfl rfl rfl (.inl ⟨0, _, rfl⟩) rfl rfl (fun x196 e196 a197 c198 => ?_)
          refine sxo_assign rfl rfl rfl ?_
          refine sxo_nil ?_
          refine sxq_blkN ?_
          refine sxq_next ?_
          refine sxc_region ?_
          refine sxo_add rfl rfl rfl rfl ?_
          refine sxo_move rfl rfl rfl ?_
          refine sxo_nil ?_
          exact sxq_againP ((x190.2.1, x196, iadd .i64 x142 1, x193.2.1, x193.2.2), (a197, c198)) (lk_cons rfl (lk_cons rfl (lk_cons rfl (lk_cons rfl (lk_cons rfl (lk_cons rfl (lk_cons rfl lk_nil))))))) (.cons 0 rfl (.cons 0 rfl .nil)) (.cons 0 rfl .nil) (fk_cons 0 rfl fk_nil)
    · refine sxc_exit ?_
      refine sxq_thenX ?_
      refine sxq_thenX ?_
      refine sxq_blkX ?_
      exact sxq_meetP ((x138, x141), (a139, c140)) (lk_cons rfl (lk_cons rfl lk_nil)) .nil (.cons 0 rfl .nil) fk_nil
  · rintro ⟨⟨x105, x108⟩, ⟨a106, c107⟩⟩
    try dsimp only
    refine sxc_seq ?_
    refine sxc_region ?_
    refine sxo_move rfl rfl rfl ?_
    refine sxo_move rfl rfl rfl ?_
    refine sxo_assign rfl rfl rfl ?_
    refine sxo_assign rfl rfl rfl ?_
    refine sxo_assign rfl rfl rfl ?_
    refine sxo_nil ?_
    refine sxq_next ?_
    refine sxc_ret ?_
    exact sxq_doneP (a106, c107) (.inl rfl) (res3 rfl rfl rfl rfl) (fun h => by subst h; rfl) (fun h => by subst h; exact (.cons 0 rfl .nil))

theorem C_gaps_Read (F : Nat) (x1 : Int) (x2 : List Int) (a3 : Option Addr) (c4 : Nat) (x5 : Int) (x6 : Int) (x7 : Int) (x8 : Int) (r : (List Int × Int × Int)) (hm : M_gaps_Read F x1 x2 x5 x6 x7 x8 = some r) :
    Pure Try.prog 27 [.agg #[.int .i64 x1, .slice a3 x2.length c4], .int .i64 x5, .int .i64 x6, .int .i64 x7, .int .i64 x8] [Sl (eI .u8) 1 (.slice a3 x2.length c4) x2] (Option Addr × Nat) (fun g => .tuple #[.slice g.1 r.1.length g.2, .int .i64 r.2.1, .int .i64 r.2.2]) (fun g => [Ro (eI .i64) 3 1 (.slice g.1 r.1.length g.2) r.1]) (fun _ => []) := by
  refine pure_of Try.func27 rfl Try.ntmps27 rfl hm (fun w => ?_)
  refine sxc_env (l' := [(0, .agg #[.int .i64 x1, .slice a3 x2.length c4]), (1, .int .i64 x5), (2, .int .i64 x6), (3, .int .i64 x7), (4, .int .i64 x8)]) rfl ?_
  refine sxc_seq ?_
  refine sxc_region ?_
  refine sxo_box rfl rfl rfl (fun g9 => ?_)
  refine sxo_assign rfl rfl rfl ?_
  refine sxo_assign rfl rfl rfl ?_
  refine sxo_assign rfl rfl rfl ?_
  refine sxo_nil ?_
  refine sxq_next ?_
  refine sxc_seq ?_
  refine sxc_region ?_
  refine sxo_loadB (i := 0) rfl rfl tf31 rfl rfl (by simp) rfl rfl ?_
  refine sxo_move rfl rfl rfl ?_
  refine sxo_call ent49 rfl rfl rfl (fun x10 e10 => C_elias_Check F x1 x2 a3 c4 x5 x10 e10) (.consF 0 rfl .nil) (fun x10 e10 => ?_)
  intro _
  refine sxo_assign rfl rfl rfl ?_
  refine sxo_nil ?_
  refine sxq_next ?_
  refine sxc_join (fun ((x24, _) : (Int × Unit)) => [(1, .int .i64 x5), (2, .int .i64 x6), (3, .int .i64 x7), (4, .int .i64 x8), (5, .pointer (some ⟨g9, 0, none⟩)), (13, .int .i64 x24)]) (fun ((x24, _) : (Int × Unit)) => [⟨g9, 31, [.int .i64 x1, .slice a3 x2.length c4]⟩]) (fun ((x24, _) : (Int × Unit)) => []) (fun ((x24, _) : (Int × Unit)) => [Sl (eI .u8) 1 (.slice a3 x2.length c4) x2]) (fun ((x24, _) : (Int × Unit)) => M_gaps_Read_j2 F x1 x2 x5 x6 x7 x8 x24) ?_ ?_
  · refine sxc_seq ?_
    refine sxc_region ?_
    refine sxo_move rfl rfl rfl ?_
    refine sxo_eql rfl rfl rfl rfl ?_
    refine sxo_move rfl rfl rfl ?_
    refine sxo_join 20 (fun ((x36, _) : (Bool × Unit)) => [(1, .int .i64 x5), (2, .int .i64 x6), (3, .int .i64 x7), (4, .int .i64 x8), (5, .pointer (some ⟨g9, 0, none⟩)), (13, .int .i64 x10), (39, .bool x36)]) (fun ((x36, _) : (Bool × Unit)) => [⟨g9, 31, [.int .i64 x1, .slice a3 x2.length c4]⟩]) (fun ((x36, _) : (Bool × Unit)) => []) (fun ((x36, _) : (Bool × Unit)) => [Sl (eI .u8) 1 (.slice a3 x2.length c4) x2]) (fun ((x36, _) : (Bool × Unit)) => M_gaps_Read_j3 F x1 x2 x5 x6 x7 x8 x10 x36) ?_ ?_
    · refine sxo_take (os := _) rfl ?_
      refine sxo_if (fun h30 => ?_) (fun h30 => ?_)
      · refine sxo_isT (k := 19) rfl h30 ?_
        refine sxo_move rfl rfl rfl ?_
        refine sxo_call ent39 rfl rfl rfl (fun x38 e38 => C_gaps_node F x6 x38 e38) .nil (fun x38 e38 => ?_)
        intro _
        refine sxo_not rfl rfl rfl ?_
        refine sxo_move rfl rfl rfl ?_
        refine sxo_case 3 (!x38) [(1, .int .i64 x5), (2, .int .i64 x6), (3, .int .i64 x7), (4, .int .i64 x8), (5, .pointer (some ⟨g9, 0, none⟩)), (13, .int .i64 x10), (19, .bool true), (26, .bool ((!x38) || (decide (x7 < 1))))] (fun h39 => ?_) (fun h39 => ?_) ?_
        · refine sxo_take (os := _) rfl ?_
          refine sxo_isT (k := 23) rfl h39 ?_
          refine sxo_skip rfl rfl rfl ?_
          refine sxo_skip rfl rfl rfl ?_
          refine sxo_pick (b := true) rfl rfl rfl rfl ?_
          refine sxo_again (d := 26) (v := .bool ((!x38) || (decide (x7 < 1)))) rfl (by rw [h39]; simp only [Bool.true_or]) ?_
          refine sxo_nil ?_
          exact sxq_case (lk_cons rfl (lk_cons rfl (lk_cons rfl (lk_cons rfl (lk_cons rfl (lk_cons rfl (lk_cons rfl (lk_cons rfl lk_nil))))))))
        · refine sxo_take (os := _) rfl ?_
          refine sxo_isF (k := 23) rfl h39 ?_
          refine sxo_move rfl rfl rfl ?_
          refine sxo_lss rfl rfl rfl rfl ?_
          refine sxo_pick (b := false) rfl rfl rfl rfl ?_
          refine sxo_again (d := 26) (v := .bool ((!x38) || (decide (x7 < 1)))) rfl (by rw [h39]; simp only [Bool.false_or]) ?_
          refine sxo_nil ?_
          exact sxq_case (lk_cons rfl (lk_cons rfl (lk_cons rfl (lk_cons rfl (lk_cons rfl (lk_cons rfl (lk_cons rfl (lk_cons rfl lk_nil))))))))
        refine sxo_take (os := _) rfl ?_
        refine sxo_move rfl rfl rfl ?_
        refine sxo_case 3 ((!x38) || (decide (x7 < 1))) [(1, .int .i64 x5), (2, .int .i64 x6), (3, .int .i64 x7), (4, .int .i64 x8), (5, .pointer (some ⟨g9, 0, none⟩)), (13, .int .i64 x10), (19, .bool true), (30, .bool (((!x38) || (decide (x7 < 1))) || (decide (16 < x7))))] (fun h40 => ?_) (fun h40 => ?_) ?_
        · refine sxo_take (os := _) rfl ?_
          refine sxo_isT (k := 27) rfl h40 ?_
          refine sxo_skip rfl rfl rfl ?_
          refine sxo_skip rfl rfl rfl ?_
          refine sxo_pick (b := true) rfl rfl rfl rfl ?_
          refine sxo_again (d := 30) (v := .bool (((!x38) || (decide (x7 < 1))) || (decide (16 < x7)))) rfl (by rw [h40]; simp only [Bool.true_or]) ?_
          refine sxo_nil ?_
          exact sxq_case (lk_cons rfl (lk_cons rfl (lk_cons rfl (lk_cons rfl (lk_cons rfl (lk_cons rfl (lk_cons rfl (lk_cons rfl lk_nil))))))))
        · refine sxo_take (os := _) rfl ?_
          refine sxo_isF (k := 27) rfl h40 ?_
          refine sxo_move rfl rfl rfl ?_
          refine sxo_gtr rfl rfl rfl rfl ?_
          refine sxo_pick (b := false) rfl rfl rfl rfl ?_
          refine sxo_again (d := 30) (v := .bool (((!x38) || (decide (x7 < 1))) || (decide (16 < x7)))) rfl (by rw [h40]; simp only [Bool.false_or]) ?_
          refine sxo_nil ?_
          exact sxq_case (lk_cons rfl (lk_cons rfl (lk_cons rfl (lk_cons rfl (lk_cons rfl (lk_cons rfl (lk_cons rfl (lk_cons rfl lk_nil))))))))
        refine sxo_take (os := _) rfl ?_
        refine sxo_move rfl rfl rfl ?_
        refine sxo_case 3 (((!x38) || (decide (x7 < 1))) || (decide (16 < x7))) [(1, .int .i64 x5), (2, .int .i64 x6), (3, .int .i64 x7), (4, .int .i64 x8), (5, .pointer (some ⟨g9, 0, none⟩)), (13, .int .i64 x10), (19, .bool true), (34, .bool ((((!x38) || (decide (x7 < 1))) || (decide (16 < x7))) || (decide (x8 < 0))))] (fun h41 => ?_) (fun h41 => ?_) ?_
        · refine sxo_take (os := _) rfl ?_
          refine sxo_isT (k := 31) rfl h41 ?_
          refine sxo_skip rfl rfl rfl ?_
          refine sxo_skip rfl rfl rfl ?_
          refine sxo_pick (b := true) rfl rfl rfl rfl ?_
          refine sxo_again (d := 34) (v := .bool ((((!x38) || (decide (x7 < 1))) || (decide (16 < x7))) || (decide (x8 < 0)))) rfl (by rw [h41]; simp only [Bool.true_or]) ?_
          refine sxo_nil ?_
          exact sxq_case (lk_cons rfl (lk_cons rfl (lk_cons rfl (lk_cons rfl (lk_cons rfl (lk_cons rfl (lk_cons rfl (lk_cons rfl lk_nil))))))))
        · refine sxo_take (os := _) rfl ?_
          refine sxo_isF (k := 31) rfl h41 ?_
          refine sxo_move rfl rfl rfl ?_
          refine sxo_lss rfl rfl rfl rfl ?_
          refine sxo_pick (b := false) rfl rfl rfl rfl ?_
          refine sxo_again (d := 34) (v := .bool ((((!x38) || (decide (x7 < 1))) || (decide (16 < x7))) || (decide (x8 < 0)))) rfl (by rw [h41]; simp only [Bool.false_or]) ?_
          refine sxo_nil ?_
          exact sxq_case (lk_cons rfl (lk_cons rfl (lk_cons rfl (lk_cons rfl (lk_cons rfl (lk_cons rfl (lk_cons rfl (lk_cons rfl lk_nil))))))))
        refine sxo_take (os := _) rfl ?_
        refine sxo_move rfl rfl rfl ?_
        refine sxo_case 3 ((((!x38) || (decide (x7 < 1))) || (decide (16 < x7))) || (decide (x8 < 0))) [(1, .int .i64 x5), (2, .int .i64 x6), (3, .int .i64 x7), (4, .int .i64 x8), (5, .pointer (some ⟨g9, 0, none⟩)), (13, .int .i64 x10), (19, .bool true), (38, .bool (((((!x38) || (decide (x7 < 1))) || (decide (16 < x7))) || (decide (x8 < 0))) || (decide (300 < x8))))] (fun h42 => ?_) (fun h42 => ?_) ?_
        · refine sxo_take (os := _) rfl ?_
          refine sxo_isT (k := 35) rfl h42 ?_
          refine sxo_skip rfl rfl rfl ?_
          refine sxo_skip rfl rfl rfl ?_
          refine sxo_pick (b := true) rfl rfl rfl rfl ?_
          refine sxo_again (d := 38) (v := .bool (((((!x38) || (decide (x7 < 1))) || (decide (16 < x7))) || (decide (x8 < 0))) || (decide (300 < x8)))) rfl (by rw [h42]; simp only [Bool.true_or]) ?_
          refine sxo_nil ?_
          exact sxq_case (lk_cons rfl (lk_cons rfl (lk_cons rfl (lk_cons rfl (lk_cons rfl (lk_cons rfl (lk_cons rfl (lk_cons rfl lk_nil))))))))
        · refine sxo_take (os := _) rfl ?_
          refine sxo_isF (k := 35) rfl h42 ?_
          refine sxo_move rfl rfl rfl ?_
          refine sxo_gtr rfl rfl rfl rfl ?_
          refine sxo_pick (b := false) rfl rfl rfl rfl ?_
          refine sxo_again (d := 38) (v := .bool (((((!x38) || (decide (x7 < 1))) || (decide (16 < x7))) || (decide (x8 < 0))) || (decide (300 < x8)))) rfl (by rw [h42]; simp only [Bool.false_or]) ?_
          refine sxo_nil ?_
          exact sxq_case (lk_cons rfl (lk_cons rfl (lk_cons rfl (lk_cons rfl (lk_cons rfl (lk_cons rfl (lk_cons rfl (lk_cons rfl lk_nil))))))))
        refine sxo_take (os := _) rfl ?_
        refine sxo_pick (b := true) rfl rfl rfl rfl ?_
        refine sxo_nil ?_
        exact sxq_meetP ((((((!x38) || (decide (x7 < 1))) || (decide (16 < x7))) || (decide (x8 < 0))) || (decide (300 < x8))), ()) (lk_cons rfl (lk_cons rfl (lk_cons rfl (lk_cons rfl (lk_cons rfl (lk_cons rfl (lk_cons rfl lk_nil))))))) (.cons 0 rfl .nil) .nil (fk_cons 0 rfl fk_nil)
      · refine sxo_isF (k := 19) rfl h30 ?_
        refine sxo_skip rfl rfl rfl ?_
        refine sxo_skip rfl rfl rfl ?_
        refine sxo_skip rfl rfl rfl ?_
        refine sxo_skip rfl rfl rfl ?_
        refine sxo_skip rfl rfl rfl ?_
        refine sxo_skip rfl rfl rfl ?_
        refine sxo_skip rfl rfl rfl ?_
        refine sxo_skip rfl rfl rfl ?_
        refine sxo_skip rfl rfl rfl ?_
        refine sxo_skip rfl rfl rfl ?_
        refine sxo_skip rfl rfl rfl ?_
        refine sxo_skip rfl rfl rfl ?_
        refine sxo_skip rfl rfl rfl ?_
        refine sxo_skip rfl rfl rfl ?_
        refine sxo_skip rfl rfl rfl ?_
        refine sxo_skip rfl rfl rfl ?_
        refine sxo_skip rfl rfl rfl ?_
        refine sxo_skip rfl rfl rfl ?_
        refine sxo_skip rfl rfl rfl ?_
        refine sxo_pick (b := false) rfl rfl rfl rfl ?_
        refine sxo_nil ?_
        exact sxq_meetP (false, ()) (lk_cons rfl (lk_cons rfl (lk_cons rfl (lk_cons rfl (lk_cons rfl (lk_cons rfl (lk_cons rfl lk_nil))))))) (.cons 0 rfl .nil) .nil (fk_cons 0 rfl fk_nil)
    · rintro ⟨x36, _⟩
      try dsimp only
      refine sxo_take (os := _) rfl ?_
      refine sxo_nil ?_
      refine sxq_next ?_
      refine sxc_if rfl (fun h37 => ?_) (fun h37 => ?_)
      · refine sxc_region ?_
        refine sxo_assign rfl rfl rfl ?_
        refine sxo_nil ?_
        exact sxq_meetP (3, ()) (lk_cons rfl (lk_cons rfl (lk_cons rfl (lk_cons rfl (lk_cons rfl (lk_cons rfl lk_nil)))))) (.cons 0 rfl .nil) .nil (fk_cons 0 rfl fk_nil)
      · refine sxc_skip ?_
        exact sxq_meetP (x10, ()) (lk_cons rfl (lk_cons rfl (lk_cons rfl (lk_cons rfl (lk_cons rfl (lk_cons rfl lk_nil)))))) (.cons 0 rfl .nil) .nil (fk_cons 0 rfl fk_nil)
  · rintro ⟨x24, _⟩
    try dsimp only
    refine sxc_seq ?_
    refine sxc_seq ?_
    refine sxc_region ?_
    refine sxo_move rfl rfl rfl ?_
    refine sxo_neq rfl rfl rfl rfl ?_
    refine sxo_nil ?_
    refine sxq_next ?_
    refine sxc_if rfl (fun h29 => ?_) (fun h29 => ?_)
    · refine sxc_seq ?_
      refine sxc_region ?_
      refine sxo_move rfl rfl rfl ?_
      refine sxo_assign rfl rfl rfl ?_
      refine sxo_assign rfl rfl rfl ?_
      refine sxo_assign rfl rfl rfl ?_
      refine sxo_nil ?_
      refine sxq_next ?_
      refine sxc_ret ?_
      refine sxq_thenR ?_
      refine sxq_nilrow Int (eI .i64) 3 1 ?_
      exact sxq_doneP (none, 0) (.inl rfl) (res3 rfl rfl rfl rfl) (fun h => by subst h; rfl) (fun h => by subst h; exact (.cons 0 rfl .nil))
    · refine sxc_skip ?_
      refine sxq_next ?_
      refine sxc_seq ?_
      refine sxc_region ?_
      refine sxo_loadB (i := 0) rfl rfl tf31 rfl rfl (by simp) rfl rfl ?_
      refine sxo_move rfl rfl rfl ?_
      refine sxo_move rfl rfl rfl ?_
      refine sxo_move rfl rfl rfl ?_
      refine sxo_move rfl rfl rfl ?_
      refine sxo_call ent50 rfl rfl rfl (fun x26 e26 => C_gaps_From F x1 x2 a3 c4 x5 x6 x7 x8 x26 e26) (.consF 0 rfl .nil) (fun x26 e26 => ?_)
      rintro ⟨a27, c28⟩
      refine sxo_extract rfl rfl rfl rfl ?_
      refine sxo_extract rfl rfl rfl rfl ?_
      refine sxo_extract rfl rfl rfl rfl ?_
      refine sxo_assign rfl rfl rfl ?_
      refine sxo_assign rfl rfl rfl ?_
      refine sxo_assign rfl rfl rfl ?_
      refine sxo_nil ?_
      refine sxq_next ?_
      refine sxc_ret ?_
      exact sxq_doneP (a27, c28) (.inl rfl) (res3 rfl rfl rfl rfl) (fun h => by subst h; rfl) (fun h => by subst h; exact (.cons 0 rfl .nil))

set_option maxHeartbeats 4000000 in
theorem C_L_gapsBegun (F : Nat)  (r : Bool) (hm : M_L_gapsBegun F  = some r) :
    Pure Try.prog 22 [] [] Unit (fun _ => .bool r) (fun _ => []) (fun _ => []) := by
  refine pure_of Try.func22 rfl Try.ntmps22 rfl hm (fun w => ?_)
  refine sxc_env (l' := []) rfl ?_
  refine sxc_seq ?_
  refine sxc_region ?_
  refine sxo_assign rfl rfl rfl ?_
  refine sxo_nil ?_
  refine sxq_next ?_
  refine sxc_seq ?_
  refine sxc_region ?_
  refine sxo_slit (vs := [.int .i64 3, .int .i64 4, .int .i64 9]) (ys := ([3, 4, 9] : List Int)) (eI_ok .i64) (by decide) rfl Try.underlying22 tf3 rfl rfl rfl rfl rfl (by decide) (fun a1 c2 => ?_)
  refine sxo_call ent15 rfl rfl rfl (fun x3 e3 => C_gaps_Gaps F ([3, 4, 9] : List Int) a1 c2 5 x3 e3) (.consR 0 (Ro (eI .i64) 3 1 (.slice a1 ([3, 4, 9] : List Int).length c2) ([3, 4, 9] : List Int)) rfl .nil) (fun x3 e3 => ?_)
  rintro ⟨a4, c5⟩
  refine sxo_move rfl rfl rfl ?_
  refine sxo_extract rfl rfl rfl rfl ?_
  refine sxo_extract rfl rfl rfl rfl ?_
  refine sxo_assign rfl rfl rfl ?_
  refine sxo_assign rfl rfl rfl ?_
  refine sxo_nil ?_
  refine sxq_next ?_
  refine sxc_seq ?_
  refine sxc_region ?_
  refine sxo_move rfl rfl rfl ?_
  refine sxo_call ent16 rfl rfl rfl (fun x6 e6 => C_gaps_Back F x3.1 a4 c5 5 x6 e6) (.consR 0 (Ro (eI .u64) 46 1 (.slice a4 x3.1.length c5) x3.1) rfl .nil) (fun x6 e6 => ?_)
  rintro ⟨a7, c8⟩
  refine sxo_move rfl rfl rfl ?_
  refine sxo_extract rfl rfl rfl rfl ?_
  refine sxo_extract rfl rfl rfl rfl ?_
  refine sxo_assign rfl rfl rfl ?_
  refine sxo_assign rfl rfl rfl ?_
  refine sxo_nil ?_
  refine sxq_next ?_
  refine sxc_seq ?_
  refine sxc_region ?_
  refine sxo_slit (vs := [.int .i64 3, .int .i64 4, .int .i64 9]) (ys := ([3, 4, 9] : List Int)) (eI_ok .i64) (by decide) rfl Try.underlying22 tf3 rfl rfl rfl rfl rfl (by decide) (fun a9 c10 => ?_)
  refine sxo_call ent17 rfl rfl rfl (fun x11 e11 => C_gaps_Write F ([3, 4, 9] : List Int) a9 c10 5 2 x11 e11) (.consR 0 (Ro (eI .i64) 3 1 (.slice a9 ([3, 4, 9] : List Int).length c10) ([3, 4, 9] : List Int)) rfl .nil) (fun x11 e11 => ?_)
  rintro ⟨a12, c13⟩
  refine sxo_move rfl rfl rfl ?_
  refine sxo_extract rfl rfl rfl rfl ?_
  refine sxo_extract rfl rfl rfl rfl ?_
  refine sxo_alloc rfl tf31 rfl (fun g14 => ?_)
  refine sxo_storeB (i := 0) rfl rfl rfl tf31 rfl rfl rfl rfl rfl ?_
  refine sxo_assign rfl rfl rfl ?_
  refine sxo_nil ?_
  refine sxq_next ?_
  refine sxc_seq ?_
  refine sxc_region ?_
  refine sxo_loadB (i := 0) rfl rfl tf31 rfl rfl (by simp) rfl rfl ?_
  refine sxo_call ent27 rfl rfl rfl (fun x15 e15 => C_gaps_Read F x11.1 x11.2.1 a12 c13 0 5 2 3 x15 e15) (.consR 0 (Ro (eI .u8) 5 1 (.slice a12 x11.2.1.length c13) x11.2.1) rfl .nil) (fun x15 e15 => ?_)
  rintro ⟨a16, c17⟩
  refine sxo_move rfl rfl rfl ?_
  refine sxo_extract rfl rfl rfl rfl ?_
  refine sxo_extract rfl rfl rfl rfl ?_
  refine sxo_extract rfl rfl rfl rfl ?_
  refine sxo_assign rfl rfl rfl ?_
  refine sxo_assign rfl rfl rfl ?_
  refine sxo_assign rfl rfl rfl ?_
  refine sxo_nil ?_
  refine sxq_next ?_
  refine sxc_seq ?_
  refine sxc_region ?_
  refine sxo_slit (vs := [.int .i64 3, .int .i64 3]) (ys := ([3, 3] : List Int)) (eI_ok .i64) (by decide) rfl Try.underlying22 tf3 rfl rfl rfl rfl rfl (by decide) (fun a18 c19 => ?_)
  refine sxo_call ent15 rfl rfl rfl (fun x20 e20 => C_gaps_Gaps F ([3, 3] : List Int) a18 c19 5 x20 e20) (.consR 0 (Ro (eI .i64) 3 1 (.slice a18 ([3, 3] : List Int).length c19) ([3, 3] : List Int)) rfl .nil) (fun x20 e20 => ?_)
  rintro ⟨a21, c22⟩
  refine sxo_move rfl rfl rfl ?_
  refine sxo_extract rfl rfl rfl rfl ?_
  refine sxo_extract rfl rfl rfl rfl ?_
  refine sxo_assign rfl rfl rfl ?_
  refine sxo_assign rfl rfl rfl ?_
  refine sxo_nil ?_
  refine sxq_next ?_
  refine sxc_seq ?_
  refine sxc_region ?_
  refine sxo_slit (vs := [.int .u64 1]) (ys := ([1] : List Int)) (eI_ok .u64) (by decide) rfl Try.underlying23 tf46 rfl rfl rfl rfl rfl (by decide) (fun a23 c24 => ?_)
  refine sxo_call ent16 rfl rfl rfl (fun x25 e25 => C_gaps_Back F ([1] : List Int) a23 c24 0 x25 e25) (.consR 0 (Ro (eI .u64) 46 1 (.slice a23 ([1] : List Int).length c24) ([1] : List Int)) rfl .nil) (fun x25 e25 => ?_)
  rintro ⟨a26, c27⟩
  refine sxo_move rfl rfl rfl ?_
  refine sxo_extract rfl rfl rfl rfl ?_
  refine sxo_extract rfl rfl rfl rfl ?_
  refine sxo_assign rfl rfl rfl ?_
  refine sxo_assign rfl rfl rfl ?_
  refine sxo_nil ?_
  refine sxq_next ?_
  refine sxc_seq ?_
  refine sxc_region ?_
  refine sxo_move rfl rfl rfl ?_
  refine sxo_slit (vs := [.int .u64 3, .int .u64 0, .int .u64 4]) (ys := ([3, 0, 4] : List Int)) (eI_ok .u64) (by decide) rfl Try.underlying23 tf46 rfl rfl rfl rfl rfl (by decide) (fun a28 c29 => ?_)
  refine sxo_call ent24 rfl rfl rfl (fun x30 e30 => C_R_SameNums F x3.1 a4 c5 ([3, 0, 4] : List Int) a28 c29 x30 e30) (.consR 9 (Ro (eI .u64) 46 1 (.slice a4 x3.1.length c5) x3.1) rfl (.consR 0 (Ro (eI .u64) 46 1 (.slice a28 ([3, 0, 4] : List Int).length c29) ([3, 0, 4] : List Int)) rfl .nil)) (fun x30 e30 => ?_)
  intro _
  refine sxo_move rfl rfl rfl ?_
  refine sxo_case 3 x30 [(3, .slice a7 x6.1.length c8), (4, .int .i64 x6.2), (5, .pointer (some ⟨g14, 0, none⟩)), (6, .int .i64 x11.2.2), (7, .slice a16 x15.1.length c17), (8, .int .i64 x15.2.1), (9, .int .i64 x15.2.2), (11, .int .i64 x20.2), (13, .int .i64 x25.2), (51, .bool (x30 && ((x3.2 : Int) == 0)))] (fun h31 => ?_) (fun h31 => ?_) ?_
  · refine sxo_take (os := _) rfl ?_
    refine sxo_isT (k := 48) rfl h31 ?_
    refine sxo_move rfl rfl rfl ?_
    refine sxo_eql rfl rfl rfl rfl ?_
    refine sxo_pick (b := true) rfl rfl rfl rfl ?_
    refine sxo_again (d := 51) (v := .bool (x30 && ((x3.2 : Int) == 0))) rfl (by rw [h31]; simp only [Bool.true_and]) ?_
    refine sxo_nil ?_
    exact sxq_case (lk_cons rfl (lk_cons rfl (lk_cons rfl (lk_cons rfl (lk_cons rfl (lk_cons rfl (lk_cons rfl (lk_cons rfl (lk_cons rfl (lk_cons rfl lk_nil))))))))))
  · refine sxo_take (os := _) rfl ?_
    refine sxo_isF (k := 48) rfl h31 ?_
    refine sxo_skip rfl rfl rfl ?_
    refine sxo_skip rfl rfl rfl ?_
    refine sxo_pick (b := false) rfl rfl rfl rfl ?_
    refine sxo_again (d := 51) (v := .bool (x30 && ((x3.2 : Int) == 0))) rfl (by rw [h31]; simp only [Bool.false_and]) ?_
    refine sxo_nil ?_
    exact sxq_case (lk_cons rfl (lk_cons rfl (lk_cons rfl (lk_cons rfl (lk_cons rfl (lk_cons rfl (lk_cons rfl (lk_cons rfl (lk_cons rfl (lk_cons rfl lk_nil))))))))))
  refine sxo_take (os := _) rfl ?_
  refine sxo_move rfl rfl rfl ?_
  refine sxo_join 4 (fun ((x36, _) : (Bool × Unit)) => [(3, .slice a7 x6.1.length c8), (4, .int .i64 x6.2), (5, .pointer (some ⟨g14, 0, none⟩)), (6, .int .i64 x11.2.2), (7, .slice a16 x15.1.length c17), (8, .int .i64 x15.2.1), (9, .int .i64 x15.2.2), (11, .int .i64 x20.2), (13, .int .i64 x25.2), (56, .bool x36)]) (fun ((x36, _) : (Bool × Unit)) => [⟨g14, 31, [.int .i64 x11.1, .slice a12 x11.2.1.length c13]⟩]) (fun ((x36, _) : (Bool × Unit)) => [Ro (eI .i64) 3 1 (.slice a7 x6.1.length c8) x6.1, Ro (eI .i64) 3 1 (.slice a16 x15.1.length c17) x15.1, Ro (eI .u8) 5 1 (.slice a12 x11.2.1.length c13) x11.2.1]) (fun ((x36, _) : (Bool × Unit)) => []) (fun ((x36, _) : (Bool × Unit)) => M_L_gapsBegun_j1 F x6 x11 x15 x20 x25 x36) ?_ ?_
  · refine sxo_take (os := _) rfl ?_
    refine sxo_if (fun h32 => ?_) (fun h32 => ?_)
    · refine sxo_isT (k := 52) rfl h32 ?_
      refine sxo_move rfl rfl rfl ?_
      refine sxo_slit (vs := [.int .i64 3, .int .i64 4, .int .i64 9]) (ys := ([3, 4, 9] : List Int)) (eI_ok .i64) (by decide) rfl Try.underlying22 tf3 rfl rfl rfl rfl rfl (by decide) (fun a47 c48 => ?_)
      refine sxo_call ent25 rfl rfl rfl (fun x49 e49 => C_R_SameInts F x6.1 a7 c8 ([3, 4, 9] : List Int) a47 c48 x49 e49) (.consR 9 (Ro (eI .i64) 3 1 (.slice a7 x6.1.length c8) x6.1) rfl (.consR 0 (Ro (eI .i64) 3 1 (.slice a47 ([3, 4, 9] : List Int).length c48) ([3, 4, 9] : List Int)) rfl .nil)) (fun x49 e49 => ?_)
      intro _
      refine sxo_pick (b := true) rfl rfl rfl rfl ?_
      refine sxo_nil ?_
      exact sxq_meetP (x49, ()) (lk_cons rfl (lk_cons rfl (lk_cons rfl (lk_cons rfl (lk_cons rfl (lk_cons rfl (lk_cons rfl (lk_cons rfl (lk_cons rfl (lk_cons rfl lk_nil)))))))))) (.cons 0 rfl .nil) (.cons 9 rfl (.cons 6 rfl (.cons 6 rfl .nil))) fk_nil
    · refine sxo_isF (k := 52) rfl h32 ?_
      refine sxo_skip rfl rfl rfl ?_
      refine sxo_skip rfl rfl rfl ?_
      refine sxo_skip rfl rfl rfl ?_
      refine sxo_pick (b := false) rfl rfl rfl rfl ?_
      refine sxo_nil ?_
      exact sxq_meetP (false, ()) (lk_cons rfl (lk_cons rfl (lk_cons rfl (lk_cons rfl (lk_cons rfl (lk_cons rfl (lk_cons rfl (lk_cons rfl (lk_cons rfl (lk_cons rfl lk_nil)))))))))) (.cons 0 rfl .nil) (.cons 8 rfl (.cons 5 rfl (.cons 5 rfl .nil))) fk_nil
  · rintro ⟨x36, _⟩
    try dsimp only
    refine sxo_take (os := _) rfl ?_
    refine sxo_move rfl rfl rfl ?_
    refine sxo_case 3 x36 [(3, .slice a7 x6.1.length c8), (5, .pointer (some ⟨g14, 0, none⟩)), (6, .int .i64 x11.2.2), (7, .slice a16 x15.1.length c17), (8, .int .i64 x15.2.1), (9, .int .i64 x15.2.2), (11, .int .i64 x20.2), (13, .int .i64 x25.2), (60, .bool (x36 && ((x6.2 : Int) == 0)))] (fun h37 => ?_) (fun h37 => ?_) ?_
    · refine sxo_take (os := _) rfl ?_
      refine sxo_isT (k := 57) rfl h37 ?_
      refine sxo_move rfl rfl rfl ?_
      refine sxo_eql rfl rfl rfl rfl ?_
      refine sxo_pick (b := true) rfl rfl rfl rfl ?_
      refine sxo_again (d := 60) (v := .bool (x36 && ((x6.2 : Int) == 0))) rfl (by rw [h37]; simp only [Bool.true_and]) ?_
      refine sxo_nil ?_
      exact sxq_case (lk_cons rfl (lk_cons rfl (lk_cons rfl (lk_cons rfl (lk_cons rfl (lk_cons rfl (lk_cons rfl (lk_cons rfl (lk_cons rfl lk_nil)))))))))
    · refine sxo_take (os := _) rfl ?_
      refine sxo_isF (k := 57) rfl h37 ?_
      refine sxo_skip rfl rfl rfl ?_
      refine sxo_skip rfl rfl rfl ?_
      refine sxo_pick (b := false) rfl rfl rfl rfl ?_
      refine sxo_again (d := 60) (v := .bool (x36 && ((x6.2 : Int) == 0))) rfl (by rw [h37]; simp only [Bool.false_and]) ?_
      refine sxo_nil ?_
      exact sxq_case (lk_cons rfl (lk_cons rfl (lk_cons rfl (lk_cons rfl (lk_cons rfl (lk_cons rfl (lk_cons rfl (lk_cons rfl (lk_cons rfl lk_nil)))))))))
    refine sxo_take (os := _) rfl ?_
    refine sxo_move rfl rfl rfl ?_
    refine sxo_case 3 (x36 && ((x6.2 : Int) == 0)) [(3, .slice a7 x6.1.length c8), (5, .pointer (some ⟨g14, 0, none⟩)), (7, .slice a16 x15.1.length c17), (8, .int .i64 x15.2.1), (9, .int .i64 x15.2.2), (11, .int .i64 x20.2), (13, .int .i64 x25.2), (64, .bool ((x36 && ((x6.2 : Int) == 0)) && ((x11.2.2 : Int) == 0)))] (fun h38 => ?_) (fun h38 => ?_) ?_
    · refine sxo_take (os := _) rfl ?_
      refine sxo_isT (k := 61) rfl h38 ?_
      refine sxo_move rfl rfl rfl ?_
      refine sxo_eql rfl rfl rfl rfl ?_
      refine sxo_pick (b := true) rfl rfl rfl rfl ?_
      refine sxo_again (d := 64) (v := .bool ((x36 && ((x6.2 : Int) == 0)) && ((x11.2.2 : Int) == 0))) rfl (by rw [h38]; simp only [Bool.true_and]) ?_
      refine sxo_nil ?_
      exact sxq_case (lk_cons rfl (lk_cons rfl (lk_cons rfl (lk_cons rfl (lk_cons rfl (lk_cons rfl (lk_cons rfl (lk_cons rfl lk_nil))))))))
    · refine sxo_take (os := _) rfl ?_
      refine sxo_isF (k := 61) rfl h38 ?_
      refine sxo_skip rfl rfl rfl ?_
      refine sxo_skip rfl rfl rfl ?_
      refine sxo_pick (b := false) rfl rfl rfl rfl ?_
      refine sxo_again (d := 64) (v := .bool ((x36 && ((x6.2 : Int) == 0)) && ((x11.2.2 : Int) == 0))) rfl (by rw [h38]; simp only [Bool.false_and]) ?_
      refine sxo_nil ?_
      exact sxq_case (lk_cons rfl (lk_cons rfl (lk_cons rfl (lk_cons rfl (lk_cons rfl (lk_cons rfl (lk_cons rfl (lk_cons rfl lk_nil))))))))
    refine sxo_take (os := _) rfl ?_
    refine sxo_move rfl rfl rfl ?_
    refine sxo_join 4 (fun ((x41, _) : (Bool × Unit)) => [(5, .pointer (some ⟨g14, 0, none⟩)), (8, .int .i64 x15.2.1), (9, .int .i64 x15.2.2), (11, .int .i64 x20.2), (13, .int .i64 x25.2), (69, .bool x41)]) (fun ((x41, _) : (Bool × Unit)) => [⟨g14, 31, [.int .i64 x11.1, .slice a12 x11.2.1.length c13]⟩]) (fun ((x41, _) : (Bool × Unit)) => [Ro (eI .u8) 5 1 (.slice a12 x11.2.1.length c13) x11.2.1]) (fun ((x41, _) : (Bool × Unit)) => []) (fun ((x41, _) : (Bool × Unit)) => M_L_gapsBegun_j2 F x11 x15 x20 x25 x41) ?_ ?_
    · refine sxo_take (os := _) rfl ?_
      refine sxo_if (fun h39 => ?_) (fun h39 => ?_)
      · refine sxo_isT (k := 65) rfl h39 ?_
        refine sxo_move rfl rfl rfl ?_
        refine sxo_move rfl rfl rfl ?_
        refine sxo_call ent25 rfl rfl rfl (fun x46 e46 => C_R_SameInts F x15.1 a16 c17 x6.1 a7 c8 x46 e46) (.consR 1 (Ro (eI .i64) 3 1 (.slice a16 x15.1.length c17) x15.1) rfl (.consR 0 (Ro (eI .i64) 3 1 (.slice a7 x6.1.length c8) x6.1) rfl .nil)) (fun x46 e46 => ?_)
        intro _
        refine sxo_pick (b := true) rfl rfl rfl rfl ?_
        refine sxo_nil ?_
        exact sxq_meetP (x46, ()) (lk_cons rfl (lk_cons rfl (lk_cons rfl (lk_cons rfl (lk_cons rfl (lk_cons rfl lk_nil)))))) (.cons 0 rfl .nil) (.cons 2 rfl .nil) fk_nil
      · refine sxo_isF (k := 65) rfl h39 ?_
        refine sxo_skip rfl rfl rfl ?_
        refine sxo_skip rfl rfl rfl ?_
        refine sxo_skip rfl rfl rfl ?_
        refine sxo_pick (b := false) rfl rfl rfl rfl ?_
        refine sxo_nil ?_
        exact sxq_meetP (false, ()) (lk_cons rfl (lk_cons rfl (lk_cons rfl (lk_cons rfl (lk_cons rfl (lk_cons rfl lk_nil)))))) (.cons 0 rfl .nil) (.cons 2 rfl .nil) fk_nil
    · rintro ⟨x41, _⟩
      try dsimp only
      refine sxo_take (os := _) rfl ?_
      refine sxo_move rfl rfl rfl ?_
      refine sxo_case 5 x41 [(9, .int .i64 x15.2.2), (11, .int .i64 x20.2), (13, .int .i64 x25.2), (75, .bool (x41 && ((x15.2.1 : Int) == x11.1)))] (fun h42 => ?_) (fun h42 => ?_) ?_
      · refine sxo_take (os := _) rfl ?_
        refine sxo_isT (k := 70) rfl h42 ?_
        refine sxo_move rfl rfl rfl ?_
        refine sxo_fieldAddr rfl rfl ff31_0 rfl ?_
        refine sxo_loadB (i := 0) rfl rfl tf3 rfl rfl (fun _ => rfl) rfl rfl ?_
        refine sxo_eql rfl rfl rfl rfl ?_
        refine sxo_pick (b := true) rfl rfl rfl rfl ?_
        refine sxo_again (d := 75) (v := .bool (x41 && ((x15.2.1 : Int) == x11.1))) rfl (by rw [h42]; simp only [Bool.true_and]) ?_
        refine sxo_nil ?_
        exact sxq_case (lk_cons rfl (lk_cons rfl (lk_cons rfl (lk_cons rfl lk_nil))))
      · refine sxo_take (os := _) rfl ?_
        refine sxo_isF (k := 70) rfl h42 ?_
        refine sxo_skip rfl rfl rfl ?_
        refine sxo_skip rfl rfl rfl ?_
        refine sxo_skip rfl rfl rfl ?_
        refine sxo_skip rfl rfl rfl ?_
        refine sxo_pick (b := false) rfl rfl rfl rfl ?_
        refine sxo_again (d := 75) (v := .bool (x41 && ((x15.2.1 : Int) == x11.1))) rfl (by rw [h42]; simp only [Bool.false_and]) ?_
        refine sxo_nil ?_
        exact sxq_case (lk_cons rfl (lk_cons rfl (lk_cons rfl (lk_cons rfl lk_nil))))
      refine sxo_take (os := _) rfl ?_
      refine sxo_move rfl rfl rfl ?_
      refine sxo_case 3 (x41 && ((x15.2.1 : Int) == x11.1)) [(11, .int .i64 x20.2), (13, .int .i64 x25.2), (79, .bool ((x41 && ((x15.2.1 : Int) == x11.1)) && ((x15.2.2 : Int) == 0)))] (fun h43 => ?_) (fun h43 => ?_) ?_
      · refine sxo_take (os := _) rfl ?_
        refine sxo_isT (k := 76) rfl h43 ?_
        refine sxo_move rfl rfl rfl ?_
        refine sxo_eql rfl rfl rfl rfl ?_
        refine sxo_pick (b := true) rfl rfl rfl rfl ?_
        refine sxo_again (d := 79) (v := .bool ((x41 && ((x15.2.1 : Int) == x11.1)) && ((x15.2.2 : Int) == 0))) rfl (by rw [h43]; simp only [Bool.true_and]) ?_
        refine sxo_nil ?_
        exact sxq_case (lk_cons rfl (lk_cons rfl (lk_cons rfl lk_nil)))
      · refine sxo_take (os := _) rfl ?_
        refine sxo_isF (k := 76) rfl h43 ?_
        refine sxo_skip rfl rfl rfl ?_
        refine sxo_skip rfl rfl rfl ?_
        refine sxo_pick (b := false) rfl rfl rfl rfl ?_
        refine sxo_again (d := 79) (v := .bool ((x41 && ((x15.2.1 : Int) == x11.1)) && ((x15.2.2 : Int) == 0))) rfl (by rw [h43]; simp only [Bool.false_and]) ?_
        refine sxo_nil ?_
        exact sxq_case (lk_cons rfl (lk_cons rfl (lk_cons rfl lk_nil)))
      refine sxo_take (os := _) rfl ?_
      refine sxo_move rfl rfl rfl ?_
      refine sxo_case 3 ((x41 && ((x15.2.1 : Int) == x11.1)) && ((x15.2.2 : Int) == 0)) [(13, .int .i64 x25.2), (83, .bool (((x41 && ((x15.2.1 : Int) == x11.1)) && ((x15.2.2 : Int) == 0)) && ((x20.2 : Int) == 4)))] (fun h44 => ?_) (fun h44 => ?_) ?_
      · refine sxo_take (os := _) rfl ?_
        refine sxo_isT (k := 80) rfl h44 ?_
        refine sxo_move rfl rfl rfl ?_
        refine sxo_eql rfl rfl rfl rfl ?_
        refine sxo_pick (b := true) rfl rfl rfl rfl ?_
        refine sxo_again (d := 83) (v := .bool (((x41 && ((x15.2.1 : Int) == x11.1)) && ((x15.2.2 : Int) == 0)) && ((x20.2 : Int) == 4))) rfl (by rw [h44]; simp only [Bool.true_and]) ?_
        refine sxo_nil ?_
        exact sxq_case (lk_cons rfl (lk_cons rfl lk_nil))
      · refine sxo_take (os := _) rfl ?_
        refine sxo_isF (k := 80) rfl h44 ?_
        refine sxo_skip rfl rfl rfl ?_
        refine sxo_skip rfl rfl rfl ?_
        refine sxo_pick (b := false) rfl rfl rfl rfl ?_
        refine sxo_again (d := 83) (v := .bool (((x41 && ((x15.2.1 : Int) == x11.1)) && ((x15.2.2 : Int) == 0)) && ((x20.2 : Int) == 4))) rfl (by rw [h44]; simp only [Bool.false_and]) ?_
        refine sxo_nil ?_
        exact sxq_case (lk_cons rfl (lk_cons rfl lk_nil))
      refine sxo_take (os := _) rfl ?_
      refine sxo_move rfl rfl rfl ?_
      refine sxo_case 3 (((x41 && ((x15.2.1 : Int) == x11.1)) && ((x15.2.2 : Int) == 0)) && ((x20.2 : Int) == 4)) [(87, .bool ((((x41 && ((x15.2.1 : Int) == x11.1)) && ((x15.2.2 : Int) == 0)) && ((x20.2 : Int) == 4)) && ((x25.2 : Int) == 3)))] (fun h45 => ?_) (fun h45 => ?_) ?_
      · refine sxo_take (os := _) rfl ?_
        refine sxo_isT (k := 84) rfl h45 ?_
        refine sxo_move rfl rfl rfl ?_
        refine sxo_eql rfl rfl rfl rfl ?_
        refine sxo_pick (b := true) rfl rfl rfl rfl ?_
        refine sxo_again (d := 87) (v := .bool ((((x41 && ((x15.2.1 : Int) == x11.1)) && ((x15.2.2 : Int) == 0)) && ((x20.2 : Int) == 4)) && ((x25.2 : Int) == 3))) rfl (by rw [h45]; simp only [Bool.true_and]) ?_
        refine sxo_nil ?_
        exact sxq_case (lk_cons rfl lk_nil)
      · refine sxo_take (os := _) rfl ?_
        refine sxo_isF (k := 84) rfl h45 ?_
        refine sxo_skip rfl rfl rfl ?_
        refine sxo_skip rfl rfl rfl ?_
        refine sxo_pick (b := false) rfl rfl rfl rfl ?_
        refine sxo_again (d := 87) (v := .bool ((((x41 && ((x15.2.1 : Int) == x11.1)) && ((x15.2.2 : Int) == 0)) && ((x20.2 : Int) == 4)) && ((x25.2 : Int) == 3))) rfl (by rw [h45]; simp only [Bool.false_and]) ?_
        refine sxo_nil ?_
        exact sxq_case (lk_cons rfl lk_nil)
      refine sxo_take (os := _) rfl ?_
      refine sxo_assign rfl rfl rfl ?_
      refine sxo_nil ?_
      refine sxq_next ?_
      refine sxc_ret ?_
      exact sxq_doneP () (.inl rfl) (res1 rfl rfl) (fun h => by subst h; rfl) (fun h => by subst h; exact .nil)

theorem C_R_SameBytes (F : Nat) (x1 : List Int) (a2 : Option Addr) (c3 : Nat) (x4 : List Int) (a5 : Option Addr) (c6 : Nat) (r : Bool) (hm : M_R_SameBytes F x1 x4 = some r) :
    Pure Try.prog 48 [.slice a2 x1.length c3, .slice a5 x4.length c6] [Sl (eI .u8) 1 (.slice a2 x1.length c3) x1, Sl (eI .u8) 1 (.slice a5 x4.length c6) x4] Unit (fun _ => .bool r) (fun _ => []) (fun _ => []) := by
  refine pure_of Try.func48 rfl Try.ntmps48 rfl hm (fun w => ?_)
  refine sxc_env (l' := [(0, .slice a2 x1.length c3), (1, .slice a5 x4.length c6)]) rfl ?_
  refine sxc_seq ?_
  refine sxc_region ?_
  refine sxo_assign rfl rfl rfl ?_
  refine sxo_nil ?_
  refine sxq_next ?_
  refine sxc_seq ?_
  refine sxc_seq ?_
  refine sxc_region ?_
  refine sxo_move rfl rfl rfl ?_
  refine sxo_len rfl Try.underlying29 rfl rfl ?_
  refine sxo_move rfl rfl rfl ?_
  refine sxo_len rfl Try.underlying29 rfl rfl ?_
  refine sxo_neq rfl rfl rfl rfl ?_
  refine sxo_nil ?_
  refine sxq_next ?_
  refine sxc_if rfl (fun h228 => ?_) (fun h228 => ?_)
  · refine sxc_seq ?_
    refine sxc_region ?_
    refine sxo_assign rfl rfl rfl ?_
    refine sxo_nil ?_
    refine sxq_next ?_
    refine sxc_ret ?_
    refine sxq_thenR ?_
    exact sxq_doneP () (.inl rfl) (res1 rfl rfl) (fun h => by subst h; rfl) (fun h => by subst h; exact .nil)
  · refine sxc_skip ?_
    refine sxq_next ?_
    refine sxc_join (fun ((_, _) : (Unit × Unit)) => []) (fun ((_, _) : (Unit × Unit)) => []) (fun ((_, _) : (Unit × Unit)) => []) (fun ((_, _) : (Unit × Unit)) => []) (fun ((_, _) : (Unit × Unit)) => M_R_SameBytes_j2 F) ?_ ?_
    · refine sxc_seq ?_
      refine sxc_region ?_
      refine sxo_assign rfl rfl rfl ?_
      refine sxo_nil ?_
      refine sxq_next ?_
      refine sxc_block ?_
      refine sxc_loopP (fun ((x154, _) : (Int × Unit)) => [(0, .slice a2 x1.length c3), (1, .slice a5 x4.length c6), (5, .int .i64 x154)]) (fun ((x154, _) : (Int × Unit)) => []) (fun ((x154, _) : (Int × Unit)) => []) (fun ((x154, _) : (Int × Unit)) => [Sl (eI .u8) 1 (.slice a2 x1.length c3) x1, Sl (eI .u8) 1 (.slice a5 x4.length c6) x4]) (fun k (s : (Int × Unit)) => M_R_SameBytes_l3 F x1 x4 k s.1) (0, ()) F (lk_cons rfl (lk_cons rfl (lk_cons rfl lk_nil))) .nil .nil (fk_cons 0 rfl (fk_cons 1 rfl fk_nil)) (fun _ => rfl) ?_
      intro k191
      rintro ⟨x154, _⟩
      try dsimp only
      refine sxc_meq (m' := M_R_SameBytes_b3 F x1 x4 (M_R_SameBytes_l3 F x1 x4 k191) x154) rfl ?_
      refine sxc_seq ?_
      refine sxc_seq ?_
      refine sxc_region ?_
      refine sxo_move rfl rfl rfl ?_
      refine sxo_move rfl rfl rfl ?_
      refine sxo_len rfl Try.underlying29 rfl rfl ?_
      refine sxo_lss rfl rfl rfl rfl ?_
      refine sxo_nil ?_
      refine sxq_next ?_
      refine sxc_if rfl (fun h227 => ?_) (fun h227 => ?_)
      · refine sxc_skip ?_
        refine sxq_next ?_
        refine sxc_seq ?_
        refine sxc_block ?_
        refine sxc_seq ?_
        refine sxc_idxF (j := 0) (eI_ok .u8) (by decide) rfl (fun x218 e218 b219 o220 h221 => ?_)
        replace h221 : a2 = some ⟨b219, o220, none⟩ := h221
        refine sxc_idxF (j := 2) (eI_ok .u8) (by decide) rfl (fun x222 e222 b223 o224 h225 => ?_)
        replace h225 : a5 = some ⟨b223, o224, none⟩ := h225
        refine sxb_draw mixed [] [] [CellsAt b223 (o224 + x154.toNat * 1) ((eI .u8) x222), CellsAt b219 (o220 + x154.toNat * 1) ((eI .u8) x218), Sl (eI .u8) 1 (.slice a2 x1.length c3) x1, Sl (eI .u8) 1 (.slice a5 x4.length c6) x4] .nil (gk_F 0 rfl (gk_F 1 rfl (gk_F 2 rfl (gk_F 3 rfl gk_nil)))) 9 rfl ?_
        refine sxb_takeP 0 (.slice a2 x1.length c3) rfl rfl rfl rfl (by kernel_rfl) (by kernel_rfl) (by kernel_rfl) (by kernel_rfl) (by kernel_rfl) rfl (show _ = #[true, false, false, false, false, false, false, false, false] from rfl) (yv_pv rfl) ?_
        refine sxb_takeP 1 (.int .i64 x154) rfl rfl rfl rfl (by kernel_rfl) (by kernel_rfl) (by kernel_rfl) (by kernel_rfl) (by kernel_rfl) rfl (show _ = #[true, true, false, false, false, false, false, false, false] from rfl) (yv_pv rfl) ?_
        refine sxb_again (d := 17) (v := .slice (some ⟨b219, o220, none⟩) x1.length c3) rfl (by rw [h221]) ?_
        refine sxb_takeP 2 (.pointer (some ⟨b219, (o220 + x154.toNat * 1), none⟩)) rfl rfl rfl rfl (by kernel_rfl) (by kernel_rfl) (by kernel_rfl) (by kernel_rfl) (by kernel_rfl) rfl (show _ = #[true, true, true, false, false, false, false, false, false] from rfl) (yv_idx Try.underlying29 tf5 rfl rfl (idx_get e218).1 (idx_lt e218)) ?_
        refine sxb_again (d := 17) (v := .slice a2 x1.length c3) rfl (by rw [h221]) ?_
        refine sxb_take 3 (.int .u8 x218) [] rfl rfl rfl rfl (by kernel_rfl) (by kernel_rfl) (by kernel_rfl) (by kernel_rfl) (by kernel_rfl) (by kernel_rfl) rfl (show _ = #[true, true, true, true, false, false, false, false, false] from rfl) (yv_loadF (j := 1) rfl tf5 rfl rfl (fun _ => rfl) rfl) ?_
        refine sxb_takeP 4 (.slice a5 x4.length c6) rfl rfl rfl rfl (by kernel_rfl) (by kernel_rfl) (by kernel_rfl) (by kernel_rfl) (by kernel_rfl) rfl (show _ = #[true, true, true, true, true, false, false, false, false] from rfl) (yv_pv rfl) ?_
        refine sxb_takeP 5 (.int .i64 x154) rfl rfl rfl rfl (by kernel_rfl) (by kernel_rfl) (by kernel_rfl) (by kernel_rfl) (by kernel_rfl) rfl (show _ = #[true, true, true, true, true, true, false, false, false] from rfl) (yv_pv rfl) ?_
        refine sxb_again (d := 21) (v := .slice (some ⟨b223, o224, none⟩) x4.length c6) rfl (by rw [h225]) ?_
        refine sxb_takeP 6 (.pointer (some ⟨b223, (o224 + x154.toNat * 1), none⟩)) rfl rfl rfl rfl (by kernel_rfl) (by kernel_rfl) (by kernel_rfl) (by kernel_rfl) (by kernel_rfl) rfl (show _ = #[true, true, true, true, true, true, true, false, false] from rfl) (yv_idx Try.underlying29 tf5 rfl rfl (idx_get e222).1 (idx_lt e222)) ?_
        refine sxb_again (d := 21) (v := .slice a5 x4.length c6) rfl (by rw [h225]) ?_
        refine sxb_take 7 (.int .u8 x222) [] rfl rfl rfl rfl (by kernel_rfl) (by kernel_rfl) (by kernel_rfl) (by kernel_rfl) (by kernel_rfl) (by kernel_rfl) rfl (show _ = #[true, true, true, true, true, true, true, true, false] from rfl) (yv_loadF (j := 0) rfl tf5 rfl rfl (fun _ => rfl) rfl) ?_
        refine sxb_takeP 8 (.bool ((x218 : Int) != x222)) rfl rfl rfl rfl (by kernel_rfl) (by kernel_rfl) (by kernel_rfl) (by kernel_rfl) (by kernel_rfl) rfl (show _ = #[true, true, true, true, true, true, true, true, true] from rfl) (yv_pv rfl) ?_
        refine sxb_done (by kernel_rfl) ?_
        refine sxq_np ?_ (by intro c h; cases h)
        refine sxq_next ?_
        refine sxc_if rfl (fun h226 => ?_) (fun h226 => ?_)
        · refine sxc_seq ?_
          refine sxc_region ?_
          refine sxo_assign rfl rfl rfl ?_
          refine sxo_nil ?_
          refine sxq_next ?_
          refine sxc_ret ?_
          refine sxq_blkR ?_
          refine sxq_thenR ?_
          refine sxq_thenR ?_
          refine sxq_blkR ?_
          refine sxq_thenR ?_
          exact sxq_doneP () (.inl rfl) (res1 rfl rfl) (fun h => by subst h; rfl) (fun h => by subst h; exact .nil)
        · refine sxc_skip ?_
          refine sxq_blkN ?_
          refine sxq_next ?_
          refine sxc_region ?_
          refine sxo_move rfl rfl rfl ?_
          refine sxo_add rfl rfl rfl rfl ?_
          refine sxo_assign rfl rfl rfl ?_
          refine sxo_nil ?_
          exact sxq_againP (iadd .i64 x154 1, ()) (lk_cons rfl (lk_cons rfl (lk_cons rfl lk_nil))) .nil .nil (fk_cons 2 rfl (fk_cons 3 rfl fk_nil))
      · refine sxc_exit ?_
        refine sxq_thenX ?_
        refine sxq_thenX ?_
        refine sxq_blkX ?_
        exact sxq_meetP ((), ()) lk_nil .nil .nil fk_nil
    · rintro ⟨_, _⟩
      try dsimp only
      refine sxc_seq ?_
      refine sxc_region ?_
      refine sxo_assign rfl rfl rfl ?_
      refine sxo_nil ?_
      refine sxq_next ?_
      refine sxc_ret ?_
      exact sxq_doneP () (.inl rfl) (res1 rfl rfl) (fun h => by subst h; rfl) (fun h => by subst h; exact .nil)

theorem C_R_SameBits (F : Nat) (x1 : Int) (x2 : List Int) (a3 : Option Addr) (c4 : Nat) (x5 : Int) (x6 : List Int) (a7 : Option Addr) (c8 : Nat) (r : Bool) (hm : M_R_SameBits F x1 x2 x5 x6 = some r) :
    Pure Try.prog 26 [.agg #[.int .i64 x1, .slice a3 x2.length c4], .agg #[.int .i64 x5, .slice a7 x6.length c8]] [Sl (eI .u8) 1 (.slice a3 x2.length c4) x2, Sl (eI .u8) 1 (.slice a7 x6.length c8) x6] Unit (fun _ => .bool r) (fun _ => []) (fun _ => []) := by
  refine pure_of Try.func26 rfl Try.ntmps26 rfl hm (fun w => ?_)
  refine sxc_env (l' := [(0, .agg #[.int .i64 x1, .slice a3 x2.length c4]), (1, .agg #[.int .i64 x5, .slice a7 x6.length c8])]) rfl ?_
  refine sxc_seq ?_
  refine sxc_region ?_
  refine sxo_box rfl rfl rfl (fun g9 => ?_)
  refine sxo_box rfl rfl rfl (fun g10 => ?_)
  refine sxo_assign rfl rfl rfl ?_
  refine sxo_nil ?_
  refine sxq_next ?_
  refine sxc_seq ?_
  refine sxc_region ?_
  refine sxo_fieldAddr rfl rfl ff31_0 rfl ?_
  refine sxo_loadB (i := 1) rfl rfl tf3 rfl rfl (fun _ => rfl) rfl rfl ?_
  refine sxo_fieldAddr rfl rfl ff31_0 rfl ?_
  refine sxo_loadB (i := 0) rfl rfl tf3 rfl rfl (fun _ => rfl) rfl rfl ?_
  refine sxo_eql rfl rfl rfl rfl ?_
  refine sxo_move rfl rfl rfl ?_
  refine sxo_join 6 (fun ((x13, _) : (Bool × Unit)) => [(16, .bool x13)]) (fun ((x13, _) : (Bool × Unit)) => []) (fun ((x13, _) : (Bool × Unit)) => []) (fun ((x13, _) : (Bool × Unit)) => []) (fun ((x13, _) : (Bool × Unit)) => M_R_SameBits_j1 F x13) ?_ ?_
  · refine sxo_take (os := _) rfl ?_
    refine sxo_if (fun h11 => ?_) (fun h11 => ?_)
    · refine sxo_isT (k := 10) rfl h11 ?_
      refine sxo_fieldAddr rfl rfl ff31_1 rfl ?_
      refine sxo_loadB (i := 1) rfl rfl tf29 rfl rfl (fun _ => rfl) rfl rfl ?_
      refine sxo_fieldAddr rfl rfl ff31_1 rfl ?_
      refine sxo_loadB (i := 0) rfl rfl tf29 rfl rfl (fun _ => rfl) rfl rfl ?_
      refine sxo_call ent48 rfl rfl rfl (fun x14 e14 => C_R_SameBytes F x2 a3 c4 x6 a7 c8 x14 e14) (.consF 0 rfl (.consF 1 rfl .nil)) (fun x14 e14 => ?_)
      intro _
      refine sxo_pick (b := true) rfl rfl rfl rfl ?_
      refine sxo_nil ?_
      exact sxq_meetP (x14, ()) (lk_cons rfl lk_nil) .nil .nil fk_nil
    · refine sxo_isF (k := 10) rfl h11 ?_
      refine sxo_skip rfl rfl rfl ?_
      refine sxo_skip rfl rfl rfl ?_
      refine sxo_skip rfl rfl rfl ?_
      refine sxo_skip rfl rfl rfl ?_
      refine sxo_skip rfl rfl rfl ?_
      refine sxo_pick (b := false) rfl rfl rfl rfl ?_
      refine sxo_nil ?_
      exact sxq_meetP (false, ()) (lk_cons rfl lk_nil) .nil .nil fk_nil
  · rintro ⟨x13, _⟩
    try dsimp only
    refine sxo_take (os := _) rfl ?_
    refine sxo_assign rfl rfl rfl ?_
    refine sxo_nil ?_
    refine sxq_next ?_
    refine sxc_ret ?_
    exact sxq_doneP () (.inl rfl) (res1 rfl rfl) (fun h => by subst h; rfl) (fun h => by subst h; exact .nil)

set_option maxHeartbeats 4000000 in
theorem C_L_GapsTell (F : Nat) (x1 : List Int) (a2 : Option Addr) (c3 : Nat) (x4 : List Int) (a5 : Option Addr) (c6 : Nat) (x7 : Int) (x8 : Int) (r : Bool) (hm : M_L_GapsTell F x1 x4 x7 x8 = some r) :
    Pure Try.prog 3 [.slice a2 x1.length c3, .slice a5 x4.length c6, .int .i64 x7, .int .i64 x8] [Sl (eI .i64) 1 (.slice a2 x1.length c3) x1, Sl (eI .u64) 1 (.slice a5 x4.length c6) x4] Unit (fun _ => .bool r) (fun _ => []) (fun _ => []) := by
  refine pure_of Try.func3 rfl Try.ntmps3 rfl hm (fun w => ?_)
  refine sxc_env (l' := [(0, .slice a2 x1.length c3), (1, .slice a5 x4.length c6), (2, .int .i64 x7), (3, .int .i64 x8)]) rfl ?_
  refine sxc_seq ?_
  refine sxc_region ?_
  refine sxo_assign rfl rfl rfl ?_
  refine sxo_nil ?_
  refine sxq_next ?_
  refine sxc_seq ?_
  refine sxc_region ?_
  refine sxo_move rfl rfl rfl ?_
  refine sxo_move rfl rfl rfl ?_
  refine sxo_call ent15 rfl rfl rfl (fun x9 e9 => C_gaps_Gaps F x1 a2 c3 x7 x9 e9) (.consF 0 rfl .nil) (fun x9 e9 => ?_)
  rintro ⟨a10, c11⟩
  refine sxo_move rfl rfl rfl ?_
  refine sxo_extract rfl rfl rfl rfl ?_
  refine sxo_extract rfl rfl rfl rfl ?_
  refine sxo_assign rfl rfl rfl ?_
  refine sxo_assign rfl rfl rfl ?_
  refine sxo_nil ?_
  refine sxq_next ?_
  refine sxc_seq ?_
  refine sxc_region ?_
  refine sxo_move rfl rfl rfl ?_
  refine sxo_move rfl rfl rfl ?_
  refine sxo_call ent16 rfl rfl rfl (fun x12 e12 => C_gaps_Back F x4 a5 c6 x7 x12 e12) (.consF 1 rfl .nil) (fun x12 e12 => ?_)
  rintro ⟨a13, c14⟩
  refine sxo_move rfl rfl rfl ?_
  refine sxo_extract rfl rfl rfl rfl ?_
  refine sxo_extract rfl rfl rfl rfl ?_
  refine sxo_assign rfl rfl rfl ?_
  refine sxo_assign rfl rfl rfl ?_
  refine sxo_nil ?_
  refine sxq_next ?_
  refine sxc_seq ?_
  refine sxc_region ?_
  refine sxo_move rfl rfl rfl ?_
  refine sxo_move rfl rfl rfl ?_
  refine sxo_move rfl rfl rfl ?_
  refine sxo_call ent17 rfl rfl rfl (fun x15 e15 => C_gaps_Write F x1 a2 c3 x7 x8 x15 e15) (.consF 0 rfl .nil) (fun x15 e15 => ?_)
  rintro ⟨a16, c17⟩
  refine sxo_move rfl rfl rfl ?_
  refine sxo_extract rfl rfl rfl rfl ?_
  refine sxo_extract rfl rfl rfl rfl ?_
  refine sxo_alloc rfl tf31 rfl (fun g18 => ?_)
  refine sxo_storeB (i := 0) rfl rfl rfl tf31 rfl rfl rfl rfl rfl ?_
  refine sxo_assign rfl rfl rfl ?_
  refine sxo_nil ?_
  refine sxq_next ?_
  refine sxc_seq ?_
  refine sxc_region ?_
  refine sxo_move rfl rfl rfl ?_
  refine sxo_call ent18 rfl rfl rfl (fun x19 e19 => C_R_RisingCheck F x1 a2 c3 x19 e19) (.consF 0 rfl .nil) (fun x19 e19 => ?_)
  intro _
  refine sxo_assign rfl rfl rfl ?_
  refine sxo_nil ?_
  refine sxq_next ?_
  refine sxc_seq ?_
  refine sxc_region ?_
  refine sxo_move rfl rfl rfl ?_
  refine sxo_assign rfl rfl rfl ?_
  refine sxo_nil ?_
  refine sxq_next ?_
  refine sxc_join (fun ((x25, _) : (Int × Unit)) => [(0, .slice a2 x1.length c3), (1, .slice a5 x4.length c6), (2, .int .i64 x7), (3, .int .i64 x8), (9, .slice a10 x9.1.length c11), (10, .int .i64 x9.2), (11, .slice a13 x12.1.length c14), (12, .int .i64 x12.2), (13, .pointer (some ⟨g18, 0, none⟩)), (14, .int .i64 x15.2.2), (15, .int .i64 x19), (16, .int .i64 x25)]) (fun ((x25, _) : (Int × Unit)) => [⟨g18, 31, [.int .i64 x15.1, .slice a16 x15.2.1.length c17]⟩]) (fun ((x25, _) : (Int × Unit)) => [Ro (eI .u64) 46 1 (.slice a10 x9.1.length c11) x9.1, Ro (eI .i64) 3 1 (.slice a13 x12.1.length c14) x12.1, Ro (eI .u8) 5 1 (.slice a16 x15.2.1.length c17) x15.2.1]) (fun ((x25, _) : (Int × Unit)) => [Sl (eI .i64) 1 (.slice a2 x1.length c3) x1, Sl (eI .u64) 1 (.slice a5 x4.length c6) x4]) (fun ((x25, _) : (Int × Unit)) => M_L_GapsTell_j2 F x1 x4 x7 x8 x9 x12 x15 x19 x25) ?_ ?_
  · refine sxc_seq ?_
    refine sxc_region ?_
    refine sxo_move rfl rfl rfl ?_
    refine sxo_eql rfl rfl rfl rfl ?_
    refine sxo_move rfl rfl rfl ?_
    refine sxo_join 7 (fun ((x66, _) : (Bool × Unit)) => [(0, .slice a2 x1.length c3), (1, .slice a5 x4.length c6), (2, .int .i64 x7), (3, .int .i64 x8), (9, .slice a10 x9.1.length c11), (10, .int .i64 x9.2), (11, .slice a13 x12.1.length c14), (12, .int .i64 x12.2), (13, .pointer (some ⟨g18, 0, none⟩)), (14, .int .i64 x15.2.2), (15, .int .i64 x19), (16, .int .i64 x19), (53, .bool x66)]) (fun ((x66, _) : (Bool × Unit)) => [⟨g18, 31, [.int .i64 x15.1, .slice a16 x15.2.1.length c17]⟩]) (fun ((x66, _) : (Bool × Unit)) => [Ro (eI .u64) 46 1 (.slice a10 x9.1.length c11) x9.1, Ro (eI .i64) 3 1 (.slice a13 x12.1.length c14) x12.1, Ro (eI .u8) 5 1 (.slice a16 x15.2.1.length c17) x15.2.1]) (fun ((x66, _) : (Bool × Unit)) => [Sl (eI .i64) 1 (.slice a2 x1.length c3) x1, Sl (eI .u64) 1 (.slice a5 x4.length c6) x4]) (fun ((x66, _) : (Bool × Unit)) => M_L_GapsTell_j8 F x1 x4 x7 x8 x9 x12 x15 x19 x66) ?_ ?_
    · refine sxo_take (os := _) rfl ?_
      refine sxo_if (fun h64 => ?_) (fun h64 => ?_)
      · refine sxo_isT (k := 46) rfl h64 ?_
        refine sxo_move rfl rfl rfl ?_
        refine sxo_lss rfl rfl rfl rfl ?_
        refine sxo_move rfl rfl rfl ?_
        refine sxo_case 3 (decide (x7 < 0)) [(0, .slice a2 x1.length c3), (1, .slice a5 x4.length c6), (2, .int .i64 x7), (3, .int .i64 x8), (9, .slice a10 x9.1.length c11), (10, .int .i64 x9.2), (11, .slice a13 x12.1.length c14), (12, .int .i64 x12.2), (13, .pointer (some ⟨g18, 0, none⟩)), (14, .int .i64 x15.2.2), (15, .int .i64 x19), (16, .int .i64 x19), (46, .bool true), (52, .bool ((decide (x7 < 0)) || (decide (1048576 < x7))))] (fun h68 => ?_) (fun h68 => ?_) ?_
        · refine sxo_take (os := _) rfl ?_
          refine sxo_isT (k := 49) rfl h68 ?_
          refine sxo_skip rfl rfl rfl ?_
          refine sxo_skip rfl rfl rfl ?_
          refine sxo_pick (b := true) rfl rfl rfl rfl ?_
          refine sxo_again (d := 52) (v := .bool ((decide (x7 < 0)) || (decide (1048576 < x7)))) rfl (by rw [h68]; simp only [Bool.true_or]) ?_
          refine sxo_nil ?_
          exact sxq_case (lk_cons rfl (lk_cons rfl (lk_cons rfl (lk_cons rfl (lk_cons rfl (lk_cons rfl (lk_cons rfl (lk_cons rfl (lk_cons rfl (lk_cons rfl (lk_cons rfl (lk_cons rfl (lk_cons rfl (lk_cons rfl lk_nil))))))))))))))
        · refine sxo_take (os := _) rfl ?_
          refine sxo_isF (k := 49) rfl h68 ?_
          refine sxo_move rfl rfl rfl ?_
          refine sxo_gtr rfl rfl rfl rfl ?_
          refine sxo_pick (b := false) rfl rfl rfl rfl ?_
          refine sxo_again (d := 52) (v := .bool ((decide (x7 < 0)) || (decide (1048576 < x7)))) rfl (by rw [h68]; simp only [Bool.false_or]) ?_
          refine sxo_nil ?_
          exact sxq_case (lk_cons rfl (lk_cons rfl (lk_cons rfl (lk_cons rfl (lk_cons rfl (lk_cons rfl (lk_cons rfl (lk_cons rfl (lk_cons rfl (lk_cons rfl (lk_cons rfl (lk_cons rfl (lk_cons rfl (lk_cons rfl lk_nil))))))))))))))
        refine sxo_take (os := _) rfl ?_
        refine sxo_pick (b := true) rfl rfl rfl rfl ?_
        refine sxo_nil ?_
        exact sxq_meetP (((decide (x7 < 0)) || (decide (1048576 < x7))), ()) (lk_cons rfl (lk_cons rfl (lk_cons rfl (lk_cons rfl (lk_cons rfl (lk_cons rfl (lk_cons rfl (lk_cons rfl (lk_cons rfl (lk_cons rfl (lk_cons rfl (lk_cons rfl (lk_cons rfl lk_nil))))))))))))) (.cons 0 rfl .nil) (.cons 2 rfl (.cons 1 rfl (.cons 0 rfl .nil))) (fk_cons 0 rfl (fk_cons 1 rfl fk_nil))
      · refine sxo_isF (k := 46) rfl h64 ?_
        refine sxo_skip rfl rfl rfl ?_
        refine sxo_skip rfl rfl rfl ?_
        refine sxo_skip rfl rfl rfl ?_
        refine sxo_skip rfl rfl rfl ?_
        refine sxo_skip rfl rfl rfl ?_
        refine sxo_skip rfl rfl rfl ?_
        refine sxo_pick (b := false) rfl rfl rfl rfl ?_
        refine sxo_nil ?_
        exact sxq_meetP (false, ()) (lk_cons rfl (lk_cons rfl (lk_cons rfl (lk_cons rfl (lk_cons rfl (lk_cons rfl (lk_cons rfl (lk_cons rfl (lk_cons rfl (lk_cons rfl (lk_cons rfl (lk_cons rfl (lk_cons rfl lk_nil))))))))))))) (.cons 0 rfl .nil) (.cons 2 rfl (.cons 1 rfl (.cons 0 rfl .nil))) (fk_cons 0 rfl (fk_cons 1 rfl fk_nil))
    · rintro ⟨x66, _⟩
      try dsimp only
      refine sxo_take (os := _) rfl ?_
      refine sxo_nil ?_
      refine sxq_next ?_
      refine sxc_if rfl (fun h67 => ?_) (fun h67 => ?_)
      · refine sxc_region ?_
        refine sxo_assign rfl rfl rfl ?_
        refine sxo_nil ?_
        exact sxq_meetP (3, ()) (lk_cons rfl (lk_cons rfl (lk_cons rfl (lk_cons rfl (lk_cons rfl (lk_cons rfl (lk_cons rfl (lk_cons rfl (lk_cons rfl (lk_cons rfl (lk_cons rfl (lk_cons rfl lk_nil)))))))))))) (.cons 0 rfl .nil) (.cons 0 rfl (.cons 0 rfl (.cons 0 rfl .nil))) (fk_cons 0 rfl (fk_cons 1 rfl fk_nil))
      · refine sxc_skip ?_
        exact sxq_meetP (x19, ()) (lk_cons rfl (lk_cons rfl (lk_cons rfl (lk_cons rfl (lk_cons rfl (lk_cons rfl (lk_cons rfl (lk_cons rfl (lk_cons rfl (lk_cons rfl (lk_cons rfl (lk_cons rfl lk_nil)))))))))))) (.cons 0 rfl .nil) (.cons 0 rfl (.cons 0 rfl (.cons 0 rfl .nil))) (fk_cons 0 rfl (fk_cons 1 rfl fk_nil))
  · rintro ⟨x25, _⟩
    try dsimp only
    refine sxc_seq ?_
    refine sxc_region ?_
    refine sxo_assign rfl rfl rfl ?_
    refine sxo_nil ?_
    refine sxq_next ?_
    refine sxc_join (fun ((x32, (a30, c31)) : (List Int × (Option Addr × Nat))) => [(0, .slice a2 x1.length c3), (1, .slice a5 x4.length c6), (2, .int .i64 x7), (3, .int .i64 x8), (9, .slice a10 x9.1.length c11), (10, .int .i64 x9.2), (11, .slice a13 x12.1.length c14), (12, .int .i64 x12.2), (13, .pointer (some ⟨g18, 0, none⟩)), (14, .int .i64 x15.2.2), (15, .int .i64 x19), (16, .int .i64 x25), (17, .slice a30 x32.length c31)]) (fun ((x32, (a30, c31)) : (List Int × (Option Addr × Nat))) => [⟨g18, 31, [.int .i64 x15.1, .slice a16 x15.2.1.length c17]⟩]) (fun ((x32, (a30, c31)) : (List Int × (Option Addr × Nat))) => [Ro (eI .u64) 46 1 (.slice a10 x9.1.length c11) x9.1, Ro (eI .i64) 3 1 (.slice a13 x12.1.length c14) x12.1, Ro (eI .u64) 46 1 (.slice a30 x32.length c31) x32, Ro (eI .u8) 5 1 (.slice a16 x15.2.1.length c17) x15.2.1]) (fun ((x32, (a30, c31)) : (List Int × (Option Addr × Nat))) => [Sl (eI .i64) 1 (.slice a2 x1.length c3) x1, Sl (eI .u64) 1 (.slice a5 x4.length c6) x4]) (fun ((x32, _) : (List Int × (Option Addr × Nat))) => M_L_GapsTell_j3 F x1 x4 x7 x8 x9 x12 x15 x19 x25 x32) ?_ ?_
    · refine sxc_seq ?_
      refine sxc_region ?_
      refine sxo_move rfl rfl rfl ?_
      refine sxo_eql rfl rfl rfl rfl ?_
      refine sxo_nil ?_
      refine sxq_next ?_
      refine sxc_if rfl (fun h63 => ?_) (fun h63 => ?_)
      · refine sxc_region ?_
        refine sxo_move rfl rfl rfl ?_
        refine sxo_move rfl rfl rfl ?_
        refine sxo_call ent19 rfl rfl rfl (fun x60 e60 => C_R_GapsOf F x1 a2 c3 x7 x60 e60) (.consF 0 rfl .nil) (fun x60 e60 => ?_)
        rintro ⟨a61, c62⟩
        refine sxo_assign rfl rfl rfl ?_
        refine sxo_nil ?_
        exact sxq_meetP (x60, (a61, c62)) (lk_cons rfl (lk_cons rfl (lk_cons rfl (lk_cons rfl (lk_cons rfl (lk_cons rfl (lk_cons rfl (lk_cons rfl (lk_cons rfl (lk_cons rfl (lk_cons rfl (lk_cons rfl (lk_cons rfl lk_nil))))))))))))) (.cons 0 rfl .nil) (.cons 1 rfl (.cons 1 rfl (.cons 0 rfl (.cons 0 rfl .nil)))) (fk_cons 0 rfl (fk_cons 1 rfl fk_nil))
      · refine sxc_skip ?_
        refine sxq_nilrow Int (eI .u64) 46 1 ?_
        exact sxq_meetP (([] : List Int), (none, 0)) (lk_cons rfl (lk_cons rfl (lk_cons rfl (lk_cons rfl (lk_cons rfl (lk_cons rfl (lk_cons rfl (lk_cons rfl (lk_cons rfl (lk_cons rfl (lk_cons rfl (lk_cons rfl (lk_cons rfl lk_nil))))))))))))) (.cons 0 rfl .nil) (.cons 1 rfl (.cons 1 rfl (.cons 0 rfl (.cons 0 rfl .nil)))) (fk_cons 0 rfl (fk_cons 1 rfl fk_nil))
    · rintro ⟨x32, ⟨a30, c31⟩⟩
      try dsimp only
      refine sxc_seq ?_
      refine sxc_region ?_
      refine sxo_move rfl rfl rfl ?_
      refine sxo_move rfl rfl rfl ?_
      refine sxo_call ent20 rfl rfl rfl (fun x33 e33 => C_R_GapsBack F x4 a5 c6 x7 x33 e33) (.consF 1 rfl .nil) (fun x33 e33 => ?_)
      rintro ⟨a34, c35⟩
      refine sxo_move rfl rfl rfl ?_
      refine sxo_extract rfl rfl rfl rfl ?_
      refine sxo_extract rfl rfl rfl rfl ?_
      refine sxo_assign rfl rfl rfl ?_
      refine sxo_assign rfl rfl rfl ?_
      refine sxo_nil ?_
      refine sxq_next ?_
      refine sxc_seq ?_
      refine sxc_region ?_
      refine sxo_move rfl rfl rfl ?_
      refine sxo_move rfl rfl rfl ?_
      refine sxo_move rfl rfl rfl ?_
      refine sxo_call ent21 rfl rfl rfl (fun x36 e36 => C_R_GapsWrite F x1 a2 c3 x7 x8 x36 e36) (.consF 0 rfl .nil) (fun x36 e36 => ?_)
      rintro ⟨a37, c38⟩
      refine sxo_move rfl rfl rfl ?_
      refine sxo_extract rfl rfl rfl rfl ?_
      refine sxo_extract rfl rfl rfl rfl ?_
      refine sxo_alloc rfl tf31 rfl (fun g39 => ?_)
      refine sxo_storeB (i := 0) rfl rfl rfl tf31 rfl rfl rfl rfl rfl ?_
      refine sxo_assign rfl rfl rfl ?_
      refine sxo_nil ?_
      refine sxq_next ?_
      refine sxc_seq ?_
      refine sxc_region ?_
      refine sxo_call ent22 rfl rfl rfl (fun x40 e40 => C_L_gapsBegun F  x40 e40) .nil (fun x40 e40 => ?_)
      intro _
      refine sxo_move rfl rfl rfl ?_
      refine sxo_join 5 (fun ((x43, _) : (Bool × Unit)) => [(9, .slice a10 x9.1.length c11), (10, .int .i64 x9.2), (11, .slice a13 x12.1.length c14), (12, .int .i64 x12.2), (13, .pointer (some ⟨g18, 0, none⟩)), (14, .int .i64 x15.2.2), (16, .int .i64 x25), (17, .slice a30 x32.length c31), (18, .slice a34 x33.1.length c35), (19, .int .i64 x33.2), (20, .pointer (some ⟨g39, 0, none⟩)), (21, .int .i64 x36.2.2), (78, .bool x43)]) (fun ((x43, _) : (Bool × Unit)) => [⟨g39, 31, [.int .i64 x36.1, .slice a37 x36.2.1.length c38]⟩, ⟨g18, 31, [.int .i64 x15.1, .slice a16 x15.2.1.length c17]⟩]) (fun ((x43, _) : (Bool × Unit)) => [Ro (eI .u64) 46 1 (.slice a10 x9.1.length c11) x9.1, Ro (eI .i64) 3 1 (.slice a13 x12.1.length c14) x12.1, Ro (eI .u64) 46 1 (.slice a30 x32.length c31) x32, Ro (eI .i64) 3 1 (.slice a34 x33.1.length c35) x33.1, Ro (eI .u8) 5 1 (.slice a37 x36.2.1.length c38) x36.2.1, Ro (eI .u8) 5 1 (.slice a16 x15.2.1.length c17) x15.2.1]) (fun ((x43, _) : (Bool × Unit)) => []) (fun ((x43, _) : (Bool × Unit)) => M_L_GapsTell_j4 F x9 x12 x15 x25 x32 x33 x36 x43) ?_ ?_
      · refine sxo_take (os := _) rfl ?_
        refine sxo_if (fun h41 => ?_) (fun h41 => ?_)
        · refine sxo_isT (k := 73) rfl h41 ?_
          refine sxo_move rfl rfl rfl ?_
          refine sxo_call ent23 rfl rfl rfl (fun x59 e59 => C_gaps_Check F x1 a2 c3 x59 e59) (.consF 0 rfl .nil) (fun x59 e59 => ?_)
          intro _
          refine sxo_move rfl rfl rfl ?_
          refine sxo_eql rfl rfl rfl rfl ?_
          refine sxo_pick (b := true) rfl rfl rfl rfl ?_
          refine sxo_nil ?_
          exact sxq_meetP (((x59 : Int) == x19), ()) (lk_cons rfl (lk_cons rfl (lk_cons rfl (lk_cons rfl (lk_cons rfl (lk_cons rfl (lk_cons rfl (lk_cons rfl (lk_cons rfl (lk_cons rfl (lk_cons rfl (lk_cons rfl (lk_cons rfl lk_nil))))))))))))) (.cons 0 rfl (.cons 0 rfl .nil)) (.cons 2 rfl (.cons 2 rfl (.cons 2 rfl (.cons 1 rfl (.cons 0 rfl (.cons 0 rfl .nil)))))) fk_nil
        · refine sxo_isF (k := 73) rfl h41 ?_
          refine sxo_skip rfl rfl rfl ?_
          refine sxo_skip rfl rfl rfl ?_
          refine sxo_skip rfl rfl rfl ?_
          refine sxo_skip rfl rfl rfl ?_
          refine sxo_pick (b := false) rfl rfl rfl rfl ?_
          refine sxo_nil ?_
          exact sxq_meetP (false, ()) (lk_cons rfl (lk_cons rfl (lk_cons rfl (lk_cons rfl (lk_cons rfl (lk_cons rfl (lk_cons rfl (lk_cons rfl (lk_cons rfl (lk_cons rfl (lk_cons rfl (lk_cons rfl (lk_cons rfl lk_nil))))))))))))) (.cons 0 rfl (.cons 0 rfl .nil)) (.cons 2 rfl (.cons 2 rfl (.cons 2 rfl (.cons 1 rfl (.cons 0 rfl (.cons 0 rfl .nil)))))) fk_nil
      · rintro ⟨x43, _⟩
        try dsimp only
        refine sxo_take (os := _) rfl ?_
        refine sxo_move rfl rfl rfl ?_
        refine sxo_join 4 (fun ((x46, _) : (Bool × Unit)) => [(10, .int .i64 x9.2), (11, .slice a13 x12.1.length c14), (12, .int .i64 x12.2), (13, .pointer (some ⟨g18, 0, none⟩)), (14, .int .i64 x15.2.2), (16, .int .i64 x25), (18, .slice a34 x33.1.length c35), (19, .int .i64 x33.2), (20, .pointer (some ⟨g39, 0, none⟩)), (21, .int .i64 x36.2.2), (83, .bool x46)]) (fun ((x46, _) : (Bool × Unit)) => [⟨g39, 31, [.int .i64 x36.1, .slice a37 x36.2.1.length c38]⟩, ⟨g18, 31, [.int .i64 x15.1, .slice a16 x15.2.1.length c17]⟩]) (fun ((x46, _) : (Bool × Unit)) => [Ro (eI .i64) 3 1 (.slice a13 x12.1.length c14) x12.1, Ro (eI .i64) 3 1 (.slice a34 x33.1.length c35) x33.1, Ro (eI .u8) 5 1 (.slice a37 x36.2.1.length c38) x36.2.1, Ro (eI .u8) 5 1 (.slice a16 x15.2.1.length c17) x15.2.1]) (fun ((x46, _) : (Bool × Unit)) => []) (fun ((x46, _) : (Bool × Unit)) => M_L_GapsTell_j5 F x9 x12 x15 x25 x33 x36 x46) ?_ ?_
        · refine sxo_take (os := _) rfl ?_
          refine sxo_if (fun h44 => ?_) (fun h44 => ?_)
          · refine sxo_isT (k := 79) rfl h44 ?_
            refine sxo_move rfl rfl rfl ?_
            refine sxo_move rfl rfl rfl ?_
            refine sxo_call ent24 rfl rfl rfl (fun x58 e58 => C_R_SameNums F x9.1 a10 c11 x32 a30 c31 x58 e58) (.consR 0 (Ro (eI .u64) 46 1 (.slice a10 x9.1.length c11) x9.1) rfl (.consR 2 (Ro (eI .u64) 46 1 (.slice a30 x32.length c31) x32) rfl .nil)) (fun x58 e58 => ?_)
            intro _
            refine sxo_pick (b := true) rfl rfl rfl rfl ?_
            refine sxo_nil ?_
            exact sxq_meetP (x58, ()) (lk_cons rfl (lk_cons rfl (lk_cons rfl (lk_cons rfl (lk_cons rfl (lk_cons rfl (lk_cons rfl (lk_cons rfl (lk_cons rfl (lk_cons rfl (lk_cons rfl lk_nil))))))))))) (.cons 0 rfl (.cons 0 rfl .nil)) (.cons 1 rfl (.cons 2 rfl (.cons 2 rfl (.cons 2 rfl .nil)))) fk_nil
          · refine sxo_isF (k := 79) rfl h44 ?_
            refine sxo_skip rfl rfl rfl ?_
            refine sxo_skip rfl rfl rfl ?_
            refine sxo_skip rfl rfl rfl ?_
            refine sxo_pick (b := false) rfl rfl rfl rfl ?_
            refine sxo_nil ?_
            exact sxq_meetP (false, ()) (lk_cons rfl (lk_cons rfl (lk_cons rfl (lk_cons rfl (lk_cons rfl (lk_cons rfl (lk_cons rfl (lk_cons rfl (lk_cons rfl (lk_cons rfl (lk_cons rfl lk_nil))))))))))) (.cons 0 rfl (.cons 0 rfl .nil)) (.cons 1 rfl (.cons 2 rfl (.cons 2 rfl (.cons 2 rfl .nil)))) fk_nil
        · rintro ⟨x46, _⟩
          try dsimp only
          refine sxo_take (os := _) rfl ?_
          refine sxo_move rfl rfl rfl ?_
          refine sxo_case 4 x46 [(11, .slice a13 x12.1.length c14), (12, .int .i64 x12.2), (13, .pointer (some ⟨g18, 0, none⟩)), (14, .int .i64 x15.2.2), (18, .slice a34 x33.1.length c35), (19, .int .i64 x33.2), (20, .pointer (some ⟨g39, 0, none⟩)), (21, .int .i64 x36.2.2), (88, .bool (x46 && ((x9.2 : Int) == x25)))] (fun h47 => ?_) (fun h47 => ?_) ?_
          · refine sxo_take (os := _) rfl ?_
            refine sxo_isT (k := 84) rfl h47 ?_
            refine sxo_move rfl rfl rfl ?_
            refine sxo_move rfl rfl rfl ?_
            refine sxo_eql rfl rfl rfl rfl ?_
            refine sxo_pick (b := true) rfl rfl rfl rfl ?_
            refine sxo_again (d := 88) (v := .bool (x46 && ((x9.2 : Int) == x25))) rfl (by rw [h47]; simp only [Bool.true_and]) ?_
            refine sxo_nil ?_
            exact sxq_case (lk_cons rfl (lk_cons rfl (lk_cons rfl (lk_cons rfl (lk_cons rfl (lk_cons rfl (lk_cons rfl (lk_cons rfl (lk_cons rfl lk_nil)))))))))
          · refine sxo_take (os := _) rfl ?_
            refine sxo_isF (k := 84) rfl h47 ?_
            refine sxo_skip rfl rfl rfl ?_
            refine sxo_skip rfl rfl rfl ?_
            refine sxo_skip rfl rfl rfl ?_
            refine sxo_pick (b := false) rfl rfl rfl rfl ?_
            refine sxo_again (d := 88) (v := .bool (x46 && ((x9.2 : Int) == x25))) rfl (by rw [h47]; simp only [Bool.false_and]) ?_
            refine sxo_nil ?_
            exact sxq_case (lk_cons rfl (lk_cons rfl (lk_cons rfl (lk_cons rfl (lk_cons rfl (lk_cons rfl (lk_cons rfl (lk_cons rfl (lk_cons rfl lk_nil)))))))))
          refine sxo_take (os := _) rfl ?_
          refine sxo_move rfl rfl rfl ?_
          refine sxo_join 4 (fun ((x50, _) : (Bool × Unit)) => [(12, .int .i64 x12.2), (13, .pointer (some ⟨g18, 0, none⟩)), (14, .int .i64 x15.2.2), (19, .int .i64 x33.2), (20, .pointer (some ⟨g39, 0, none⟩)), (21, .int .i64 x36.2.2), (93, .bool x50)]) (fun ((x50, _) : (Bool × Unit)) => [⟨g39, 31, [.int .i64 x36.1, .slice a37 x36.2.1.length c38]⟩, ⟨g18, 31, [.int .i64 x15.1, .slice a16 x15.2.1.length c17]⟩]) (fun ((x50, _) : (Bool × Unit)) => [Ro (eI .u8) 5 1 (.slice a37 x36.2.1.length c38) x36.2.1, Ro (eI .u8) 5 1 (.slice a16 x15.2.1.length c17) x15.2.1]) (fun ((x50, _) : (Bool × Unit)) => []) (fun ((x50, _) : (Bool × Unit)) => M_L_GapsTell_j6 F x12 x15 x33 x36 x50) ?_ ?_
          · refine sxo_take (os := _) rfl ?_
            refine sxo_if (fun h48 => ?_) (fun h48 => ?_)
            · refine sxo_isT (k := 89) rfl h48 ?_
              refine sxo_move rfl rfl rfl ?_
              refine sxo_move rfl rfl rfl ?_
              refine sxo_call ent25 rfl rfl rfl (fun x57 e57 => C_R_SameInts F x12.1 a13 c14 x33.1 a34 c35 x57 e57) (.consR 0 (Ro (eI .i64) 3 1 (.slice a13 x12.1.length c14) x12.1) rfl (.consR 1 (Ro (eI .i64) 3 1 (.slice a34 x33.1.length c35) x33.1) rfl .nil)) (fun x57 e57 => ?_)
              intro _
              refine sxo_pick (b := true) rfl rfl rfl rfl ?_
              refine sxo_nil ?_
              exact sxq_meetP (x57, ()) (lk_cons rfl (lk_cons rfl (lk_cons rfl (lk_cons rfl (lk_cons rfl (lk_cons rfl (lk_cons rfl lk_nil))))))) (.cons 0 rfl (.cons 0 rfl .nil)) (.cons 2 rfl (.cons 2 rfl .nil)) fk_nil
            · refine sxo_isF (k := 89) rfl h48 ?_
              refine sxo_skip rfl rfl rfl ?_
              refine sxo_skip rfl rfl rfl ?_
              refine sxo_skip rfl rfl rfl ?_
              refine sxo_pick (b := false) rfl rfl rfl rfl ?_
              refine sxo_nil ?_
              exact sxq_meetP (false, ()) (lk_cons rfl (lk_cons rfl (lk_cons rfl (lk_cons rfl (lk_cons rfl (lk_cons rfl (lk_cons rfl lk_nil))))))) (.cons 0 rfl (.cons 0 rfl .nil)) (.cons 2 rfl (.cons 2 rfl .nil)) fk_nil
          · rintro ⟨x50, _⟩
            try dsimp only
            refine sxo_take (os := _) rfl ?_
            refine sxo_move rfl rfl rfl ?_
            refine sxo_case 4 x50 [(13, .pointer (some ⟨g18, 0, none⟩)), (14, .int .i64 x15.2.2), (20, .pointer (some ⟨g39, 0, none⟩)), (21, .int .i64 x36.2.2), (98, .bool (x50 && ((x12.2 : Int) == x33.2)))] (fun h51 => ?_) (fun h51 => ?_) ?_
            · refine sxo_take (os := _) rfl ?_
              refine sxo_isT (k := 94) rfl h51 ?_
              refine sxo_move rfl rfl rfl ?_
              refine sxo_move rfl rfl rfl ?_
              refine sxo_eql rfl rfl rfl rfl ?_
              refine sxo_pick (b := true) rfl rfl rfl rfl ?_
              refine sxo_again (d := 98) (v := .bool (x50 && ((x12.2 : Int) == x33.2))) rfl (by rw [h51]; simp only [Bool.true_and]) ?_
              refine sxo_nil ?_
              exact sxq_case (lk_cons rfl (lk_cons rfl (lk_cons rfl (lk_cons rfl (lk_cons rfl lk_nil)))))
            · refine sxo_take (os := _) rfl ?_
              refine sxo_isF (k := 94) rfl h51 ?_
              refine sxo_skip rfl rfl rfl ?_
              refine sxo_skip rfl rfl rfl ?_
              refine sxo_skip rfl rfl rfl ?_
              refine sxo_pick (b := false) rfl rfl rfl rfl ?_
              refine sxo_again (d := 98) (v := .bool (x50 && ((x12.2 : Int) == x33.2))) rfl (by rw [h51]; simp only [Bool.false_and]) ?_
              refine sxo_nil ?_
              exact sxq_case (lk_cons rfl (lk_cons rfl (lk_cons rfl (lk_cons rfl (lk_cons rfl lk_nil)))))
            refine sxo_take (os := _) rfl ?_
            refine sxo_move rfl rfl rfl ?_
            refine sxo_join 4 (fun ((x54, _) : (Bool × Unit)) => [(14, .int .i64 x15.2.2), (21, .int .i64 x36.2.2), (103, .bool x54)]) (fun ((x54, _) : (Bool × Unit)) => []) (fun ((x54, _) : (Bool × Unit)) => []) (fun ((x54, _) : (Bool × Unit)) => []) (fun ((x54, _) : (Bool × Unit)) => M_L_GapsTell_j7 F x15 x36 x54) ?_ ?_
            · refine sxo_take (os := _) rfl ?_
              refine sxo_if (fun h52 => ?_) (fun h52 => ?_)
              · refine sxo_isT (k := 99) rfl h52 ?_
                refine sxo_loadB (i := 1) rfl rfl tf31 rfl rfl (by simp) rfl rfl ?_
                refine sxo_loadB (i := 0) rfl rfl tf31 rfl rfl (by simp) rfl rfl ?_
                refine sxo_call ent26 rfl rfl rfl (fun x56 e56 => C_R_SameBits F x15.1 x15.2.1 a16 c17 x36.1 x36.2.1 a37 c38 x56 e56) (.consR 1 (Ro (eI .u8) 5 1 (.slice a16 x15.2.1.length c17) x15.2.1) rfl (.consR 0 (Ro (eI .u8) 5 1 (.slice a37 x36.2.1.length c38) x36.2.1) rfl .nil)) (fun x56 e56 => ?_)
                intro _
                refine sxo_pick (b := true) rfl rfl rfl rfl ?_
                refine sxo_nil ?_
                exact sxq_meetP (x56, ()) (lk_cons rfl (lk_cons rfl (lk_cons rfl lk_nil))) .nil .nil fk_nil
              · refine sxo_isF (k := 99) rfl h52 ?_
                refine sxo_skip rfl rfl rfl ?_
                refine sxo_skip rfl rfl rfl ?_
                refine sxo_skip rfl rfl rfl ?_
                refine sxo_pick (b := false) rfl rfl rfl rfl ?_
                refine sxo_nil ?_
                exact sxq_meetP (false, ()) (lk_cons rfl (lk_cons rfl (lk_cons rfl lk_nil))) .nil .nil fk_nil
            · rintro ⟨x54, _⟩
              try dsimp only
              refine sxo_take (os := _) rfl ?_
              refine sxo_move rfl rfl rfl ?_
              refine sxo_case 4 x54 [(108, .bool (x54 && ((x15.2.2 : Int) == x36.2.2)))] (fun h55 => ?_) (fun h55 => ?_) ?_
              · refine sxo_take (os := _) rfl ?_
                refine sxo_isT (k := 104) rfl h55 ?_
                refine sxo_move rfl rfl rfl ?_
                refine sxo_move rfl rfl rfl ?_
                refine sxo_eql rfl rfl rfl rfl ?_
                refine sxo_pick (b := true) rfl rfl rfl rfl ?_
                refine sxo_again (d := 108) (v := .bool (x54 && ((x15.2.2 : Int) == x36.2.2))) rfl (by rw [h55]; simp only [Bool.true_and]) ?_
                refine sxo_nil ?_
                exact sxq_case (lk_cons rfl lk_nil)
              · refine sxo_take (os := _) rfl ?_
                refine sxo_isF (k := 104) rfl h55 ?_
                refine sxo_skip rfl rfl rfl ?_
                refine sxo_skip rfl rfl rfl ?_
                refine sxo_skip rfl rfl rfl ?_
                refine sxo_pick (b := false) rfl rfl rfl rfl ?_
                refine sxo_again (d := 108) (v := .bool (x54 && ((x15.2.2 : Int) == x36.2.2))) rfl (by rw [h55]; simp only [Bool.false_and]) ?_
                refine sxo_nil ?_
                exact sxq_case (lk_cons rfl lk_nil)
              refine sxo_take (os := _) rfl ?_
              refine sxo_assign rfl rfl rfl ?_
              refine sxo_nil ?_
              refine sxq_next ?_
              refine sxc_ret ?_
              exact sxq_doneP () (.inl rfl) (res1 rfl rfl) (fun h => by subst h; rfl) (fun h => by subst h; exact .nil)

theorem C_R_BitList (F : Nat) (x1 : Int) (x2 : List Int) (a3 : Option Addr) (c4 : Nat) (r : List Int) (hm : M_R_BitList F x1 x2 = some r) :
    Pure Try.prog 53 [.agg #[.int .i64 x1, .slice a3 x2.length c4]] [Sl (eI .u8) 1 (.slice a3 x2.length c4) x2] (Option Addr × Nat) (fun g => .slice g.1 r.length g.2) (fun g => [Ro (eI .i64) 3 1 (.slice g.1 r.length g.2) r]) (fun _ => []) := by
  refine pure_of Try.func53 rfl Try.ntmps53 rfl hm (fun w => ?_)
  refine sxc_env (l' := [(0, .agg #[.int .i64 x1, .slice a3 x2.length c4])]) rfl ?_
  refine sxc_seq ?_
  refine sxc_region ?_
  refine sxo_box rfl rfl rfl (fun g5 => ?_)
  refine sxo_assign rfl rfl rfl ?_
  refine sxo_nil ?_
  refine sxq_next ?_
  refine sxc_seq ?_
  refine sxc_region ?_
  refine sxo_assign rfl rfl rfl ?_
  refine sxo_nil ?_
  refine sxq_next ?_
  refine sxc_join (fun ((x190, (a188, c189)) : (List Int × (Option Addr × Nat))) => [(3, .slice a188 x190.length c189)]) (fun ((x190, (a188, c189)) : (List Int × (Option Addr × Nat))) => []) (fun ((x190, (a188, c189)) : (List Int × (Option Addr × Nat))) => [Ro (eI .i64) 3 1 (.slice a188 x190.length c189) x190]) (fun ((x190, (a188, c189)) : (List Int × (Option Addr × Nat))) => []) (fun ((x190, _) : (List Int × (Option Addr × Nat))) => M_R_BitList_j23 F x190) ?_ ?_
  · refine sxc_seq ?_
    refine sxc_region ?_
    refine sxo_assign rfl rfl rfl ?_
    refine sxo_nil ?_
    refine sxq_next ?_
    refine sxc_block ?_
    refine sxc_nilrow Int (eI .i64) 3 1 ?_
    refine sxc_loopP (fun (((x252, x253), (a250, c251)) : ((List Int × Int) × (Option Addr × Nat))) => [(1, .pointer (some ⟨g5, 0, none⟩)), (3, .slice a250 x252.length c251), (4, .int .i64 x253)]) (fun (((x252, x253), (a250, c251)) : ((List Int × Int) × (Option Addr × Nat))) => [⟨g5, 31, [.int .i64 x1, .slice a3 x2.length c4]⟩]) (fun (((x252, x253), (a250, c251)) : ((List Int × Int) × (Option Addr × Nat))) => [Ro (eI .i64) 3 1 (.slice a250 x252.length c251) x252]) (fun (((x252, x253), (a250, c251)) : ((List Int × Int) × (Option Addr × Nat))) => [Sl (eI .u8) 1 (.slice a3 x2.length c4) x2]) (fun k (s : ((List Int × Int) × (Option Addr × Nat))) => M_R_BitList_l38 F x1 x2 k s.1) ((([] : List Int), 0), (none, 0)) F (lk_cons rfl (lk_cons rfl (lk_cons rfl lk_nil))) (.cons 0 rfl .nil) (.cons 0 rfl .nil) (fk_cons 0 rfl fk_nil) (fun _ => rfl) ?_
    intro k313
    rintro ⟨⟨x252, x253⟩, ⟨a250, c251⟩⟩
    try dsimp only
    refine sxc_meq (m' := M_R_BitList_b38 F x1 x2 (M_R_BitList_l38 F x1 x2 k313) x252 x253) rfl ?_
    refine sxc_seq ?_
    refine sxc_seq ?_
    refine sxc_region ?_
    refine sxo_move rfl rfl rfl ?_
    refine sxo_fieldAddr rfl rfl ff31_0 rfl ?_
    refine sxo_loadB (i := 0) rfl rfl tf3 rfl rfl (fun _ => rfl) rfl rfl ?_
    refine sxo_lss rfl rfl rfl rfl ?_
    refine sxo_nil ?_
    refine sxq_next ?_
    refine sxc_if rfl (fun h372 => ?_) (fun h372 => ?_)
    · refine sxc_skip ?_
      refine sxq_next ?_
      refine sxc_join (fun ((x344, (a342, c343)) : (List Int × (Option Addr × Nat))) => [(1, .pointer (some ⟨g5, 0, none⟩)), (3, .slice a342 x344.length c343), (4, .int .i64 x253)]) (fun ((x344, (a342, c343)) : (List Int × (Option Addr × Nat))) => [⟨g5, 31, [.int .i64 x1, .slice a3 x2.length c4]⟩]) (fun ((x344, (a342, c343)) : (List Int × (Option Addr × Nat))) => [Ro (eI .i64) 3 1 (.slice a342 x344.length c343) x344]) (fun ((x344, (a342, c343)) : (List Int × (Option Addr × Nat))) => [Sl (eI .u8) 1 (.slice a3 x2.length c4) x2]) (fun ((x344, _) : (List Int × (Option Addr × Nat))) => M_R_BitList_j42 F (M_R_BitList_l38 F x1 x2 k313) x253 x344) ?_ ?_
      · refine sxc_block ?_
        refine sxc_seq ?_
        refine sxc_region ?_
        refine sxo_fieldAddr rfl rfl ff31_1 rfl ?_
        refine sxo_loadB (i := 0) rfl rfl tf29 rfl rfl (fun _ => rfl) rfl rfl ?_
        refine sxo_move rfl rfl rfl ?_
        refine sxo_quo rfl rfl rfl rfl rfl ?_
        refine sxo_indexF (j := 0) (eI_ok .u8) (by decide) rfl Try.underlying29 tf5 rfl rfl rfl rfl (fun x345 e345 b346 o347 => ?_)
        refine sxo_loadF (j := 0) rfl rfl tf5 rfl rfl (fun _ => rfl) rfl rfl ?_
        refine sxo_conv rfl Try.underlying5 Try.underlying3 rfl rfl ?_
        refine sxo_assign rfl rfl rfl ?_
        refine sxo_nil ?_
        refine sxq_next ?_
        refine sxc_join (fun ((x357, _) : (Int × Unit)) => [(1, .pointer (some ⟨g5, 0, none⟩)), (3, .slice a250 x252.length c251), (4, .int .i64 x253), (5, .int .i64 x357)]) (fun ((x357, _) : (Int × Unit)) => [⟨g5, 31, [.int .i64 x1, .slice a3 x2.length c4]⟩]) (fun ((x357, _) : (Int × Unit)) => [Ro (eI .i64) 3 1 (.slice a250 x252.length c251) x252]) (fun ((x357, _) : (Int × Unit)) => [Sl (eI .u8) 1 (.slice a3 x2.length c4) x2]) (fun ((x357, _) : (Int × Unit)) => M_R_BitList_j44 F (M_R_BitList_l38 F x1 x2 k313) x252 x253 x357) ?_ ?_
        · refine sxc_seq ?_
          refine sxc_region ?_
          refine sxo_assign rfl rfl rfl ?_
          refine sxo_nil ?_
          refine sxq_next ?_
          refine sxc_block ?_
          refine sxc_loopP (fun (((x365, x366), _) : ((Int × Int) × Unit)) => [(1, .pointer (some ⟨g5, 0, none⟩)), (3, .slice a250 x252.length c251), (4, .int .i64 x253), (5, .int .i64 x365), (6, .int .i64 x366)]) (fun (((x365, x366), _) : ((Int × Int) × Unit)) => [⟨g5, 31, [.int .i64 x1, .slice a3 x2.length c4]⟩]) (fun (((x365, x366), _) : ((Int × Int) × Unit)) => [Ro (eI .i64) 3 1 (.slice a250 x252.length c251) x252]) (fun (((x365, x366), _) : ((Int × Int) × Unit)) => [Sl (eI .u8) 1 (.slice a3 x2.length c4) x2]) (fun k (s : ((Int × Int) × Unit)) => M_R_BitList_l45 F (M_R_BitList_l38 F x1 x2 k313) x252 x253 k s.1) ((iconv .i64 x345, 0), ()) F (lk_cons rfl (lk_cons rfl (lk_cons rfl (lk_cons rfl (lk_cons rfl lk_nil))))) (.cons 0 rfl .nil) (.cons 0 rfl .nil) (fk_cons 1 rfl fk_nil) (fun _ => rfl) ?_
          intro k369
          rintro ⟨⟨x365, x366⟩, _⟩
          try dsimp only
          refine sxc_meq (m' := M_R_BitList_b45 F (M_R_BitList_l38 F x1 x2 k313) x252 x253 (M_R_BitList_l45 F (M_R_BitList_l38 F x1 x2 k313) x252 x253 k369) x365 x366) rfl ?_
          refine sxc_seq ?_
          refine sxc_seq ?_
          refine sxc_region ?_
          refine sxo_move rfl rfl rfl ?_
          refine sxo_move rfl rfl rfl ?_
          refine sxo_rem rfl rfl rfl rfl rfl ?_
          refine sxo_sub rfl rfl rfl rfl ?_
          refine sxo_lss rfl rfl rfl rfl ?_
          refine sxo_nil ?_
          refine sxq_next ?_
          refine sxc_if rfl (fun h371 => ?_) (fun h371 => ?_)
          · refine sxc_skip ?_
            refine sxq_next ?_
            refine sxc_seq ?_
            refine sxc_block ?_
            refine sxc_region ?_
            refine sxo_move rfl rfl rfl ?_
            refine sxo_quo rfl rfl rfl rfl rfl ?_
            refine sxo_assign rfl rfl rfl ?_
            refine sxo_nil ?_
            refine sxq_blkN ?_
            refine sxq_next ?_
            refine sxc_region ?_
            refine sxo_move rfl rfl rfl ?_
            refine sxo_add rfl rfl rfl rfl ?_
            refine sxo_assign rfl rfl rfl ?_
            refine sxo_nil ?_
            exact sxq_againP ((iquo .i64 x365 2, iadd .i64 x366 1), ()) (lk_cons rfl (lk_cons rfl (lk_cons rfl (lk_cons rfl (lk_cons rfl lk_nil))))) (.cons 0 rfl .nil) (.cons 0 rfl .nil) (fk_cons 0 rfl fk_nil)
          · refine sxc_exit ?_
            refine sxq_thenX ?_
            refine sxq_thenX ?_
            refine sxq_blkX ?_
            exact sxq_meetP (x365, ()) (lk_cons rfl (lk_cons rfl (lk_cons rfl (lk_cons rfl lk_nil)))) (.cons 0 rfl .nil) (.cons 0 rfl .nil) (fk_cons 0 rfl fk_nil)
        · rintro ⟨x357, _⟩
          try dsimp only
          refine sxc_region ?_
          refine sxo_move rfl rfl rfl ?_
          refine sxo_move rfl rfl rfl ?_
          refine sxo_rem rfl rfl rfl rfl rfl ?_
          refine sxo_slit (vs := [.int .i64 (irem x357 2)]) (ys := ([irem x357 2] : List Int)) (eI_ok .i64) (by decide) rfl Try.underlying22 tf3 rfl rfl rfl rfl rfl (by decide) (fun a358 c359 => ?_)
          refine sxo_app 1 (eI_ok .i64) rfl Try.underlying22 tf3 rfl rfl rfl rfl rfl (.inl ⟨0, _, rfl⟩) rfl rfl (fun x360 e360 a361 c362 => ?_)
          refine sxo_assign rfl rfl rfl ?_
          refine sxo_nil ?_
          refine sxq_blkN ?_
          exact sxq_meetP (x360, (a361, c362)) (lk_cons rfl (lk_cons rfl (lk_cons rfl lk_nil))) (.cons 0 rfl .nil) (.cons 0 rfl .nil) (fk_cons 0 rfl fk_nil)
      · rintro ⟨x344, ⟨a342, c343⟩⟩
        try dsimp only
        refine sxc_region ?_
        refine sxo_move rfl rfl rfl ?_
        refine sxo_add rfl rfl rfl rfl ?_
        refine sxo_assign rfl rfl rfl ?_
        refine sxo_nil ?_
        exact sxq_againP ((x344, iadd .i64 x253 1), (a342, c343)) (lk_cons rfl (lk_cons rfl (lk_cons rfl lk_nil))) (.cons 0 rfl .nil) (.cons 0 rfl .nil) (fk_cons 0 rfl fk_nil)
    · refine sxc_exit ?_
      refine sxq_thenX ?_
      refine sxq_thenX ?_
      refine sxq_blkX ?_
      exact sxq_meetP (x252, (a250, c251)) (lk_cons rfl lk_nil) .nil (.cons 0 rfl .nil) fk_nil
  · rintro ⟨x190, ⟨a188, c189⟩⟩
    try dsimp only
    refine sxc_seq ?_
    refine sxc_region ?_
    refine sxo_move rfl rfl rfl ?_
    refine sxo_assign rfl rfl rfl ?_
    refine sxo_nil ?_
    refine sxq_next ?_
    refine sxc_ret ?_
    exact sxq_doneP (a188, c189) (.inl rfl) (res1 rfl rfl) (fun h => by subst h; rfl) (fun h => by subst h; exact (.cons 0 rfl .nil))

theorem C_R_BitsCheck (F : Nat) (x1 : Int) (x2 : List Int) (a3 : Option Addr) (c4 : Nat) (r : Int) (hm : M_R_BitsCheck F x1 x2 = some r) :
    Pure Try.prog 70 [.agg #[.int .i64 x1, .slice a3 x2.length c4]] [Sl (eI .u8) 1 (.slice a3 x2.length c4) x2] Unit (fun _ => .int .i64 r) (fun _ => []) (fun _ => []) := by
  refine pure_of Try.func70 rfl Try.ntmps70 rfl hm (fun w => ?_)
  refine sxc_env (l' := [(0, .agg #[.int .i64 x1, .slice a3 x2.length c4])]) rfl ?_
  refine sxc_seq ?_
  refine sxc_region ?_
  refine sxo_box rfl rfl rfl (fun g5 => ?_)
  refine sxo_assign rfl rfl rfl ?_
  refine sxo_nil ?_
  refine sxq_next ?_
  refine sxc_seq ?_
  refine sxc_seq ?_
  refine sxc_region ?_
  refine sxo_fieldAddr rfl rfl ff31_0 rfl ?_
  refine sxo_loadB (i := 0) rfl rfl tf3 rfl rfl (fun _ => rfl) rfl rfl ?_
  refine sxo_call ent43 rfl rfl rfl (fun x8 e8 => C_R_between F x1 0 8192 x8 e8) .nil (fun x8 e8 => ?_)
  intro _
  refine sxo_not rfl rfl rfl ?_
  refine sxo_nil ?_
  refine sxq_next ?_
  refine sxc_if rfl (fun h81 => ?_) (fun h81 => ?_)
  · refine sxc_seq ?_
    refine sxc_region ?_
    refine sxo_assign rfl rfl rfl ?_
    refine sxo_nil ?_
    refine sxq_next ?_
    refine sxc_ret ?_
    refine sxq_thenR ?_
    exact sxq_doneP () (.inl rfl) (res1 rfl rfl) (fun h => by subst h; rfl) (fun h => by subst h; exact .nil)
  · refine sxc_skip ?_
    refine sxq_next ?_
    refine sxc_seq ?_
    refine sxc_region ?_
    refine sxo_fieldAddr rfl rfl ff31_0 rfl ?_
    refine sxo_loadB (i := 0) rfl rfl tf3 rfl rfl (fun _ => rfl) rfl rfl ?_
    refine sxo_quo rfl rfl rfl rfl rfl ?_
    refine sxo_assign rfl rfl rfl ?_
    refine sxo_nil ?_
    refine sxq_next ?_
    refine sxc_join (fun ((x10, _) : (Int × Unit)) => [(1, .pointer (some ⟨g5, 0, none⟩)), (3, .int .i64 x10)]) (fun ((x10, _) : (Int × Unit)) => [⟨g5, 31, [.int .i64 x1, .slice a3 x2.length c4]⟩]) (fun ((x10, _) : (Int × Unit)) => []) (fun ((x10, _) : (Int × Unit)) => [Sl (eI .u8) 1 (.slice a3 x2.length c4) x2]) (fun ((x10, _) : (Int × Unit)) => M_R_BitsCheck_j1 F x1 x2 x10) ?_ ?_
    · refine sxc_seq ?_
      refine sxc_region ?_
      refine sxo_fieldAddr rfl rfl ff31_0 rfl ?_
      refine sxo_loadB (i := 0) rfl rfl tf3 rfl rfl (fun _ => rfl) rfl rfl ?_
      refine sxo_rem rfl rfl rfl rfl rfl ?_
      refine sxo_gtr rfl rfl rfl rfl ?_
      refine sxo_nil ?_
      refine sxq_next ?_
      refine sxc_if rfl (fun h80 => ?_) (fun h80 => ?_)
      · refine sxc_region ?_
        refine sxo_move rfl rfl rfl ?_
        refine sxo_add rfl rfl rfl rfl ?_
        refine sxo_assign rfl rfl rfl ?_
        refine sxo_nil ?_
        exact sxq_meetP (iadd .i64 (iquo .i64 x1 8) 1, ()) (lk_cons rfl (lk_cons rfl lk_nil)) (.cons 0 rfl .nil) .nil (fk_cons 0 rfl fk_nil)
      · refine sxc_skip ?_
        exact sxq_meetP (iquo .i64 x1 8, ()) (lk_cons rfl (lk_cons rfl lk_nil)) (.cons 0 rfl .nil) .nil (fk_cons 0 rfl fk_nil)
    · rintro ⟨x10, _⟩
      try dsimp only
      refine sxc_seq ?_
      refine sxc_seq ?_
      refine sxc_region ?_
      refine sxo_fieldAddr rfl rfl ff31_1 rfl ?_
      refine sxo_loadB (i := 0) rfl rfl tf29 rfl rfl (fun _ => rfl) rfl rfl ?_
      refine sxo_len rfl Try.underlying29 rfl rfl ?_
      refine sxo_move rfl rfl rfl ?_
      refine sxo_neq rfl rfl rfl rfl ?_
      refine sxo_nil ?_
      refine sxq_next ?_
      refine sxc_if rfl (fun h79 => ?_) (fun h79 => ?_)
      · refine sxc_seq ?_
        refine sxc_region ?_
        refine sxo_assign rfl rfl rfl ?_
        refine sxo_nil ?_
        refine sxq_next ?_
        refine sxc_ret ?_
        refine sxq_thenR ?_
        exact sxq_doneP () (.inl rfl) (res1 rfl rfl) (fun h => by subst h; rfl) (fun h => by subst h; exact .nil)
      · refine sxc_skip ?_
        refine sxq_next ?_
        refine sxc_seq ?_
        refine sxc_region ?_
        refine sxo_move rfl rfl rfl ?_
        refine sxo_mul rfl rfl rfl rfl ?_
        refine sxo_fieldAddr rfl rfl ff31_1 rfl ?_
        refine sxo_loadB (i := 0) rfl rfl tf29 rfl rfl (fun _ => rfl) rfl rfl ?_
        refine sxo_build (cells := [.int .i64 (imul .i64 8 x10), .slice a3 x2.length c4]) rfl st31 rfl (by kernel_rfl) rfl ?_
        refine sxo_call ent53 rfl rfl rfl (fun x12 e12 => C_R_BitList F (imul .i64 8 x10) x2 a3 c4 x12 e12) (.consF 0 rfl .nil) (fun x12 e12 => ?_)
        rintro ⟨a13, c14⟩
        refine sxo_assign rfl rfl rfl ?_
        refine sxo_nil ?_
        refine sxq_next ?_
        refine sxc_join (fun ((_, _) : (Unit × Unit)) => []) (fun ((_, _) : (Unit × Unit)) => []) (fun ((_, _) : (Unit × Unit)) => []) (fun ((_, _) : (Unit × Unit)) => []) (fun ((_, _) : (Unit × Unit)) => M_R_BitsCheck_j3 F) ?_ ?_
        · refine sxc_seq ?_
          refine sxc_region ?_
          refine sxo_fieldAddr rfl rfl ff31_0 rfl ?_
          refine sxo_loadB (i := 0) rfl rfl tf3 rfl rfl (fun _ => rfl) rfl rfl ?_
          refine sxo_assign rfl rfl rfl ?_
          refine sxo_nil ?_
          refine sxq_next ?_
          refine sxc_block ?_
          refine sxc_loopP (fun ((x57, _) : (Int × Unit)) => [(4, .slice a13 x12.length c14), (5, .int .i64 x57)]) (fun ((x57, _) : (Int × Unit)) => []) (fun ((x57, _) : (Int × Unit)) => [Ro (eI .i64) 3 1 (.slice a13 x12.length c14) x12]) (fun ((x57, _) : (Int × Unit)) => []) (fun k (s : (Int × Unit)) => M_R_BitsCheck_l4 F x12 k s.1) (x1, ()) F (lk_cons rfl (lk_cons rfl lk_nil)) .nil (.cons 0 rfl .nil) fk_nil (fun _ => rfl) ?_
          intro k68
          rintro ⟨x57, _⟩
          try dsimp only
          refine sxc_meq (m' := M_R_BitsCheck_b4 F x12 (M_R_BitsCheck_l4 F x12 k68) x57) rfl ?_
          refine sxc_seq ?_
          refine sxc_seq ?_
          refine sxc_region ?_
          refine sxo_move rfl rfl rfl ?_
          refine sxo_move rfl rfl rfl ?_
          refine sxo_len rfl Try.underlying22 rfl rfl ?_
          refine sxo_lss rfl rfl rfl rfl ?_
          refine sxo_nil ?_
          refine sxq_next ?_
          refine sxc_if rfl (fun h78 => ?_) (fun h78 => ?_)
          · refine sxc_skip ?_
            refine sxq_next ?_
            refine sxc_seq ?_
            refine sxc_block ?_
            refine sxc_seq ?_
            refine sxc_region ?_
            refine sxo_move rfl rfl rfl ?_
            refine sxo_move rfl rfl rfl ?_
            refine sxo_indexR (j := 0) rfl Try.underlying22 tf3 rfl rfl rfl rfl (fun x74 e74 g75 h76 => ?_)
            refine sxo_loadR (j := 0) (y := x74) (eI_ok .i64) rfl rfl tf3 rfl h76 (idx_get e74).2.2 (fun _ => rfl) rfl rfl ?_
            refine sxo_neq rfl rfl rfl rfl ?_
            refine sxo_nil ?_
            refine sxq_next ?_
            refine sxc_if rfl (fun h77 => ?_) (fun h77 => ?_)
            · refine sxc_seq ?_
              refine sxc_region ?_
              refine sxo_assign rfl rfl rfl ?_
              refine sxo_nil ?_
              refine sxq_next ?_
              refine sxc_ret ?_
              refine sxq_blkR ?_
              refine sxq_thenR ?_
              refine sxq_thenR ?_
              refine sxq_blkR ?_
              refine sxq_thenR ?_
              exact sxq_doneP () (.inl rfl) (res1 rfl rfl) (fun h => by subst h; rfl) (fun h => by subst h; exact .nil)
            · refine sxc_skip ?_
              refine sxq_blkN ?_
              refine sxq_next ?_
              refine sxc_region ?_
              refine sxo_move rfl rfl rfl ?_
              refine sxo_add rfl rfl rfl rfl ?_
              refine sxo_assign rfl rfl rfl ?_
              refine sxo_nil ?_
              exact sxq_againP (iadd .i64 x57 1, ()) (lk_cons rfl (lk_cons rfl lk_nil)) .nil (.cons 0 rfl .nil) fk_nil
          · refine sxc_exit ?_
            refine sxq_thenX ?_
            refine sxq_thenX ?_
            refine sxq_blkX ?_
            exact sxq_meetP ((), ()) lk_nil .nil .nil fk_nil
        · rintro ⟨_, _⟩
          try dsimp only
          refine sxc_seq ?_
          refine sxc_region ?_
          refine sxo_assign rfl rfl rfl ?_
          refine sxo_nil ?_
          refine sxq_next ?_
          refine sxc_ret ?_
          exact sxq_doneP () (.inl rfl) (res1 rfl rfl) (fun h => by subst h; rfl) (fun h => by subst h; exact .nil)

theorem C_R_ReadErr (F : Nat) (x1 : Int) (x2 : List Int) (a3 : Option Addr) (c4 : Nat) (x5 : Int) (r : Int) (hm : M_R_ReadErr F x1 x2 x5 = some r) :
    Pure Try.prog 51 [.agg #[.int .i64 x1, .slice a3 x2.length c4], .int .i64 x5] [Sl (eI .u8) 1 (.slice a3 x2.length c4) x2] Unit (fun _ => .int .i64 r) (fun _ => []) (fun _ => []) := by
  refine pure_of Try.func51 rfl Try.ntmps51 rfl hm (fun w => ?_)
  refine sxc_env (l' := [(0, .agg #[.int .i64 x1, .slice a3 x2.length c4]), (1, .int .i64 x5)]) rfl ?_
  refine sxc_seq ?_
  refine sxc_region ?_
  refine sxo_box rfl rfl rfl (fun g6 => ?_)
  refine sxo_assign rfl rfl rfl ?_
  refine sxo_nil ?_
  refine sxq_next ?_
  refine sxc_seq ?_
  refine sxc_region ?_
  refine sxo_loadB (i := 0) rfl rfl tf31 rfl rfl (by simp) rfl rfl ?_
  refine sxo_call ent70 rfl rfl rfl (fun x7 e7 => C_R_BitsCheck F x1 x2 a3 c4 x7 e7) (.consF 0 rfl .nil) (fun x7 e7 => ?_)
  intro _
  refine sxo_assign rfl rfl rfl ?_
  refine sxo_nil ?_
  refine sxq_next ?_
  refine sxc_join (fun ((x13, _) : (Int × Unit)) => [(5, .int .i64 x13)]) (fun ((x13, _) : (Int × Unit)) => []) (fun ((x13, _) : (Int × Unit)) => []) (fun ((x13, _) : (Int × Unit)) => []) (fun ((x13, _) : (Int × Unit)) => M_R_ReadErr_j2 F x13) ?_ ?_
  · refine sxc_seq ?_
    refine sxc_region ?_
    refine sxo_move rfl rfl rfl ?_
    refine sxo_eql rfl rfl rfl rfl ?_
    refine sxo_move rfl rfl rfl ?_
    refine sxo_join 6 (fun ((x16, _) : (Bool × Unit)) => [(5, .int .i64 x7), (16, .bool x16)]) (fun ((x16, _) : (Bool × Unit)) => []) (fun ((x16, _) : (Bool × Unit)) => []) (fun ((x16, _) : (Bool × Unit)) => []) (fun ((x16, _) : (Bool × Unit)) => M_R_ReadErr_j3 F x7 x16) ?_ ?_
    · refine sxo_take (os := _) rfl ?_
      refine sxo_if (fun h14 => ?_) (fun h14 => ?_)
      · refine sxo_isT (k := 10) rfl h14 ?_
        refine sxo_move rfl rfl rfl ?_
        refine sxo_fieldAddr rfl rfl ff31_0 rfl ?_
        refine sxo_loadB (i := 0) rfl rfl tf3 rfl rfl (fun _ => rfl) rfl rfl ?_
        refine sxo_call ent43 rfl rfl rfl (fun x18 e18 => C_R_between F x5 0 x1 x18 e18) .nil (fun x18 e18 => ?_)
        intro _
        refine sxo_not rfl rfl rfl ?_
        refine sxo_pick (b := true) rfl rfl rfl rfl ?_
        refine sxo_nil ?_
        exact sxq_meetP ((!x18), ()) (lk_cons rfl (lk_cons rfl lk_nil)) .nil .nil fk_nil
      · refine sxo_isF (k := 10) rfl h14 ?_
        refine sxo_skip rfl rfl rfl ?_
        refine sxo_skip rfl rfl rfl ?_
        refine sxo_skip rfl rfl rfl ?_
        refine sxo_skip rfl rfl rfl ?_
        refine sxo_skip rfl rfl rfl ?_
        refine sxo_pick (b := false) rfl rfl rfl rfl ?_
        refine sxo_nil ?_
        exact sxq_meetP (false, ()) (lk_cons rfl (lk_cons rfl lk_nil)) .nil .nil fk_nil
    · rintro ⟨x16, _⟩
      try dsimp only
      refine sxo_take (os := _) rfl ?_
      refine sxo_nil ?_
      refine sxq_next ?_
      refine sxc_if rfl (fun h17 => ?_) (fun h17 => ?_)
      · refine sxc_region ?_
        refine sxo_assign rfl rfl rfl ?_
        refine sxo_nil ?_
        exact sxq_meetP (3, ()) (lk_cons rfl lk_nil) .nil .nil fk_nil
      · refine sxc_skip ?_
        exact sxq_meetP (x7, ()) (lk_cons rfl lk_nil) .nil .nil fk_nil
  · rintro ⟨x13, _⟩
    try dsimp only
    refine sxc_seq ?_
    refine sxc_region ?_
    refine sxo_move rfl rfl rfl ?_
    refine sxo_assign rfl rfl rfl ?_
    refine sxo_nil ?_
    refine sxq_next ?_
    refine sxc_ret ?_
    exact sxq_doneP () (.inl rfl) (res1 rfl rfl) (fun h => by subst h; rfl) (fun h => by subst h; exact .nil)

theorem C_R_UnaryRead (F : Nat) (x1 : List Int) (a2 : Option Addr) (c3 : Nat) (x4 : Int) (r : (Int × Int)) (hm : M_R_UnaryRead F x1 x4 = some r) :
    Pure Try.prog 92 [.slice a2 x1.length c3, .int .i64 x4] [Sl (eI .i64) 1 (.slice a2 x1.length c3) x1] Unit (fun _ => .tuple #[.int .u64 r.1, .int .i64 r.2]) (fun _ => []) (fun _ => []) := by
  refine pure_of Try.func92 rfl Try.ntmps92 rfl hm (fun w => ?_)
  refine sxc_env (l' := [(0, .slice a2 x1.length c3), (1, .int .i64 x4)]) rfl ?_
  refine sxc_seq ?_
  refine sxc_region ?_
  refine sxo_assign rfl rfl rfl ?_
  refine sxo_assign rfl rfl rfl ?_
  refine sxo_nil ?_
  refine sxq_next ?_
  refine sxc_seq ?_
  refine sxc_region ?_
  refine sxo_assign rfl rfl rfl ?_
  refine sxo_nil ?_
  refine sxq_next ?_
  refine sxc_join (fun ((_, _) : (Unit × Unit)) => []) (fun ((_, _) : (Unit × Unit)) => []) (fun ((_, _) : (Unit × Unit)) => []) (fun ((_, _) : (Unit × Unit)) => []) (fun ((_, _) : (Unit × Unit)) => M_R_UnaryRead_j2 F) ?_ ?_
  · refine sxc_seq ?_
    refine sxc_region ?_
    refine sxo_move rfl rfl rfl ?_
    refine sxo_assign rfl rfl rfl ?_
    refine sxo_nil ?_
    refine sxq_next ?_
    refine sxc_block ?_
    refine sxc_loopP (fun (((x80, x81), _) : ((Int × Int) × Unit)) => [(0, .slice a2 x1.length c3), (6, .int .u64 x80), (7, .int .i64 x81)]) (fun (((x80, x81), _) : ((Int × Int) × Unit)) => []) (fun (((x80, x81), _) : ((Int × Int) × Unit)) => []) (fun (((x80, x81), _) : ((Int × Int) × Unit)) => [Sl (eI .i64) 1 (.slice a2 x1.length c3) x1]) (fun k (s : ((Int × Int) × Unit)) => M_R_UnaryRead_l3 F x1 k s.1) ((0, x4), ()) F (lk_cons rfl (lk_cons rfl (lk_cons rfl lk_nil))) .nil .nil (fk_cons 0 rfl fk_nil) (fun _ => rfl) ?_
    intro k100
    rintro ⟨⟨x80, x81⟩, _⟩
    try dsimp only
    refine sxc_meq (m' := M_R_UnaryRead_b3 F x1 (M_R_UnaryRead_l3 F x1 k100) x80 x81) rfl ?_
    refine sxc_seq ?_
    refine sxc_seq ?_
    refine sxc_region ?_
    refine sxo_move rfl rfl rfl ?_
    refine sxo_move rfl rfl rfl ?_
    refine sxo_len rfl Try.underlying22 rfl rfl ?_
    refine sxo_lss rfl rfl rfl rfl ?_
    refine sxo_nil ?_
    refine sxq_next ?_
    refine sxc_if rfl (fun h118 => ?_) (fun h118 => ?_)
    · refine sxc_skip ?_
      refine sxq_next ?_
      refine sxc_seq ?_
      refine sxc_block ?_
      refine sxc_seq ?_
      refine sxc_seq ?_
      refine sxc_region ?_
      refine sxo_move rfl rfl rfl ?_
      refine sxo_move rfl rfl rfl ?_
      refine sxo_indexF (j := 0) (eI_ok .i64) (by decide) rfl Try.underlying22 tf3 rfl rfl rfl rfl (fun x114 e114 b115 o116 => ?_)
      refine sxo_loadF (j := 0) rfl rfl tf3 rfl rfl (fun _ => rfl) rfl rfl ?_
      refine sxo_eql rfl rfl rfl rfl ?_
      refine sxo_nil ?_
      refine sxq_next ?_
      refine sxc_if rfl (fun h117 => ?_) (fun h117 => ?_)
      · refine sxc_seq ?_
        refine sxc_region ?_
        refine sxo_move rfl rfl rfl ?_
        refine sxo_move rfl rfl rfl ?_
        refine sxo_add rfl rfl rfl rfl ?_
        refine sxo_assign rfl rfl rfl ?_
        refine sxo_assign rfl rfl rfl ?_
        refine sxo_nil ?_
        refine sxq_next ?_
        refine sxc_ret ?_
        refine sxq_thenR ?_
        refine sxq_blkR ?_
        refine sxq_thenR ?_
        refine sxq_thenR ?_
        refine sxq_blkR ?_
        refine sxq_thenR ?_
        exact sxq_doneP () (.inl rfl) (res2 rfl rfl rfl) (fun h => by subst h; rfl) (fun h => by subst h; exact .nil)
      · refine sxc_skip ?_
        refine sxq_next ?_
        refine sxc_region ?_
        refine sxo_move rfl rfl rfl ?_
        refine sxo_add rfl rfl rfl rfl ?_
        refine sxo_assign rfl rfl rfl ?_
        refine sxo_nil ?_
        refine sxq_blkN ?_
        refine sxq_next ?_
        refine sxc_region ?_
        refine sxo_move rfl rfl rfl ?_
        refine sxo_add rfl rfl rfl rfl ?_
        refine sxo_assign rfl rfl rfl ?_
        refine sxo_nil ?_
        exact sxq_againP ((iadd .u64 x80 1, iadd .i64 x81 1), ()) (lk_cons rfl (lk_cons rfl (lk_cons rfl lk_nil))) .nil .nil (fk_cons 1 rfl fk_nil)
    · refine sxc_exit ?_
      refine sxq_thenX ?_
      refine sxq_thenX ?_
      refine sxq_blkX ?_
      exact sxq_meetP ((), ()) lk_nil .nil .nil fk_nil
  · rintro ⟨_, _⟩
    try dsimp only
    refine sxc_seq ?_
    refine sxc_region ?_
    refine sxo_assign rfl rfl rfl ?_
    refine sxo_assign rfl rfl rfl ?_
    refine sxo_nil ?_
    refine sxq_next ?_
    refine sxc_ret ?_
    exact sxq_doneP () (.inl rfl) (res2 rfl rfl rfl) (fun h => by subst h; rfl) (fun h => by subst h; exact .nil)

set_option maxHeartbeats 4000000 in
theorem C_R_LeastRead (F : Nat) (x1 : List Int) (a2 : Option Addr) (c3 : Nat) (x4 : Int) (x5 : Int) (r : (Int × Int)) (hm : M_R_LeastRead F x1 x4 x5 = some r) :
    Pure Try.prog 93 [.slice a2 x1.length c3, .int .i64 x4, .int .u64 x5] [Sl (eI .i64) 1 (.slice a2 x1.length c3) x1] Unit (fun _ => .tuple #[.int .u64 r.1, .int .i64 r.2]) (fun _ => []) (fun _ => []) := by
  refine pure_of Try.func93 rfl Try.ntmps93 rfl hm (fun w => ?_)
  refine sxc_env (l' := [(0, .slice a2 x1.length c3), (1, .int .i64 x4), (2, .int .u64 x5)]) rfl ?_
  refine sxc_seq ?_
  refine sxc_region ?_
  refine sxo_assign rfl rfl rfl ?_
  refine sxo_assign rfl rfl rfl ?_
  refine sxo_nil ?_
  refine sxq_next ?_
  refine sxc_seq ?_
  refine sxc_region ?_
  refine sxo_assign rfl rfl rfl ?_
  refine sxo_nil ?_
  refine sxq_next ?_
  refine sxc_join (fun ((x18, _) : (Int × Unit)) => [(0, .slice a2 x1.length c3), (1, .int .i64 x4), (2, .int .u64 x5), (8, .int .i64 x18)]) (fun ((x18, _) : (Int × Unit)) => []) (fun ((x18, _) : (Int × Unit)) => []) (fun ((x18, _) : (Int × Unit)) => [Sl (eI .i64) 1 (.slice a2 x1.length c3) x1]) (fun ((x18, _) : (Int × Unit)) => M_R_LeastRead_j2 F x1 x4 x5 x18) ?_ ?_
  · refine sxc_block ?_
    refine sxc_loopP (fun ((x208, _) : (Int × Unit)) => [(0, .slice a2 x1.length c3), (1, .int .i64 x4), (2, .int .u64 x5), (8, .int .i64 x208)]) (fun ((x208, _) : (Int × Unit)) => []) (fun ((x208, _) : (Int × Unit)) => []) (fun ((x208, _) : (Int × Unit)) => [Sl (eI .i64) 1 (.slice a2 x1.length c3) x1]) (fun k (s : (Int × Unit)) => M_R_LeastRead_l6 F x1 x4 x5 k s.1) (0, ()) F (lk_cons rfl (lk_cons rfl (lk_cons rfl (lk_cons rfl lk_nil)))) .nil .nil (fk_cons 0 rfl fk_nil) (fun _ => rfl) ?_
    intro k213
    rintro ⟨x208, _⟩
    try dsimp only
    refine sxc_meq (m' := M_R_LeastRead_b6 F x1 x4 x5 (M_R_LeastRead_l6 F x1 x4 x5 k213) x208) rfl ?_
    refine sxc_seq ?_
    refine sxc_seq ?_
    refine sxc_region ?_
    refine sxo_move rfl rfl rfl ?_
    refine sxo_chk (fun h216 => ?_)
    refine sxo_shl rfl rfl rfl rfl h216 ?_
    refine sxo_move rfl rfl rfl ?_
    refine sxo_lss rfl rfl rfl rfl ?_
    refine sxo_nil ?_
    refine sxq_next ?_
    refine sxc_if rfl (fun h217 => ?_) (fun h217 => ?_)
    · refine sxc_skip ?_
      refine sxq_next ?_
      refine sxc_block ?_
      refine sxc_region ?_
      refine sxo_move rfl rfl rfl ?_
      refine sxo_add rfl rfl rfl rfl ?_
      refine sxo_assign rfl rfl rfl ?_
      refine sxo_nil ?_
      refine sxq_blkN ?_
      exact sxq_againP (iadd .i64 x208 1, ()) (lk_cons rfl (lk_cons rfl (lk_cons rfl (lk_cons rfl lk_nil)))) .nil .nil (fk_cons 0 rfl fk_nil)
    · refine sxc_exit ?_
      refine sxq_thenX ?_
      refine sxq_thenX ?_
      refine sxq_blkX ?_
      exact sxq_meetP (x208, ()) (lk_cons rfl (lk_cons rfl (lk_cons rfl (lk_cons rfl lk_nil)))) .nil .nil (fk_cons 0 rfl fk_nil)
  · rintro ⟨x18, _⟩
    try dsimp only
    refine sxc_seq ?_
    refine sxc_region ?_
    refine sxo_move rfl rfl rfl ?_
    refine sxo_chk (fun h19 => ?_)
    refine sxo_shl rfl rfl rfl rfl h19 ?_
    refine sxo_move rfl rfl rfl ?_
    refine sxo_sub rfl rfl rfl rfl ?_
    refine sxo_assign rfl rfl rfl ?_
    refine sxo_nil ?_
    refine sxq_next ?_
    refine sxc_seq ?_
    refine sxc_region ?_
    refine sxo_assign rfl rfl rfl ?_
    refine sxo_nil ?_
    refine sxq_next ?_
    refine sxc_join (fun ((_, _) : (Unit × Unit)) => []) (fun ((_, _) : (Unit × Unit)) => []) (fun ((_, _) : (Unit × Unit)) => []) (fun ((_, _) : (Unit × Unit)) => []) (fun ((_, _) : (Unit × Unit)) => M_R_LeastRead_j4 F) ?_ ?_
    · refine sxc_seq ?_
      refine sxc_region ?_
      refine sxo_assign rfl rfl rfl ?_
      refine sxo_nil ?_
      refine sxq_next ?_
      refine sxc_block ?_
      refine sxc_loopP (fun (((x143, x144), _) : ((Int × Int) × Unit)) => [(0, .slice a2 x1.length c3), (1, .int .i64 x4), (8, .int .i64 x18), (9, .int .u64 (isub .u64 (ishl .u64 1 x18) x5)), (10, .int .u64 x143), (11, .int .i64 x144)]) (fun (((x143, x144), _) : ((Int × Int) × Unit)) => []) (fun (((x143, x144), _) : ((Int × Int) × Unit)) => []) (fun (((x143, x144), _) : ((Int × Int) × Unit)) => [Sl (eI .i64) 1 (.slice a2 x1.length c3) x1]) (fun k (s : ((Int × Int) × Unit)) => M_R_LeastRead_l5 F x1 x4 x5 x18 k s.1) ((0, 0), ()) F (lk_cons rfl (lk_cons rfl (lk_cons rfl (lk_cons rfl (lk_cons rfl (lk_cons rfl lk_nil)))))) .nil .nil (fk_cons 0 rfl fk_nil) (fun _ => rfl) ?_
      intro k175
      rintro ⟨⟨x143, x144⟩, _⟩
      try dsimp only
      refine sxc_meq (m' := M_R_LeastRead_b5 F x1 x4 x5 x18 (M_R_LeastRead_l5 F x1 x4 x5 x18 k175) x143 x144) rfl ?_
      refine sxc_seq ?_
      refine sxc_seq ?_
      refine sxc_region ?_
      refine sxo_move rfl rfl rfl ?_
      refine sxo_move rfl rfl rfl ?_
      refine sxo_leq rfl rfl rfl rfl ?_
      refine sxo_nil ?_
      refine sxq_next ?_
      refine sxc_if rfl (fun h205 => ?_) (fun h205 => ?_)
      · refine sxc_skip ?_
        refine sxq_next ?_
        refine sxc_seq ?_
        refine sxc_block ?_
        refine sxc_seq ?_
        refine sxc_seq ?_
        refine sxc_region ?_
        refine sxo_move rfl rfl rfl ?_
        refine sxo_move rfl rfl rfl ?_
        refine sxo_sub rfl rfl rfl rfl ?_
        refine sxo_eql rfl rfl rfl rfl ?_
        refine sxo_move rfl rfl rfl ?_
        refine sxo_case 4 ((x144 : Int) == (isub .i64 x18 1)) [(0, .slice a2 x1.length c3), (1, .int .i64 x4), (8, .int .i64 x18), (9, .int .u64 (isub .u64 (ishl .u64 1 x18) x5)), (10, .int .u64 x143), (11, .int .i64 x144), (35, .bool (((x144 : Int) == (isub .i64 x18 1)) && (decide (x143 < (isub .u64 (ishl .u64 1 x18) x5)))))] (fun h193 => ?_) (fun h193 => ?_) ?_
        · refine sxo_take (os := _) rfl ?_
          refine sxo_isT (k := 31) rfl h193 ?_
          refine sxo_move rfl rfl rfl ?_
          refine sxo_move rfl rfl rfl ?_
          refine sxo_lss rfl rfl rfl rfl ?_
          refine sxo_pick (b := true) rfl rfl rfl rfl ?_
          refine sxo_again (d := 35) (v := .bool (((x144 : Int) == (isub .i64 x18 1)) && (decide (x143 < (isub .u64 (ishl .u64 1 x18) x5))))) rfl (by rw [h193]; simp only [Bool.true_and]) ?_
          refine sxo_nil ?_
          exact sxq_case (lk_cons rfl (lk_cons rfl (lk_cons rfl (lk_cons rfl (lk_cons rfl (lk_cons rfl (lk_cons rfl lk_nil)))))))
        · refine sxo_take (os := _) rfl ?_
          refine sxo_isF (k := 31) rfl h193 ?_
          refine sxo_skip rfl rfl rfl ?_
          refine sxo_skip rfl rfl rfl ?_
          refine sxo_skip rfl rfl rfl ?_
          refine sxo_pick (b := false) rfl rfl rfl rfl ?_
          refine sxo_again (d := 35) (v := .bool (((x144 : Int) == (isub .i64 x18 1)) && (decide (x143 < (isub .u64 (ishl .u64 1 x18) x5))))) rfl (by rw [h193]; simp only [Bool.false_and]) ?_
          refine sxo_nil ?_
          exact sxq_case (lk_cons rfl (lk_cons rfl (lk_cons rfl (lk_cons rfl (lk_cons rfl (lk_cons rfl (lk_cons rfl lk_nil)))))))
        refine sxo_take (os := _) rfl ?_
        refine sxo_nil ?_
        refine sxq_next ?_
        refine sxc_if rfl (fun h204 => ?_) (fun h204 => ?_)
        · refine sxc_seq ?_
          refine sxc_region ?_
          refine sxo_move rfl rfl rfl ?_
          refine sxo_move rfl rfl rfl ?_
          refine sxo_move rfl rfl rfl ?_
          refine sxo_add rfl rfl rfl rfl ?_
          refine sxo_assign rfl rfl rfl ?_
          refine sxo_assign rfl rfl rfl ?_
          refine sxo_nil ?_
          refine sxq_next ?_
          refine sxc_ret ?_
          refine sxq_thenR ?_
          refine sxq_blkR ?_
          refine sxq_thenR ?_
          refine sxq_thenR ?_
          refine sxq_blkR ?_
          refine sxq_thenR ?_
          exact sxq_doneP () (.inl rfl) (res2 rfl rfl rfl) (fun h => by subst h; rfl) (fun h => by subst h; exact .nil)
        · refine sxc_skip ?_
          refine sxq_next ?_
          refine sxc_seq ?_
          refine sxc_seq ?_
          refine sxc_region ?_
          refine sxo_move rfl rfl rfl ?_
          refine sxo_move rfl rfl rfl ?_
          refine sxo_eql rfl rfl rfl rfl ?_
          refine sxo_nil ?_
          refine sxq_next ?_
          refine sxc_if rfl (fun h203 => ?_) (fun h203 => ?_)
          · refine sxc_seq ?_
            refine sxc_region ?_
            refine sxo_move rfl rfl rfl ?_
            refine sxo_move rfl rfl rfl ?_
            refine sxo_sub rfl rfl rfl rfl ?_
            refine sxo_move rfl rfl rfl ?_
            refine sxo_move rfl rfl rfl ?_
            refine sxo_add rfl rfl rfl rfl ?_
            refine sxo_assign rfl rfl rfl ?_
            refine sxo_lett (fun x196 e196 => ?_)
            refine sxo_again (d := 6) (v := .int .u64 x196) rfl (by rw [e196]) ?_
            refine sxo_assign rfl rfl rfl ?_
            refine sxo_nil ?_
            refine sxq_next ?_
            refine sxc_ret ?_
            refine sxq_thenR ?_
            refine sxq_blkR ?_
            refine sxq_thenR ?_
            refine sxq_thenR ?_
            refine sxq_blkR ?_
            refine sxq_thenR ?_
            exact sxq_doneP () (.inl rfl) (res2 rfl rfl rfl) (fun h => by subst h; rfl) (fun h => by subst h; exact .nil)
          · refine sxc_skip ?_
            refine sxq_next ?_
            refine sxc_seq ?_
            refine sxc_seq ?_
            refine sxc_region ?_
            refine sxo_move rfl rfl rfl ?_
            refine sxo_move rfl rfl rfl ?_
            refine sxo_add rfl rfl rfl rfl ?_
            refine sxo_move rfl rfl rfl ?_
            refine sxo_len rfl Try.underlying22 rfl rfl ?_
            refine sxo_geq rfl rfl rfl rfl ?_
            refine sxo_nil ?_
            refine sxq_next ?_
            refine sxc_if rfl (fun h202 => ?_) (fun h202 => ?_)
            · refine sxc_seq ?_
              refine sxc_region ?_
              refine sxo_assign rfl rfl rfl ?_
              refine sxo_assign rfl rfl rfl ?_
              refine sxo_nil ?_
              refine sxq_next ?_
              refine sxc_ret ?_
              refine sxq_thenR ?_
              refine sxq_blkR ?_
              refine sxq_thenR ?_
              refine sxq_thenR ?_
              refine sxq_blkR ?_
              refine sxq_thenR ?_
              exact sxq_doneP () (.inl rfl) (res2 rfl rfl rfl) (fun h => by subst h; rfl) (fun h => by subst h; exact .nil)
            · refine sxc_skip ?_
              refine sxq_next ?_
              refine sxc_region ?_
              refine sxo_move rfl rfl rfl ?_
              refine sxo_mul rfl rfl rfl rfl ?_
              refine sxo_move rfl rfl rfl ?_
              refine sxo_move rfl rfl rfl ?_
              refine sxo_move rfl rfl rfl ?_
              refine sxo_add rfl rfl rfl rfl ?_
              refine sxo_indexF (j := 0) (eI_ok .i64) (by decide) rfl Try.underlying22 tf3 rfl rfl rfl rfl (fun x198 e198 b199 o200 => ?_)
              refine sxo_loadF (j := 0) rfl rfl tf3 rfl rfl (fun _ => rfl) rfl rfl ?_
              refine sxo_conv rfl Try.underlying3 Try.underlying46 rfl rfl ?_
              refine sxo_add rfl rfl rfl rfl ?_
              refine sxo_assign rfl rfl rfl ?_
              refine sxo_lett (fun x201 e201 => ?_)
              refine sxo_again (d := 10) (v := .int .u64 x201) rfl (by rw [e201]) ?_
              refine sxo_nil ?_
              refine sxq_blkN ?_
              refine sxq_next ?_
              refine sxc_region ?_
              refine sxo_move rfl rfl rfl ?_
              refine sxo_add rfl rfl rfl rfl ?_
              refine sxo_assign rfl rfl rfl ?_
              refine sxo_nil ?_
              exact sxq_againP ((x201, iadd .i64 x144 1), ()) (lk_cons rfl (lk_cons rfl (lk_cons rfl (lk_cons rfl (lk_cons rfl (lk_cons rfl lk_nil)))))) .nil .nil (fk_cons 1 rfl fk_nil)
      · refine sxc_exit ?_
        refine sxq_thenX ?_
        refine sxq_thenX ?_
        refine sxq_blkX ?_
        exact sxq_meetP ((), ()) lk_nil .nil .nil fk_nil
    · rintro ⟨_, _⟩
      try dsimp only
      refine sxc_seq ?_
      refine sxc_region ?_
      refine sxo_assign rfl rfl rfl ?_
      refine sxo_assign rfl rfl rfl ?_
      refine sxo_nil ?_
      refine sxq_next ?_
      refine sxc_ret ?_
      exact sxq_doneP () (.inl rfl) (res2 rfl rfl rfl) (fun h => by subst h; rfl) (fun h => by subst h; exact .nil)

set_option maxHeartbeats 4000000 in
theorem C_R_ZetaRead (F : Nat) (x1 : List Int) (a2 : Option Addr) (c3 : Nat) (x4 : Int) (x5 : Int) (r : (Int × Int × Int)) (hm : M_R_ZetaRead F x1 x4 x5 = some r) :
    Pure Try.prog 71 [.slice a2 x1.length c3, .int .i64 x4, .int .i64 x5] [Sl (eI .i64) 1 (.slice a2 x1.length c3) x1] Unit (fun _ => .tuple #[.int .u64 r.1, .int .i64 r.2.1, .int .i64 r.2.2]) (fun _ => []) (fun _ => []) := by
  refine pure_of Try.func71 rfl Try.ntmps71 rfl hm (fun w => ?_)
  refine sxc_env (l' := [(0, .slice a2 x1.length c3), (1, .int .i64 x4), (2, .int .i64 x5)]) rfl ?_
  refine sxc_seq ?_
  refine sxc_region ?_
  refine sxo_assign rfl rfl rfl ?_
  refine sxo_assign rfl rfl rfl ?_
  refine sxo_assign rfl rfl rfl ?_
  refine sxo_nil ?_
  refine sxq_next ?_
  refine sxc_seq ?_
  refine sxc_region ?_
  refine sxo_move rfl rfl rfl ?_
  refine sxo_move rfl rfl rfl ?_
  refine sxo_call ent92 rfl rfl rfl (fun x6 e6 => C_R_UnaryRead F x1 a2 c3 x4 x6 e6) (.consF 0 rfl .nil) (fun x6 e6 => ?_)
  intro _
  refine sxo_move rfl rfl rfl ?_
  refine sxo_extract rfl rfl rfl rfl ?_
  refine sxo_extract rfl rfl rfl rfl ?_
  refine sxo_assign rfl rfl rfl ?_
  refine sxo_assign rfl rfl rfl ?_
  refine sxo_nil ?_
  refine sxq_next ?_
  refine sxc_seq ?_
  refine sxc_seq ?_
  refine sxc_region ?_
  refine sxo_move rfl rfl rfl ?_
  refine sxo_lss rfl rfl rfl rfl ?_
  refine sxo_nil ?_
  refine sxq_next ?_
  refine sxc_if rfl (fun h49 => ?_) (fun h49 => ?_)
  · refine sxc_seq ?_
    refine sxc_region ?_
    refine sxo_assign rfl rfl rfl ?_
    refine sxo_assign rfl rfl rfl ?_
    refine sxo_assign rfl rfl rfl ?_
    refine sxo_nil ?_
    refine sxq_next ?_
    refine sxc_ret ?_
    refine sxq_thenR ?_
    exact sxq_doneP () (.inl rfl) (res3 rfl rfl rfl rfl) (fun h => by subst h; rfl) (fun h => by subst h; exact .nil)
  · refine sxc_skip ?_
    refine sxq_next ?_
    refine sxc_seq ?_
    refine sxc_seq ?_
    refine sxc_region ?_
    refine sxo_move rfl rfl rfl ?_
    refine sxo_geq rfl rfl rfl rfl ?_
    refine sxo_move rfl rfl rfl ?_
    refine sxo_case 6 (decide (41 ≤ x6.1)) [(0, .slice a2 x1.length c3), (2, .int .i64 x5), (9, .int .u64 x6.1), (10, .int .i64 x6.2), (30, .bool ((decide (41 ≤ x6.1)) || (decide (41 ≤ (imul .i64 (iconv .i64 x6.1) x5)))))] (fun h10 => ?_) (fun h10 => ?_) ?_
    · refine sxo_take (os := _) rfl ?_
      refine sxo_isT (k := 24) rfl h10 ?_
      refine sxo_skip rfl rfl rfl ?_
      refine sxo_skip rfl rfl rfl ?_
      refine sxo_skip rfl rfl rfl ?_
      refine sxo_skip rfl rfl rfl ?_
      refine sxo_skip rfl rfl rfl ?_
      refine sxo_pick (b := true) rfl rfl rfl rfl ?_
      refine sxo_again (d := 30) (v := .bool ((decide (41 ≤ x6.1)) || (decide (41 ≤ (imul .i64 (iconv .i64 x6.1) x5))))) rfl (by rw [h10]; simp only [Bool.true_or]) ?_
      refine sxo_nil ?_
      exact sxq_case (lk_cons rfl (lk_cons rfl (lk_cons rfl (lk_cons rfl (lk_cons rfl lk_nil)))))
    · refine sxo_take (os := _) rfl ?_
      refine sxo_isF (k := 24) rfl h10 ?_
      refine sxo_move rfl rfl rfl ?_
      refine sxo_conv rfl Try.underlying46 Try.underlying3 rfl rfl ?_
      refine sxo_move rfl rfl rfl ?_
      refine sxo_mul rfl rfl rfl rfl ?_
      refine sxo_geq rfl rfl rfl rfl ?_
      refine sxo_pick (b := false) rfl rfl rfl rfl ?_
      refine sxo_again (d := 30) (v := .bool ((decide (41 ≤ x6.1)) || (decide (41 ≤ (imul .i64 (iconv .i64 x6.1) x5))))) rfl (by rw [h10]; simp only [Bool.false_or]) ?_
      refine sxo_nil ?_
      exact sxq_case (lk_cons rfl (lk_cons rfl (lk_cons rfl (lk_cons rfl (lk_cons rfl lk_nil)))))
    refine sxo_take (os := _) rfl ?_
    refine sxo_nil ?_
    refine sxq_next ?_
    refine sxc_if rfl (fun h48 => ?_) (fun h48 => ?_)
    · refine sxc_seq ?_
      refine sxc_region ?_
      refine sxo_assign rfl rfl rfl ?_
      refine sxo_assign rfl rfl rfl ?_
      refine sxo_assign rfl rfl rfl ?_
      refine sxo_nil ?_
      refine sxq_next ?_
      refine sxc_ret ?_
      refine sxq_thenR ?_
      exact sxq_doneP () (.inl rfl) (res3 rfl rfl rfl rfl) (fun h => by subst h; rfl) (fun h => by subst h; exact .nil)
    · refine sxc_skip ?_
      refine sxq_next ?_
      refine sxc_seq ?_
      refine sxc_region ?_
      refine sxo_assign rfl rfl rfl ?_
      refine sxo_nil ?_
      refine sxq_next ?_
      refine sxc_join (fun ((x26, _) : (Int × Unit)) => [(0, .slice a2 x1.length c3), (2, .int .i64 x5), (10, .int .i64 x6.2), (11, .int .u64 x26)]) (fun ((x26, _) : (Int × Unit)) => []) (fun ((x26, _) : (Int × Unit)) => []) (fun ((x26, _) : (Int × Unit)) => [Sl (eI .i64) 1 (.slice a2 x1.length c3) x1]) (fun ((x26, _) : (Int × Unit)) => M_R_ZetaRead_j2 F x1 x5 x6 x26) ?_ ?_
      · refine sxc_seq ?_
        refine sxc_region ?_
        refine sxo_assign rfl rfl rfl ?_
        refine sxo_nil ?_
        refine sxq_next ?_
        refine sxc_block ?_
        refine sxc_loopP (fun (((x37, x38), _) : ((Int × Int) × Unit)) => [(0, .slice a2 x1.length c3), (2, .int .i64 x5), (9, .int .u64 x6.1), (10, .int .i64 x6.2), (11, .int .u64 x37), (12, .int .u64 x38)]) (fun (((x37, x38), _) : ((Int × Int) × Unit)) => []) (fun (((x37, x38), _) : ((Int × Int) × Unit)) => []) (fun (((x37, x38), _) : ((Int × Int) × Unit)) => [Sl (eI .i64) 1 (.slice a2 x1.length c3) x1]) (fun k (s : ((Int × Int) × Unit)) => M_R_ZetaRead_l3 F x1 x5 x6 k s.1) ((1, 0), ()) F (lk_cons rfl (lk_cons rfl (lk_cons rfl (lk_cons rfl (lk_cons rfl (lk_cons rfl lk_nil)))))) .nil .nil (fk_cons 0 rfl fk_nil) (fun _ => rfl) ?_
        intro k43
        rintro ⟨⟨x37, x38⟩, _⟩
        try dsimp only
        refine sxc_meq (m' := M_R_ZetaRead_b3 F x1 x5 x6 (M_R_ZetaRead_l3 F x1 x5 x6 k43) x37 x38) rfl ?_
        refine sxc_seq ?_
        refine sxc_seq ?_
        refine sxc_region ?_
        refine sxo_move rfl rfl rfl ?_
        refine sxo_move rfl rfl rfl ?_
        refine sxo_lss rfl rfl rfl rfl ?_
        refine sxo_nil ?_
        refine sxq_next ?_
        refine sxc_if rfl (fun h47 => ?_) (fun h47 => ?_)
        · refine sxc_skip ?_
          refine sxq_next ?_
          refine sxc_seq ?_
          refine sxc_block ?_
          refine sxc_region ?_
          refine sxo_move rfl rfl rfl ?_
          refine sxo_move rfl rfl rfl ?_
          refine sxo_chk (fun h46 => ?_)
          refine sxo_shl rfl rfl rfl rfl h46 ?_
          refine sxo_assign rfl rfl rfl ?_
          refine sxo_nil ?_
          refine sxq_blkN ?_
          refine sxq_next ?_
          refine sxc_region ?_
          refine sxo_move rfl rfl rfl ?_
          refine sxo_add rfl rfl rfl rfl ?_
          refine sxo_assign rfl rfl rfl ?_
          refine sxo_nil ?_
          exact sxq_againP ((ishl .u64 x37 x5, iadd .u64 x38 1), ()) (lk_cons rfl (lk_cons rfl (lk_cons rfl (lk_cons rfl (lk_cons rfl (lk_cons rfl lk_nil)))))) .nil .nil (fk_cons 0 rfl fk_nil)
        · refine sxc_exit ?_
          refine sxq_thenX ?_
          refine sxq_thenX ?_
          refine sxq_blkX ?_
          exact sxq_meetP (x37, ()) (lk_cons rfl (lk_cons rfl (lk_cons rfl (lk_cons rfl lk_nil)))) .nil .nil (fk_cons 0 rfl fk_nil)
      · rintro ⟨x26, _⟩
        try dsimp only
        refine sxc_seq ?_
        refine sxc_region ?_
        refine sxo_move rfl rfl rfl ?_
        refine sxo_move rfl rfl rfl ?_
        refine sxo_move rfl rfl rfl ?_
        refine sxo_move rfl rfl rfl ?_
        refine sxo_chk (fun h27 => ?_)
        refine sxo_shl rfl rfl rfl rfl h27 ?_
        refine sxo_move rfl rfl rfl ?_
        refine sxo_sub rfl rfl rfl rfl ?_
        refine sxo_call ent93 rfl rfl rfl (fun x28 e28 => C_R_LeastRead F x1 a2 c3 x6.2 (isub .u64 (ishl .u64 x26 x5) x26) x28 e28) (.consF 0 rfl .nil) (fun x28 e28 => ?_)
        intro _
        refine sxo_move rfl rfl rfl ?_
        refine sxo_extract rfl rfl rfl rfl ?_
        refine sxo_extract rfl rfl rfl rfl ?_
        refine sxo_assign rfl rfl rfl ?_
        refine sxo_assign rfl rfl rfl ?_
        refine sxo_nil ?_
        refine sxq_next ?_
        refine sxc_seq ?_
        refine sxc_seq ?_
        refine sxc_region ?_
        refine sxo_move rfl rfl rfl ?_
        refine sxo_lss rfl rfl rfl rfl ?_
        refine sxo_nil ?_
        refine sxq_next ?_
        refine sxc_if rfl (fun h32 => ?_) (fun h32 => ?_)
        · refine sxc_seq ?_
          refine sxc_region ?_
          refine sxo_assign rfl rfl rfl ?_
          refine sxo_assign rfl rfl rfl ?_
          refine sxo_assign rfl rfl rfl ?_
          refine sxo_nil ?_
          refine sxq_next ?_
          refine sxc_ret ?_
          refine sxq_thenR ?_
          exact sxq_doneP () (.inl rfl) (res3 rfl rfl rfl rfl) (fun h => by subst h; rfl) (fun h => by subst h; exact .nil)
        · refine sxc_skip ?_
          refine sxq_next ?_
          refine sxc_seq ?_
          refine sxc_seq ?_
          refine sxc_region ?_
          refine sxo_move rfl rfl rfl ?_
          refine sxo_move rfl rfl rfl ?_
          refine sxo_add rfl rfl rfl rfl ?_
          refine sxo_sub rfl rfl rfl rfl ?_
          refine sxo_gtr rfl rfl rfl rfl ?_
          refine sxo_nil ?_
          refine sxq_next ?_
          refine sxc_if rfl (fun h31 => ?_) (fun h31 => ?_)
          · refine sxc_seq ?_
            refine sxc_region ?_
            refine sxo_assign rfl rfl rfl ?_
            refine sxo_assign rfl rfl rfl ?_
            refine sxo_assign rfl rfl rfl ?_
            refine sxo_nil ?_
            refine sxq_next ?_
            refine sxc_ret ?_
            refine sxq_thenR ?_
            exact sxq_doneP () (.inl rfl) (res3 rfl rfl rfl rfl) (fun h => by subst h; rfl) (fun h => by subst h; exact .nil)
          · refine sxc_skip ?_
            refine sxq_next ?_
            refine sxc_seq ?_
            refine sxc_region ?_
            refine sxo_move rfl rfl rfl ?_
            refine sxo_move rfl rfl rfl ?_
            refine sxo_add rfl rfl rfl rfl ?_
            refine sxo_sub rfl rfl rfl rfl ?_
            refine sxo_move rfl rfl rfl ?_
            refine sxo_assign rfl rfl rfl ?_
            refine sxo_assign rfl rfl rfl ?_
            refine sxo_assign rfl rfl rfl ?_
            refine sxo_nil ?_
            refine sxq_next ?_
            refine sxc_ret ?_
            exact sxq_doneP () (.inl rfl) (res3 rfl rfl rfl rfl) (fun h => by subst h; rfl) (fun h => by subst h; exact .nil)

theorem C_R_GapsFrom (F : Nat) (x1 : List Int) (a2 : Option Addr) (c3 : Nat) (x4 : Int) (x5 : Int) (x6 : Int) (x7 : Int) (r : (List Int × Int × Int)) (hm : M_R_GapsFrom F x1 x4 x5 x6 x7 = some r) :
    Pure Try.prog 52 [.slice a2 x1.length c3, .int .i64 x4, .int .i64 x5, .int .i64 x6, .int .i64 x7] [Sl (eI .i64) 1 (.slice a2 x1.length c3) x1] (Option Addr × Nat) (fun g => .tuple #[.slice g.1 r.1.length g.2, .int .i64 r.2.1, .int .i64 r.2.2]) (fun g => [Ro (eI .i64) 3 1 (.slice g.1 r.1.length g.2) r.1]) (fun _ => []) := by
  refine pure_of Try.func52 rfl Try.ntmps52 rfl hm (fun w => ?_)
  refine sxc_env (l' := [(0, .slice a2 x1.length c3), (1, .int .i64 x4), (2, .int .i64 x5), (3, .int .i64 x6), (4, .int .i64 x7)]) rfl ?_
  refine sxc_seq ?_
  refine sxc_region ?_
  refine sxo_assign rfl rfl rfl ?_
  refine sxo_assign rfl rfl rfl ?_
  refine sxo_assign rfl rfl rfl ?_
  refine sxo_nil ?_
  refine sxq_next ?_
  refine sxc_seq ?_
  refine sxc_region ?_
  refine sxo_assign rfl rfl rfl ?_
  refine sxo_nil ?_
  refine sxq_next ?_
  refine sxc_join (fun (((x56, x59), (a57, c58)) : ((Int × List Int) × (Option Addr × Nat))) => [(1, .int .i64 x56), (13, .slice a57 x59.length c58)]) (fun (((x56, x59), (a57, c58)) : ((Int × List Int) × (Option Addr × Nat))) => []) (fun (((x56, x59), (a57, c58)) : ((Int × List Int) × (Option Addr × Nat))) => [Ro (eI .i64) 3 1 (.slice a57 x59.length c58) x59]) (fun (((x56, x59), (a57, c58)) : ((Int × List Int) × (Option Addr × Nat))) => []) (fun (((x56, x59), _) : ((Int × List Int) × (Option Addr × Nat))) => M_R_GapsFrom_j2 F x56 x59) ?_ ?_
  · refine sxc_block ?_
    refine sxc_nilrow Int (eI .i64) 3 1 ?_
    refine sxc_loopP (fun (((x75, x76, x79), (a77, c78)) : ((Int × Int × List Int) × (Option Addr × Nat))) => [(0, .slice a2 x1.length c3), (1, .int .i64 x75), (2, .int .i64 x76), (3, .int .i64 x6), (4, .int .i64 x7), (13, .slice a77 x79.length c78)]) (fun (((x75, x76, x79), (a77, c78)) : ((Int × Int × List Int) × (Option Addr × Nat))) => []) (fun (((x75, x76, x79), (a77, c78)) : ((Int × Int × List Int) × (Option Addr × Nat))) => [Ro (eI .i64) 3 1 (.slice a77 x79.length c78) x79]) (fun (((x75, x76, x79), (a77, c78)) : ((Int × Int × List Int) × (Option Addr × Nat))) => [Sl (eI .i64) 1 (.slice a2 x1.length c3) x1]) (fun k (s : ((Int × Int × List Int) × (Option Addr × Nat))) => M_R_GapsFrom_l3 F x1 x6 x7 k s.1) ((x4, x5, ([] : List Int)), (none, 0)) F (lk_cons rfl (lk_cons rfl (lk_cons rfl (lk_cons rfl (lk_cons rfl (lk_cons rfl lk_nil)))))) .nil (.cons 0 rfl .nil) (fk_cons 0 rfl fk_nil) (fun _ => rfl) ?_
    intro k93
    rintro ⟨⟨x75, x76, x79⟩, ⟨a77, c78⟩⟩
    try dsimp only
    refine sxc_meq (m' := M_R_GapsFrom_b3 F x1 x6 x7 (M_R_GapsFrom_l3 F x1 x6 x7 k93) x75 x76 x79) rfl ?_
    refine sxc_seq ?_
    refine sxc_seq ?_
    refine sxc_region ?_
    refine sxo_move rfl rfl rfl ?_
    refine sxo_len rfl Try.underlying22 rfl rfl ?_
    refine sxo_move rfl rfl rfl ?_
    refine sxo_lss rfl rfl rfl rfl ?_
    refine sxo_nil ?_
    refine sxq_next ?_
    refine sxc_if rfl (fun h106 => ?_) (fun h106 => ?_)
    · refine sxc_skip ?_
      refine sxq_next ?_
      refine sxc_block ?_
      refine sxc_seq ?_
      refine sxc_region ?_
      refine sxo_move rfl rfl rfl ?_
      refine sxo_move rfl rfl rfl ?_
      refine sxo_move rfl rfl rfl ?_
      refine sxo_call ent71 rfl rfl rfl (fun x95 e95 => C_R_ZetaRead F x1 a2 c3 x75 x6 x95 e95) (.consF 0 rfl .nil) (fun x95 e95 => ?_)
      intro _
      refine sxo_move rfl rfl rfl ?_
      refine sxo_extract rfl rfl rfl rfl ?_
      refine sxo_extract rfl rfl rfl rfl ?_
      refine sxo_extract rfl rfl rfl rfl ?_
      refine sxo_assign rfl rfl rfl ?_
      refine sxo_assign rfl rfl rfl ?_
      refine sxo_assign rfl rfl rfl ?_
      refine sxo_nil ?_
      refine sxq_next ?_
      refine sxc_seq ?_
      refine sxc_seq ?_
      refine sxc_region ?_
      refine sxo_move rfl rfl rfl ?_
      refine sxo_neq rfl rfl rfl rfl ?_
      refine sxo_nil ?_
      refine sxq_next ?_
      refine sxc_if rfl (fun h105 => ?_) (fun h105 => ?_)
      · refine sxc_seq ?_
        refine sxc_region ?_
        refine sxo_move rfl rfl rfl ?_
        refine sxo_assign rfl rfl rfl ?_
        refine sxo_assign rfl rfl rfl ?_
        refine sxo_assign rfl rfl rfl ?_
        refine sxo_nil ?_
        refine sxq_next ?_
        refine sxc_ret ?_
        refine sxq_thenR ?_
        refine sxq_blkR ?_
        refine sxq_thenR ?_
        refine sxq_blkR ?_
        refine sxq_thenR ?_
        refine sxq_nilrow Int (eI .i64) 3 1 ?_
        exact sxq_doneP (none, 0) (.inl rfl) (res3 rfl rfl rfl rfl) (fun h => by subst h; rfl) (fun h => by subst h; exact (.cons 0 rfl .nil))
      · refine sxc_skip ?_
        refine sxq_next ?_
        refine sxc_seq ?_
        refine sxc_region ?_
        refine sxo_move rfl rfl rfl ?_
        refine sxo_move rfl rfl rfl ?_
        refine sxo_move rfl rfl rfl ?_
        refine sxo_len rfl Try.underlying22 rfl rfl ?_
        refine sxo_eql rfl rfl rfl rfl ?_
        refine sxo_call ent45 rfl rfl rfl (fun x97 e97 => C_R_GapNext F x95.1 x76 (((x79.length : Int) : Int) == 0) x97 e97) .nil (fun x97 e97 => ?_)
        intro _
        refine sxo_assign rfl rfl rfl ?_
        refine sxo_nil ?_
        refine sxq_next ?_
        refine sxc_seq ?_
        refine sxc_seq ?_
        refine sxc_region ?_
        refine sxo_move rfl rfl rfl ?_
        refine sxo_lss rfl rfl rfl rfl ?_
        refine sxo_nil ?_
        refine sxq_next ?_
        refine sxc_if rfl (fun h104 => ?_) (fun h104 => ?_)
        · refine sxc_seq ?_
          refine sxc_region ?_
          refine sxo_assign rfl rfl rfl ?_
          refine sxo_assign rfl rfl rfl ?_
          refine sxo_assign rfl rfl rfl ?_
          refine sxo_nil ?_
          refine sxq_next ?_
          refine sxc_ret ?_
          refine sxq_thenR ?_
          refine sxq_blkR ?_
          refine sxq_thenR ?_
          refine sxq_blkR ?_
          refine sxq_thenR ?_
          refine sxq_nilrow Int (eI .i64) 3 1 ?_
          exact sxq_doneP (none, 0) (.inl rfl) (res3 rfl rfl rfl rfl) (fun h => by subst h; rfl) (fun h => by subst h; exact (.cons 0 rfl .nil))
        · refine sxc_skip ?_
          refine sxq_next ?_
          refine sxc_seq ?_
          refine sxc_region ?_
          refine sxo_move rfl rfl rfl ?_
          refine sxo_move rfl rfl rfl ?_
          refine sxo_slit (vs := [.int .i64 x97]) (ys := ([x97] : List Int)) (eI_ok .i64) (by decide) rfl Try.underlying22 tf3 rfl rfl rfl rfl rfl (by decide) (fun a99 c100 => ?_)
          refine sxo_app 1 (eI_ok .i64) rfl Try.underlying22 tf3 rfl rfl rfl rfl rfl (.inl ⟨0, _, rfl⟩) rfl rfl (fun x101 e101 a102 c103 => ?_)
          refine sxo_assign rfl rfl rfl ?_
          refine sxo_nil ?_
          refine sxq_next ?_
          refine sxc_seq ?_
          refine sxc_region ?_
          refine sxo_move rfl rfl rfl ?_
          refine sxo_assign rfl rfl rfl ?_
          refine sxo_nil ?_
          refine sxq_next ?_
          refine sxc_region ?_
          refine sxo_move rfl rfl rfl ?_
          refine sxo_assign rfl rfl rfl ?_
          refine sxo_nil ?_
          refine sxq_blkN ?_
          exact sxq_againP ((x95.2.1, x97, x101), (a102, c103)) (lk_cons rfl (lk_cons rfl (lk_cons rfl (lk_cons rfl (lk_cons rfl (lk_cons rfl lk_nil)))))) .nil (.cons 0 rfl .nil) (fk_cons 0 rfl fk_nil)
    · refine sxc_exit ?_
      refine sxq_thenX ?_
      refine sxq_thenX ?_
      refine sxq_blkX ?_
      exact sxq_meetP ((x75, x79), (a77, c78)) (lk_cons rfl (lk_cons rfl lk_nil)) .nil (.cons 0 rfl .nil) fk_nil
  · rintro ⟨⟨x56, x59⟩, ⟨a57, c58⟩⟩
    try dsimp only
    refine sxc_seq ?_
    refine sxc_region ?_
    refine sxo_move rfl rfl rfl ?_
    refine sxo_move rfl rfl rfl ?_
    refine sxo_assign rfl rfl rfl ?_
    refine sxo_assign rfl rfl rfl ?_
    refine sxo_assign rfl rfl rfl ?_
    refine sxo_nil ?_
    refine sxq_next ?_
    refine sxc_ret ?_
    exact sxq_doneP (a57, c58) (.inl rfl) (res3 rfl rfl rfl rfl) (fun h => by subst h; rfl) (fun h => by subst h; exact (.cons 0 rfl .nil))

theorem C_R_GapsRead (F : Nat) (x1 : Int) (x2 : List Int) (a3 : Option Addr) (c4 : Nat) (x5 : Int) (x6 : Int) (x7 : Int) (x8 : Int) (r : (List Int × Int × Int)) (hm : M_R_GapsRead F x1 x2 x5 x6 x7 x8 = some r) :
    Pure Try.prog 28 [.agg #[.int .i64 x1, .slice a3 x2.length c4], .int .i64 x5, .int .i64 x6, .int .i64 x7, .int .i64 x8] [Sl (eI .u8) 1 (.slice a3 x2.length c4) x2] (Option Addr × Nat) (fun g => .tuple #[.slice g.1 r.1.length g.2, .int .i64 r.2.1, .int .i64 r.2.2]) (fun g => [Ro (eI .i64) 3 1 (.slice g.1 r.1.length g.2) r.1]) (fun _ => []) := by
  refine pure_of Try.func28 rfl Try.ntmps28 rfl hm (fun w => ?_)
  refine sxc_env (l' := [(0, .agg #[.int .i64 x1, .slice a3 x2.length c4]), (1, .int .i64 x5), (2, .int .i64 x6), (3, .int .i64 x7), (4, .int .i64 x8)]) rfl ?_
  refine sxc_seq ?_
  refine sxc_region ?_
  refine sxo_box rfl rfl rfl (fun g9 => ?_)
  refine sxo_assign rfl rfl rfl ?_
  refine sxo_assign rfl rfl rfl ?_
  refine sxo_assign rfl rfl rfl ?_
  refine sxo_nil ?_
  refine sxq_next ?_
  refine sxc_seq ?_
  refine sxc_region ?_
  refine sxo_loadB (i := 0) rfl rfl tf31 rfl rfl (by simp) rfl rfl ?_
  refine sxo_move rfl rfl rfl ?_
  refine sxo_call ent51 rfl rfl rfl (fun x10 e10 => C_R_ReadErr F x1 x2 a3 c4 x5 x10 e10) (.consF 0 rfl .nil) (fun x10 e10 => ?_)
  intro _
  refine sxo_assign rfl rfl rfl ?_
  refine sxo_nil ?_
  refine sxq_next ?_
  refine sxc_join (fun ((x32, _) : (Int × Unit)) => [(1, .int .i64 x5), (2, .int .i64 x6), (3, .int .i64 x7), (4, .int .i64 x8), (5, .pointer (some ⟨g9, 0, none⟩)), (13, .int .i64 x32)]) (fun ((x32, _) : (Int × Unit)) => [⟨g9, 31, [.int .i64 x1, .slice a3 x2.length c4]⟩]) (fun ((x32, _) : (Int × Unit)) => []) (fun ((x32, _) : (Int × Unit)) => [Sl (eI .u8) 1 (.slice a3 x2.length c4) x2]) (fun ((x32, _) : (Int × Unit)) => M_R_GapsRead_j6 F x1 x2 x5 x6 x7 x8 x32) ?_ ?_
  · refine sxc_seq ?_
    refine sxc_region ?_
    refine sxo_move rfl rfl rfl ?_
    refine sxo_eql rfl rfl rfl rfl ?_
    refine sxo_move rfl rfl rfl ?_
    refine sxo_join 14 (fun ((x51, _) : (Bool × Unit)) => [(1, .int .i64 x5), (2, .int .i64 x6), (3, .int .i64 x7), (4, .int .i64 x8), (5, .pointer (some ⟨g9, 0, none⟩)), (13, .int .i64 x10), (33, .bool x51)]) (fun ((x51, _) : (Bool × Unit)) => [⟨g9, 31, [.int .i64 x1, .slice a3 x2.length c4]⟩]) (fun ((x51, _) : (Bool × Unit)) => []) (fun ((x51, _) : (Bool × Unit)) => [Sl (eI .u8) 1 (.slice a3 x2.length c4) x2]) (fun ((x51, _) : (Bool × Unit)) => M_R_GapsRead_j9 F x1 x2 x5 x6 x7 x8 x10 x51) ?_ ?_
    · refine sxo_take (os := _) rfl ?_
      refine sxo_if (fun h41 => ?_) (fun h41 => ?_)
      · refine sxo_isT (k := 19) rfl h41 ?_
        refine sxo_move rfl rfl rfl ?_
        refine sxo_call ent43 rfl rfl rfl (fun x53 e53 => C_R_between F x6 0 1048576 x53 e53) .nil (fun x53 e53 => ?_)
        intro _
        refine sxo_not rfl rfl rfl ?_
        refine sxo_move rfl rfl rfl ?_
        refine sxo_join 4 (fun ((x56, _) : (Bool × Unit)) => [(1, .int .i64 x5), (2, .int .i64 x6), (3, .int .i64 x7), (4, .int .i64 x8), (5, .pointer (some ⟨g9, 0, none⟩)), (13, .int .i64 x10), (19, .bool true), (27, .bool x56)]) (fun ((x56, _) : (Bool × Unit)) => [⟨g9, 31, [.int .i64 x1, .slice a3 x2.length c4]⟩]) (fun ((x56, _) : (Bool × Unit)) => []) (fun ((x56, _) : (Bool × Unit)) => [Sl (eI .u8) 1 (.slice a3 x2.length c4) x2]) (fun ((x56, _) : (Bool × Unit)) => M_R_GapsRead_j10 F x1 x2 x5 x6 x7 x8 x10 x56) ?_ ?_
        · refine sxo_take (os := _) rfl ?_
          refine sxo_if (fun h54 => ?_) (fun h54 => ?_)
          · refine sxo_isT (k := 23) rfl h54 ?_
            refine sxo_skip rfl rfl rfl ?_
            refine sxo_skip rfl rfl rfl ?_
            refine sxo_skip rfl rfl rfl ?_
            refine sxo_pick (b := true) rfl rfl rfl rfl ?_
            refine sxo_nil ?_
            exact sxq_meetP (true, ()) (lk_cons rfl (lk_cons rfl (lk_cons rfl (lk_cons rfl (lk_cons rfl (lk_cons rfl (lk_cons rfl (lk_cons rfl lk_nil)))))))) (.cons 0 rfl .nil) .nil (fk_cons 0 rfl fk_nil)
          · refine sxo_isF (k := 23) rfl h54 ?_
            refine sxo_move rfl rfl rfl ?_
            refine sxo_call ent43 rfl rfl rfl (fun x61 e61 => C_R_between F x7 1 16 x61 e61) .nil (fun x61 e61 => ?_)
            intro _
            refine sxo_not rfl rfl rfl ?_
            refine sxo_pick (b := false) rfl rfl rfl rfl ?_
            refine sxo_nil ?_
            exact sxq_meetP ((!x61), ()) (lk_cons rfl (lk_cons rfl (lk_cons rfl (lk_cons rfl (lk_cons rfl (lk_cons rfl (lk_cons rfl (lk_cons rfl lk_nil)))))))) (.cons 0 rfl .nil) .nil (fk_cons 0 rfl fk_nil)
        · rintro ⟨x56, _⟩
          try dsimp only
          refine sxo_take (os := _) rfl ?_
          refine sxo_move rfl rfl rfl ?_
          refine sxo_join 4 (fun ((x59, _) : (Bool × Unit)) => [(1, .int .i64 x5), (2, .int .i64 x6), (3, .int .i64 x7), (4, .int .i64 x8), (5, .pointer (some ⟨g9, 0, none⟩)), (13, .int .i64 x10), (19, .bool true), (32, .bool x59)]) (fun ((x59, _) : (Bool × Unit)) => [⟨g9, 31, [.int .i64 x1, .slice a3 x2.length c4]⟩]) (fun ((x59, _) : (Bool × Unit)) => []) (fun ((x59, _) : (Bool × Unit)) => [Sl (eI .u8) 1 (.slice a3 x2.length c4) x2]) (fun ((x59, _) : (Bool × Unit)) => M_R_GapsRead_j11 F x1 x2 x5 x6 x7 x8 x10 x59) ?_ ?_
          · refine sxo_take (os := _) rfl ?_
            refine sxo_if (fun h57 => ?_) (fun h57 => ?_)
            · refine sxo_isT (k := 28) rfl h57 ?_
              refine sxo_skip rfl rfl rfl ?_
              refine sxo_skip rfl rfl rfl ?_
              refine sxo_skip rfl rfl rfl ?_
              refine sxo_pick (b := true) rfl rfl rfl rfl ?_
              refine sxo_nil ?_
              exact sxq_meetP (true, ()) (lk_cons rfl (lk_cons rfl (lk_cons rfl (lk_cons rfl (lk_cons rfl (lk_cons rfl (lk_cons rfl (lk_cons rfl lk_nil)))))))) (.cons 0 rfl .nil) .nil (fk_cons 0 rfl fk_nil)
            · refine sxo_isF (k := 28) rfl h57 ?_
              refine sxo_move rfl rfl rfl ?_
              refine sxo_call ent43 rfl rfl rfl (fun x60 e60 => C_R_between F x8 0 300 x60 e60) .nil (fun x60 e60 => ?_)
              intro _
              refine sxo_not rfl rfl rfl ?_
              refine sxo_pick (b := false) rfl rfl rfl rfl ?_
              refine sxo_nil ?_
              exact sxq_meetP ((!x60), ()) (lk_cons rfl (lk_cons rfl (lk_cons rfl (lk_cons rfl (lk_cons rfl (lk_cons rfl (lk_cons rfl (lk_cons rfl lk_nil)))))))) (.cons 0 rfl .nil) .nil (fk_cons 0 rfl fk_nil)
          · rintro ⟨x59, _⟩
            try dsimp only
            refine sxo_take (os := _) rfl ?_
            refine sxo_pick (b := true) rfl rfl rfl rfl ?_
            refine sxo_nil ?_
            exact sxq_meetP (x59, ()) (lk_cons rfl (lk_cons rfl (lk_cons rfl (lk_cons rfl (lk_cons rfl (lk_cons rfl (lk_cons rfl lk_nil))))))) (.cons 0 rfl .nil) .nil (fk_cons 0 rfl fk_nil)
      · refine sxo_isF (k := 19) rfl h41 ?_
        refine sxo_skip rfl rfl rfl ?_
        refine sxo_skip rfl rfl rfl ?_
        refine sxo_skip rfl rfl rfl ?_
        refine sxo_skip rfl rfl rfl ?_
        refine sxo_skip rfl rfl rfl ?_
        refine sxo_skip rfl rfl rfl ?_
        refine sxo_skip rfl rfl rfl ?_
        refine sxo_skip rfl rfl rfl ?_
        refine sxo_skip rfl rfl rfl ?_
        refine sxo_skip rfl rfl rfl ?_
        refine sxo_skip rfl rfl rfl ?_
        refine sxo_skip rfl rfl rfl ?_
        refine sxo_skip rfl rfl rfl ?_
        refine sxo_pick (b := false) rfl rfl rfl rfl ?_
        refine sxo_nil ?_
        exact sxq_meetP (false, ()) (lk_cons rfl (lk_cons rfl (lk_cons rfl (lk_cons rfl (lk_cons rfl (lk_cons rfl (lk_cons rfl lk_nil))))))) (.cons 0 rfl .nil) .nil (fk_cons 0 rfl fk_nil)
    · rintro ⟨x51, _⟩
      try dsimp only
      refine sxo_take (os := _) rfl ?_
      refine sxo_nil ?_
      refine sxq_next ?_
      refine sxc_if rfl (fun h52 => ?_) (fun h52 => ?_)
      · refine sxc_region ?_
        refine sxo_assign rfl rfl rfl ?_
        refine sxo_nil ?_
        exact sxq_meetP (3, ()) (lk_cons rfl (lk_cons rfl (lk_cons rfl (lk_cons rfl (lk_cons rfl (lk_cons rfl lk_nil)))))) (.cons 0 rfl .nil) .nil (fk_cons 0 rfl fk_nil)
      · refine sxc_skip ?_
        exact sxq_meetP (x10, ()) (lk_cons rfl (lk_cons rfl (lk_cons rfl (lk_cons rfl (lk_cons rfl (lk_cons rfl lk_nil)))))) (.cons 0 rfl .nil) .nil (fk_cons 0 rfl fk_nil)
  · rintro ⟨x32, _⟩
    try dsimp only
    refine sxc_seq ?_
    refine sxc_seq ?_
    refine sxc_region ?_
    refine sxo_move rfl rfl rfl ?_
    refine sxo_neq rfl rfl rfl rfl ?_
    refine sxo_nil ?_
    refine sxq_next ?_
    refine sxc_if rfl (fun h40 => ?_) (fun h40 => ?_)
    · refine sxc_seq ?_
      refine sxc_region ?_
      refine sxo_move rfl rfl rfl ?_
      refine sxo_assign rfl rfl rfl ?_
      refine sxo_assign rfl rfl rfl ?_
      refine sxo_assign rfl rfl rfl ?_
      refine sxo_nil ?_
      refine sxq_next ?_
      refine sxc_ret ?_
      refine sxq_thenR ?_
      refine sxq_nilrow Int (eI .i64) 3 1 ?_
      exact sxq_doneP (none, 0) (.inl rfl) (res3 rfl rfl rfl rfl) (fun h => by subst h; rfl) (fun h => by subst h; exact (.cons 0 rfl .nil))
    · refine sxc_skip ?_
      refine sxq_next ?_
      refine sxc_seq ?_
      refine sxc_region ?_
      refine sxo_loadB (i := 0) rfl rfl tf31 rfl rfl (by simp) rfl rfl ?_
      refine sxo_call ent53 rfl rfl rfl (fun x34 e34 => C_R_BitList F x1 x2 a3 c4 x34 e34) (.consF 0 rfl .nil) (fun x34 e34 => ?_)
      rintro ⟨a35, c36⟩
      refine sxo_move rfl rfl rfl ?_
      refine sxo_move rfl rfl rfl ?_
      refine sxo_move rfl rfl rfl ?_
      refine sxo_move rfl rfl rfl ?_
      refine sxo_call ent52 rfl rfl rfl (fun x37 e37 => C_R_GapsFrom F x34 a35 c36 x5 x6 x7 x8 x37 e37) (.consR 0 (Ro (eI .i64) 3 1 (.slice a35 x34.length c36) x34) rfl .nil) (fun x37 e37 => ?_)
      rintro ⟨a38, c39⟩
      refine sxo_extract rfl rfl rfl rfl ?_
      refine sxo_extract rfl rfl rfl rfl ?_
      refine sxo_extract rfl rfl rfl rfl ?_
      refine sxo_assign rfl rfl rfl ?_
      refine sxo_assign rfl rfl rfl ?_
      refine sxo_assign rfl rfl rfl ?_
      refine sxo_nil ?_
      refine sxq_next ?_
      refine sxc_ret ?_
      exact sxq_doneP (a38, c39) (.inl rfl) (res3 rfl rfl rfl rfl) (fun h => by subst h; rfl) (fun h => by subst h; exact (.cons 0 rfl .nil))

theorem C_L_GapsRead (F : Nat) (x1 : Int) (x2 : List Int) (a3 : Option Addr) (c4 : Nat) (x5 : Int) (x6 : Int) (x7 : Int) (x8 : Int) (r : Bool) (hm : M_L_GapsRead F x1 x2 x5 x6 x7 x8 = some r) :
    Pure Try.prog 4 [.agg #[.int .i64 x1, .slice a3 x2.length c4], .int .i64 x5, .int .i64 x6, .int .i64 x7, .int .i64 x8] [Sl (eI .u8) 1 (.slice a3 x2.length c4) x2] Unit (fun _ => .bool r) (fun _ => []) (fun _ => []) := by
  refine pure_of Try.func4 rfl Try.ntmps4 rfl hm (fun w => ?_)
  refine sxc_env (l' := [(0, .agg #[.int .i64 x1, .slice a3 x2.length c4]), (1, .int .i64 x5), (2, .int .i64 x6), (3, .int .i64 x7), (4, .int .i64 x8)]) rfl ?_
  refine sxc_seq ?_
  refine sxc_region ?_
  refine sxo_box rfl rfl rfl (fun g9 => ?_)
  refine sxo_assign rfl rfl rfl ?_
  refine sxo_nil ?_
  refine sxq_next ?_
  refine sxc_seq ?_
  refine sxc_region ?_
  refine sxo_loadB (i := 0) rfl rfl tf31 rfl rfl (by simp) rfl rfl ?_
  refine sxo_move rfl rfl rfl ?_
  refine sxo_move rfl rfl rfl ?_
  refine sxo_move rfl rfl rfl ?_
  refine sxo_move rfl rfl rfl ?_
  refine sxo_call ent27 rfl rfl rfl (fun x10 e10 => C_gaps_Read F x1 x2 a3 c4 x5 x6 x7 x8 x10 e10) (.consF 0 rfl .nil) (fun x10 e10 => ?_)
  rintro ⟨a11, c12⟩
  refine sxo_move rfl rfl rfl ?_
  refine sxo_extract rfl rfl rfl rfl ?_
  refine sxo_extract rfl rfl rfl rfl ?_
  refine sxo_extract rfl rfl rfl rfl ?_
  refine sxo_assign rfl rfl rfl ?_
  refine sxo_assign rfl rfl rfl ?_
  refine sxo_assign rfl rfl rfl ?_
  refine sxo_nil ?_
  refine sxq_next ?_
  refine sxc_seq ?_
  refine sxc_region ?_
  refine sxo_loadB (i := 0) rfl rfl tf31 rfl rfl (by simp) rfl rfl ?_
  refine sxo_move rfl rfl rfl ?_
  refine sxo_move rfl rfl rfl ?_
  refine sxo_move rfl rfl rfl ?_
  refine sxo_move rfl rfl rfl ?_
  refine sxo_call ent28 rfl rfl rfl (fun x13 e13 => C_R_GapsRead F x1 x2 a3 c4 x5 x6 x7 x8 x13 e13) (.consF 0 rfl .nil) (fun x13 e13 => ?_)
  rintro ⟨a14, c15⟩
  refine sxo_move rfl rfl rfl ?_
  refine sxo_extract rfl rfl rfl rfl ?_
  refine sxo_extract rfl rfl rfl rfl ?_
  refine sxo_extract rfl rfl rfl rfl ?_
  refine sxo_assign rfl rfl rfl ?_
  refine sxo_assign rfl rfl rfl ?_
  refine sxo_assign rfl rfl rfl ?_
  refine sxo_nil ?_
  refine sxq_next ?_
  refine sxc_seq ?_
  refine sxc_region ?_
  refine sxo_call ent22 rfl rfl rfl (fun x16 e16 => C_L_gapsBegun F  x16 e16) .nil (fun x16 e16 => ?_)
  intro _
  refine sxo_move rfl rfl rfl ?_
  refine sxo_join 4 (fun ((x19, _) : (Bool × Unit)) => [(12, .int .i64 x10.2.1), (13, .int .i64 x10.2.2), (15, .int .i64 x13.2.1), (16, .int .i64 x13.2.2), (42, .bool x19)]) (fun ((x19, _) : (Bool × Unit)) => []) (fun ((x19, _) : (Bool × Unit)) => []) (fun ((x19, _) : (Bool × Unit)) => []) (fun ((x19, _) : (Bool × Unit)) => M_L_GapsRead_j1 F x10 x13 x19) ?_ ?_
  · refine sxo_take (os := _) rfl ?_
    refine sxo_if (fun h17 => ?_) (fun h17 => ?_)
    · refine sxo_isT (k := 38) rfl h17 ?_
      refine sxo_move rfl rfl rfl ?_
      refine sxo_move rfl rfl rfl ?_
      refine sxo_call ent25 rfl rfl rfl (fun x22 e22 => C_R_SameInts F x10.1 a11 c12 x13.1 a14 c15 x22 e22) (.consR 1 (Ro (eI .i64) 3 1 (.slice a11 x10.1.length c12) x10.1) rfl (.consR 0 (Ro (eI .i64) 3 1 (.slice a14 x13.1.length c15) x13.1) rfl .nil)) (fun x22 e22 => ?_)
      intro _
      refine sxo_pick (b := true) rfl rfl rfl rfl ?_
      refine sxo_nil ?_
      exact sxq_meetP (x22, ()) (lk_cons rfl (lk_cons rfl (lk_cons rfl (lk_cons rfl (lk_cons rfl lk_nil))))) .nil .nil fk_nil
    · refine sxo_isF (k := 38) rfl h17 ?_
      refine sxo_skip rfl rfl rfl ?_
      refine sxo_skip rfl rfl rfl ?_
      refine sxo_skip rfl rfl rfl ?_
      refine sxo_pick (b := false) rfl rfl rfl rfl ?_
      refine sxo_nil ?_
      exact sxq_meetP (false, ()) (lk_cons rfl (lk_cons rfl (lk_cons rfl (lk_cons rfl (lk_cons rfl lk_nil))))) .nil .nil fk_nil
  · rintro ⟨x19, _⟩
    try dsimp only
    refine sxo_take (os := _) rfl ?_
    refine sxo_move rfl rfl rfl ?_
    refine sxo_case 4 x19 [(13, .int .i64 x10.2.2), (16, .int .i64 x13.2.2), (47, .bool (x19 && ((x10.2.1 : Int) == x13.2.1)))] (fun h20 => ?_) (fun h20 => ?_) ?_
    · refine sxo_take (os := _) rfl ?_
      refine sxo_isT (k := 43) rfl h20 ?_
      refine sxo_move rfl rfl rfl ?_
      refine sxo_move rfl rfl rfl ?_
      refine sxo_eql rfl rfl rfl rfl ?_
      refine sxo_pick (b := true) rfl rfl rfl rfl ?_
      refine sxo_again (d := 47) (v := .bool (x19 && ((x10.2.1 : Int) == x13.2.1))) rfl (by rw [h20]; simp only [Bool.true_and]) ?_
      refine sxo_nil ?_
      exact sxq_case (lk_cons rfl (lk_cons rfl (lk_cons rfl lk_nil)))
    · refine sxo_take (os := _) rfl ?_
      refine sxo_isF (k := 43) rfl h20 ?_
      refine sxo_skip rfl rfl rfl ?_
      refine sxo_skip rfl rfl rfl ?_
      refine sxo_skip rfl rfl rfl ?_
      refine sxo_pick (b := false) rfl rfl rfl rfl ?_
      refine sxo_again (d := 47) (v := .bool (x19 && ((x10.2.1 : Int) == x13.2.1))) rfl (by rw [h20]; simp only [Bool.false_and]) ?_
      refine sxo_nil ?_
      exact sxq_case (lk_cons rfl (lk_cons rfl (lk_cons rfl lk_nil)))
    refine sxo_take (os := _) rfl ?_
    refine sxo_move rfl rfl rfl ?_
    refine sxo_case 4 (x19 && ((x10.2.1 : Int) == x13.2.1)) [(52, .bool ((x19 && ((x10.2.1 : Int) == x13.2.1)) && ((x10.2.2 : Int) == x13.2.2)))] (fun h21 => ?_) (fun h21 => ?_) ?_
    · refine sxo_take (os := _) rfl ?_
      refine sxo_isT (k := 48) rfl h21 ?_
      refine sxo_move rfl rfl rfl ?_
      refine sxo_move rfl rfl rfl ?_
      refine sxo_eql rfl rfl rfl rfl ?_
      refine sxo_pick (b := true) rfl rfl rfl rfl ?_
      refine sxo_again (d := 52) (v := .bool ((x19 && ((x10.2.1 : Int) == x13.2.1)) && ((x10.2.2 : Int) == x13.2.2))) rfl (by rw [h21]; simp only [Bool.true_and]) ?_
      refine sxo_nil ?_
      exact sxq_case (lk_cons rfl lk_nil)
    · refine sxo_take (os := _) rfl ?_
      refine sxo_isF (k := 48) rfl h21 ?_
      refine sxo_skip rfl rfl rfl ?_
      refine sxo_skip rfl rfl rfl ?_
      refine sxo_skip rfl rfl rfl ?_
      refine sxo_pick (b := false) rfl rfl rfl rfl ?_
      refine sxo_again (d := 52) (v := .bool ((x19 && ((x10.2.1 : Int) == x13.2.1)) && ((x10.2.2 : Int) == x13.2.2))) rfl (by rw [h21]; simp only [Bool.false_and]) ?_
      refine sxo_nil ?_
      exact sxq_case (lk_cons rfl lk_nil)
    refine sxo_take (os := _) rfl ?_
    refine sxo_assign rfl rfl rfl ?_
    refine sxo_nil ?_
    refine sxq_next ?_
    refine sxc_ret ?_
    exact sxq_doneP () (.inl rfl) (res1 rfl rfl) (fun h => by subst h; rfl) (fun h => by subst h; exact .nil)

set_option maxHeartbeats 4000000 in
theorem C_L_GapsBack (F : Nat) (x1 : List Int) (a2 : Option Addr) (c3 : Nat) (x4 : List Int) (a5 : Option Addr) (c6 : Nat) (x7 : Int) (r : Bool) (hm : M_L_GapsBack F x1 x4 x7 = some r) :
    Pure Try.prog 5 [.slice a2 x1.length c3, .slice a5 x4.length c6, .int .i64 x7] [Sl (eI .i64) 1 (.slice a2 x1.length c3) x1, Sl (eI .u64) 1 (.slice a5 x4.length c6) x4] Unit (fun _ => .bool r) (fun _ => []) (fun _ => []) := by
  refine pure_of Try.func5 rfl Try.ntmps5 rfl hm (fun w => ?_)
  refine sxc_env (l' := [(0, .slice a2 x1.length c3), (1, .slice a5 x4.length c6), (2, .int .i64 x7)]) rfl ?_
  refine sxc_seq ?_
  refine sxc_region ?_
  refine sxo_assign rfl rfl rfl ?_
  refine sxo_nil ?_
  refine sxq_next ?_
  refine sxc_seq ?_
  refine sxc_region ?_
  refine sxo_move rfl rfl rfl ?_
  refine sxo_move rfl rfl rfl ?_
  refine sxo_call ent15 rfl rfl rfl (fun x8 e8 => C_gaps_Gaps F x1 a2 c3 x7 x8 e8) (.consF 0 rfl .nil) (fun x8 e8 => ?_)
  rintro ⟨a9, c10⟩
  refine sxo_move rfl rfl rfl ?_
  refine sxo_extract rfl rfl rfl rfl ?_
  refine sxo_extract rfl rfl rfl rfl ?_
  refine sxo_assign rfl rfl rfl ?_
  refine sxo_assign rfl rfl rfl ?_
  refine sxo_nil ?_
  refine sxq_next ?_
  refine sxc_seq ?_
  refine sxc_region ?_
  refine sxo_move rfl rfl rfl ?_
  refine sxo_move rfl rfl rfl ?_
  refine sxo_call ent16 rfl rfl rfl (fun x11 e11 => C_gaps_Back F x4 a5 c6 x7 x11 e11) (.consF 1 rfl .nil) (fun x11 e11 => ?_)
  rintro ⟨a12, c13⟩
  refine sxo_move rfl rfl rfl ?_
  refine sxo_extract rfl rfl rfl rfl ?_
  refine sxo_extract rfl rfl rfl rfl ?_
  refine sxo_assign rfl rfl rfl ?_
  refine sxo_assign rfl rfl rfl ?_
  refine sxo_nil ?_
  refine sxq_next ?_
  refine sxc_seq ?_
  refine sxc_seq ?_
  refine sxc_region ?_
  refine sxo_call ent22 rfl rfl rfl (fun x16 e16 => C_L_gapsBegun F  x16 e16) .nil (fun x16 e16 => ?_)
  intro _
  refine sxo_not rfl rfl rfl ?_
  refine sxo_nil ?_
  refine sxq_next ?_
  refine sxc_if rfl (fun h48 => ?_) (fun h48 => ?_)
  · refine sxc_seq ?_
    refine sxc_region ?_
    refine sxo_assign rfl rfl rfl ?_
    refine sxo_nil ?_
    refine sxq_next ?_
    refine sxc_ret ?_
    refine sxq_thenR ?_
    exact sxq_doneP () (.inl rfl) (res1 rfl rfl) (fun h => by subst h; rfl) (fun h => by subst h; exact .nil)
  · refine sxc_skip ?_
    refine sxq_next ?_
    refine sxc_join (fun ((_, _) : (Unit × Unit)) => [(1, .slice a5 x4.length c6), (2, .int .i64 x7), (9, .slice a12 x11.1.length c13), (10, .int .i64 x11.2)]) (fun ((_, _) : (Unit × Unit)) => []) (fun ((_, _) : (Unit × Unit)) => [Ro (eI .i64) 3 1 (.slice a12 x11.1.length c13) x11.1]) (fun ((_, _) : (Unit × Unit)) => [Sl (eI .u64) 1 (.slice a5 x4.length c6) x4]) (fun ((_, _) : (Unit × Unit)) => M_L_GapsBack_j2 F x4 x7 x11) ?_ ?_
    · refine sxc_seq ?_
      refine sxc_region ?_
      refine sxo_move rfl rfl rfl ?_
      refine sxo_eql rfl rfl rfl rfl ?_
      refine sxo_nil ?_
      refine sxq_next ?_
      refine sxc_if rfl (fun h47 => ?_) (fun h47 => ?_)
      · refine sxc_seq ?_
        refine sxc_region ?_
        refine sxo_move rfl rfl rfl ?_
        refine sxo_move rfl rfl rfl ?_
        refine sxo_call ent16 rfl rfl rfl (fun x39 e39 => C_gaps_Back F x8.1 a9 c10 x7 x39 e39) (.consR 1 (Ro (eI .u64) 46 1 (.slice a9 x8.1.length c10) x8.1) rfl .nil) (fun x39 e39 => ?_)
        rintro ⟨a40, c41⟩
        refine sxo_move rfl rfl rfl ?_
        refine sxo_extract rfl rfl rfl rfl ?_
        refine sxo_extract rfl rfl rfl rfl ?_
        refine sxo_assign rfl rfl rfl ?_
        refine sxo_assign rfl rfl rfl ?_
        refine sxo_nil ?_
        refine sxq_next ?_
        refine sxc_seq ?_
        refine sxc_region ?_
        refine sxo_move rfl rfl rfl ?_
        refine sxo_neq rfl rfl rfl rfl ?_
        refine sxo_move rfl rfl rfl ?_
        refine sxo_join 5 (fun ((x44, _) : (Bool × Unit)) => [(1, .slice a5 x4.length c6), (2, .int .i64 x7), (9, .slice a12 x11.1.length c13), (10, .int .i64 x11.2), (44, .bool x44)]) (fun ((x44, _) : (Bool × Unit)) => []) (fun ((x44, _) : (Bool × Unit)) => [Ro (eI .i64) 3 1 (.slice a12 x11.1.length c13) x11.1]) (fun ((x44, _) : (Bool × Unit)) => [Sl (eI .u64) 1 (.slice a5 x4.length c6) x4]) (fun ((x44, _) : (Bool × Unit)) => M_L_GapsBack_j5 F x4 x7 x11 x44) ?_ ?_
        · refine sxo_take (os := _) rfl ?_
          refine sxo_if (fun h42 => ?_) (fun h42 => ?_)
          · refine sxo_isT (k := 39) rfl h42 ?_
            refine sxo_skip rfl rfl rfl ?_
            refine sxo_skip rfl rfl rfl ?_
            refine sxo_skip rfl rfl rfl ?_
            refine sxo_skip rfl rfl rfl ?_
            refine sxo_pick (b := true) rfl rfl rfl rfl ?_
            refine sxo_nil ?_
            exact sxq_meetP (true, ()) (lk_cons rfl (lk_cons rfl (lk_cons rfl (lk_cons rfl (lk_cons rfl lk_nil))))) .nil (.cons 1 rfl .nil) (fk_cons 1 rfl fk_nil)
          · refine sxo_isF (k := 39) rfl h42 ?_
            refine sxo_move rfl rfl rfl ?_
            refine sxo_move rfl rfl rfl ?_
            refine sxo_call ent25 rfl rfl rfl (fun x46 e46 => C_R_SameInts F x39.1 a40 c41 x1 a2 c3 x46 e46) (.consR 0 (Ro (eI .i64) 3 1 (.slice a40 x39.1.length c41) x39.1) rfl (.consF 0 rfl .nil)) (fun x46 e46 => ?_)
            intro _
            refine sxo_not rfl rfl rfl ?_
            refine sxo_pick (b := false) rfl rfl rfl rfl ?_
            refine sxo_nil ?_
            exact sxq_meetP ((!x46), ()) (lk_cons rfl (lk_cons rfl (lk_cons rfl (lk_cons rfl (lk_cons rfl lk_nil))))) .nil (.cons 1 rfl .nil) (fk_cons 1 rfl fk_nil)
        · rintro ⟨x44, _⟩
          try dsimp only
          refine sxo_take (os := _) rfl ?_
          refine sxo_nil ?_
          refine sxq_next ?_
          refine sxc_if rfl (fun h45 => ?_) (fun h45 => ?_)
          · refine sxc_seq ?_
            refine sxc_region ?_
            refine sxo_assign rfl rfl rfl ?_
            refine sxo_nil ?_
            refine sxq_next ?_
            refine sxc_ret ?_
            refine sxq_thenR ?_
            exact sxq_doneP () (.inl rfl) (res1 rfl rfl) (fun h => by subst h; rfl) (fun h => by subst h; exact .nil)
          · refine sxc_skip ?_
            exact sxq_meetP ((), ()) (lk_cons rfl (lk_cons rfl (lk_cons rfl (lk_cons rfl lk_nil)))) .nil (.cons 0 rfl .nil) (fk_cons 0 rfl fk_nil)
      · refine sxc_skip ?_
        exact sxq_meetP ((), ()) (lk_cons rfl (lk_cons rfl (lk_cons rfl (lk_cons rfl lk_nil)))) .nil (.cons 0 rfl .nil) (fk_cons 1 rfl fk_nil)
    · rintro ⟨_, _⟩
      try dsimp only
      refine sxc_seq ?_
      refine sxc_seq ?_
      refine sxc_region ?_
      refine sxo_move rfl rfl rfl ?_
      refine sxo_neq rfl rfl rfl rfl ?_
      refine sxo_nil ?_
      refine sxq_next ?_
      refine sxc_if rfl (fun h38 => ?_) (fun h38 => ?_)
      · refine sxc_seq ?_
        refine sxc_region ?_
        refine sxo_move rfl rfl rfl ?_
        refine sxo_len rfl Try.underlying22 rfl rfl ?_
        refine sxo_eql rfl rfl rfl rfl ?_
        refine sxo_assign rfl rfl rfl ?_
        refine sxo_nil ?_
        refine sxq_next ?_
        refine sxc_ret ?_
        refine sxq_thenR ?_
        exact sxq_doneP () (.inl rfl) (res1 rfl rfl) (fun h => by subst h; rfl) (fun h => by subst h; exact .nil)
      · refine sxc_skip ?_
        refine sxq_next ?_
        refine sxc_seq ?_
        refine sxc_region ?_
        refine sxo_move rfl rfl rfl ?_
        refine sxo_move rfl rfl rfl ?_
        refine sxo_call ent15 rfl rfl rfl (fun x27 e27 => C_gaps_Gaps F x11.1 a12 c13 x7 x27 e27) (.consR 0 (Ro (eI .i64) 3 1 (.slice a12 x11.1.length c13) x11.1) rfl .nil) (fun x27 e27 => ?_)
        rintro ⟨a28, c29⟩
        refine sxo_move rfl rfl rfl ?_
        refine sxo_extract rfl rfl rfl rfl ?_
        refine sxo_extract rfl rfl rfl rfl ?_
        refine sxo_assign rfl rfl rfl ?_
        refine sxo_assign rfl rfl rfl ?_
        refine sxo_nil ?_
        refine sxq_next ?_
        refine sxc_seq ?_
        refine sxc_region ?_
        refine sxo_move rfl rfl rfl ?_
        refine sxo_eql rfl rfl rfl rfl ?_
        refine sxo_move rfl rfl rfl ?_
        refine sxo_join 4 (fun ((x32, _) : (Bool × Unit)) => [(9, .slice a12 x11.1.length c13), (62, .bool x32)]) (fun ((x32, _) : (Bool × Unit)) => []) (fun ((x32, _) : (Bool × Unit)) => [Ro (eI .i64) 3 1 (.slice a12 x11.1.length c13) x11.1]) (fun ((x32, _) : (Bool × Unit)) => []) (fun ((x32, _) : (Bool × Unit)) => M_L_GapsBack_j3 F x11 x32) ?_ ?_
        · refine sxo_take (os := _) rfl ?_
          refine sxo_if (fun h30 => ?_) (fun h30 => ?_)
          · refine sxo_isT (k := 58) rfl h30 ?_
            refine sxo_move rfl rfl rfl ?_
            refine sxo_move rfl rfl rfl ?_
            refine sxo_call ent24 rfl rfl rfl (fun x37 e37 => C_R_SameNums F x27.1 a28 c29 x4 a5 c6 x37 e37) (.consR 0 (Ro (eI .u64) 46 1 (.slice a28 x27.1.length c29) x27.1) rfl (.consF 0 rfl .nil)) (fun x37 e37 => ?_)
            intro _
            refine sxo_pick (b := true) rfl rfl rfl rfl ?_
            refine sxo_nil ?_
            exact sxq_meetP (x37, ()) (lk_cons rfl (lk_cons rfl lk_nil)) .nil (.cons 1 rfl .nil) fk_nil
          · refine sxo_isF (k := 58) rfl h30 ?_
            refine sxo_skip rfl rfl rfl ?_
            refine sxo_skip rfl rfl rfl ?_
            refine sxo_skip rfl rfl rfl ?_
            refine sxo_pick (b := false) rfl rfl rfl rfl ?_
            refine sxo_nil ?_
            exact sxq_meetP (false, ()) (lk_cons rfl (lk_cons rfl lk_nil)) .nil (.cons 1 rfl .nil) fk_nil
        · rintro ⟨x32, _⟩
          try dsimp only
          refine sxo_take (os := _) rfl ?_
          refine sxo_move rfl rfl rfl ?_
          refine sxo_join 4 (fun ((x35, _) : (Bool × Unit)) => [(67, .bool x35)]) (fun ((x35, _) : (Bool × Unit)) => []) (fun ((x35, _) : (Bool × Unit)) => []) (fun ((x35, _) : (Bool × Unit)) => []) (fun ((x35, _) : (Bool × Unit)) => M_L_GapsBack_j4 F x35) ?_ ?_
          · refine sxo_take (os := _) rfl ?_
            refine sxo_if (fun h33 => ?_) (fun h33 => ?_)
            · refine sxo_isT (k := 63) rfl h33 ?_
              refine sxo_move rfl rfl rfl ?_
              refine sxo_call ent23 rfl rfl rfl (fun x36 e36 => C_gaps_Check F x11.1 a12 c13 x36 e36) (.consR 0 (Ro (eI .i64) 3 1 (.slice a12 x11.1.length c13) x11.1) rfl .nil) (fun x36 e36 => ?_)
              intro _
              refine sxo_eql rfl rfl rfl rfl ?_
              refine sxo_pick (b := true) rfl rfl rfl rfl ?_
              refine sxo_nil ?_
              exact sxq_meetP (((x36 : Int) == 0), ()) (lk_cons rfl lk_nil) .nil .nil fk_nil
            · refine sxo_isF (k := 63) rfl h33 ?_
              refine sxo_skip rfl rfl rfl ?_
              refine sxo_skip rfl rfl rfl ?_
              refine sxo_skip rfl rfl rfl ?_
              refine sxo_pick (b := false) rfl rfl rfl rfl ?_
              refine sxo_nil ?_
              exact sxq_meetP (false, ()) (lk_cons rfl lk_nil) .nil .nil fk_nil
          · rintro ⟨x35, _⟩
            try dsimp only
            refine sxo_take (os := _) rfl ?_
            refine sxo_assign rfl rfl rfl ?_
            refine sxo_nil ?_
            refine sxq_next ?_
            refine sxc_ret ?_
            exact sxq_doneP () (.inl rfl) (res1 rfl rfl) (fun h => by subst h; rfl) (fun h => by subst h; exact .nil)

theorem C_bits_Join (F : Nat) (x1 : Int) (x2 : List Int) (a3 : Option Addr) (c4 : Nat) (x5 : Int) (x6 : List Int) (a7 : Option Addr) (c8 : Nat) (r : (Int × List Int × Int)) (hm : M_bits_Join F x1 x2 x5 x6 = some r) :
    Pure Try.prog 30 [.agg #[.int .i64 x1, .slice a3 x2.length c4], .agg #[.int .i64 x5, .slice a7 x6.length c8]] [Sl (eI .u8) 1 (.slice a3 x2.length c4) x2, Sl (eI .u8) 1 (.slice a7 x6.length c8) x6] (Option Addr × Nat) (fun g => .tuple #[.agg #[.int .i64 r.1, .slice g.1 r.2.1.length g.2], .int .i64 r.2.2]) (fun g => [Ro (eI .u8) 5 1 (.slice g.1 r.2.1.length g.2) r.2.1]) (fun _ => []) := by
  refine pure_of Try.func30 rfl Try.ntmps30 rfl hm (fun w => ?_)
  refine sxc_env (l' := [(0, .agg #[.int .i64 x1, .slice a3 x2.length c4]), (1, .agg #[.int .i64 x5, .slice a7 x6.length c8])]) rfl ?_
  refine sxc_seq ?_
  refine sxc_region ?_
  refine sxo_box rfl rfl rfl (fun g9 => ?_)
  refine sxo_box rfl rfl rfl (fun g10 => ?_)
  refine sxo_alloc rfl tf31 rfl (fun g11 => ?_)
  refine sxo_assign rfl rfl rfl ?_
  refine sxo_nil ?_
  refine sxq_next ?_
  refine sxc_seq ?_
  refine sxc_region ?_
  refine sxo_loadB (i := 2) rfl rfl tf31 rfl rfl (by simp) rfl rfl ?_
  refine sxo_call ent57 rfl rfl rfl (fun x12 e12 => C_bits_Check F x1 x2 a3 c4 x12 e12) (.consF 0 rfl .nil) (fun x12 e12 => ?_)
  intro _
  refine sxo_assign rfl rfl rfl ?_
  refine sxo_nil ?_
  refine sxq_next ?_
  refine sxc_join (fun ((x15, _) : (Int × Unit)) => [(2, .pointer (some ⟨g9, 0, none⟩)), (3, .pointer (some ⟨g10, 0, none⟩)), (4, .pointer (some ⟨g11, 0, none⟩)), (6, .int .i64 x15)]) (fun ((x15, _) : (Int × Unit)) => [⟨g11, 31, [.int .i64 0, .slice none 0 0]⟩, ⟨g10, 31, [.int .i64 x5, .slice a7 x6.length c8]⟩, ⟨g9, 31, [.int .i64 x1, .slice a3 x2.length c4]⟩]) (fun ((x15, _) : (Int × Unit)) => []) (fun ((x15, _) : (Int × Unit)) => [Sl (eI .u8) 1 (.slice a7 x6.length c8) x6, Sl (eI .u8) 1 (.slice a3 x2.length c4) x2]) (fun ((x15, _) : (Int × Unit)) => M_bits_Join_j1 F x1 x2 x5 x6 x15) ?_ ?_
  · refine sxc_seq ?_
    refine sxc_region ?_
    refine sxo_move rfl rfl rfl ?_
    refine sxo_eql rfl rfl rfl rfl ?_
    refine sxo_nil ?_
    refine sxq_next ?_
    refine sxc_if rfl (fun h27 => ?_) (fun h27 => ?_)
    · refine sxc_region ?_
      refine sxo_loadB (i := 1) rfl rfl tf31 rfl rfl (by simp) rfl rfl ?_
      refine sxo_call ent57 rfl rfl rfl (fun x26 e26 => C_bits_Check F x5 x6 a7 c8 x26 e26) (.consF 1 rfl .nil) (fun x26 e26 => ?_)
      intro _
      refine sxo_assign rfl rfl rfl ?_
      refine sxo_nil ?_
      exact sxq_meetP (x26, ()) (lk_cons rfl (lk_cons rfl (lk_cons rfl (lk_cons rfl lk_nil)))) (.cons 0 rfl (.cons 0 rfl (.cons 0 rfl .nil))) .nil (fk_cons 1 rfl (fk_cons 0 rfl fk_nil))
    · refine sxc_skip ?_
      exact sxq_meetP (x12, ()) (lk_cons rfl (lk_cons rfl (lk_cons rfl (lk_cons rfl lk_nil)))) (.cons 0 rfl (.cons 0 rfl (.cons 0 rfl .nil))) .nil (fk_cons 1 rfl (fk_cons 0 rfl fk_nil))
  · rintro ⟨x15, _⟩
    try dsimp only
    refine sxc_join (fun ((x18, _) : (Int × Unit)) => [(2, .pointer (some ⟨g9, 0, none⟩)), (3, .pointer (some ⟨g10, 0, none⟩)), (4, .pointer (some ⟨g11, 0, none⟩)), (6, .int .i64 x18)]) (fun ((x18, _) : (Int × Unit)) => [⟨g11, 31, [.int .i64 0, .slice none 0 0]⟩, ⟨g10, 31, [.int .i64 x5, .slice a7 x6.length c8]⟩, ⟨g9, 31, [.int .i64 x1, .slice a3 x2.length c4]⟩]) (fun ((x18, _) : (Int × Unit)) => []) (fun ((x18, _) : (Int × Unit)) => [Sl (eI .u8) 1 (.slice a7 x6.length c8) x6, Sl (eI .u8) 1 (.slice a3 x2.length c4) x2]) (fun ((x18, _) : (Int × Unit)) => M_bits_Join_j2 F x1 x2 x5 x6 x18) ?_ ?_
    · refine sxc_seq ?_
      refine sxc_region ?_
      refine sxo_move rfl rfl rfl ?_
      refine sxo_eql rfl rfl rfl rfl ?_
      refine sxo_move rfl rfl rfl ?_
      refine sxo_case 7 ((x15 : Int) == 0) [(2, .pointer (some ⟨g9, 0, none⟩)), (3, .pointer (some ⟨g10, 0, none⟩)), (4, .pointer (some ⟨g11, 0, none⟩)), (6, .int .i64 x15), (22, .bool (((x15 : Int) == 0) && (decide (8192 < (iadd .i64 x1 x5)))))] (fun h24 => ?_) (fun h24 => ?_) ?_
      · refine sxo_take (os := _) rfl ?_
        refine sxo_isT (k := 15) rfl h24 ?_
        refine sxo_fieldAddr rfl rfl ff31_0 rfl ?_
        refine sxo_loadB (i := 2) rfl rfl tf3 rfl rfl (fun _ => rfl) rfl rfl ?_
        refine sxo_fieldAddr rfl rfl ff31_0 rfl ?_
        refine sxo_loadB (i := 1) rfl rfl tf3 rfl rfl (fun _ => rfl) rfl rfl ?_
        refine sxo_add rfl rfl rfl rfl ?_
        refine sxo_gtr rfl rfl rfl rfl ?_
        refine sxo_pick (b := true) rfl rfl rfl rfl ?_
        refine sxo_again (d := 22) (v := .bool (((x15 : Int) == 0) && (decide (8192 < (iadd .i64 x1 x5))))) rfl (by rw [h24]; simp only [Bool.true_and]) ?_
        refine sxo_nil ?_
        exact sxq_case (lk_cons rfl (lk_cons rfl (lk_cons rfl (lk_cons rfl (lk_cons rfl lk_nil)))))
      · refine sxo_take (os := _) rfl ?_
        refine sxo_isF (k := 15) rfl h24 ?_
        refine sxo_skip rfl rfl rfl ?_
        refine sxo_skip rfl rfl rfl ?_
        refine sxo_skip rfl rfl rfl ?_
        refine sxo_skip rfl rfl rfl ?_
        refine sxo_skip rfl rfl rfl ?_
        refine sxo_skip rfl rfl rfl ?_
        refine sxo_pick (b := false) rfl rfl rfl rfl ?_
        refine sxo_again (d := 22) (v := .bool (((x15 : Int) == 0) && (decide (8192 < (iadd .i64 x1 x5))))) rfl (by rw [h24]; simp only [Bool.false_and]) ?_
        refine sxo_nil ?_
        exact sxq_case (lk_cons rfl (lk_cons rfl (lk_cons rfl (lk_cons rfl (lk_cons rfl lk_nil)))))
      refine sxo_take (os := _) rfl ?_
      refine sxo_nil ?_
      refine sxq_next ?_
      refine sxc_if rfl (fun h25 => ?_) (fun h25 => ?_)
      · refine sxc_region ?_
        refine sxo_assign rfl rfl rfl ?_
        refine sxo_nil ?_
        exact sxq_meetP (8, ()) (lk_cons rfl (lk_cons rfl (lk_cons rfl (lk_cons rfl lk_nil)))) (.cons 0 rfl (.cons 0 rfl (.cons 0 rfl .nil))) .nil (fk_cons 0 rfl (fk_cons 1 rfl fk_nil))
      · refine sxc_skip ?_
        exact sxq_meetP (x15, ()) (lk_cons rfl (lk_cons rfl (lk_cons rfl (lk_cons rfl lk_nil)))) (.cons 0 rfl (.cons 0 rfl (.cons 0 rfl .nil))) .nil (fk_cons 0 rfl (fk_cons 1 rfl fk_nil))
    · rintro ⟨x18, _⟩
      try dsimp only
      refine sxc_seq ?_
      refine sxc_seq ?_
      refine sxc_region ?_
      refine sxo_move rfl rfl rfl ?_
      refine sxo_neq rfl rfl rfl rfl ?_
      refine sxo_nil ?_
      refine sxq_next ?_
      refine sxc_if rfl (fun h23 => ?_) (fun h23 => ?_)
      · refine sxc_seq ?_
        refine sxc_region ?_
        refine sxo_build (cells := [.int .i64 0, .slice none 0 0]) rfl st31 rfl (by kernel_rfl) rfl ?_
        refine sxo_move rfl rfl rfl ?_
        refine sxo_storeB (i := 0) rfl rfl rfl tf31 rfl rfl rfl rfl rfl ?_
        refine sxo_assign rfl rfl rfl ?_
        refine sxo_nil ?_
        refine sxq_next ?_
        refine sxc_ret ?_
        refine sxq_thenR ?_
        refine sxq_nilrow Int (eI .u8) 5 1 ?_
        exact sxq_doneP (none, 0) (.inl rfl) (resL (rs := [.cell 4 31, .tmp 5]) rfl (.cell (i := 0) rfl tf31 rfl rfl (by simp) rfl (.tmp rfl ResOk.nil)) rfl) (fun h => by subst h; rfl) (fun h => by subst h; exact (.cons 0 rfl .nil))
      · refine sxc_skip ?_
        refine sxq_next ?_
        refine sxc_seq ?_
        refine sxc_region ?_
        refine sxo_loadB (i := 2) rfl rfl tf31 rfl rfl (by simp) rfl rfl ?_
        refine sxo_loadB (i := 1) rfl rfl tf31 rfl rfl (by simp) rfl rfl ?_
        refine sxo_callM ent58 rfl rfl rfl (fun x20 e20 => C_bits_Both F x1 x2 a3 c4 x5 x6 a7 c8 x20 e20) .nil .nil (.consF 1 rfl (.consF 0 rfl .nil)) (fun x20 e20 => ?_)
        rintro ⟨a21, c22⟩
        refine sxo_storeB (i := 0) rfl rfl rfl tf31 rfl rfl rfl rfl rfl ?_
        refine sxo_assign rfl rfl rfl ?_
        refine sxo_nil ?_
        refine sxq_next ?_
        refine sxc_ret ?_
        exact sxq_doneP (a21, c22) (.inl rfl) (resL (rs := [.cell 4 31, .tmp 5]) rfl (.cell (i := 0) rfl tf31 rfl rfl (by simp) rfl (.tmp rfl ResOk.nil)) rfl) (fun h => by subst h; rfl) (fun h => by subst h; exact (.cons 0 rfl .nil))

theorem C_bits_Put (F : Nat) (x1 : Int) (x2 : List Int) (a3 : Option Addr) (c4 : Nat) (x5 : Int) (x6 : Int) (r : (Int × List Int × Int)) (hm : M_bits_Put F x1 x2 x5 x6 = some r) :
    Pure Try.prog 54 [.agg #[.int .i64 x1, .slice a3 x2.length c4], .int .u64 x5, .int .i64 x6] [Sl (eI .u8) 1 (.slice a3 x2.length c4) x2] (Option Addr × Nat) (fun g => .tuple #[.agg #[.int .i64 r.1, .slice g.1 r.2.1.length g.2], .int .i64 r.2.2]) (fun g => [Ro (eI .u8) 5 1 (.slice g.1 r.2.1.length g.2) r.2.1]) (fun _ => []) := by
  refine pure_of Try.func54 rfl Try.ntmps54 rfl hm (fun w => ?_)
  refine sxc_env (l' := [(0, .agg #[.int .i64 x1, .slice a3 x2.length c4]), (1, .int .u64 x5), (2, .int .i64 x6)]) rfl ?_
  refine sxc_seq ?_
  refine sxc_region ?_
  refine sxo_box rfl rfl rfl (fun g7 => ?_)
  refine sxo_alloc rfl tf31 rfl (fun g8 => ?_)
  refine sxo_assign rfl rfl rfl ?_
  refine sxo_nil ?_
  refine sxq_next ?_
  refine sxc_seq ?_
  refine sxc_region ?_
  refine sxo_loadB (i := 1) rfl rfl tf31 rfl rfl (by simp) rfl rfl ?_
  refine sxo_call ent57 rfl rfl rfl (fun x9 e9 => C_bits_Check F x1 x2 a3 c4 x9 e9) (.consF 0 rfl .nil) (fun x9 e9 => ?_)
  intro _
  refine sxo_assign rfl rfl rfl ?_
  refine sxo_nil ?_
  refine sxq_next ?_
  refine sxc_join (fun ((x24, _) : (Int × Unit)) => [(1, .int .u64 x5), (2, .int .i64 x6), (3, .pointer (some ⟨g7, 0, none⟩)), (6, .pointer (some ⟨g8, 0, none⟩)), (8, .int .i64 x24)]) (fun ((x24, _) : (Int × Unit)) => [⟨g8, 31, [.int .i64 0, .slice none 0 0]⟩, ⟨g7, 31, [.int .i64 x1, .slice a3 x2.length c4]⟩]) (fun ((x24, _) : (Int × Unit)) => []) (fun ((x24, _) : (Int × Unit)) => [Sl (eI .u8) 1 (.slice a3 x2.length c4) x2]) (fun ((x24, _) : (Int × Unit)) => M_bits_Put_j4 F x1 x2 x5 x6 x24) ?_ ?_
  · refine sxc_block ?_
    refine sxc_seq ?_
    refine sxc_region ?_
    refine sxo_move rfl rfl rfl ?_
    refine sxo_neq rfl rfl rfl rfl ?_
    refine sxo_assign rfl rfl rfl ?_
    refine sxo_nil ?_
    refine sxq_next ?_
    refine sxc_if rfl (fun h43 => ?_) (fun h43 => ?_)
    · refine sxc_skip ?_
      refine sxq_blkN ?_
      exact sxq_meetP (x9, ()) (lk_cons rfl (lk_cons rfl (lk_cons rfl (lk_cons rfl (lk_cons rfl lk_nil))))) (.cons 0 rfl (.cons 0 rfl .nil)) .nil (fk_cons 0 rfl fk_nil)
    · refine sxc_seq ?_
      refine sxc_region ?_
      refine sxo_move rfl rfl rfl ?_
      refine sxo_lss rfl rfl rfl rfl ?_
      refine sxo_move rfl rfl rfl ?_
      refine sxo_case 3 (decide (x6 < 0)) [(1, .int .u64 x5), (2, .int .i64 x6), (3, .pointer (some ⟨g7, 0, none⟩)), (6, .pointer (some ⟨g8, 0, none⟩)), (8, .int .i64 x9), (20, .bool ((decide (x6 < 0)) || (decide (64 < x6))))] (fun h30 => ?_) (fun h30 => ?_) ?_
      · refine sxo_take (os := _) rfl ?_
        refine sxo_isT (k := 17) rfl h30 ?_
        refine sxo_skip rfl rfl rfl ?_
        refine sxo_skip rfl rfl rfl ?_
        refine sxo_pick (b := true) rfl rfl rfl rfl ?_
        refine sxo_again (d := 20) (v := .bool ((decide (x6 < 0)) || (decide (64 < x6)))) rfl (by rw [h30]; simp only [Bool.true_or]) ?_
        refine sxo_nil ?_
        exact sxq_case (lk_cons rfl (lk_cons rfl (lk_cons rfl (lk_cons rfl (lk_cons rfl (lk_cons rfl lk_nil))))))
      · refine sxo_take (os := _) rfl ?_
        refine sxo_isF (k := 17) rfl h30 ?_
        refine sxo_move rfl rfl rfl ?_
        refine sxo_gtr rfl rfl rfl rfl ?_
        refine sxo_pick (b := false) rfl rfl rfl rfl ?_
        refine sxo_again (d := 20) (v := .bool ((decide (x6 < 0)) || (decide (64 < x6)))) rfl (by rw [h30]; simp only [Bool.false_or]) ?_
        refine sxo_nil ?_
        exact sxq_case (lk_cons rfl (lk_cons rfl (lk_cons rfl (lk_cons rfl (lk_cons rfl (lk_cons rfl lk_nil))))))
      refine sxo_take (os := _) rfl ?_
      refine sxo_move rfl rfl rfl ?_
      refine sxo_join 9 (fun ((x36, _) : (Bool × Unit)) => [(1, .int .u64 x5), (2, .int .i64 x6), (3, .pointer (some ⟨g7, 0, none⟩)), (6, .pointer (some ⟨g8, 0, none⟩)), (8, .int .i64 x9), (30, .bool x36)]) (fun ((x36, _) : (Bool × Unit)) => [⟨g8, 31, [.int .i64 0, .slice none 0 0]⟩, ⟨g7, 31, [.int .i64 x1, .slice a3 x2.length c4]⟩]) (fun ((x36, _) : (Bool × Unit)) => []) (fun ((x36, _) : (Bool × Unit)) => [Sl (eI .u8) 1 (.slice a3 x2.length c4) x2]) (fun ((x36, _) : (Bool × Unit)) => M_bits_Put_j6 F x1 x2 x5 x6 x9 x36) ?_ ?_
      · refine sxo_take (os := _) rfl ?_
        refine sxo_if (fun h31 => ?_) (fun h31 => ?_)
        · refine sxo_isT (k := 21) rfl h31 ?_
          refine sxo_skip rfl rfl rfl ?_
          refine sxo_skip rfl rfl rfl ?_
          refine sxo_skip rfl rfl rfl ?_
          refine sxo_skip rfl rfl rfl ?_
          refine sxo_skip rfl rfl rfl ?_
          refine sxo_skip rfl rfl rfl ?_
          refine sxo_skip rfl rfl rfl ?_
          refine sxo_skip rfl rfl rfl ?_
          refine sxo_pick (b := true) rfl rfl rfl rfl ?_
          refine sxo_nil ?_
          exact sxq_meetP (true, ()) (lk_cons rfl (lk_cons rfl (lk_cons rfl (lk_cons rfl (lk_cons rfl (lk_cons rfl lk_nil)))))) (.cons 0 rfl (.cons 0 rfl .nil)) .nil (fk_cons 0 rfl fk_nil)
        · refine sxo_isF (k := 21) rfl h31 ?_
          refine sxo_move rfl rfl rfl ?_
          refine sxo_lss rfl rfl rfl rfl ?_
          refine sxo_move rfl rfl rfl ?_
          refine sxo_join 5 (fun ((x41, _) : (Bool × Unit)) => [(1, .int .u64 x5), (2, .int .i64 x6), (3, .pointer (some ⟨g7, 0, none⟩)), (6, .pointer (some ⟨g8, 0, none⟩)), (8, .int .i64 x9), (21, .bool false), (29, .bool x41)]) (fun ((x41, _) : (Bool × Unit)) => [⟨g8, 31, [.int .i64 0, .slice none 0 0]⟩, ⟨g7, 31, [.int .i64 x1, .slice a3 x2.length c4]⟩]) (fun ((x41, _) : (Bool × Unit)) => []) (fun ((x41, _) : (Bool × Unit)) => [Sl (eI .u8) 1 (.slice a3 x2.length c4) x2]) (fun ((x41, _) : (Bool × Unit)) => M_bits_Put_j7 F x1 x2 x5 x6 x9 x41) ?_ ?_
          · refine sxo_take (os := _) rfl ?_
            refine sxo_if (fun h39 => ?_) (fun h39 => ?_)
            · refine sxo_isT (k := 24) rfl h39 ?_
              refine sxo_move rfl rfl rfl ?_
              refine sxo_move rfl rfl rfl ?_
              refine sxo_chk (fun h42 => ?_)
              refine sxo_shr rfl rfl rfl rfl h42 ?_
              refine sxo_neq rfl rfl rfl rfl ?_
              refine sxo_pick (b := true) rfl rfl rfl rfl ?_
              refine sxo_nil ?_
              exact sxq_meetP ((((ishr .u64 x5 x6) : Int) != 0), ()) (lk_cons rfl (lk_cons rfl (lk_cons rfl (lk_cons rfl (lk_cons rfl (lk_cons rfl (lk_cons rfl lk_nil))))))) (.cons 0 rfl (.cons 0 rfl .nil)) .nil (fk_cons 0 rfl fk_nil)
            · refine sxo_isF (k := 24) rfl h39 ?_
              refine sxo_skip rfl rfl rfl ?_
              refine sxo_skip rfl rfl rfl ?_
              refine sxo_skip rfl rfl rfl ?_
              refine sxo_skip rfl rfl rfl ?_
              refine sxo_pick (b := false) rfl rfl rfl rfl ?_
              refine sxo_nil ?_
              exact sxq_meetP (false, ()) (lk_cons rfl (lk_cons rfl (lk_cons rfl (lk_cons rfl (lk_cons rfl (lk_cons rfl (lk_cons rfl lk_nil))))))) (.cons 0 rfl (.cons 0 rfl .nil)) .nil (fk_cons 0 rfl fk_nil)
          · rintro ⟨x41, _⟩
            try dsimp only
            refine sxo_take (os := _) rfl ?_
            refine sxo_pick (b := false) rfl rfl rfl rfl ?_
            refine sxo_nil ?_
            exact sxq_meetP (x41, ()) (lk_cons rfl (lk_cons rfl (lk_cons rfl (lk_cons rfl (lk_cons rfl (lk_cons rfl lk_nil)))))) (.cons 0 rfl (.cons 0 rfl .nil)) .nil (fk_cons 0 rfl fk_nil)
      · rintro ⟨x36, _⟩
        try dsimp only
        refine sxo_take (os := _) rfl ?_
        refine sxo_assign rfl rfl rfl ?_
        refine sxo_nil ?_
        refine sxq_next ?_
        refine sxc_if rfl (fun h38 => ?_) (fun h38 => ?_)
        · refine sxc_region ?_
          refine sxo_assign rfl rfl rfl ?_
          refine sxo_nil ?_
          refine sxq_blkN ?_
          exact sxq_meetP (3, ()) (lk_cons rfl (lk_cons rfl (lk_cons rfl (lk_cons rfl (lk_cons rfl lk_nil))))) (.cons 0 rfl (.cons 0 rfl .nil)) .nil (fk_cons 0 rfl fk_nil)
        · refine sxc_seq ?_
          refine sxc_region ?_
          refine sxo_fieldAddr rfl rfl ff31_0 rfl ?_
          refine sxo_loadB (i := 1) rfl rfl tf3 rfl rfl (fun _ => rfl) rfl rfl ?_
          refine sxo_move rfl rfl rfl ?_
          refine sxo_add rfl rfl rfl rfl ?_
          refine sxo_gtr rfl rfl rfl rfl ?_
          refine sxo_assign rfl rfl rfl ?_
          refine sxo_nil ?_
          refine sxq_next ?_
          refine sxc_if rfl (fun h37 => ?_) (fun h37 => ?_)
          · refine sxc_region ?_
            refine sxo_assign rfl rfl rfl ?_
            refine sxo_nil ?_
            refine sxq_blkN ?_
            exact sxq_meetP (8, ()) (lk_cons rfl (lk_cons rfl (lk_cons rfl (lk_cons rfl (lk_cons rfl lk_nil))))) (.cons 0 rfl (.cons 0 rfl .nil)) .nil (fk_cons 0 rfl fk_nil)
          · refine sxc_skip ?_
            refine sxq_blkN ?_
            exact sxq_meetP (x9, ()) (lk_cons rfl (lk_cons rfl (lk_cons rfl (lk_cons rfl (lk_cons rfl lk_nil))))) (.cons 0 rfl (.cons 0 rfl .nil)) .nil (fk_cons 0 rfl fk_nil)
  · rintro ⟨x24, _⟩
    try dsimp only
    refine sxc_seq ?_
    refine sxc_seq ?_
    refine sxc_region ?_
    refine sxo_move rfl rfl rfl ?_
    refine sxo_neq rfl rfl rfl rfl ?_
    refine sxo_nil ?_
    refine sxq_next ?_
    refine sxc_if rfl (fun h29 => ?_) (fun h29 => ?_)
    · refine sxc_seq ?_
      refine sxc_region ?_
      refine sxo_build (cells := [.int .i64 0, .slice none 0 0]) rfl st31 rfl (by kernel_rfl) rfl ?_
      refine sxo_move rfl rfl rfl ?_
      refine sxo_storeB (i := 0) rfl rfl rfl tf31 rfl rfl rfl rfl rfl ?_
      refine sxo_assign rfl rfl rfl ?_
      refine sxo_nil ?_
      refine sxq_next ?_
      refine sxc_ret ?_
      refine sxq_thenR ?_
      refine sxq_nilrow Int (eI .u8) 5 1 ?_
      exact sxq_doneP (none, 0) (.inl rfl) (resL (rs := [.cell 6 31, .tmp 7]) rfl (.cell (i := 0) rfl tf31 rfl rfl (by simp) rfl (.tmp rfl ResOk.nil)) rfl) (fun h => by subst h; rfl) (fun h => by subst h; exact (.cons 0 rfl .nil))
    · refine sxc_skip ?_
      refine sxq_next ?_
      refine sxc_seq ?_
      refine sxc_region ?_
      refine sxo_loadB (i := 1) rfl rfl tf31 rfl rfl (by simp) rfl rfl ?_
      refine sxo_move rfl rfl rfl ?_
      refine sxo_move rfl rfl rfl ?_
      refine sxo_call ent72 rfl rfl rfl (fun x26 e26 => C_bits_Add F x1 x2 a3 c4 x5 x6 x26 e26) (.consF 0 rfl .nil) (fun x26 e26 => ?_)
      rintro ⟨a27, c28⟩
      refine sxo_storeB (i := 0) rfl rfl rfl tf31 rfl rfl rfl rfl rfl ?_
      refine sxo_assign rfl rfl rfl ?_
      refine sxo_nil ?_
      refine sxq_next ?_
      refine sxc_ret ?_
      exact sxq_doneP (a27, c28) (.inl rfl) (resL (rs := [.cell 6 31, .tmp 7]) rfl (.cell (i := 0) rfl tf31 rfl rfl (by simp) rfl (.tmp rfl ResOk.nil)) rfl) (fun h => by subst h; rfl) (fun h => by subst h; exact (.cons 0 rfl .nil))

theorem C_bits_Get (F : Nat) (x1 : Int) (x2 : List Int) (a3 : Option Addr) (c4 : Nat) (x5 : Int) (x6 : Int) (r : (Int × Int)) (hm : M_bits_Get F x1 x2 x5 x6 = some r) :
    Pure Try.prog 55 [.agg #[.int .i64 x1, .slice a3 x2.length c4], .int .i64 x5, .int .i64 x6] [Sl (eI .u8) 1 (.slice a3 x2.length c4) x2] Unit (fun _ => .tuple #[.int .u64 r.1, .int .i64 r.2]) (fun _ => []) (fun _ => []) := by
  refine pure_of Try.func55 rfl Try.ntmps55 rfl hm (fun w => ?_)
  refine sxc_env (l' := [(0, .agg #[.int .i64 x1, .slice a3 x2.length c4]), (1, .int .i64 x5), (2, .int .i64 x6)]) rfl ?_
  refine sxc_seq ?_
  refine sxc_region ?_
  refine sxo_box rfl rfl rfl (fun g7 => ?_)
  refine sxo_assign rfl rfl rfl ?_
  refine sxo_assign rfl rfl rfl ?_
  refine sxo_nil ?_
  refine sxq_next ?_
  refine sxc_seq ?_
  refine sxc_region ?_
  refine sxo_loadB (i := 0) rfl rfl tf31 rfl rfl (by simp) rfl rfl ?_
  refine sxo_call ent57 rfl rfl rfl (fun x8 e8 => C_bits_Check F x1 x2 a3 c4 x8 e8) (.consF 0 rfl .nil) (fun x8 e8 => ?_)
  intro _
  refine sxo_assign rfl rfl rfl ?_
  refine sxo_nil ?_
  refine sxq_next ?_
  refine sxc_join (fun ((x18, _) : (Int × Unit)) => [(1, .int .i64 x5), (2, .int .i64 x6), (3, .pointer (some ⟨g7, 0, none⟩)), (8, .int .i64 x18)]) (fun ((x18, _) : (Int × Unit)) => [⟨g7, 31, [.int .i64 x1, .slice a3 x2.length c4]⟩]) (fun ((x18, _) : (Int × Unit)) => []) (fun ((x18, _) : (Int × Unit)) => [Sl (eI .u8) 1 (.slice a3 x2.length c4) x2]) (fun ((x18, _) : (Int × Unit)) => M_bits_Get_j2 F x1 x2 x5 x6 x18) ?_ ?_
  · refine sxc_seq ?_
    refine sxc_region ?_
    refine sxo_move rfl rfl rfl ?_
    refine sxo_eql rfl rfl rfl rfl ?_
    refine sxo_move rfl rfl rfl ?_
    refine sxo_join 17 (fun ((x28, _) : (Bool × Unit)) => [(1, .int .i64 x5), (2, .int .i64 x6), (3, .pointer (some ⟨g7, 0, none⟩)), (8, .int .i64 x8), (32, .bool x28)]) (fun ((x28, _) : (Bool × Unit)) => [⟨g7, 31, [.int .i64 x1, .slice a3 x2.length c4]⟩]) (fun ((x28, _) : (Bool × Unit)) => []) (fun ((x28, _) : (Bool × Unit)) => [Sl (eI .u8) 1 (.slice a3 x2.length c4) x2]) (fun ((x28, _) : (Bool × Unit)) => M_bits_Get_j3 F x1 x2 x5 x6 x8 x28) ?_ ?_
    · refine sxo_take (os := _) rfl ?_
      refine sxo_if (fun h24 => ?_) (fun h24 => ?_)
      · refine sxo_isT (k := 15) rfl h24 ?_
        refine sxo_move rfl rfl rfl ?_
        refine sxo_lss rfl rfl rfl rfl ?_
        refine sxo_move rfl rfl rfl ?_
        refine sxo_case 3 (decide (x6 < 0)) [(1, .int .i64 x5), (2, .int .i64 x6), (3, .pointer (some ⟨g7, 0, none⟩)), (8, .int .i64 x8), (15, .bool true), (21, .bool ((decide (x6 < 0)) || (decide (64 < x6))))] (fun h30 => ?_) (fun h30 => ?_) ?_
        · refine sxo_take (os := _) rfl ?_
          refine sxo_isT (k := 18) rfl h30 ?_
          refine sxo_skip rfl rfl rfl ?_
          refine sxo_skip rfl rfl rfl ?_
          refine sxo_pick (b := true) rfl rfl rfl rfl ?_
          refine sxo_again (d := 21) (v := .bool ((decide (x6 < 0)) || (decide (64 < x6)))) rfl (by rw [h30]; simp only [Bool.true_or]) ?_
          refine sxo_nil ?_
          exact sxq_case (lk_cons rfl (lk_cons rfl (lk_cons rfl (lk_cons rfl (lk_cons rfl (lk_cons rfl lk_nil))))))
        · refine sxo_take (os := _) rfl ?_
          refine sxo_isF (k := 18) rfl h30 ?_
          refine sxo_move rfl rfl rfl ?_
          refine sxo_gtr rfl rfl rfl rfl ?_
          refine sxo_pick (b := false) rfl rfl rfl rfl ?_
          refine sxo_again (d := 21) (v := .bool ((decide (x6 < 0)) || (decide (64 < x6)))) rfl (by rw [h30]; simp only [Bool.false_or]) ?_
          refine sxo_nil ?_
          exact sxq_case (lk_cons rfl (lk_cons rfl (lk_cons rfl (lk_cons rfl (lk_cons rfl (lk_cons rfl lk_nil))))))
        refine sxo_take (os := _) rfl ?_
        refine sxo_move rfl rfl rfl ?_
        refine sxo_case 3 ((decide (x6 < 0)) || (decide (64 < x6))) [(1, .int .i64 x5), (2, .int .i64 x6), (3, .pointer (some ⟨g7, 0, none⟩)), (8, .int .i64 x8), (15, .bool true), (25, .bool (((decide (x6 < 0)) || (decide (64 < x6))) || (decide (x5 < 0))))] (fun h31 => ?_) (fun h31 => ?_) ?_
        · refine sxo_take (os := _) rfl ?_
          refine sxo_isT (k := 22) rfl h31 ?_
          refine sxo_skip rfl rfl rfl ?_
          refine sxo_skip rfl rfl rfl ?_
          refine sxo_pick (b := true) rfl rfl rfl rfl ?_
          refine sxo_again (d := 25) (v := .bool (((decide (x6 < 0)) || (decide (64 < x6))) || (decide (x5 < 0)))) rfl (by rw [h31]; simp only [Bool.true_or]) ?_
          refine sxo_nil ?_
          exact sxq_case (lk_cons rfl (lk_cons rfl (lk_cons rfl (lk_cons rfl (lk_cons rfl (lk_cons rfl lk_nil))))))
        · refine sxo_take (os := _) rfl ?_
          refine sxo_isF (k := 22) rfl h31 ?_
          refine sxo_move rfl rfl rfl ?_
          refine sxo_lss rfl rfl rfl rfl ?_
          refine sxo_pick (b := false) rfl rfl rfl rfl ?_
          refine sxo_again (d := 25) (v := .bool (((decide (x6 < 0)) || (decide (64 < x6))) || (decide (x5 < 0)))) rfl (by rw [h31]; simp only [Bool.false_or]) ?_
          refine sxo_nil ?_
          exact sxq_case (lk_cons rfl (lk_cons rfl (lk_cons rfl (lk_cons rfl (lk_cons rfl (lk_cons rfl lk_nil))))))
        refine sxo_take (os := _) rfl ?_
        refine sxo_move rfl rfl rfl ?_
        refine sxo_case 5 (((decide (x6 < 0)) || (decide (64 < x6))) || (decide (x5 < 0))) [(1, .int .i64 x5), (2, .int .i64 x6), (3, .pointer (some ⟨g7, 0, none⟩)), (8, .int .i64 x8), (15, .bool true), (31, .bool ((((decide (x6 < 0)) || (decide (64 < x6))) || (decide (x5 < 0))) || (decide (x1 < x5))))] (fun h32 => ?_) (fun h32 => ?_) ?_
        · refine sxo_take (os := _) rfl ?_
          refine sxo_isT (k := 26) rfl h32 ?_
          refine sxo_skip rfl rfl rfl ?_
          refine sxo_skip rfl rfl rfl ?_
          refine sxo_skip rfl rfl rfl ?_
          refine sxo_skip rfl rfl rfl ?_
          refine sxo_pick (b := true) rfl rfl rfl rfl ?_
          refine sxo_again (d := 31) (v := .bool ((((decide (x6 < 0)) || (decide (64 < x6))) || (decide (x5 < 0))) || (decide (x1 < x5)))) rfl (by rw [h32]; simp only [Bool.true_or]) ?_
          refine sxo_nil ?_
          exact sxq_case (lk_cons rfl (lk_cons rfl (lk_cons rfl (lk_cons rfl (lk_cons rfl (lk_cons rfl lk_nil))))))
        · refine sxo_take (os := _) rfl ?_
          refine sxo_isF (k := 26) rfl h32 ?_
          refine sxo_move rfl rfl rfl ?_
          refine sxo_fieldAddr rfl rfl ff31_0 rfl ?_
          refine sxo_loadB (i := 0) rfl rfl tf3 rfl rfl (fun _ => rfl) rfl rfl ?_
          refine sxo_gtr rfl rfl rfl rfl ?_
          refine sxo_pick (b := false) rfl rfl rfl rfl ?_
          refine sxo_again (d := 31) (v := .bool ((((decide (x6 < 0)) || (decide (64 < x6))) || (decide (x5 < 0))) || (decide (x1 < x5)))) rfl (by rw [h32]; simp only [Bool.false_or]) ?_
          refine sxo_nil ?_
          exact sxq_case (lk_cons rfl (lk_cons rfl (lk_cons rfl (lk_cons rfl (lk_cons rfl (lk_cons rfl lk_nil))))))
        refine sxo_take (os := _) rfl ?_
        refine sxo_pick (b := true) rfl rfl rfl rfl ?_
        refine sxo_nil ?_
        exact sxq_meetP (((((decide (x6 < 0)) || (decide (64 < x6))) || (decide (x5 < 0))) || (decide (x1 < x5))), ()) (lk_cons rfl (lk_cons rfl (lk_cons rfl (lk_cons rfl (lk_cons rfl lk_nil))))) (.cons 0 rfl .nil) .nil (fk_cons 0 rfl fk_nil)
      · refine sxo_isF (k := 15) rfl h24 ?_
        refine sxo_skip rfl rfl rfl ?_
        refine sxo_skip rfl rfl rfl ?_
        refine sxo_skip rfl rfl rfl ?_
        refine sxo_skip rfl rfl rfl ?_
        refine sxo_skip rfl rfl rfl ?_
        refine sxo_skip rfl rfl rfl ?_
        refine sxo_skip rfl rfl rfl ?_
        refine sxo_skip rfl rfl rfl ?_
        refine sxo_skip rfl rfl rfl ?_
        refine sxo_skip rfl rfl rfl ?_
        refine sxo_skip rfl rfl rfl ?_
        refine sxo_skip rfl rfl rfl ?_
        refine sxo_skip rfl rfl rfl ?_
        refine sxo_skip rfl rfl rfl ?_
        refine sxo_skip rfl rfl rfl ?_
        refine sxo_skip rfl rfl rfl ?_
        refine sxo_pick (b := false) rfl rfl rfl rfl ?_
        refine sxo_nil ?_
        exact sxq_meetP (false, ()) (lk_cons rfl (lk_cons rfl (lk_cons rfl (lk_cons rfl (lk_cons rfl lk_nil))))) (.cons 0 rfl .nil) .nil (fk_cons 0 rfl fk_nil)
    · rintro ⟨x28, _⟩
      try dsimp only
      refine sxo_take (os := _) rfl ?_
      refine sxo_nil ?_
      refine sxq_next ?_
      refine sxc_if rfl (fun h29 => ?_) (fun h29 => ?_)
      · refine sxc_region ?_
        refine sxo_assign rfl rfl rfl ?_
        refine sxo_nil ?_
        exact sxq_meetP (3, ()) (lk_cons rfl (lk_cons rfl (lk_cons rfl (lk_cons rfl lk_nil)))) (.cons 0 rfl .nil) .nil (fk_cons 0 rfl fk_nil)
      · refine sxc_skip ?_
        exact sxq_meetP (x8, ()) (lk_cons rfl (lk_cons rfl (lk_cons rfl (lk_cons rfl lk_nil)))) (.cons 0 rfl .nil) .nil (fk_cons 0 rfl fk_nil)
  · rintro ⟨x18, _⟩
    try dsimp only
    refine sxc_seq ?_
    refine sxc_seq ?_
    refine sxc_region ?_
    refine sxo_move rfl rfl rfl ?_
    refine sxo_neq rfl rfl rfl rfl ?_
    refine sxo_nil ?_
    refine sxq_next ?_
    refine sxc_if rfl (fun h23 => ?_) (fun h23 => ?_)
    · refine sxc_seq ?_
      refine sxc_region ?_
      refine sxo_move rfl rfl rfl ?_
      refine sxo_assign rfl rfl rfl ?_
      refine sxo_assign rfl rfl rfl ?_
      refine sxo_nil ?_
      refine sxq_next ?_
      refine sxc_ret ?_
      refine sxq_thenR ?_
      exact sxq_doneP () (.inl rfl) (res2 rfl rfl rfl) (fun h => by subst h; rfl) (fun h => by subst h; exact .nil)
    · refine sxc_skip ?_
      refine sxq_next ?_
      refine sxc_seq ?_
      refine sxc_region ?_
      refine sxo_loadB (i := 0) rfl rfl tf31 rfl rfl (by simp) rfl rfl ?_
      refine sxo_move rfl rfl rfl ?_
      refine sxo_move rfl rfl rfl ?_
      refine sxo_call ent73 rfl rfl rfl (fun x20 e20 => C_bits_Read F x1 x2 a3 c4 x5 x6 x20 e20) (.consF 0 rfl .nil) (fun x20 e20 => ?_)
      intro _
      refine sxo_move rfl rfl rfl ?_
      refine sxo_extract rfl rfl rfl rfl ?_
      refine sxo_extract rfl rfl rfl rfl ?_
      refine sxo_assign rfl rfl rfl ?_
      refine sxo_assign rfl rfl rfl ?_
      refine sxo_nil ?_
      refine sxq_next ?_
      refine sxc_seq ?_
      refine sxc_seq ?_
      refine sxc_region ?_
      refine sxo_move rfl rfl rfl ?_
      refine sxo_not rfl rfl rfl ?_
      refine sxo_nil ?_
      refine sxq_next ?_
      refine sxc_if rfl (fun h22 => ?_) (fun h22 => ?_)
      · refine sxc_seq ?_
        refine sxc_region ?_
        refine sxo_assign rfl rfl rfl ?_
        refine sxo_assign rfl rfl rfl ?_
        refine sxo_nil ?_
        refine sxq_next ?_
        refine sxc_ret ?_
        refine sxq_thenR ?_
        exact sxq_doneP () (.inl rfl) (res2 rfl rfl rfl) (fun h => by subst h; rfl) (fun h => by subst h; exact .nil)
      · refine sxc_skip ?_
        refine sxq_next ?_
        refine sxc_seq ?_
        refine sxc_region ?_
        refine sxo_move rfl rfl rfl ?_
        refine sxo_assign rfl rfl rfl ?_
        refine sxo_assign rfl rfl rfl ?_
        refine sxo_nil ?_
        refine sxq_next ?_
        refine sxc_ret ?_
        exact sxq_doneP () (.inl rfl) (res2 rfl rfl rfl) (fun h => by subst h; rfl) (fun h => by subst h; exact .nil)

set_option maxHeartbeats 4000000 in
theorem C_bits_Cut (F : Nat) (x1 : Int) (x2 : List Int) (a3 : Option Addr) (c4 : Nat) (x5 : Int) (x6 : Int) (r : (Int × List Int × Int)) (hm : M_bits_Cut F x1 x2 x5 x6 = some r) :
    PureM Try.prog 56 [.agg #[.int .i64 x1, .slice a3 x2.length c4], .int .i64 x5, .int .i64 x6] [] [] [Sl (eI .u8) 1 (.slice a3 x2.length c4) x2] (Option Addr × Nat) (fun g => .tuple #[.agg #[.int .i64 r.1, .slice g.1 r.2.1.length g.2], .int .i64 r.2.2]) (fun _ => []) (fun g => [Ro (eI .u8) 5 1 (.slice g.1 r.2.1.length g.2) r.2.1]) := by
  refine pureX_of Try.func56 rfl Try.ntmps56 rfl hm (fun w => ?_)
  refine sxc_env (l' := [(0, .agg #[.int .i64 x1, .slice a3 x2.length c4]), (1, .int .i64 x5), (2, .int .i64 x6)]) rfl ?_
  refine sxc_seq ?_
  refine sxc_region ?_
  refine sxo_box rfl rfl rfl (fun g7 => ?_)
  refine sxo_alloc rfl tf31 rfl (fun g8 => ?_)
  refine sxo_assign rfl rfl rfl ?_
  refine sxo_nil ?_
  refine sxq_next ?_
  refine sxc_seq ?_
  refine sxc_region ?_
  refine sxo_loadB (i := 1) rfl rfl tf31 rfl rfl (by simp) rfl rfl ?_
  refine sxo_call ent57 rfl rfl rfl (fun x9 e9 => C_bits_Check F x1 x2 a3 c4 x9 e9) (.consF 0 rfl .nil) (fun x9 e9 => ?_)
  intro _
  refine sxo_assign rfl rfl rfl ?_
  refine sxo_nil ?_
  refine sxq_next ?_
  refine sxc_join (fun ((x19, _) : (Int × Unit)) => [(1, .int .i64 x5), (2, .int .i64 x6), (3, .pointer (some ⟨g7, 0, none⟩)), (6, .pointer (some ⟨g8, 0, none⟩)), (7, .int .i64 0), (8, .int .i64 x19)]) (fun ((x19, _) : (Int × Unit)) => [⟨g8, 31, [.int .i64 0, .slice none 0 0]⟩, ⟨g7, 31, [.int .i64 x1, .slice a3 x2.length c4]⟩]) (fun ((x19, _) : (Int × Unit)) => []) (fun ((x19, _) : (Int × Unit)) => [Sl (eI .u8) 1 (.slice a3 x2.length c4) x2]) (fun ((x19, _) : (Int × Unit)) => M_bits_Cut_j2 F x1 x2 x5 x6 x19) ?_ ?_
  · refine sxc_seq ?_
    refine sxc_region ?_
    refine sxo_move rfl rfl rfl ?_
    refine sxo_eql rfl rfl rfl rfl ?_
    refine sxo_move rfl rfl rfl ?_
    refine sxo_join 20 (fun ((x68, _) : (Bool × Unit)) => [(1, .int .i64 x5), (2, .int .i64 x6), (3, .pointer (some ⟨g7, 0, none⟩)), (6, .pointer (some ⟨g8, 0, none⟩)), (7, .int .i64 0), (8, .int .i64 x9), (35, .bool x68)]) (fun ((x68, _) : (Bool × Unit)) => [⟨g8, 31, [.int .i64 0, .slice none 0 0]⟩, ⟨g7, 31, [.int .i64 x1, .slice a3 x2.length c4]⟩]) (fun ((x68, _) : (Bool × Unit)) => []) (fun ((x68, _) : (Bool × Unit)) => [Sl (eI .u8) 1 (.slice a3 x2.length c4) x2]) (fun ((x68, _) : (Bool × Unit)) => M_bits_Cut_j5 F x1 x2 x5 x6 x9 x68) ?_ ?_
    · refine sxo_take (os := _) rfl ?_
      refine sxo_if (fun h64 => ?_) (fun h64 => ?_)
      · refine sxo_isT (k := 15) rfl h64 ?_
        refine sxo_move rfl rfl rfl ?_
        refine sxo_lss rfl rfl rfl rfl ?_
        refine sxo_move rfl rfl rfl ?_
        refine sxo_case 5 (decide (x5 < 0)) [(1, .int .i64 x5), (2, .int .i64 x6), (3, .pointer (some ⟨g7, 0, none⟩)), (6, .pointer (some ⟨g8, 0, none⟩)), (7, .int .i64 0), (8, .int .i64 x9), (15, .bool true), (23, .bool ((decide (x5 < 0)) || (decide (x1 < x5))))] (fun h70 => ?_) (fun h70 => ?_) ?_
        · refine sxo_take (os := _) rfl ?_
          refine sxo_isT (k := 18) rfl h70 ?_
          refine sxo_skip rfl rfl rfl ?_
          refine sxo_skip rfl rfl rfl ?_
          refine sxo_skip rfl rfl rfl ?_
          refine sxo_skip rfl rfl rfl ?_
          refine sxo_pick (b := true) rfl rfl rfl rfl ?_
          refine sxo_again (d := 23) (v := .bool ((decide (x5 < 0)) || (decide (x1 < x5)))) rfl (by rw [h70]; simp only [Bool.true_or]) ?_
          refine sxo_nil ?_
          exact sxq_case (lk_cons rfl (lk_cons rfl (lk_cons rfl (lk_cons rfl (lk_cons rfl (lk_cons rfl (lk_cons rfl (lk_cons rfl lk_nil))))))))
        · refine sxo_take (os := _) rfl ?_
          refine sxo_isF (k := 18) rfl h70 ?_
          refine sxo_move rfl rfl rfl ?_
          refine sxo_fieldAddr rfl rfl ff31_0 rfl ?_
          refine sxo_loadB (i := 1) rfl rfl tf3 rfl rfl (fun _ => rfl) rfl rfl ?_
          refine sxo_gtr rfl rfl rfl rfl ?_
          refine sxo_pick (b := false) rfl rfl rfl rfl ?_
          refine sxo_again (d := 23) (v := .bool ((decide (x5 < 0)) || (decide (x1 < x5)))) rfl (by rw [h70]; simp only [Bool.false_or]) ?_
          refine sxo_nil ?_
          exact sxq_case (lk_cons rfl (lk_cons rfl (lk_cons rfl (lk_cons rfl (lk_cons rfl (lk_cons rfl (lk_cons rfl (lk_cons rfl lk_nil))))))))
        refine sxo_take (os := _) rfl ?_
        refine sxo_move rfl rfl rfl ?_
        refine sxo_case 4 ((decide (x5 < 0)) || (decide (x1 < x5))) [(1, .int .i64 x5), (2, .int .i64 x6), (3, .pointer (some ⟨g7, 0, none⟩)), (6, .pointer (some ⟨g8, 0, none⟩)), (7, .int .i64 0), (8, .int .i64 x9), (15, .bool true), (28, .bool (((decide (x5 < 0)) || (decide (x1 < x5))) || (decide (x6 < x5))))] (fun h71 => ?_) (fun h71 => ?_) ?_
        · refine sxo_take (os := _) rfl ?_
          refine sxo_isT (k := 24) rfl h71 ?_
          refine sxo_skip rfl rfl rfl ?_
          refine sxo_skip rfl rfl rfl ?_
          refine sxo_skip rfl rfl rfl ?_
          refine sxo_pick (b := true) rfl rfl rfl rfl ?_
          refine sxo_again (d := 28) (v := .bool (((decide (x5 < 0)) || (decide (x1 < x5))) || (decide (x6 < x5)))) rfl (by rw [h71]; simp only [Bool.true_or]) ?_
          refine sxo_nil ?_
          exact sxq_case (lk_cons rfl (lk_cons rfl (lk_cons rfl (lk_cons rfl (lk_cons rfl (lk_cons rfl (lk_cons rfl (lk_cons rfl lk_nil))))))))
        · refine sxo_take (os := _) rfl ?_
          refine sxo_isF (k := 24) rfl h71 ?_
          refine sxo_move rfl rfl rfl ?_
          refine sxo_move rfl rfl rfl ?_
          refine sxo_lss rfl rfl rfl rfl ?_
          refine sxo_pick (b := false) rfl rfl rfl rfl ?_
          refine sxo_again (d := 28) (v := .bool (((decide (x5 < 0)) || (decide (x1 < x5))) || (decide (x6 < x5)))) rfl (by rw [h71]; simp only [Bool.false_or]) ?_
          refine sxo_nil ?_
          exact sxq_case (lk_cons rfl (lk_cons rfl (lk_cons rfl (lk_cons rfl (lk_cons rfl (lk_cons rfl (lk_cons rfl (lk_cons rfl lk_nil))))))))
        refine sxo_take (os := _) rfl ?_
        refine sxo_move rfl rfl rfl ?_
        refine sxo_case 5 (((decide (x5 < 0)) || (decide (x1 < x5))) || (decide (x6 < x5))) [(1, .int .i64 x5), (2, .int .i64 x6), (3, .pointer (some ⟨g7, 0, none⟩)), (6, .pointer (some ⟨g8, 0, none⟩)), (7, .int .i64 0), (8, .int .i64 x9), (15, .bool true), (34, .bool ((((decide (x5 < 0)) || (decide (x1 < x5))) || (decide (x6 < x5))) || (decide (x1 < x6))))] (fun h72 => ?_) (fun h72 => ?_) ?_
        · refine sxo_take (os := _) rfl ?_
          refine sxo_isT (k := 29) rfl h72 ?_
          refine sxo_skip rfl rfl rfl ?_
          refine sxo_skip rfl rfl rfl ?_
          refine sxo_skip rfl rfl rfl ?_
          refine sxo_skip rfl rfl rfl ?_
          refine sxo_pick (b := true) rfl rfl rfl rfl ?_
          refine sxo_again (d := 34) (v := .bool ((((decide (x5 < 0)) || (decide (x1 < x5))) || (decide (x6 < x5))) || (decide (x1 < x6)))) rfl (by rw [h72]; simp only [Bool.true_or]) ?_
          refine sxo_nil ?_
          exact sxq_case (lk_cons rfl (lk_cons rfl (lk_cons rfl (lk_cons rfl (lk_cons rfl (lk_cons rfl (lk_cons rfl (lk_cons rfl lk_nil))))))))
        · refine sxo_take (os := _) rfl ?_
          refine sxo_isF (k := 29) rfl h72 ?_
          refine sxo_move rfl rfl rfl ?_
          refine sxo_fieldAddr rfl rfl ff31_0 rfl ?_
          refine sxo_loadB (i := 1) rfl rfl tf3 rfl rfl (fun _ => rfl) rfl rfl ?_
          refine sxo_gtr rfl rfl rfl rfl ?_
          refine sxo_pick (b := false) rfl rfl rfl rfl ?_
          refine sxo_again (d := 34) (v := .bool ((((decide (x5 < 0)) || (decide (x1 < x5))) || (decide (x6 < x5))) || (decide (x1 < x6)))) rfl (by rw [h72]; simp only [Bool.false_or]) ?_
          refine sxo_nil ?_
          exact sxq_case (lk_cons rfl (lk_cons rfl (lk_cons rfl (lk_cons rfl (lk_cons rfl (lk_cons rfl (lk_cons rfl (lk_cons rfl lk_nil))))))))
        refine sxo_take (os := _) rfl ?_
        refine sxo_pick (b := true) rfl rfl rfl rfl ?_
        refine sxo_nil ?_
        exact sxq_meetP (((((decide (x5 < 0)) || (decide (x1 < x5))) || (decide (x6 < x5))) || (decide (x1 < x6))), ()) (lk_cons rfl (lk_cons rfl (lk_cons rfl (lk_cons rfl (lk_cons rfl (lk_cons rfl (lk_cons rfl lk_nil))))))) (.cons 0 rfl (.cons 0 rfl .nil)) .nil (fk_cons 0 rfl fk_nil)
      · refine sxo_isF (k := 15) rfl h64 ?_
        refine sxo_skip rfl rfl rfl ?_
        refine sxo_skip rfl rfl rfl ?_
        refine sxo_skip rfl rfl rfl ?_
        refine sxo_skip rfl rfl rfl ?_
        refine sxo_skip rfl rfl rfl ?_
        refine sxo_skip rfl rfl rfl ?_
        refine sxo_skip rfl rfl rfl ?_
        refine sxo_skip rfl rfl rfl ?_
        refine sxo_skip rfl rfl rfl ?_
        refine sxo_skip rfl rfl rfl ?_
        refine sxo_skip rfl rfl rfl ?_
        refine sxo_skip rfl rfl rfl ?_
        refine sxo_skip rfl rfl rfl ?_
        refine sxo_skip rfl rfl rfl ?_
        refine sxo_skip rfl rfl rfl ?_
        refine sxo_skip rfl rfl rfl ?_
        refine sxo_skip rfl rfl rfl ?_
        refine sxo_skip rfl rfl rfl ?_
        refine sxo_skip rfl rfl rfl ?_
        refine sxo_pick (b := false) rfl rfl rfl rfl ?_
        refine sxo_nil ?_
        exact sxq_meetP (false, ()) (lk_cons rfl (lk_cons rfl (lk_cons rfl (lk_cons rfl (lk_cons rfl (lk_cons rfl (lk_cons rfl lk_nil))))))) (.cons 0 rfl (.cons 0 rfl .nil)) .nil (fk_cons 0 rfl fk_nil)
    · rintro ⟨x68, _⟩
      try dsimp only
      refine sxo_take (os := _) rfl ?_
      refine sxo_nil ?_
      refine sxq_next ?_
      refine sxc_if rfl (fun h69 => ?_) (fun h69 => ?_)
      · refine sxc_region ?_
        refine sxo_assign rfl rfl rfl ?_
        refine sxo_nil ?_
        exact sxq_meetP (3, ()) (lk_cons rfl (lk_cons rfl (lk_cons rfl (lk_cons rfl (lk_cons rfl (lk_cons rfl lk_nil)))))) (.cons 0 rfl (.cons 0 rfl .nil)) .nil (fk_cons 0 rfl fk_nil)
      · refine sxc_skip ?_
        exact sxq_meetP (x9, ()) (lk_cons rfl (lk_cons rfl (lk_cons rfl (lk_cons rfl (lk_cons rfl (lk_cons rfl lk_nil)))))) (.cons 0 rfl (.cons 0 rfl .nil)) .nil (fk_cons 0 rfl fk_nil)
  · rintro ⟨x19, _⟩
    try dsimp only
    refine sxc_seq ?_
    refine sxc_seq ?_
    refine sxc_region ?_
    refine sxo_move rfl rfl rfl ?_
    refine sxo_neq rfl rfl rfl rfl ?_
    refine sxo_nil ?_
    refine sxq_next ?_
    refine sxc_if rfl (fun h63 => ?_) (fun h63 => ?_)
    · refine sxc_seq ?_
      refine sxc_region ?_
      refine sxo_build (cells := [.int .i64 0, .slice none 0 0]) rfl st31 rfl (by kernel_rfl) rfl ?_
      refine sxo_move rfl rfl rfl ?_
      refine sxo_storeB (i := 0) rfl rfl rfl tf31 rfl rfl rfl rfl rfl ?_
      refine sxo_assign rfl rfl rfl ?_
      refine sxo_nil ?_
      refine sxq_next ?_
      refine sxc_ret ?_
      refine sxq_thenR ?_
      refine sxq_nilrow Int (eI .u8) 5 1 ?_
      exact sxq_doneX [] (none, 0) (.inl rfl) rfl .nil (resL (rs := [.cell 6 31, .tmp 7]) rfl (.cell (i := 0) rfl tf31 rfl rfl (by simp) rfl (.tmp rfl ResOk.nil)) rfl) (fun h => by subst h; rfl) (fun h => by subst h; exact .nil) (fun h => by subst h; exact (.cons 0 rfl .nil))
    · refine sxc_skip ?_
      refine sxq_next ?_
      refine sxc_seq ?_
      refine sxc_region ?_
      refine sxo_build (cells := [.int .i64 0, .slice none 0 0]) rfl st101 rfl (by kernel_rfl) rfl ?_
      refine sxo_box rfl rfl rfl (fun g21 => ?_)
      refine sxo_alloc rfl tf99 rfl (fun g22 => ?_)
      refine sxo_storeB (i := 0) rfl rfl rfl tf99 rfl rfl rfl rfl rfl ?_
      refine sxo_nil ?_
      refine sxq_next ?_
      refine sxc_seq ?_
      refine sxc_seq ?_
      refine sxc_region ?_
      refine sxo_loadB (i := 3) rfl rfl tf31 rfl rfl (by simp) rfl rfl ?_
      refine sxo_move rfl rfl rfl ?_
      refine sxo_move rfl rfl rfl ?_
      refine sxo_callM ent74 rfl rfl rfl (fun x43 e43 => C_bits_places F x1 x2 a3 c4 x5 x6 x43 e43) .nil .nil (.consF 0 rfl .nil) (fun x43 e43 => ?_)
      rintro ⟨g44, g45, g46⟩
      refine sxo_nil ?_
      refine sxq_next ?_
      refine sxc_block ?_
      refine sxc_nilrow Int (eI .u8) 5 1 ?_
      refine sxc_range (encs := (fun (p : Int) => [.int .u64 p])) (y := (fun ((x51, x54) : (Int × List Int)) (x59 : Int) => M_bits_Cut_r4 F x51 x54 x59)) (lb := [.pointer (some ⟨g44, 0, none⟩), .pointer (some ⟨g45, 0, none⟩), .pointer (some ⟨g46, 0, none⟩)]) (fun ((x51, x54) : (Int × List Int)) ((a52, c53) : (Option Addr × Nat)) => [⟨g22, 99, [.pointer (some ⟨g21, 0, none⟩)]⟩, ⟨g21, 101, [.int .i64 x51, .slice a52 x54.length c53]⟩, ⟨g8, 31, [.int .i64 0, .slice none 0 0]⟩, ⟨g7, 31, [.int .i64 x1, .slice a3 x2.length c4]⟩]) (fun ((x51, x54) : (Int × List Int)) ((a52, c53) : (Option Addr × Nat)) => [Ro (eI .u8) 5 1 (.slice a52 x54.length c53) x54]) (fun (_ : Empty) (_ : Unit) => []) (fun (_ : Empty) (_ : Unit) => []) (fun _ => .skip) (0, ([] : List Int)) (none, 0) rfl ent96 (fun _ => rfl) rfl (.cons 0 rfl (.cons 0 rfl (.cons 0 rfl .nil))) (.cons 0 rfl (.cons 0 rfl (.cons 0 rfl (.cons 0 rfl .nil)))) (.cons 0 rfl .nil) (.consF 0 rfl .nil) (fun z hz _ _ _ hY => C_bits_places_1 F hY (0, ([] : List Int)) (none, 0) g44 x5 g45 x6 g46 x1 x2 a3 c4 z hz) ?_ ?_ ?_
      · rintro rc4 L4 D4 ⟨x51, x54⟩ ⟨a52, c53⟩ x59 z w M _
        try dsimp only
        refine sxc_less [(1, .int .i64 x5), (2, .int .i64 x6), (3, .pointer (some ⟨g7, 0, none⟩)), (6, .pointer (some ⟨g8, 0, none⟩)), (7, .int .i64 0), (8, .int .i64 x19), (9, .pointer (some ⟨g22, 0, none⟩)), (36, .int .i64 x19), (37, .bool ((x19 : Int) != 0)), (40, .agg #[.int .i64 0, .slice none 0 0]), (41, .pointer (some ⟨g21, 0, none⟩)), (42, .agg #[.int .i64 x1, .slice a3 x2.length c4]), (43, .int .i64 x5), (44, .int .i64 x6), (45, .func (.func 96) #[] #[.pointer (some ⟨g44, 0, none⟩), .pointer (some ⟨g45, 0, none⟩), .pointer (some ⟨g46, 0, none⟩)]), (46, .int .u64 x59)] (lk_cons rfl (lk_cons rfl (lk_cons rfl (lk_cons rfl (lk_cons rfl (lk_cons rfl (lk_cons rfl (lk_cons rfl (lk_cons rfl (lk_cons rfl (lk_cons rfl (lk_cons rfl (lk_cons rfl (lk_cons rfl (lk_cons rfl (lk_cons rfl lk_nil)))))))))))))))) ?_
        refine sxc_region ?_
        refine sxo_assign rfl rfl rfl ?_
        refine sxo_nil ?_
        refine sxq_begin (i := 4) rfl ?_
        refine sxc_block ?_
        refine sxc_region ?_
        refine sxo_loadB (i := 0) rfl rfl tf99 rfl rfl (fun _ => rfl) rfl rfl ?_
        refine sxo_move rfl rfl rfl ?_
        refine sxo_callM ent75 rfl rfl rfl (fun x60 e60 => C_bits_writer_bit F g21 x51 x54 a52 c53 x59 x60 e60) (.cons 1 rfl .nil) (.cons 0 rfl .nil) .nil (fun x60 e60 => ?_)
        rintro ⟨a61, c62⟩
        refine sxo_nil ?_
        refine sxq_blkN ?_
        exact sxq_round (rc := rc4) rfl (.cons 4 rfl .nil) rfl (a61, c62) (.cons 2 rfl (.cons 1 rfl (.cons 1 rfl (.cons 1 rfl (.cons 0 rfl (.cons 0 rfl .nil)))))) (.cons 0 rfl .nil)
      · rintro ⟨x51, x54⟩ _ ⟨a52, c53⟩ D4
        try dsimp only
        refine sxq_blkN ?_
        refine sxq_next ?_
        refine sxc_seq ?_
        refine sxc_region ?_
        refine sxo_loadB (i := 4) rfl rfl tf99 rfl rfl (fun _ => rfl) rfl rfl ?_
        refine sxo_nilCheck rfl rfl rfl ?_
        refine sxo_fieldAddr rfl rfl ff101_0 rfl ?_
        refine sxo_loadB (i := 5) rfl rfl tf31 rfl rfl (by simp) rfl rfl ?_
        refine sxo_storeB (i := 6) rfl rfl rfl tf31 rfl rfl rfl rfl rfl ?_
        refine sxo_assign rfl rfl rfl ?_
        refine sxo_nil ?_
        refine sxq_next ?_
        refine sxc_ret ?_
        exact sxq_doneX [D4] (a52, c53) (.inl rfl) rfl (.cons 0 rfl .nil) (resL (rs := [.cell 6 31, .tmp 7]) rfl (.cell (i := 5) rfl tf31 rfl rfl (by simp) rfl (.tmp rfl ResOk.nil)) rfl) (fun h => by subst h; rfl) (fun h => by subst h; exact .nil) (fun h => by subst h; exact (.cons 0 rfl .nil))
      · intro t; exact t.elim

set_option maxHeartbeats 4000000 in
theorem C_L_bitsBegun (F : Nat)  (r : Bool) (hm : M_L_bitsBegun F  = some r) :
    Pure Try.prog 29 [] [] Unit (fun _ => .bool r) (fun _ => []) (fun _ => []) := by
  refine pure_of Try.func29 rfl Try.ntmps29 rfl hm (fun w => ?_)
  refine sxc_env (l' := []) rfl ?_
  refine sxc_seq ?_
  refine sxc_region ?_
  refine sxo_assign rfl rfl rfl ?_
  refine sxo_nil ?_
  refine sxq_next ?_
  refine sxc_seq ?_
  refine sxc_region ?_
  refine sxo_build (cells := [.int .i64 0, .slice none 0 0]) rfl st31 rfl (by kernel_rfl) rfl ?_
  refine sxo_nilrow' Int (eI .u8) 5 1 ?_
  refine sxo_call ent54 rfl rfl rfl (fun x1 e1 => C_bits_Put F 0 ([] : List Int) none 0 5 3 x1 e1) (.consR 0 (Ro (eI .u8) 5 1 (.slice none ([] : List Int).length 0) ([] : List Int)) rfl .nil) (fun x1 e1 => ?_)
  rintro ⟨a2, c3⟩
  refine sxo_move rfl rfl rfl ?_
  refine sxo_extract rfl rfl rfl rfl ?_
  refine sxo_extract rfl rfl rfl rfl ?_
  refine sxo_alloc rfl tf31 rfl (fun g4 => ?_)
  refine sxo_storeB (i := 0) rfl rfl rfl tf31 rfl rfl rfl rfl rfl ?_
  refine sxo_assign rfl rfl rfl ?_
  refine sxo_nil ?_
  refine sxq_next ?_
  refine sxc_seq ?_
  refine sxc_region ?_
  refine sxo_loadB (i := 0) rfl rfl tf31 rfl rfl (by simp) rfl rfl ?_
  refine sxo_call ent54 rfl rfl rfl (fun x5 e5 => C_bits_Put F x1.1 x1.2.1 a2 c3 9 7 x5 e5) (.consR 0 (Ro (eI .u8) 5 1 (.slice a2 x1.2.1.length c3) x1.2.1) rfl .nil) (fun x5 e5 => ?_)
  rintro ⟨a6, c7⟩
  refine sxo_move rfl rfl rfl ?_
  refine sxo_extract rfl rfl rfl rfl ?_
  refine sxo_extract rfl rfl rfl rfl ?_
  refine sxo_alloc rfl tf31 rfl (fun g8 => ?_)
  refine sxo_storeB (i := 0) rfl rfl rfl tf31 rfl rfl rfl rfl rfl ?_
  refine sxo_assign rfl rfl rfl ?_
  refine sxo_nil ?_
  refine sxq_next ?_
  refine sxc_seq ?_
  refine sxc_region ?_
  refine sxo_loadB (i := 0) rfl rfl tf31 rfl rfl (by simp) rfl rfl ?_
  refine sxo_call ent55 rfl rfl rfl (fun x9 e9 => C_bits_Get F x5.1 x5.2.1 a6 c7 3 7 x9 e9) (.consR 0 (Ro (eI .u8) 5 1 (.slice a6 x5.2.1.length c7) x5.2.1) rfl .nil) (fun x9 e9 => ?_)
  intro _
  refine sxo_move rfl rfl rfl ?_
  refine sxo_extract rfl rfl rfl rfl ?_
  refine sxo_extract rfl rfl rfl rfl ?_
  refine sxo_assign rfl rfl rfl ?_
  refine sxo_assign rfl rfl rfl ?_
  refine sxo_nil ?_
  refine sxq_next ?_
  refine sxc_seq ?_
  refine sxc_region ?_
  refine sxo_loadB (i := 1) rfl rfl tf31 rfl rfl (by simp) rfl rfl ?_
  refine sxo_loadB (i := 0) rfl rfl tf31 rfl rfl (by simp) rfl rfl ?_
  refine sxo_call ent30 rfl rfl rfl (fun x10 e10 => C_bits_Join F x1.1 x1.2.1 a2 c3 x5.1 x5.2.1 a6 c7 x10 e10) (.consR 1 (Ro (eI .u8) 5 1 (.slice a2 x1.2.1.length c3) x1.2.1) rfl (.consR 0 (Ro (eI .u8) 5 1 (.slice a6 x5.2.1.length c7) x5.2.1) rfl .nil)) (fun x10 e10 => ?_)
  rintro ⟨a11, c12⟩
  refine sxo_move rfl rfl rfl ?_
  refine sxo_extract rfl rfl rfl rfl ?_
  refine sxo_extract rfl rfl rfl rfl ?_
  refine sxo_alloc rfl tf31 rfl (fun g13 => ?_)
  refine sxo_storeB (i := 0) rfl rfl rfl tf31 rfl rfl rfl rfl rfl ?_
  refine sxo_assign rfl rfl rfl ?_
  refine sxo_nil ?_
  refine sxq_next ?_
  refine sxc_seq ?_
  refine sxc_region ?_
  refine sxo_loadB (i := 1) rfl rfl tf31 rfl rfl (by simp) rfl rfl ?_
  refine sxo_callM ent56 rfl rfl rfl (fun x14 e14 => C_bits_Cut F x5.1 x5.2.1 a6 c7 0 3 x14 e14) .nil .nil (.consR 1 (Ro (eI .u8) 5 1 (.slice a6 x5.2.1.length c7) x5.2.1) rfl .nil) (fun x14 e14 => ?_)
  rintro ⟨a15, c16⟩
  refine sxo_move rfl rfl rfl ?_
  refine sxo_extract rfl rfl rfl rfl ?_
  refine sxo_extract rfl rfl rfl rfl ?_
  refine sxo_alloc rfl tf31 rfl (fun g17 => ?_)
  refine sxo_storeB (i := 0) rfl rfl rfl tf31 rfl rfl rfl rfl rfl ?_
  refine sxo_assign rfl rfl rfl ?_
  refine sxo_nil ?_
  refine sxq_next ?_
  refine sxc_seq ?_
  refine sxc_region ?_
  refine sxo_loadB (i := 2) rfl rfl tf31 rfl rfl (by simp) rfl rfl ?_
  refine sxo_call ent55 rfl rfl rfl (fun x18 e18 => C_bits_Get F x5.1 x5.2.1 a6 c7 9 2 x18 e18) (.consR 2 (Ro (eI .u8) 5 1 (.slice a6 x5.2.1.length c7) x5.2.1) rfl .nil) (fun x18 e18 => ?_)
  intro _
  refine sxo_move rfl rfl rfl ?_
  refine sxo_extract rfl rfl rfl rfl ?_
  refine sxo_extract rfl rfl rfl rfl ?_
  refine sxo_assign rfl rfl rfl ?_
  refine sxo_assign rfl rfl rfl ?_
  refine sxo_nil ?_
  refine sxq_next ?_
  refine sxc_seq ?_
  refine sxc_region ?_
  refine sxo_loadB (i := 3) rfl rfl tf31 rfl rfl (by simp) rfl rfl ?_
  refine sxo_slit (vs := [.int .u8 160]) (ys := ([160] : List Int)) (eI_ok .u8) (by decide) rfl Try.underlying29 tf5 rfl rfl rfl rfl rfl (by decide) (fun a19 c20 => ?_)
  refine sxo_build (cells := [.int .i64 3, .slice a19 ([160] : List Int).length c20]) rfl st31 rfl (by kernel_rfl) rfl ?_
  refine sxo_call ent26 rfl rfl rfl (fun x21 e21 => C_R_SameBits F x1.1 x1.2.1 a2 c3 3 ([160] : List Int) a19 c20 x21 e21) (.consR 4 (Ro (eI .u8) 5 1 (.slice a2 x1.2.1.length c3) x1.2.1) rfl (.consR 0 (Ro (eI .u8) 5 1 (.slice a19 ([160] : List Int).length c20) ([160] : List Int)) rfl .nil)) (fun x21 e21 => ?_)
  intro _
  refine sxo_move rfl rfl rfl ?_
  refine sxo_case 3 x21 [(1, .pointer (some ⟨g4, 0, none⟩)), (3, .pointer (some ⟨g8, 0, none⟩)), (4, .int .i64 x5.2.2), (5, .int .u64 x9.1), (6, .int .i64 x9.2), (7, .pointer (some ⟨g13, 0, none⟩)), (8, .int .i64 x10.2.2), (9, .pointer (some ⟨g17, 0, none⟩)), (10, .int .i64 x14.2.2), (12, .int .i64 x18.2), (51, .bool (x21 && ((x1.2.2 : Int) == 0)))] (fun h22 => ?_) (fun h22 => ?_) ?_
  · refine sxo_take (os := _) rfl ?_
    refine sxo_isT (k := 48) rfl h22 ?_
    refine sxo_move rfl rfl rfl ?_
    refine sxo_eql rfl rfl rfl rfl ?_
    refine sxo_pick (b := true) rfl rfl rfl rfl ?_
    refine sxo_again (d := 51) (v := .bool (x21 && ((x1.2.2 : Int) == 0))) rfl (by rw [h22]; simp only [Bool.true_and]) ?_
    refine sxo_nil ?_
    exact sxq_case (lk_cons rfl (lk_cons rfl (lk_cons rfl (lk_cons rfl (lk_cons rfl (lk_cons rfl (lk_cons rfl (lk_cons rfl (lk_cons rfl (lk_cons rfl (lk_cons rfl lk_nil)))))))))))
  · refine sxo_take (os := _) rfl ?_
    refine sxo_isF (k := 48) rfl h22 ?_
    refine sxo_skip rfl rfl rfl ?_
    refine sxo_skip rfl rfl rfl ?_
    refine sxo_pick (b := false) rfl rfl rfl rfl ?_
    refine sxo_again (d := 51) (v := .bool (x21 && ((x1.2.2 : Int) == 0))) rfl (by rw [h22]; simp only [Bool.false_and]) ?_
    refine sxo_nil ?_
    exact sxq_case (lk_cons rfl (lk_cons rfl (lk_cons rfl (lk_cons rfl (lk_cons rfl (lk_cons rfl (lk_cons rfl (lk_cons rfl (lk_cons rfl (lk_cons rfl (lk_cons rfl lk_nil)))))))))))
  refine sxo_take (os := _) rfl ?_
  refine sxo_move rfl rfl rfl ?_
  refine sxo_join 5 (fun ((x27, _) : (Bool × Unit)) => [(1, .pointer (some ⟨g4, 0, none⟩)), (4, .int .i64 x5.2.2), (5, .int .u64 x9.1), (6, .int .i64 x9.2), (7, .pointer (some ⟨g13, 0, none⟩)), (8, .int .i64 x10.2.2), (9, .pointer (some ⟨g17, 0, none⟩)), (10, .int .i64 x14.2.2), (12, .int .i64 x18.2), (57, .bool x27)]) (fun ((x27, _) : (Bool × Unit)) => [⟨g17, 31, [.int .i64 x14.1, .slice a15 x14.2.1.length c16]⟩, ⟨g13, 31, [.int .i64 x10.1, .slice a11 x10.2.1.length c12]⟩, ⟨g4, 31, [.int .i64 x1.1, .slice a2 x1.2.1.length c3]⟩]) (fun ((x27, _) : (Bool × Unit)) => [Ro (eI .u8) 5 1 (.slice a15 x14.2.1.length c16) x14.2.1, Ro (eI .u8) 5 1 (.slice a11 x10.2.1.length c12) x10.2.1, Ro (eI .u8) 5 1 (.slice a2 x1.2.1.length c3) x1.2.1]) (fun ((x27, _) : (Bool × Unit)) => []) (fun ((x27, _) : (Bool × Unit)) => M_L_bitsBegun_j1 F x1 x5 x9 x10 x14 x18 x27) ?_ ?_
  · refine sxo_take (os := _) rfl ?_
    refine sxo_if (fun h23 => ?_) (fun h23 => ?_)
    · refine sxo_isT (k := 52) rfl h23 ?_
      refine sxo_loadB (i := 2) rfl rfl tf31 rfl rfl (by simp) rfl rfl ?_
      refine sxo_slit (vs := [.int .u8 162, .int .u8 64]) (ys := ([162, 64] : List Int)) (eI_ok .u8) (by decide) rfl Try.underlying29 tf5 rfl rfl rfl rfl rfl (by decide) (fun a47 c48 => ?_)
      refine sxo_build (cells := [.int .i64 10, .slice a47 ([162, 64] : List Int).length c48]) rfl st31 rfl (by kernel_rfl) rfl ?_
      refine sxo_call ent26 rfl rfl rfl (fun x49 e49 => C_R_SameBits F x5.1 x5.2.1 a6 c7 10 ([162, 64] : List Int) a47 c48 x49 e49) (.consR 4 (Ro (eI .u8) 5 1 (.slice a6 x5.2.1.length c7) x5.2.1) rfl (.consR 0 (Ro (eI .u8) 5 1 (.slice a47 ([162, 64] : List Int).length c48) ([162, 64] : List Int)) rfl .nil)) (fun x49 e49 => ?_)
      intro _
      refine sxo_pick (b := true) rfl rfl rfl rfl ?_
      refine sxo_nil ?_
      exact sxq_meetP (x49, ()) (lk_cons rfl (lk_cons rfl (lk_cons rfl (lk_cons rfl (lk_cons rfl (lk_cons rfl (lk_cons rfl (lk_cons rfl (lk_cons rfl (lk_cons rfl lk_nil)))))))))) (.cons 0 rfl (.cons 0 rfl (.cons 1 rfl .nil))) (.cons 2 rfl (.cons 2 rfl (.cons 3 rfl .nil))) fk_nil
    · refine sxo_isF (k := 52) rfl h23 ?_
      refine sxo_skip rfl rfl rfl ?_
      refine sxo_skip rfl rfl rfl ?_
      refine sxo_skip rfl rfl rfl ?_
      refine sxo_skip rfl rfl rfl ?_
      refine sxo_pick (b := false) rfl rfl rfl rfl ?_
      refine sxo_nil ?_
      exact sxq_meetP (false, ()) (lk_cons rfl (lk_cons rfl (lk_cons rfl (lk_cons rfl (lk_cons rfl (lk_cons rfl (lk_cons rfl (lk_cons rfl (lk_cons rfl (lk_cons rfl lk_nil)))))))))) (.cons 0 rfl (.cons 0 rfl (.cons 1 rfl .nil))) (.cons 1 rfl (.cons 1 rfl (.cons 2 rfl .nil))) fk_nil
  · rintro ⟨x27, _⟩
    try dsimp only
    refine sxo_take (os := _) rfl ?_
    refine sxo_move rfl rfl rfl ?_
    refine sxo_case 3 x27 [(1, .pointer (some ⟨g4, 0, none⟩)), (5, .int .u64 x9.1), (6, .int .i64 x9.2), (7, .pointer (some ⟨g13, 0, none⟩)), (8, .int .i64 x10.2.2), (9, .pointer (some ⟨g17, 0, none⟩)), (10, .int .i64 x14.2.2), (12, .int .i64 x18.2), (61, .bool (x27 && ((x5.2.2 : Int) == 0)))] (fun h28 => ?_) (fun h28 => ?_) ?_
    · refine sxo_take (os := _) rfl ?_
      refine sxo_isT (k := 58) rfl h28 ?_
      refine sxo_move rfl rfl rfl ?_
      refine sxo_eql rfl rfl rfl rfl ?_
      refine sxo_pick (b := true) rfl rfl rfl rfl ?_
      refine sxo_again (d := 61) (v := .bool (x27 && ((x5.2.2 : Int) == 0))) rfl (by rw [h28]; simp only [Bool.true_and]) ?_
      refine sxo_nil ?_
      exact sxq_case (lk_cons rfl (lk_cons rfl (lk_cons rfl (lk_cons rfl (lk_cons rfl (lk_cons rfl (lk_cons rfl (lk_cons rfl (lk_cons rfl lk_nil)))))))))
    · refine sxo_take (os := _) rfl ?_
      refine sxo_isF (k := 58) rfl h28 ?_
      refine sxo_skip rfl rfl rfl ?_
      refine sxo_skip rfl rfl rfl ?_
      refine sxo_pick (b := false) rfl rfl rfl rfl ?_
      refine sxo_again (d := 61) (v := .bool (x27 && ((x5.2.2 : Int) == 0))) rfl (by rw [h28]; simp only [Bool.false_and]) ?_
      refine sxo_nil ?_
      exact sxq_case (lk_cons rfl (lk_cons rfl (lk_cons rfl (lk_cons rfl (lk_cons rfl (lk_cons rfl (lk_cons rfl (lk_cons rfl (lk_cons rfl lk_nil)))))))))
    refine sxo_take (os := _) rfl ?_
    refine sxo_move rfl rfl rfl ?_
    refine sxo_case 3 (x27 && ((x5.2.2 : Int) == 0)) [(1, .pointer (some ⟨g4, 0, none⟩)), (6, .int .i64 x9.2), (7, .pointer (some ⟨g13, 0, none⟩)), (8, .int .i64 x10.2.2), (9, .pointer (some ⟨g17, 0, none⟩)), (10, .int .i64 x14.2.2), (12, .int .i64 x18.2), (65, .bool ((x27 && ((x5.2.2 : Int) == 0)) && ((x9.1 : Int) == 9)))] (fun h29 => ?_) (fun h29 => ?_) ?_
    · refine sxo_take (os := _) rfl ?_
      refine sxo_isT (k := 62) rfl h29 ?_
      refine sxo_move rfl rfl rfl ?_
      refine sxo_eql rfl rfl rfl rfl ?_
      refine sxo_pick (b := true) rfl rfl rfl rfl ?_
      refine sxo_again (d := 65) (v := .bool ((x27 && ((x5.2.2 : Int) == 0)) && ((x9.1 : Int) == 9))) rfl (by rw [h29]; simp only [Bool.true_and]) ?_
      refine sxo_nil ?_
      exact sxq_case (lk_cons rfl (lk_cons rfl (lk_cons rfl (lk_cons rfl (lk_cons rfl (lk_cons rfl (lk_cons rfl (lk_cons rfl lk_nil))))))))
    · refine sxo_take (os := _) rfl ?_
      refine sxo_isF (k := 62) rfl h29 ?_
      refine sxo_skip rfl rfl rfl ?_
      refine sxo_skip rfl rfl rfl ?_
      refine sxo_pick (b := false) rfl rfl rfl rfl ?_
      refine sxo_again (d := 65) (v := .bool ((x27 && ((x5.2.2 : Int) == 0)) && ((x9.1 : Int) == 9))) rfl (by rw [h29]; simp only [Bool.false_and]) ?_
      refine sxo_nil ?_
      exact sxq_case (lk_cons rfl (lk_cons rfl (lk_cons rfl (lk_cons rfl (lk_cons rfl (lk_cons rfl (lk_cons rfl (lk_cons rfl lk_nil))))))))
    refine sxo_take (os := _) rfl ?_
    refine sxo_move rfl rfl rfl ?_
    refine sxo_case 3 ((x27 && ((x5.2.2 : Int) == 0)) && ((x9.1 : Int) == 9)) [(1, .pointer (some ⟨g4, 0, none⟩)), (7, .pointer (some ⟨g13, 0, none⟩)), (8, .int .i64 x10.2.2), (9, .pointer (some ⟨g17, 0, none⟩)), (10, .int .i64 x14.2.2), (12, .int .i64 x18.2), (69, .bool (((x27 && ((x5.2.2 : Int) == 0)) && ((x9.1 : Int) == 9)) && ((x9.2 : Int) == 0)))] (fun h30 => ?_) (fun h30 => ?_) ?_
    · refine sxo_take (os := _) rfl ?_
      refine sxo_isT (k := 66) rfl h30 ?_
      refine sxo_move rfl rfl rfl ?_
      refine sxo_eql rfl rfl rfl rfl ?_
      refine sxo_pick (b := true) rfl rfl rfl rfl ?_
      refine sxo_again (d := 69) (v := .bool (((x27 && ((x5.2.2 : Int) == 0)) && ((x9.1 : Int) == 9)) && ((x9.2 : Int) == 0))) rfl (by rw [h30]; simp only [Bool.true_and]) ?_
      refine sxo_nil ?_
      exact sxq_case (lk_cons rfl (lk_cons rfl (lk_cons rfl (lk_cons rfl (lk_cons rfl (lk_cons rfl (lk_cons rfl lk_nil)))))))
    · refine sxo_take (os := _) rfl ?_
      refine sxo_isF (k := 66) rfl h30 ?_
      refine sxo_skip rfl rfl rfl ?_
      refine sxo_skip rfl rfl rfl ?_
      refine sxo_pick (b := false) rfl rfl rfl rfl ?_
      refine sxo_again (d := 69) (v := .bool (((x27 && ((x5.2.2 : Int) == 0)) && ((x9.1 : Int) == 9)) && ((x9.2 : Int) == 0))) rfl (by rw [h30]; simp only [Bool.false_and]) ?_
      refine sxo_nil ?_
      exact sxq_case (lk_cons rfl (lk_cons rfl (lk_cons rfl (lk_cons rfl (lk_cons rfl (lk_cons rfl (lk_cons rfl lk_nil)))))))
    refine sxo_take (os := _) rfl ?_
    refine sxo_move rfl rfl rfl ?_
    refine sxo_case 4 (((x27 && ((x5.2.2 : Int) == 0)) && ((x9.1 : Int) == 9)) && ((x9.2 : Int) == 0)) [(1, .pointer (some ⟨g4, 0, none⟩)), (8, .int .i64 x10.2.2), (9, .pointer (some ⟨g17, 0, none⟩)), (10, .int .i64 x14.2.2), (12, .int .i64 x18.2), (74, .bool ((((x27 && ((x5.2.2 : Int) == 0)) && ((x9.1 : Int) == 9)) && ((x9.2 : Int) == 0)) && ((x10.1 : Int) == 13)))] (fun h31 => ?_) (fun h31 => ?_) ?_
    · refine sxo_take (os := _) rfl ?_
      refine sxo_isT (k := 70) rfl h31 ?_
      refine sxo_fieldAddr rfl rfl ff31_0 rfl ?_
      refine sxo_loadB (i := 1) rfl rfl tf3 rfl rfl (fun _ => rfl) rfl rfl ?_
      refine sxo_eql rfl rfl rfl rfl ?_
      refine sxo_pick (b := true) rfl rfl rfl rfl ?_
      refine sxo_again (d := 74) (v := .bool ((((x27 && ((x5.2.2 : Int) == 0)) && ((x9.1 : Int) == 9)) && ((x9.2 : Int) == 0)) && ((x10.1 : Int) == 13))) rfl (by rw [h31]; simp only [Bool.true_and]) ?_
      refine sxo_nil ?_
      exact sxq_case (lk_cons rfl (lk_cons rfl (lk_cons rfl (lk_cons rfl (lk_cons rfl (lk_cons rfl lk_nil))))))
    · refine sxo_take (os := _) rfl ?_
      refine sxo_isF (k := 70) rfl h31 ?_
      refine sxo_skip rfl rfl rfl ?_
      refine sxo_skip rfl rfl rfl ?_
      refine sxo_skip rfl rfl rfl ?_
      refine sxo_pick (b := false) rfl rfl rfl rfl ?_
      refine sxo_again (d := 74) (v := .bool ((((x27 && ((x5.2.2 : Int) == 0)) && ((x9.1 : Int) == 9)) && ((x9.2 : Int) == 0)) && ((x10.1 : Int) == 13))) rfl (by rw [h31]; simp only [Bool.false_and]) ?_
      refine sxo_nil ?_
      exact sxq_case (lk_cons rfl (lk_cons rfl (lk_cons rfl (lk_cons rfl (lk_cons rfl (lk_cons rfl lk_nil))))))
    refine sxo_take (os := _) rfl ?_
    refine sxo_move rfl rfl rfl ?_
    refine sxo_case 3 ((((x27 && ((x5.2.2 : Int) == 0)) && ((x9.1 : Int) == 9)) && ((x9.2 : Int) == 0)) && ((x10.1 : Int) == 13)) [(1, .pointer (some ⟨g4, 0, none⟩)), (9, .pointer (some ⟨g17, 0, none⟩)), (10, .int .i64 x14.2.2), (12, .int .i64 x18.2), (78, .bool (((((x27 && ((x5.2.2 : Int) == 0)) && ((x9.1 : Int) == 9)) && ((x9.2 : Int) == 0)) && ((x10.1 : Int) == 13)) && ((x10.2.2 : Int) == 0)))] (fun h32 => ?_) (fun h32 => ?_) ?_
    · refine sxo_take (os := _) rfl ?_
      refine sxo_isT (k := 75) rfl h32 ?_
      refine sxo_move rfl rfl rfl ?_
      refine sxo_eql rfl rfl rfl rfl ?_
      refine sxo_pick (b := true) rfl rfl rfl rfl ?_
      refine sxo_again (d := 78) (v := .bool (((((x27 && ((x5.2.2 : Int) == 0)) && ((x9.1 : Int) == 9)) && ((x9.2 : Int) == 0)) && ((x10.1 : Int) == 13)) && ((x10.2.2 : Int) == 0))) rfl (by rw [h32]; simp only [Bool.true_and]) ?_
      refine sxo_nil ?_
      exact sxq_case (lk_cons rfl (lk_cons rfl (lk_cons rfl (lk_cons rfl (lk_cons rfl lk_nil)))))
    · refine sxo_take (os := _) rfl ?_
      refine sxo_isF (k := 75) rfl h32 ?_
      refine sxo_skip rfl rfl rfl ?_
      refine sxo_skip rfl rfl rfl ?_
      refine sxo_pick (b := false) rfl rfl rfl rfl ?_
      refine sxo_again (d := 78) (v := .bool (((((x27 && ((x5.2.2 : Int) == 0)) && ((x9.1 : Int) == 9)) && ((x9.2 : Int) == 0)) && ((x10.1 : Int) == 13)) && ((x10.2.2 : Int) == 0))) rfl (by rw [h32]; simp only [Bool.false_and]) ?_
      refine sxo_nil ?_
      exact sxq_case (lk_cons rfl (lk_cons rfl (lk_cons rfl (lk_cons rfl (lk_cons rfl lk_nil)))))
    refine sxo_take (os := _) rfl ?_
    refine sxo_move rfl rfl rfl ?_
    refine sxo_join 4 (fun ((x35, _) : (Bool × Unit)) => [(10, .int .i64 x14.2.2), (12, .int .i64 x18.2), (83, .bool x35)]) (fun ((x35, _) : (Bool × Unit)) => []) (fun ((x35, _) : (Bool × Unit)) => []) (fun ((x35, _) : (Bool × Unit)) => []) (fun ((x35, _) : (Bool × Unit)) => M_L_bitsBegun_j2 F x14 x18 x35) ?_ ?_
    · refine sxo_take (os := _) rfl ?_
      refine sxo_if (fun h33 => ?_) (fun h33 => ?_)
      · refine sxo_isT (k := 79) rfl h33 ?_
        refine sxo_loadB (i := 0) rfl rfl tf31 rfl rfl (by simp) rfl rfl ?_
        refine sxo_loadB (i := 2) rfl rfl tf31 rfl rfl (by simp) rfl rfl ?_
        refine sxo_call ent26 rfl rfl rfl (fun x46 e46 => C_R_SameBits F x14.1 x14.2.1 a15 c16 x1.1 x1.2.1 a2 c3 x46 e46) (.consR 0 (Ro (eI .u8) 5 1 (.slice a15 x14.2.1.length c16) x14.2.1) rfl (.consR 2 (Ro (eI .u8) 5 1 (.slice a2 x1.2.1.length c3) x1.2.1) rfl .nil)) (fun x46 e46 => ?_)
        intro _
        refine sxo_pick (b := true) rfl rfl rfl rfl ?_
        refine sxo_nil ?_
        exact sxq_meetP (x46, ()) (lk_cons rfl (lk_cons rfl (lk_cons rfl lk_nil))) .nil .nil fk_nil
      · refine sxo_isF (k := 79) rfl h33 ?_
        refine sxo_skip rfl rfl rfl ?_
        refine sxo_skip rfl rfl rfl ?_
        refine sxo_skip rfl rfl rfl ?_
        refine sxo_pick (b := false) rfl rfl rfl rfl ?_
        refine sxo_nil ?_
        exact sxq_meetP (false, ()) (lk_cons rfl (lk_cons rfl (lk_cons rfl lk_nil))) .nil .nil fk_nil
    · rintro ⟨x35, _⟩
      try dsimp only
      refine sxo_take (os := _) rfl ?_
      refine sxo_move rfl rfl rfl ?_
      refine sxo_case 3 x35 [(12, .int .i64 x18.2), (87, .bool (x35 && ((x14.2.2 : Int) == 0)))] (fun h36 => ?_) (fun h36 => ?_) ?_
      · refine sxo_take (os := _) rfl ?_
        refine sxo_isT (k := 84) rfl h36 ?_
        refine sxo_move rfl rfl rfl ?_
        refine sxo_eql rfl rfl rfl rfl ?_
        refine sxo_pick (b := true) rfl rfl rfl rfl ?_
        refine sxo_again (d := 87) (v := .bool (x35 && ((x14.2.2 : Int) == 0))) rfl (by rw [h36]; simp only [Bool.true_and]) ?_
        refine sxo_nil ?_
        exact sxq_case (lk_cons rfl (lk_cons rfl lk_nil))
      · refine sxo_take (os := _) rfl ?_
        refine sxo_isF (k := 84) rfl h36 ?_
        refine sxo_skip rfl rfl rfl ?_
        refine sxo_skip rfl rfl rfl ?_
        refine sxo_pick (b := false) rfl rfl rfl rfl ?_
        refine sxo_again (d := 87) (v := .bool (x35 && ((x14.2.2 : Int) == 0))) rfl (by rw [h36]; simp only [Bool.false_and]) ?_
        refine sxo_nil ?_
        exact sxq_case (lk_cons rfl (lk_cons rfl lk_nil))
      refine sxo_take (os := _) rfl ?_
      refine sxo_move rfl rfl rfl ?_
      refine sxo_case 3 (x35 && ((x14.2.2 : Int) == 0)) [(91, .bool ((x35 && ((x14.2.2 : Int) == 0)) && ((x18.2 : Int) == 7)))] (fun h37 => ?_) (fun h37 => ?_) ?_
      · refine sxo_take (os := _) rfl ?_
        refine sxo_isT (k := 88) rfl h37 ?_
        refine sxo_move rfl rfl rfl ?_
        refine sxo_eql rfl rfl rfl rfl ?_
        refine sxo_pick (b := true) rfl rfl rfl rfl ?_
        refine sxo_again (d := 91) (v := .bool ((x35 && ((x14.2.2 : Int) == 0)) && ((x18.2 : Int) == 7))) rfl (by rw [h37]; simp only [Bool.true_and]) ?_
        refine sxo_nil ?_
        exact sxq_case (lk_cons rfl lk_nil)
      · refine sxo_take (os := _) rfl ?_
        refine sxo_isF (k := 88) rfl h37 ?_
        refine sxo_skip rfl rfl rfl ?_
        refine sxo_skip rfl rfl rfl ?_
        refine sxo_pick (b := false) rfl rfl rfl rfl ?_
        refine sxo_again (d := 91) (v := .bool ((x35 && ((x14.2.2 : Int) == 0)) && ((x18.2 : Int) == 7))) rfl (by rw [h37]; simp only [Bool.false_and]) ?_
        refine sxo_nil ?_
        exact sxq_case (lk_cons rfl lk_nil)
      refine sxo_take (os := _) rfl ?_
      refine sxo_move rfl rfl rfl ?_
      refine sxo_join 5 (fun ((x42, _) : (Bool × Unit)) => [(97, .bool x42)]) (fun ((x42, _) : (Bool × Unit)) => []) (fun ((x42, _) : (Bool × Unit)) => []) (fun ((x42, _) : (Bool × Unit)) => []) (fun ((x42, _) : (Bool × Unit)) => M_L_bitsBegun_j3 F x42) ?_ ?_
      · refine sxo_take (os := _) rfl ?_
        refine sxo_if (fun h38 => ?_) (fun h38 => ?_)
        · refine sxo_isT (k := 92) rfl h38 ?_
          refine sxo_slit (vs := [.int .u8 1]) (ys := ([1] : List Int)) (eI_ok .u8) (by decide) rfl Try.underlying29 tf5 rfl rfl rfl rfl rfl (by decide) (fun a43 c44 => ?_)
          refine sxo_build (cells := [.int .i64 3, .slice a43 ([1] : List Int).length c44]) rfl st31 rfl (by kernel_rfl) rfl ?_
          refine sxo_call ent57 rfl rfl rfl (fun x45 e45 => C_bits_Check F 3 ([1] : List Int) a43 c44 x45 e45) (.consR 0 (Ro (eI .u8) 5 1 (.slice a43 ([1] : List Int).length c44) ([1] : List Int)) rfl .nil) (fun x45 e45 => ?_)
          intro _
          refine sxo_eql rfl rfl rfl rfl ?_
          refine sxo_pick (b := true) rfl rfl rfl rfl ?_
          refine sxo_nil ?_
          exact sxq_meetP (((x45 : Int) == 1), ()) (lk_cons rfl lk_nil) .nil .nil fk_nil
        · refine sxo_isF (k := 92) rfl h38 ?_
          refine sxo_skip rfl rfl rfl ?_
          refine sxo_skip rfl rfl rfl ?_
          refine sxo_skip rfl rfl rfl ?_
          refine sxo_skip rfl rfl rfl ?_
          refine sxo_pick (b := false) rfl rfl rfl rfl ?_
          refine sxo_nil ?_
          exact sxq_meetP (false, ()) (lk_cons rfl lk_nil) .nil .nil fk_nil
      · rintro ⟨x42, _⟩
        try dsimp only
        refine sxo_take (os := _) rfl ?_
        refine sxo_assign rfl rfl rfl ?_
        refine sxo_nil ?_
        refine sxq_next ?_
        refine sxc_ret ?_
        exact sxq_doneP () (.inl rfl) (res1 rfl rfl) (fun h => by subst h; rfl) (fun h => by subst h; exact .nil)

set_option maxHeartbeats 4000000 in
theorem C_L_GapsBits (F : Nat) (x1 : List Int) (a2 : Option Addr) (c3 : Nat) (x4 : Int) (x5 : Int) (x6 : Int) (x7 : List Int) (a8 : Option Addr) (c9 : Nat) (x10 : Int) (x11 : List Int) (a12 : Option Addr) (c13 : Nat) (r : Bool) (hm : M_L_GapsBits F x1 x4 x5 x6 x7 x10 x11 = some r) :
    Pure Try.prog 8 [.slice a2 x1.length c3, .int .i64 x4, .int .i64 x5, .agg #[.int .i64 x6, .slice a8 x7.length c9], .agg #[.int .i64 x10, .slice a12 x11.length c13]] [Sl (eI .i64) 1 (.slice a2 x1.length c3) x1, Sl (eI .u8) 1 (.slice a8 x7.length c9) x7, Sl (eI .u8) 1 (.slice a12 x11.length c13) x11] Unit (fun _ => .bool r) (fun _ => []) (fun _ => []) := by
  refine pure_of Try.func8 rfl Try.ntmps8 rfl hm (fun w => ?_)
  refine sxc_env (l' := [(0, .slice a2 x1.length c3), (1, .int .i64 x4), (2, .int .i64 x5), (3, .agg #[.int .i64 x6, .slice a8 x7.length c9]), (4, .agg #[.int .i64 x10, .slice a12 x11.length c13])]) rfl ?_
  refine sxc_seq ?_
  refine sxc_region ?_
  refine sxo_box rfl rfl rfl (fun g14 => ?_)
  refine sxo_box rfl rfl rfl (fun g15 => ?_)
  refine sxo_assign rfl rfl rfl ?_
  refine sxo_nil ?_
  refine sxq_next ?_
  refine sxc_seq ?_
  refine sxc_region ?_
  refine sxo_move rfl rfl rfl ?_
  refine sxo_move rfl rfl rfl ?_
  refine sxo_move rfl rfl rfl ?_
  refine sxo_call ent17 rfl rfl rfl (fun x16 e16 => C_gaps_Write F x1 a2 c3 x4 x5 x16 e16) (.consF 0 rfl .nil) (fun x16 e16 => ?_)
  rintro ⟨a17, c18⟩
  refine sxo_move rfl rfl rfl ?_
  refine sxo_extract rfl rfl rfl rfl ?_
  refine sxo_extract rfl rfl rfl rfl ?_
  refine sxo_alloc rfl tf31 rfl (fun g19 => ?_)
  refine sxo_storeB (i := 0) rfl rfl rfl tf31 rfl rfl rfl rfl rfl ?_
  refine sxo_assign rfl rfl rfl ?_
  refine sxo_nil ?_
  refine sxq_next ?_
  refine sxc_seq ?_
  refine sxc_seq ?_
  refine sxc_region ?_
  refine sxo_call ent22 rfl rfl rfl (fun x26 e26 => C_L_gapsBegun F  x26 e26) .nil (fun x26 e26 => ?_)
  intro _
  refine sxo_not rfl rfl rfl ?_
  refine sxo_move rfl rfl rfl ?_
  refine sxo_join 3 (fun ((x29, _) : (Bool × Unit)) => [(0, .slice a2 x1.length c3), (1, .int .i64 x4), (2, .int .i64 x5), (8, .pointer (some ⟨g14, 0, none⟩)), (9, .pointer (some ⟨g15, 0, none⟩)), (11, .pointer (some ⟨g19, 0, none⟩)), (12, .int .i64 x16.2.2), (32, .bool x29)]) (fun ((x29, _) : (Bool × Unit)) => [⟨g19, 31, [.int .i64 x16.1, .slice a17 x16.2.1.length c18]⟩, ⟨g15, 31, [.int .i64 x10, .slice a12 x11.length c13]⟩, ⟨g14, 31, [.int .i64 x6, .slice a8 x7.length c9]⟩]) (fun ((x29, _) : (Bool × Unit)) => [Ro (eI .u8) 5 1 (.slice a17 x16.2.1.length c18) x16.2.1]) (fun ((x29, _) : (Bool × Unit)) => [Sl (eI .i64) 1 (.slice a2 x1.length c3) x1, Sl (eI .u8) 1 (.slice a12 x11.length c13) x11, Sl (eI .u8) 1 (.slice a8 x7.length c9) x7]) (fun ((x29, _) : (Bool × Unit)) => M_L_GapsBits_j2 F x1 x4 x5 x6 x7 x10 x11 x16 x29) ?_ ?_
  · refine sxo_take (os := _) rfl ?_
    refine sxo_if (fun h27 => ?_) (fun h27 => ?_)
    · refine sxo_isT (k := 29) rfl h27 ?_
      refine sxo_skip rfl rfl rfl ?_
      refine sxo_skip rfl rfl rfl ?_
      refine sxo_pick (b := true) rfl rfl rfl rfl ?_
      refine sxo_nil ?_
      exact sxq_meetP (true, ()) (lk_cons rfl (lk_cons rfl (lk_cons rfl (lk_cons rfl (lk_cons rfl (lk_cons rfl (lk_cons rfl (lk_cons rfl lk_nil)))))))) (.cons 0 rfl (.cons 0 rfl (.cons 0 rfl .nil))) (.cons 0 rfl .nil) (fk_cons 0 rfl (fk_cons 2 rfl (fk_cons 1 rfl fk_nil)))
    · refine sxo_isF (k := 29) rfl h27 ?_
      refine sxo_call ent29 rfl rfl rfl (fun x61 e61 => C_L_bitsBegun F  x61 e61) .nil (fun x61 e61 => ?_)
      intro _
      refine sxo_not rfl rfl rfl ?_
      refine sxo_pick (b := false) rfl rfl rfl rfl ?_
      refine sxo_nil ?_
      exact sxq_meetP ((!x61), ()) (lk_cons rfl (lk_cons rfl (lk_cons rfl (lk_cons rfl (lk_cons rfl (lk_cons rfl (lk_cons rfl (lk_cons rfl lk_nil)))))))) (.cons 0 rfl (.cons 0 rfl (.cons 0 rfl .nil))) (.cons 0 rfl .nil) (fk_cons 0 rfl (fk_cons 2 rfl (fk_cons 1 rfl fk_nil)))
  · rintro ⟨x29, _⟩
    try dsimp only
    refine sxo_take (os := _) rfl ?_
    refine sxo_nil ?_
    refine sxq_next ?_
    refine sxc_if rfl (fun h60 => ?_) (fun h60 => ?_)
    · refine sxc_seq ?_
      refine sxc_region ?_
      refine sxo_assign rfl rfl rfl ?_
      refine sxo_nil ?_
      refine sxq_next ?_
      refine sxc_ret ?_
      refine sxq_thenR ?_
      exact sxq_doneP () (.inl rfl) (res1 rfl rfl) (fun h => by subst h; rfl) (fun h => by subst h; exact .nil)
    · refine sxc_skip ?_
      refine sxq_next ?_
      refine sxc_seq ?_
      refine sxc_region ?_
      refine sxo_loadB (i := 2) rfl rfl tf31 rfl rfl (by simp) rfl rfl ?_
      refine sxo_loadB (i := 0) rfl rfl tf31 rfl rfl (by simp) rfl rfl ?_
      refine sxo_call ent30 rfl rfl rfl (fun x30 e30 => C_bits_Join F x6 x7 a8 c9 x16.1 x16.2.1 a17 c18 x30 e30) (.consF 2 rfl (.consR 0 (Ro (eI .u8) 5 1 (.slice a17 x16.2.1.length c18) x16.2.1) rfl .nil)) (fun x30 e30 => ?_)
      rintro ⟨a31, c32⟩
      refine sxo_move rfl rfl rfl ?_
      refine sxo_extract rfl rfl rfl rfl ?_
      refine sxo_extract rfl rfl rfl rfl ?_
      refine sxo_alloc rfl tf31 rfl (fun g33 => ?_)
      refine sxo_storeB (i := 0) rfl rfl rfl tf31 rfl rfl rfl rfl rfl ?_
      refine sxo_assign rfl rfl rfl ?_
      refine sxo_nil ?_
      refine sxq_next ?_
      refine sxc_seq ?_
      refine sxc_region ?_
      refine sxo_loadB (i := 0) rfl rfl tf31 rfl rfl (by simp) rfl rfl ?_
      refine sxo_loadB (i := 2) rfl rfl tf31 rfl rfl (by simp) rfl rfl ?_
      refine sxo_call ent30 rfl rfl rfl (fun x34 e34 => C_bits_Join F x30.1 x30.2.1 a31 c32 x10 x11 a12 c13 x34 e34) (.consR 0 (Ro (eI .u8) 5 1 (.slice a31 x30.2.1.length c32) x30.2.1) rfl (.consF 1 rfl .nil)) (fun x34 e34 => ?_)
      rintro ⟨a35, c36⟩
      refine sxo_move rfl rfl rfl ?_
      refine sxo_extract rfl rfl rfl rfl ?_
      refine sxo_extract rfl rfl rfl rfl ?_
      refine sxo_alloc rfl tf31 rfl (fun g37 => ?_)
      refine sxo_storeB (i := 0) rfl rfl rfl tf31 rfl rfl rfl rfl rfl ?_
      refine sxo_assign rfl rfl rfl ?_
      refine sxo_nil ?_
      refine sxq_next ?_
      refine sxc_seq ?_
      refine sxc_seq ?_
      refine sxc_region ?_
      refine sxo_move rfl rfl rfl ?_
      refine sxo_neq rfl rfl rfl rfl ?_
      refine sxo_move rfl rfl rfl ?_
      refine sxo_case 3 ((x16.2.2 : Int) != 0) [(0, .slice a2 x1.length c3), (1, .int .i64 x4), (2, .int .i64 x5), (8, .pointer (some ⟨g14, 0, none⟩)), (11, .pointer (some ⟨g19, 0, none⟩)), (12, .int .i64 x16.2.2), (15, .pointer (some ⟨g37, 0, none⟩)), (16, .int .i64 x34.2.2), (50, .bool (((x16.2.2 : Int) != 0) || ((x30.2.2 : Int) != 0)))] (fun h45 => ?_) (fun h45 => ?_) ?_
      · refine sxo_take (os := _) rfl ?_
        refine sxo_isT (k := 47) rfl h45 ?_
        refine sxo_skip rfl rfl rfl ?_
        refine sxo_skip rfl rfl rfl ?_
        refine sxo_pick (b := true) rfl rfl rfl rfl ?_
        refine sxo_again (d := 50) (v := .bool (((x16.2.2 : Int) != 0) || ((x30.2.2 : Int) != 0))) rfl (by rw [h45]; simp only [Bool.true_or]) ?_
        refine sxo_nil ?_
        exact sxq_case (lk_cons rfl (lk_cons rfl (lk_cons rfl (lk_cons rfl (lk_cons rfl (lk_cons rfl (lk_cons rfl (lk_cons rfl (lk_cons rfl lk_nil)))))))))
      · refine sxo_take (os := _) rfl ?_
        refine sxo_isF (k := 47) rfl h45 ?_
        refine sxo_move rfl rfl rfl ?_
        refine sxo_neq rfl rfl rfl rfl ?_
        refine sxo_pick (b := false) rfl rfl rfl rfl ?_
        refine sxo_again (d := 50) (v := .bool (((x16.2.2 : Int) != 0) || ((x30.2.2 : Int) != 0))) rfl (by rw [h45]; simp only [Bool.false_or]) ?_
        refine sxo_nil ?_
        exact sxq_case (lk_cons rfl (lk_cons rfl (lk_cons rfl (lk_cons rfl (lk_cons rfl (lk_cons rfl (lk_cons rfl (lk_cons rfl (lk_cons rfl lk_nil)))))))))
      refine sxo_take (os := _) rfl ?_
      refine sxo_move rfl rfl rfl ?_
      refine sxo_case 3 (((x16.2.2 : Int) != 0) || ((x30.2.2 : Int) != 0)) [(0, .slice a2 x1.length c3), (1, .int .i64 x4), (2, .int .i64 x5), (8, .pointer (some ⟨g14, 0, none⟩)), (11, .pointer (some ⟨g19, 0, none⟩)), (12, .int .i64 x16.2.2), (15, .pointer (some ⟨g37, 0, none⟩)), (54, .bool ((((x16.2.2 : Int) != 0) || ((x30.2.2 : Int) != 0)) || ((x34.2.2 : Int) != 0)))] (fun h46 => ?_) (fun h46 => ?_) ?_
      · refine sxo_take (os := _) rfl ?_
        refine sxo_isT (k := 51) rfl h46 ?_
        refine sxo_skip rfl rfl rfl ?_
        refine sxo_skip rfl rfl rfl ?_
        refine sxo_pick (b := true) rfl rfl rfl rfl ?_
        refine sxo_again (d := 54) (v := .bool ((((x16.2.2 : Int) != 0) || ((x30.2.2 : Int) != 0)) || ((x34.2.2 : Int) != 0))) rfl (by rw [h46]; simp only [Bool.true_or]) ?_
        refine sxo_nil ?_
        exact sxq_case (lk_cons rfl (lk_cons rfl (lk_cons rfl (lk_cons rfl (lk_cons rfl (lk_cons rfl (lk_cons rfl (lk_cons rfl lk_nil))))))))
      · refine sxo_take (os := _) rfl ?_
        refine sxo_isF (k := 51) rfl h46 ?_
        refine sxo_move rfl rfl rfl ?_
        refine sxo_neq rfl rfl rfl rfl ?_
        refine sxo_pick (b := false) rfl rfl rfl rfl ?_
        refine sxo_again (d := 54) (v := .bool ((((x16.2.2 : Int) != 0) || ((x30.2.2 : Int) != 0)) || ((x34.2.2 : Int) != 0))) rfl (by rw [h46]; simp only [Bool.false_or]) ?_
        refine sxo_nil ?_
        exact sxq_case (lk_cons rfl (lk_cons rfl (lk_cons rfl (lk_cons rfl (lk_cons rfl (lk_cons rfl (lk_cons rfl (lk_cons rfl lk_nil))))))))
      refine sxo_take (os := _) rfl ?_
      refine sxo_nil ?_
      refine sxq_next ?_
      refine sxc_if rfl (fun h59 => ?_) (fun h59 => ?_)
      · refine sxc_seq ?_
        refine sxc_region ?_
        refine sxo_move rfl rfl rfl ?_
        refine sxo_eql rfl rfl rfl rfl ?_
        refine sxo_move rfl rfl rfl ?_
        refine sxo_join 4 (fun ((x49, _) : (Bool × Unit)) => [(61, .bool x49)]) (fun ((x49, _) : (Bool × Unit)) => []) (fun ((x49, _) : (Bool × Unit)) => []) (fun ((x49, _) : (Bool × Unit)) => []) (fun ((x49, _) : (Bool × Unit)) => M_L_GapsBits_j4 F x49) ?_ ?_
        · refine sxo_take (os := _) rfl ?_
          refine sxo_if (fun h47 => ?_) (fun h47 => ?_)
          · refine sxo_isT (k := 57) rfl h47 ?_
            refine sxo_skip rfl rfl rfl ?_
            refine sxo_skip rfl rfl rfl ?_
            refine sxo_skip rfl rfl rfl ?_
            refine sxo_pick (b := true) rfl rfl rfl rfl ?_
            refine sxo_nil ?_
            exact sxq_meetP (true, ()) (lk_cons rfl lk_nil) .nil .nil fk_nil
          · refine sxo_isF (k := 57) rfl h47 ?_
            refine sxo_loadB (i := 2) rfl rfl tf31 rfl rfl (by simp) rfl rfl ?_
            refine sxo_build (cells := [.int .i64 0, .slice none 0 0]) rfl st31 rfl (by kernel_rfl) rfl ?_
            refine sxo_nilrow' Int (eI .u8) 5 1 ?_
            refine sxo_call ent26 rfl rfl rfl (fun x50 e50 => C_R_SameBits F x16.1 x16.2.1 a17 c18 0 ([] : List Int) none 0 x50 e50) (.consR 3 (Ro (eI .u8) 5 1 (.slice a17 x16.2.1.length c18) x16.2.1) rfl (.consR 0 (Ro (eI .u8) 5 1 (.slice none ([] : List Int).length 0) ([] : List Int)) rfl .nil)) (fun x50 e50 => ?_)
            intro _
            refine sxo_pick (b := false) rfl rfl rfl rfl ?_
            refine sxo_nil ?_
            exact sxq_meetP (x50, ()) (lk_cons rfl lk_nil) .nil .nil fk_nil
        · rintro ⟨x49, _⟩
          try dsimp only
          refine sxo_take (os := _) rfl ?_
          refine sxo_assign rfl rfl rfl ?_
          refine sxo_nil ?_
          refine sxq_next ?_
          refine sxc_ret ?_
          refine sxq_thenR ?_
          exact sxq_doneP () (.inl rfl) (res1 rfl rfl) (fun h => by subst h; rfl) (fun h => by subst h; exact .nil)
      · refine sxc_skip ?_
        refine sxq_next ?_
        refine sxc_seq ?_
        refine sxc_region ?_
        refine sxo_loadB (i := 0) rfl rfl tf31 rfl rfl (by simp) rfl rfl ?_
        refine sxo_fieldAddr rfl rfl ff31_0 rfl ?_
        refine sxo_loadB (i := 4) rfl rfl tf3 rfl rfl (fun _ => rfl) rfl rfl ?_
        refine sxo_move rfl rfl rfl ?_
        refine sxo_move rfl rfl rfl ?_
        refine sxo_move rfl rfl rfl ?_
        refine sxo_len rfl Try.underlying22 rfl rfl ?_
        refine sxo_call ent27 rfl rfl rfl (fun x51 e51 => C_gaps_Read F x34.1 x34.2.1 a35 c36 x6 x4 x5 (x1.length : Int) x51 e51) (.consR 0 (Ro (eI .u8) 5 1 (.slice a35 x34.2.1.length c36) x34.2.1) rfl .nil) (fun x51 e51 => ?_)
        rintro ⟨a52, c53⟩
        refine sxo_move rfl rfl rfl ?_
        refine sxo_extract rfl rfl rfl rfl ?_
        refine sxo_extract rfl rfl rfl rfl ?_
        refine sxo_extract rfl rfl rfl rfl ?_
        refine sxo_assign rfl rfl rfl ?_
        refine sxo_assign rfl rfl rfl ?_
        refine sxo_assign rfl rfl rfl ?_
        refine sxo_nil ?_
        refine sxq_next ?_
        refine sxc_seq ?_
        refine sxc_region ?_
        refine sxo_move rfl rfl rfl ?_
        refine sxo_eql rfl rfl rfl rfl ?_
        refine sxo_move rfl rfl rfl ?_
        refine sxo_join 4 (fun ((x56, _) : (Bool × Unit)) => [(8, .pointer (some ⟨g14, 0, none⟩)), (11, .pointer (some ⟨g19, 0, none⟩)), (18, .int .i64 x51.2.1), (80, .bool x56)]) (fun ((x56, _) : (Bool × Unit)) => [⟨g19, 31, [.int .i64 x16.1, .slice a17 x16.2.1.length c18]⟩, ⟨g14, 31, [.int .i64 x6, .slice a8 x7.length c9]⟩]) (fun ((x56, _) : (Bool × Unit)) => [Ro (eI .u8) 5 1 (.slice a17 x16.2.1.length c18) x16.2.1]) (fun ((x56, _) : (Bool × Unit)) => [Sl (eI .u8) 1 (.slice a8 x7.length c9) x7]) (fun ((x56, _) : (Bool × Unit)) => M_L_GapsBits_j5 F x6 x16 x51 x56) ?_ ?_
        · refine sxo_take (os := _) rfl ?_
          refine sxo_if (fun h54 => ?_) (fun h54 => ?_)
          · refine sxo_isT (k := 76) rfl h54 ?_
            refine sxo_move rfl rfl rfl ?_
            refine sxo_move rfl rfl rfl ?_
            refine sxo_call ent25 rfl rfl rfl (fun x58 e58 => C_R_SameInts F x51.1 a52 c53 x1 a2 c3 x58 e58) (.consR 0 (Ro (eI .i64) 3 1 (.slice a52 x51.1.length c53) x51.1) rfl (.consF 0 rfl .nil)) (fun x58 e58 => ?_)
            intro _
            refine sxo_pick (b := true) rfl rfl rfl rfl ?_
            refine sxo_nil ?_
            exact sxq_meetP (x58, ()) (lk_cons rfl (lk_cons rfl (lk_cons rfl (lk_cons rfl lk_nil)))) (.cons 2 rfl (.cons 3 rfl .nil)) (.cons 3 rfl .nil) (fk_cons 2 rfl fk_nil)
          · refine sxo_isF (k := 76) rfl h54 ?_
            refine sxo_skip rfl rfl rfl ?_
            refine sxo_skip rfl rfl rfl ?_
            refine sxo_skip rfl rfl rfl ?_
            refine sxo_pick (b := false) rfl rfl rfl rfl ?_
            refine sxo_nil ?_
            exact sxq_meetP (false, ()) (lk_cons rfl (lk_cons rfl (lk_cons rfl (lk_cons rfl lk_nil)))) (.cons 2 rfl (.cons 3 rfl .nil)) (.cons 3 rfl .nil) (fk_cons 2 rfl fk_nil)
        · rintro ⟨x56, _⟩
          try dsimp only
          refine sxo_take (os := _) rfl ?_
          refine sxo_move rfl rfl rfl ?_
          refine sxo_case 8 x56 [(89, .bool (x56 && ((x51.2.1 : Int) == (iadd .i64 x6 x16.1))))] (fun h57 => ?_) (fun h57 => ?_) ?_
          · refine sxo_take (os := _) rfl ?_
            refine sxo_isT (k := 81) rfl h57 ?_
            refine sxo_move rfl rfl rfl ?_
            refine sxo_fieldAddr rfl rfl ff31_0 rfl ?_
            refine sxo_loadB (i := 1) rfl rfl tf3 rfl rfl (fun _ => rfl) rfl rfl ?_
            refine sxo_fieldAddr rfl rfl ff31_0 rfl ?_
            refine sxo_loadB (i := 0) rfl rfl tf3 rfl rfl (fun _ => rfl) rfl rfl ?_
            refine sxo_add rfl rfl rfl rfl ?_
            refine sxo_eql rfl rfl rfl rfl ?_
            refine sxo_pick (b := true) rfl rfl rfl rfl ?_
            refine sxo_again (d := 89) (v := .bool (x56 && ((x51.2.1 : Int) == (iadd .i64 x6 x16.1)))) rfl (by rw [h57]; simp only [Bool.true_and]) ?_
            refine sxo_nil ?_
            exact sxq_case (lk_cons rfl lk_nil)
          · refine sxo_take (os := _) rfl ?_
            refine sxo_isF (k := 81) rfl h57 ?_
            refine sxo_skip rfl rfl rfl ?_
            refine sxo_skip rfl rfl rfl ?_
            refine sxo_skip rfl rfl rfl ?_
            refine sxo_skip rfl rfl rfl ?_
            refine sxo_skip rfl rfl rfl ?_
            refine sxo_skip rfl rfl rfl ?_
            refine sxo_skip rfl rfl rfl ?_
            refine sxo_pick (b := false) rfl rfl rfl rfl ?_
            refine sxo_again (d := 89) (v := .bool (x56 && ((x51.2.1 : Int) == (iadd .i64 x6 x16.1)))) rfl (by rw [h57]; simp only [Bool.false_and]) ?_
            refine sxo_nil ?_
            exact sxq_case (lk_cons rfl lk_nil)
          refine sxo_take (os := _) rfl ?_
          refine sxo_assign rfl rfl rfl ?_
          refine sxo_nil ?_
          refine sxq_next ?_
          refine sxc_ret ?_
          exact sxq_doneP () (.inl rfl) (res1 rfl rfl) (fun h => by subst h; rfl) (fun h => by subst h; exact .nil)

set_option maxHeartbeats 4000000 in
theorem C_L_GapsShift (F : Nat) (x1 : List Int) (a2 : Option Addr) (c3 : Nat) (x4 : Int) (x5 : Int) (r : Bool) (hm : M_L_GapsShift F x1 x4 x5 = some r) :
    Pure Try.prog 6 [.slice a2 x1.length c3, .int .i64 x4, .int .i64 x5] [Sl (eI .i64) 1 (.slice a2 x1.length c3) x1] Unit (fun _ => .bool r) (fun _ => []) (fun _ => []) := by
  refine pure_of Try.func6 rfl Try.ntmps6 rfl hm (fun w => ?_)
  refine sxc_env (l' := [(0, .slice a2 x1.length c3), (1, .int .i64 x4), (2, .int .i64 x5)]) rfl ?_
  refine sxc_seq ?_
  refine sxc_region ?_
  refine sxo_assign rfl rfl rfl ?_
  refine sxo_nil ?_
  refine sxq_next ?_
  refine sxc_seq ?_
  refine sxc_region ?_
  refine sxo_move rfl rfl rfl ?_
  refine sxo_move rfl rfl rfl ?_
  refine sxo_call ent15 rfl rfl rfl (fun x6 e6 => C_gaps_Gaps F x1 a2 c3 x4 x6 e6) (.consF 0 rfl .nil) (fun x6 e6 => ?_)
  rintro ⟨a7, c8⟩
  refine sxo_move rfl rfl rfl ?_
  refine sxo_extract rfl rfl rfl rfl ?_
  refine sxo_extract rfl rfl rfl rfl ?_
  refine sxo_assign rfl rfl rfl ?_
  refine sxo_assign rfl rfl rfl ?_
  refine sxo_nil ?_
  refine sxq_next ?_
  refine sxc_seq ?_
  refine sxc_seq ?_
  refine sxc_region ?_
  refine sxo_call ent22 rfl rfl rfl (fun x11 e11 => C_L_gapsBegun F  x11 e11) .nil (fun x11 e11 => ?_)
  intro _
  refine sxo_not rfl rfl rfl ?_
  refine sxo_nil ?_
  refine sxq_next ?_
  refine sxc_if rfl (fun h152 => ?_) (fun h152 => ?_)
  · refine sxc_seq ?_
    refine sxc_region ?_
    refine sxo_assign rfl rfl rfl ?_
    refine sxo_nil ?_
    refine sxq_next ?_
    refine sxc_ret ?_
    refine sxq_thenR ?_
    exact sxq_doneP () (.inl rfl) (res1 rfl rfl) (fun h => by subst h; rfl) (fun h => by subst h; exact .nil)
  · refine sxc_skip ?_
    refine sxq_next ?_
    refine sxc_seq ?_
    refine sxc_seq ?_
    refine sxc_region ?_
    refine sxo_move rfl rfl rfl ?_
    refine sxo_neq rfl rfl rfl rfl ?_
    refine sxo_move rfl rfl rfl ?_
    refine sxo_case 3 ((x6.2 : Int) != 0) [(0, .slice a2 x1.length c3), (1, .int .i64 x4), (2, .int .i64 x5), (7, .slice a7 x6.1.length c8), (26, .bool (((x6.2 : Int) != 0) || (decide (x5 < (-1048576)))))] (fun h15 => ?_) (fun h15 => ?_) ?_
    · refine sxo_take (os := _) rfl ?_
      refine sxo_isT (k := 23) rfl h15 ?_
      refine sxo_skip rfl rfl rfl ?_
      refine sxo_skip rfl rfl rfl ?_
      refine sxo_pick (b := true) rfl rfl rfl rfl ?_
      refine sxo_again (d := 26) (v := .bool (((x6.2 : Int) != 0) || (decide (x5 < (-1048576))))) rfl (by rw [h15]; simp only [Bool.true_or]) ?_
      refine sxo_nil ?_
      exact sxq_case (lk_cons rfl (lk_cons rfl (lk_cons rfl (lk_cons rfl (lk_cons rfl lk_nil)))))
    · refine sxo_take (os := _) rfl ?_
      refine sxo_isF (k := 23) rfl h15 ?_
      refine sxo_move rfl rfl rfl ?_
      refine sxo_lss rfl rfl rfl rfl ?_
      refine sxo_pick (b := false) rfl rfl rfl rfl ?_
      refine sxo_again (d := 26) (v := .bool (((x6.2 : Int) != 0) || (decide (x5 < (-1048576))))) rfl (by rw [h15]; simp only [Bool.false_or]) ?_
      refine sxo_nil ?_
      exact sxq_case (lk_cons rfl (lk_cons rfl (lk_cons rfl (lk_cons rfl (lk_cons rfl lk_nil)))))
    refine sxo_take (os := _) rfl ?_
    refine sxo_move rfl rfl rfl ?_
    refine sxo_case 3 (((x6.2 : Int) != 0) || (decide (x5 < (-1048576)))) [(0, .slice a2 x1.length c3), (1, .int .i64 x4), (2, .int .i64 x5), (7, .slice a7 x6.1.length c8), (30, .bool ((((x6.2 : Int) != 0) || (decide (x5 < (-1048576)))) || (decide (1048576 < x5))))] (fun h16 => ?_) (fun h16 => ?_) ?_
    · refine sxo_take (os := _) rfl ?_
      refine sxo_isT (k := 27) rfl h16 ?_
      refine sxo_skip rfl rfl rfl ?_
      refine sxo_skip rfl rfl rfl ?_
      refine sxo_pick (b := true) rfl rfl rfl rfl ?_
      refine sxo_again (d := 30) (v := .bool ((((x6.2 : Int) != 0) || (decide (x5 < (-1048576)))) || (decide (1048576 < x5)))) rfl (by rw [h16]; simp only [Bool.true_or]) ?_
      refine sxo_nil ?_
      exact sxq_case (lk_cons rfl (lk_cons rfl (lk_cons rfl (lk_cons rfl (lk_cons rfl lk_nil)))))
    · refine sxo_take (os := _) rfl ?_
      refine sxo_isF (k := 27) rfl h16 ?_
      refine sxo_move rfl rfl rfl ?_
      refine sxo_gtr rfl rfl rfl rfl ?_
      refine sxo_pick (b := false) rfl rfl rfl rfl ?_
      refine sxo_again (d := 30) (v := .bool ((((x6.2 : Int) != 0) || (decide (x5 < (-1048576)))) || (decide (1048576 < x5)))) rfl (by rw [h16]; simp only [Bool.false_or]) ?_
      refine sxo_nil ?_
      exact sxq_case (lk_cons rfl (lk_cons rfl (lk_cons rfl (lk_cons rfl (lk_cons rfl lk_nil)))))
    refine sxo_take (os := _) rfl ?_
    refine sxo_nil ?_
    refine sxq_next ?_
    refine sxc_if rfl (fun h151 => ?_) (fun h151 => ?_)
    · refine sxc_seq ?_
      refine sxc_region ?_
      refine sxo_assign rfl rfl rfl ?_
      refine sxo_nil ?_
      refine sxq_next ?_
      refine sxc_ret ?_
      refine sxq_thenR ?_
      exact sxq_doneP () (.inl rfl) (res1 rfl rfl) (fun h => by subst h; rfl) (fun h => by subst h; exact .nil)
    · refine sxc_skip ?_
      refine sxq_next ?_
      refine sxc_seq ?_
      refine sxc_region ?_
      refine sxo_assign rfl rfl rfl ?_
      refine sxo_nil ?_
      refine sxq_next ?_
      refine sxc_join (fun ((x78, (a76, c77)) : (List Int × (Option Addr × Nat))) => [(1, .int .i64 x4), (2, .int .i64 x5), (7, .slice a7 x6.1.length c8), (9, .slice a76 x78.length c77)]) (fun ((x78, (a76, c77)) : (List Int × (Option Addr × Nat))) => []) (fun ((x78, (a76, c77)) : (List Int × (Option Addr × Nat))) => [Ro (eI .u64) 46 1 (.slice a7 x6.1.length c8) x6.1, Ro (eI .i64) 3 1 (.slice a76 x78.length c77) x78]) (fun ((x78, (a76, c77)) : (List Int × (Option Addr × Nat))) => []) (fun ((x78, _) : (List Int × (Option Addr × Nat))) => M_L_GapsShift_j2 F x4 x5 x6 x78) ?_ ?_
      · refine sxc_seq ?_
        refine sxc_region ?_
        refine sxo_assign rfl rfl rfl ?_
        refine sxo_nil ?_
        refine sxq_next ?_
        refine sxc_block ?_
        refine sxc_nilrow Int (eI .i64) 3 1 ?_
        refine sxc_loopP (fun (((x112, x113), (a110, c111)) : ((List Int × Int) × (Option Addr × Nat))) => [(0, .slice a2 x1.length c3), (1, .int .i64 x4), (2, .int .i64 x5), (7, .slice a7 x6.1.length c8), (9, .slice a110 x112.length c111), (10, .int .i64 x113)]) (fun (((x112, x113), (a110, c111)) : ((List Int × Int) × (Option Addr × Nat))) => []) (fun (((x112, x113), (a110, c111)) : ((List Int × Int) × (Option Addr × Nat))) => [Ro (eI .u64) 46 1 (.slice a7 x6.1.length c8) x6.1, Ro (eI .i64) 3 1 (.slice a110 x112.length c111) x112]) (fun (((x112, x113), (a110, c111)) : ((List Int × Int) × (Option Addr × Nat))) => [Sl (eI .i64) 1 (.slice a2 x1.length c3) x1]) (fun k (s : ((List Int × Int) × (Option Addr × Nat))) => M_L_GapsShift_l6 F x1 x4 x5 x6 k s.1) ((([] : List Int), 0), (none, 0)) F (lk_cons rfl (lk_cons rfl (lk_cons rfl (lk_cons rfl (lk_cons rfl (lk_cons rfl lk_nil)))))) .nil (.cons 1 rfl (.cons 0 rfl .nil)) (fk_cons 0 rfl fk_nil) (fun _ => rfl) ?_
        intro k132
        rintro ⟨⟨x112, x113⟩, ⟨a110, c111⟩⟩
        try dsimp only
        refine sxc_meq (m' := M_L_GapsShift_b6 F x1 x4 x5 x6 (M_L_GapsShift_l6 F x1 x4 x5 x6 k132) x112 x113) rfl ?_
        refine sxc_seq ?_
        refine sxc_seq ?_
        refine sxc_region ?_
        refine sxo_move rfl rfl rfl ?_
        refine sxo_move rfl rfl rfl ?_
        refine sxo_len rfl Try.underlying22 rfl rfl ?_
        refine sxo_lss rfl rfl rfl rfl ?_
        refine sxo_nil ?_
        refine sxq_next ?_
        refine sxc_if rfl (fun h150 => ?_) (fun h150 => ?_)
        · refine sxc_skip ?_
          refine sxq_next ?_
          refine sxc_seq ?_
          refine sxc_block ?_
          refine sxc_region ?_
          refine sxo_move rfl rfl rfl ?_
          refine sxo_move rfl rfl rfl ?_
          refine sxo_move rfl rfl rfl ?_
          refine sxo_indexF (j := 0) (eI_ok .i64) (by decide) rfl Try.underlying22 tf3 rfl rfl rfl rfl (fun x142 e142 b143 o144 => ?_)
          refine sxo_loadF (j := 0) rfl rfl tf3 rfl rfl (fun _ => rfl) rfl rfl ?_
          refine sxo_move rfl rfl rfl ?_
          refine sxo_add rfl rfl rfl rfl ?_
          refine sxo_slit (vs := [.int .i64 (iadd .i64 x142 x5)]) (ys := ([iadd .i64 x142 x5] : List Int)) (eI_ok .i64) (by decide) rfl Try.underlying22 tf3 rfl rfl rfl rfl rfl (by decide) (fun a145 c146 => ?_)
          refine sxo_app 2 (eI_ok .i64) rfl Try.underlying22 tf3 rfl rfl rfl rfl rfl (.inl ⟨0, _, rfl⟩) rfl rfl (fun x147 e147 a148 c149 => ?_)
          refine sxo_assign rfl rfl rfl ?_
          refine sxo_nil ?_
          refine sxq_blkN ?_
          refine sxq_next ?_
          refine sxc_region ?_
          refine sxo_move rfl rfl rfl ?_
          refine sxo_add rfl rfl rfl rfl ?_
          refine sxo_assign rfl rfl rfl ?_
          refine sxo_nil ?_
          exact sxq_againP ((x147, iadd .i64 x113 1), (a148, c149)) (lk_cons rfl (lk_cons rfl (lk_cons rfl (lk_cons rfl (lk_cons rfl (lk_cons rfl lk_nil)))))) .nil (.cons 2 rfl (.cons 0 rfl .nil)) (fk_cons 1 rfl fk_nil)
        · refine sxc_exit ?_
          refine sxq_thenX ?_
          refine sxq_thenX ?_
          refine sxq_blkX ?_
          exact sxq_meetP (x112, (a110, c111)) (lk_cons rfl (lk_cons rfl (lk_cons rfl (lk_cons rfl lk_nil)))) .nil (.cons 0 rfl (.cons 0 rfl .nil)) fk_nil
      · rintro ⟨x78, ⟨a76, c77⟩⟩
        try dsimp only
        refine sxc_seq ?_
        refine sxc_region ?_
        refine sxo_move rfl rfl rfl ?_
        refine sxo_move rfl rfl rfl ?_
        refine sxo_move rfl rfl rfl ?_
        refine sxo_add rfl rfl rfl rfl ?_
        refine sxo_call ent15 rfl rfl rfl (fun x79 e79 => C_gaps_Gaps F x78 a76 c77 (iadd .i64 x4 x5) x79 e79) (.consR 1 (Ro (eI .i64) 3 1 (.slice a76 x78.length c77) x78) rfl .nil) (fun x79 e79 => ?_)
        rintro ⟨a80, c81⟩
        refine sxo_move rfl rfl rfl ?_
        refine sxo_extract rfl rfl rfl rfl ?_
        refine sxo_extract rfl rfl rfl rfl ?_
        refine sxo_assign rfl rfl rfl ?_
        refine sxo_assign rfl rfl rfl ?_
        refine sxo_nil ?_
        refine sxq_next ?_
        refine sxc_seq ?_
        refine sxc_region ?_
        refine sxo_move rfl rfl rfl ?_
        refine sxo_eql rfl rfl rfl rfl ?_
        refine sxo_move rfl rfl rfl ?_
        refine sxo_join 8 (fun ((x87, _) : (Bool × Unit)) => [(64, .bool x87)]) (fun ((x87, _) : (Bool × Unit)) => []) (fun ((x87, _) : (Bool × Unit)) => []) (fun ((x87, _) : (Bool × Unit)) => []) (fun ((x87, _) : (Bool × Unit)) => M_L_GapsShift_j4 F x87) ?_ ?_
        · refine sxo_take (os := _) rfl ?_
          refine sxo_if (fun h82 => ?_) (fun h82 => ?_)
          · refine sxo_isT (k := 56) rfl h82 ?_
            refine sxo_skip rfl rfl rfl ?_
            refine sxo_skip rfl rfl rfl ?_
            refine sxo_skip rfl rfl rfl ?_
            refine sxo_skip rfl rfl rfl ?_
            refine sxo_skip rfl rfl rfl ?_
            refine sxo_skip rfl rfl rfl ?_
            refine sxo_skip rfl rfl rfl ?_
            refine sxo_pick (b := true) rfl rfl rfl rfl ?_
            refine sxo_nil ?_
            exact sxq_meetP (true, ()) (lk_cons rfl lk_nil) .nil .nil fk_nil
          · refine sxo_isF (k := 56) rfl h82 ?_
            refine sxo_move rfl rfl rfl ?_
            refine sxo_eql rfl rfl rfl rfl ?_
            refine sxo_move rfl rfl rfl ?_
            refine sxo_join 4 (fun ((x90, _) : (Bool × Unit)) => [(56, .bool false), (63, .bool x90)]) (fun ((x90, _) : (Bool × Unit)) => []) (fun ((x90, _) : (Bool × Unit)) => []) (fun ((x90, _) : (Bool × Unit)) => []) (fun ((x90, _) : (Bool × Unit)) => M_L_GapsShift_j5 F x90) ?_ ?_
            · refine sxo_take (os := _) rfl ?_
              refine sxo_if (fun h88 => ?_) (fun h88 => ?_)
              · refine sxo_isT (k := 59) rfl h88 ?_
                refine sxo_move rfl rfl rfl ?_
                refine sxo_move rfl rfl rfl ?_
                refine sxo_call ent24 rfl rfl rfl (fun x91 e91 => C_R_SameNums F x6.1 a7 c8 x79.1 a80 c81 x91 e91) (.consR 1 (Ro (eI .u64) 46 1 (.slice a7 x6.1.length c8) x6.1) rfl (.consR 0 (Ro (eI .u64) 46 1 (.slice a80 x79.1.length c81) x79.1) rfl .nil)) (fun x91 e91 => ?_)
                intro _
                refine sxo_pick (b := true) rfl rfl rfl rfl ?_
                refine sxo_nil ?_
                exact sxq_meetP (x91, ()) (lk_cons rfl (lk_cons rfl lk_nil)) .nil .nil fk_nil
              · refine sxo_isF (k := 59) rfl h88 ?_
                refine sxo_skip rfl rfl rfl ?_
                refine sxo_skip rfl rfl rfl ?_
                refine sxo_skip rfl rfl rfl ?_
                refine sxo_pick (b := false) rfl rfl rfl rfl ?_
                refine sxo_nil ?_
                exact sxq_meetP (false, ()) (lk_cons rfl (lk_cons rfl lk_nil)) .nil .nil fk_nil
            · rintro ⟨x90, _⟩
              try dsimp only
              refine sxo_take (os := _) rfl ?_
              refine sxo_pick (b := false) rfl rfl rfl rfl ?_
              refine sxo_nil ?_
              exact sxq_meetP (x90, ()) (lk_cons rfl lk_nil) .nil .nil fk_nil
        · rintro ⟨x87, _⟩
          try dsimp only
          refine sxo_take (os := _) rfl ?_
          refine sxo_assign rfl rfl rfl ?_
          refine sxo_nil ?_
          refine sxq_next ?_
          refine sxc_ret ?_
          exact sxq_doneP () (.inl rfl) (res1 rfl rfl) (fun h => by subst h; rfl) (fun h => by subst h; exact .nil)
end Go.Proofs.Ytlnmibipnabdiaa
