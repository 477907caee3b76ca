/- Each Go function of this seat computes what its model says, part 2. -/
import Derived.Test.YtbdfbheddihefaaWalks
namespace Go.Proofs.Ytbdfbheddihefaa
open Go SX
theorem C_unary_From (F : Nat) (x1 : Int) (x2 : List Int) (a3 : Option Addr) (c4 : Nat) (x5 : Int) (r : (Int × Int × Bool)) (hm : M_unary_From F x1 x2 x5 = some r) :
    Pure Try.prog 51 [.agg #[.int .i64 x1, .slice a3 x2.length c4], .int .i64 x5] [Sl (eI .u8) 1 (.slice a3 x2.length c4) x2] Unit (fun _ => .tuple #[.int .u64 r.1, .int .i64 r.2.1, .bool r.2.2]) (fun _ => []) (fun _ => []) := by
  refine pure_of Try.func51 rfl Try.ntmps51 rfl hm (fun w => ?_)
  refine sxc_env (l' := [(0, .agg #[.int .i64 x1, .slice a3 x2.length c4]), (1, .int .i64 x5)]) rfl ?_
  refine sxc_seq ?_
  refine sxc_region ?_
  refine sxo_box rfl rfl rfl (fun g6 => ?_)
  refine sxo_assign rfl rfl rfl ?_
  refine sxo_assign rfl rfl rfl ?_
  refine sxo_assign rfl rfl rfl ?_
  refine sxo_nil ?_
  refine sxq_next ?_
  refine sxc_join (fun ((_, _) : (Unit × Unit)) => []) (fun ((_, _) : (Unit × Unit)) => []) (fun ((_, _) : (Unit × Unit)) => []) (fun ((_, _) : (Unit × Unit)) => []) (fun ((_, _) : (Unit × Unit)) => M_unary_From_j2 F) ?_ ?_
  · refine sxc_seq ?_
    refine sxc_region ?_
    refine sxo_move rfl rfl rfl ?_
    refine sxo_assign rfl rfl rfl ?_
    refine sxo_nil ?_
    refine sxq_next ?_
    refine sxc_block ?_
    refine sxc_loopP (fun ((x33, _) : (Int × Unit)) => [(1, .int .i64 x5), (2, .pointer (some ⟨g6, 0, none⟩)), (7, .int .i64 x33)]) (fun ((x33, _) : (Int × Unit)) => [⟨g6, 24, [.int .i64 x1, .slice a3 x2.length c4]⟩]) (fun ((x33, _) : (Int × Unit)) => []) (fun ((x33, _) : (Int × Unit)) => [Sl (eI .u8) 1 (.slice a3 x2.length c4) x2]) (fun k (s : (Int × Unit)) => M_unary_From_l3 F x1 x2 x5 k s.1) (x5, ()) F (lk_cons rfl (lk_cons rfl (lk_cons rfl lk_nil))) (.cons 0 rfl .nil) .nil (fk_cons 0 rfl fk_nil) (fun _ => rfl) ?_
    intro k40
    rintro ⟨x33, _⟩
    try dsimp only
    refine sxc_meq (m' := M_unary_From_b3 F x1 x2 x5 (M_unary_From_l3 F x1 x2 x5 k40) x33) rfl ?_
    refine sxc_seq ?_
    refine sxc_seq ?_
    refine sxc_region ?_
    refine sxo_move rfl rfl rfl ?_
    refine sxo_fieldAddr rfl rfl ff24_0 rfl ?_
    refine sxo_loadB (i := 0) rfl rfl tf3 rfl rfl (fun _ => rfl) rfl rfl ?_
    refine sxo_lss rfl rfl rfl rfl ?_
    refine sxo_nil ?_
    refine sxq_next ?_
    refine sxc_if rfl (fun h46 => ?_) (fun h46 => ?_)
    · refine sxc_skip ?_
      refine sxq_next ?_
      refine sxc_seq ?_
      refine sxc_block ?_
      refine sxc_seq ?_
      refine sxc_region ?_
      refine sxo_loadB (i := 0) rfl rfl tf24 rfl rfl (by simp) rfl rfl ?_
      refine sxo_move rfl rfl rfl ?_
      refine sxo_call ent60 rfl rfl rfl (fun x44 e44 => C_bits_At F x1 x2 a3 c4 x33 x44 e44) (.consF 0 rfl .nil) (fun x44 e44 => ?_)
      intro _
      refine sxo_eql rfl rfl rfl rfl ?_
      refine sxo_nil ?_
      refine sxq_next ?_
      refine sxc_if rfl (fun h45 => ?_) (fun h45 => ?_)
      · refine sxc_seq ?_
        refine sxc_region ?_
        refine sxo_move rfl rfl rfl ?_
        refine sxo_move rfl rfl rfl ?_
        refine sxo_sub rfl rfl rfl rfl ?_
        refine sxo_conv rfl Try.underlying3 Try.underlying45 rfl rfl ?_
        refine sxo_move rfl rfl rfl ?_
        refine sxo_add rfl rfl rfl rfl ?_
        refine sxo_assign rfl rfl rfl ?_
        refine sxo_assign rfl rfl rfl ?_
        refine sxo_assign rfl rfl rfl ?_
        refine sxo_nil ?_
        refine sxq_next ?_
        refine sxc_ret ?_
        refine sxq_blkR ?_
        refine sxq_thenR ?_
        refine sxq_thenR ?_
        refine sxq_blkR ?_
        refine sxq_thenR ?_
        exact sxq_doneP () (.inl rfl) (res3 rfl rfl rfl rfl) (fun h => by subst h; rfl) (fun h => by subst h; exact .nil)
      · refine sxc_skip ?_
        refine sxq_blkN ?_
        refine sxq_next ?_
        refine sxc_region ?_
        refine sxo_move rfl rfl rfl ?_
        refine sxo_add rfl rfl rfl rfl ?_
        refine sxo_assign rfl rfl rfl ?_
        refine sxo_nil ?_
        exact sxq_againP (iadd .i64 x33 1, ()) (lk_cons rfl (lk_cons rfl (lk_cons rfl lk_nil))) (.cons 0 rfl .nil) .nil (fk_cons 0 rfl fk_nil)
    · refine sxc_exit ?_
      refine sxq_thenX ?_
      refine sxq_thenX ?_
      refine sxq_blkX ?_
      exact sxq_meetP ((), ()) lk_nil .nil .nil fk_nil
  · rintro ⟨_, _⟩
    try dsimp only
    refine sxc_seq ?_
    refine sxc_region ?_
    refine sxo_assign rfl rfl rfl ?_
    refine sxo_assign rfl rfl rfl ?_
    refine sxo_assign rfl rfl rfl ?_
    refine sxo_nil ?_
    refine sxq_next ?_
    refine sxc_ret ?_
    exact sxq_doneP () (.inl rfl) (res3 rfl rfl rfl rfl) (fun h => by subst h; rfl) (fun h => by subst h; exact .nil)

theorem C_unary_Read (F : Nat) (x1 : Int) (x2 : List Int) (a3 : Option Addr) (c4 : Nat) (x5 : Int) (r : (Int × Int × Int)) (hm : M_unary_Read F x1 x2 x5 = some r) :
    Pure Try.prog 28 [.agg #[.int .i64 x1, .slice a3 x2.length c4], .int .i64 x5] [Sl (eI .u8) 1 (.slice a3 x2.length c4) x2] Unit (fun _ => .tuple #[.int .u64 r.1, .int .i64 r.2.1, .int .i64 r.2.2]) (fun _ => []) (fun _ => []) := by
  refine pure_of Try.func28 rfl Try.ntmps28 rfl hm (fun w => ?_)
  refine sxc_env (l' := [(0, .agg #[.int .i64 x1, .slice a3 x2.length c4]), (1, .int .i64 x5)]) rfl ?_
  refine sxc_seq ?_
  refine sxc_region ?_
  refine sxo_box rfl rfl rfl (fun g6 => ?_)
  refine sxo_assign rfl rfl rfl ?_
  refine sxo_assign rfl rfl rfl ?_
  refine sxo_assign rfl rfl rfl ?_
  refine sxo_nil ?_
  refine sxq_next ?_
  refine sxc_seq ?_
  refine sxc_region ?_
  refine sxo_loadB (i := 0) rfl rfl tf24 rfl rfl (by simp) rfl rfl ?_
  refine sxo_call ent42 rfl rfl rfl (fun x7 e7 => C_bits_Check F x1 x2 a3 c4 x7 e7) (.consF 0 rfl .nil) (fun x7 e7 => ?_)
  intro _
  refine sxo_assign rfl rfl rfl ?_
  refine sxo_nil ?_
  refine sxq_next ?_
  refine sxc_join (fun ((x13, _) : (Int × Unit)) => [(1, .int .i64 x5), (2, .pointer (some ⟨g6, 0, none⟩)), (7, .int .i64 x13)]) (fun ((x13, _) : (Int × Unit)) => [⟨g6, 24, [.int .i64 x1, .slice a3 x2.length c4]⟩]) (fun ((x13, _) : (Int × Unit)) => []) (fun ((x13, _) : (Int × Unit)) => [Sl (eI .u8) 1 (.slice a3 x2.length c4) x2]) (fun ((x13, _) : (Int × Unit)) => M_unary_Read_j2 F x1 x2 x5 x13) ?_ ?_
  · refine sxc_seq ?_
    refine sxc_region ?_
    refine sxo_move rfl rfl rfl ?_
    refine sxo_eql rfl rfl rfl rfl ?_
    refine sxo_move rfl rfl rfl ?_
    refine sxo_join 9 (fun ((x21, _) : (Bool × Unit)) => [(1, .int .i64 x5), (2, .pointer (some ⟨g6, 0, none⟩)), (7, .int .i64 x7), (24, .bool x21)]) (fun ((x21, _) : (Bool × Unit)) => [⟨g6, 24, [.int .i64 x1, .slice a3 x2.length c4]⟩]) (fun ((x21, _) : (Bool × Unit)) => []) (fun ((x21, _) : (Bool × Unit)) => [Sl (eI .u8) 1 (.slice a3 x2.length c4) x2]) (fun ((x21, _) : (Bool × Unit)) => M_unary_Read_j3 F x1 x2 x5 x7 x21) ?_ ?_
    · refine sxo_take (os := _) rfl ?_
      refine sxo_if (fun h19 => ?_) (fun h19 => ?_)
      · refine sxo_isT (k := 15) rfl h19 ?_
        refine sxo_move rfl rfl rfl ?_
        refine sxo_lss rfl rfl rfl rfl ?_
        refine sxo_move rfl rfl rfl ?_
        refine sxo_case 5 (decide (x5 < 0)) [(1, .int .i64 x5), (2, .pointer (some ⟨g6, 0, none⟩)), (7, .int .i64 x7), (15, .bool true), (23, .bool ((decide (x5 < 0)) || (decide (x1 < x5))))] (fun h23 => ?_) (fun h23 => ?_) ?_
        · refine sxo_take (os := _) rfl ?_
          refine sxo_isT (k := 18) rfl h23 ?_
          refine sxo_skip rfl rfl rfl ?_
          refine sxo_skip rfl rfl rfl ?_
          refine sxo_skip rfl rfl rfl ?_
          refine sxo_skip rfl rfl rfl ?_
          refine sxo_pick (b := true) rfl rfl rfl rfl ?_
          refine sxo_again (d := 23) (v := .bool ((decide (x5 < 0)) || (decide (x1 < x5)))) rfl (by rw [h23]; simp only [Bool.true_or]) ?_
          refine sxo_nil ?_
          exact sxq_case (lk_cons rfl (lk_cons rfl (lk_cons rfl (lk_cons rfl (lk_cons rfl lk_nil)))))
        · refine sxo_take (os := _) rfl ?_
          refine sxo_isF (k := 18) rfl h23 ?_
          refine sxo_move rfl rfl rfl ?_
          refine sxo_fieldAddr rfl rfl ff24_0 rfl ?_
          refine sxo_loadB (i := 0) rfl rfl tf3 rfl rfl (fun _ => rfl) rfl rfl ?_
          refine sxo_gtr rfl rfl rfl rfl ?_
          refine sxo_pick (b := false) rfl rfl rfl rfl ?_
          refine sxo_again (d := 23) (v := .bool ((decide (x5 < 0)) || (decide (x1 < x5)))) rfl (by rw [h23]; simp only [Bool.false_or]) ?_
          refine sxo_nil ?_
          exact sxq_case (lk_cons rfl (lk_cons rfl (lk_cons rfl (lk_cons rfl (lk_cons rfl lk_nil)))))
        refine sxo_take (os := _) rfl ?_
        refine sxo_pick (b := true) rfl rfl rfl rfl ?_
        refine sxo_nil ?_
        exact sxq_meetP (((decide (x5 < 0)) || (decide (x1 < x5))), ()) (lk_cons rfl (lk_cons rfl (lk_cons rfl (lk_cons rfl lk_nil)))) (.cons 0 rfl .nil) .nil (fk_cons 0 rfl fk_nil)
      · refine sxo_isF (k := 15) rfl h19 ?_
        refine sxo_skip rfl rfl rfl ?_
        refine sxo_skip rfl rfl rfl ?_
        refine sxo_skip rfl rfl rfl ?_
        refine sxo_skip rfl rfl rfl ?_
        refine sxo_skip rfl rfl rfl ?_
        refine sxo_skip rfl rfl rfl ?_
        refine sxo_skip rfl rfl rfl ?_
        refine sxo_skip rfl rfl rfl ?_
        refine sxo_pick (b := false) rfl rfl rfl rfl ?_
        refine sxo_nil ?_
        exact sxq_meetP (false, ()) (lk_cons rfl (lk_cons rfl (lk_cons rfl (lk_cons rfl lk_nil)))) (.cons 0 rfl .nil) .nil (fk_cons 0 rfl fk_nil)
    · rintro ⟨x21, _⟩
      try dsimp only
      refine sxo_take (os := _) rfl ?_
      refine sxo_nil ?_
      refine sxq_next ?_
      refine sxc_if rfl (fun h22 => ?_) (fun h22 => ?_)
      · refine sxc_region ?_
        refine sxo_assign rfl rfl rfl ?_
        refine sxo_nil ?_
        exact sxq_meetP (3, ()) (lk_cons rfl (lk_cons rfl (lk_cons rfl lk_nil))) (.cons 0 rfl .nil) .nil (fk_cons 0 rfl fk_nil)
      · refine sxc_skip ?_
        exact sxq_meetP (x7, ()) (lk_cons rfl (lk_cons rfl (lk_cons rfl lk_nil))) (.cons 0 rfl .nil) .nil (fk_cons 0 rfl fk_nil)
  · rintro ⟨x13, _⟩
    try dsimp only
    refine sxc_seq ?_
    refine sxc_seq ?_
    refine sxc_region ?_
    refine sxo_move rfl rfl rfl ?_
    refine sxo_neq rfl rfl rfl rfl ?_
    refine sxo_nil ?_
    refine sxq_next ?_
    refine sxc_if rfl (fun h18 => ?_) (fun h18 => ?_)
    · refine sxc_seq ?_
      refine sxc_region ?_
      refine sxo_move rfl rfl rfl ?_
      refine sxo_assign rfl rfl rfl ?_
      refine sxo_assign rfl rfl rfl ?_
      refine sxo_assign rfl rfl rfl ?_
      refine sxo_nil ?_
      refine sxq_next ?_
      refine sxc_ret ?_
      refine sxq_thenR ?_
      exact sxq_doneP () (.inl rfl) (res3 rfl rfl rfl rfl) (fun h => by subst h; rfl) (fun h => by subst h; exact .nil)
    · refine sxc_skip ?_
      refine sxq_next ?_
      refine sxc_seq ?_
      refine sxc_region ?_
      refine sxo_loadB (i := 0) rfl rfl tf24 rfl rfl (by simp) rfl rfl ?_
      refine sxo_move rfl rfl rfl ?_
      refine sxo_call ent51 rfl rfl rfl (fun x15 e15 => C_unary_From F x1 x2 a3 c4 x5 x15 e15) (.consF 0 rfl .nil) (fun x15 e15 => ?_)
      intro _
      refine sxo_move rfl rfl rfl ?_
      refine sxo_extract rfl rfl rfl rfl ?_
      refine sxo_extract rfl rfl rfl rfl ?_
      refine sxo_extract rfl rfl rfl rfl ?_
      refine sxo_assign rfl rfl rfl ?_
      refine sxo_assign rfl rfl rfl ?_
      refine sxo_assign rfl rfl rfl ?_
      refine sxo_nil ?_
      refine sxq_next ?_
      refine sxc_seq ?_
      refine sxc_seq ?_
      refine sxc_region ?_
      refine sxo_move rfl rfl rfl ?_
      refine sxo_not rfl rfl rfl ?_
      refine sxo_nil ?_
      refine sxq_next ?_
      refine sxc_if rfl (fun h17 => ?_) (fun h17 => ?_)
      · refine sxc_seq ?_
        refine sxc_region ?_
        refine sxo_assign rfl rfl rfl ?_
        refine sxo_assign rfl rfl rfl ?_
        refine sxo_assign rfl rfl rfl ?_
        refine sxo_nil ?_
        refine sxq_next ?_
        refine sxc_ret ?_
        refine sxq_thenR ?_
        exact sxq_doneP () (.inl rfl) (res3 rfl rfl rfl rfl) (fun h => by subst h; rfl) (fun h => by subst h; exact .nil)
      · refine sxc_skip ?_
        refine sxq_next ?_
        refine sxc_seq ?_
        refine sxc_region ?_
        refine sxo_move rfl rfl rfl ?_
        refine sxo_move rfl rfl rfl ?_
        refine sxo_assign rfl rfl rfl ?_
        refine sxo_assign rfl rfl rfl ?_
        refine sxo_assign rfl rfl rfl ?_
        refine sxo_nil ?_
        refine sxq_next ?_
        refine sxc_ret ?_
        exact sxq_doneP () (.inl rfl) (res3 rfl rfl rfl rfl) (fun h => by subst h; rfl) (fun h => by subst h; exact .nil)

theorem C_bits_places (F : Nat) (x1 : Int) (x2 : List Int) (a3 : Option Addr) (c4 : Nat) (x5 : Int) (x6 : Int) (r : Unit) (hm : M_bits_places F x1 x2 x5 x6 = some r) :
    PureM Try.prog 57 [.agg #[.int .i64 x1, .slice a3 x2.length c4], .int .i64 x5, .int .i64 x6] [] [] [Sl (eI .u8) 1 (.slice a3 x2.length c4) x2] (Nat × Nat × Nat) (fun g => .func (.func 64) #[] #[.pointer (some ⟨g.1, 0, none⟩), .pointer (some ⟨g.2.1, 0, none⟩), .pointer (some ⟨g.2.2, 0, none⟩)]) (fun g => [⟨g.1, 3, [.int .i64 x5]⟩, ⟨g.2.1, 3, [.int .i64 x6]⟩, ⟨g.2.2, 24, [.int .i64 x1, .slice a3 x2.length c4]⟩]) (fun _ => []) := by
  refine pureM_of Try.func57 rfl Try.ntmps57 rfl hm (fun w => ?_)
  refine sxc_env (l' := [(0, .agg #[.int .i64 x1, .slice a3 x2.length c4]), (1, .int .i64 x5), (2, .int .i64 x6)]) rfl ?_
  refine sxc_seq ?_
  refine sxc_region ?_
  refine sxo_box rfl rfl rfl (fun g7 => ?_)
  refine sxo_box rfl rfl rfl (fun g8 => ?_)
  refine sxo_box rfl rfl rfl (fun g9 => ?_)
  refine sxo_assign rfl rfl rfl ?_
  refine sxo_nil ?_
  refine sxq_next ?_
  refine sxc_seq ?_
  refine sxc_region ?_
  refine sxo_makeFunc rfl rfl rfl ?_
  refine sxo_assign rfl rfl rfl ?_
  refine sxo_nil ?_
  refine sxq_next ?_
  refine sxc_ret ?_
  exact sxq_doneM (g8, g9, g7) (.inl rfl) (res1 rfl rfl) (fun h => by subst h; rfl) (fun h => by subst h; exact (.cons 1 rfl (.cons 0 rfl (.cons 0 rfl .nil)))) (fun h => by subst h; exact .nil)

theorem C_bits_places_1 (F : Nat) {σ τ : Type} {J : Rounds σ τ} {yy : σ → Int → Option (σ ⊕ τ)} {L : Nat} (hY : YieldC Try.prog L (fun (p : Int) => [.int .u64 p]) J yy) (s0 : σ) (gs0 : J.γ) (g1 : Nat) (x2 : Int) (g3 : Nat) (x4 : Int) (g5 : Nat) (x6 : Int) (x7 : List Int) (a8 : Option Addr) (c9 : Nat) (r : σ ⊕ τ) (hm : M_bits_places_1 F yy x2 x4 x6 x7 s0 = some r) :
    PureM Try.prog 64 ([.func (.yield L) #[] #[], .pointer (some ⟨g1, 0, none⟩), .pointer (some ⟨g3, 0, none⟩), .pointer (some ⟨g5, 0, none⟩)]) ([⟨g1, 3, [.int .i64 x2]⟩, ⟨g3, 3, [.int .i64 x4]⟩, ⟨g5, 24, [.int .i64 x6, .slice a8 x7.length c9]⟩] ++ J.IB s0 gs0) (J.IR s0 gs0) [J.F, Sl (eI .u8) 1 (.slice a8 x7.length c9) x7] (J.G r) (fun _ => .tuple #[]) (fun g => [⟨g1, 3, [.int .i64 x2]⟩, ⟨g3, 3, [.int .i64 x4]⟩, ⟨g5, 24, [.int .i64 x6, .slice a8 x7.length c9]⟩] ++ J.bs r g) (fun g => J.rs r g) := by
  refine pureM_of Try.func64 rfl Try.ntmps64 rfl hm (fun w => ?_)
  refine sxc_env (l' := [(0, .func (.yield L) #[] #[]), (1, .pointer (some ⟨g1, 0, none⟩)), (2, .pointer (some ⟨g3, 0, none⟩)), (3, .pointer (some ⟨g5, 0, none⟩))]) rfl ?_
  refine sxc_seq ?_
  refine sxc_region ?_
  refine sxo_loadB (i := 0) rfl rfl tf3 rfl rfl (fun _ => rfl) rfl rfl ?_
  refine sxo_assign rfl rfl rfl ?_
  refine sxo_nil ?_
  refine sxq_next ?_
  refine sxc_block ?_
  refine sxc_loopP (fun (((x22, x23), g24) : ((Int × σ) × J.γ)) => [(0, .func (.yield L) #[] #[]), (2, .pointer (some ⟨g3, 0, none⟩)), (3, .pointer (some ⟨g5, 0, none⟩)), (5, .int .i64 x22)]) (fun (((x22, x23), g24) : ((Int × σ) × J.γ)) => [⟨g1, 3, [.int .i64 x2]⟩, ⟨g3, 3, [.int .i64 x4]⟩, ⟨g5, 24, [.int .i64 x6, .slice a8 x7.length c9]⟩] ++ J.IB x23 g24) (fun (((x22, x23), g24) : ((Int × σ) × J.γ)) => [] ++ J.IR x23 g24) (fun (((x22, x23), g24) : ((Int × σ) × J.γ)) => [Sl (eI .u8) 1 (.slice a8 x7.length c9) x7, J.F]) (fun k (s : ((Int × σ) × J.γ)) => M_bits_places_1_l1 F yy x4 x6 x7 k s.1) ((x2, s0), gs0) F (lk_cons rfl (lk_cons rfl (lk_cons rfl (lk_cons rfl lk_nil)))) (.cons 0 rfl (.cons 0 rfl (.cons 0 rfl (pick_rest 0 rfl)))) (pick_rest 0 rfl) (fk_cons 1 rfl (fk_cons 0 rfl fk_nil)) (fun _ => rfl) ?_
  intro k37
  rintro ⟨⟨x22, x23⟩, g24⟩
  try dsimp only
  refine sxc_meq (m' := M_bits_places_1_b1 F yy x4 x6 x7 (M_bits_places_1_l1 F yy x4 x6 x7 k37) x22 x23) rfl ?_
  refine sxc_seq ?_
  refine sxc_seq ?_
  refine sxc_region ?_
  refine sxo_move rfl rfl rfl ?_
  refine sxo_loadB (i := 1) rfl rfl tf3 rfl rfl (fun _ => rfl) rfl rfl ?_
  refine sxo_lss rfl rfl rfl rfl ?_
  refine sxo_nil ?_
  refine sxq_next ?_
  refine sxc_if rfl (fun h49 => ?_) (fun h49 => ?_)
  · refine sxc_skip ?_
    refine sxq_next ?_
    refine sxc_seq ?_
    refine sxc_block ?_
    refine sxc_seq ?_
    refine sxc_region ?_
    refine sxo_move rfl rfl rfl ?_
    refine sxo_loadB (i := 2) rfl rfl tf24 rfl rfl (by simp) rfl rfl ?_
    refine sxo_move rfl rfl rfl ?_
    refine sxo_call ent60 rfl rfl rfl (fun x44 e44 => C_bits_At F x6 x7 a8 c9 x22 x44 e44) (.consF 0 rfl .nil) (fun x44 e44 => ?_)
    intro _
    refine sxo_yield hY x23 x44 g24 (B1 := [⟨g1, 3, [.int .i64 x2]⟩, ⟨g3, 3, [.int .i64 x4]⟩, ⟨g5, 24, [.int .i64 x6, .slice a8 x7.length c9]⟩]) (R1 := []) (j := 1) rfl rfl rfl rfl rfl rfl rfl (fun x45 _ g47 => ?_) (fun x46 _ g47 => ?_)
    · refine sxo_not rfl rfl rfl ?_
      refine sxo_nil ?_
      refine sxq_next ?_
      refine sxc_cond (b := false) rfl (fun h => by cases h) (fun _ => ?_)
      refine sxc_skip ?_
      refine sxq_blkN ?_
      refine sxq_next ?_
      refine sxc_region ?_
      refine sxo_move rfl rfl rfl ?_
      refine sxo_add rfl rfl rfl rfl ?_
      refine sxo_assign rfl rfl rfl ?_
      refine sxo_nil ?_
      exact sxq_againP ((iadd .i64 x22 1, x45), g47) (lk_cons rfl (lk_cons rfl (lk_cons rfl (lk_cons rfl lk_nil)))) (.cons 0 rfl (.cons 0 rfl (.cons 0 rfl (pick_rest 0 rfl)))) (pick_rest 0 rfl) (fk_cons 0 rfl (fk_cons 1 rfl fk_nil))
    · refine sxo_not rfl rfl rfl ?_
      refine sxo_nil ?_
      refine sxq_next ?_
      refine sxc_cond (b := true) rfl (fun _ => ?_) (fun h => by cases h)
      refine sxc_ret ?_
      refine sxq_blkR ?_
      refine sxq_thenR ?_
      refine sxq_thenR ?_
      refine sxq_blkR ?_
      exact sxq_doneI (B0 := [⟨g1, 3, [.int .i64 x2]⟩, ⟨g3, 3, [.int .i64 x4]⟩, ⟨g5, 24, [.int .i64 x6, .slice a8 x7.length c9]⟩]) (x := .inr x46) g47 (.inl rfl) (res0 rfl) (.cons 0 rfl (.cons 0 rfl (.cons 0 rfl (pick_rest 0 rfl)))) (pick_rest 0 rfl)
  · refine sxc_exit ?_
    refine sxq_thenX ?_
    refine sxq_thenX ?_
    refine sxq_blkX ?_
    exact sxq_doneI (B0 := [⟨g1, 3, [.int .i64 x2]⟩, ⟨g3, 3, [.int .i64 x4]⟩, ⟨g5, 24, [.int .i64 x6, .slice a8 x7.length c9]⟩]) (x := .inl x23) g24 (.inr rfl) (res0 rfl) (.cons 0 rfl (.cons 0 rfl (.cons 0 rfl (pick_rest 0 rfl)))) (pick_rest 0 rfl)

theorem C_bits_Both (F : Nat) (x1 : Int) (x2 : List Int) (a3 : Option Addr) (c4 : Nat) (x5 : Int) (x6 : List Int) (a7 : Option Addr) (c8 : Nat) (r : (Int × List Int)) (hm : M_bits_Both F x1 x2 x5 x6 = some r) :
    PureM Try.prog 52 [.agg #[.int .i64 x1, .slice a3 x2.length c4], .agg #[.int .i64 x5, .slice a7 x6.length c8]] [] [] [Sl (eI .u8) 1 (.slice a3 x2.length c4) x2, Sl (eI .u8) 1 (.slice a7 x6.length c8) x6] (Option Addr × Nat) (fun g => .agg #[.int .i64 r.1, .slice g.1 r.2.length g.2]) (fun _ => []) (fun g => [Ro (eI .u8) 5 1 (.slice g.1 r.2.length g.2) r.2]) := by
  refine pureX_of Try.func52 rfl Try.ntmps52 rfl hm (fun w => ?_)
  refine sxc_env (l' := [(0, .agg #[.int .i64 x1, .slice a3 x2.length c4]), (1, .agg #[.int .i64 x5, .slice a7 x6.length c8])]) rfl ?_
  refine sxc_seq ?_
  refine sxc_region ?_
  refine sxo_box rfl rfl rfl (fun g9 => ?_)
  refine sxo_box rfl rfl rfl (fun g10 => ?_)
  refine sxo_alloc rfl tf24 rfl (fun g11 => ?_)
  refine sxo_nil ?_
  refine sxq_next ?_
  refine sxc_seq ?_
  refine sxc_region ?_
  refine sxo_loadB (i := 2) rfl rfl tf24 rfl rfl (by simp) rfl rfl ?_
  refine sxo_callM ent63 rfl rfl rfl (fun x12 e12 => C_bits_own F x1 x2 a3 c4 x12 e12) .nil .nil (.consF 0 rfl .nil) (fun x12 e12 => ?_)
  rintro ⟨⟨a13, c14⟩, g15⟩
  refine sxo_alloc rfl tf81 rfl (fun g16 => ?_)
  refine sxo_storeB (i := 0) rfl rfl rfl tf81 rfl rfl rfl rfl rfl ?_
  refine sxo_nil ?_
  refine sxq_next ?_
  refine sxc_seq ?_
  refine sxc_seq ?_
  refine sxc_region ?_
  refine sxo_loadB (i := 3) rfl rfl tf24 rfl rfl (by simp) rfl rfl ?_
  refine sxo_fieldAddr rfl rfl ff24_0 rfl ?_
  refine sxo_loadB (i := 3) rfl rfl tf3 rfl rfl (fun _ => rfl) rfl rfl ?_
  refine sxo_callM ent57 rfl rfl rfl (fun x37 e37 => C_bits_places F x5 x6 a7 c8 0 x5 x37 e37) .nil .nil (.consF 1 rfl .nil) (fun x37 e37 => ?_)
  rintro ⟨g38, g39, g40⟩
  refine sxo_nil ?_
  refine sxq_next ?_
  refine sxc_block ?_
  refine sxc_range (encs := (fun (p : Int) => [.int .u64 p])) (y := (fun ((x45, x48) : (Int × List Int)) (x53 : Int) => M_bits_Both_r2 F x45 x48 x53)) (lb := [.pointer (some ⟨g38, 0, none⟩), .pointer (some ⟨g39, 0, none⟩), .pointer (some ⟨g40, 0, none⟩)]) (fun ((x45, x48) : (Int × List Int)) ((a46, c47) : (Option Addr × Nat)) => [⟨g16, 81, [.pointer (some ⟨g15, 0, none⟩)]⟩, ⟨g15, 83, [.int .i64 x45, .slice a46 x48.length c47]⟩, ⟨g11, 24, [.int .i64 0, .slice none 0 0]⟩, ⟨g10, 24, [.int .i64 x5, .slice a7 x6.length c8]⟩, ⟨g9, 24, [.int .i64 x1, .slice a3 x2.length c4]⟩]) (fun ((x45, x48) : (Int × List Int)) ((a46, c47) : (Option Addr × Nat)) => [Ro (eI .u8) 5 1 (.slice a46 x48.length c47) x48]) (fun (_ : Empty) (_ : Unit) => []) (fun (_ : Empty) (_ : Unit) => []) (fun _ => .skip) (x12.1, x12.2) (a13, c14) rfl ent64 (fun _ => rfl) rfl (.cons 0 rfl (.cons 0 rfl (.cons 0 rfl .nil))) (.cons 0 rfl (.cons 0 rfl (.cons 0 rfl (.cons 0 rfl (.cons 0 rfl .nil))))) (.cons 0 rfl .nil) (.consF 1 rfl .nil) (fun z hz _ _ _ hY => C_bits_places_1 F hY (x12.1, x12.2) (a13, c14) g38 0 g39 x5 g40 x5 x6 a7 c8 z hz) ?_ ?_ ?_
  · rintro rc2 L2 D2 ⟨x45, x48⟩ ⟨a46, c47⟩ x53 z w M _
    try dsimp only
    refine sxc_less [(0, .agg #[.int .i64 x1, .slice a3 x2.length c4]), (1, .agg #[.int .i64 x5, .slice a7 x6.length c8]), (2, .pointer (some ⟨g9, 0, none⟩)), (3, .pointer (some ⟨g10, 0, none⟩)), (4, .pointer (some ⟨g11, 0, none⟩)), (5, .pointer (some ⟨g16, 0, none⟩)), (7, .agg #[.int .i64 x1, .slice a3 x2.length c4]), (8, .pointer (some ⟨g15, 0, none⟩)), (9, .agg #[.int .i64 x5, .slice a7 x6.length c8]), (10, .pointer (some ⟨g10, 0, none⟩)), (11, .int .i64 x5), (12, .func (.func 64) #[] #[.pointer (some ⟨g38, 0, none⟩), .pointer (some ⟨g39, 0, none⟩), .pointer (some ⟨g40, 0, none⟩)]), (13, .int .u64 x53)] (lk_cons rfl (lk_cons rfl (lk_cons rfl (lk_cons rfl (lk_cons rfl (lk_cons rfl (lk_cons rfl (lk_cons rfl (lk_cons rfl (lk_cons rfl (lk_cons rfl (lk_cons rfl (lk_cons rfl lk_nil))))))))))))) ?_
    refine sxc_region ?_
    refine sxo_assign rfl rfl rfl ?_
    refine sxo_nil ?_
    refine sxq_begin (i := 5) rfl ?_
    refine sxc_block ?_
    refine sxc_region ?_
    refine sxo_loadB (i := 0) rfl rfl tf81 rfl rfl (fun _ => rfl) rfl rfl ?_
    refine sxo_move rfl rfl rfl ?_
    refine sxo_callM ent58 rfl rfl rfl (fun x54 e54 => C_bits_writer_bit F g15 x45 x48 a46 c47 x53 x54 e54) (.cons 1 rfl .nil) (.cons 0 rfl .nil) .nil (fun x54 e54 => ?_)
    rintro ⟨a55, c56⟩
    refine sxo_nil ?_
    refine sxq_blkN ?_
    exact sxq_round (rc := rc2) rfl (.cons 5 rfl .nil) rfl (a55, c56) (.cons 2 rfl (.cons 1 rfl (.cons 1 rfl (.cons 1 rfl (.cons 1 rfl (.cons 0 rfl (.cons 0 rfl .nil))))))) (.cons 0 rfl .nil)
  · rintro ⟨x45, x48⟩ _ ⟨a46, c47⟩ D2
    try dsimp only
    refine sxq_blkN ?_
    refine sxq_next ?_
    refine sxc_seq ?_
    refine sxc_region ?_
    refine sxo_loadB (i := 4) rfl rfl tf81 rfl rfl (fun _ => rfl) rfl rfl ?_
    refine sxo_nilCheck rfl rfl rfl ?_
    refine sxo_fieldAddr rfl rfl ff83_0 rfl ?_
    refine sxo_loadB (i := 5) rfl rfl tf24 rfl rfl (by simp) rfl rfl ?_
    refine sxo_storeB (i := 6) rfl rfl rfl tf24 rfl rfl rfl rfl rfl ?_
    refine sxo_nil ?_
    refine sxq_next ?_
    refine sxc_ret ?_
    exact sxq_doneX [D2] (a46, c47) (.inl rfl) rfl (.cons 0 rfl .nil) (resL (rs := [.cell 4 24]) rfl (.cell (i := 5) rfl tf24 rfl rfl (by simp) rfl ResOk.nil) rfl) (fun h => by subst h; rfl) (fun h => by subst h; exact .nil) (fun h => by subst h; exact (.cons 0 rfl .nil))
  · intro t; exact t.elim

theorem C_unary_Many (F : Nat) (x1 : List Int) (a2 : Option Addr) (c3 : Nat) (r : (Int × List Int × Int)) (hm : M_unary_Many F x1 = some r) :
    Pure Try.prog 29 [.slice a2 x1.length c3] [Sl (eI .u64) 1 (.slice a2 x1.length c3) x1] (Option Addr × Nat) (fun g => .tuple #[.agg #[.int .i64 r.1, .slice g.1 r.2.1.length g.2], .int .i64 r.2.2]) (fun g => [Ro (eI .u8) 5 1 (.slice g.1 r.2.1.length g.2) r.2.1]) (fun _ => []) := by
  refine pure_of Try.func29 rfl Try.ntmps29 rfl hm (fun w => ?_)
  refine sxc_env (l' := [(0, .slice a2 x1.length c3)]) rfl ?_
  refine sxc_seq ?_
  refine sxc_region ?_
  refine sxo_alloc rfl tf24 rfl (fun g4 => ?_)
  refine sxo_assign rfl rfl rfl ?_
  refine sxo_nil ?_
  refine sxq_next ?_
  refine sxc_seq ?_
  refine sxc_region ?_
  refine sxo_assign rfl rfl rfl ?_
  refine sxo_nil ?_
  refine sxq_next ?_
  refine sxc_join (fun ((x49, _) : (Int × Unit)) => [(0, .slice a2 x1.length c3), (2, .pointer (some ⟨g4, 0, none⟩)), (4, .int .u64 x49)]) (fun ((x49, _) : (Int × Unit)) => [⟨g4, 24, [.int .i64 0, .slice none 0 0]⟩]) (fun ((x49, _) : (Int × Unit)) => []) (fun ((x49, _) : (Int × Unit)) => [Sl (eI .u64) 1 (.slice a2 x1.length c3) x1]) (fun ((x49, _) : (Int × Unit)) => M_unary_Many_j2 F x1 x49) ?_ ?_
  · refine sxc_seq ?_
    refine sxc_region ?_
    refine sxo_move rfl rfl rfl ?_
    refine sxo_len rfl Try.underlying46 rfl rfl ?_
    refine sxo_move rfl rfl rfl ?_
    refine sxo_nil ?_
    refine sxq_next ?_
    refine sxc_block ?_
    refine sxc_loopP (fun (((x205, x206), _) : ((Int × Int) × Unit)) => [(0, .slice a2 x1.length c3), (2, .pointer (some ⟨g4, 0, none⟩)), (4, .int .u64 x205), (10, .slice a2 x1.length c3), (11, .int .i64 (x1.length : Int)), (12, .int .i64 x206)]) (fun (((x205, x206), _) : ((Int × Int) × Unit)) => [⟨g4, 24, [.int .i64 0, .slice none 0 0]⟩]) (fun (((x205, x206), _) : ((Int × Int) × Unit)) => []) (fun (((x205, x206), _) : ((Int × Int) × Unit)) => [Sl (eI .u64) 1 (.slice a2 x1.length c3) x1]) (fun k (s : ((Int × Int) × Unit)) => M_unary_Many_l6 F x1 k s.1) ((0, 0), ()) F (lk_cons rfl (lk_cons rfl (lk_cons rfl (lk_cons rfl (lk_cons rfl (lk_cons rfl lk_nil)))))) (.cons 0 rfl .nil) .nil (fk_cons 0 rfl fk_nil) (fun _ => rfl) ?_
    intro k221
    rintro ⟨⟨x205, x206⟩, _⟩
    try dsimp only
    refine sxc_meq (m' := M_unary_Many_b6 F x1 (M_unary_Many_l6 F x1 k221) x205 x206) rfl ?_
    refine sxc_seq ?_
    refine sxc_region ?_
    refine sxo_lss rfl rfl rfl rfl ?_
    refine sxo_nil ?_
    refine sxq_next ?_
    refine sxc_seq ?_
    refine sxc_if rfl (fun h235 => ?_) (fun h235 => ?_)
    · refine sxc_skip ?_
      refine sxq_next ?_
      refine sxc_seq ?_
      refine sxc_block ?_
      refine sxc_seq ?_
      refine sxc_region ?_
      refine sxo_indexF (j := 0) (eI_ok .u64) (by decide) rfl Try.underlying46 tf45 rfl rfl rfl rfl (fun x229 e229 b230 o231 => ?_)
      refine sxo_loadF (j := 0) rfl rfl tf45 rfl rfl (fun _ => rfl) rfl rfl ?_
      refine sxo_assign rfl rfl rfl ?_
      refine sxo_nil ?_
      refine sxq_next ?_
      refine sxc_seq ?_
      refine sxc_seq ?_
      refine sxc_region ?_
      refine sxo_move rfl rfl rfl ?_
      refine sxo_geq rfl rfl rfl rfl ?_
      refine sxo_nil ?_
      refine sxq_next ?_
      refine sxc_if rfl (fun h234 => ?_) (fun h234 => ?_)
      · refine sxc_seq ?_
        refine sxc_region ?_
        refine sxo_build (cells := [.int .i64 0, .slice none 0 0]) rfl st24 rfl (by kernel_rfl) rfl ?_
        refine sxo_storeB (i := 0) rfl rfl rfl tf24 rfl rfl rfl rfl rfl ?_
        refine sxo_assign rfl rfl rfl ?_
        refine sxo_nil ?_
        refine sxq_next ?_
        refine sxc_ret ?_
        refine sxq_thenR ?_
        refine sxq_blkR ?_
        refine sxq_thenR ?_
        refine sxq_thenR ?_
        refine sxq_blkR ?_
        refine sxq_thenR ?_
        refine sxq_nilrow Int (eI .u8) 5 1 ?_
        exact sxq_doneP (none, 0) (.inl rfl) (resL (rs := [.cell 2 24, .tmp 3]) rfl (.cell (i := 0) rfl tf24 rfl rfl (by simp) rfl (.tmp rfl ResOk.nil)) rfl) (fun h => by subst h; rfl) (fun h => by subst h; exact (.cons 0 rfl .nil))
      · refine sxc_skip ?_
        refine sxq_next ?_
        refine sxc_region ?_
        refine sxo_move rfl rfl rfl ?_
        refine sxo_move rfl rfl rfl ?_
        refine sxo_add rfl rfl rfl rfl ?_
        refine sxo_add rfl rfl rfl rfl ?_
        refine sxo_min rfl rfl rfl rfl ?_
        refine sxo_assign rfl rfl rfl ?_
        refine sxo_lett (fun x233 e233 => ?_)
        refine sxo_again (d := 4) (v := .int .u64 x233) rfl (by rw [e233]) ?_
        refine sxo_nil ?_
        refine sxq_blkN ?_
        refine sxq_next ?_
        refine sxc_region ?_
        refine sxo_add rfl rfl rfl rfl ?_
        refine sxo_move rfl rfl rfl ?_
        refine sxo_nil ?_
        exact sxq_againP ((x233, iadd .i64 x206 1), ()) (lk_cons rfl (lk_cons rfl (lk_cons rfl (lk_cons rfl (lk_cons rfl (lk_cons rfl lk_nil)))))) (.cons 0 rfl .nil) .nil (fk_cons 1 rfl fk_nil)
    · refine sxc_exit ?_
      refine sxq_thenX ?_
      refine sxq_thenX ?_
      refine sxq_blkX ?_
      exact sxq_meetP (x205, ()) (lk_cons rfl (lk_cons rfl (lk_cons rfl lk_nil))) (.cons 0 rfl .nil) .nil (fk_cons 0 rfl fk_nil)
  · rintro ⟨x49, _⟩
    try dsimp only
    refine sxc_seq ?_
    refine sxc_seq ?_
    refine sxc_region ?_
    refine sxo_move rfl rfl rfl ?_
    refine sxo_gtr rfl rfl rfl rfl ?_
    refine sxo_nil ?_
    refine sxq_next ?_
    refine sxc_if rfl (fun h190 => ?_) (fun h190 => ?_)
    · refine sxc_seq ?_
      refine sxc_region ?_
      refine sxo_build (cells := [.int .i64 0, .slice none 0 0]) rfl st24 rfl (by kernel_rfl) rfl ?_
      refine sxo_storeB (i := 0) rfl rfl rfl tf24 rfl rfl rfl rfl rfl ?_
      refine sxo_assign rfl rfl rfl ?_
      refine sxo_nil ?_
      refine sxq_next ?_
      refine sxc_ret ?_
      refine sxq_thenR ?_
      refine sxq_nilrow Int (eI .u8) 5 1 ?_
      exact sxq_doneP (none, 0) (.inl rfl) (resL (rs := [.cell 2 24, .tmp 3]) rfl (.cell (i := 0) rfl tf24 rfl rfl (by simp) rfl (.tmp rfl ResOk.nil)) rfl) (fun h => by subst h; rfl) (fun h => by subst h; exact (.cons 0 rfl .nil))
    · refine sxc_skip ?_
      refine sxq_next ?_
      refine sxc_seq ?_
      refine sxc_region ?_
      refine sxo_build (cells := [.int .i64 0, .slice none 0 0]) rfl st24 rfl (by kernel_rfl) rfl ?_
      refine sxo_alloc rfl tf24 rfl (fun g51 => ?_)
      refine sxo_storeB (i := 0) rfl rfl rfl tf24 rfl rfl rfl rfl rfl ?_
      refine sxo_nil ?_
      refine sxq_next ?_
      refine sxc_join (fun (((x119, x122), (a120, c121)) : ((Int × List Int) × (Option Addr × Nat))) => [(2, .pointer (some ⟨g4, 0, none⟩)), (7, .pointer (some ⟨g51, 0, none⟩))]) (fun (((x119, x122), (a120, c121)) : ((Int × List Int) × (Option Addr × Nat))) => [⟨g51, 24, [.int .i64 x119, .slice a120 x122.length c121]⟩, ⟨g4, 24, [.int .i64 0, .slice none 0 0]⟩]) (fun (((x119, x122), (a120, c121)) : ((Int × List Int) × (Option Addr × Nat))) => [Ro (eI .u8) 5 1 (.slice a120 x122.length c121) x122]) (fun (((x119, x122), (a120, c121)) : ((Int × List Int) × (Option Addr × Nat))) => []) (fun (((x119, x122), _) : ((Int × List Int) × (Option Addr × Nat))) => M_unary_Many_j4 F x119 x122) ?_ ?_
      · refine sxc_seq ?_
        refine sxc_region ?_
        refine sxo_move rfl rfl rfl ?_
        refine sxo_len rfl Try.underlying46 rfl rfl ?_
        refine sxo_move rfl rfl rfl ?_
        refine sxo_nil ?_
        refine sxq_next ?_
        refine sxc_block ?_
        refine sxc_nilrow Int (eI .u8) 5 1 ?_
        refine sxc_loopP (fun (((x144, x145, x148), (a146, c147)) : ((Int × Int × List Int) × (Option Addr × Nat))) => [(2, .pointer (some ⟨g4, 0, none⟩)), (7, .pointer (some ⟨g51, 0, none⟩)), (29, .slice a2 x1.length c3), (30, .int .i64 (x1.length : Int)), (31, .int .i64 x144)]) (fun (((x144, x145, x148), (a146, c147)) : ((Int × Int × List Int) × (Option Addr × Nat))) => [⟨g51, 24, [.int .i64 x145, .slice a146 x148.length c147]⟩, ⟨g4, 24, [.int .i64 0, .slice none 0 0]⟩]) (fun (((x144, x145, x148), (a146, c147)) : ((Int × Int × List Int) × (Option Addr × Nat))) => [Ro (eI .u8) 5 1 (.slice a146 x148.length c147) x148]) (fun (((x144, x145, x148), (a146, c147)) : ((Int × Int × List Int) × (Option Addr × Nat))) => [Sl (eI .u64) 1 (.slice a2 x1.length c3) x1]) (fun k (s : ((Int × Int × List Int) × (Option Addr × Nat))) => M_unary_Many_l5 F x1 k s.1) ((0, 0, ([] : List Int)), (none, 0)) F (lk_cons rfl (lk_cons rfl (lk_cons rfl (lk_cons rfl (lk_cons rfl lk_nil))))) (.cons 0 rfl (.cons 0 rfl .nil)) (.cons 0 rfl .nil) (fk_cons 0 rfl fk_nil) (fun _ => rfl) ?_
        intro k169
        rintro ⟨⟨x144, x145, x148⟩, ⟨a146, c147⟩⟩
        try dsimp only
        refine sxc_meq (m' := M_unary_Many_b5 F x1 (M_unary_Many_l5 F x1 k169) x144 x145 x148) rfl ?_
        refine sxc_seq ?_
        refine sxc_region ?_
        refine sxo_lss rfl rfl rfl rfl ?_
        refine sxo_nil ?_
        refine sxq_next ?_
        refine sxc_seq ?_
        refine sxc_if rfl (fun h189 => ?_) (fun h189 => ?_)
        · refine sxc_skip ?_
          refine sxq_next ?_
          refine sxc_seq ?_
          refine sxc_block ?_
          refine sxc_seq ?_
          refine sxc_region ?_
          refine sxo_indexF (j := 0) (eI_ok .u64) (by decide) rfl Try.underlying46 tf45 rfl rfl rfl rfl (fun x180 e180 b181 o182 => ?_)
          refine sxo_loadF (j := 0) rfl rfl tf45 rfl rfl (fun _ => rfl) rfl rfl ?_
          refine sxo_assign rfl rfl rfl ?_
          refine sxo_nil ?_
          refine sxq_next ?_
          refine sxb_draw mixed [4] [⟨g51, 24, [.int .i64 x145, .slice a146 x148.length c147]⟩, ⟨g4, 24, [.int .i64 0, .slice none 0 0]⟩] [CellsAt b181 o182 ((eI .u64) x180), Sl (eI .u64) 1 (.slice a2 x1.length c3) x1] (.cons 0 rfl (.cons 0 rfl .nil)) (gk_F 0 rfl (gk_F 1 rfl gk_nil)) 5 rfl ?_
          refine sxb_take 0 (.agg #[.int .i64 x145, .slice a146 x148.length c147]) [[4]] rfl rfl rfl rfl (by kernel_rfl) (by kernel_rfl) (by kernel_rfl) (by kernel_rfl) (by kernel_rfl) (by kernel_rfl) rfl (show _ = #[true, false, false, false, false] from rfl) (yv_loadB (i := 0) rfl tf24 rfl rfl (by simp) rfl) ?_
          refine sxb_takeP 1 (.int .u64 x180) rfl rfl rfl rfl (by kernel_rfl) (by kernel_rfl) (by kernel_rfl) (by kernel_rfl) (by kernel_rfl) rfl (show _ = #[true, true, false, false, false] from rfl) (yv_pv rfl) ?_
          refine sxb_step 2 rfl (by kernel_rfl) (show _ = #[true, true, true, false, false] from rfl) ?_
          refine sxo_call ent50 rfl rfl rfl (fun x183 e183 => C_unary_Raw F x180 x183 e183) .nil (fun x183 e183 => ?_)
          rintro ⟨a184, c185⟩
          refine sxo_nil ?_
          refine sxq_anyB (.cons 0 rfl (.cons 0 rfl .nil)) (gk_F 0 rfl (gk_F 1 rfl gk_nil)) ?_
          refine sxb_step 3 rfl (by kernel_rfl) (show _ = #[true, true, true, true, false] from rfl) ?_
          refine sxo_callM ent52 rfl rfl rfl (fun x186 e186 => C_bits_Both F x145 x148 a146 c147 x183.1 x183.2 a184 c185 x186 e186) .nil .nil (.consR 1 (Ro (eI .u8) 5 1 (.slice a146 x148.length c147) x148) rfl (.consR 0 (Ro (eI .u8) 5 1 (.slice a184 x183.2.length c185) x183.2) rfl .nil)) (fun x186 e186 => ?_)
          rintro ⟨a187, c188⟩
          refine sxo_nil ?_
          refine sxq_anyB (.cons 0 rfl (.cons 0 rfl .nil)) (gk_F 0 rfl (gk_F 1 rfl gk_nil)) ?_
          refine sxb_step 4 rfl (by kernel_rfl) (show _ = #[true, true, true, true, true] from rfl) ?_
          refine sxo_storeB (i := 0) rfl rfl rfl tf24 rfl rfl rfl rfl rfl ?_
          refine sxo_nil ?_
          refine sxq_anyW 4 rfl rfl ?_
          refine sxb_done (by kernel_rfl) ?_
          refine sxq_np ?_ (by intro c h; cases h)
          refine sxq_blkN ?_
          refine sxq_next ?_
          refine sxc_region ?_
          refine sxo_add rfl rfl rfl rfl ?_
          refine sxo_move rfl rfl rfl ?_
          refine sxo_nil ?_
          exact sxq_againP ((iadd .i64 x144 1, x186.1, x186.2), (a187, c188)) (lk_cons rfl (lk_cons rfl (lk_cons rfl (lk_cons rfl (lk_cons rfl lk_nil))))) (.cons 0 rfl (.cons 0 rfl .nil)) (.cons 0 rfl .nil) (fk_cons 1 rfl fk_nil)
        · refine sxc_exit ?_
          refine sxq_thenX ?_
          refine sxq_thenX ?_
          refine sxq_blkX ?_
          exact sxq_meetP ((x145, x148), (a146, c147)) (lk_cons rfl (lk_cons rfl lk_nil)) (.cons 0 rfl (.cons 0 rfl .nil)) (.cons 0 rfl .nil) fk_nil
      · rintro ⟨⟨x119, x122⟩, ⟨a120, c121⟩⟩
        try dsimp only
        refine sxc_seq ?_
        refine sxc_region ?_
        refine sxo_loadB (i := 0) rfl rfl tf24 rfl rfl (by simp) rfl rfl ?_
        refine sxo_storeB (i := 1) rfl rfl rfl tf24 rfl rfl rfl rfl rfl ?_
        refine sxo_assign rfl rfl rfl ?_
        refine sxo_nil ?_
        refine sxq_next ?_
        refine sxc_ret ?_
        exact sxq_doneP (a120, c121) (.inl rfl) (resL (rs := [.cell 2 24, .tmp 3]) rfl (.cell (i := 1) rfl tf24 rfl rfl (by simp) rfl (.tmp rfl ResOk.nil)) rfl) (fun h => by subst h; rfl) (fun h => by subst h; exact (.cons 0 rfl .nil))

set_option maxHeartbeats 4000000 in
theorem C_unary_All (F : Nat) (x1 : Int) (x2 : List Int) (a3 : Option Addr) (c4 : Nat) (x5 : Int) (r : (List Int × Int × Int)) (hm : M_unary_All F x1 x2 x5 = some r) :
    Pure Try.prog 30 [.agg #[.int .i64 x1, .slice a3 x2.length c4], .int .i64 x5] [Sl (eI .u8) 1 (.slice a3 x2.length c4) x2] (Option Addr × Nat) (fun g => .tuple #[.slice g.1 r.1.length g.2, .int .i64 r.2.1, .int .i64 r.2.2]) (fun g => [Ro (eI .u64) 45 1 (.slice g.1 r.1.length g.2) r.1]) (fun _ => []) := by
  refine pure_of Try.func30 rfl Try.ntmps30 rfl hm (fun w => ?_)
  refine sxc_env (l' := [(0, .agg #[.int .i64 x1, .slice a3 x2.length c4]), (1, .int .i64 x5)]) rfl ?_
  refine sxc_seq ?_
  refine sxc_region ?_
  refine sxo_box rfl rfl rfl (fun g6 => ?_)
  refine sxo_assign rfl rfl rfl ?_
  refine sxo_assign rfl rfl rfl ?_
  refine sxo_assign rfl rfl rfl ?_
  refine sxo_nil ?_
  refine sxq_next ?_
  refine sxc_seq ?_
  refine sxc_region ?_
  refine sxo_loadB (i := 0) rfl rfl tf24 rfl rfl (by simp) rfl rfl ?_
  refine sxo_call ent42 rfl rfl rfl (fun x7 e7 => C_bits_Check F x1 x2 a3 c4 x7 e7) (.consF 0 rfl .nil) (fun x7 e7 => ?_)
  intro _
  refine sxo_assign rfl rfl rfl ?_
  refine sxo_nil ?_
  refine sxq_next ?_
  refine sxc_join (fun ((x13, _) : (Int × Unit)) => [(1, .int .i64 x5), (2, .pointer (some ⟨g6, 0, none⟩)), (4, .slice none 0 0), (5, .int .i64 0), (6, .int .i64 x13)]) (fun ((x13, _) : (Int × Unit)) => [⟨g6, 24, [.int .i64 x1, .slice a3 x2.length c4]⟩]) (fun ((x13, _) : (Int × Unit)) => []) (fun ((x13, _) : (Int × Unit)) => [Sl (eI .u8) 1 (.slice a3 x2.length c4) x2]) (fun ((x13, _) : (Int × Unit)) => M_unary_All_j2 F x1 x2 x5 x13) ?_ ?_
  · refine sxc_seq ?_
    refine sxc_region ?_
    refine sxo_move rfl rfl rfl ?_
    refine sxo_eql rfl rfl rfl rfl ?_
    refine sxo_move rfl rfl rfl ?_
    refine sxo_join 7 (fun ((x171, _) : (Bool × Unit)) => [(1, .int .i64 x5), (2, .pointer (some ⟨g6, 0, none⟩)), (4, .slice none 0 0), (5, .int .i64 0), (6, .int .i64 x7), (21, .bool x171)]) (fun ((x171, _) : (Bool × Unit)) => [⟨g6, 24, [.int .i64 x1, .slice a3 x2.length c4]⟩]) (fun ((x171, _) : (Bool × Unit)) => []) (fun ((x171, _) : (Bool × Unit)) => [Sl (eI .u8) 1 (.slice a3 x2.length c4) x2]) (fun ((x171, _) : (Bool × Unit)) => M_unary_All_j18 F x1 x2 x5 x7 x171) ?_ ?_
    · refine sxo_take (os := _) rfl ?_
      refine sxo_if (fun h169 => ?_) (fun h169 => ?_)
      · refine sxo_isT (k := 14) rfl h169 ?_
        refine sxo_move rfl rfl rfl ?_
        refine sxo_lss rfl rfl rfl rfl ?_
        refine sxo_move rfl rfl rfl ?_
        refine sxo_case 3 (decide (x5 < 0)) [(1, .int .i64 x5), (2, .pointer (some ⟨g6, 0, none⟩)), (4, .slice none 0 0), (5, .int .i64 0), (6, .int .i64 x7), (14, .bool true), (20, .bool ((decide (x5 < 0)) || (decide (8192 < x5))))] (fun h173 => ?_) (fun h173 => ?_) ?_
        · refine sxo_take (os := _) rfl ?_
          refine sxo_isT (k := 17) rfl h173 ?_
          refine sxo_skip rfl rfl rfl ?_
          refine sxo_skip rfl rfl rfl ?_
          refine sxo_pick (b := true) rfl rfl rfl rfl ?_
          refine sxo_again (d := 20) (v := .bool ((decide (x5 < 0)) || (decide (8192 < x5)))) rfl (by rw [h173]; simp only [Bool.true_or]) ?_
          refine sxo_nil ?_
          exact sxq_case (lk_cons rfl (lk_cons rfl (lk_cons rfl (lk_cons rfl (lk_cons rfl (lk_cons rfl (lk_cons rfl lk_nil)))))))
        · refine sxo_take (os := _) rfl ?_
          refine sxo_isF (k := 17) rfl h173 ?_
          refine sxo_move rfl rfl rfl ?_
          refine sxo_gtr rfl rfl rfl rfl ?_
          refine sxo_pick (b := false) rfl rfl rfl rfl ?_
          refine sxo_again (d := 20) (v := .bool ((decide (x5 < 0)) || (decide (8192 < x5)))) rfl (by rw [h173]; simp only [Bool.false_or]) ?_
          refine sxo_nil ?_
          exact sxq_case (lk_cons rfl (lk_cons rfl (lk_cons rfl (lk_cons rfl (lk_cons rfl (lk_cons rfl (lk_cons rfl lk_nil)))))))
        refine sxo_take (os := _) rfl ?_
        refine sxo_pick (b := true) rfl rfl rfl rfl ?_
        refine sxo_nil ?_
        exact sxq_meetP (((decide (x5 < 0)) || (decide (8192 < x5))), ()) (lk_cons rfl (lk_cons rfl (lk_cons rfl (lk_cons rfl (lk_cons rfl (lk_cons rfl lk_nil)))))) (.cons 0 rfl .nil) .nil (fk_cons 0 rfl fk_nil)
      · refine sxo_isF (k := 14) rfl h169 ?_
        refine sxo_skip rfl rfl rfl ?_
        refine sxo_skip rfl rfl rfl ?_
        refine sxo_skip rfl rfl rfl ?_
        refine sxo_skip rfl rfl rfl ?_
        refine sxo_skip rfl rfl rfl ?_
        refine sxo_skip rfl rfl rfl ?_
        refine sxo_pick (b := false) rfl rfl rfl rfl ?_
        refine sxo_nil ?_
        exact sxq_meetP (false, ()) (lk_cons rfl (lk_cons rfl (lk_cons rfl (lk_cons rfl (lk_cons rfl (lk_cons rfl lk_nil)))))) (.cons 0 rfl .nil) .nil (fk_cons 0 rfl fk_nil)
    · rintro ⟨x171, _⟩
      try dsimp only
      refine sxo_take (os := _) rfl ?_
      refine sxo_nil ?_
      refine sxq_next ?_
      refine sxc_if rfl (fun h172 => ?_) (fun h172 => ?_)
      · refine sxc_region ?_
        refine sxo_assign rfl rfl rfl ?_
        refine sxo_nil ?_
        exact sxq_meetP (3, ()) (lk_cons rfl (lk_cons rfl (lk_cons rfl (lk_cons rfl (lk_cons rfl lk_nil))))) (.cons 0 rfl .nil) .nil (fk_cons 0 rfl fk_nil)
      · refine sxc_skip ?_
        exact sxq_meetP (x7, ()) (lk_cons rfl (lk_cons rfl (lk_cons rfl (lk_cons rfl (lk_cons rfl lk_nil))))) (.cons 0 rfl .nil) .nil (fk_cons 0 rfl fk_nil)
  · rintro ⟨x13, _⟩
    try dsimp only
    refine sxc_join (fun (((x90, x91, x92), (a88, c89)) : ((List Int × Int × Int) × (Option Addr × Nat))) => [(4, .slice a88 x90.length c89), (5, .int .i64 x91), (6, .int .i64 x92)]) (fun (((x90, x91, x92), (a88, c89)) : ((List Int × Int × Int) × (Option Addr × Nat))) => []) (fun (((x90, x91, x92), (a88, c89)) : ((List Int × Int × Int) × (Option Addr × Nat))) => [Ro (eI .u64) 45 1 (.slice a88 x90.length c89) x90]) (fun (((x90, x91, x92), (a88, c89)) : ((List Int × Int × Int) × (Option Addr × Nat))) => []) (fun (((x90, x91, x92), _) : ((List Int × Int × Int) × (Option Addr × Nat))) => M_unary_All_j10 F x90 x91 x92) ?_ ?_
    · refine sxc_block ?_
      refine sxc_nilrow Int (eI .u64) 45 1 ?_
      refine sxc_loopP (fun (((x118, x121, x122, x123), (a119, c120)) : ((Int × List Int × Int × Int) × (Option Addr × Nat))) => [(1, .int .i64 x118), (2, .pointer (some ⟨g6, 0, none⟩)), (4, .slice a119 x121.length c120), (5, .int .i64 x122), (6, .int .i64 x123)]) (fun (((x118, x121, x122, x123), (a119, c120)) : ((Int × List Int × Int × Int) × (Option Addr × Nat))) => [⟨g6, 24, [.int .i64 x1, .slice a3 x2.length c4]⟩]) (fun (((x118, x121, x122, x123), (a119, c120)) : ((Int × List Int × Int × Int) × (Option Addr × Nat))) => [Ro (eI .u64) 45 1 (.slice a119 x121.length c120) x121]) (fun (((x118, x121, x122, x123), (a119, c120)) : ((Int × List Int × Int × Int) × (Option Addr × Nat))) => [Sl (eI .u8) 1 (.slice a3 x2.length c4) x2]) (fun k (s : ((Int × List Int × Int × Int) × (Option Addr × Nat))) => M_unary_All_l15 F x1 x2 k s.1) ((x5, ([] : List Int), 0, x13), (none, 0)) F (lk_cons rfl (lk_cons rfl (lk_cons rfl (lk_cons rfl (lk_cons rfl lk_nil))))) (.cons 0 rfl .nil) (.cons 0 rfl .nil) (fk_cons 0 rfl fk_nil) (fun _ => rfl) ?_
      intro k146
      rintro ⟨⟨x118, x121, x122, x123⟩, ⟨a119, c120⟩⟩
      try dsimp only
      refine sxc_meq (m' := M_unary_All_b15 F x1 x2 (M_unary_All_l15 F x1 x2 k146) x118 x121 x122 x123) rfl ?_
      refine sxc_seq ?_
      refine sxc_seq ?_
      refine sxc_region ?_
      refine sxo_move rfl rfl rfl ?_
      refine sxo_eql rfl rfl rfl rfl ?_
      refine sxo_move rfl rfl rfl ?_
      refine sxo_case 3 ((x123 : Int) == 0) [(1, .int .i64 x118), (2, .pointer (some ⟨g6, 0, none⟩)), (4, .slice a119 x121.length c120), (5, .int .i64 x122), (6, .int .i64 x123), (27, .bool (((x123 : Int) == 0) && (decide (0 < x118))))] (fun h149 => ?_) (fun h149 => ?_) ?_
      · refine sxo_take (os := _) rfl ?_
        refine sxo_isT (k := 24) rfl h149 ?_
        refine sxo_move rfl rfl rfl ?_
        refine sxo_gtr rfl rfl rfl rfl ?_
        refine sxo_pick (b := true) rfl rfl rfl rfl ?_
        refine sxo_again (d := 27) (v := .bool (((x123 : Int) == 0) && (decide (0 < x118)))) rfl (by rw [h149]; simp only [Bool.true_and]) ?_
        refine sxo_nil ?_
        exact sxq_case (lk_cons rfl (lk_cons rfl (lk_cons rfl (lk_cons rfl (lk_cons rfl (lk_cons rfl lk_nil))))))
      · refine sxo_take (os := _) rfl ?_
        refine sxo_isF (k := 24) rfl h149 ?_
        refine sxo_skip rfl rfl rfl ?_
        refine sxo_skip rfl rfl rfl ?_
        refine sxo_pick (b := false) rfl rfl rfl rfl ?_
        refine sxo_again (d := 27) (v := .bool (((x123 : Int) == 0) && (decide (0 < x118)))) rfl (by rw [h149]; simp only [Bool.false_and]) ?_
        refine sxo_nil ?_
        exact sxq_case (lk_cons rfl (lk_cons rfl (lk_cons rfl (lk_cons rfl (lk_cons rfl (lk_cons rfl lk_nil))))))
      refine sxo_take (os := _) rfl ?_
      refine sxo_nil ?_
      refine sxq_next ?_
      refine sxc_if rfl (fun h168 => ?_) (fun h168 => ?_)
      · refine sxc_skip ?_
        refine sxq_next ?_
        refine sxc_seq ?_
        refine sxc_block ?_
        refine sxc_seq ?_
        refine sxc_region ?_
        refine sxo_loadB (i := 0) rfl rfl tf24 rfl rfl (by simp) rfl rfl ?_
        refine sxo_move rfl rfl rfl ?_
        refine sxo_call ent51 rfl rfl rfl (fun x159 e159 => C_unary_From F x1 x2 a3 c4 x122 x159 e159) (.consF 0 rfl .nil) (fun x159 e159 => ?_)
        intro _
        refine sxo_move rfl rfl rfl ?_
        refine sxo_extract rfl rfl rfl rfl ?_
        refine sxo_extract rfl rfl rfl rfl ?_
        refine sxo_extract rfl rfl rfl rfl ?_
        refine sxo_assign rfl rfl rfl ?_
        refine sxo_assign rfl rfl rfl ?_
        refine sxo_assign rfl rfl rfl ?_
        refine sxo_nil ?_
        refine sxq_next ?_
        refine sxc_join (fun ((x161, _) : (Int × Unit)) => [(1, .int .i64 x118), (2, .pointer (some ⟨g6, 0, none⟩)), (4, .slice a119 x121.length c120), (6, .int .i64 x161), (7, .int .u64 x159.1), (8, .int .i64 x159.2.1)]) (fun ((x161, _) : (Int × Unit)) => [⟨g6, 24, [.int .i64 x1, .slice a3 x2.length c4]⟩]) (fun ((x161, _) : (Int × Unit)) => [Ro (eI .u64) 45 1 (.slice a119 x121.length c120) x121]) (fun ((x161, _) : (Int × Unit)) => [Sl (eI .u8) 1 (.slice a3 x2.length c4) x2]) (fun ((x161, _) : (Int × Unit)) => M_unary_All_j17 F (M_unary_All_l15 F x1 x2 k146) x118 x121 x159 x161) ?_ ?_
        · refine sxc_seq ?_
          refine sxc_region ?_
          refine sxo_move rfl rfl rfl ?_
          refine sxo_not rfl rfl rfl ?_
          refine sxo_nil ?_
          refine sxq_next ?_
          refine sxc_if rfl (fun h167 => ?_) (fun h167 => ?_)
          · refine sxc_region ?_
            refine sxo_assign rfl rfl rfl ?_
            refine sxo_nil ?_
            exact sxq_meetP (7, ()) (lk_cons rfl (lk_cons rfl (lk_cons rfl (lk_cons rfl (lk_cons rfl (lk_cons rfl lk_nil)))))) (.cons 0 rfl .nil) (.cons 0 rfl .nil) (fk_cons 0 rfl fk_nil)
          · refine sxc_skip ?_
            exact sxq_meetP (x123, ()) (lk_cons rfl (lk_cons rfl (lk_cons rfl (lk_cons rfl (lk_cons rfl (lk_cons rfl lk_nil)))))) (.cons 0 rfl .nil) (.cons 0 rfl .nil) (fk_cons 0 rfl fk_nil)
        · rintro ⟨x161, _⟩
          try dsimp only
          refine sxc_region ?_
          refine sxo_move rfl rfl rfl ?_
          refine sxo_move rfl rfl rfl ?_
          refine sxo_slit (vs := [.int .u64 x159.1]) (ys := ([x159.1] : List Int)) (eI_ok .u64) (by decide) rfl Try.underlying46 tf45 rfl rfl rfl rfl rfl (by decide) (fun a162 c163 => ?_)
          refine sxo_app 1 (eI_ok .u64) rfl Try.underlying46 tf45 rfl rfl rfl rfl rfl (.inl ⟨0, _, rfl⟩) rfl rfl (fun x164 e164 a165 c166 => ?_)
          refine sxo_move rfl rfl rfl ?_
          refine sxo_assign rfl rfl rfl ?_
          refine sxo_assign rfl rfl rfl ?_
          refine sxo_nil ?_
          refine sxq_blkN ?_
          refine sxq_next ?_
          refine sxc_region ?_
          refine sxo_move rfl rfl rfl ?_
          refine sxo_sub rfl rfl rfl rfl ?_
          refine sxo_assign rfl rfl rfl ?_
          refine sxo_nil ?_
          exact sxq_againP ((isub .i64 x118 1, x164, x159.2.1, x161), (a165, c166)) (lk_cons rfl (lk_cons rfl (lk_cons rfl (lk_cons rfl (lk_cons rfl lk_nil))))) (.cons 0 rfl .nil) (.cons 0 rfl .nil) (fk_cons 0 rfl fk_nil)
      · refine sxc_exit ?_
        refine sxq_thenX ?_
        refine sxq_thenX ?_
        refine sxq_blkX ?_
        exact sxq_meetP ((x121, x122, x123), (a119, c120)) (lk_cons rfl (lk_cons rfl (lk_cons rfl lk_nil))) .nil (.cons 0 rfl .nil) fk_nil
    · rintro ⟨⟨x90, x91, x92⟩, ⟨a88, c89⟩⟩
      try dsimp only
      refine sxc_seq ?_
      refine sxc_seq ?_
      refine sxc_region ?_
      refine sxo_move rfl rfl rfl ?_
      refine sxo_neq rfl rfl rfl rfl ?_
      refine sxo_nil ?_
      refine sxq_next ?_
      refine sxc_if rfl (fun h94 => ?_) (fun h94 => ?_)
      · refine sxc_seq ?_
        refine sxc_region ?_
        refine sxo_move rfl rfl rfl ?_
        refine sxo_assign rfl rfl rfl ?_
        refine sxo_assign rfl rfl rfl ?_
        refine sxo_assign rfl rfl rfl ?_
        refine sxo_nil ?_
        refine sxq_next ?_
        refine sxc_ret ?_
        refine sxq_thenR ?_
        refine sxq_nilrow Int (eI .u64) 45 1 ?_
        exact sxq_doneP (none, 0) (.inl rfl) (res3 rfl rfl rfl rfl) (fun h => by subst h; rfl) (fun h => by subst h; exact (.cons 0 rfl .nil))
      · refine sxc_skip ?_
        refine sxq_next ?_
        refine sxc_seq ?_
        refine sxc_region ?_
        refine sxo_move rfl rfl rfl ?_
        refine sxo_move rfl rfl rfl ?_
        refine sxo_assign rfl rfl rfl ?_
        refine sxo_assign rfl rfl rfl ?_
        refine sxo_assign rfl rfl rfl ?_
        refine sxo_nil ?_
        refine sxq_next ?_
        refine sxc_ret ?_
        exact sxq_doneP (a88, c89) (.inl rfl) (res3 rfl rfl rfl rfl) (fun h => by subst h; rfl) (fun h => by subst h; exact (.cons 0 rfl .nil))

theorem C_R_PackBits (F : Nat) (x1 : List Int) (a2 : Option Addr) (c3 : Nat) (r : (Int × List Int)) (hm : M_R_PackBits F x1 = some r) :
    Pure Try.prog 53 [.slice a2 x1.length c3] [Sl (eI .i64) 1 (.slice a2 x1.length c3) x1] (Option Addr × Nat) (fun g => .agg #[.int .i64 r.1, .slice g.1 r.2.length g.2]) (fun g => [Ro (eI .u8) 5 1 (.slice g.1 r.2.length g.2) r.2]) (fun _ => []) := by
  refine pure_of Try.func53 rfl Try.ntmps53 rfl hm (fun w => ?_)
  refine sxc_env (l' := [(0, .slice a2 x1.length c3)]) rfl ?_
  refine sxc_seq ?_
  refine sxc_region ?_
  refine sxo_alloc rfl tf24 rfl (fun g4 => ?_)
  refine sxo_nil ?_
  refine sxq_next ?_
  refine sxc_seq ?_
  refine sxc_region ?_
  refine sxo_move rfl rfl rfl ?_
  refine sxo_len rfl Try.underlying25 rfl rfl ?_
  refine sxo_build (cells := [.int .i64 (x1.length : Int), .slice none 0 0]) rfl st24 rfl (by kernel_rfl) rfl ?_
  refine sxo_alloc rfl tf24 rfl (fun g5 => ?_)
  refine sxo_storeB (i := 0) rfl rfl rfl tf24 rfl rfl rfl rfl rfl ?_
  refine sxo_nil ?_
  refine sxq_next ?_
  refine sxc_join (fun ((x497, (a495, c496)) : (List Int × (Option Addr × Nat))) => [(2, .pointer (some ⟨g4, 0, none⟩)), (3, .pointer (some ⟨g5, 0, none⟩))]) (fun ((x497, (a495, c496)) : (List Int × (Option Addr × Nat))) => [⟨g5, 24, [.int .i64 (x1.length : Int), .slice a495 x497.length c496]⟩, ⟨g4, 24, [.int .i64 0, .slice none 0 0]⟩]) (fun ((x497, (a495, c496)) : (List Int × (Option Addr × Nat))) => [Ro (eI .u8) 5 1 (.slice a495 x497.length c496) x497]) (fun ((x497, (a495, c496)) : (List Int × (Option Addr × Nat))) => []) (fun ((x497, _) : (List Int × (Option Addr × Nat))) => M_R_PackBits_j59 F x1 x497) ?_ ?_
  · refine sxc_seq ?_
    refine sxc_region ?_
    refine sxo_assign rfl rfl rfl ?_
    refine sxo_nil ?_
    refine sxq_next ?_
    refine sxc_block ?_
    refine sxc_nilrow Int (eI .u8) 5 1 ?_
    refine sxc_loopP (fun (((x660, x663), (a661, c662)) : ((Int × List Int) × (Option Addr × Nat))) => [(0, .slice a2 x1.length c3), (2, .pointer (some ⟨g4, 0, none⟩)), (3, .pointer (some ⟨g5, 0, none⟩)), (4, .int .i64 x660)]) (fun (((x660, x663), (a661, c662)) : ((Int × List Int) × (Option Addr × Nat))) => [⟨g5, 24, [.int .i64 (x1.length : Int), .slice a661 x663.length c662]⟩, ⟨g4, 24, [.int .i64 0, .slice none 0 0]⟩]) (fun (((x660, x663), (a661, c662)) : ((Int × List Int) × (Option Addr × Nat))) => [Ro (eI .u8) 5 1 (.slice a661 x663.length c662) x663]) (fun (((x660, x663), (a661, c662)) : ((Int × List Int) × (Option Addr × Nat))) => [Sl (eI .i64) 1 (.slice a2 x1.length c3) x1]) (fun k (s : ((Int × List Int) × (Option Addr × Nat))) => M_R_PackBits_l98 F x1 k s.1) ((0, ([] : List Int)), (none, 0)) F (lk_cons rfl (lk_cons rfl (lk_cons rfl (lk_cons rfl lk_nil)))) (.cons 0 rfl (.cons 0 rfl .nil)) (.cons 0 rfl .nil) (fk_cons 0 rfl fk_nil) (fun _ => rfl) ?_
    intro k825
    rintro ⟨⟨x660, x663⟩, ⟨a661, c662⟩⟩
    try dsimp only
    refine sxc_meq (m' := M_R_PackBits_b98 F x1 (M_R_PackBits_l98 F x1 k825) x660 x663) rfl ?_
    refine sxc_seq ?_
    refine sxc_seq ?_
    refine sxc_region ?_
    refine sxo_move rfl rfl rfl ?_
    refine sxo_move rfl rfl rfl ?_
    refine sxo_len rfl Try.underlying25 rfl rfl ?_
    refine sxo_lss rfl rfl rfl rfl ?_
    refine sxo_nil ?_
    refine sxq_next ?_
    refine sxc_if rfl (fun h986 => ?_) (fun h986 => ?_)
    · refine sxc_skip ?_
      refine sxq_next ?_
      refine sxc_join (fun ((x907, (a905, c906)) : (List Int × (Option Addr × Nat))) => [(0, .slice a2 x1.length c3), (2, .pointer (some ⟨g4, 0, none⟩)), (3, .pointer (some ⟨g5, 0, none⟩)), (4, .int .i64 x660)]) (fun ((x907, (a905, c906)) : (List Int × (Option Addr × Nat))) => [⟨g5, 24, [.int .i64 (x1.length : Int), .slice a905 x907.length c906]⟩, ⟨g4, 24, [.int .i64 0, .slice none 0 0]⟩]) (fun ((x907, (a905, c906)) : (List Int × (Option Addr × Nat))) => [Ro (eI .u8) 5 1 (.slice a905 x907.length c906) x907]) (fun ((x907, (a905, c906)) : (List Int × (Option Addr × Nat))) => [Sl (eI .i64) 1 (.slice a2 x1.length c3) x1]) (fun ((x907, _) : (List Int × (Option Addr × Nat))) => M_R_PackBits_j108 F (M_R_PackBits_l98 F x1 k825) x660 x907) ?_ ?_
      · refine sxc_block ?_
        refine sxc_seq ?_
        refine sxc_region ?_
        refine sxo_assign rfl rfl rfl ?_
        refine sxo_nil ?_
        refine sxq_next ?_
        refine sxc_join (fun ((x944, _) : (Int × Unit)) => [(0, .slice a2 x1.length c3), (2, .pointer (some ⟨g4, 0, none⟩)), (3, .pointer (some ⟨g5, 0, none⟩)), (4, .int .i64 x660), (5, .int .i64 x944)]) (fun ((x944, _) : (Int × Unit)) => [⟨g5, 24, [.int .i64 (x1.length : Int), .slice a661 x663.length c662]⟩, ⟨g4, 24, [.int .i64 0, .slice none 0 0]⟩]) (fun ((x944, _) : (Int × Unit)) => [Ro (eI .u8) 5 1 (.slice a661 x663.length c662) x663]) (fun ((x944, _) : (Int × Unit)) => [Sl (eI .i64) 1 (.slice a2 x1.length c3) x1]) (fun ((x944, _) : (Int × Unit)) => M_R_PackBits_j113 F (M_R_PackBits_l98 F x1 k825) x660 x663 x944) ?_ ?_
        · refine sxc_seq ?_
          refine sxc_region ?_
          refine sxo_assign rfl rfl rfl ?_
          refine sxo_nil ?_
          refine sxq_next ?_
          refine sxc_block ?_
          refine sxc_loopP (fun (((x961, x962), _) : ((Int × Int) × Unit)) => [(0, .slice a2 x1.length c3), (2, .pointer (some ⟨g4, 0, none⟩)), (3, .pointer (some ⟨g5, 0, none⟩)), (4, .int .i64 x660), (5, .int .i64 x961), (6, .int .i64 x962)]) (fun (((x961, x962), _) : ((Int × Int) × Unit)) => [⟨g5, 24, [.int .i64 (x1.length : Int), .slice a661 x663.length c662]⟩, ⟨g4, 24, [.int .i64 0, .slice none 0 0]⟩]) (fun (((x961, x962), _) : ((Int × Int) × Unit)) => [Ro (eI .u8) 5 1 (.slice a661 x663.length c662) x663]) (fun (((x961, x962), _) : ((Int × Int) × Unit)) => [Sl (eI .i64) 1 (.slice a2 x1.length c3) x1]) (fun k (s : ((Int × Int) × Unit)) => M_R_PackBits_l116 F (M_R_PackBits_l98 F x1 k825) x1 x660 x663 k s.1) ((0, 0), ()) F (lk_cons rfl (lk_cons rfl (lk_cons rfl (lk_cons rfl (lk_cons rfl (lk_cons rfl lk_nil)))))) (.cons 0 rfl (.cons 0 rfl .nil)) (.cons 0 rfl .nil) (fk_cons 0 rfl fk_nil) (fun _ => rfl) ?_
          intro k974
          rintro ⟨⟨x961, x962⟩, _⟩
          try dsimp only
          refine sxc_meq (m' := M_R_PackBits_b116 F (M_R_PackBits_l98 F x1 k825) x1 x660 x663 (M_R_PackBits_l116 F (M_R_PackBits_l98 F x1 k825) x1 x660 x663 k974) x961 x962) rfl ?_
          refine sxc_seq ?_
          refine sxc_seq ?_
          refine sxc_region ?_
          refine sxo_move rfl rfl rfl ?_
          refine sxo_lss rfl rfl rfl rfl ?_
          refine sxo_nil ?_
          refine sxq_next ?_
          refine sxc_if rfl (fun h985 => ?_) (fun h985 => ?_)
          · refine sxc_skip ?_
            refine sxq_next ?_
            refine sxc_join (fun ((x980, _) : (Int × Unit)) => [(0, .slice a2 x1.length c3), (2, .pointer (some ⟨g4, 0, none⟩)), (3, .pointer (some ⟨g5, 0, none⟩)), (4, .int .i64 x660), (5, .int .i64 x980), (6, .int .i64 x962)]) (fun ((x980, _) : (Int × Unit)) => [⟨g5, 24, [.int .i64 (x1.length : Int), .slice a661 x663.length c662]⟩, ⟨g4, 24, [.int .i64 0, .slice none 0 0]⟩]) (fun ((x980, _) : (Int × Unit)) => [Ro (eI .u8) 5 1 (.slice a661 x663.length c662) x663]) (fun ((x980, _) : (Int × Unit)) => [Sl (eI .i64) 1 (.slice a2 x1.length c3) x1]) (fun ((x980, _) : (Int × Unit)) => M_R_PackBits_j117 F (M_R_PackBits_l116 F (M_R_PackBits_l98 F x1 k825) x1 x660 x663 k974) x962 x980) ?_ ?_
            · refine sxc_block ?_
              refine sxc_seq ?_
              refine sxc_region ?_
              refine sxo_move rfl rfl rfl ?_
              refine sxo_mul rfl rfl rfl rfl ?_
              refine sxo_assign rfl rfl rfl ?_
              refine sxo_nil ?_
              refine sxq_next ?_
              refine sxc_seq ?_
              refine sxc_region ?_
              refine sxo_move rfl rfl rfl ?_
              refine sxo_move rfl rfl rfl ?_
              refine sxo_add rfl rfl rfl rfl ?_
              refine sxo_move rfl rfl rfl ?_
              refine sxo_len rfl Try.underlying25 rfl rfl ?_
              refine sxo_lss rfl rfl rfl rfl ?_
              refine sxo_nil ?_
              refine sxq_next ?_
              refine sxc_if rfl (fun h984 => ?_) (fun h984 => ?_)
              · refine sxc_region ?_
                refine sxo_move rfl rfl rfl ?_
                refine sxo_move rfl rfl rfl ?_
                refine sxo_move rfl rfl rfl ?_
                refine sxo_move rfl rfl rfl ?_
                refine sxo_add rfl rfl rfl rfl ?_
                refine sxo_indexF (j := 0) (eI_ok .i64) (by decide) rfl Try.underlying25 tf3 rfl rfl rfl rfl (fun x981 e981 b982 o983 => ?_)
                refine sxo_loadF (j := 0) rfl rfl tf3 rfl rfl (fun _ => rfl) rfl rfl ?_
                refine sxo_add rfl rfl rfl rfl ?_
                refine sxo_assign rfl rfl rfl ?_
                refine sxo_nil ?_
                refine sxq_blkN ?_
                exact sxq_meetP (iadd .i64 (imul .i64 2 x961) x981, ()) (lk_cons rfl (lk_cons rfl (lk_cons rfl (lk_cons rfl (lk_cons rfl (lk_cons rfl lk_nil)))))) (.cons 0 rfl (.cons 0 rfl .nil)) (.cons 0 rfl .nil) (fk_cons 1 rfl fk_nil)
              · refine sxc_skip ?_
                refine sxq_blkN ?_
                exact sxq_meetP (imul .i64 2 x961, ()) (lk_cons rfl (lk_cons rfl (lk_cons rfl (lk_cons rfl (lk_cons rfl (lk_cons rfl lk_nil)))))) (.cons 0 rfl (.cons 0 rfl .nil)) (.cons 0 rfl .nil) (fk_cons 0 rfl fk_nil)
            · rintro ⟨x980, _⟩
              try dsimp only
              refine sxc_region ?_
              refine sxo_move rfl rfl rfl ?_
              refine sxo_add rfl rfl rfl rfl ?_
              refine sxo_assign rfl rfl rfl ?_
              refine sxo_nil ?_
              exact sxq_againP ((x980, iadd .i64 x962 1), ()) (lk_cons rfl (lk_cons rfl (lk_cons rfl (lk_cons rfl (lk_cons rfl (lk_cons rfl lk_nil)))))) (.cons 0 rfl (.cons 0 rfl .nil)) (.cons 0 rfl .nil) (fk_cons 0 rfl fk_nil)
          · refine sxc_exit ?_
            refine sxq_thenX ?_
            refine sxq_thenX ?_
            refine sxq_blkX ?_
            exact sxq_meetP (x961, ()) (lk_cons rfl (lk_cons rfl (lk_cons rfl (lk_cons rfl (lk_cons rfl lk_nil))))) (.cons 0 rfl (.cons 0 rfl .nil)) (.cons 0 rfl .nil) (fk_cons 0 rfl fk_nil)
        · rintro ⟨x944, _⟩
          try dsimp only
          refine sxc_region ?_
          refine sxo_fieldAddr rfl rfl ff24_1 rfl ?_
          refine sxo_loadB (i := 0) rfl rfl tf22 rfl rfl (fun _ => rfl) rfl rfl ?_
          refine sxo_move rfl rfl rfl ?_
          refine sxo_conv rfl Try.underlying3 Try.underlying5 rfl rfl ?_
          refine sxo_slit (vs := [.int .u8 (iconv .u8 x944)]) (ys := ([iconv .u8 x944] : List Int)) (eI_ok .u8) (by decide) rfl Try.underlying22 tf5 rfl rfl rfl rfl rfl (by decide) (fun a945 c946 => ?_)
          refine sxo_app 1 (eI_ok .u8) rfl Try.underlying22 tf5 rfl rfl rfl rfl rfl (.inl ⟨0, _, rfl⟩) rfl rfl (fun x947 e947 a948 c949 => ?_)
          refine sxo_fieldAddr rfl rfl ff24_1 rfl ?_
          refine sxo_storeB (i := 0) rfl rfl rfl tf22 rfl rfl rfl rfl rfl ?_
          refine sxo_nil ?_
          refine sxq_blkN ?_
          exact sxq_meetP (x947, (a948, c949)) (lk_cons rfl (lk_cons rfl (lk_cons rfl (lk_cons rfl lk_nil)))) (.cons 0 rfl (.cons 0 rfl .nil)) (.cons 0 rfl .nil) (fk_cons 0 rfl fk_nil)
      · rintro ⟨x907, ⟨a905, c906⟩⟩
        try dsimp only
        refine sxc_region ?_
        refine sxo_move rfl rfl rfl ?_
        refine sxo_add rfl rfl rfl rfl ?_
        refine sxo_assign rfl rfl rfl ?_
        refine sxo_nil ?_
        exact sxq_againP ((iadd .i64 x660 8, x907), (a905, c906)) (lk_cons rfl (lk_cons rfl (lk_cons rfl (lk_cons rfl lk_nil)))) (.cons 0 rfl (.cons 0 rfl .nil)) (.cons 0 rfl .nil) (fk_cons 0 rfl fk_nil)
    · refine sxc_exit ?_
      refine sxq_thenX ?_
      refine sxq_thenX ?_
      refine sxq_blkX ?_
      exact sxq_meetP (x663, (a661, c662)) (lk_cons rfl (lk_cons rfl lk_nil)) (.cons 0 rfl (.cons 0 rfl .nil)) (.cons 0 rfl .nil) fk_nil
  · rintro ⟨x497, ⟨a495, c496⟩⟩
    try dsimp only
    refine sxc_seq ?_
    refine sxc_region ?_
    refine sxo_loadB (i := 0) rfl rfl tf24 rfl rfl (by simp) rfl rfl ?_
    refine sxo_storeB (i := 1) rfl rfl rfl tf24 rfl rfl rfl rfl rfl ?_
    refine sxo_nil ?_
    refine sxq_next ?_
    refine sxc_ret ?_
    exact sxq_doneP (a495, c496) (.inl rfl) (resL (rs := [.cell 2 24]) rfl (.cell (i := 1) rfl tf24 rfl rfl (by simp) rfl ResOk.nil) rfl) (fun h => by subst h; rfl) (fun h => by subst h; exact (.cons 0 rfl .nil))

theorem C_R_UnaryList (F : Nat) (x1 : Int) (r : List Int) (hm : M_R_UnaryList F x1 = some r) :
    Pure Try.prog 54 [.int .u64 x1] [] (Option Addr × Nat) (fun g => .slice g.1 r.length g.2) (fun g => [Ro (eI .i64) 3 1 (.slice g.1 r.length g.2) r]) (fun _ => []) := by
  refine pure_of Try.func54 rfl Try.ntmps54 rfl hm (fun w => ?_)
  refine sxc_env (l' := [(0, .int .u64 x1)]) rfl ?_
  refine sxc_seq ?_
  refine sxc_region ?_
  refine sxo_assign rfl rfl rfl ?_
  refine sxo_nil ?_
  refine sxq_next ?_
  refine sxc_seq ?_
  refine sxc_region ?_
  refine sxo_assign rfl rfl rfl ?_
  refine sxo_nil ?_
  refine sxq_next ?_
  refine sxc_join (fun ((x45, (a43, c44)) : (List Int × (Option Addr × Nat))) => [(3, .slice a43 x45.length c44)]) (fun ((x45, (a43, c44)) : (List Int × (Option Addr × Nat))) => []) (fun ((x45, (a43, c44)) : (List Int × (Option Addr × Nat))) => [Ro (eI .i64) 3 1 (.slice a43 x45.length c44) x45]) (fun ((x45, (a43, c44)) : (List Int × (Option Addr × Nat))) => []) (fun ((x45, _) : (List Int × (Option Addr × Nat))) => M_R_UnaryList_j2 F x45) ?_ ?_
  · refine sxc_seq ?_
    refine sxc_region ?_
    refine sxo_assign rfl rfl rfl ?_
    refine sxo_nil ?_
    refine sxq_next ?_
    refine sxc_block ?_
    refine sxc_nilrow Int (eI .i64) 3 1 ?_
    refine sxc_loopP (fun (((x65, x66), (a63, c64)) : ((List Int × Int) × (Option Addr × Nat))) => [(0, .int .u64 x1), (3, .slice a63 x65.length c64), (4, .int .u64 x66)]) (fun (((x65, x66), (a63, c64)) : ((List Int × Int) × (Option Addr × Nat))) => []) (fun (((x65, x66), (a63, c64)) : ((List Int × Int) × (Option Addr × Nat))) => [Ro (eI .i64) 3 1 (.slice a63 x65.length c64) x65]) (fun (((x65, x66), (a63, c64)) : ((List Int × Int) × (Option Addr × Nat))) => []) (fun k (s : ((List Int × Int) × (Option Addr × Nat))) => M_R_UnaryList_l3 F x1 k s.1) ((([] : List Int), 0), (none, 0)) F (lk_cons rfl (lk_cons rfl (lk_cons rfl lk_nil))) .nil (.cons 0 rfl .nil) fk_nil (fun _ => rfl) ?_
    intro k79
    rintro ⟨⟨x65, x66⟩, ⟨a63, c64⟩⟩
    try dsimp only
    refine sxc_meq (m' := M_R_UnaryList_b3 F x1 (M_R_UnaryList_l3 F x1 k79) x65 x66) rfl ?_
    refine sxc_seq ?_
    refine sxc_seq ?_
    refine sxc_region ?_
    refine sxo_move rfl rfl rfl ?_
    refine sxo_move rfl rfl rfl ?_
    refine sxo_lss rfl rfl rfl rfl ?_
    refine sxo_nil ?_
    refine sxq_next ?_
    refine sxc_if rfl (fun h91 => ?_) (fun h91 => ?_)
    · refine sxc_skip ?_
      refine sxq_next ?_
      refine sxc_seq ?_
      refine sxc_block ?_
      refine sxc_region ?_
      refine sxo_move rfl rfl rfl ?_
      refine sxo_slit (vs := [.int .i64 0]) (ys := ([0] : List Int)) (eI_ok .i64) (by decide) rfl Try.underlying25 tf3 rfl rfl rfl rfl rfl (by decide) (fun a86 c87 => ?_)
      refine sxo_app 1 (eI_ok .i64) rfl Try.underlying25 tf3 rfl rfl rfl rfl rfl (.inl ⟨0, _, rfl⟩) rfl rfl (fun x88 e88 a89 c90 => ?_)
      refine sxo_assign rfl rfl rfl ?_
      refine sxo_nil ?_
      refine sxq_blkN ?_
      refine sxq_next ?_
      refine sxc_region ?_
      refine sxo_move rfl rfl rfl ?_
      refine sxo_add rfl rfl rfl rfl ?_
      refine sxo_assign rfl rfl rfl ?_
      refine sxo_nil ?_
      exact sxq_againP ((x88, iadd .u64 x66 1), (a89, c90)) (lk_cons rfl (lk_cons rfl (lk_cons rfl lk_nil))) .nil (.cons 0 rfl .nil) fk_nil
    · refine sxc_exit ?_
      refine sxq_thenX ?_
      refine sxq_thenX ?_
      refine sxq_blkX ?_
      exact sxq_meetP (x65, (a63, c64)) (lk_cons rfl lk_nil) .nil (.cons 0 rfl .nil) fk_nil
  · rintro ⟨x45, ⟨a43, c44⟩⟩
    try dsimp only
    refine sxc_seq ?_
    refine sxc_region ?_
    refine sxo_move rfl rfl rfl ?_
    refine sxo_slit (vs := [.int .i64 1]) (ys := ([1] : List Int)) (eI_ok .i64) (by decide) rfl Try.underlying25 tf3 rfl rfl rfl rfl rfl (by decide) (fun a46 c47 => ?_)
    refine sxo_app 1 (eI_ok .i64) rfl Try.underlying25 tf3 rfl rfl rfl rfl rfl (.inl ⟨0, _, rfl⟩) rfl rfl (fun x48 e48 a49 c50 => ?_)
    refine sxo_assign rfl rfl rfl ?_
    refine sxo_nil ?_
    refine sxq_next ?_
    refine sxc_ret ?_
    exact sxq_doneP (a49, c50) (.inl rfl) (res1 rfl rfl) (fun h => by subst h; rfl) (fun h => by subst h; exact (.cons 0 rfl .nil))

theorem C_R_UnaryCode (F : Nat) (x1 : Int) (r : (Int × List Int × Int)) (hm : M_R_UnaryCode F x1 = some r) :
    Pure Try.prog 31 [.int .u64 x1] [] (Option Addr × Nat) (fun g => .tuple #[.agg #[.int .i64 r.1, .slice g.1 r.2.1.length g.2], .int .i64 r.2.2]) (fun g => [Ro (eI .u8) 5 1 (.slice g.1 r.2.1.length g.2) r.2.1]) (fun _ => []) := by
  refine pure_of Try.func31 rfl Try.ntmps31 rfl hm (fun w => ?_)
  refine sxc_env (l' := [(0, .int .u64 x1)]) rfl ?_
  refine sxc_seq ?_
  refine sxc_region ?_
  refine sxo_alloc rfl tf24 rfl (fun g2 => ?_)
  refine sxo_assign rfl rfl rfl ?_
  refine sxo_nil ?_
  refine sxq_next ?_
  refine sxc_seq ?_
  refine sxc_seq ?_
  refine sxc_region ?_
  refine sxo_move rfl rfl rfl ?_
  refine sxo_gtr rfl rfl rfl rfl ?_
  refine sxo_nil ?_
  refine sxq_next ?_
  refine sxc_if rfl (fun h10 => ?_) (fun h10 => ?_)
  · refine sxc_seq ?_
    refine sxc_region ?_
    refine sxo_build (cells := [.int .i64 0, .slice none 0 0]) rfl st24 rfl (by kernel_rfl) rfl ?_
    refine sxo_storeB (i := 0) rfl rfl rfl tf24 rfl rfl rfl rfl rfl ?_
    refine sxo_assign rfl rfl rfl ?_
    refine sxo_nil ?_
    refine sxq_next ?_
    refine sxc_ret ?_
    refine sxq_thenR ?_
    refine sxq_nilrow Int (eI .u8) 5 1 ?_
    exact sxq_doneP (none, 0) (.inl rfl) (resL (rs := [.cell 2 24, .tmp 3]) rfl (.cell (i := 0) rfl tf24 rfl rfl (by simp) rfl (.tmp rfl ResOk.nil)) rfl) (fun h => by subst h; rfl) (fun h => by subst h; exact (.cons 0 rfl .nil))
  · refine sxc_skip ?_
    refine sxq_next ?_
    refine sxc_seq ?_
    refine sxc_region ?_
    refine sxo_move rfl rfl rfl ?_
    refine sxo_call ent54 rfl rfl rfl (fun x4 e4 => C_R_UnaryList F x1 x4 e4) .nil (fun x4 e4 => ?_)
    rintro ⟨a5, c6⟩
    refine sxo_call ent53 rfl rfl rfl (fun x7 e7 => C_R_PackBits F x4 a5 c6 x7 e7) (.consR 0 (Ro (eI .i64) 3 1 (.slice a5 x4.length c6) x4) rfl .nil) (fun x7 e7 => ?_)
    rintro ⟨a8, c9⟩
    refine sxo_storeB (i := 0) rfl rfl rfl tf24 rfl rfl rfl rfl rfl ?_
    refine sxo_assign rfl rfl rfl ?_
    refine sxo_nil ?_
    refine sxq_next ?_
    refine sxc_ret ?_
    exact sxq_doneP (a8, c9) (.inl rfl) (resL (rs := [.cell 2 24, .tmp 3]) rfl (.cell (i := 0) rfl tf24 rfl rfl (by simp) rfl (.tmp rfl ResOk.nil)) rfl) (fun h => by subst h; rfl) (fun h => by subst h; exact (.cons 0 rfl .nil))

theorem C_R_UnaryRead (F : Nat) (x1 : List Int) (a2 : Option Addr) (c3 : Nat) (x4 : Int) (r : (Int × Int)) (hm : M_R_UnaryRead F x1 x4 = some r) :
    Pure Try.prog 32 [.slice a2 x1.length c3, .int .i64 x4] [Sl (eI .i64) 1 (.slice a2 x1.length c3) x1] Unit (fun _ => .tuple #[.int .u64 r.1, .int .i64 r.2]) (fun _ => []) (fun _ => []) := by
  refine pure_of Try.func32 rfl Try.ntmps32 rfl hm (fun w => ?_)
  refine sxc_env (l' := [(0, .slice a2 x1.length c3), (1, .int .i64 x4)]) rfl ?_
  refine sxc_seq ?_
  refine sxc_region ?_
  refine sxo_assign rfl rfl rfl ?_
  refine sxo_assign rfl rfl rfl ?_
  refine sxo_nil ?_
  refine sxq_next ?_
  refine sxc_seq ?_
  refine sxc_region ?_
  refine sxo_assign rfl rfl rfl ?_
  refine sxo_nil ?_
  refine sxq_next ?_
  refine sxc_join (fun ((_, _) : (Unit × Unit)) => []) (fun ((_, _) : (Unit × Unit)) => []) (fun ((_, _) : (Unit × Unit)) => []) (fun ((_, _) : (Unit × Unit)) => []) (fun ((_, _) : (Unit × Unit)) => M_R_UnaryRead_j2 F) ?_ ?_
  · refine sxc_seq ?_
    refine sxc_region ?_
    refine sxo_move rfl rfl rfl ?_
    refine sxo_assign rfl rfl rfl ?_
    refine sxo_nil ?_
    refine sxq_next ?_
    refine sxc_block ?_
    refine sxc_loopP (fun (((x80, x81), _) : ((Int × Int) × Unit)) => [(0, .slice a2 x1.length c3), (6, .int .u64 x80), (7, .int .i64 x81)]) (fun (((x80, x81), _) : ((Int × Int) × Unit)) => []) (fun (((x80, x81), _) : ((Int × Int) × Unit)) => []) (fun (((x80, x81), _) : ((Int × Int) × Unit)) => [Sl (eI .i64) 1 (.slice a2 x1.length c3) x1]) (fun k (s : ((Int × Int) × Unit)) => M_R_UnaryRead_l3 F x1 k s.1) ((0, x4), ()) F (lk_cons rfl (lk_cons rfl (lk_cons rfl lk_nil))) .nil .nil (fk_cons 0 rfl fk_nil) (fun _ => rfl) ?_
    intro k100
    rintro ⟨⟨x80, x81⟩, _⟩
    try dsimp only
    refine sxc_meq (m' := M_R_UnaryRead_b3 F x1 (M_R_UnaryRead_l3 F x1 k100) x80 x81) rfl ?_
    refine sxc_seq ?_
    refine sxc_seq ?_
    refine sxc_region ?_
    refine sxo_move rfl rfl rfl ?_
    refine sxo_move rfl rfl rfl ?_
    refine sxo_len rfl Try.underlying25 rfl rfl ?_
    refine sxo_lss rfl rfl rfl rfl ?_
    refine sxo_nil ?_
    refine sxq_next ?_
    refine sxc_if rfl (fun h118 => ?_) (fun h118 => ?_)
    · refine sxc_skip ?_
      refine sxq_next ?_
      refine sxc_seq ?_
      refine sxc_block ?_
      refine sxc_seq ?_
      refine sxc_seq ?_
      refine sxc_region ?_
      refine sxo_move rfl rfl rfl ?_
      refine sxo_move rfl rfl rfl ?_
      refine sxo_indexF (j := 0) (eI_ok .i64) (by decide) rfl Try.underlying25 tf3 rfl rfl rfl rfl (fun x114 e114 b115 o116 => ?_)
      refine sxo_loadF (j := 0) rfl rfl tf3 rfl rfl (fun _ => rfl) rfl rfl ?_
      refine sxo_eql rfl rfl rfl rfl ?_
      refine sxo_nil ?_
      refine sxq_next ?_
      refine sxc_if rfl (fun h117 => ?_) (fun h117 => ?_)
      · refine sxc_seq ?_
        refine sxc_region ?_
        refine sxo_move rfl rfl rfl ?_
        refine sxo_move rfl rfl rfl ?_
        refine sxo_add rfl rfl rfl rfl ?_
        refine sxo_assign rfl rfl rfl ?_
        refine sxo_assign rfl rfl rfl ?_
        refine sxo_nil ?_
        refine sxq_next ?_
        refine sxc_ret ?_
        refine sxq_thenR ?_
        refine sxq_blkR ?_
        refine sxq_thenR ?_
        refine sxq_thenR ?_
        refine sxq_blkR ?_
        refine sxq_thenR ?_
        exact sxq_doneP () (.inl rfl) (res2 rfl rfl rfl) (fun h => by subst h; rfl) (fun h => by subst h; exact .nil)
      · refine sxc_skip ?_
        refine sxq_next ?_
        refine sxc_region ?_
        refine sxo_move rfl rfl rfl ?_
        refine sxo_add rfl rfl rfl rfl ?_
        refine sxo_assign rfl rfl rfl ?_
        refine sxo_nil ?_
        refine sxq_blkN ?_
        refine sxq_next ?_
        refine sxc_region ?_
        refine sxo_move rfl rfl rfl ?_
        refine sxo_add rfl rfl rfl rfl ?_
        refine sxo_assign rfl rfl rfl ?_
        refine sxo_nil ?_
        exact sxq_againP ((iadd .u64 x80 1, iadd .i64 x81 1), ()) (lk_cons rfl (lk_cons rfl (lk_cons rfl lk_nil))) .nil .nil (fk_cons 1 rfl fk_nil)
    · refine sxc_exit ?_
      refine sxq_thenX ?_
      refine sxq_thenX ?_
      refine sxq_blkX ?_
      exact sxq_meetP ((), ()) lk_nil .nil .nil fk_nil
  · rintro ⟨_, _⟩
    try dsimp only
    refine sxc_seq ?_
    refine sxc_region ?_
    refine sxo_assign rfl rfl rfl ?_
    refine sxo_assign rfl rfl rfl ?_
    refine sxo_nil ?_
    refine sxq_next ?_
    refine sxc_ret ?_
    exact sxq_doneP () (.inl rfl) (res2 rfl rfl rfl) (fun h => by subst h; rfl) (fun h => by subst h; exact .nil)

theorem C_R_UnaryMany (F : Nat) (x1 : List Int) (a2 : Option Addr) (c3 : Nat) (r : (Int × List Int × Int)) (hm : M_R_UnaryMany F x1 = some r) :
    Pure Try.prog 33 [.slice a2 x1.length c3] [Sl (eI .u64) 1 (.slice a2 x1.length c3) x1] (Option Addr × Nat) (fun g => .tuple #[.agg #[.int .i64 r.1, .slice g.1 r.2.1.length g.2], .int .i64 r.2.2]) (fun g => [Ro (eI .u8) 5 1 (.slice g.1 r.2.1.length g.2) r.2.1]) (fun _ => []) := by
  refine pure_of Try.func33 rfl Try.ntmps33 rfl hm (fun w => ?_)
  refine sxc_env (l' := [(0, .slice a2 x1.length c3)]) rfl ?_
  refine sxc_seq ?_
  refine sxc_region ?_
  refine sxo_alloc rfl tf24 rfl (fun g4 => ?_)
  refine sxo_assign rfl rfl rfl ?_
  refine sxo_nil ?_
  refine sxq_next ?_
  refine sxc_seq ?_
  refine sxc_region ?_
  refine sxo_assign rfl rfl rfl ?_
  refine sxo_nil ?_
  refine sxq_next ?_
  refine sxc_join (fun ((x95, _) : (Int × Unit)) => [(0, .slice a2 x1.length c3), (2, .pointer (some ⟨g4, 0, none⟩)), (4, .int .i64 x95)]) (fun ((x95, _) : (Int × Unit)) => [⟨g4, 24, [.int .i64 0, .slice none 0 0]⟩]) (fun ((x95, _) : (Int × Unit)) => []) (fun ((x95, _) : (Int × Unit)) => [Sl (eI .u64) 1 (.slice a2 x1.length c3) x1]) (fun ((x95, _) : (Int × Unit)) => M_R_UnaryMany_j5 F x1 x95) ?_ ?_
  · refine sxc_seq ?_
    refine sxc_region ?_
    refine sxo_assign rfl rfl rfl ?_
    refine sxo_nil ?_
    refine sxq_next ?_
    refine sxc_block ?_
    refine sxc_loopP (fun (((x263, x264), _) : ((Int × Int) × Unit)) => [(0, .slice a2 x1.length c3), (2, .pointer (some ⟨g4, 0, none⟩)), (4, .int .i64 x263), (5, .int .i64 x264)]) (fun (((x263, x264), _) : ((Int × Int) × Unit)) => [⟨g4, 24, [.int .i64 0, .slice none 0 0]⟩]) (fun (((x263, x264), _) : ((Int × Int) × Unit)) => []) (fun (((x263, x264), _) : ((Int × Int) × Unit)) => [Sl (eI .u64) 1 (.slice a2 x1.length c3) x1]) (fun k (s : ((Int × Int) × Unit)) => M_R_UnaryMany_l11 F x1 k s.1) ((0, 0), ()) F (lk_cons rfl (lk_cons rfl (lk_cons rfl (lk_cons rfl lk_nil)))) (.cons 0 rfl .nil) .nil (fk_cons 0 rfl fk_nil) (fun _ => rfl) ?_
    intro k294
    rintro ⟨⟨x263, x264⟩, _⟩
    try dsimp only
    refine sxc_meq (m' := M_R_UnaryMany_b11 F x1 (M_R_UnaryMany_l11 F x1 k294) x263 x264) rfl ?_
    refine sxc_seq ?_
    refine sxc_seq ?_
    refine sxc_region ?_
    refine sxo_move rfl rfl rfl ?_
    refine sxo_move rfl rfl rfl ?_
    refine sxo_len rfl Try.underlying46 rfl rfl ?_
    refine sxo_lss rfl rfl rfl rfl ?_
    refine sxo_nil ?_
    refine sxq_next ?_
    refine sxc_if rfl (fun h323 => ?_) (fun h323 => ?_)
    · refine sxc_skip ?_
      refine sxq_next ?_
      refine sxc_join (fun ((x309, _) : (Int × Unit)) => [(0, .slice a2 x1.length c3), (2, .pointer (some ⟨g4, 0, none⟩)), (4, .int .i64 x309), (5, .int .i64 x264)]) (fun ((x309, _) : (Int × Unit)) => [⟨g4, 24, [.int .i64 0, .slice none 0 0]⟩]) (fun ((x309, _) : (Int × Unit)) => []) (fun ((x309, _) : (Int × Unit)) => [Sl (eI .u64) 1 (.slice a2 x1.length c3) x1]) (fun ((x309, _) : (Int × Unit)) => M_R_UnaryMany_j12 F (M_R_UnaryMany_l11 F x1 k294) x264 x309) ?_ ?_
      · refine sxc_block ?_
        refine sxc_seq ?_
        refine sxc_seq ?_
        refine sxc_region ?_
        refine sxo_move rfl rfl rfl ?_
        refine sxo_move rfl rfl rfl ?_
        refine sxo_indexF (j := 0) (eI_ok .u64) (by decide) rfl Try.underlying46 tf45 rfl rfl rfl rfl (fun x314 e314 b315 o316 => ?_)
        refine sxo_loadF (j := 0) rfl rfl tf45 rfl rfl (fun _ => rfl) rfl rfl ?_
        refine sxo_gtr rfl rfl rfl rfl ?_
        refine sxo_nil ?_
        refine sxq_next ?_
        refine sxc_if rfl (fun h322 => ?_) (fun h322 => ?_)
        · refine sxc_seq ?_
          refine sxc_region ?_
          refine sxo_build (cells := [.int .i64 0, .slice none 0 0]) rfl st24 rfl (by kernel_rfl) rfl ?_
          refine sxo_storeB (i := 0) rfl rfl rfl tf24 rfl rfl rfl rfl rfl ?_
          refine sxo_assign rfl rfl rfl ?_
          refine sxo_nil ?_
          refine sxq_next ?_
          refine sxc_ret ?_
          refine sxq_thenR ?_
          refine sxq_blkR ?_
          refine sxq_thenR ?_
          refine sxq_thenR ?_
          refine sxq_blkR ?_
          refine sxq_thenR ?_
          refine sxq_nilrow Int (eI .u8) 5 1 ?_
          exact sxq_doneP (none, 0) (.inl rfl) (resL (rs := [.cell 2 24, .tmp 3]) rfl (.cell (i := 0) rfl tf24 rfl rfl (by simp) rfl (.tmp rfl ResOk.nil)) rfl) (fun h => by subst h; rfl) (fun h => by subst h; exact (.cons 0 rfl .nil))
        · refine sxc_skip ?_
          refine sxq_next ?_
          refine sxc_seq ?_
          refine sxc_region ?_
          refine sxo_move rfl rfl rfl ?_
          refine sxo_lss rfl rfl rfl rfl ?_
          refine sxo_nil ?_
          refine sxq_next ?_
          refine sxc_if rfl (fun h321 => ?_) (fun h321 => ?_)
          · refine sxc_region ?_
            refine sxo_move rfl rfl rfl ?_
            refine sxo_move rfl rfl rfl ?_
            refine sxo_move rfl rfl rfl ?_
            refine sxo_indexF (j := 1) (eI_ok .u64) (by decide) rfl Try.underlying46 tf45 rfl rfl rfl rfl (fun x317 e317 b318 o319 => ?_)
            refine sxo_loadF (j := 0) rfl rfl tf45 rfl rfl (fun _ => rfl) rfl rfl ?_
            refine sxo_conv rfl Try.underlying45 Try.underlying3 rfl rfl ?_
            refine sxo_add rfl rfl rfl rfl ?_
            refine sxo_add rfl rfl rfl rfl ?_
            refine sxo_assign rfl rfl rfl ?_
            refine sxo_lett (fun x320 e320 => ?_)
            refine sxo_again (d := 4) (v := .int .i64 x320) rfl (by rw [e320]) ?_
            refine sxo_nil ?_
            refine sxq_blkN ?_
            exact sxq_meetP (x320, ()) (lk_cons rfl (lk_cons rfl (lk_cons rfl (lk_cons rfl lk_nil)))) (.cons 0 rfl .nil) .nil (fk_cons 2 rfl fk_nil)
          · refine sxc_skip ?_
            refine sxq_blkN ?_
            exact sxq_meetP (x263, ()) (lk_cons rfl (lk_cons rfl (lk_cons rfl (lk_cons rfl lk_nil)))) (.cons 0 rfl .nil) .nil (fk_cons 1 rfl fk_nil)
      · rintro ⟨x309, _⟩
        try dsimp only
        refine sxc_region ?_
        refine sxo_move rfl rfl rfl ?_
        refine sxo_add rfl rfl rfl rfl ?_
        refine sxo_assign rfl rfl rfl ?_
        refine sxo_nil ?_
        exact sxq_againP ((x309, iadd .i64 x264 1), ()) (lk_cons rfl (lk_cons rfl (lk_cons rfl (lk_cons rfl lk_nil)))) (.cons 0 rfl .nil) .nil (fk_cons 0 rfl fk_nil)
    · refine sxc_exit ?_
      refine sxq_thenX ?_
      refine sxq_thenX ?_
      refine sxq_blkX ?_
      exact sxq_meetP (x263, ()) (lk_cons rfl (lk_cons rfl (lk_cons rfl lk_nil))) (.cons 0 rfl .nil) .nil (fk_cons 0 rfl fk_nil)
  · rintro ⟨x95, _⟩
    try dsimp only
    refine sxc_seq ?_
    refine sxc_seq ?_
    refine sxc_region ?_
    refine sxo_move rfl rfl rfl ?_
    refine sxo_gtr rfl rfl rfl rfl ?_
    refine sxo_nil ?_
    refine sxq_next ?_
    refine sxc_if rfl (fun h233 => ?_) (fun h233 => ?_)
    · refine sxc_seq ?_
      refine sxc_region ?_
      refine sxo_build (cells := [.int .i64 0, .slice none 0 0]) rfl st24 rfl (by kernel_rfl) rfl ?_
      refine sxo_storeB (i := 0) rfl rfl rfl tf24 rfl rfl rfl rfl rfl ?_
      refine sxo_assign rfl rfl rfl ?_
      refine sxo_nil ?_
      refine sxq_next ?_
      refine sxc_ret ?_
      refine sxq_thenR ?_
      refine sxq_nilrow Int (eI .u8) 5 1 ?_
      exact sxq_doneP (none, 0) (.inl rfl) (resL (rs := [.cell 2 24, .tmp 3]) rfl (.cell (i := 0) rfl tf24 rfl rfl (by simp) rfl (.tmp rfl ResOk.nil)) rfl) (fun h => by subst h; rfl) (fun h => by subst h; exact (.cons 0 rfl .nil))
    · refine sxc_skip ?_
      refine sxq_next ?_
      refine sxc_seq ?_
      refine sxc_region ?_
      refine sxo_assign rfl rfl rfl ?_
      refine sxo_nil ?_
      refine sxq_next ?_
      refine sxc_join (fun ((x164, (a162, c163)) : (List Int × (Option Addr × Nat))) => [(2, .pointer (some ⟨g4, 0, none⟩)), (6, .slice a162 x164.length c163)]) (fun ((x164, (a162, c163)) : (List Int × (Option Addr × Nat))) => [⟨g4, 24, [.int .i64 0, .slice none 0 0]⟩]) (fun ((x164, (a162, c163)) : (List Int × (Option Addr × Nat))) => [Ro (eI .i64) 3 1 (.slice a162 x164.length c163) x164]) (fun ((x164, (a162, c163)) : (List Int × (Option Addr × Nat))) => []) (fun ((x164, _) : (List Int × (Option Addr × Nat))) => M_R_UnaryMany_j7 F x164) ?_ ?_
      · refine sxc_seq ?_
        refine sxc_region ?_
        refine sxo_assign rfl rfl rfl ?_
        refine sxo_nil ?_
        refine sxq_next ?_
        refine sxc_block ?_
        refine sxc_nilrow Int (eI .i64) 3 1 ?_
        refine sxc_loopP (fun (((x190, x191), (a188, c189)) : ((List Int × Int) × (Option Addr × Nat))) => [(0, .slice a2 x1.length c3), (2, .pointer (some ⟨g4, 0, none⟩)), (6, .slice a188 x190.length c189), (7, .int .i64 x191)]) (fun (((x190, x191), (a188, c189)) : ((List Int × Int) × (Option Addr × Nat))) => [⟨g4, 24, [.int .i64 0, .slice none 0 0]⟩]) (fun (((x190, x191), (a188, c189)) : ((List Int × Int) × (Option Addr × Nat))) => [Ro (eI .i64) 3 1 (.slice a188 x190.length c189) x190]) (fun (((x190, x191), (a188, c189)) : ((List Int × Int) × (Option Addr × Nat))) => [Sl (eI .u64) 1 (.slice a2 x1.length c3) x1]) (fun k (s : ((List Int × Int) × (Option Addr × Nat))) => M_R_UnaryMany_l8 F x1 k s.1) ((([] : List Int), 0), (none, 0)) F (lk_cons rfl (lk_cons rfl (lk_cons rfl (lk_cons rfl lk_nil)))) (.cons 0 rfl .nil) (.cons 0 rfl .nil) (fk_cons 0 rfl fk_nil) (fun _ => rfl) ?_
        intro k212
        rintro ⟨⟨x190, x191⟩, ⟨a188, c189⟩⟩
        try dsimp only
        refine sxc_meq (m' := M_R_UnaryMany_b8 F x1 (M_R_UnaryMany_l8 F x1 k212) x190 x191) rfl ?_
        refine sxc_seq ?_
        refine sxc_seq ?_
        refine sxc_region ?_
        refine sxo_move rfl rfl rfl ?_
        refine sxo_move rfl rfl rfl ?_
        refine sxo_len rfl Try.underlying46 rfl rfl ?_
        refine sxo_lss rfl rfl rfl rfl ?_
        refine sxo_nil ?_
        refine sxq_next ?_
        refine sxc_if rfl (fun h232 => ?_) (fun h232 => ?_)
        · refine sxc_skip ?_
          refine sxq_next ?_
          refine sxc_seq ?_
          refine sxc_block ?_
          refine sxc_region ?_
          refine sxo_move rfl rfl rfl ?_
          refine sxo_move rfl rfl rfl ?_
          refine sxo_move rfl rfl rfl ?_
          refine sxo_indexF (j := 0) (eI_ok .u64) (by decide) rfl Try.underlying46 tf45 rfl rfl rfl rfl (fun x223 e223 b224 o225 => ?_)
          refine sxo_loadF (j := 0) rfl rfl tf45 rfl rfl (fun _ => rfl) rfl rfl ?_
          refine sxo_call ent54 rfl rfl rfl (fun x226 e226 => C_R_UnaryList F x223 x226 e226) .nil (fun x226 e226 => ?_)
          rintro ⟨a227, c228⟩
          refine sxo_app 1 (eI_ok .i64) rfl Try.underlying25 tf3 rfl rfl rfl rfl rfl (.inl ⟨0, _, rfl⟩) rfl rfl (fun x229 e229 a230 c231 => ?_)
          refine sxo_assign rfl rfl rfl ?_
          refine sxo_nil ?_
          refine sxq_blkN ?_
          refine sxq_next ?_
          refine sxc_region ?_
          refine sxo_move rfl rfl rfl ?_
          refine sxo_add rfl rfl rfl rfl ?_
          refine sxo_assign rfl rfl rfl ?_
          refine sxo_nil ?_
          exact sxq_againP ((x229, iadd .i64 x191 1), (a230, c231)) (lk_cons rfl (lk_cons rfl (lk_cons rfl (lk_cons rfl lk_nil)))) (.cons 0 rfl .nil) (.cons 0 rfl .nil) (fk_cons 1 rfl fk_nil)
        · refine sxc_exit ?_
          refine sxq_thenX ?_
          refine sxq_thenX ?_
          refine sxq_blkX ?_
          exact sxq_meetP (x190, (a188, c189)) (lk_cons rfl (lk_cons rfl lk_nil)) (.cons 0 rfl .nil) (.cons 0 rfl .nil) fk_nil
      · rintro ⟨x164, ⟨a162, c163⟩⟩
        try dsimp only
        refine sxc_seq ?_
        refine sxc_region ?_
        refine sxo_move rfl rfl rfl ?_
        refine sxo_call ent53 rfl rfl rfl (fun x165 e165 => C_R_PackBits F x164 a162 c163 x165 e165) (.consR 0 (Ro (eI .i64) 3 1 (.slice a162 x164.length c163) x164) rfl .nil) (fun x165 e165 => ?_)
        rintro ⟨a166, c167⟩
        refine sxo_storeB (i := 0) rfl rfl rfl tf24 rfl rfl rfl rfl rfl ?_
        refine sxo_assign rfl rfl rfl ?_
        refine sxo_nil ?_
        refine sxq_next ?_
        refine sxc_ret ?_
        exact sxq_doneP (a166, c167) (.inl rfl) (resL (rs := [.cell 2 24, .tmp 3]) rfl (.cell (i := 0) rfl tf24 rfl rfl (by simp) rfl (.tmp rfl ResOk.nil)) rfl) (fun h => by subst h; rfl) (fun h => by subst h; exact (.cons 0 rfl .nil))

theorem C_R_UnaryAll (F : Nat) (x1 : Int) (x2 : List Int) (a3 : Option Addr) (c4 : Nat) (x5 : Int) (r : (List Int × Int × Int)) (hm : M_R_UnaryAll F x1 x2 x5 = some r) :
    Pure Try.prog 34 [.agg #[.int .i64 x1, .slice a3 x2.length c4], .int .i64 x5] [Sl (eI .u8) 1 (.slice a3 x2.length c4) x2] (Option Addr × Nat) (fun g => .tuple #[.slice g.1 r.1.length g.2, .int .i64 r.2.1, .int .i64 r.2.2]) (fun g => [Ro (eI .u64) 45 1 (.slice g.1 r.1.length g.2) r.1]) (fun _ => []) := by
  refine pure_of Try.func34 rfl Try.ntmps34 rfl hm (fun w => ?_)
  refine sxc_env (l' := [(0, .agg #[.int .i64 x1, .slice a3 x2.length c4]), (1, .int .i64 x5)]) rfl ?_
  refine sxc_seq ?_
  refine sxc_region ?_
  refine sxo_box rfl rfl rfl (fun g6 => ?_)
  refine sxo_assign rfl rfl rfl ?_
  refine sxo_assign rfl rfl rfl ?_
  refine sxo_assign rfl rfl rfl ?_
  refine sxo_nil ?_
  refine sxq_next ?_
  refine sxc_seq ?_
  refine sxc_region ?_
  refine sxo_loadB (i := 0) rfl rfl tf24 rfl rfl (by simp) rfl rfl ?_
  refine sxo_call ent18 rfl rfl rfl (fun x7 e7 => C_R_BitsCheck F x1 x2 a3 c4 x7 e7) (.consF 0 rfl .nil) (fun x7 e7 => ?_)
  intro _
  refine sxo_assign rfl rfl rfl ?_
  refine sxo_nil ?_
  refine sxq_next ?_
  refine sxc_join (fun ((x13, _) : (Int × Unit)) => [(1, .int .i64 x5), (2, .pointer (some ⟨g6, 0, none⟩)), (7, .int .i64 x13)]) (fun ((x13, _) : (Int × Unit)) => [⟨g6, 24, [.int .i64 x1, .slice a3 x2.length c4]⟩]) (fun ((x13, _) : (Int × Unit)) => []) (fun ((x13, _) : (Int × Unit)) => [Sl (eI .u8) 1 (.slice a3 x2.length c4) x2]) (fun ((x13, _) : (Int × Unit)) => M_R_UnaryAll_j2 F x1 x2 x5 x13) ?_ ?_
  · refine sxc_seq ?_
    refine sxc_region ?_
    refine sxo_move rfl rfl rfl ?_
    refine sxo_eql rfl rfl rfl rfl ?_
    refine sxo_move rfl rfl rfl ?_
    refine sxo_join 4 (fun ((x98, _) : (Bool × Unit)) => [(1, .int .i64 x5), (2, .pointer (some ⟨g6, 0, none⟩)), (7, .int .i64 x7), (21, .bool x98)]) (fun ((x98, _) : (Bool × Unit)) => [⟨g6, 24, [.int .i64 x1, .slice a3 x2.length c4]⟩]) (fun ((x98, _) : (Bool × Unit)) => []) (fun ((x98, _) : (Bool × Unit)) => [Sl (eI .u8) 1 (.slice a3 x2.length c4) x2]) (fun ((x98, _) : (Bool × Unit)) => M_R_UnaryAll_j6 F x1 x2 x5 x7 x98) ?_ ?_
    · refine sxo_take (os := _) rfl ?_
      refine sxo_if (fun h96 => ?_) (fun h96 => ?_)
      · refine sxo_isT (k := 17) rfl h96 ?_
        refine sxo_move rfl rfl rfl ?_
        refine sxo_call ent48 rfl rfl rfl (fun x100 e100 => C_R_between F x5 0 8192 x100 e100) .nil (fun x100 e100 => ?_)
        intro _
        refine sxo_not rfl rfl rfl ?_
        refine sxo_pick (b := true) rfl rfl rfl rfl ?_
        refine sxo_nil ?_
        exact sxq_meetP ((!x100), ()) (lk_cons rfl (lk_cons rfl (lk_cons rfl (lk_cons rfl lk_nil)))) (.cons 0 rfl .nil) .nil (fk_cons 0 rfl fk_nil)
      · refine sxo_isF (k := 17) rfl h96 ?_
        refine sxo_skip rfl rfl rfl ?_
        refine sxo_skip rfl rfl rfl ?_
        refine sxo_skip rfl rfl rfl ?_
        refine sxo_pick (b := false) rfl rfl rfl rfl ?_
        refine sxo_nil ?_
        exact sxq_meetP (false, ()) (lk_cons rfl (lk_cons rfl (lk_cons rfl (lk_cons rfl lk_nil)))) (.cons 0 rfl .nil) .nil (fk_cons 0 rfl fk_nil)
    · rintro ⟨x98, _⟩
      try dsimp only
      refine sxo_take (os := _) rfl ?_
      refine sxo_nil ?_
      refine sxq_next ?_
      refine sxc_if rfl (fun h99 => ?_) (fun h99 => ?_)
      · refine sxc_region ?_
        refine sxo_assign rfl rfl rfl ?_
        refine sxo_nil ?_
        exact sxq_meetP (3, ()) (lk_cons rfl (lk_cons rfl (lk_cons rfl lk_nil))) (.cons 0 rfl .nil) .nil (fk_cons 0 rfl fk_nil)
      · refine sxc_skip ?_
        exact sxq_meetP (x7, ()) (lk_cons rfl (lk_cons rfl (lk_cons rfl lk_nil))) (.cons 0 rfl .nil) .nil (fk_cons 0 rfl fk_nil)
  · rintro ⟨x13, _⟩
    try dsimp only
    refine sxc_seq ?_
    refine sxc_seq ?_
    refine sxc_region ?_
    refine sxo_move rfl rfl rfl ?_
    refine sxo_neq rfl rfl rfl rfl ?_
    refine sxo_nil ?_
    refine sxq_next ?_
    refine sxc_if rfl (fun h95 => ?_) (fun h95 => ?_)
    · refine sxc_seq ?_
      refine sxc_region ?_
      refine sxo_move rfl rfl rfl ?_
      refine sxo_assign rfl rfl rfl ?_
      refine sxo_assign rfl rfl rfl ?_
      refine sxo_assign rfl rfl rfl ?_
      refine sxo_nil ?_
      refine sxq_next ?_
      refine sxc_ret ?_
      refine sxq_thenR ?_
      refine sxq_nilrow Int (eI .u64) 45 1 ?_
      exact sxq_doneP (none, 0) (.inl rfl) (res3 rfl rfl rfl rfl) (fun h => by subst h; rfl) (fun h => by subst h; exact (.cons 0 rfl .nil))
    · refine sxc_skip ?_
      refine sxq_next ?_
      refine sxc_seq ?_
      refine sxc_region ?_
      refine sxo_loadB (i := 0) rfl rfl tf24 rfl rfl (by simp) rfl rfl ?_
      refine sxo_call ent21 rfl rfl rfl (fun x15 e15 => C_R_BitList F x1 x2 a3 c4 x15 e15) (.consF 0 rfl .nil) (fun x15 e15 => ?_)
      rintro ⟨a16, c17⟩
      refine sxo_assign rfl rfl rfl ?_
      refine sxo_nil ?_
      refine sxq_next ?_
      refine sxc_seq ?_
      refine sxc_region ?_
      refine sxo_assign rfl rfl rfl ?_
      refine sxo_nil ?_
      refine sxq_next ?_
      refine sxc_seq ?_
      refine sxc_region ?_
      refine sxo_assign rfl rfl rfl ?_
      refine sxo_nil ?_
      refine sxq_next ?_
      refine sxc_join (fun (((x55, x58), (a56, c57)) : ((Int × List Int) × (Option Addr × Nat))) => [(9, .int .i64 x55), (10, .slice a56 x58.length c57)]) (fun (((x55, x58), (a56, c57)) : ((Int × List Int) × (Option Addr × Nat))) => []) (fun (((x55, x58), (a56, c57)) : ((Int × List Int) × (Option Addr × Nat))) => [Ro (eI .u64) 45 1 (.slice a56 x58.length c57) x58]) (fun (((x55, x58), (a56, c57)) : ((Int × List Int) × (Option Addr × Nat))) => []) (fun (((x55, x58), _) : ((Int × List Int) × (Option Addr × Nat))) => M_R_UnaryAll_j4 F x55 x58) ?_ ?_
      · refine sxc_block ?_
        refine sxc_nilrow Int (eI .u64) 45 1 ?_
        refine sxc_loopP (fun (((x70, x73), (a71, c72)) : ((Int × List Int) × (Option Addr × Nat))) => [(1, .int .i64 x5), (8, .slice a16 x15.length c17), (9, .int .i64 x70), (10, .slice a71 x73.length c72)]) (fun (((x70, x73), (a71, c72)) : ((Int × List Int) × (Option Addr × Nat))) => []) (fun (((x70, x73), (a71, c72)) : ((Int × List Int) × (Option Addr × Nat))) => [Ro (eI .i64) 3 1 (.slice a16 x15.length c17) x15, Ro (eI .u64) 45 1 (.slice a71 x73.length c72) x73]) (fun (((x70, x73), (a71, c72)) : ((Int × List Int) × (Option Addr × Nat))) => []) (fun k (s : ((Int × List Int) × (Option Addr × Nat))) => M_R_UnaryAll_l5 F x5 x15 k s.1) ((0, ([] : List Int)), (none, 0)) F (lk_cons rfl (lk_cons rfl (lk_cons rfl (lk_cons rfl lk_nil)))) .nil (.cons 1 rfl (.cons 0 rfl .nil)) fk_nil (fun _ => rfl) ?_
        intro k84
        rintro ⟨⟨x70, x73⟩, ⟨a71, c72⟩⟩
        try dsimp only
        refine sxc_meq (m' := M_R_UnaryAll_b5 F x5 x15 (M_R_UnaryAll_l5 F x5 x15 k84) x70 x73) rfl ?_
        refine sxc_seq ?_
        refine sxc_seq ?_
        refine sxc_region ?_
        refine sxo_move rfl rfl rfl ?_
        refine sxo_len rfl Try.underlying46 rfl rfl ?_
        refine sxo_move rfl rfl rfl ?_
        refine sxo_lss rfl rfl rfl rfl ?_
        refine sxo_nil ?_
        refine sxq_next ?_
        refine sxc_if rfl (fun h94 => ?_) (fun h94 => ?_)
        · refine sxc_skip ?_
          refine sxq_next ?_
          refine sxc_block ?_
          refine sxc_seq ?_
          refine sxc_region ?_
          refine sxo_move rfl rfl rfl ?_
          refine sxo_move rfl rfl rfl ?_
          refine sxo_call ent32 rfl rfl rfl (fun x86 e86 => C_R_UnaryRead F x15 a16 c17 x70 x86 e86) (.consR 0 (Ro (eI .i64) 3 1 (.slice a16 x15.length c17) x15) rfl .nil) (fun x86 e86 => ?_)
          intro _
          refine sxo_move rfl rfl rfl ?_
          refine sxo_extract rfl rfl rfl rfl ?_
          refine sxo_extract rfl rfl rfl rfl ?_
          refine sxo_assign rfl rfl rfl ?_
          refine sxo_assign rfl rfl rfl ?_
          refine sxo_nil ?_
          refine sxq_next ?_
          refine sxc_seq ?_
          refine sxc_seq ?_
          refine sxc_region ?_
          refine sxo_move rfl rfl rfl ?_
          refine sxo_lss rfl rfl rfl rfl ?_
          refine sxo_nil ?_
          refine sxq_next ?_
          refine sxc_if rfl (fun h93 => ?_) (fun h93 => ?_)
          · refine sxc_seq ?_
            refine sxc_region ?_
            refine sxo_assign rfl rfl rfl ?_
            refine sxo_assign rfl rfl rfl ?_
            refine sxo_assign rfl rfl rfl ?_
            refine sxo_nil ?_
            refine sxq_next ?_
            refine sxc_ret ?_
            refine sxq_thenR ?_
            refine sxq_blkR ?_
            refine sxq_thenR ?_
            refine sxq_blkR ?_
            refine sxq_thenR ?_
            refine sxq_nilrow Int (eI .u64) 45 1 ?_
            exact sxq_doneP (none, 0) (.inl rfl) (res3 rfl rfl rfl rfl) (fun h => by subst h; rfl) (fun h => by subst h; exact (.cons 0 rfl .nil))
          · refine sxc_skip ?_
            refine sxq_next ?_
            refine sxc_seq ?_
            refine sxc_region ?_
            refine sxo_move rfl rfl rfl ?_
            refine sxo_move rfl rfl rfl ?_
            refine sxo_slit (vs := [.int .u64 x86.1]) (ys := ([x86.1] : List Int)) (eI_ok .u64) (by decide) rfl Try.underlying46 tf45 rfl rfl rfl rfl rfl (by decide) (fun a88 c89 => ?_)
            refine sxo_app 2 (eI_ok .u64) rfl Try.underlying46 tf45 rfl rfl rfl rfl rfl (.inl ⟨0, _, rfl⟩) rfl rfl (fun x90 e90 a91 c92 => ?_)
            refine sxo_assign rfl rfl rfl ?_
            refine sxo_nil ?_
            refine sxq_next ?_
            refine sxc_region ?_
            refine sxo_move rfl rfl rfl ?_
            refine sxo_assign rfl rfl rfl ?_
            refine sxo_nil ?_
            refine sxq_blkN ?_
            exact sxq_againP ((x86.2, x90), (a91, c92)) (lk_cons rfl (lk_cons rfl (lk_cons rfl (lk_cons rfl lk_nil)))) .nil (.cons 2 rfl (.cons 0 rfl .nil)) fk_nil
        · refine sxc_exit ?_
          refine sxq_thenX ?_
          refine sxq_thenX ?_
          refine sxq_blkX ?_
          exact sxq_meetP ((x70, x73), (a71, c72)) (lk_cons rfl (lk_cons rfl lk_nil)) .nil (.cons 1 rfl .nil) fk_nil
      · rintro ⟨⟨x55, x58⟩, ⟨a56, c57⟩⟩
        try dsimp only
        refine sxc_seq ?_
        refine sxc_region ?_
        refine sxo_move rfl rfl rfl ?_
        refine sxo_move rfl rfl rfl ?_
        refine sxo_assign rfl rfl rfl ?_
        refine sxo_assign rfl rfl rfl ?_
        refine sxo_assign rfl rfl rfl ?_
        refine sxo_nil ?_
        refine sxq_next ?_
        refine sxc_ret ?_
        exact sxq_doneP (a56, c57) (.inl rfl) (res3 rfl rfl rfl rfl) (fun h => by subst h; rfl) (fun h => by subst h; exact (.cons 0 rfl .nil))

theorem C_R_SameBytes (F : Nat) (x1 : List Int) (a2 : Option Addr) (c3 : Nat) (x4 : List Int) (a5 : Option Addr) (c6 : Nat) (r : Bool) (hm : M_R_SameBytes F x1 x4 = some r) :
    Pure Try.prog 55 [.slice a2 x1.length c3, .slice a5 x4.length c6] [Sl (eI .u8) 1 (.slice a2 x1.length c3) x1, Sl (eI .u8) 1 (.slice a5 x4.length c6) x4] Unit (fun _ => .bool r) (fun _ => []) (fun _ => []) := by
  refine pure_of Try.func55 rfl Try.ntmps55 rfl hm (fun w => ?_)
  refine sxc_env (l' := [(0, .slice a2 x1.length c3), (1, .slice a5 x4.length c6)]) rfl ?_
  refine sxc_seq ?_
  refine sxc_region ?_
  refine sxo_assign rfl rfl rfl ?_
  refine sxo_nil ?_
  refine sxq_next ?_
  refine sxc_seq ?_
  refine sxc_seq ?_
  refine sxc_region ?_
  refine sxo_move rfl rfl rfl ?_
  refine sxo_len rfl Try.underlying22 rfl rfl ?_
  refine sxo_move rfl rfl rfl ?_
  refine sxo_len rfl Try.underlying22 rfl rfl ?_
  refine sxo_neq rfl rfl rfl rfl ?_
  refine sxo_nil ?_
  refine sxq_next ?_
  refine sxc_if rfl (fun h228 => ?_) (fun h228 => ?_)
  · refine sxc_seq ?_
    refine sxc_region ?_
    refine sxo_assign rfl rfl rfl ?_
    refine sxo_nil ?_
    refine sxq_next ?_
    refine sxc_ret ?_
    refine sxq_thenR ?_
    exact sxq_doneP () (.inl rfl) (res1 rfl rfl) (fun h => by subst h; rfl) (fun h => by subst h; exact .nil)
  · refine sxc_skip ?_
    refine sxq_next ?_
    refine sxc_join (fun ((_, _) : (Unit × Unit)) => []) (fun ((_, _) : (Unit × Unit)) => []) (fun ((_, _) : (Unit × Unit)) => []) (fun ((_, _) : (Unit × Unit)) => []) (fun ((_, _) : (Unit × Unit)) => M_R_SameBytes_j2 F) ?_ ?_
    · refine sxc_seq ?_
      refine sxc_region ?_
      refine sxo_assign rfl rfl rfl ?_
      refine sxo_nil ?_
      refine sxq_next ?_
      refine sxc_block ?_
      refine sxc_loopP (fun ((x154, _) : (Int × Unit)) => [(0, .slice a2 x1.length c3), (1, .slice a5 x4.length c6), (5, .int .i64 x154)]) (fun ((x154, _) : (Int × Unit)) => []) (fun ((x154, _) : (Int × Unit)) => []) (fun ((x154, _) : (Int × Unit)) => [Sl (eI .u8) 1 (.slice a2 x1.length c3) x1, Sl (eI .u8) 1 (.slice a5 x4.length c6) x4]) (fun k (s : (Int × Unit)) => M_R_SameBytes_l3 F x1 x4 k s.1) (0, ()) F (lk_cons rfl (lk_cons rfl (lk_cons rfl lk_nil))) .nil .nil (fk_cons 0 rfl (fk_cons 1 rfl fk_nil)) (fun _ => rfl) ?_
      intro k191
      rintro ⟨x154, _⟩
      try dsimp only
      refine sxc_meq (m' := M_R_SameBytes_b3 F x1 x4 (M_R_SameBytes_l3 F x1 x4 k191) x154) rfl ?_
      refine sxc_seq ?_
      refine sxc_seq ?_
      refine sxc_region ?_
      refine sxo_move rfl rfl rfl ?_
      refine sxo_move rfl rfl rfl ?_
      refine sxo_len rfl Try.underlying22 rfl rfl ?_
      refine sxo_lss rfl rfl rfl rfl ?_
      refine sxo_nil ?_
      refine sxq_next ?_
      refine sxc_if rfl (fun h227 => ?_) (fun h227 => ?_)
      · refine sxc_skip ?_
        refine sxq_next ?_
        refine sxc_seq ?_
        refine sxc_block ?_
        refine sxc_seq ?_
        refine sxc_idxF (j := 0) (eI_ok .u8) (by decide) rfl (fun x218 e218 b219 o220 h221 => ?_)
        replace h221 : a2 = some ⟨b219, o220, none⟩ := h221
        refine sxc_idxF (j := 2) (eI_ok .u8) (by decide) rfl (fun x222 e222 b223 o224 h225 => ?_)
        replace h225 : a5 = some ⟨b223, o224, none⟩ := h225
        refine sxb_draw mixed [] [] [CellsAt b223 (o224 + x154.toNat * 1) ((eI .u8) x222), CellsAt b219 (o220 + x154.toNat * 1) ((eI .u8) x218), Sl (eI .u8) 1 (.slice a2 x1.length c3) x1, Sl (eI .u8) 1 (.slice a5 x4.length c6) x4] .nil (gk_F 0 rfl (gk_F 1 rfl (gk_F 2 rfl (gk_F 3 rfl gk_nil)))) 9 rfl ?_
        refine sxb_takeP 0 (.slice a2 x1.length c3) rfl rfl rfl rfl (by kernel_rfl) (by kernel_rfl) (by kernel_rfl) (by kernel_rfl) (by kernel_rfl) rfl (show _ = #[true, false, false, false, false, false, false, false, false] from rfl) (yv_pv rfl) ?_
        refine sxb_takeP 1 (.int .i64 x154) rfl rfl rfl rfl (by kernel_rfl) (by kernel_rfl) (by kernel_rfl) (by kernel_rfl) (by kernel_rfl) rfl (show _ = #[true, true, false, false, false, false, false, false, false] from rfl) (yv_pv rfl) ?_
        refine sxb_again (d := 17) (v := .slice (some ⟨b219, o220, none⟩) x1.length c3) rfl (by rw [h221]) ?_
        refine sxb_takeP 2 (.pointer (some ⟨b219, (o220 + x154.toNat * 1), none⟩)) rfl rfl rfl rfl (by kernel_rfl) (by kernel_rfl) (by kernel_rfl) (by kernel_rfl) (by kernel_rfl) rfl (show _ = #[true, true, true, false, false, false, false, false, false] from rfl) (yv_idx Try.underlying22 tf5 rfl rfl (idx_get e218).1 (idx_lt e218)) ?_
        refine sxb_again (d := 17) (v := .slice a2 x1.length c3) rfl (by rw [h221]) ?_
        refine sxb_take 3 (.int .u8 x218) [] rfl rfl rfl rfl (by kernel_rfl) (by kernel_rfl) (by kernel_rfl) (by kernel_rfl) (by kernel_rfl) (by kernel_rfl) rfl (show _ = #[true, true, true, true, false, false, false, false, false] from rfl) (yv_loadF (j := 1) rfl tf5 rfl rfl (fun _ => rfl) rfl) ?_
        refine sxb_takeP 4 (.slice a5 x4.length c6) rfl rfl rfl rfl (by kernel_rfl) (by kernel_rfl) (by kernel_rfl) (by kernel_rfl) (by kernel_rfl) rfl (show _ = #[true, true, true, true, true, false, false, false, false] from rfl) (yv_pv rfl) ?_
        refine sxb_takeP 5 (.int .i64 x154) rfl rfl rfl rfl (by kernel_rfl) (by kernel_rfl) (by kernel_rfl) (by kernel_rfl) (by kernel_rfl) rfl (show _ = #[true, true, true, true, true, true, false, false, false] from rfl) (yv_pv rfl) ?_
        refine sxb_again (d := 21) (v := .slice (some ⟨b223, o224, none⟩) x4.length c6) rfl (by rw [h225]) ?_
        refine sxb_takeP 6 (.pointer (some ⟨b223, (o224 + x154.toNat * 1), none⟩)) rfl rfl rfl rfl (by kernel_rfl) (by kernel_rfl) (by kernel_rfl) (by kernel_rfl) (by kernel_rfl) rfl (show _ = #[true, true, true, true, true, true, true, false, false] from rfl) (yv_idx Try.underlying22 tf5 rfl rfl (idx_get e222).1 (idx_lt e222)) ?_
        refine sxb_again (d := 21) (v := .slice a5 x4.length c6) rfl (by rw [h225]) ?_
        refine sxb_take 7 (.int .u8 x222) [] rfl rfl rfl rfl (by kernel_rfl) (by kernel_rfl) (by kernel_rfl) (by kernel_rfl) (by kernel_rfl) (by kernel_rfl) rfl (show _ = #[true, true, true, true, true, true, true, true, false] from rfl) (yv_loadF (j := 0) rfl tf5 rfl rfl (fun _ => rfl) rfl) ?_
        refine sxb_takeP 8 (.bool ((x218 : Int) != x222)) rfl rfl rfl rfl (by kernel_rfl) (by kernel_rfl) (by kernel_rfl) (by kernel_rfl) (by kernel_rfl) rfl (show _ = #[true, true, true, true, true, true, true, true, true] from rfl) (yv_pv rfl) ?_
        refine sxb_done (by kernel_rfl) ?_
        refine sxq_np ?_ (by intro c h; cases h)
        refine sxq_next ?_
        refine sxc_if rfl (fun h226 => ?_) (fun h226 => ?_)
        · refine sxc_seq ?_
          refine sxc_region ?_
          refine sxo_assign rfl rfl rfl ?_
          refine sxo_nil ?_
          refine sxq_next ?_
          refine sxc_ret ?_
          refine sxq_blkR ?_
          refine sxq_thenR ?_
          refine sxq_thenR ?_
          refine sxq_blkR ?_
          refine sxq_thenR ?_
          exact sxq_doneP () (.inl rfl) (res1 rfl rfl) (fun h => by subst h; rfl) (fun h => by subst h; exact .nil)
        · refine sxc_skip ?_
          refine sxq_blkN ?_
          refine sxq_next ?_
          refine sxc_region ?_
          refine sxo_move rfl rfl rfl ?_
          refine sxo_add rfl rfl rfl rfl ?_
          refine sxo_assign rfl rfl rfl ?_
          refine sxo_nil ?_
          exact sxq_againP (iadd .i64 x154 1, ()) (lk_cons rfl (lk_cons rfl (lk_cons rfl lk_nil))) .nil .nil (fk_cons 2 rfl (fk_cons 3 rfl fk_nil))
      · refine sxc_exit ?_
        refine sxq_thenX ?_
        refine sxq_thenX ?_
        refine sxq_blkX ?_
        exact sxq_meetP ((), ()) lk_nil .nil .nil fk_nil
    · rintro ⟨_, _⟩
      try dsimp only
      refine sxc_seq ?_
      refine sxc_region ?_
      refine sxo_assign rfl rfl rfl ?_
      refine sxo_nil ?_
      refine sxq_next ?_
      refine sxc_ret ?_
      exact sxq_doneP () (.inl rfl) (res1 rfl rfl) (fun h => by subst h; rfl) (fun h => by subst h; exact .nil)

theorem C_R_SameBits (F : Nat) (x1 : Int) (x2 : List Int) (a3 : Option Addr) (c4 : Nat) (x5 : Int) (x6 : List Int) (a7 : Option Addr) (c8 : Nat) (r : Bool) (hm : M_R_SameBits F x1 x2 x5 x6 = some r) :
    Pure Try.prog 36 [.agg #[.int .i64 x1, .slice a3 x2.length c4], .agg #[.int .i64 x5, .slice a7 x6.length c8]] [Sl (eI .u8) 1 (.slice a3 x2.length c4) x2, Sl (eI .u8) 1 (.slice a7 x6.length c8) x6] Unit (fun _ => .bool r) (fun _ => []) (fun _ => []) := by
  refine pure_of Try.func36 rfl Try.ntmps36 rfl hm (fun w => ?_)
  refine sxc_env (l' := [(0, .agg #[.int .i64 x1, .slice a3 x2.length c4]), (1, .agg #[.int .i64 x5, .slice a7 x6.length c8])]) rfl ?_
  refine sxc_seq ?_
  refine sxc_region ?_
  refine sxo_box rfl rfl rfl (fun g9 => ?_)
  refine sxo_box rfl rfl rfl (fun g10 => ?_)
  refine sxo_assign rfl rfl rfl ?_
  refine sxo_nil ?_
  refine sxq_next ?_
  refine sxc_seq ?_
  refine sxc_region ?_
  refine sxo_fieldAddr rfl rfl ff24_0 rfl ?_
  refine sxo_loadB (i := 1) rfl rfl tf3 rfl rfl (fun _ => rfl) rfl rfl ?_
  refine sxo_fieldAddr rfl rfl ff24_0 rfl ?_
  refine sxo_loadB (i := 0) rfl rfl tf3 rfl rfl (fun _ => rfl) rfl rfl ?_
  refine sxo_eql rfl rfl rfl rfl ?_
  refine sxo_move rfl rfl rfl ?_
  refine sxo_join 6 (fun ((x13, _) : (Bool × Unit)) => [(16, .bool x13)]) (fun ((x13, _) : (Bool × Unit)) => []) (fun ((x13, _) : (Bool × Unit)) => []) (fun ((x13, _) : (Bool × Unit)) => []) (fun ((x13, _) : (Bool × Unit)) => M_R_SameBits_j1 F x13) ?_ ?_
  · refine sxo_take (os := _) rfl ?_
    refine sxo_if (fun h11 => ?_) (fun h11 => ?_)
    · refine sxo_isT (k := 10) rfl h11 ?_
      refine sxo_fieldAddr rfl rfl ff24_1 rfl ?_
      refine sxo_loadB (i := 1) rfl rfl tf22 rfl rfl (fun _ => rfl) rfl rfl ?_
      refine sxo_fieldAddr rfl rfl ff24_1 rfl ?_
      refine sxo_loadB (i := 0) rfl rfl tf22 rfl rfl (fun _ => rfl) rfl rfl ?_
      refine sxo_call ent55 rfl rfl rfl (fun x14 e14 => C_R_SameBytes F x2 a3 c4 x6 a7 c8 x14 e14) (.consF 0 rfl (.consF 1 rfl .nil)) (fun x14 e14 => ?_)
      intro _
      refine sxo_pick (b := true) rfl rfl rfl rfl ?_
      refine sxo_nil ?_
      exact sxq_meetP (x14, ()) (lk_cons rfl lk_nil) .nil .nil fk_nil
    · refine sxo_isF (k := 10) rfl h11 ?_
      refine sxo_skip rfl rfl rfl ?_
      refine sxo_skip rfl rfl rfl ?_
      refine sxo_skip rfl rfl rfl ?_
      refine sxo_skip rfl rfl rfl ?_
      refine sxo_skip rfl rfl rfl ?_
      refine sxo_pick (b := false) rfl rfl rfl rfl ?_
      refine sxo_nil ?_
      exact sxq_meetP (false, ()) (lk_cons rfl lk_nil) .nil .nil fk_nil
  · rintro ⟨x13, _⟩
    try dsimp only
    refine sxo_take (os := _) rfl ?_
    refine sxo_assign rfl rfl rfl ?_
    refine sxo_nil ?_
    refine sxq_next ?_
    refine sxc_ret ?_
    exact sxq_doneP () (.inl rfl) (res1 rfl rfl) (fun h => by subst h; rfl) (fun h => by subst h; exact .nil)

theorem C_R_SameNums (F : Nat) (x1 : List Int) (a2 : Option Addr) (c3 : Nat) (x4 : List Int) (a5 : Option Addr) (c6 : Nat) (r : Bool) (hm : M_R_SameNums F x1 x4 = some r) :
    Pure Try.prog 37 [.slice a2 x1.length c3, .slice a5 x4.length c6] [Sl (eI .u64) 1 (.slice a2 x1.length c3) x1, Sl (eI .u64) 1 (.slice a5 x4.length c6) x4] Unit (fun _ => .bool r) (fun _ => []) (fun _ => []) := by
  refine pure_of Try.func37 rfl Try.ntmps37 rfl hm (fun w => ?_)
  refine sxc_env (l' := [(0, .slice a2 x1.length c3), (1, .slice a5 x4.length c6)]) rfl ?_
  refine sxc_seq ?_
  refine sxc_region ?_
  refine sxo_assign rfl rfl rfl ?_
  refine sxo_nil ?_
  refine sxq_next ?_
  refine sxc_seq ?_
  refine sxc_seq ?_
  refine sxc_region ?_
  refine sxo_move rfl rfl rfl ?_
  refine sxo_len rfl Try.underlying46 rfl rfl ?_
  refine sxo_move rfl rfl rfl ?_
  refine sxo_len rfl Try.underlying46 rfl rfl ?_
  refine sxo_neq rfl rfl rfl rfl ?_
  refine sxo_nil ?_
  refine sxq_next ?_
  refine sxc_if rfl (fun h228 => ?_) (fun h228 => ?_)
  · refine sxc_seq ?_
    refine sxc_region ?_
    refine sxo_assign rfl rfl rfl ?_
    refine sxo_nil ?_
    refine sxq_next ?_
    refine sxc_ret ?_
    refine sxq_thenR ?_
    exact sxq_doneP () (.inl rfl) (res1 rfl rfl) (fun h => by subst h; rfl) (fun h => by subst h; exact .nil)
  · refine sxc_skip ?_
    refine sxq_next ?_
    refine sxc_join (fun ((_, _) : (Unit × Unit)) => []) (fun ((_, _) : (Unit × Unit)) => []) (fun ((_, _) : (Unit × Unit)) => []) (fun ((_, _) : (Unit × Unit)) => []) (fun ((_, _) : (Unit × Unit)) => M_R_SameNums_j2 F) ?_ ?_
    · refine sxc_seq ?_
      refine sxc_region ?_
      refine sxo_assign rfl rfl rfl ?_
      refine sxo_nil ?_
      refine sxq_next ?_
      refine sxc_block ?_
      refine sxc_loopP (fun ((x154, _) : (Int × Unit)) => [(0, .slice a2 x1.length c3), (1, .slice a5 x4.length c6), (5, .int .i64 x154)]) (fun ((x154, _) : (Int × Unit)) => []) (fun ((x154, _) : (Int × Unit)) => []) (fun ((x154, _) : (Int × Unit)) => [Sl (eI .u64) 1 (.slice a2 x1.length c3) x1, Sl (eI .u64) 1 (.slice a5 x4.length c6) x4]) (fun k (s : (Int × Unit)) => M_R_SameNums_l3 F x1 x4 k s.1) (0, ()) F (lk_cons rfl (lk_cons rfl (lk_cons rfl lk_nil))) .nil .nil (fk_cons 0 rfl (fk_cons 1 rfl fk_nil)) (fun _ => rfl) ?_
      intro k191
      rintro ⟨x154, _⟩
      try dsimp only
      refine sxc_meq (m' := M_R_SameNums_b3 F x1 x4 (M_R_SameNums_l3 F x1 x4 k191) x154) rfl ?_
      refine sxc_seq ?_
      refine sxc_seq ?_
      refine sxc_region ?_
      refine sxo_move rfl rfl rfl ?_
      refine sxo_move rfl rfl rfl ?_
      refine sxo_len rfl Try.underlying46 rfl rfl ?_
      refine sxo_lss rfl rfl rfl rfl ?_
      refine sxo_nil ?_
      refine sxq_next ?_
      refine sxc_if rfl (fun h227 => ?_) (fun h227 => ?_)
      · refine sxc_skip ?_
        refine sxq_next ?_
        refine sxc_seq ?_
        refine sxc_block ?_
        refine sxc_seq ?_
        refine sxc_idxF (j := 0) (eI_ok .u64) (by decide) rfl (fun x218 e218 b219 o220 h221 => ?_)
        replace h221 : a2 = some ⟨b219, o220, none⟩ := h221
        refine sxc_idxF (j := 2) (eI_ok .u64) (by decide) rfl (fun x222 e222 b223 o224 h225 => ?_)
        replace h225 : a5 = some ⟨b223, o224, none⟩ := h225
        refine sxb_draw mixed [] [] [CellsAt b223 (o224 + x154.toNat * 1) ((eI .u64) x222), CellsAt b219 (o220 + x154.toNat * 1) ((eI .u64) x218), Sl (eI .u64) 1 (.slice a2 x1.length c3) x1, Sl (eI .u64) 1 (.slice a5 x4.length c6) x4] .nil (gk_F 0 rfl (gk_F 1 rfl (gk_F 2 rfl (gk_F 3 rfl gk_nil)))) 9 rfl ?_
        refine sxb_takeP 0 (.slice a2 x1.length c3) rfl rfl rfl rfl (by kernel_rfl) (by kernel_rfl) (by kernel_rfl) (by kernel_rfl) (by kernel_rfl) rfl (show _ = #[true, false, false, false, false, false, false, false, false] from rfl) (yv_pv rfl) ?_
        refine sxb_takeP 1 (.int .i64 x154) rfl rfl rfl rfl (by kernel_rfl) (by kernel_rfl) (by kernel_rfl) (by kernel_rfl) (by kernel_rfl) rfl (show _ = #[true, true, false, false, false, false, false, false, false] from rfl) (yv_pv rfl) ?_
        refine sxb_again (d := 17) (v := .slice (some ⟨b219, o220, none⟩) x1.length c3) rfl (by rw [h221]) ?_
        refine sxb_takeP 2 (.pointer (some ⟨b219, (o220 + x154.toNat * 1), none⟩)) rfl rfl rfl rfl (by kernel_rfl) (by kernel_rfl) (by kernel_rfl) (by kernel_rfl) (by kernel_rfl) rfl (show _ = #[true, true, true, false, false, false, false, false, false] from rfl) (yv_idx Try.underlying46 tf45 rfl rfl (idx_get e218).1 (idx_lt e218)) ?_
        refine sxb_again (d := 17) (v := .slice a2 x1.length c3) rfl (by rw [h221]) ?_
        refine sxb_take 3 (.int .u64 x218) [] rfl rfl rfl rfl (by kernel_rfl) (by kernel_rfl) (by kernel_rfl) (by kernel_rfl) (by kernel_rfl) (by kernel_rfl) rfl (show _ = #[true, true, true, true, false, false, false, false, false] from rfl) (yv_loadF (j := 1) rfl tf45 rfl rfl (fun _ => rfl) rfl) ?_
        refine sxb_takeP 4 (.slice a5 x4.length c6) rfl rfl rfl rfl (by kernel_rfl) (by kernel_rfl) (by kernel_rfl) (by kernel_rfl) (by kernel_rfl) rfl (show _ = #[true, true, true, true, true, false, false, false, false] from rfl) (yv_pv rfl) ?_
        refine sxb_takeP 5 (.int .i64 x154) rfl rfl rfl rfl (by kernel_rfl) (by kernel_rfl) (by kernel_rfl) (by kernel_rfl) (by kernel_rfl) rfl (show _ = #[true, true, true, true, true, true, false, false, false] from rfl) (yv_pv rfl) ?_
        refine sxb_again (d := 21) (v := .slice (some ⟨b223, o224, none⟩) x4.length c6) rfl (by rw [h225]) ?_
        refine sxb_takeP 6 (.pointer (some ⟨b223, (o224 + x154.toNat * 1), none⟩)) rfl rfl rfl rfl (by kernel_rfl) (by kernel_rfl) (by kernel_rfl) (by kernel_rfl) (by kernel_rfl) rfl (show _ = #[true, true, true, true, true, true, true, false, false] from rfl) (yv_idx Try.underlying46 tf45 rfl rfl (idx_get e222).1 (idx_lt e222)) ?_
        refine sxb_again (d := 21) (v := .slice a5 x4.length c6) rfl (by rw [h225]) ?_
        refine sxb_take 7 (.int .u64 x222) [] rfl rfl rfl rfl (by kernel_rfl) (by kernel_rfl) (by kernel_rfl) (by kernel_rfl) (by kernel_rfl) (by kernel_rfl) rfl (show _ = #[true, true, true, true, true, true, true, true, false] from rfl) (yv_loadF (j := 0) rfl tf45 rfl rfl (fun _ => rfl) rfl) ?_
        refine sxb_takeP 8 (.bool ((x218 : Int) != x222)) rfl rfl rfl rfl (by kernel_rfl) (by kernel_rfl) (by kernel_rfl) (by kernel_rfl) (by kernel_rfl) rfl (show _ = #[true, true, true, true, true, true, true, true, true] from rfl) (yv_pv rfl) ?_
        refine sxb_done (by kernel_rfl) ?_
        refine sxq_np ?_ (by intro c h; cases h)
        refine sxq_next ?_
        refine sxc_if rfl (fun h226 => ?_) (fun h226 => ?_)
        · refine sxc_seq ?_
          refine sxc_region ?_
          refine sxo_assign rfl rfl rfl ?_
          refine sxo_nil ?_
          refine sxq_next ?_
          refine sxc_ret ?_
          refine sxq_blkR ?_
          refine sxq_thenR ?_
          refine sxq_thenR ?_
          refine sxq_blkR ?_
          refine sxq_thenR ?_
          exact sxq_doneP () (.inl rfl) (res1 rfl rfl) (fun h => by subst h; rfl) (fun h => by subst h; exact .nil)
        · refine sxc_skip ?_
          refine sxq_blkN ?_
          refine sxq_next ?_
          refine sxc_region ?_
          refine sxo_move rfl rfl rfl ?_
          refine sxo_add rfl rfl rfl rfl ?_
          refine sxo_assign rfl rfl rfl ?_
          refine sxo_nil ?_
          exact sxq_againP (iadd .i64 x154 1, ()) (lk_cons rfl (lk_cons rfl (lk_cons rfl lk_nil))) .nil .nil (fk_cons 2 rfl (fk_cons 3 rfl fk_nil))
      · refine sxc_exit ?_
        refine sxq_thenX ?_
        refine sxq_thenX ?_
        refine sxq_blkX ?_
        exact sxq_meetP ((), ()) lk_nil .nil .nil fk_nil
    · rintro ⟨_, _⟩
      try dsimp only
      refine sxc_seq ?_
      refine sxc_region ?_
      refine sxo_assign rfl rfl rfl ?_
      refine sxo_nil ?_
      refine sxq_next ?_
      refine sxc_ret ?_
      exact sxq_doneP () (.inl rfl) (res1 rfl rfl) (fun h => by subst h; rfl) (fun h => by subst h; exact .nil)

set_option maxHeartbeats 4000000 in
theorem C_L_unaryBegun (F : Nat)  (r : Bool) (hm : M_L_unaryBegun F  = some r) :
    Pure Try.prog 35 [] [] Unit (fun _ => .bool r) (fun _ => []) (fun _ => []) := by
  refine pure_of Try.func35 rfl Try.ntmps35 rfl hm (fun w => ?_)
  refine sxc_env (l' := []) rfl ?_
  refine sxc_seq ?_
  refine sxc_region ?_
  refine sxo_assign rfl rfl rfl ?_
  refine sxo_nil ?_
  refine sxq_next ?_
  refine sxc_seq ?_
  refine sxc_region ?_
  refine sxo_call ent27 rfl rfl rfl (fun x1 e1 => C_unary_Code F 3 x1 e1) .nil (fun x1 e1 => ?_)
  rintro ⟨a2, c3⟩
  refine sxo_move rfl rfl rfl ?_
  refine sxo_extract rfl rfl rfl rfl ?_
  refine sxo_extract rfl rfl rfl rfl ?_
  refine sxo_alloc rfl tf24 rfl (fun g4 => ?_)
  refine sxo_storeB (i := 0) rfl rfl rfl tf24 rfl rfl rfl rfl rfl ?_
  refine sxo_assign rfl rfl rfl ?_
  refine sxo_nil ?_
  refine sxq_next ?_
  refine sxc_seq ?_
  refine sxc_region ?_
  refine sxo_loadB (i := 0) rfl rfl tf24 rfl rfl (by simp) rfl rfl ?_
  refine sxo_call ent28 rfl rfl rfl (fun x5 e5 => C_unary_Read F x1.1 x1.2.1 a2 c3 1 x5 e5) (.consR 0 (Ro (eI .u8) 5 1 (.slice a2 x1.2.1.length c3) x1.2.1) rfl .nil) (fun x5 e5 => ?_)
  intro _
  refine sxo_move rfl rfl rfl ?_
  refine sxo_extract rfl rfl rfl rfl ?_
  refine sxo_extract rfl rfl rfl rfl ?_
  refine sxo_extract rfl rfl rfl rfl ?_
  refine sxo_assign rfl rfl rfl ?_
  refine sxo_assign rfl rfl rfl ?_
  refine sxo_assign rfl rfl rfl ?_
  refine sxo_nil ?_
  refine sxq_next ?_
  refine sxc_seq ?_
  refine sxc_region ?_
  refine sxo_slit (vs := [.int .u64 0, .int .u64 2, .int .u64 1]) (ys := ([0, 2, 1] : List Int)) (eI_ok .u64) (by decide) rfl Try.underlying46 tf45 rfl rfl rfl rfl rfl (by decide) (fun a6 c7 => ?_)
  refine sxo_call ent29 rfl rfl rfl (fun x8 e8 => C_unary_Many F ([0, 2, 1] : List Int) a6 c7 x8 e8) (.consR 0 (Ro (eI .u64) 45 1 (.slice a6 ([0, 2, 1] : List Int).length c7) ([0, 2, 1] : List Int)) rfl .nil) (fun x8 e8 => ?_)
  rintro ⟨a9, c10⟩
  refine sxo_move rfl rfl rfl ?_
  refine sxo_extract rfl rfl rfl rfl ?_
  refine sxo_extract rfl rfl rfl rfl ?_
  refine sxo_alloc rfl tf24 rfl (fun g11 => ?_)
  refine sxo_storeB (i := 0) rfl rfl rfl tf24 rfl rfl rfl rfl rfl ?_
  refine sxo_assign rfl rfl rfl ?_
  refine sxo_nil ?_
  refine sxq_next ?_
  refine sxc_seq ?_
  refine sxc_region ?_
  refine sxo_loadB (i := 0) rfl rfl tf24 rfl rfl (by simp) rfl rfl ?_
  refine sxo_call ent30 rfl rfl rfl (fun x12 e12 => C_unary_All F x8.1 x8.2.1 a9 c10 2 x12 e12) (.consR 0 (Ro (eI .u8) 5 1 (.slice a9 x8.2.1.length c10) x8.2.1) rfl .nil) (fun x12 e12 => ?_)
  rintro ⟨a13, c14⟩
  refine sxo_move rfl rfl rfl ?_
  refine sxo_extract rfl rfl rfl rfl ?_
  refine sxo_extract rfl rfl rfl rfl ?_
  refine sxo_extract rfl rfl rfl rfl ?_
  refine sxo_assign rfl rfl rfl ?_
  refine sxo_assign rfl rfl rfl ?_
  refine sxo_assign rfl rfl rfl ?_
  refine sxo_nil ?_
  refine sxq_next ?_
  refine sxc_seq ?_
  refine sxc_region ?_
  refine sxo_build (cells := [.int .i64 0, .slice none 0 0]) rfl st24 rfl (by kernel_rfl) rfl ?_
  refine sxo_nilrow' Int (eI .u8) 5 1 ?_
  refine sxo_call ent28 rfl rfl rfl (fun x15 e15 => C_unary_Read F 0 ([] : List Int) none 0 0 x15 e15) (.consR 0 (Ro (eI .u8) 5 1 (.slice none ([] : List Int).length 0) ([] : List Int)) rfl .nil) (fun x15 e15 => ?_)
  intro _
  refine sxo_move rfl rfl rfl ?_
  refine sxo_extract rfl rfl rfl rfl ?_
  refine sxo_extract rfl rfl rfl rfl ?_
  refine sxo_extract rfl rfl rfl rfl ?_
  refine sxo_assign rfl rfl rfl ?_
  refine sxo_assign rfl rfl rfl ?_
  refine sxo_assign rfl rfl rfl ?_
  refine sxo_nil ?_
  refine sxq_next ?_
  refine sxc_seq ?_
  refine sxc_region ?_
  refine sxo_loadB (i := 1) rfl rfl tf24 rfl rfl (by simp) rfl rfl ?_
  refine sxo_slit (vs := [.int .u8 16]) (ys := ([16] : List Int)) (eI_ok .u8) (by decide) rfl Try.underlying22 tf5 rfl rfl rfl rfl rfl (by decide) (fun a16 c17 => ?_)
  refine sxo_build (cells := [.int .i64 4, .slice a16 ([16] : List Int).length c17]) rfl st24 rfl (by kernel_rfl) rfl ?_
  refine sxo_call ent36 rfl rfl rfl (fun x18 e18 => C_R_SameBits F x1.1 x1.2.1 a2 c3 4 ([16] : List Int) a16 c17 x18 e18) (.consR 5 (Ro (eI .u8) 5 1 (.slice a2 x1.2.1.length c3) x1.2.1) rfl (.consR 0 (Ro (eI .u8) 5 1 (.slice a16 ([16] : List Int).length c17) ([16] : List Int)) rfl .nil)) (fun x18 e18 => ?_)
  intro _
  refine sxo_move rfl rfl rfl ?_
  refine sxo_case 3 x18 [(3, .int .u64 x5.1), (4, .int .i64 x5.2.1), (5, .int .i64 x5.2.2), (6, .pointer (some ⟨g11, 0, none⟩)), (7, .int .i64 x8.2.2), (8, .slice a13 x12.1.length c14), (9, .int .i64 x12.2.1), (10, .int .i64 x12.2.2), (13, .int .i64 x15.2.2), (48, .bool (x18 && ((x1.2.2 : Int) == 0)))] (fun h19 => ?_) (fun h19 => ?_) ?_
  · refine sxo_take (os := _) rfl ?_
    refine sxo_isT (k := 45) rfl h19 ?_
    refine sxo_move rfl rfl rfl ?_
    refine sxo_eql rfl rfl rfl rfl ?_
    refine sxo_pick (b := true) rfl rfl rfl rfl ?_
    refine sxo_again (d := 48) (v := .bool (x18 && ((x1.2.2 : Int) == 0))) rfl (by rw [h19]; simp only [Bool.true_and]) ?_
    refine sxo_nil ?_
    exact sxq_case (lk_cons rfl (lk_cons rfl (lk_cons rfl (lk_cons rfl (lk_cons rfl (lk_cons rfl (lk_cons rfl (lk_cons rfl (lk_cons rfl (lk_cons rfl lk_nil))))))))))
  · refine sxo_take (os := _) rfl ?_
    refine sxo_isF (k := 45) rfl h19 ?_
    refine sxo_skip rfl rfl rfl ?_
    refine sxo_skip rfl rfl rfl ?_
    refine sxo_pick (b := false) rfl rfl rfl rfl ?_
    refine sxo_again (d := 48) (v := .bool (x18 && ((x1.2.2 : Int) == 0))) rfl (by rw [h19]; simp only [Bool.false_and]) ?_
    refine sxo_nil ?_
    exact sxq_case (lk_cons rfl (lk_cons rfl (lk_cons rfl (lk_cons rfl (lk_cons rfl (lk_cons rfl (lk_cons rfl (lk_cons rfl (lk_cons rfl (lk_cons rfl lk_nil))))))))))
  refine sxo_take (os := _) rfl ?_
  refine sxo_move rfl rfl rfl ?_
  refine sxo_case 3 (x18 && ((x1.2.2 : Int) == 0)) [(4, .int .i64 x5.2.1), (5, .int .i64 x5.2.2), (6, .pointer (some ⟨g11, 0, none⟩)), (7, .int .i64 x8.2.2), (8, .slice a13 x12.1.length c14), (9, .int .i64 x12.2.1), (10, .int .i64 x12.2.2), (13, .int .i64 x15.2.2), (52, .bool ((x18 && ((x1.2.2 : Int) == 0)) && ((x5.1 : Int) == 2)))] (fun h20 => ?_) (fun h20 => ?_) ?_
  · refine sxo_take (os := _) rfl ?_
    refine sxo_isT (k := 49) rfl h20 ?_
    refine sxo_move rfl rfl rfl ?_
    refine sxo_eql rfl rfl rfl rfl ?_
    refine sxo_pick (b := true) rfl rfl rfl rfl ?_
    refine sxo_again (d := 52) (v := .bool ((x18 && ((x1.2.2 : Int) == 0)) && ((x5.1 : Int) == 2))) rfl (by rw [h20]; simp only [Bool.true_and]) ?_
    refine sxo_nil ?_
    exact sxq_case (lk_cons rfl (lk_cons rfl (lk_cons rfl (lk_cons rfl (lk_cons rfl (lk_cons rfl (lk_cons rfl (lk_cons rfl (lk_cons rfl lk_nil)))))))))
  · refine sxo_take (os := _) rfl ?_
    refine sxo_isF (k := 49) rfl h20 ?_
    refine sxo_skip rfl rfl rfl ?_
    refine sxo_skip rfl rfl rfl ?_
    refine sxo_pick (b := false) rfl rfl rfl rfl ?_
    refine sxo_again (d := 52) (v := .bool ((x18 && ((x1.2.2 : Int) == 0)) && ((x5.1 : Int) == 2))) rfl (by rw [h20]; simp only [Bool.false_and]) ?_
    refine sxo_nil ?_
    exact sxq_case (lk_cons rfl (lk_cons rfl (lk_cons rfl (lk_cons rfl (lk_cons rfl (lk_cons rfl (lk_cons rfl (lk_cons rfl (lk_cons rfl lk_nil)))))))))
  refine sxo_take (os := _) rfl ?_
  refine sxo_move rfl rfl rfl ?_
  refine sxo_case 3 ((x18 && ((x1.2.2 : Int) == 0)) && ((x5.1 : Int) == 2)) [(5, .int .i64 x5.2.2), (6, .pointer (some ⟨g11, 0, none⟩)), (7, .int .i64 x8.2.2), (8, .slice a13 x12.1.length c14), (9, .int .i64 x12.2.1), (10, .int .i64 x12.2.2), (13, .int .i64 x15.2.2), (56, .bool (((x18 && ((x1.2.2 : Int) == 0)) && ((x5.1 : Int) == 2)) && ((x5.2.1 : Int) == 4)))] (fun h21 => ?_) (fun h21 => ?_) ?_
  · refine sxo_take (os := _) rfl ?_
    refine sxo_isT (k := 53) rfl h21 ?_
    refine sxo_move rfl rfl rfl ?_
    refine sxo_eql rfl rfl rfl rfl ?_
    refine sxo_pick (b := true) rfl rfl rfl rfl ?_
    refine sxo_again (d := 56) (v := .bool (((x18 && ((x1.2.2 : Int) == 0)) && ((x5.1 : Int) == 2)) && ((x5.2.1 : Int) == 4))) rfl (by rw [h21]; simp only [Bool.true_and]) ?_
    refine sxo_nil ?_
    exact sxq_case (lk_cons rfl (lk_cons rfl (lk_cons rfl (lk_cons rfl (lk_cons rfl (lk_cons rfl (lk_cons rfl (lk_cons rfl lk_nil))))))))
  · refine sxo_take (os := _) rfl ?_
    refine sxo_isF (k := 53) rfl h21 ?_
    refine sxo_skip rfl rfl rfl ?_
    refine sxo_skip rfl rfl rfl ?_
    refine sxo_pick (b := false) rfl rfl rfl rfl ?_
    refine sxo_again (d := 56) (v := .bool (((x18 && ((x1.2.2 : Int) == 0)) && ((x5.1 : Int) == 2)) && ((x5.2.1 : Int) == 4))) rfl (by rw [h21]; simp only [Bool.false_and]) ?_
    refine sxo_nil ?_
    exact sxq_case (lk_cons rfl (lk_cons rfl (lk_cons rfl (lk_cons rfl (lk_cons rfl (lk_cons rfl (lk_cons rfl (lk_cons rfl lk_nil))))))))
  refine sxo_take (os := _) rfl ?_
  refine sxo_move rfl rfl rfl ?_
  refine sxo_case 3 (((x18 && ((x1.2.2 : Int) == 0)) && ((x5.1 : Int) == 2)) && ((x5.2.1 : Int) == 4)) [(6, .pointer (some ⟨g11, 0, none⟩)), (7, .int .i64 x8.2.2), (8, .slice a13 x12.1.length c14), (9, .int .i64 x12.2.1), (10, .int .i64 x12.2.2), (13, .int .i64 x15.2.2), (60, .bool ((((x18 && ((x1.2.2 : Int) == 0)) && ((x5.1 : Int) == 2)) && ((x5.2.1 : Int) == 4)) && ((x5.2.2 : Int) == 0)))] (fun h22 => ?_) (fun h22 => ?_) ?_
  · refine sxo_take (os := _) rfl ?_
    refine sxo_isT (k := 57) rfl h22 ?_
    refine sxo_move rfl rfl rfl ?_
    refine sxo_eql rfl rfl rfl rfl ?_
    refine sxo_pick (b := true) rfl rfl rfl rfl ?_
    refine sxo_again (d := 60) (v := .bool ((((x18 && ((x1.2.2 : Int) == 0)) && ((x5.1 : Int) == 2)) && ((x5.2.1 : Int) == 4)) && ((x5.2.2 : Int) == 0))) rfl (by rw [h22]; simp only [Bool.true_and]) ?_
    refine sxo_nil ?_
    exact sxq_case (lk_cons rfl (lk_cons rfl (lk_cons rfl (lk_cons rfl (lk_cons rfl (lk_cons rfl (lk_cons rfl lk_nil)))))))
  · refine sxo_take (os := _) rfl ?_
    refine sxo_isF (k := 57) rfl h22 ?_
    refine sxo_skip rfl rfl rfl ?_
    refine sxo_skip rfl rfl rfl ?_
    refine sxo_pick (b := false) rfl rfl rfl rfl ?_
    refine sxo_again (d := 60) (v := .bool ((((x18 && ((x1.2.2 : Int) == 0)) && ((x5.1 : Int) == 2)) && ((x5.2.1 : Int) == 4)) && ((x5.2.2 : Int) == 0))) rfl (by rw [h22]; simp only [Bool.false_and]) ?_
    refine sxo_nil ?_
    exact sxq_case (lk_cons rfl (lk_cons rfl (lk_cons rfl (lk_cons rfl (lk_cons rfl (lk_cons rfl (lk_cons rfl lk_nil)))))))
  refine sxo_take (os := _) rfl ?_
  refine sxo_move rfl rfl rfl ?_
  refine sxo_join 5 (fun ((x27, _) : (Bool × Unit)) => [(7, .int .i64 x8.2.2), (8, .slice a13 x12.1.length c14), (9, .int .i64 x12.2.1), (10, .int .i64 x12.2.2), (13, .int .i64 x15.2.2), (66, .bool x27)]) (fun ((x27, _) : (Bool × Unit)) => []) (fun ((x27, _) : (Bool × Unit)) => [Ro (eI .u64) 45 1 (.slice a13 x12.1.length c14) x12.1]) (fun ((x27, _) : (Bool × Unit)) => []) (fun ((x27, _) : (Bool × Unit)) => M_L_unaryBegun_j1 F x8 x12 x15 x27) ?_ ?_
  · refine sxo_take (os := _) rfl ?_
    refine sxo_if (fun h23 => ?_) (fun h23 => ?_)
    · refine sxo_isT (k := 61) rfl h23 ?_
      refine sxo_loadB (i := 0) rfl rfl tf24 rfl rfl (by simp) rfl rfl ?_
      refine sxo_slit (vs := [.int .u8 148]) (ys := ([148] : List Int)) (eI_ok .u8) (by decide) rfl Try.underlying22 tf5 rfl rfl rfl rfl rfl (by decide) (fun a40 c41 => ?_)
      refine sxo_build (cells := [.int .i64 6, .slice a40 ([148] : List Int).length c41]) rfl st24 rfl (by kernel_rfl) rfl ?_
      refine sxo_call ent36 rfl rfl rfl (fun x42 e42 => C_R_SameBits F x8.1 x8.2.1 a9 c10 6 ([148] : List Int) a40 c41 x42 e42) (.consR 4 (Ro (eI .u8) 5 1 (.slice a9 x8.2.1.length c10) x8.2.1) rfl (.consR 0 (Ro (eI .u8) 5 1 (.slice a40 ([148] : List Int).length c41) ([148] : List Int)) rfl .nil)) (fun x42 e42 => ?_)
      intro _
      refine sxo_pick (b := true) rfl rfl rfl rfl ?_
      refine sxo_nil ?_
      exact sxq_meetP (x42, ()) (lk_cons rfl (lk_cons rfl (lk_cons rfl (lk_cons rfl (lk_cons rfl (lk_cons rfl lk_nil)))))) .nil (.cons 3 rfl .nil) fk_nil
    · refine sxo_isF (k := 61) rfl h23 ?_
      refine sxo_skip rfl rfl rfl ?_
      refine sxo_skip rfl rfl rfl ?_
      refine sxo_skip rfl rfl rfl ?_
      refine sxo_skip rfl rfl rfl ?_
      refine sxo_pick (b := false) rfl rfl rfl rfl ?_
      refine sxo_nil ?_
      exact sxq_meetP (false, ()) (lk_cons rfl (lk_cons rfl (lk_cons rfl (lk_cons rfl (lk_cons rfl (lk_cons rfl lk_nil)))))) .nil (.cons 2 rfl .nil) fk_nil
  · rintro ⟨x27, _⟩
    try dsimp only
    refine sxo_take (os := _) rfl ?_
    refine sxo_move rfl rfl rfl ?_
    refine sxo_case 3 x27 [(8, .slice a13 x12.1.length c14), (9, .int .i64 x12.2.1), (10, .int .i64 x12.2.2), (13, .int .i64 x15.2.2), (70, .bool (x27 && ((x8.2.2 : Int) == 0)))] (fun h28 => ?_) (fun h28 => ?_) ?_
    · refine sxo_take (os := _) rfl ?_
      refine sxo_isT (k := 67) rfl h28 ?_
      refine sxo_move rfl rfl rfl ?_
      refine sxo_eql rfl rfl rfl rfl ?_
      refine sxo_pick (b := true) rfl rfl rfl rfl ?_
      refine sxo_again (d := 70) (v := .bool (x27 && ((x8.2.2 : Int) == 0))) rfl (by rw [h28]; simp only [Bool.true_and]) ?_
      refine sxo_nil ?_
      exact sxq_case (lk_cons rfl (lk_cons rfl (lk_cons rfl (lk_cons rfl (lk_cons rfl lk_nil)))))
    · refine sxo_take (os := _) rfl ?_
      refine sxo_isF (k := 67) rfl h28 ?_
      refine sxo_skip rfl rfl rfl ?_
      refine sxo_skip rfl rfl rfl ?_
      refine sxo_pick (b := false) rfl rfl rfl rfl ?_
      refine sxo_again (d := 70) (v := .bool (x27 && ((x8.2.2 : Int) == 0))) rfl (by rw [h28]; simp only [Bool.false_and]) ?_
      refine sxo_nil ?_
      exact sxq_case (lk_cons rfl (lk_cons rfl (lk_cons rfl (lk_cons rfl (lk_cons rfl lk_nil)))))
    refine sxo_take (os := _) rfl ?_
    refine sxo_move rfl rfl rfl ?_
    refine sxo_join 4 (fun ((x33, _) : (Bool × Unit)) => [(9, .int .i64 x12.2.1), (10, .int .i64 x12.2.2), (13, .int .i64 x15.2.2), (75, .bool x33)]) (fun ((x33, _) : (Bool × Unit)) => []) (fun ((x33, _) : (Bool × Unit)) => []) (fun ((x33, _) : (Bool × Unit)) => []) (fun ((x33, _) : (Bool × Unit)) => M_L_unaryBegun_j2 F x12 x15 x33) ?_ ?_
    · refine sxo_take (os := _) rfl ?_
      refine sxo_if (fun h29 => ?_) (fun h29 => ?_)
      · refine sxo_isT (k := 71) rfl h29 ?_
        refine sxo_move rfl rfl rfl ?_
        refine sxo_slit (vs := [.int .u64 0, .int .u64 2]) (ys := ([0, 2] : List Int)) (eI_ok .u64) (by decide) rfl Try.underlying46 tf45 rfl rfl rfl rfl rfl (by decide) (fun a37 c38 => ?_)
        refine sxo_call ent37 rfl rfl rfl (fun x39 e39 => C_R_SameNums F x12.1 a13 c14 ([0, 2] : List Int) a37 c38 x39 e39) (.consR 1 (Ro (eI .u64) 45 1 (.slice a13 x12.1.length c14) x12.1) rfl (.consR 0 (Ro (eI .u64) 45 1 (.slice a37 ([0, 2] : List Int).length c38) ([0, 2] : List Int)) rfl .nil)) (fun x39 e39 => ?_)
        intro _
        refine sxo_pick (b := true) rfl rfl rfl rfl ?_
        refine sxo_nil ?_
        exact sxq_meetP (x39, ()) (lk_cons rfl (lk_cons rfl (lk_cons rfl (lk_cons rfl lk_nil)))) .nil .nil fk_nil
      · refine sxo_isF (k := 71) rfl h29 ?_
        refine sxo_skip rfl rfl rfl ?_
        refine sxo_skip rfl rfl rfl ?_
        refine sxo_skip rfl rfl rfl ?_
        refine sxo_pick (b := false) rfl rfl rfl rfl ?_
        refine sxo_nil ?_
        exact sxq_meetP (false, ()) (lk_cons rfl (lk_cons rfl (lk_cons rfl (lk_cons rfl lk_nil)))) .nil .nil fk_nil
    · rintro ⟨x33, _⟩
      try dsimp only
      refine sxo_take (os := _) rfl ?_
      refine sxo_move rfl rfl rfl ?_
      refine sxo_case 3 x33 [(10, .int .i64 x12.2.2), (13, .int .i64 x15.2.2), (79, .bool (x33 && ((x12.2.1 : Int) == 4)))] (fun h34 => ?_) (fun h34 => ?_) ?_
      · refine sxo_take (os := _) rfl ?_
        refine sxo_isT (k := 76) rfl h34 ?_
        refine sxo_move rfl rfl rfl ?_
        refine sxo_eql rfl rfl rfl rfl ?_
        refine sxo_pick (b := true) rfl rfl rfl rfl ?_
        refine sxo_again (d := 79) (v := .bool (x33 && ((x12.2.1 : Int) == 4))) rfl (by rw [h34]; simp only [Bool.true_and]) ?_
        refine sxo_nil ?_
        exact sxq_case (lk_cons rfl (lk_cons rfl (lk_cons rfl lk_nil)))
      · refine sxo_take (os := _) rfl ?_
        refine sxo_isF (k := 76) rfl h34 ?_
        refine sxo_skip rfl rfl rfl ?_
        refine sxo_skip rfl rfl rfl ?_
        refine sxo_pick (b := false) rfl rfl rfl rfl ?_
        refine sxo_again (d := 79) (v := .bool (x33 && ((x12.2.1 : Int) == 4))) rfl (by rw [h34]; simp only [Bool.false_and]) ?_
        refine sxo_nil ?_
        exact sxq_case (lk_cons rfl (lk_cons rfl (lk_cons rfl lk_nil)))
      refine sxo_take (os := _) rfl ?_
      refine sxo_move rfl rfl rfl ?_
      refine sxo_case 3 (x33 && ((x12.2.1 : Int) == 4)) [(13, .int .i64 x15.2.2), (83, .bool ((x33 && ((x12.2.1 : Int) == 4)) && ((x12.2.2 : Int) == 0)))] (fun h35 => ?_) (fun h35 => ?_) ?_
      · refine sxo_take (os := _) rfl ?_
        refine sxo_isT (k := 80) rfl h35 ?_
        refine sxo_move rfl rfl rfl ?_
        refine sxo_eql rfl rfl rfl rfl ?_
        refine sxo_pick (b := true) rfl rfl rfl rfl ?_
        refine sxo_again (d := 83) (v := .bool ((x33 && ((x12.2.1 : Int) == 4)) && ((x12.2.2 : Int) == 0))) rfl (by rw [h35]; simp only [Bool.true_and]) ?_
        refine sxo_nil ?_
        exact sxq_case (lk_cons rfl (lk_cons rfl lk_nil))
      · refine sxo_take (os := _) rfl ?_
        refine sxo_isF (k := 80) rfl h35 ?_
        refine sxo_skip rfl rfl rfl ?_
        refine sxo_skip rfl rfl rfl ?_
        refine sxo_pick (b := false) rfl rfl rfl rfl ?_
        refine sxo_again (d := 83) (v := .bool ((x33 && ((x12.2.1 : Int) == 4)) && ((x12.2.2 : Int) == 0))) rfl (by rw [h35]; simp only [Bool.false_and]) ?_
        refine sxo_nil ?_
        exact sxq_case (lk_cons rfl (lk_cons rfl lk_nil))
      refine sxo_take (os := _) rfl ?_
      refine sxo_move rfl rfl rfl ?_
      refine sxo_case 3 ((x33 && ((x12.2.1 : Int) == 4)) && ((x12.2.2 : Int) == 0)) [(87, .bool (((x33 && ((x12.2.1 : Int) == 4)) && ((x12.2.2 : Int) == 0)) && ((x15.2.2 : Int) == 7)))] (fun h36 => ?_) (fun h36 => ?_) ?_
      · refine sxo_take (os := _) rfl ?_
        refine sxo_isT (k := 84) rfl h36 ?_
        refine sxo_move rfl rfl rfl ?_
        refine sxo_eql rfl rfl rfl rfl ?_
        refine sxo_pick (b := true) rfl rfl rfl rfl ?_
        refine sxo_again (d := 87) (v := .bool (((x33 && ((x12.2.1 : Int) == 4)) && ((x12.2.2 : Int) == 0)) && ((x15.2.2 : Int) == 7))) rfl (by rw [h36]; simp only [Bool.true_and]) ?_
        refine sxo_nil ?_
        exact sxq_case (lk_cons rfl lk_nil)
      · refine sxo_take (os := _) rfl ?_
        refine sxo_isF (k := 84) rfl h36 ?_
        refine sxo_skip rfl rfl rfl ?_
        refine sxo_skip rfl rfl rfl ?_
        refine sxo_pick (b := false) rfl rfl rfl rfl ?_
        refine sxo_again (d := 87) (v := .bool (((x33 && ((x12.2.1 : Int) == 4)) && ((x12.2.2 : Int) == 0)) && ((x15.2.2 : Int) == 7))) rfl (by rw [h36]; simp only [Bool.false_and]) ?_
        refine sxo_nil ?_
        exact sxq_case (lk_cons rfl lk_nil)
      refine sxo_take (os := _) rfl ?_
      refine sxo_assign rfl rfl rfl ?_
      refine sxo_nil ?_
      refine sxq_next ?_
      refine sxc_ret ?_
      exact sxq_doneP () (.inl rfl) (res1 rfl rfl) (fun h => by subst h; rfl) (fun h => by subst h; exact .nil)

set_option maxHeartbeats 4000000 in
theorem C_L_UnaryTells (F : Nat) (x1 : Int) (x2 : Int) (x3 : List Int) (a4 : Option Addr) (c5 : Nat) (x6 : Int) (x7 : List Int) (a8 : Option Addr) (c9 : Nat) (x10 : Int) (r : Bool) (hm : M_L_UnaryTells F x1 x2 x3 x6 x7 x10 = some r) :
    Pure Try.prog 5 [.int .u64 x1, .agg #[.int .i64 x2, .slice a4 x3.length c5], .int .i64 x6, .slice a8 x7.length c9, .int .i64 x10] [Sl (eI .u8) 1 (.slice a4 x3.length c5) x3, Sl (eI .u64) 1 (.slice a8 x7.length c9) x7] Unit (fun _ => .bool r) (fun _ => []) (fun _ => []) := by
  refine pure_of Try.func5 rfl Try.ntmps5 rfl hm (fun w => ?_)
  refine sxc_env (l' := [(0, .int .u64 x1), (1, .agg #[.int .i64 x2, .slice a4 x3.length c5]), (2, .int .i64 x6), (3, .slice a8 x7.length c9), (4, .int .i64 x10)]) rfl ?_
  refine sxc_seq ?_
  refine sxc_region ?_
  refine sxo_box rfl rfl rfl (fun g11 => ?_)
  refine sxo_assign rfl rfl rfl ?_
  refine sxo_nil ?_
  refine sxq_next ?_
  refine sxc_seq ?_
  refine sxc_region ?_
  refine sxo_move rfl rfl rfl ?_
  refine sxo_call ent27 rfl rfl rfl (fun x12 e12 => C_unary_Code F x1 x12 e12) .nil (fun x12 e12 => ?_)
  rintro ⟨a13, c14⟩
  refine sxo_move rfl rfl rfl ?_
  refine sxo_extract rfl rfl rfl rfl ?_
  refine sxo_extract rfl rfl rfl rfl ?_
  refine sxo_alloc rfl tf24 rfl (fun g15 => ?_)
  refine sxo_storeB (i := 0) rfl rfl rfl tf24 rfl rfl rfl rfl rfl ?_
  refine sxo_assign rfl rfl rfl ?_
  refine sxo_nil ?_
  refine sxq_next ?_
  refine sxc_seq ?_
  refine sxc_region ?_
  refine sxo_loadB (i := 1) rfl rfl tf24 rfl rfl (by simp) rfl rfl ?_
  refine sxo_move rfl rfl rfl ?_
  refine sxo_call ent28 rfl rfl rfl (fun x16 e16 => C_unary_Read F x2 x3 a4 c5 x6 x16 e16) (.consF 0 rfl .nil) (fun x16 e16 => ?_)
  intro _
  refine sxo_move rfl rfl rfl ?_
  refine sxo_extract rfl rfl rfl rfl ?_
  refine sxo_extract rfl rfl rfl rfl ?_
  refine sxo_extract rfl rfl rfl rfl ?_
  refine sxo_assign rfl rfl rfl ?_
  refine sxo_assign rfl rfl rfl ?_
  refine sxo_assign rfl rfl rfl ?_
  refine sxo_nil ?_
  refine sxq_next ?_
  refine sxc_seq ?_
  refine sxc_region ?_
  refine sxo_move rfl rfl rfl ?_
  refine sxo_call ent29 rfl rfl rfl (fun x17 e17 => C_unary_Many F x7 a8 c9 x17 e17) (.consF 1 rfl .nil) (fun x17 e17 => ?_)
  rintro ⟨a18, c19⟩
  refine sxo_move rfl rfl rfl ?_
  refine sxo_extract rfl rfl rfl rfl ?_
  refine sxo_extract rfl rfl rfl rfl ?_
  refine sxo_alloc rfl tf24 rfl (fun g20 => ?_)
  refine sxo_storeB (i := 0) rfl rfl rfl tf24 rfl rfl rfl rfl rfl ?_
  refine sxo_assign rfl rfl rfl ?_
  refine sxo_nil ?_
  refine sxq_next ?_
  refine sxc_seq ?_
  refine sxc_region ?_
  refine sxo_loadB (i := 2) rfl rfl tf24 rfl rfl (by simp) rfl rfl ?_
  refine sxo_move rfl rfl rfl ?_
  refine sxo_call ent30 rfl rfl rfl (fun x21 e21 => C_unary_All F x2 x3 a4 c5 x10 x21 e21) (.consF 0 rfl .nil) (fun x21 e21 => ?_)
  rintro ⟨a22, c23⟩
  refine sxo_move rfl rfl rfl ?_
  refine sxo_extract rfl rfl rfl rfl ?_
  refine sxo_extract rfl rfl rfl rfl ?_
  refine sxo_extract rfl rfl rfl rfl ?_
  refine sxo_assign rfl rfl rfl ?_
  refine sxo_assign rfl rfl rfl ?_
  refine sxo_assign rfl rfl rfl ?_
  refine sxo_nil ?_
  refine sxq_next ?_
  refine sxc_seq ?_
  refine sxc_region ?_
  refine sxo_move rfl rfl rfl ?_
  refine sxo_call ent31 rfl rfl rfl (fun x24 e24 => C_R_UnaryCode F x1 x24 e24) .nil (fun x24 e24 => ?_)
  rintro ⟨a25, c26⟩
  refine sxo_move rfl rfl rfl ?_
  refine sxo_extract rfl rfl rfl rfl ?_
  refine sxo_extract rfl rfl rfl rfl ?_
  refine sxo_alloc rfl tf24 rfl (fun g27 => ?_)
  refine sxo_storeB (i := 0) rfl rfl rfl tf24 rfl rfl rfl rfl rfl ?_
  refine sxo_assign rfl rfl rfl ?_
  refine sxo_nil ?_
  refine sxq_next ?_
  refine sxc_seq ?_
  refine sxc_region ?_
  refine sxo_loadB (i := 3) rfl rfl tf24 rfl rfl (by simp) rfl rfl ?_
  refine sxo_move rfl rfl rfl ?_
  refine sxo_call ent17 rfl rfl rfl (fun x28 e28 => C_R_ReadErr F x2 x3 a4 c5 x6 x28 e28) (.consF 0 rfl .nil) (fun x28 e28 => ?_)
  intro _
  refine sxo_assign rfl rfl rfl ?_
  refine sxo_nil ?_
  refine sxq_next ?_
  refine sxc_seq ?_
  refine sxc_region ?_
  refine sxo_assign rfl rfl rfl ?_
  refine sxo_assign rfl rfl rfl ?_
  refine sxo_nil ?_
  refine sxq_next ?_
  refine sxc_join (fun (((x35, x36, x37), _) : ((Int × Int × Int) × Unit)) => [(3, .slice a8 x7.length c9), (4, .int .i64 x10), (6, .pointer (some ⟨g11, 0, none⟩)), (11, .pointer (some ⟨g15, 0, none⟩)), (12, .int .i64 x12.2.2), (13, .int .u64 x16.1), (14, .int .i64 x16.2.1), (15, .int .i64 x16.2.2), (16, .pointer (some ⟨g20, 0, none⟩)), (17, .int .i64 x17.2.2), (18, .slice a22 x21.1.length c23), (19, .int .i64 x21.2.1), (20, .int .i64 x21.2.2), (21, .pointer (some ⟨g27, 0, none⟩)), (22, .int .i64 x24.2.2), (23, .int .i64 x35), (24, .int .u64 x36), (25, .int .i64 x37)]) (fun (((x35, x36, x37), _) : ((Int × Int × Int) × Unit)) => [⟨g27, 24, [.int .i64 x24.1, .slice a25 x24.2.1.length c26]⟩, ⟨g20, 24, [.int .i64 x17.1, .slice a18 x17.2.1.length c19]⟩, ⟨g15, 24, [.int .i64 x12.1, .slice a13 x12.2.1.length c14]⟩, ⟨g11, 24, [.int .i64 x2, .slice a4 x3.length c5]⟩]) (fun (((x35, x36, x37), _) : ((Int × Int × Int) × Unit)) => [Ro (eI .u64) 45 1 (.slice a22 x21.1.length c23) x21.1, Ro (eI .u8) 5 1 (.slice a25 x24.2.1.length c26) x24.2.1, Ro (eI .u8) 5 1 (.slice a18 x17.2.1.length c19) x17.2.1, Ro (eI .u8) 5 1 (.slice a13 x12.2.1.length c14) x12.2.1]) (fun (((x35, x36, x37), _) : ((Int × Int × Int) × Unit)) => [Sl (eI .u64) 1 (.slice a8 x7.length c9) x7, Sl (eI .u8) 1 (.slice a4 x3.length c5) x3]) (fun (((x35, x36, x37), _) : ((Int × Int × Int) × Unit)) => M_L_UnaryTells_j1 F x2 x3 x7 x10 x12 x16 x17 x21 x24 x35 x36 x37) ?_ ?_
  · refine sxc_seq ?_
    refine sxc_region ?_
    refine sxo_move rfl rfl rfl ?_
    refine sxo_eql rfl rfl rfl rfl ?_
    refine sxo_nil ?_
    refine sxq_next ?_
    refine sxc_if rfl (fun h70 => ?_) (fun h70 => ?_)
    · refine sxc_seq ?_
      refine sxc_region ?_
      refine sxo_loadB (i := 3) rfl rfl tf24 rfl rfl (by simp) rfl rfl ?_
      refine sxo_call ent21 rfl rfl rfl (fun x65 e65 => C_R_BitList F x2 x3 a4 c5 x65 e65) (.consF 0 rfl .nil) (fun x65 e65 => ?_)
      rintro ⟨a66, c67⟩
      refine sxo_move rfl rfl rfl ?_
      refine sxo_call ent32 rfl rfl rfl (fun x68 e68 => C_R_UnaryRead F x65 a66 c67 x6 x68 e68) (.consR 0 (Ro (eI .i64) 3 1 (.slice a66 x65.length c67) x65) rfl .nil) (fun x68 e68 => ?_)
      intro _
      refine sxo_move rfl rfl rfl ?_
      refine sxo_extract rfl rfl rfl rfl ?_
      refine sxo_extract rfl rfl rfl rfl ?_
      refine sxo_assign rfl rfl rfl ?_
      refine sxo_assign rfl rfl rfl ?_
      refine sxo_nil ?_
      refine sxq_next ?_
      refine sxc_seq ?_
      refine sxc_region ?_
      refine sxo_move rfl rfl rfl ?_
      refine sxo_lss rfl rfl rfl rfl ?_
      refine sxo_nil ?_
      refine sxq_next ?_
      refine sxc_if rfl (fun h69 => ?_) (fun h69 => ?_)
      · refine sxc_region ?_
        refine sxo_assign rfl rfl rfl ?_
        refine sxo_assign rfl rfl rfl ?_
        refine sxo_nil ?_
        exact sxq_meetP ((7, x68.1, 0), ()) (lk_cons rfl (lk_cons rfl (lk_cons rfl (lk_cons rfl (lk_cons rfl (lk_cons rfl (lk_cons rfl (lk_cons rfl (lk_cons rfl (lk_cons rfl (lk_cons rfl (lk_cons rfl (lk_cons rfl (lk_cons rfl (lk_cons rfl (lk_cons rfl (lk_cons rfl (lk_cons rfl lk_nil)))))))))))))))))) (.cons 0 rfl (.cons 0 rfl (.cons 0 rfl (.cons 0 rfl .nil)))) (.cons 2 rfl (.cons 1 rfl (.cons 1 rfl (.cons 1 rfl .nil)))) (fk_cons 1 rfl (fk_cons 0 rfl fk_nil))
      · refine sxc_skip ?_
        exact sxq_meetP ((x28, x68.1, x68.2), ()) (lk_cons rfl (lk_cons rfl (lk_cons rfl (lk_cons rfl (lk_cons rfl (lk_cons rfl (lk_cons rfl (lk_cons rfl (lk_cons rfl (lk_cons rfl (lk_cons rfl (lk_cons rfl (lk_cons rfl (lk_cons rfl (lk_cons rfl (lk_cons rfl (lk_cons rfl (lk_cons rfl lk_nil)))))))))))))))))) (.cons 0 rfl (.cons 0 rfl (.cons 0 rfl (.cons 0 rfl .nil)))) (.cons 2 rfl (.cons 1 rfl (.cons 1 rfl (.cons 1 rfl .nil)))) (fk_cons 1 rfl (fk_cons 0 rfl fk_nil))
    · refine sxc_skip ?_
      exact sxq_meetP ((x28, 0, 0), ()) (lk_cons rfl (lk_cons rfl (lk_cons rfl (lk_cons rfl (lk_cons rfl (lk_cons rfl (lk_cons rfl (lk_cons rfl (lk_cons rfl (lk_cons rfl (lk_cons rfl (lk_cons rfl (lk_cons rfl (lk_cons rfl (lk_cons rfl (lk_cons rfl (lk_cons rfl (lk_cons rfl lk_nil)))))))))))))))))) (.cons 0 rfl (.cons 0 rfl (.cons 0 rfl (.cons 0 rfl .nil)))) (.cons 1 rfl (.cons 0 rfl (.cons 0 rfl (.cons 0 rfl .nil)))) (fk_cons 1 rfl (fk_cons 0 rfl fk_nil))
  · rintro ⟨⟨x35, x36, x37⟩, _⟩
    try dsimp only
    refine sxc_seq ?_
    refine sxc_region ?_
    refine sxo_move rfl rfl rfl ?_
    refine sxo_call ent33 rfl rfl rfl (fun x38 e38 => C_R_UnaryMany F x7 a8 c9 x38 e38) (.consF 0 rfl .nil) (fun x38 e38 => ?_)
    rintro ⟨a39, c40⟩
    refine sxo_move rfl rfl rfl ?_
    refine sxo_extract rfl rfl rfl rfl ?_
    refine sxo_extract rfl rfl rfl rfl ?_
    refine sxo_alloc rfl tf24 rfl (fun g41 => ?_)
    refine sxo_storeB (i := 0) rfl rfl rfl tf24 rfl rfl rfl rfl rfl ?_
    refine sxo_assign rfl rfl rfl ?_
    refine sxo_nil ?_
    refine sxq_next ?_
    refine sxc_seq ?_
    refine sxc_region ?_
    refine sxo_loadB (i := 4) rfl rfl tf24 rfl rfl (by simp) rfl rfl ?_
    refine sxo_move rfl rfl rfl ?_
    refine sxo_call ent34 rfl rfl rfl (fun x42 e42 => C_R_UnaryAll F x2 x3 a4 c5 x10 x42 e42) (.consF 1 rfl .nil) (fun x42 e42 => ?_)
    rintro ⟨a43, c44⟩
    refine sxo_move rfl rfl rfl ?_
    refine sxo_extract rfl rfl rfl rfl ?_
    refine sxo_extract rfl rfl rfl rfl ?_
    refine sxo_extract rfl rfl rfl rfl ?_
    refine sxo_assign rfl rfl rfl ?_
    refine sxo_assign rfl rfl rfl ?_
    refine sxo_assign rfl rfl rfl ?_
    refine sxo_nil ?_
    refine sxq_next ?_
    refine sxc_seq ?_
    refine sxc_region ?_
    refine sxo_call ent35 rfl rfl rfl (fun x45 e45 => C_L_unaryBegun F  x45 e45) .nil (fun x45 e45 => ?_)
    intro _
    refine sxo_move rfl rfl rfl ?_
    refine sxo_join 4 (fun ((x48, _) : (Bool × Unit)) => [(12, .int .i64 x12.2.2), (13, .int .u64 x16.1), (14, .int .i64 x16.2.1), (15, .int .i64 x16.2.2), (16, .pointer (some ⟨g20, 0, none⟩)), (17, .int .i64 x17.2.2), (18, .slice a22 x21.1.length c23), (19, .int .i64 x21.2.1), (20, .int .i64 x21.2.2), (22, .int .i64 x24.2.2), (23, .int .i64 x35), (24, .int .u64 x36), (25, .int .i64 x37), (26, .pointer (some ⟨g41, 0, none⟩)), (27, .int .i64 x38.2.2), (28, .slice a43 x42.1.length c44), (29, .int .i64 x42.2.1), (30, .int .i64 x42.2.2), (91, .bool x48)]) (fun ((x48, _) : (Bool × Unit)) => [⟨g41, 24, [.int .i64 x38.1, .slice a39 x38.2.1.length c40]⟩, ⟨g20, 24, [.int .i64 x17.1, .slice a18 x17.2.1.length c19]⟩]) (fun ((x48, _) : (Bool × Unit)) => [Ro (eI .u64) 45 1 (.slice a22 x21.1.length c23) x21.1, Ro (eI .u64) 45 1 (.slice a43 x42.1.length c44) x42.1, Ro (eI .u8) 5 1 (.slice a39 x38.2.1.length c40) x38.2.1, Ro (eI .u8) 5 1 (.slice a18 x17.2.1.length c19) x17.2.1]) (fun ((x48, _) : (Bool × Unit)) => []) (fun ((x48, _) : (Bool × Unit)) => M_L_UnaryTells_j2 F x12 x16 x17 x21 x24 x35 x36 x37 x38 x42 x48) ?_ ?_
    · refine sxo_take (os := _) rfl ?_
      refine sxo_if (fun h46 => ?_) (fun h46 => ?_)
      · refine sxo_isT (k := 87) rfl h46 ?_
        refine sxo_loadB (i := 3) rfl rfl tf24 rfl rfl (by simp) rfl rfl ?_
        refine sxo_loadB (i := 1) rfl rfl tf24 rfl rfl (by simp) rfl rfl ?_
        refine sxo_call ent36 rfl rfl rfl (fun x64 e64 => C_R_SameBits F x12.1 x12.2.1 a13 c14 x24.1 x24.2.1 a25 c26 x64 e64) (.consR 5 (Ro (eI .u8) 5 1 (.slice a13 x12.2.1.length c14) x12.2.1) rfl (.consR 3 (Ro (eI .u8) 5 1 (.slice a25 x24.2.1.length c26) x24.2.1) rfl .nil)) (fun x64 e64 => ?_)
        intro _
        refine sxo_pick (b := true) rfl rfl rfl rfl ?_
        refine sxo_nil ?_
        exact sxq_meetP (x64, ()) (lk_cons rfl (lk_cons rfl (lk_cons rfl (lk_cons rfl (lk_cons rfl (lk_cons rfl (lk_cons rfl (lk_cons rfl (lk_cons rfl (lk_cons rfl (lk_cons rfl (lk_cons rfl (lk_cons rfl (lk_cons rfl (lk_cons rfl (lk_cons rfl (lk_cons rfl (lk_cons rfl (lk_cons rfl lk_nil))))))))))))))))))) (.cons 0 rfl (.cons 1 rfl .nil)) (.cons 2 rfl (.cons 0 rfl (.cons 0 rfl (.cons 1 rfl .nil)))) fk_nil
      · refine sxo_isF (k := 87) rfl h46 ?_
        refine sxo_skip rfl rfl rfl ?_
        refine sxo_skip rfl rfl rfl ?_
        refine sxo_skip rfl rfl rfl ?_
        refine sxo_pick (b := false) rfl rfl rfl rfl ?_
        refine sxo_nil ?_
        exact sxq_meetP (false, ()) (lk_cons rfl (lk_cons rfl (lk_cons rfl (lk_cons rfl (lk_cons rfl (lk_cons rfl (lk_cons rfl (lk_cons rfl (lk_cons rfl (lk_cons rfl (lk_cons rfl (lk_cons rfl (lk_cons rfl (lk_cons rfl (lk_cons rfl (lk_cons rfl (lk_cons rfl (lk_cons rfl (lk_cons rfl lk_nil))))))))))))))))))) (.cons 0 rfl (.cons 1 rfl .nil)) (.cons 2 rfl (.cons 0 rfl (.cons 0 rfl (.cons 1 rfl .nil)))) fk_nil
    · rintro ⟨x48, _⟩
      try dsimp only
      refine sxo_take (os := _) rfl ?_
      refine sxo_move rfl rfl rfl ?_
      refine sxo_case 4 x48 [(13, .int .u64 x16.1), (14, .int .i64 x16.2.1), (15, .int .i64 x16.2.2), (16, .pointer (some ⟨g20, 0, none⟩)), (17, .int .i64 x17.2.2), (18, .slice a22 x21.1.length c23), (19, .int .i64 x21.2.1), (20, .int .i64 x21.2.2), (23, .int .i64 x35), (24, .int .u64 x36), (25, .int .i64 x37), (26, .pointer (some ⟨g41, 0, none⟩)), (27, .int .i64 x38.2.2), (28, .slice a43 x42.1.length c44), (29, .int .i64 x42.2.1), (30, .int .i64 x42.2.2), (96, .bool (x48 && ((x12.2.2 : Int) == x24.2.2)))] (fun h49 => ?_) (fun h49 => ?_) ?_
      · refine sxo_take (os := _) rfl ?_
        refine sxo_isT (k := 92) rfl h49 ?_
        refine sxo_move rfl rfl rfl ?_
        refine sxo_move rfl rfl rfl ?_
        refine sxo_eql rfl rfl rfl rfl ?_
        refine sxo_pick (b := true) rfl rfl rfl rfl ?_
        refine sxo_again (d := 96) (v := .bool (x48 && ((x12.2.2 : Int) == x24.2.2))) rfl (by rw [h49]; simp only [Bool.true_and]) ?_
        refine sxo_nil ?_
        exact sxq_case (lk_cons rfl (lk_cons rfl (lk_cons rfl (lk_cons rfl (lk_cons rfl (lk_cons rfl (lk_cons rfl (lk_cons rfl (lk_cons rfl (lk_cons rfl (lk_cons rfl (lk_cons rfl (lk_cons rfl (lk_cons rfl (lk_cons rfl (lk_cons rfl (lk_cons rfl lk_nil)))))))))))))))))
      · refine sxo_take (os := _) rfl ?_
        refine sxo_isF (k := 92) rfl h49 ?_
        refine sxo_skip rfl rfl rfl ?_
        refine sxo_skip rfl rfl rfl ?_
        refine sxo_skip rfl rfl rfl ?_
        refine sxo_pick (b := false) rfl rfl rfl rfl ?_
        refine sxo_again (d := 96) (v := .bool (x48 && ((x12.2.2 : Int) == x24.2.2))) rfl (by rw [h49]; simp only [Bool.false_and]) ?_
        refine sxo_nil ?_
        exact sxq_case (lk_cons rfl (lk_cons rfl (lk_cons rfl (lk_cons rfl (lk_cons rfl (lk_cons rfl (lk_cons rfl (lk_cons rfl (lk_cons rfl (lk_cons rfl (lk_cons rfl (lk_cons rfl (lk_cons rfl (lk_cons rfl (lk_cons rfl (lk_cons rfl (lk_cons rfl lk_nil)))))))))))))))))
      refine sxo_take (os := _) rfl ?_
      refine sxo_move rfl rfl rfl ?_
      refine sxo_case 4 (x48 && ((x12.2.2 : Int) == x24.2.2)) [(14, .int .i64 x16.2.1), (15, .int .i64 x16.2.2), (16, .pointer (some ⟨g20, 0, none⟩)), (17, .int .i64 x17.2.2), (18, .slice a22 x21.1.length c23), (19, .int .i64 x21.2.1), (20, .int .i64 x21.2.2), (23, .int .i64 x35), (25, .int .i64 x37), (26, .pointer (some ⟨g41, 0, none⟩)), (27, .int .i64 x38.2.2), (28, .slice a43 x42.1.length c44), (29, .int .i64 x42.2.1), (30, .int .i64 x42.2.2), (101, .bool ((x48 && ((x12.2.2 : Int) == x24.2.2)) && ((x16.1 : Int) == x36)))] (fun h50 => ?_) (fun h50 => ?_) ?_
      · refine sxo_take (os := _) rfl ?_
        refine sxo_isT (k := 97) rfl h50 ?_
        refine sxo_move rfl rfl rfl ?_
        refine sxo_move rfl rfl rfl ?_
        refine sxo_eql rfl rfl rfl rfl ?_
        refine sxo_pick (b := true) rfl rfl rfl rfl ?_
        refine sxo_again (d := 101) (v := .bool ((x48 && ((x12.2.2 : Int) == x24.2.2)) && ((x16.1 : Int) == x36))) rfl (by rw [h50]; simp only [Bool.true_and]) ?_
        refine sxo_nil ?_
        exact sxq_case (lk_cons rfl (lk_cons rfl (lk_cons rfl (lk_cons rfl (lk_cons rfl (lk_cons rfl (lk_cons rfl (lk_cons rfl (lk_cons rfl (lk_cons rfl (lk_cons rfl (lk_cons rfl (lk_cons rfl (lk_cons rfl (lk_cons rfl lk_nil)))))))))))))))
      · refine sxo_take (os := _) rfl ?_
        refine sxo_isF (k := 97) rfl h50 ?_
        refine sxo_skip rfl rfl rfl ?_
        refine sxo_skip rfl rfl rfl ?_
        refine sxo_skip rfl rfl rfl ?_
        refine sxo_pick (b := false) rfl rfl rfl rfl ?_
        refine sxo_again (d := 101) (v := .bool ((x48 && ((x12.2.2 : Int) == x24.2.2)) && ((x16.1 : Int) == x36))) rfl (by rw [h50]; simp only [Bool.false_and]) ?_
        refine sxo_nil ?_
        exact sxq_case (lk_cons rfl (lk_cons rfl (lk_cons rfl (lk_cons rfl (lk_cons rfl (lk_cons rfl (lk_cons rfl (lk_cons rfl (lk_cons rfl (lk_cons rfl (lk_cons rfl (lk_cons rfl (lk_cons rfl (lk_cons rfl (lk_cons rfl lk_nil)))))))))))))))
      refine sxo_take (os := _) rfl ?_
      refine sxo_move rfl rfl rfl ?_
      refine sxo_case 4 ((x48 && ((x12.2.2 : Int) == x24.2.2)) && ((x16.1 : Int) == x36)) [(15, .int .i64 x16.2.2), (16, .pointer (some ⟨g20, 0, none⟩)), (17, .int .i64 x17.2.2), (18, .slice a22 x21.1.length c23), (19, .int .i64 x21.2.1), (20, .int .i64 x21.2.2), (23, .int .i64 x35), (26, .pointer (some ⟨g41, 0, none⟩)), (27, .int .i64 x38.2.2), (28, .slice a43 x42.1.length c44), (29, .int .i64 x42.2.1), (30, .int .i64 x42.2.2), (106, .bool (((x48 && ((x12.2.2 : Int) == x24.2.2)) && ((x16.1 : Int) == x36)) && ((x16.2.1 : Int) == x37)))] (fun h51 => ?_) (fun h51 => ?_) ?_
      · refine sxo_take (os := _) rfl ?_
        refine sxo_isT (k := 102) rfl h51 ?_
        refine sxo_move rfl rfl rfl ?_
        refine sxo_move rfl rfl rfl ?_
        refine sxo_eql rfl rfl rfl rfl ?_
        refine sxo_pick (b := true) rfl rfl rfl rfl ?_
        refine sxo_again (d := 106) (v := .bool (((x48 && ((x12.2.2 : Int) == x24.2.2)) && ((x16.1 : Int) == x36)) && ((x16.2.1 : Int) == x37))) rfl (by rw [h51]; simp only [Bool.true_and]) ?_
        refine sxo_nil ?_
        exact sxq_case (lk_cons rfl (lk_cons rfl (lk_cons rfl (lk_cons rfl (lk_cons rfl (lk_cons rfl (lk_cons rfl (lk_cons rfl (lk_cons rfl (lk_cons rfl (lk_cons rfl (lk_cons rfl (lk_cons rfl lk_nil)))))))))))))
      · refine sxo_take (os := _) rfl ?_
        refine sxo_isF (k := 102) rfl h51 ?_
        refine sxo_skip rfl rfl rfl ?_
        refine sxo_skip rfl rfl rfl ?_
        refine sxo_skip rfl rfl rfl ?_
        refine sxo_pick (b := false) rfl rfl rfl rfl ?_
        refine sxo_again (d := 106) (v := .bool (((x48 && ((x12.2.2 : Int) == x24.2.2)) && ((x16.1 : Int) == x36)) && ((x16.2.1 : Int) == x37))) rfl (by rw [h51]; simp only [Bool.false_and]) ?_
        refine sxo_nil ?_
        exact sxq_case (lk_cons rfl (lk_cons rfl (lk_cons rfl (lk_cons rfl (lk_cons rfl (lk_cons rfl (lk_cons rfl (lk_cons rfl (lk_cons rfl (lk_cons rfl (lk_cons rfl (lk_cons rfl (lk_cons rfl lk_nil)))))))))))))
      refine sxo_take (os := _) rfl ?_
      refine sxo_move rfl rfl rfl ?_
      refine sxo_case 4 (((x48 && ((x12.2.2 : Int) == x24.2.2)) && ((x16.1 : Int) == x36)) && ((x16.2.1 : Int) == x37)) [(16, .pointer (some ⟨g20, 0, none⟩)), (17, .int .i64 x17.2.2), (18, .slice a22 x21.1.length c23), (19, .int .i64 x21.2.1), (20, .int .i64 x21.2.2), (26, .pointer (some ⟨g41, 0, none⟩)), (27, .int .i64 x38.2.2), (28, .slice a43 x42.1.length c44), (29, .int .i64 x42.2.1), (30, .int .i64 x42.2.2), (111, .bool ((((x48 && ((x12.2.2 : Int) == x24.2.2)) && ((x16.1 : Int) == x36)) && ((x16.2.1 : Int) == x37)) && ((x16.2.2 : Int) == x35)))] (fun h52 => ?_) (fun h52 => ?_) ?_
      · refine sxo_take (os := _) rfl ?_
        refine sxo_isT (k := 107) rfl h52 ?_
        refine sxo_move rfl rfl rfl ?_
        refine sxo_move rfl rfl rfl ?_
        refine sxo_eql rfl rfl rfl rfl ?_
        refine sxo_pick (b := true) rfl rfl rfl rfl ?_
        refine sxo_again (d := 111) (v := .bool ((((x48 && ((x12.2.2 : Int) == x24.2.2)) && ((x16.1 : Int) == x36)) && ((x16.2.1 : Int) == x37)) && ((x16.2.2 : Int) == x35))) rfl (by rw [h52]; simp only [Bool.true_and]) ?_
        refine sxo_nil ?_
        exact sxq_case (lk_cons rfl (lk_cons rfl (lk_cons rfl (lk_cons rfl (lk_cons rfl (lk_cons rfl (lk_cons rfl (lk_cons rfl (lk_cons rfl (lk_cons rfl (lk_cons rfl lk_nil)))))))))))
      · refine sxo_take (os := _) rfl ?_
        refine sxo_isF (k := 107) rfl h52 ?_
        refine sxo_skip rfl rfl rfl ?_
        refine sxo_skip rfl rfl rfl ?_
        refine sxo_skip rfl rfl rfl ?_
        refine sxo_pick (b := false) rfl rfl rfl rfl ?_
        refine sxo_again (d := 111) (v := .bool ((((x48 && ((x12.2.2 : Int) == x24.2.2)) && ((x16.1 : Int) == x36)) && ((x16.2.1 : Int) == x37)) && ((x16.2.2 : Int) == x35))) rfl (by rw [h52]; simp only [Bool.false_and]) ?_
        refine sxo_nil ?_
        exact sxq_case (lk_cons rfl (lk_cons rfl (lk_cons rfl (lk_cons rfl (lk_cons rfl (lk_cons rfl (lk_cons rfl (lk_cons rfl (lk_cons rfl (lk_cons rfl (lk_cons rfl lk_nil)))))))))))
      refine sxo_take (os := _) rfl ?_
      refine sxo_move rfl rfl rfl ?_
      refine sxo_join 4 (fun ((x55, _) : (Bool × Unit)) => [(17, .int .i64 x17.2.2), (18, .slice a22 x21.1.length c23), (19, .int .i64 x21.2.1), (20, .int .i64 x21.2.2), (27, .int .i64 x38.2.2), (28, .slice a43 x42.1.length c44), (29, .int .i64 x42.2.1), (30, .int .i64 x42.2.2), (116, .bool x55)]) (fun ((x55, _) : (Bool × Unit)) => []) (fun ((x55, _) : (Bool × Unit)) => [Ro (eI .u64) 45 1 (.slice a22 x21.1.length c23) x21.1, Ro (eI .u64) 45 1 (.slice a43 x42.1.length c44) x42.1]) (fun ((x55, _) : (Bool × Unit)) => []) (fun ((x55, _) : (Bool × Unit)) => M_L_UnaryTells_j3 F x17 x21 x38 x42 x55) ?_ ?_
      · refine sxo_take (os := _) rfl ?_
        refine sxo_if (fun h53 => ?_) (fun h53 => ?_)
        · refine sxo_isT (k := 112) rfl h53 ?_
          refine sxo_loadB (i := 1) rfl rfl tf24 rfl rfl (by simp) rfl rfl ?_
          refine sxo_loadB (i := 0) rfl rfl tf24 rfl rfl (by simp) rfl rfl ?_
          refine sxo_call ent36 rfl rfl rfl (fun x63 e63 => C_R_SameBits F x17.1 x17.2.1 a18 c19 x38.1 x38.2.1 a39 c40 x63 e63) (.consR 3 (Ro (eI .u8) 5 1 (.slice a18 x17.2.1.length c19) x17.2.1) rfl (.consR 2 (Ro (eI .u8) 5 1 (.slice a39 x38.2.1.length c40) x38.2.1) rfl .nil)) (fun x63 e63 => ?_)
          intro _
          refine sxo_pick (b := true) rfl rfl rfl rfl ?_
          refine sxo_nil ?_
          exact sxq_meetP (x63, ()) (lk_cons rfl (lk_cons rfl (lk_cons rfl (lk_cons rfl (lk_cons rfl (lk_cons rfl (lk_cons rfl (lk_cons rfl (lk_cons rfl lk_nil))))))))) .nil (.cons 0 rfl (.cons 0 rfl .nil)) fk_nil
        · refine sxo_isF (k := 112) rfl h53 ?_
          refine sxo_skip rfl rfl rfl ?_
          refine sxo_skip rfl rfl rfl ?_
          refine sxo_skip rfl rfl rfl ?_
          refine sxo_pick (b := false) rfl rfl rfl rfl ?_
          refine sxo_nil ?_
          exact sxq_meetP (false, ()) (lk_cons rfl (lk_cons rfl (lk_cons rfl (lk_cons rfl (lk_cons rfl (lk_cons rfl (lk_cons rfl (lk_cons rfl (lk_cons rfl lk_nil))))))))) .nil (.cons 0 rfl (.cons 0 rfl .nil)) fk_nil
      · rintro ⟨x55, _⟩
        try dsimp only
        refine sxo_take (os := _) rfl ?_
        refine sxo_move rfl rfl rfl ?_
        refine sxo_case 4 x55 [(18, .slice a22 x21.1.length c23), (19, .int .i64 x21.2.1), (20, .int .i64 x21.2.2), (28, .slice a43 x42.1.length c44), (29, .int .i64 x42.2.1), (30, .int .i64 x42.2.2), (121, .bool (x55 && ((x17.2.2 : Int) == x38.2.2)))] (fun h56 => ?_) (fun h56 => ?_) ?_
        · refine sxo_take (os := _) rfl ?_
          refine sxo_isT (k := 117) rfl h56 ?_
          refine sxo_move rfl rfl rfl ?_
          refine sxo_move rfl rfl rfl ?_
          refine sxo_eql rfl rfl rfl rfl ?_
          refine sxo_pick (b := true) rfl rfl rfl rfl ?_
          refine sxo_again (d := 121) (v := .bool (x55 && ((x17.2.2 : Int) == x38.2.2))) rfl (by rw [h56]; simp only [Bool.true_and]) ?_
          refine sxo_nil ?_
          exact sxq_case (lk_cons rfl (lk_cons rfl (lk_cons rfl (lk_cons rfl (lk_cons rfl (lk_cons rfl (lk_cons rfl lk_nil)))))))
        · refine sxo_take (os := _) rfl ?_
          refine sxo_isF (k := 117) rfl h56 ?_
          refine sxo_skip rfl rfl rfl ?_
          refine sxo_skip rfl rfl rfl ?_
          refine sxo_skip rfl rfl rfl ?_
          refine sxo_pick (b := false) rfl rfl rfl rfl ?_
          refine sxo_again (d := 121) (v := .bool (x55 && ((x17.2.2 : Int) == x38.2.2))) rfl (by rw [h56]; simp only [Bool.false_and]) ?_
          refine sxo_nil ?_
          exact sxq_case (lk_cons rfl (lk_cons rfl (lk_cons rfl (lk_cons rfl (lk_cons rfl (lk_cons rfl (lk_cons rfl lk_nil)))))))
        refine sxo_take (os := _) rfl ?_
        refine sxo_move rfl rfl rfl ?_
        refine sxo_join 4 (fun ((x59, _) : (Bool × Unit)) => [(19, .int .i64 x21.2.1), (20, .int .i64 x21.2.2), (29, .int .i64 x42.2.1), (30, .int .i64 x42.2.2), (126, .bool x59)]) (fun ((x59, _) : (Bool × Unit)) => []) (fun ((x59, _) : (Bool × Unit)) => []) (fun ((x59, _) : (Bool × Unit)) => []) (fun ((x59, _) : (Bool × Unit)) => M_L_UnaryTells_j4 F x21 x42 x59) ?_ ?_
        · refine sxo_take (os := _) rfl ?_
          refine sxo_if (fun h57 => ?_) (fun h57 => ?_)
          · refine sxo_isT (k := 122) rfl h57 ?_
            refine sxo_move rfl rfl rfl ?_
            refine sxo_move rfl rfl rfl ?_
            refine sxo_call ent37 rfl rfl rfl (fun x62 e62 => C_R_SameNums F x21.1 a22 c23 x42.1 a43 c44 x62 e62) (.consR 0 (Ro (eI .u64) 45 1 (.slice a22 x21.1.length c23) x21.1) rfl (.consR 1 (Ro (eI .u64) 45 1 (.slice a43 x42.1.length c44) x42.1) rfl .nil)) (fun x62 e62 => ?_)
            intro _
            refine sxo_pick (b := true) rfl rfl rfl rfl ?_
            refine sxo_nil ?_
            exact sxq_meetP (x62, ()) (lk_cons rfl (lk_cons rfl (lk_cons rfl (lk_cons rfl (lk_cons rfl lk_nil))))) .nil .nil fk_nil
          · refine sxo_isF (k := 122) rfl h57 ?_
            refine sxo_skip rfl rfl rfl ?_
            refine sxo_skip rfl rfl rfl ?_
            refine sxo_skip rfl rfl rfl ?_
            refine sxo_pick (b := false) rfl rfl rfl rfl ?_
            refine sxo_nil ?_
            exact sxq_meetP (false, ()) (lk_cons rfl (lk_cons rfl (lk_cons rfl (lk_cons rfl (lk_cons rfl lk_nil))))) .nil .nil fk_nil
        · rintro ⟨x59, _⟩
          try dsimp only
          refine sxo_take (os := _) rfl ?_
          refine sxo_move rfl rfl rfl ?_
          refine sxo_case 4 x59 [(20, .int .i64 x21.2.2), (30, .int .i64 x42.2.2), (131, .bool (x59 && ((x21.2.1 : Int) == x42.2.1)))] (fun h60 => ?_) (fun h60 => ?_) ?_
          · refine sxo_take (os := _) rfl ?_
            refine sxo_isT (k := 127) rfl h60 ?_
            refine sxo_move rfl rfl rfl ?_
            refine sxo_move rfl rfl rfl ?_
            refine sxo_eql rfl rfl rfl rfl ?_
            refine sxo_pick (b := true) rfl rfl rfl rfl ?_
            refine sxo_again (d := 131) (v := .bool (x59 && ((x21.2.1 : Int) == x42.2.1))) rfl (by rw [h60]; simp only [Bool.true_and]) ?_
            refine sxo_nil ?_
            exact sxq_case (lk_cons rfl (lk_cons rfl (lk_cons rfl lk_nil)))
          · refine sxo_take (os := _) rfl ?_
            refine sxo_isF (k := 127) rfl h60 ?_
            refine sxo_skip rfl rfl rfl ?_
            refine sxo_skip rfl rfl rfl ?_
            refine sxo_skip rfl rfl rfl ?_
            refine sxo_pick (b := false) rfl rfl rfl rfl ?_
            refine sxo_again (d := 131) (v := .bool (x59 && ((x21.2.1 : Int) == x42.2.1))) rfl (by rw [h60]; simp only [Bool.false_and]) ?_
            refine sxo_nil ?_
            exact sxq_case (lk_cons rfl (lk_cons rfl (lk_cons rfl lk_nil)))
          refine sxo_take (os := _) rfl ?_
          refine sxo_move rfl rfl rfl ?_
          refine sxo_case 4 (x59 && ((x21.2.1 : Int) == x42.2.1)) [(136, .bool ((x59 && ((x21.2.1 : Int) == x42.2.1)) && ((x21.2.2 : Int) == x42.2.2)))] (fun h61 => ?_) (fun h61 => ?_) ?_
          · refine sxo_take (os := _) rfl ?_
            refine sxo_isT (k := 132) rfl h61 ?_
            refine sxo_move rfl rfl rfl ?_
            refine sxo_move rfl rfl rfl ?_
            refine sxo_eql rfl rfl rfl rfl ?_
            refine sxo_pick (b := true) rfl rfl rfl rfl ?_
            refine sxo_again (d := 136) (v := .bool ((x59 && ((x21.2.1 : Int) == x42.2.1)) && ((x21.2.2 : Int) == x42.2.2))) rfl (by rw [h61]; simp only [Bool.true_and]) ?_
            refine sxo_nil ?_
            exact sxq_case (lk_cons rfl lk_nil)
          · refine sxo_take (os := _) rfl ?_
            refine sxo_isF (k := 132) rfl h61 ?_
            refine sxo_skip rfl rfl rfl ?_
            refine sxo_skip rfl rfl rfl ?_
            refine sxo_skip rfl rfl rfl ?_
            refine sxo_pick (b := false) rfl rfl rfl rfl ?_
            refine sxo_again (d := 136) (v := .bool ((x59 && ((x21.2.1 : Int) == x42.2.1)) && ((x21.2.2 : Int) == x42.2.2))) rfl (by rw [h61]; simp only [Bool.false_and]) ?_
            refine sxo_nil ?_
            exact sxq_case (lk_cons rfl lk_nil)
          refine sxo_take (os := _) rfl ?_
          refine sxo_assign rfl rfl rfl ?_
          refine sxo_nil ?_
          refine sxq_next ?_
          refine sxc_ret ?_
          exact sxq_doneP () (.inl rfl) (res1 rfl rfl) (fun h => by subst h; rfl) (fun h => by subst h; exact .nil)

theorem C_L_UnaryBack (F : Nat) (x1 : Int) (r : Bool) (hm : M_L_UnaryBack F x1 = some r) :
    Pure Try.prog 6 [.int .u64 x1] [] Unit (fun _ => .bool r) (fun _ => []) (fun _ => []) := by
  refine pure_of Try.func6 rfl Try.ntmps6 rfl hm (fun w => ?_)
  refine sxc_env (l' := [(0, .int .u64 x1)]) rfl ?_
  refine sxc_seq ?_
  refine sxc_region ?_
  refine sxo_assign rfl rfl rfl ?_
  refine sxo_nil ?_
  refine sxq_next ?_
  refine sxc_seq ?_
  refine sxc_region ?_
  refine sxo_move rfl rfl rfl ?_
  refine sxo_call ent27 rfl rfl rfl (fun x2 e2 => C_unary_Code F x1 x2 e2) .nil (fun x2 e2 => ?_)
  rintro ⟨a3, c4⟩
  refine sxo_move rfl rfl rfl ?_
  refine sxo_extract rfl rfl rfl rfl ?_
  refine sxo_extract rfl rfl rfl rfl ?_
  refine sxo_alloc rfl tf24 rfl (fun g5 => ?_)
  refine sxo_storeB (i := 0) rfl rfl rfl tf24 rfl rfl rfl rfl rfl ?_
  refine sxo_assign rfl rfl rfl ?_
  refine sxo_nil ?_
  refine sxq_next ?_
  refine sxc_seq ?_
  refine sxc_seq ?_
  refine sxc_region ?_
  refine sxo_call ent35 rfl rfl rfl (fun x8 e8 => C_L_unaryBegun F  x8 e8) .nil (fun x8 e8 => ?_)
  intro _
  refine sxo_not rfl rfl rfl ?_
  refine sxo_nil ?_
  refine sxq_next ?_
  refine sxc_if rfl (fun h23 => ?_) (fun h23 => ?_)
  · refine sxc_seq ?_
    refine sxc_region ?_
    refine sxo_assign rfl rfl rfl ?_
    refine sxo_nil ?_
    refine sxq_next ?_
    refine sxc_ret ?_
    refine sxq_thenR ?_
    exact sxq_doneP () (.inl rfl) (res1 rfl rfl) (fun h => by subst h; rfl) (fun h => by subst h; exact .nil)
  · refine sxc_skip ?_
    refine sxq_next ?_
    refine sxc_seq ?_
    refine sxc_seq ?_
    refine sxc_region ?_
    refine sxo_move rfl rfl rfl ?_
    refine sxo_neq rfl rfl rfl rfl ?_
    refine sxo_nil ?_
    refine sxq_next ?_
    refine sxc_if rfl (fun h22 => ?_) (fun h22 => ?_)
    · refine sxc_seq ?_
      refine sxc_region ?_
      refine sxo_move rfl rfl rfl ?_
      refine sxo_geq rfl rfl rfl rfl ?_
      refine sxo_move rfl rfl rfl ?_
      refine sxo_join 4 (fun ((x16, _) : (Bool × Unit)) => [(23, .bool x16)]) (fun ((x16, _) : (Bool × Unit)) => []) (fun ((x16, _) : (Bool × Unit)) => []) (fun ((x16, _) : (Bool × Unit)) => []) (fun ((x16, _) : (Bool × Unit)) => M_L_UnaryBack_j2 F x16) ?_ ?_
      · refine sxo_take (os := _) rfl ?_
        refine sxo_if (fun h14 => ?_) (fun h14 => ?_)
        · refine sxo_isT (k := 19) rfl h14 ?_
          refine sxo_loadB (i := 0) rfl rfl tf24 rfl rfl (by simp) rfl rfl ?_
          refine sxo_build (cells := [.int .i64 0, .slice none 0 0]) rfl st24 rfl (by kernel_rfl) rfl ?_
          refine sxo_nilrow' Int (eI .u8) 5 1 ?_
          refine sxo_call ent36 rfl rfl rfl (fun x17 e17 => C_R_SameBits F x2.1 x2.2.1 a3 c4 0 ([] : List Int) none 0 x17 e17) (.consR 1 (Ro (eI .u8) 5 1 (.slice a3 x2.2.1.length c4) x2.2.1) rfl (.consR 0 (Ro (eI .u8) 5 1 (.slice none ([] : List Int).length 0) ([] : List Int)) rfl .nil)) (fun x17 e17 => ?_)
          intro _
          refine sxo_pick (b := true) rfl rfl rfl rfl ?_
          refine sxo_nil ?_
          exact sxq_meetP (x17, ()) (lk_cons rfl lk_nil) .nil .nil fk_nil
        · refine sxo_isF (k := 19) rfl h14 ?_
          refine sxo_skip rfl rfl rfl ?_
          refine sxo_skip rfl rfl rfl ?_
          refine sxo_skip rfl rfl rfl ?_
          refine sxo_pick (b := false) rfl rfl rfl rfl ?_
          refine sxo_nil ?_
          exact sxq_meetP (false, ()) (lk_cons rfl lk_nil) .nil .nil fk_nil
      · rintro ⟨x16, _⟩
        try dsimp only
        refine sxo_take (os := _) rfl ?_
        refine sxo_assign rfl rfl rfl ?_
        refine sxo_nil ?_
        refine sxq_next ?_
        refine sxc_ret ?_
        refine sxq_thenR ?_
        exact sxq_doneP () (.inl rfl) (res1 rfl rfl) (fun h => by subst h; rfl) (fun h => by subst h; exact .nil)
    · refine sxc_skip ?_
      refine sxq_next ?_
      refine sxc_seq ?_
      refine sxc_region ?_
      refine sxo_loadB (i := 0) rfl rfl tf24 rfl rfl (by simp) rfl rfl ?_
      refine sxo_call ent28 rfl rfl rfl (fun x18 e18 => C_unary_Read F x2.1 x2.2.1 a3 c4 0 x18 e18) (.consR 0 (Ro (eI .u8) 5 1 (.slice a3 x2.2.1.length c4) x2.2.1) rfl .nil) (fun x18 e18 => ?_)
      intro _
      refine sxo_move rfl rfl rfl ?_
      refine sxo_extract rfl rfl rfl rfl ?_
      refine sxo_extract rfl rfl rfl rfl ?_
      refine sxo_extract rfl rfl rfl rfl ?_
      refine sxo_assign rfl rfl rfl ?_
      refine sxo_assign rfl rfl rfl ?_
      refine sxo_assign rfl rfl rfl ?_
      refine sxo_nil ?_
      refine sxq_next ?_
      refine sxc_seq ?_
      refine sxc_region ?_
      refine sxo_move rfl rfl rfl ?_
      refine sxo_eql rfl rfl rfl rfl ?_
      refine sxo_move rfl rfl rfl ?_
      refine sxo_case 4 ((x18.2.2 : Int) == 0) [(0, .int .u64 x1), (3, .pointer (some ⟨g5, 0, none⟩)), (6, .int .i64 x18.2.1), (36, .bool (((x18.2.2 : Int) == 0) && ((x18.1 : Int) == x1)))] (fun h19 => ?_) (fun h19 => ?_) ?_
      · refine sxo_take (os := _) rfl ?_
        refine sxo_isT (k := 32) rfl h19 ?_
        refine sxo_move rfl rfl rfl ?_
        refine sxo_move rfl rfl rfl ?_
        refine sxo_eql rfl rfl rfl rfl ?_
        refine sxo_pick (b := true) rfl rfl rfl rfl ?_
        refine sxo_again (d := 36) (v := .bool (((x18.2.2 : Int) == 0) && ((x18.1 : Int) == x1))) rfl (by rw [h19]; simp only [Bool.true_and]) ?_
        refine sxo_nil ?_
        exact sxq_case (lk_cons rfl (lk_cons rfl (lk_cons rfl (lk_cons rfl lk_nil))))
      · refine sxo_take (os := _) rfl ?_
        refine sxo_isF (k := 32) rfl h19 ?_
        refine sxo_skip rfl rfl rfl ?_
        refine sxo_skip rfl rfl rfl ?_
        refine sxo_skip rfl rfl rfl ?_
        refine sxo_pick (b := false) rfl rfl rfl rfl ?_
        refine sxo_again (d := 36) (v := .bool (((x18.2.2 : Int) == 0) && ((x18.1 : Int) == x1))) rfl (by rw [h19]; simp only [Bool.false_and]) ?_
        refine sxo_nil ?_
        exact sxq_case (lk_cons rfl (lk_cons rfl (lk_cons rfl (lk_cons rfl lk_nil))))
      refine sxo_take (os := _) rfl ?_
      refine sxo_move rfl rfl rfl ?_
      refine sxo_case 5 (((x18.2.2 : Int) == 0) && ((x18.1 : Int) == x1)) [(0, .int .u64 x1), (3, .pointer (some ⟨g5, 0, none⟩)), (42, .bool ((((x18.2.2 : Int) == 0) && ((x18.1 : Int) == x1)) && ((x18.2.1 : Int) == x2.1)))] (fun h20 => ?_) (fun h20 => ?_) ?_
      · refine sxo_take (os := _) rfl ?_
        refine sxo_isT (k := 37) rfl h20 ?_
        refine sxo_move rfl rfl rfl ?_
        refine sxo_fieldAddr rfl rfl ff24_0 rfl ?_
        refine sxo_loadB (i := 0) rfl rfl tf3 rfl rfl (fun _ => rfl) rfl rfl ?_
        refine sxo_eql rfl rfl rfl rfl ?_
        refine sxo_pick (b := true) rfl rfl rfl rfl ?_
        refine sxo_again (d := 42) (v := .bool ((((x18.2.2 : Int) == 0) && ((x18.1 : Int) == x1)) && ((x18.2.1 : Int) == x2.1))) rfl (by rw [h20]; simp only [Bool.true_and]) ?_
        refine sxo_nil ?_
        exact sxq_case (lk_cons rfl (lk_cons rfl (lk_cons rfl lk_nil)))
      · refine sxo_take (os := _) rfl ?_
        refine sxo_isF (k := 37) rfl h20 ?_
        refine sxo_skip rfl rfl rfl ?_
        refine sxo_skip rfl rfl rfl ?_
        refine sxo_skip rfl rfl rfl ?_
        refine sxo_skip rfl rfl rfl ?_
        refine sxo_pick (b := false) rfl rfl rfl rfl ?_
        refine sxo_again (d := 42) (v := .bool ((((x18.2.2 : Int) == 0) && ((x18.1 : Int) == x1)) && ((x18.2.1 : Int) == x2.1))) rfl (by rw [h20]; simp only [Bool.false_and]) ?_
        refine sxo_nil ?_
        exact sxq_case (lk_cons rfl (lk_cons rfl (lk_cons rfl lk_nil)))
      refine sxo_take (os := _) rfl ?_
      refine sxo_move rfl rfl rfl ?_
      refine sxo_case 7 ((((x18.2.2 : Int) == 0) && ((x18.1 : Int) == x1)) && ((x18.2.1 : Int) == x2.1)) [(50, .bool (((((x18.2.2 : Int) == 0) && ((x18.1 : Int) == x1)) && ((x18.2.1 : Int) == x2.1)) && (((iconv .u64 x2.1) : Int) == (iadd .u64 x1 1))))] (fun h21 => ?_) (fun h21 => ?_) ?_
      · refine sxo_take (os := _) rfl ?_
        refine sxo_isT (k := 43) rfl h21 ?_
        refine sxo_fieldAddr rfl rfl ff24_0 rfl ?_
        refine sxo_loadB (i := 0) rfl rfl tf3 rfl rfl (fun _ => rfl) rfl rfl ?_
        refine sxo_conv rfl Try.underlying3 Try.underlying45 rfl rfl ?_
        refine sxo_move rfl rfl rfl ?_
        refine sxo_add rfl rfl rfl rfl ?_
        refine sxo_eql rfl rfl rfl rfl ?_
        refine sxo_pick (b := true) rfl rfl rfl rfl ?_
        refine sxo_again (d := 50) (v := .bool (((((x18.2.2 : Int) == 0) && ((x18.1 : Int) == x1)) && ((x18.2.1 : Int) == x2.1)) && (((iconv .u64 x2.1) : Int) == (iadd .u64 x1 1)))) rfl (by rw [h21]; simp only [Bool.true_and]) ?_
        refine sxo_nil ?_
        exact sxq_case (lk_cons rfl lk_nil)
      · refine sxo_take (os := _) rfl ?_
        refine sxo_isF (k := 43) rfl h21 ?_
        refine sxo_skip rfl rfl rfl ?_
        refine sxo_skip rfl rfl rfl ?_
        refine sxo_skip rfl rfl rfl ?_
        refine sxo_skip rfl rfl rfl ?_
        refine sxo_skip rfl rfl rfl ?_
        refine sxo_skip rfl rfl rfl ?_
        refine sxo_pick (b := false) rfl rfl rfl rfl ?_
        refine sxo_again (d := 50) (v := .bool (((((x18.2.2 : Int) == 0) && ((x18.1 : Int) == x1)) && ((x18.2.1 : Int) == x2.1)) && (((iconv .u64 x2.1) : Int) == (iadd .u64 x1 1)))) rfl (by rw [h21]; simp only [Bool.false_and]) ?_
        refine sxo_nil ?_
        exact sxq_case (lk_cons rfl lk_nil)
      refine sxo_take (os := _) rfl ?_
      refine sxo_assign rfl rfl rfl ?_
      refine sxo_nil ?_
      refine sxq_next ?_
      refine sxc_ret ?_
      exact sxq_doneP () (.inl rfl) (res1 rfl rfl) (fun h => by subst h; rfl) (fun h => by subst h; exact .nil)

set_option maxHeartbeats 4000000 in
theorem C_bits_Cut (F : Nat) (x1 : Int) (x2 : List Int) (a3 : Option Addr) (c4 : Nat) (x5 : Int) (x6 : Int) (r : (Int × List Int × Int)) (hm : M_bits_Cut F x1 x2 x5 x6 = some r) :
    PureM Try.prog 39 [.agg #[.int .i64 x1, .slice a3 x2.length c4], .int .i64 x5, .int .i64 x6] [] [] [Sl (eI .u8) 1 (.slice a3 x2.length c4) x2] (Option Addr × Nat) (fun g => .tuple #[.agg #[.int .i64 r.1, .slice g.1 r.2.1.length g.2], .int .i64 r.2.2]) (fun _ => []) (fun g => [Ro (eI .u8) 5 1 (.slice g.1 r.2.1.length g.2) r.2.1]) := by
  refine pureX_of Try.func39 rfl Try.ntmps39 rfl hm (fun w => ?_)
  refine sxc_env (l' := [(0, .agg #[.int .i64 x1, .slice a3 x2.length c4]), (1, .int .i64 x5), (2, .int .i64 x6)]) rfl ?_
  refine sxc_seq ?_
  refine sxc_region ?_
  refine sxo_box rfl rfl rfl (fun g7 => ?_)
  refine sxo_alloc rfl tf24 rfl (fun g8 => ?_)
  refine sxo_assign rfl rfl rfl ?_
  refine sxo_nil ?_
  refine sxq_next ?_
  refine sxc_seq ?_
  refine sxc_region ?_
  refine sxo_loadB (i := 1) rfl rfl tf24 rfl rfl (by simp) rfl rfl ?_
  refine sxo_call ent42 rfl rfl rfl (fun x9 e9 => C_bits_Check F x1 x2 a3 c4 x9 e9) (.consF 0 rfl .nil) (fun x9 e9 => ?_)
  intro _
  refine sxo_assign rfl rfl rfl ?_
  refine sxo_nil ?_
  refine sxq_next ?_
  refine sxc_join (fun ((x19, _) : (Int × Unit)) => [(1, .int .i64 x5), (2, .int .i64 x6), (3, .pointer (some ⟨g7, 0, none⟩)), (6, .pointer (some ⟨g8, 0, none⟩)), (7, .int .i64 0), (8, .int .i64 x19)]) (fun ((x19, _) : (Int × Unit)) => [⟨g8, 24, [.int .i64 0, .slice none 0 0]⟩, ⟨g7, 24, [.int .i64 x1, .slice a3 x2.length c4]⟩]) (fun ((x19, _) : (Int × Unit)) => []) (fun ((x19, _) : (Int × Unit)) => [Sl (eI .u8) 1 (.slice a3 x2.length c4) x2]) (fun ((x19, _) : (Int × Unit)) => M_bits_Cut_j2 F x1 x2 x5 x6 x19) ?_ ?_
  · refine sxc_seq ?_
    refine sxc_region ?_
    refine sxo_move rfl rfl rfl ?_
    refine sxo_eql rfl rfl rfl rfl ?_
    refine sxo_move rfl rfl rfl ?_
    refine sxo_join 20 (fun ((x68, _) : (Bool × Unit)) => [(1, .int .i64 x5), (2, .int .i64 x6), (3, .pointer (some ⟨g7, 0, none⟩)), (6, .pointer (some ⟨g8, 0, none⟩)), (7, .int .i64 0), (8, .int .i64 x9), (35, .bool x68)]) (fun ((x68, _) : (Bool × Unit)) => [⟨g8, 24, [.int .i64 0, .slice none 0 0]⟩, ⟨g7, 24, [.int .i64 x1, .slice a3 x2.length c4]⟩]) (fun ((x68, _) : (Bool × Unit)) => []) (fun ((x68, _) : (Bool × Unit)) => [Sl (eI .u8) 1 (.slice a3 x2.length c4) x2]) (fun ((x68, _) : (Bool × Unit)) => M_bits_Cut_j5 F x1 x2 x5 x6 x9 x68) ?_ ?_
    · refine sxo_take (os := _) rfl ?_
      refine sxo_if (fun h64 => ?_) (fun h64 => ?_)
      · refine sxo_isT (k := 15) rfl h64 ?_
        refine sxo_move rfl rfl rfl ?_
        refine sxo_lss rfl rfl rfl rfl ?_
        refine sxo_move rfl rfl rfl ?_
        refine sxo_case 5 (decide (x5 < 0)) [(1, .int .i64 x5), (2, .int .i64 x6), (3, .pointer (some ⟨g7, 0, none⟩)), (6, .pointer (some ⟨g8, 0, none⟩)), (7, .int .i64 0), (8, .int .i64 x9), (15, .bool true), (23, .bool ((decide (x5 < 0)) || (decide (x1 < x5))))] (fun h70 => ?_) (fun h70 => ?_) ?_
        · refine sxo_take (os := _) rfl ?_
          refine sxo_isT (k := 18) rfl h70 ?_
          refine sxo_skip rfl rfl rfl ?_
          refine sxo_skip rfl rfl rfl ?_
          refine sxo_skip rfl rfl rfl ?_
          refine sxo_skip rfl rfl rfl ?_
          refine sxo_pick (b := true) rfl rfl rfl rfl ?_
          refine sxo_again (d := 23) (v := .bool ((decide (x5 < 0)) || (decide (x1 < x5)))) rfl (by rw [h70]; simp only [Bool.true_or]) ?_
          refine sxo_nil ?_
          exact sxq_case (lk_cons rfl (lk_cons rfl (lk_cons rfl (lk_cons rfl (lk_cons rfl (lk_cons rfl (lk_cons rfl (lk_cons rfl lk_nil))))))))
        · refine sxo_take (os := _) rfl ?_
          refine sxo_isF (k := 18) rfl h70 ?_
          refine sxo_move rfl rfl rfl ?_
          refine sxo_fieldAddr rfl rfl ff24_0 rfl ?_
          refine sxo_loadB (i := 1) rfl rfl tf3 rfl rfl (fun _ => rfl) rfl rfl ?_
          refine sxo_gtr rfl rfl rfl rfl ?_
          refine sxo_pick (b := false) rfl rfl rfl rfl ?_
          refine sxo_again (d := 23) (v := .bool ((decide (x5 < 0)) || (decide (x1 < x5)))) rfl (by rw [h70]; simp only [Bool.false_or]) ?_
          refine sxo_nil ?_
          exact sxq_case (lk_cons rfl (lk_cons rfl (lk_cons rfl (lk_cons rfl (lk_cons rfl (lk_cons rfl (lk_cons rfl (lk_cons rfl lk_nil))))))))
        refine sxo_take (os := _) rfl ?_
        refine sxo_move rfl rfl rfl ?_
        refine sxo_case 4 ((decide (x5 < 0)) || (decide (x1 < x5))) [(1, .int .i64 x5), (2, .int .i64 x6), (3, .pointer (some ⟨g7, 0, none⟩)), (6, .pointer (some ⟨g8, 0, none⟩)), (7, .int .i64 0), (8, .int .i64 x9), (15, .bool true), (28, .bool (((decide (x5 < 0)) || (decide (x1 < x5))) || (decide (x6 < x5))))] (fun h71 => ?_) (fun h71 => ?_) ?_
        · refine sxo_take (os := _) rfl ?_
          refine sxo_isT (k := 24) rfl h71 ?_
          refine sxo_skip rfl rfl rfl ?_
          refine sxo_skip rfl rfl rfl ?_
          refine sxo_skip rfl rfl rfl ?_
          refine sxo_pick (b := true) rfl rfl rfl rfl ?_
          refine sxo_again (d := 28) (v := .bool (((decide (x5 < 0)) || (decide (x1 < x5))) || (decide (x6 < x5)))) rfl (by rw [h71]; simp only [Bool.true_or]) ?_
          refine sxo_nil ?_
          exact sxq_case (lk_cons rfl (lk_cons rfl (lk_cons rfl (lk_cons rfl (lk_cons rfl (lk_cons rfl (lk_cons rfl (lk_cons rfl lk_nil))))))))
        · refine sxo_take (os := _) rfl ?_
          refine sxo_isF (k := 24) rfl h71 ?_
          refine sxo_move rfl rfl rfl ?_
          refine sxo_move rfl rfl rfl ?_
          refine sxo_lss rfl rfl rfl rfl ?_
          refine sxo_pick (b := false) rfl rfl rfl rfl ?_
          refine sxo_again (d := 28) (v := .bool (((decide (x5 < 0)) || (decide (x1 < x5))) || (decide (x6 < x5)))) rfl (by rw [h71]; simp only [Bool.false_or]) ?_
          refine sxo_nil ?_
          exact sxq_case (lk_cons rfl (lk_cons rfl (lk_cons rfl (lk_cons rfl (lk_cons rfl (lk_cons rfl (lk_cons rfl (lk_cons rfl lk_nil))))))))
        refine sxo_take (os := _) rfl ?_
        refine sxo_move rfl rfl rfl ?_
        refine sxo_case 5 (((decide (x5 < 0)) || (decide (x1 < x5))) || (decide (x6 < x5))) [(1, .int .i64 x5), (2, .int .i64 x6), (3, .pointer (some ⟨g7, 0, none⟩)), (6, .pointer (some ⟨g8, 0, none⟩)), (7, .int .i64 0), (8, .int .i64 x9), (15, .bool true), (34, .bool ((((decide (x5 < 0)) || (decide (x1 < x5))) || (decide (x6 < x5))) || (decide (x1 < x6))))] (fun h72 => ?_) (fun h72 => ?_) ?_
        · refine sxo_take (os := _) rfl ?_
          refine sxo_isT (k := 29) rfl h72 ?_
          refine sxo_skip rfl rfl rfl ?_
          refine sxo_skip rfl rfl rfl ?_
          refine sxo_skip rfl rfl rfl ?_
          refine sxo_skip rfl rfl rfl ?_
          refine sxo_pick (b := true) rfl rfl rfl rfl ?_
          refine sxo_again (d := 34) (v := .bool ((((decide (x5 < 0)) || (decide (x1 < x5))) || (decide (x6 < x5))) || (decide (x1 < x6)))) rfl (by rw [h72]; simp only [Bool.true_or]) ?_
          refine sxo_nil ?_
          exact sxq_case (lk_cons rfl (lk_cons rfl (lk_cons rfl (lk_cons rfl (lk_cons rfl (lk_cons rfl (lk_cons rfl (lk_cons rfl lk_nil))))))))
        · refine sxo_take (os := _) rfl ?_
          refine sxo_isF (k := 29) rfl h72 ?_
          refine sxo_move rfl rfl rfl ?_
          refine sxo_fieldAddr rfl rfl ff24_0 rfl ?_
          refine sxo_loadB (i := 1) rfl rfl tf3 rfl rfl (fun _ => rfl) rfl rfl ?_
          refine sxo_gtr rfl rfl rfl rfl ?_
          refine sxo_pick (b := false) rfl rfl rfl rfl ?_
          refine sxo_again (d := 34) (v := .bool ((((decide (x5 < 0)) || (decide (x1 < x5))) || (decide (x6 < x5))) || (decide (x1 < x6)))) rfl (by rw [h72]; simp only [Bool.false_or]) ?_
          refine sxo_nil ?_
          exact sxq_case (lk_cons rfl (lk_cons rfl (lk_cons rfl (lk_cons rfl (lk_cons rfl (lk_cons rfl (lk_cons rfl (lk_cons rfl lk_nil))))))))
        refine sxo_take (os := _) rfl ?_
        refine sxo_pick (b := true) rfl rfl rfl rfl ?_
        refine sxo_nil ?_
        exact sxq_meetP (((((decide (x5 < 0)) || (decide (x1 < x5))) || (decide (x6 < x5))) || (decide (x1 < x6))), ()) (lk_cons rfl (lk_cons rfl (lk_cons rfl (lk_cons rfl (lk_cons rfl (lk_cons rfl (lk_cons rfl lk_nil))))))) (.cons 0 rfl (.cons 0 rfl .nil)) .nil (fk_cons 0 rfl fk_nil)
      · refine sxo_isF (k := 15) rfl h64 ?_
        refine sxo_skip rfl rfl rfl ?_
        refine sxo_skip rfl rfl rfl ?_
        refine sxo_skip rfl rfl rfl ?_
        refine sxo_skip rfl rfl rfl ?_
        refine sxo_skip rfl rfl rfl ?_
        refine sxo_skip rfl rfl rfl ?_
        refine sxo_skip rfl rfl rfl ?_
        refine sxo_skip rfl rfl rfl ?_
        refine sxo_skip rfl rfl rfl ?_
        refine sxo_skip rfl rfl rfl ?_
        refine sxo_skip rfl rfl rfl ?_
        refine sxo_skip rfl rfl rfl ?_
        refine sxo_skip rfl rfl rfl ?_
        refine sxo_skip rfl rfl rfl ?_
        refine sxo_skip rfl rfl rfl ?_
        refine sxo_skip rfl rfl rfl ?_
        refine sxo_skip rfl rfl rfl ?_
        refine sxo_skip rfl rfl rfl ?_
        refine sxo_skip rfl rfl rfl ?_
        refine sxo_pick (b := false) rfl rfl rfl rfl ?_
        refine sxo_nil ?_
        exact sxq_meetP (false, ()) (lk_cons rfl (lk_cons rfl (lk_cons rfl (lk_cons rfl (lk_cons rfl (lk_cons rfl (lk_cons rfl lk_nil))))))) (.cons 0 rfl (.cons 0 rfl .nil)) .nil (fk_cons 0 rfl fk_nil)
    · rintro ⟨x68, _⟩
      try dsimp only
      refine sxo_take (os := _) rfl ?_
      refine sxo_nil ?_
      refine sxq_next ?_
      refine sxc_if rfl (fun h69 => ?_) (fun h69 => ?_)
      · refine sxc_region ?_
        refine sxo_assign rfl rfl rfl ?_
        refine sxo_nil ?_
        exact sxq_meetP (3, ()) (lk_cons rfl (lk_cons rfl (lk_cons rfl (lk_cons rfl (lk_cons rfl (lk_cons rfl lk_nil)))))) (.cons 0 rfl (.cons 0 rfl .nil)) .nil (fk_cons 0 rfl fk_nil)
      · refine sxc_skip ?_
        exact sxq_meetP (x9, ()) (lk_cons rfl (lk_cons rfl (lk_cons rfl (lk_cons rfl (lk_cons rfl (lk_cons rfl lk_nil)))))) (.cons 0 rfl (.cons 0 rfl .nil)) .nil (fk_cons 0 rfl fk_nil)
  · rintro ⟨x19, _⟩
    try dsimp only
    refine sxc_seq ?_
    refine sxc_seq ?_
    refine sxc_region ?_
    refine sxo_move rfl rfl rfl ?_
    refine sxo_neq rfl rfl rfl rfl ?_
    refine sxo_nil ?_
    refine sxq_next ?_
    refine sxc_if rfl (fun h63 => ?_) (fun h63 => ?_)
    · refine sxc_seq ?_
      refine sxc_region ?_
      refine sxo_build (cells := [.int .i64 0, .slice none 0 0]) rfl st24 rfl (by kernel_rfl) rfl ?_
      refine sxo_move rfl rfl rfl ?_
      refine sxo_storeB (i := 0) rfl rfl rfl tf24 rfl rfl rfl rfl rfl ?_
      refine sxo_assign rfl rfl rfl ?_
      refine sxo_nil ?_
      refine sxq_next ?_
      refine sxc_ret ?_
      refine sxq_thenR ?_
      refine sxq_nilrow Int (eI .u8) 5 1 ?_
      exact sxq_doneX [] (none, 0) (.inl rfl) rfl .nil (resL (rs := [.cell 6 24, .tmp 7]) rfl (.cell (i := 0) rfl tf24 rfl rfl (by simp) rfl (.tmp rfl ResOk.nil)) rfl) (fun h => by subst h; rfl) (fun h => by subst h; exact .nil) (fun h => by subst h; exact (.cons 0 rfl .nil))
    · refine sxc_skip ?_
      refine sxq_next ?_
      refine sxc_seq ?_
      refine sxc_region ?_
      refine sxo_build (cells := [.int .i64 0, .slice none 0 0]) rfl st83 rfl (by kernel_rfl) rfl ?_
      refine sxo_box rfl rfl rfl (fun g21 => ?_)
      refine sxo_alloc rfl tf81 rfl (fun g22 => ?_)
      refine sxo_storeB (i := 0) rfl rfl rfl tf81 rfl rfl rfl rfl rfl ?_
      refine sxo_nil ?_
      refine sxq_next ?_
      refine sxc_seq ?_
      refine sxc_seq ?_
      refine sxc_region ?_
      refine sxo_loadB (i := 3) rfl rfl tf24 rfl rfl (by simp) rfl rfl ?_
      refine sxo_move rfl rfl rfl ?_
      refine sxo_move rfl rfl rfl ?_
      refine sxo_callM ent57 rfl rfl rfl (fun x43 e43 => C_bits_places F x1 x2 a3 c4 x5 x6 x43 e43) .nil .nil (.consF 0 rfl .nil) (fun x43 e43 => ?_)
      rintro ⟨g44, g45, g46⟩
      refine sxo_nil ?_
      refine sxq_next ?_
      refine sxc_block ?_
      refine sxc_nilrow Int (eI .u8) 5 1 ?_
      refine sxc_range (encs := (fun (p : Int) => [.int .u64 p])) (y := (fun ((x51, x54) : (Int × List Int)) (x59 : Int) => M_bits_Cut_r4 F x51 x54 x59)) (lb := [.pointer (some ⟨g44, 0, none⟩), .pointer (some ⟨g45, 0, none⟩), .pointer (some ⟨g46, 0, none⟩)]) (fun ((x51, x54) : (Int × List Int)) ((a52, c53) : (Option Addr × Nat)) => [⟨g22, 81, [.pointer (some ⟨g21, 0, none⟩)]⟩, ⟨g21, 83, [.int .i64 x51, .slice a52 x54.length c53]⟩, ⟨g8, 24, [.int .i64 0, .slice none 0 0]⟩, ⟨g7, 24, [.int .i64 x1, .slice a3 x2.length c4]⟩]) (fun ((x51, x54) : (Int × List Int)) ((a52, c53) : (Option Addr × Nat)) => [Ro (eI .u8) 5 1 (.slice a52 x54.length c53) x54]) (fun (_ : Empty) (_ : Unit) => []) (fun (_ : Empty) (_ : Unit) => []) (fun _ => .skip) (0, ([] : List Int)) (none, 0) rfl ent64 (fun _ => rfl) rfl (.cons 0 rfl (.cons 0 rfl (.cons 0 rfl .nil))) (.cons 0 rfl (.cons 0 rfl (.cons 0 rfl (.cons 0 rfl .nil)))) (.cons 0 rfl .nil) (.consF 0 rfl .nil) (fun z hz _ _ _ hY => C_bits_places_1 F hY (0, ([] : List Int)) (none, 0) g44 x5 g45 x6 g46 x1 x2 a3 c4 z hz) ?_ ?_ ?_
      · rintro rc4 L4 D4 ⟨x51, x54⟩ ⟨a52, c53⟩ x59 z w M _
        try dsimp only
        refine sxc_less [(1, .int .i64 x5), (2, .int .i64 x6), (3, .pointer (some ⟨g7, 0, none⟩)), (6, .pointer (some ⟨g8, 0, none⟩)), (7, .int .i64 0), (8, .int .i64 x19), (9, .pointer (some ⟨g22, 0, none⟩)), (36, .int .i64 x19), (37, .bool ((x19 : Int) != 0)), (40, .agg #[.int .i64 0, .slice none 0 0]), (41, .pointer (some ⟨g21, 0, none⟩)), (42, .agg #[.int .i64 x1, .slice a3 x2.length c4]), (43, .int .i64 x5), (44, .int .i64 x6), (45, .func (.func 64) #[] #[.pointer (some ⟨g44, 0, none⟩), .pointer (some ⟨g45, 0, none⟩), .pointer (some ⟨g46, 0, none⟩)]), (46, .int .u64 x59)] (lk_cons rfl (lk_cons rfl (lk_cons rfl (lk_cons rfl (lk_cons rfl (lk_cons rfl (lk_cons rfl (lk_cons rfl (lk_cons rfl (lk_cons rfl (lk_cons rfl (lk_cons rfl (lk_cons rfl (lk_cons rfl (lk_cons rfl (lk_cons rfl lk_nil)))))))))))))))) ?_
        refine sxc_region ?_
        refine sxo_assign rfl rfl rfl ?_
        refine sxo_nil ?_
        refine sxq_begin (i := 4) rfl ?_
        refine sxc_block ?_
        refine sxc_region ?_
        refine sxo_loadB (i := 0) rfl rfl tf81 rfl rfl (fun _ => rfl) rfl rfl ?_
        refine sxo_move rfl rfl rfl ?_
        refine sxo_callM ent58 rfl rfl rfl (fun x60 e60 => C_bits_writer_bit F g21 x51 x54 a52 c53 x59 x60 e60) (.cons 1 rfl .nil) (.cons 0 rfl .nil) .nil (fun x60 e60 => ?_)
        rintro ⟨a61, c62⟩
        refine sxo_nil ?_
        refine sxq_blkN ?_
        exact sxq_round (rc := rc4) rfl (.cons 4 rfl .nil) rfl (a61, c62) (.cons 2 rfl (.cons 1 rfl (.cons 1 rfl (.cons 1 rfl (.cons 0 rfl (.cons 0 rfl .nil)))))) (.cons 0 rfl .nil)
      · rintro ⟨x51, x54⟩ _ ⟨a52, c53⟩ D4
        try dsimp only
        refine sxq_blkN ?_
        refine sxq_next ?_
        refine sxc_seq ?_
        refine sxc_region ?_
        refine sxo_loadB (i := 4) rfl rfl tf81 rfl rfl (fun _ => rfl) rfl rfl ?_
        refine sxo_nilCheck rfl rfl rfl ?_
        refine sxo_fieldAddr rfl rfl ff83_0 rfl ?_
        refine sxo_loadB (i := 5) rfl rfl tf24 rfl rfl (by simp) rfl rfl ?_
        refine sxo_storeB (i := 6) rfl rfl rfl tf24 rfl rfl rfl rfl rfl ?_
        refine sxo_assign rfl rfl rfl ?_
        refine sxo_nil ?_
        refine sxq_next ?_
        refine sxc_ret ?_
        exact sxq_doneX [D4] (a52, c53) (.inl rfl) rfl (.cons 0 rfl .nil) (resL (rs := [.cell 6 24, .tmp 7]) rfl (.cell (i := 5) rfl tf24 rfl rfl (by simp) rfl (.tmp rfl ResOk.nil)) rfl) (fun h => by subst h; rfl) (fun h => by subst h; exact .nil) (fun h => by subst h; exact (.cons 0 rfl .nil))
      · intro t; exact t.elim

theorem C_bits_Join (F : Nat) (x1 : Int) (x2 : List Int) (a3 : Option Addr) (c4 : Nat) (x5 : Int) (x6 : List Int) (a7 : Option Addr) (c8 : Nat) (r : (Int × List Int × Int)) (hm : M_bits_Join F x1 x2 x5 x6 = some r) :
    Pure Try.prog 40 [.agg #[.int .i64 x1, .slice a3 x2.length c4], .agg #[.int .i64 x5, .slice a7 x6.length c8]] [Sl (eI .u8) 1 (.slice a3 x2.length c4) x2, Sl (eI .u8) 1 (.slice a7 x6.length c8) x6] (Option Addr × Nat) (fun g => .tuple #[.agg #[.int .i64 r.1, .slice g.1 r.2.1.length g.2], .int .i64 r.2.2]) (fun g => [Ro (eI .u8) 5 1 (.slice g.1 r.2.1.length g.2) r.2.1]) (fun _ => []) := by
  refine pure_of Try.func40 rfl Try.ntmps40 rfl hm (fun w => ?_)
  refine sxc_env (l' := [(0, .agg #[.int .i64 x1, .slice a3 x2.length c4]), (1, .agg #[.int .i64 x5, .slice a7 x6.length c8])]) rfl ?_
  refine sxc_seq ?_
  refine sxc_region ?_
  refine sxo_box rfl rfl rfl (fun g9 => ?_)
  refine sxo_box rfl rfl rfl (fun g10 => ?_)
  refine sxo_alloc rfl tf24 rfl (fun g11 => ?_)
  refine sxo_assign rfl rfl rfl ?_
  refine sxo_nil ?_
  refine sxq_next ?_
  refine sxc_seq ?_
  refine sxc_region ?_
  refine sxo_loadB (i := 2) rfl rfl tf24 rfl rfl (by simp) rfl rfl ?_
  refine sxo_call ent42 rfl rfl rfl (fun x12 e12 => C_bits_Check F x1 x2 a3 c4 x12 e12) (.consF 0 rfl .nil) (fun x12 e12 => ?_)
  intro _
  refine sxo_assign rfl rfl rfl ?_
  refine sxo_nil ?_
  refine sxq_next ?_
  refine sxc_join (fun ((x15, _) : (Int × Unit)) => [(2, .pointer (some ⟨g9, 0, none⟩)), (3, .pointer (some ⟨g10, 0, none⟩)), (4, .pointer (some ⟨g11, 0, none⟩)), (6, .int .i64 x15)]) (fun ((x15, _) : (Int × Unit)) => [⟨g11, 24, [.int .i64 0, .slice none 0 0]⟩, ⟨g10, 24, [.int .i64 x5, .slice a7 x6.length c8]⟩, ⟨g9, 24, [.int .i64 x1, .slice a3 x2.length c4]⟩]) (fun ((x15, _) : (Int × Unit)) => []) (fun ((x15, _) : (Int × Unit)) => [Sl (eI .u8) 1 (.slice a7 x6.length c8) x6, Sl (eI .u8) 1 (.slice a3 x2.length c4) x2]) (fun ((x15, _) : (Int × Unit)) => M_bits_Join_j1 F x1 x2 x5 x6 x15) ?_ ?_
  · refine sxc_seq ?_
    refine sxc_region ?_
    refine sxo_move rfl rfl rfl ?_
    refine sxo_eql rfl rfl rfl rfl ?_
    refine sxo_nil ?_
    refine sxq_next ?_
    refine sxc_if rfl (fun h27 => ?_) (fun h27 => ?_)
    · refine sxc_region ?_
      refine sxo_loadB (i := 1) rfl rfl tf24 rfl rfl (by simp) rfl rfl ?_
      refine sxo_call ent42 rfl rfl rfl (fun x26 e26 => C_bits_Check F x5 x6 a7 c8 x26 e26) (.consF 1 rfl .nil) (fun x26 e26 => ?_)
      intro _
      refine sxo_assign rfl rfl rfl ?_
      refine sxo_nil ?_
      exact sxq_meetP (x26, ()) (lk_cons rfl (lk_cons rfl (lk_cons rfl (lk_cons rfl lk_nil)))) (.cons 0 rfl (.cons 0 rfl (.cons 0 rfl .nil))) .nil (fk_cons 1 rfl (fk_cons 0 rfl fk_nil))
    · refine sxc_skip ?_
      exact sxq_meetP (x12, ()) (lk_cons rfl (lk_cons rfl (lk_cons rfl (lk_cons rfl lk_nil)))) (.cons 0 rfl (.cons 0 rfl (.cons 0 rfl .nil))) .nil (fk_cons 1 rfl (fk_cons 0 rfl fk_nil))
  · rintro ⟨x15, _⟩
    try dsimp only
    refine sxc_join (fun ((x18, _) : (Int × Unit)) => [(2, .pointer (some ⟨g9, 0, none⟩)), (3, .pointer (some ⟨g10, 0, none⟩)), (4, .pointer (some ⟨g11, 0, none⟩)), (6, .int .i64 x18)]) (fun ((x18, _) : (Int × Unit)) => [⟨g11, 24, [.int .i64 0, .slice none 0 0]⟩, ⟨g10, 24, [.int .i64 x5, .slice a7 x6.length c8]⟩, ⟨g9, 24, [.int .i64 x1, .slice a3 x2.length c4]⟩]) (fun ((x18, _) : (Int × Unit)) => []) (fun ((x18, _) : (Int × Unit)) => [Sl (eI .u8) 1 (.slice a7 x6.length c8) x6, Sl (eI .u8) 1 (.slice a3 x2.length c4) x2]) (fun ((x18, _) : (Int × Unit)) => M_bits_Join_j2 F x1 x2 x5 x6 x18) ?_ ?_
    · refine sxc_seq ?_
      refine sxc_region ?_
      refine sxo_move rfl rfl rfl ?_
      refine sxo_eql rfl rfl rfl rfl ?_
      refine sxo_move rfl rfl rfl ?_
      refine sxo_case 7 ((x15 : Int) == 0) [(2, .pointer (some ⟨g9, 0, none⟩)), (3, .pointer (some ⟨g10, 0, none⟩)), (4, .pointer (some ⟨g11, 0, none⟩)), (6, .int .i64 x15), (22, .bool (((x15 : Int) == 0) && (decide (8192 < (iadd .i64 x1 x5)))))] (fun h24 => ?_) (fun h24 => ?_) ?_
      · refine sxo_take (os := _) rfl ?_
        refine sxo_isT (k := 15) rfl h24 ?_
        refine sxo_fieldAddr rfl rfl ff24_0 rfl ?_
        refine sxo_loadB (i := 2) rfl rfl tf3 rfl rfl (fun _ => rfl) rfl rfl ?_
        refine sxo_fieldAddr rfl rfl ff24_0 rfl ?_
        refine sxo_loadB (i := 1) rfl rfl tf3 rfl rfl (fun _ => rfl) rfl rfl ?_
        refine sxo_add rfl rfl rfl rfl ?_
        refine sxo_gtr rfl rfl rfl rfl ?_
        refine sxo_pick (b := true) rfl rfl rfl rfl ?_
        refine sxo_again (d := 22) (v := .bool (((x15 : Int) == 0) && (decide (8192 < (iadd .i64 x1 x5))))) rfl (by rw [h24]; simp only [Bool.true_and]) ?_
        refine sxo_nil ?_
        exact sxq_case (lk_cons rfl (lk_cons rfl (lk_cons rfl (lk_cons rfl (lk_cons rfl lk_nil)))))
      · refine sxo_take (os := _) rfl ?_
        refine sxo_isF (k := 15) rfl h24 ?_
        refine sxo_skip rfl rfl rfl ?_
        refine sxo_skip rfl rfl rfl ?_
        refine sxo_skip rfl rfl rfl ?_
        refine sxo_skip rfl rfl rfl ?_
        refine sxo_skip rfl rfl rfl ?_
        refine sxo_skip rfl rfl rfl ?_
        refine sxo_pick (b := false) rfl rfl rfl rfl ?_
        refine sxo_again (d := 22) (v := .bool (((x15 : Int) == 0) && (decide (8192 < (iadd .i64 x1 x5))))) rfl (by rw [h24]; simp only [Bool.false_and]) ?_
        refine sxo_nil ?_
        exact sxq_case (lk_cons rfl (lk_cons rfl (lk_cons rfl (lk_cons rfl (lk_cons rfl lk_nil)))))
      refine sxo_take (os := _) rfl ?_
      refine sxo_nil ?_
      refine sxq_next ?_
      refine sxc_if rfl (fun h25 => ?_) (fun h25 => ?_)
      · refine sxc_region ?_
        refine sxo_assign rfl rfl rfl ?_
        refine sxo_nil ?_
        exact sxq_meetP (8, ()) (lk_cons rfl (lk_cons rfl (lk_cons rfl (lk_cons rfl lk_nil)))) (.cons 0 rfl (.cons 0 rfl (.cons 0 rfl .nil))) .nil (fk_cons 0 rfl (fk_cons 1 rfl fk_nil))
      · refine sxc_skip ?_
        exact sxq_meetP (x15, ()) (lk_cons rfl (lk_cons rfl (lk_cons rfl (lk_cons rfl lk_nil)))) (.cons 0 rfl (.cons 0 rfl (.cons 0 rfl .nil))) .nil (fk_cons 0 rfl (fk_cons 1 rfl fk_nil))
    · rintro ⟨x18, _⟩
      try dsimp only
      refine sxc_seq ?_
      refine sxc_seq ?_
      refine sxc_region ?_
      refine sxo_move rfl rfl rfl ?_
      refine sxo_neq rfl rfl rfl rfl ?_
      refine sxo_nil ?_
      refine sxq_next ?_
      refine sxc_if rfl (fun h23 => ?_) (fun h23 => ?_)
      · refine sxc_seq ?_
        refine sxc_region ?_
        refine sxo_build (cells := [.int .i64 0, .slice none 0 0]) rfl st24 rfl (by kernel_rfl) rfl ?_
        refine sxo_move rfl rfl rfl ?_
        refine sxo_storeB (i := 0) rfl rfl rfl tf24 rfl rfl rfl rfl rfl ?_
        refine sxo_assign rfl rfl rfl ?_
        refine sxo_nil ?_
        refine sxq_next ?_
        refine sxc_ret ?_
        refine sxq_thenR ?_
        refine sxq_nilrow Int (eI .u8) 5 1 ?_
        exact sxq_doneP (none, 0) (.inl rfl) (resL (rs := [.cell 4 24, .tmp 5]) rfl (.cell (i := 0) rfl tf24 rfl rfl (by simp) rfl (.tmp rfl ResOk.nil)) rfl) (fun h => by subst h; rfl) (fun h => by subst h; exact (.cons 0 rfl .nil))
      · refine sxc_skip ?_
        refine sxq_next ?_
        refine sxc_seq ?_
        refine sxc_region ?_
        refine sxo_loadB (i := 2) rfl rfl tf24 rfl rfl (by simp) rfl rfl ?_
        refine sxo_loadB (i := 1) rfl rfl tf24 rfl rfl (by simp) rfl rfl ?_
        refine sxo_callM ent52 rfl rfl rfl (fun x20 e20 => C_bits_Both F x1 x2 a3 c4 x5 x6 a7 c8 x20 e20) .nil .nil (.consF 1 rfl (.consF 0 rfl .nil)) (fun x20 e20 => ?_)
        rintro ⟨a21, c22⟩
        refine sxo_storeB (i := 0) rfl rfl rfl tf24 rfl rfl rfl rfl rfl ?_
        refine sxo_assign rfl rfl rfl ?_
        refine sxo_nil ?_
        refine sxq_next ?_
        refine sxc_ret ?_
        exact sxq_doneP (a21, c22) (.inl rfl) (resL (rs := [.cell 4 24, .tmp 5]) rfl (.cell (i := 0) rfl tf24 rfl rfl (by simp) rfl (.tmp rfl ResOk.nil)) rfl) (fun h => by subst h; rfl) (fun h => by subst h; exact (.cons 0 rfl .nil))

theorem C_bits_Read (F : Nat) (x1 : Int) (x2 : List Int) (a3 : Option Addr) (c4 : Nat) (x5 : Int) (x6 : Int) (r : (Int × Bool)) (hm : M_bits_Read F x1 x2 x5 x6 = some r) :
    Pure Try.prog 59 [.agg #[.int .i64 x1, .slice a3 x2.length c4], .int .i64 x5, .int .i64 x6] [Sl (eI .u8) 1 (.slice a3 x2.length c4) x2] Unit (fun _ => .tuple #[.int .u64 r.1, .bool r.2]) (fun _ => []) (fun _ => []) := by
  refine pure_of Try.func59 rfl Try.ntmps59 rfl hm (fun w => ?_)
  refine sxc_env (l' := [(0, .agg #[.int .i64 x1, .slice a3 x2.length c4]), (1, .int .i64 x5), (2, .int .i64 x6)]) rfl ?_
  refine sxc_seq ?_
  refine sxc_region ?_
  refine sxo_box rfl rfl rfl (fun g7 => ?_)
  refine sxo_assign rfl rfl rfl ?_
  refine sxo_assign rfl rfl rfl ?_
  refine sxo_nil ?_
  refine sxq_next ?_
  refine sxc_seq ?_
  refine sxc_seq ?_
  refine sxc_region ?_
  refine sxo_fieldAddr rfl rfl ff24_0 rfl ?_
  refine sxo_loadB (i := 0) rfl rfl tf3 rfl rfl (fun _ => rfl) rfl rfl ?_
  refine sxo_move rfl rfl rfl ?_
  refine sxo_sub rfl rfl rfl rfl ?_
  refine sxo_move rfl rfl rfl ?_
  refine sxo_lss rfl rfl rfl rfl ?_
  refine sxo_nil ?_
  refine sxq_next ?_
  refine sxc_if rfl (fun h40 => ?_) (fun h40 => ?_)
  · refine sxc_seq ?_
    refine sxc_region ?_
    refine sxo_assign rfl rfl rfl ?_
    refine sxo_assign rfl rfl rfl ?_
    refine sxo_nil ?_
    refine sxq_next ?_
    refine sxc_ret ?_
    refine sxq_thenR ?_
    exact sxq_doneP () (.inl rfl) (res2 rfl rfl rfl) (fun h => by subst h; rfl) (fun h => by subst h; exact .nil)
  · refine sxc_skip ?_
    refine sxq_next ?_
    refine sxc_join (fun ((x24, _) : (Int × Unit)) => [(6, .int .u64 x24)]) (fun ((x24, _) : (Int × Unit)) => []) (fun ((x24, _) : (Int × Unit)) => []) (fun ((x24, _) : (Int × Unit)) => []) (fun ((x24, _) : (Int × Unit)) => M_bits_Read_j2 F x24) ?_ ?_
    · refine sxc_seq ?_
      refine sxc_region ?_
      refine sxo_move rfl rfl rfl ?_
      refine sxo_move rfl rfl rfl ?_
      refine sxo_nil ?_
      refine sxq_next ?_
      refine sxc_block ?_
      refine sxc_loopP (fun (((x29, x30), _) : ((Int × Int) × Unit)) => [(1, .int .i64 x5), (3, .pointer (some ⟨g7, 0, none⟩)), (6, .int .u64 x29), (15, .int .i64 x6), (16, .int .i64 x30)]) (fun (((x29, x30), _) : ((Int × Int) × Unit)) => [⟨g7, 24, [.int .i64 x1, .slice a3 x2.length c4]⟩]) (fun (((x29, x30), _) : ((Int × Int) × Unit)) => []) (fun (((x29, x30), _) : ((Int × Int) × Unit)) => [Sl (eI .u8) 1 (.slice a3 x2.length c4) x2]) (fun k (s : ((Int × Int) × Unit)) => M_bits_Read_l3 F x1 x2 x5 x6 k s.1) ((0, 0), ()) F (lk_cons rfl (lk_cons rfl (lk_cons rfl (lk_cons rfl (lk_cons rfl lk_nil))))) (.cons 0 rfl .nil) .nil (fk_cons 0 rfl fk_nil) (fun _ => rfl) ?_
      intro k35
      rintro ⟨⟨x29, x30⟩, _⟩
      try dsimp only
      refine sxc_meq (m' := M_bits_Read_b3 F x1 x2 x5 x6 (M_bits_Read_l3 F x1 x2 x5 x6 k35) x29 x30) rfl ?_
      refine sxc_seq ?_
      refine sxc_region ?_
      refine sxo_lss rfl rfl rfl rfl ?_
      refine sxo_nil ?_
      refine sxq_next ?_
      refine sxc_seq ?_
      refine sxc_if rfl (fun h39 => ?_) (fun h39 => ?_)
      · refine sxc_skip ?_
        refine sxq_next ?_
        refine sxc_seq ?_
        refine sxc_block ?_
        refine sxc_seq ?_
        refine sxc_region ?_
        refine sxo_move rfl rfl rfl ?_
        refine sxo_assign rfl rfl rfl ?_
        refine sxo_nil ?_
        refine sxq_next ?_
        refine sxc_region ?_
        refine sxo_move rfl rfl rfl ?_
        refine sxo_shl rfl rfl rfl rfl rfl ?_
        refine sxo_loadB (i := 0) rfl rfl tf24 rfl rfl (by simp) rfl rfl ?_
        refine sxo_move rfl rfl rfl ?_
        refine sxo_move rfl rfl rfl ?_
        refine sxo_add rfl rfl rfl rfl ?_
        refine sxo_call ent60 rfl rfl rfl (fun x38 e38 => C_bits_At F x1 x2 a3 c4 (iadd .i64 x5 x30) x38 e38) (.consF 0 rfl .nil) (fun x38 e38 => ?_)
        intro _
        refine sxo_or rfl rfl rfl rfl ?_
        refine sxo_assign rfl rfl rfl ?_
        refine sxo_nil ?_
        refine sxq_blkN ?_
        refine sxq_next ?_
        refine sxc_region ?_
        refine sxo_add rfl rfl rfl rfl ?_
        refine sxo_move rfl rfl rfl ?_
        refine sxo_nil ?_
        exact sxq_againP ((ior .u64 (ishl .u64 x29 1) x38, iadd .i64 x30 1), ()) (lk_cons rfl (lk_cons rfl (lk_cons rfl (lk_cons rfl (lk_cons rfl lk_nil))))) (.cons 0 rfl .nil) .nil (fk_cons 0 rfl fk_nil)
      · refine sxc_exit ?_
        refine sxq_thenX ?_
        refine sxq_thenX ?_
        refine sxq_blkX ?_
        exact sxq_meetP (x29, ()) (lk_cons rfl lk_nil) .nil .nil fk_nil
    · rintro ⟨x24, _⟩
      try dsimp only
      refine sxc_seq ?_
      refine sxc_region ?_
      refine sxo_move rfl rfl rfl ?_
      refine sxo_assign rfl rfl rfl ?_
      refine sxo_assign rfl rfl rfl ?_
      refine sxo_nil ?_
      refine sxq_next ?_
      refine sxc_ret ?_
      exact sxq_doneP () (.inl rfl) (res2 rfl rfl rfl) (fun h => by subst h; rfl) (fun h => by subst h; exact .nil)

theorem C_bits_Get (F : Nat) (x1 : Int) (x2 : List Int) (a3 : Option Addr) (c4 : Nat) (x5 : Int) (x6 : Int) (r : (Int × Int)) (hm : M_bits_Get F x1 x2 x5 x6 = some r) :
    Pure Try.prog 41 [.agg #[.int .i64 x1, .slice a3 x2.length c4], .int .i64 x5, .int .i64 x6] [Sl (eI .u8) 1 (.slice a3 x2.length c4) x2] Unit (fun _ => .tuple #[.int .u64 r.1, .int .i64 r.2]) (fun _ => []) (fun _ => []) := by
  refine pure_of Try.func41 rfl Try.ntmps41 rfl hm (fun w => ?_)
  refine sxc_env (l' := [(0, .agg #[.int .i64 x1, .slice a3 x2.length c4]), (1, .int .i64 x5), (2, .int .i64 x6)]) rfl ?_
  refine sxc_seq ?_
  refine sxc_region ?_
  refine sxo_box rfl rfl rfl (fun g7 => ?_)
  refine sxo_assign rfl rfl rfl ?_
  refine sxo_assign rfl rfl rfl ?_
  refine sxo_nil ?_
  refine sxq_next ?_
  refine sxc_seq ?_
  refine sxc_region ?_
  refine sxo_loadB (i := 0) rfl rfl tf24 rfl rfl (by simp) rfl rfl ?_
  refine sxo_call ent42 rfl rfl rfl (fun x8 e8 => C_bits_Check F x1 x2 a3 c4 x8 e8) (.consF 0 rfl .nil) (fun x8 e8 => ?_)
  intro _
  refine sxo_assign rfl rfl rfl ?_
  refine sxo_nil ?_
  refine sxq_next ?_
  refine sxc_join (fun ((x18, _) : (Int × Unit)) => [(1, .int .i64 x5), (2, .int .i64 x6), (3, .pointer (some ⟨g7, 0, none⟩)), (8, .int .i64 x18)]) (fun ((x18, _) : (Int × Unit)) => [⟨g7, 24, [.int .i64 x1, .slice a3 x2.length c4]⟩]) (fun ((x18, _) : (Int × Unit)) => []) (fun ((x18, _) : (Int × Unit)) => [Sl (eI .u8) 1 (.slice a3 x2.length c4) x2]) (fun ((x18, _) : (Int × Unit)) => M_bits_Get_j2 F x1 x2 x5 x6 x18) ?_ ?_
  · refine sxc_seq ?_
    refine sxc_region ?_
    refine sxo_move rfl rfl rfl ?_
    refine sxo_eql rfl rfl rfl rfl ?_
    refine sxo_move rfl rfl rfl ?_
    refine sxo_join 17 (fun ((x28, _) : (Bool × Unit)) => [(1, .int .i64 x5), (2, .int .i64 x6), (3, .pointer (some ⟨g7, 0, none⟩)), (8, .int .i64 x8), (32, .bool x28)]) (fun ((x28, _) : (Bool × Unit)) => [⟨g7, 24, [.int .i64 x1, .slice a3 x2.length c4]⟩]) (fun ((x28, _) : (Bool × Unit)) => []) (fun ((x28, _) : (Bool × Unit)) => [Sl (eI .u8) 1 (.slice a3 x2.length c4) x2]) (fun ((x28, _) : (Bool × Unit)) => M_bits_Get_j3 F x1 x2 x5 x6 x8 x28) ?_ ?_
    · refine sxo_take (os := _) rfl ?_
      refine sxo_if (fun h24 => ?_) (fun h24 => ?_)
      · refine sxo_isT (k := 15) rfl h24 ?_
        refine sxo_move rfl rfl rfl ?_
        refine sxo_lss rfl rfl rfl rfl ?_
        refine sxo_move rfl rfl rfl ?_
        refine sxo_case 3 (decide (x6 < 0)) [(1, .int .i64 x5), (2, .int .i64 x6), (3, .pointer (some ⟨g7, 0, none⟩)), (8, .int .i64 x8), (15, .bool true), (21, .bool ((decide (x6 < 0)) || (decide (64 < x6))))] (fun h30 => ?_) (fun h30 => ?_) ?_
        · refine sxo_take (os := _) rfl ?_
          refine sxo_isT (k := 18) rfl h30 ?_
          refine sxo_skip rfl rfl rfl ?_
          refine sxo_skip rfl rfl rfl ?_
          refine sxo_pick (b := true) rfl rfl rfl rfl ?_
          refine sxo_again (d := 21) (v := .bool ((decide (x6 < 0)) || (decide (64 < x6)))) rfl (by rw [h30]; simp only [Bool.true_or]) ?_
          refine sxo_nil ?_
          exact sxq_case (lk_cons rfl (lk_cons rfl (lk_cons rfl (lk_cons rfl (lk_cons rfl (lk_cons rfl lk_nil))))))
        · refine sxo_take (os := _) rfl ?_
          refine sxo_isF (k := 18) rfl h30 ?_
          refine sxo_move rfl rfl rfl ?_
          refine sxo_gtr rfl rfl rfl rfl ?_
          refine sxo_pick (b := false) rfl rfl rfl rfl ?_
          refine sxo_again (d := 21) (v := .bool ((decide (x6 < 0)) || (decide (64 < x6)))) rfl (by rw [h30]; simp only [Bool.false_or]) ?_
          refine sxo_nil ?_
          exact sxq_case (lk_cons rfl (lk_cons rfl (lk_cons rfl (lk_cons rfl (lk_cons rfl (lk_cons rfl lk_nil))))))
        refine sxo_take (os := _) rfl ?_
        refine sxo_move rfl rfl rfl ?_
        refine sxo_case 3 ((decide (x6 < 0)) || (decide (64 < x6))) [(1, .int .i64 x5), (2, .int .i64 x6), (3, .pointer (some ⟨g7, 0, none⟩)), (8, .int .i64 x8), (15, .bool true), (25, .bool (((decide (x6 < 0)) || (decide (64 < x6))) || (decide (x5 < 0))))] (fun h31 => ?_) (fun h31 => ?_) ?_
        · refine sxo_take (os := _) rfl ?_
          refine sxo_isT (k := 22) rfl h31 ?_
          refine sxo_skip rfl rfl rfl ?_
          refine sxo_skip rfl rfl rfl ?_
          refine sxo_pick (b := true) rfl rfl rfl rfl ?_
          refine sxo_again (d := 25) (v := .bool (((decide (x6 < 0)) || (decide (64 < x6))) || (decide (x5 < 0)))) rfl (by rw [h31]; simp only [Bool.true_or]) ?_
          refine sxo_nil ?_
          exact sxq_case (lk_cons rfl (lk_cons rfl (lk_cons rfl (lk_cons rfl (lk_cons rfl (lk_cons rfl lk_nil))))))
        · refine sxo_take (os := _) rfl ?_
          refine sxo_isF (k := 22) rfl h31 ?_
          refine sxo_move rfl rfl rfl ?_
          refine sxo_lss rfl rfl rfl rfl ?_
          refine sxo_pick (b := false) rfl rfl rfl rfl ?_
          refine sxo_again (d := 25) (v := .bool (((decide (x6 < 0)) || (decide (64 < x6))) || (decide (x5 < 0)))) rfl (by rw [h31]; simp only [Bool.false_or]) ?_
          refine sxo_nil ?_
          exact sxq_case (lk_cons rfl (lk_cons rfl (lk_cons rfl (lk_cons rfl (lk_cons rfl (lk_cons rfl lk_nil))))))
        refine sxo_take (os := _) rfl ?_
        refine sxo_move rfl rfl rfl ?_
        refine sxo_case 5 (((decide (x6 < 0)) || (decide (64 < x6))) || (decide (x5 < 0))) [(1, .int .i64 x5), (2, .int .i64 x6), (3, .pointer (some ⟨g7, 0, none⟩)), (8, .int .i64 x8), (15, .bool true), (31, .bool ((((decide (x6 < 0)) || (decide (64 < x6))) || (decide (x5 < 0))) || (decide (x1 < x5))))] (fun h32 => ?_) (fun h32 => ?_) ?_
        · refine sxo_take (os := _) rfl ?_
          refine sxo_isT (k := 26) rfl h32 ?_
          refine sxo_skip rfl rfl rfl ?_
          refine sxo_skip rfl rfl rfl ?_
          refine sxo_skip rfl rfl rfl ?_
          refine sxo_skip rfl rfl rfl ?_
          refine sxo_pick (b := true) rfl rfl rfl rfl ?_
          refine sxo_again (d := 31) (v := .bool ((((decide (x6 < 0)) || (decide (64 < x6))) || (decide (x5 < 0))) || (decide (x1 < x5)))) rfl (by rw [h32]; simp only [Bool.true_or]) ?_
          refine sxo_nil ?_
          exact sxq_case (lk_cons rfl (lk_cons rfl (lk_cons rfl (lk_cons rfl (lk_cons rfl (lk_cons rfl lk_nil))))))
        · refine sxo_take (os := _) rfl ?_
          refine sxo_isF (k := 26) rfl h32 ?_
          refine sxo_move rfl rfl rfl ?_
          refine sxo_fieldAddr rfl rfl ff24_0 rfl ?_
          refine sxo_loadB (i := 0) rfl rfl tf3 rfl rfl (fun _ => rfl) rfl rfl ?_
          refine sxo_gtr rfl rfl rfl rfl ?_
          refine sxo_pick (b := false) rfl rfl rfl rfl ?_
          refine sxo_again (d := 31) (v := .bool ((((decide (x6 < 0)) || (decide (64 < x6))) || (decide (x5 < 0))) || (decide (x1 < x5)))) rfl (by rw [h32]; simp only [Bool.false_or]) ?_
          refine sxo_nil ?_
          exact sxq_case (lk_cons rfl (lk_cons rfl (lk_cons rfl (lk_cons rfl (lk_cons rfl (lk_cons rfl lk_nil))))))
        refine sxo_take (os := _) rfl ?_
        refine sxo_pick (b := true) rfl rfl rfl rfl ?_
        refine sxo_nil ?_
        exact sxq_meetP (((((decide (x6 < 0)) || (decide (64 < x6))) || (decide (x5 < 0))) || (decide (x1 < x5))), ()) (lk_cons rfl (lk_cons rfl (lk_cons rfl (lk_cons rfl (lk_cons rfl lk_nil))))) (.cons 0 rfl .nil) .nil (fk_cons 0 rfl fk_nil)
      · refine sxo_isF (k := 15) rfl h24 ?_
        refine sxo_skip rfl rfl rfl ?_
        refine sxo_skip rfl rfl rfl ?_
        refine sxo_skip rfl rfl rfl ?_
        refine sxo_skip rfl rfl rfl ?_
        refine sxo_skip rfl rfl rfl ?_
        refine sxo_skip rfl rfl rfl ?_
        refine sxo_skip rfl rfl rfl ?_
        refine sxo_skip rfl rfl rfl ?_
        refine sxo_skip rfl rfl rfl ?_
        refine sxo_skip rfl rfl rfl ?_
        refine sxo_skip rfl rfl rfl ?_
        refine sxo_skip rfl rfl rfl ?_
        refine sxo_skip rfl rfl rfl ?_
        refine sxo_skip rfl rfl rfl ?_
        refine sxo_skip rfl rfl rfl ?_
        refine sxo_skip rfl rfl rfl ?_
        refine sxo_pick (b := false) rfl rfl rfl rfl ?_
        refine sxo_nil ?_
        exact sxq_meetP (false, ()) (lk_cons rfl (lk_cons rfl (lk_cons rfl (lk_cons rfl (lk_cons rfl lk_nil))))) (.cons 0 rfl .nil) .nil (fk_cons 0 rfl fk_nil)
    · rintro ⟨x28, _⟩
      try dsimp only
      refine sxo_take (os := _) rfl ?_
      refine sxo_nil ?_
      refine sxq_next ?_
      refine sxc_if rfl (fun h29 => ?_) (fun h29 => ?_)
      · refine sxc_region ?_
        refine sxo_assign rfl rfl rfl ?_
        refine sxo_nil ?_
        exact sxq_meetP (3, ()) (lk_cons rfl (lk_cons rfl (lk_cons rfl (lk_cons rfl lk_nil)))) (.cons 0 rfl .nil) .nil (fk_cons 0 rfl fk_nil)
      · refine sxc_skip ?_
        exact sxq_meetP (x8, ()) (lk_cons rfl (lk_cons rfl (lk_cons rfl (lk_cons rfl lk_nil)))) (.cons 0 rfl .nil) .nil (fk_cons 0 rfl fk_nil)
  · rintro ⟨x18, _⟩
    try dsimp only
    refine sxc_seq ?_
    refine sxc_seq ?_
    refine sxc_region ?_
    refine sxo_move rfl rfl rfl ?_
    refine sxo_neq rfl rfl rfl rfl ?_
    refine sxo_nil ?_
    refine sxq_next ?_
    refine sxc_if rfl (fun h23 => ?_) (fun h23 => ?_)
    · refine sxc_seq ?_
      refine sxc_region ?_
      refine sxo_move rfl rfl rfl ?_
      refine sxo_assign rfl rfl rfl ?_
      refine sxo_assign rfl rfl rfl ?_
      refine sxo_nil ?_
      refine sxq_next ?_
      refine sxc_ret ?_
      refine sxq_thenR ?_
      exact sxq_doneP () (.inl rfl) (res2 rfl rfl rfl) (fun h => by subst h; rfl) (fun h => by subst h; exact .nil)
    · refine sxc_skip ?_
      refine sxq_next ?_
      refine sxc_seq ?_
      refine sxc_region ?_
      refine sxo_loadB (i := 0) rfl rfl tf24 rfl rfl (by simp) rfl rfl ?_
      refine sxo_move rfl rfl rfl ?_
      refine sxo_move rfl rfl rfl ?_
      refine sxo_call ent59 rfl rfl rfl (fun x20 e20 => C_bits_Read F x1 x2 a3 c4 x5 x6 x20 e20) (.consF 0 rfl .nil) (fun x20 e20 => ?_)
      intro _
      refine sxo_move rfl rfl rfl ?_
      refine sxo_extract rfl rfl rfl rfl ?_
      refine sxo_extract rfl rfl rfl rfl ?_
      refine sxo_assign rfl rfl rfl ?_
      refine sxo_assign rfl rfl rfl ?_
      refine sxo_nil ?_
      refine sxq_next ?_
      refine sxc_seq ?_
      refine sxc_seq ?_
      refine sxc_region ?_
      refine sxo_move rfl rfl rfl ?_
      refine sxo_not rfl rfl rfl ?_
      refine sxo_nil ?_
      refine sxq_next ?_
      refine sxc_if rfl (fun h22 => ?_) (fun h22 => ?_)
      · refine sxc_seq ?_
        refine sxc_region ?_
        refine sxo_assign rfl rfl rfl ?_
        refine sxo_assign rfl rfl rfl ?_
        refine sxo_nil ?_
        refine sxq_next ?_
        refine sxc_ret ?_
        refine sxq_thenR ?_
        exact sxq_doneP () (.inl rfl) (res2 rfl rfl rfl) (fun h => by subst h; rfl) (fun h => by subst h; exact .nil)
      · refine sxc_skip ?_
        refine sxq_next ?_
        refine sxc_seq ?_
        refine sxc_region ?_
        refine sxo_move rfl rfl rfl ?_
        refine sxo_assign rfl rfl rfl ?_
        refine sxo_assign rfl rfl rfl ?_
        refine sxo_nil ?_
        refine sxq_next ?_
        refine sxc_ret ?_
        exact sxq_doneP () (.inl rfl) (res2 rfl rfl rfl) (fun h => by subst h; rfl) (fun h => by subst h; exact .nil)

theorem C_bits_Put (F : Nat) (x1 : Int) (x2 : List Int) (a3 : Option Addr) (c4 : Nat) (x5 : Int) (x6 : Int) (r : (Int × List Int × Int)) (hm : M_bits_Put F x1 x2 x5 x6 = some r) :
    Pure Try.prog 56 [.agg #[.int .i64 x1, .slice a3 x2.length c4], .int .u64 x5, .int .i64 x6] [Sl (eI .u8) 1 (.slice a3 x2.length c4) x2] (Option Addr × Nat) (fun g => .tuple #[.agg #[.int .i64 r.1, .slice g.1 r.2.1.length g.2], .int .i64 r.2.2]) (fun g => [Ro (eI .u8) 5 1 (.slice g.1 r.2.1.length g.2) r.2.1]) (fun _ => []) := by
  refine pure_of Try.func56 rfl Try.ntmps56 rfl hm (fun w => ?_)
  refine sxc_env (l' := [(0, .agg #[.int .i64 x1, .slice a3 x2.length c4]), (1, .int .u64 x5), (2, .int .i64 x6)]) rfl ?_
  refine sxc_seq ?_
  refine sxc_region ?_
  refine sxo_box rfl rfl rfl (fun g7 => ?_)
  refine sxo_alloc rfl tf24 rfl (fun g8 => ?_)
  refine sxo_assign rfl rfl rfl ?_
  refine sxo_nil ?_
  refine sxq_next ?_
  refine sxc_seq ?_
  refine sxc_region ?_
  refine sxo_loadB (i := 1) rfl rfl tf24 rfl rfl (by simp) rfl rfl ?_
  refine sxo_call ent42 rfl rfl rfl (fun x9 e9 => C_bits_Check F x1 x2 a3 c4 x9 e9) (.consF 0 rfl .nil) (fun x9 e9 => ?_)
  intro _
  refine sxo_assign rfl rfl rfl ?_
  refine sxo_nil ?_
  refine sxq_next ?_
  refine sxc_join (fun ((x24, _) : (Int × Unit)) => [(1, .int .u64 x5), (2, .int .i64 x6), (3, .pointer (some ⟨g7, 0, none⟩)), (6, .pointer (some ⟨g8, 0, none⟩)), (8, .int .i64 x24)]) (fun ((x24, _) : (Int × Unit)) => [⟨g8, 24, [.int .i64 0, .slice none 0 0]⟩, ⟨g7, 24, [.int .i64 x1, .slice a3 x2.length c4]⟩]) (fun ((x24, _) : (Int × Unit)) => []) (fun ((x24, _) : (Int × Unit)) => [Sl (eI .u8) 1 (.slice a3 x2.length c4) x2]) (fun ((x24, _) : (Int × Unit)) => M_bits_Put_j4 F x1 x2 x5 x6 x24) ?_ ?_
  · refine sxc_block ?_
    refine sxc_seq ?_
    refine sxc_region ?_
    refine sxo_move rfl rfl rfl ?_
    refine sxo_neq rfl rfl rfl rfl ?_
    refine sxo_assign rfl rfl rfl ?_
    refine sxo_nil ?_
    refine sxq_next ?_
    refine sxc_if rfl (fun h43 => ?_) (fun h43 => ?_)
    · refine sxc_skip ?_
      refine sxq_blkN ?_
      exact sxq_meetP (x9, ()) (lk_cons rfl (lk_cons rfl (lk_cons rfl (lk_cons rfl (lk_cons rfl lk_nil))))) (.cons 0 rfl (.cons 0 rfl .nil)) .nil (fk_cons 0 rfl fk_nil)
    · refine sxc_seq ?_
      refine sxc_region ?_
      refine sxo_move rfl rfl rfl ?_
      refine sxo_lss rfl rfl rfl rfl ?_
      refine sxo_move rfl rfl rfl ?_
      refine sxo_case 3 (decide (x6 < 0)) [(1, .int .u64 x5), (2, .int .i64 x6), (3, .pointer (some ⟨g7, 0, none⟩)), (6, .pointer (some ⟨g8, 0, none⟩)), (8, .int .i64 x9), (20, .bool ((decide (x6 < 0)) || (decide (64 < x6))))] (fun h30 => ?_) (fun h30 => ?_) ?_
      · refine sxo_take (os := _) rfl ?_
        refine sxo_isT (k := 17) rfl h30 ?_
        refine sxo_skip rfl rfl rfl ?_
        refine sxo_skip rfl rfl rfl ?_
        refine sxo_pick (b := true) rfl rfl rfl rfl ?_
        refine sxo_again (d := 20) (v := .bool ((decide (x6 < 0)) || (decide (64 < x6)))) rfl (by rw [h30]; simp only [Bool.true_or]) ?_
        refine sxo_nil ?_
        exact sxq_case (lk_cons rfl (lk_cons rfl (lk_cons rfl (lk_cons rfl (lk_cons rfl (lk_cons rfl lk_nil))))))
      · refine sxo_take (os := _) rfl ?_
        refine sxo_isF (k := 17) rfl h30 ?_
        refine sxo_move rfl rfl rfl ?_
        refine sxo_gtr rfl rfl rfl rfl ?_
        refine sxo_pick (b := false) rfl rfl rfl rfl ?_
        refine sxo_again (d := 20) (v := .bool ((decide (x6 < 0)) || (decide (64 < x6)))) rfl (by rw [h30]; simp only [Bool.false_or]) ?_
        refine sxo_nil ?_
        exact sxq_case (lk_cons rfl (lk_cons rfl (lk_cons rfl (lk_cons rfl (lk_cons rfl (lk_cons rfl lk_nil))))))
      refine sxo_take (os := _) rfl ?_
      refine sxo_move rfl rfl rfl ?_
      refine sxo_join 9 (fun ((x36, _) : (Bool × Unit)) => [(1, .int .u64 x5), (2, .int .i64 x6), (3, .pointer (some ⟨g7, 0, none⟩)), (6, .pointer (some ⟨g8, 0, none⟩)), (8, .int .i64 x9), (30, .bool x36)]) (fun ((x36, _) : (Bool × Unit)) => [⟨g8, 24, [.int .i64 0, .slice none 0 0]⟩, ⟨g7, 24, [.int .i64 x1, .slice a3 x2.length c4]⟩]) (fun ((x36, _) : (Bool × Unit)) => []) (fun ((x36, _) : (Bool × Unit)) => [Sl (eI .u8) 1 (.slice a3 x2.length c4) x2]) (fun ((x36, _) : (Bool × Unit)) => M_bits_Put_j6 F x1 x2 x5 x6 x9 x36) ?_ ?_
      · refine sxo_take (os := _) rfl ?_
        refine sxo_if (fun h31 => ?_) (fun h31 => ?_)
        · refine sxo_isT (k := 21) rfl h31 ?_
          refine sxo_skip rfl rfl rfl ?_
          refine sxo_skip rfl rfl rfl ?_
          refine sxo_skip rfl rfl rfl ?_
          refine sxo_skip rfl rfl rfl ?_
          refine sxo_skip rfl rfl rfl ?_
          refine sxo_skip rfl rfl rfl ?_
          refine sxo_skip rfl rfl rfl ?_
          refine sxo_skip rfl rfl rfl ?_
          refine sxo_pick (b := true) rfl rfl rfl rfl ?_
          refine sxo_nil ?_
          exact sxq_meetP (true, ()) (lk_cons rfl (lk_cons rfl (lk_cons rfl (lk_cons rfl (lk_cons rfl (lk_cons rfl lk_nil)))))) (.cons 0 rfl (.cons 0 rfl .nil)) .nil (fk_cons 0 rfl fk_nil)
        · refine sxo_isF (k := 21) rfl h31 ?_
          refine sxo_move rfl rfl rfl ?_
          refine sxo_lss rfl rfl rfl rfl ?_
          refine sxo_move rfl rfl rfl ?_
          refine sxo_join 5 (fun ((x41, _) : (Bool × Unit)) => [(1, .int .u64 x5), (2, .int .i64 x6), (3, .pointer (some ⟨g7, 0, none⟩)), (6, .pointer (some ⟨g8, 0, none⟩)), (8, .int .i64 x9), (21, .bool false), (29, .bool x41)]) (fun ((x41, _) : (Bool × Unit)) => [⟨g8, 24, [.int .i64 0, .slice none 0 0]⟩, ⟨g7, 24, [.int .i64 x1, .slice a3 x2.length c4]⟩]) (fun ((x41, _) : (Bool × Unit)) => []) (fun ((x41, _) : (Bool × Unit)) => [Sl (eI .u8) 1 (.slice a3 x2.length c4) x2]) (fun ((x41, _) : (Bool × Unit)) => M_bits_Put_j7 F x1 x2 x5 x6 x9 x41) ?_ ?_
          · refine sxo_take (os := _) rfl ?_
            refine sxo_if (fun h39 => ?_) (fun h39 => ?_)
            · refine sxo_isT (k := 24) rfl h39 ?_
              refine sxo_move rfl rfl rfl ?_
              refine sxo_move rfl rfl rfl ?_
              refine sxo_chk (fun h42 => ?_)
              refine sxo_shr rfl rfl rfl rfl h42 ?_
              refine sxo_neq rfl rfl rfl rfl ?_
              refine sxo_pick (b := true) rfl rfl rfl rfl ?_
              refine sxo_nil ?_
              exact sxq_meetP ((((ishr .u64 x5 x6) : Int) != 0), ()) (lk_cons rfl (lk_cons rfl (lk_cons rfl (lk_cons rfl (lk_cons rfl (lk_cons rfl (lk_cons rfl lk_nil))))))) (.cons 0 rfl (.cons 0 rfl .nil)) .nil (fk_cons 0 rfl fk_nil)
            · refine sxo_isF (k := 24) rfl h39 ?_
              refine sxo_skip rfl rfl rfl ?_
              refine sxo_skip rfl rfl rfl ?_
              refine sxo_skip rfl rfl rfl ?_
              refine sxo_skip rfl rfl rfl ?_
              refine sxo_pick (b := false) rfl rfl rfl rfl ?_
              refine sxo_nil ?_
              exact sxq_meetP (false, ()) (lk_cons rfl (lk_cons rfl (lk_cons rfl (lk_cons rfl (lk_cons rfl (lk_cons rfl (lk_cons rfl lk_nil))))))) (.cons 0 rfl (.cons 0 rfl .nil)) .nil (fk_cons 0 rfl fk_nil)
          · rintro ⟨x41, _⟩
            try dsimp only
            refine sxo_take (os := _) rfl ?_
            refine sxo_pick (b := false) rfl rfl rfl rfl ?_
            refine sxo_nil ?_
            exact sxq_meetP (x41, ()) (lk_cons rfl (lk_cons rfl (lk_cons rfl (lk_cons rfl (lk_cons rfl (lk_cons rfl lk_nil)))))) (.cons 0 rfl (.cons 0 rfl .nil)) .nil (fk_cons 0 rfl fk_nil)
      · rintro ⟨x36, _⟩
        try dsimp only
        refine sxo_take (os := _) rfl ?_
        refine sxo_assign rfl rfl rfl ?_
        refine sxo_nil ?_
        refine sxq_next ?_
        refine sxc_if rfl (fun h38 => ?_) (fun h38 => ?_)
        · refine sxc_region ?_
          refine sxo_assign rfl rfl rfl ?_
          refine sxo_nil ?_
          refine sxq_blkN ?_
          exact sxq_meetP (3, ()) (lk_cons rfl (lk_cons rfl (lk_cons rfl (lk_cons rfl (lk_cons rfl lk_nil))))) (.cons 0 rfl (.cons 0 rfl .nil)) .nil (fk_cons 0 rfl fk_nil)
        · refine sxc_seq ?_
          refine sxc_region ?_
          refine sxo_fieldAddr rfl rfl ff24_0 rfl ?_
          refine sxo_loadB (i := 1) rfl rfl tf3 rfl rfl (fun _ => rfl) rfl rfl ?_
          refine sxo_move rfl rfl rfl ?_
          refine sxo_add rfl rfl rfl rfl ?_
          refine sxo_gtr rfl rfl rfl rfl ?_
          refine sxo_assign rfl rfl rfl ?_
          refine sxo_nil ?_
          refine sxq_next ?_
          refine sxc_if rfl (fun h37 => ?_) (fun h37 => ?_)
          · refine sxc_region ?_
            refine sxo_assign rfl rfl rfl ?_
            refine sxo_nil ?_
            refine sxq_blkN ?_
            exact sxq_meetP (8, ()) (lk_cons rfl (lk_cons rfl (lk_cons rfl (lk_cons rfl (lk_cons rfl lk_nil))))) (.cons 0 rfl (.cons 0 rfl .nil)) .nil (fk_cons 0 rfl fk_nil)
          · refine sxc_skip ?_
            refine sxq_blkN ?_
            exact sxq_meetP (x9, ()) (lk_cons rfl (lk_cons rfl (lk_cons rfl (lk_cons rfl (lk_cons rfl lk_nil))))) (.cons 0 rfl (.cons 0 rfl .nil)) .nil (fk_cons 0 rfl fk_nil)
  · rintro ⟨x24, _⟩
    try dsimp only
    refine sxc_seq ?_
    refine sxc_seq ?_
    refine sxc_region ?_
    refine sxo_move rfl rfl rfl ?_
    refine sxo_neq rfl rfl rfl rfl ?_
    refine sxo_nil ?_
    refine sxq_next ?_
    refine sxc_if rfl (fun h29 => ?_) (fun h29 => ?_)
    · refine sxc_seq ?_
      refine sxc_region ?_
      refine sxo_build (cells := [.int .i64 0, .slice none 0 0]) rfl st24 rfl (by kernel_rfl) rfl ?_
      refine sxo_move rfl rfl rfl ?_
      refine sxo_storeB (i := 0) rfl rfl rfl tf24 rfl rfl rfl rfl rfl ?_
      refine sxo_assign rfl rfl rfl ?_
      refine sxo_nil ?_
      refine sxq_next ?_
      refine sxc_ret ?_
      refine sxq_thenR ?_
      refine sxq_nilrow Int (eI .u8) 5 1 ?_
      exact sxq_doneP (none, 0) (.inl rfl) (resL (rs := [.cell 6 24, .tmp 7]) rfl (.cell (i := 0) rfl tf24 rfl rfl (by simp) rfl (.tmp rfl ResOk.nil)) rfl) (fun h => by subst h; rfl) (fun h => by subst h; exact (.cons 0 rfl .nil))
    · refine sxc_skip ?_
      refine sxq_next ?_
      refine sxc_seq ?_
      refine sxc_region ?_
      refine sxo_loadB (i := 1) rfl rfl tf24 rfl rfl (by simp) rfl rfl ?_
      refine sxo_move rfl rfl rfl ?_
      refine sxo_move rfl rfl rfl ?_
      refine sxo_call ent62 rfl rfl rfl (fun x26 e26 => C_bits_Add F x1 x2 a3 c4 x5 x6 x26 e26) (.consF 0 rfl .nil) (fun x26 e26 => ?_)
      rintro ⟨a27, c28⟩
      refine sxo_storeB (i := 0) rfl rfl rfl tf24 rfl rfl rfl rfl rfl ?_
      refine sxo_assign rfl rfl rfl ?_
      refine sxo_nil ?_
      refine sxq_next ?_
      refine sxc_ret ?_
      exact sxq_doneP (a27, c28) (.inl rfl) (resL (rs := [.cell 6 24, .tmp 7]) rfl (.cell (i := 0) rfl tf24 rfl rfl (by simp) rfl (.tmp rfl ResOk.nil)) rfl) (fun h => by subst h; rfl) (fun h => by subst h; exact (.cons 0 rfl .nil))

set_option maxHeartbeats 4000000 in
theorem C_L_bitsBegun (F : Nat)  (r : Bool) (hm : M_L_bitsBegun F  = some r) :
    Pure Try.prog 38 [] [] Unit (fun _ => .bool r) (fun _ => []) (fun _ => []) := by
  refine pure_of Try.func38 rfl Try.ntmps38 rfl hm (fun w => ?_)
  refine sxc_env (l' := []) rfl ?_
  refine sxc_seq ?_
  refine sxc_region ?_
  refine sxo_assign rfl rfl rfl ?_
  refine sxo_nil ?_
  refine sxq_next ?_
  refine sxc_seq ?_
  refine sxc_region ?_
  refine sxo_build (cells := [.int .i64 0, .slice none 0 0]) rfl st24 rfl (by kernel_rfl) rfl ?_
  refine sxo_nilrow' Int (eI .u8) 5 1 ?_
  refine sxo_call ent56 rfl rfl rfl (fun x1 e1 => C_bits_Put F 0 ([] : List Int) none 0 5 3 x1 e1) (.consR 0 (Ro (eI .u8) 5 1 (.slice none ([] : List Int).length 0) ([] : List Int)) rfl .nil) (fun x1 e1 => ?_)
  rintro ⟨a2, c3⟩
  refine sxo_move rfl rfl rfl ?_
  refine sxo_extract rfl rfl rfl rfl ?_
  refine sxo_extract rfl rfl rfl rfl ?_
  refine sxo_alloc rfl tf24 rfl (fun g4 => ?_)
  refine sxo_storeB (i := 0) rfl rfl rfl tf24 rfl rfl rfl rfl rfl ?_
  refine sxo_assign rfl rfl rfl ?_
  refine sxo_nil ?_
  refine sxq_next ?_
  refine sxc_seq ?_
  refine sxc_region ?_
  refine sxo_loadB (i := 0) rfl rfl tf24 rfl rfl (by simp) rfl rfl ?_
  refine sxo_call ent56 rfl rfl rfl (fun x5 e5 => C_bits_Put F x1.1 x1.2.1 a2 c3 9 7 x5 e5) (.consR 0 (Ro (eI .u8) 5 1 (.slice a2 x1.2.1.length c3) x1.2.1) rfl .nil) (fun x5 e5 => ?_)
  rintro ⟨a6, c7⟩
  refine sxo_move rfl rfl rfl ?_
  refine sxo_extract rfl rfl rfl rfl ?_
  refine sxo_extract rfl rfl rfl rfl ?_
  refine sxo_alloc rfl tf24 rfl (fun g8 => ?_)
  refine sxo_storeB (i := 0) rfl rfl rfl tf24 rfl rfl rfl rfl rfl ?_
  refine sxo_assign rfl rfl rfl ?_
  refine sxo_nil ?_
  refine sxq_next ?_
  refine sxc_seq ?_
  refine sxc_region ?_
  refine sxo_loadB (i := 0) rfl rfl tf24 rfl rfl (by simp) rfl rfl ?_
  refine sxo_call ent41 rfl rfl rfl (fun x9 e9 => C_bits_Get F x5.1 x5.2.1 a6 c7 3 7 x9 e9) (.consR 0 (Ro (eI .u8) 5 1 (.slice a6 x5.2.1.length c7) x5.2.1) rfl .nil) (fun x9 e9 => ?_)
  intro _
  refine sxo_move rfl rfl rfl ?_
  refine sxo_extract rfl rfl rfl rfl ?_
  refine sxo_extract rfl rfl rfl rfl ?_
  refine sxo_assign rfl rfl rfl ?_
  refine sxo_assign rfl rfl rfl ?_
  refine sxo_nil ?_
  refine sxq_next ?_
  refine sxc_seq ?_
  refine sxc_region ?_
  refine sxo_loadB (i := 1) rfl rfl tf24 rfl rfl (by simp) rfl rfl ?_
  refine sxo_loadB (i := 0) rfl rfl tf24 rfl rfl (by simp) rfl rfl ?_
  refine sxo_call ent40 rfl rfl rfl (fun x10 e10 => C_bits_Join F x1.1 x1.2.1 a2 c3 x5.1 x5.2.1 a6 c7 x10 e10) (.consR 1 (Ro (eI .u8) 5 1 (.slice a2 x1.2.1.length c3) x1.2.1) rfl (.consR 0 (Ro (eI .u8) 5 1 (.slice a6 x5.2.1.length c7) x5.2.1) rfl .nil)) (fun x10 e10 => ?_)
  rintro ⟨a11, c12⟩
  refine sxo_move rfl rfl rfl ?_
  refine sxo_extract rfl rfl rfl rfl ?_
  refine sxo_extract rfl rfl rfl rfl ?_
  refine sxo_alloc rfl tf24 rfl (fun g13 => ?_)
  refine sxo_storeB (i := 0) rfl rfl rfl tf24 rfl rfl rfl rfl rfl ?_
  refine sxo_assign rfl rfl rfl ?_
  refine sxo_nil ?_
  refine sxq_next ?_
  refine sxc_seq ?_
  refine sxc_region ?_
  refine sxo_loadB (i := 1) rfl rfl tf24 rfl rfl (by simp) rfl rfl ?_
  refine sxo_callM ent39 rfl rfl rfl (fun x14 e14 => C_bits_Cut F x5.1 x5.2.1 a6 c7 0 3 x14 e14) .nil .nil (.consR 1 (Ro (eI .u8) 5 1 (.slice a6 x5.2.1.length c7) x5.2.1) rfl .nil) (fun x14 e14 => ?_)
  rintro ⟨a15, c16⟩
  refine sxo_move rfl rfl rfl ?_
  refine sxo_extract rfl rfl rfl rfl ?_
  refine sxo_extract rfl rfl rfl rfl ?_
  refine sxo_alloc rfl tf24 rfl (fun g17 => ?_)
  refine sxo_storeB (i := 0) rfl rfl rfl tf24 rfl rfl rfl rfl rfl ?_
  refine sxo_assign rfl rfl rfl ?_
  refine sxo_nil ?_
  refine sxq_next ?_
  refine sxc_seq ?_
  refine sxc_region ?_
  refine sxo_loadB (i := 2) rfl rfl tf24 rfl rfl (by simp) rfl rfl ?_
  refine sxo_call ent41 rfl rfl rfl (fun x18 e18 => C_bits_Get F x5.1 x5.2.1 a6 c7 9 2 x18 e18) (.consR 2 (Ro (eI .u8) 5 1 (.slice a6 x5.2.1.length c7) x5.2.1) rfl .nil) (fun x18 e18 => ?_)
  intro _
  refine sxo_move rfl rfl rfl ?_
  refine sxo_extract rfl rfl rfl rfl ?_
  refine sxo_extract rfl rfl rfl rfl ?_
  refine sxo_assign rfl rfl rfl ?_
  refine sxo_assign rfl rfl rfl ?_
  refine sxo_nil ?_
  refine sxq_next ?_
  refine sxc_seq ?_
  refine sxc_region ?_
  refine sxo_loadB (i := 3) rfl rfl tf24 rfl rfl (by simp) rfl rfl ?_
  refine sxo_slit (vs := [.int .u8 160]) (ys := ([160] : List Int)) (eI_ok .u8) (by decide) rfl Try.underlying22 tf5 rfl rfl rfl rfl rfl (by decide) (fun a19 c20 => ?_)
  refine sxo_build (cells := [.int .i64 3, .slice a19 ([160] : List Int).length c20]) rfl st24 rfl (by kernel_rfl) rfl ?_
  refine sxo_call ent36 rfl rfl rfl (fun x21 e21 => C_R_SameBits F x1.1 x1.2.1 a2 c3 3 ([160] : List Int) a19 c20 x21 e21) (.consR 4 (Ro (eI .u8) 5 1 (.slice a2 x1.2.1.length c3) x1.2.1) rfl (.consR 0 (Ro (eI .u8) 5 1 (.slice a19 ([160] : List Int).length c20) ([160] : List Int)) rfl .nil)) (fun x21 e21 => ?_)
  intro _
  refine sxo_move rfl rfl rfl ?_
  refine sxo_case 3 x21 [(1, .pointer (some ⟨g4, 0, none⟩)), (3, .pointer (some ⟨g8, 0, none⟩)), (4, .int .i64 x5.2.2), (5, .int .u64 x9.1), (6, .int .i64 x9.2), (7, .pointer (some ⟨g13, 0, none⟩)), (8, .int .i64 x10.2.2), (9, .pointer (some ⟨g17, 0, none⟩)), (10, .int .i64 x14.2.2), (12, .int .i64 x18.2), (51, .bool (x21 && ((x1.2.2 : Int) == 0)))] (fun h22 => ?_) (fun h22 => ?_) ?_
  · refine sxo_take (os := _) rfl ?_
    refine sxo_isT (k := 48) rfl h22 ?_
    refine sxo_move rfl rfl rfl ?_
    refine sxo_eql rfl rfl rfl rfl ?_
    refine sxo_pick (b := true) rfl rfl rfl rfl ?_
    refine sxo_again (d := 51) (v := .bool (x21 && ((x1.2.2 : Int) == 0))) rfl (by rw [h22]; simp only [Bool.true_and]) ?_
    refine sxo_nil ?_
    exact sxq_case (lk_cons rfl (lk_cons rfl (lk_cons rfl (lk_cons rfl (lk_cons rfl (lk_cons rfl (lk_cons rfl (lk_cons rfl (lk_cons rfl (lk_cons rfl (lk_cons rfl lk_nil)))))))))))
  · refine sxo_take (os := _) rfl ?_
    refine sxo_isF (k := 48) rfl h22 ?_
    refine sxo_skip rfl rfl rfl ?_
    refine sxo_skip rfl rfl rfl ?_
    refine sxo_pick (b := false) rfl rfl rfl rfl ?_
    refine sxo_again (d := 51) (v := .bool (x21 && ((x1.2.2 : Int) == 0))) rfl (by rw [h22]; simp only [Bool.false_and]) ?_
    refine sxo_nil ?_
    exact sxq_case (lk_cons rfl (lk_cons rfl (lk_cons rfl (lk_cons rfl (lk_cons rfl (lk_cons rfl (lk_cons rfl (lk_cons rfl (lk_cons rfl (lk_cons rfl (lk_cons rfl lk_nil)))))))))))
  refine sxo_take (os := _) rfl ?_
  refine sxo_move rfl rfl rfl ?_
  refine sxo_join 5 (fun ((x27, _) : (Bool × Unit)) => [(1, .pointer (some ⟨g4, 0, none⟩)), (4, .int .i64 x5.2.2), (5, .int .u64 x9.1), (6, .int .i64 x9.2), (7, .pointer (some ⟨g13, 0, none⟩)), (8, .int .i64 x10.2.2), (9, .pointer (some ⟨g17, 0, none⟩)), (10, .int .i64 x14.2.2), (12, .int .i64 x18.2), (57, .bool x27)]) (fun ((x27, _) : (Bool × Unit)) => [⟨g17, 24, [.int .i64 x14.1, .slice a15 x14.2.1.length c16]⟩, ⟨g13, 24, [.int .i64 x10.1, .slice a11 x10.2.1.length c12]⟩, ⟨g4, 24, [.int .i64 x1.1, .slice a2 x1.2.1.length c3]⟩]) (fun ((x27, _) : (Bool × Unit)) => [Ro (eI .u8) 5 1 (.slice a15 x14.2.1.length c16) x14.2.1, Ro (eI .u8) 5 1 (.slice a11 x10.2.1.length c12) x10.2.1, Ro (eI .u8) 5 1 (.slice a2 x1.2.1.length c3) x1.2.1]) (fun ((x27, _) : (Bool × Unit)) => []) (fun ((x27, _) : (Bool × Unit)) => M_L_bitsBegun_j1 F x1 x5 x9 x10 x14 x18 x27) ?_ ?_
  · refine sxo_take (os := _) rfl ?_
    refine sxo_if (fun h23 => ?_) (fun h23 => ?_)
    · refine sxo_isT (k := 52) rfl h23 ?_
      refine sxo_loadB (i := 2) rfl rfl tf24 rfl rfl (by simp) rfl rfl ?_
      refine sxo_slit (vs := [.int .u8 162, .int .u8 64]) (ys := ([162, 64] : List Int)) (eI_ok .u8) (by decide) rfl Try.underlying22 tf5 rfl rfl rfl rfl rfl (by decide) (fun a47 c48 => ?_)
      refine sxo_build (cells := [.int .i64 10, .slice a47 ([162, 64] : List Int).length c48]) rfl st24 rfl (by kernel_rfl) rfl ?_
      refine sxo_call ent36 rfl rfl rfl (fun x49 e49 => C_R_SameBits F x5.1 x5.2.1 a6 c7 10 ([162, 64] : List Int) a47 c48 x49 e49) (.consR 4 (Ro (eI .u8) 5 1 (.slice a6 x5.2.1.length c7) x5.2.1) rfl (.consR 0 (Ro (eI .u8) 5 1 (.slice a47 ([162, 64] : List Int).length c48) ([162, 64] : List Int)) rfl .nil)) (fun x49 e49 => ?_)
      intro _
      refine sxo_pick (b := true) rfl rfl rfl rfl ?_
      refine sxo_nil ?_
      exact sxq_meetP (x49, ()) (lk_cons rfl (lk_cons rfl (lk_cons rfl (lk_cons rfl (lk_cons rfl (lk_cons rfl (lk_cons rfl (lk_cons rfl (lk_cons rfl (lk_cons rfl lk_nil)))))))))) (.cons 0 rfl (.cons 0 rfl (.cons 1 rfl .nil))) (.cons 2 rfl (.cons 2 rfl (.cons 3 rfl .nil))) fk_nil
    · refine sxo_isF (k := 52) rfl h23 ?_
      refine sxo_skip rfl rfl rfl ?_
      refine sxo_skip rfl rfl rfl ?_
      refine sxo_skip rfl rfl rfl ?_
      refine sxo_skip rfl rfl rfl ?_
      refine sxo_pick (b := false) rfl rfl rfl rfl ?_
      refine sxo_nil ?_
      exact sxq_meetP (false, ()) (lk_cons rfl (lk_cons rfl (lk_cons rfl (lk_cons rfl (lk_cons rfl (lk_cons rfl (lk_cons rfl (lk_cons rfl (lk_cons rfl (lk_cons rfl lk_nil)))))))))) (.cons 0 rfl (.cons 0 rfl (.cons 1 rfl .nil))) (.cons 1 rfl (.cons 1 rfl (.cons 2 rfl .nil))) fk_nil
  · rintro ⟨x27, _⟩
    try dsimp only
    refine sxo_take (os := _) rfl ?_
    refine sxo_move rfl rfl rfl ?_
    refine sxo_case 3 x27 [(1, .pointer (some ⟨g4, 0, none⟩)), (5, .int .u64 x9.1), (6, .int .i64 x9.2), (7, .pointer (some ⟨g13, 0, none⟩)), (8, .int .i64 x10.2.2), (9, .pointer (some ⟨g17, 0, none⟩)), (10, .int .i64 x14.2.2), (12, .int .i64 x18.2), (61, .bool (x27 && ((x5.2.2 : Int) == 0)))] (fun h28 => ?_) (fun h28 => ?_) ?_
    · refine sxo_take (os := _) rfl ?_
      refine sxo_isT (k := 58) rfl h28 ?_
      refine sxo_move rfl rfl rfl ?_
      refine sxo_eql rfl rfl rfl rfl ?_
      refine sxo_pick (b := true) rfl rfl rfl rfl ?_
      refine sxo_again (d := 61) (v := .bool (x27 && ((x5.2.2 : Int) == 0))) rfl (by rw [h28]; simp only [Bool.true_and]) ?_
      refine sxo_nil ?_
      exact sxq_case (lk_cons rfl (lk_cons rfl (lk_cons rfl (lk_cons rfl (lk_cons rfl (lk_cons rfl (lk_cons rfl (lk_cons rfl (lk_cons rfl lk_nil)))))))))
    · refine sxo_take (os := _) rfl ?_
      refine sxo_isF (k := 58) rfl h28 ?_
      refine sxo_skip rfl rfl rfl ?_
      refine sxo_skip rfl rfl rfl ?_
      refine sxo_pick (b := false) rfl rfl rfl rfl ?_
      refine sxo_again (d := 61) (v := .bool (x27 && ((x5.2.2 : Int) == 0))) rfl (by rw [h28]; simp only [Bool.false_and]) ?_
      refine sxo_nil ?_
      exact sxq_case (lk_cons rfl (lk_cons rfl (lk_cons rfl (lk_cons rfl (lk_cons rfl (lk_cons rfl (lk_cons rfl (lk_cons rfl (lk_cons rfl lk_nil)))))))))
    refine sxo_take (os := _) rfl ?_
    refine sxo_move rfl rfl rfl ?_
    refine sxo_case 3 (x27 && ((x5.2.2 : Int) == 0)) [(1, .pointer (some ⟨g4, 0, none⟩)), (6, .int .i64 x9.2), (7, .pointer (some ⟨g13, 0, none⟩)), (8, .int .i64 x10.2.2), (9, .pointer (some ⟨g17, 0, none⟩)), (10, .int .i64 x14.2.2), (12, .int .i64 x18.2), (65, .bool ((x27 && ((x5.2.2 : Int) == 0)) && ((x9.1 : Int) == 9)))] (fun h29 => ?_) (fun h29 => ?_) ?_
    · refine sxo_take (os := _) rfl ?_
      refine sxo_isT (k := 62) rfl h29 ?_
      refine sxo_move rfl rfl rfl ?_
      refine sxo_eql rfl rfl rfl rfl ?_
      refine sxo_pick (b := true) rfl rfl rfl rfl ?_
      refine sxo_again (d := 65) (v := .bool ((x27 && ((x5.2.2 : Int) == 0)) && ((x9.1 : Int) == 9))) rfl (by rw [h29]; simp only [Bool.true_and]) ?_
      refine sxo_nil ?_
      exact sxq_case (lk_cons rfl (lk_cons rfl (lk_cons rfl (lk_cons rfl (lk_cons rfl (lk_cons rfl (lk_cons rfl (lk_cons rfl lk_nil))))))))
    · refine sxo_take (os := _) rfl ?_
      refine sxo_isF (k := 62) rfl h29 ?_
      refine sxo_skip rfl rfl rfl ?_
      refine sxo_skip rfl rfl rfl ?_
      refine sxo_pick (b := false) rfl rfl rfl rfl ?_
      refine sxo_again (d := 65) (v := .bool ((x27 && ((x5.2.2 : Int) == 0)) && ((x9.1 : Int) == 9))) rfl (by rw [h29]; simp only [Bool.false_and]) ?_
      refine sxo_nil ?_
      exact sxq_case (lk_cons rfl (lk_cons rfl (lk_cons rfl (lk_cons rfl (lk_cons rfl (lk_cons rfl (lk_cons rfl (lk_cons rfl lk_nil))))))))
    refine sxo_take (os := _) rfl ?_
    refine sxo_move rfl rfl rfl ?_
    refine sxo_case 3 ((x27 && ((x5.2.2 : Int) == 0)) && ((x9.1 : Int) == 9)) [(1, .pointer (some ⟨g4, 0, none⟩)), (7, .pointer (some ⟨g13, 0, none⟩)), (8, .int .i64 x10.2.2), (9, .pointer (some ⟨g17, 0, none⟩)), (10, .int .i64 x14.2.2), (12, .int .i64 x18.2), (69, .bool (((x27 && ((x5.2.2 : Int) == 0)) && ((x9.1 : Int) == 9)) && ((x9.2 : Int) == 0)))] (fun h30 => ?_) (fun h30 => ?_) ?_
    · refine sxo_take (os := _) rfl ?_
      refine sxo_isT (k := 66) rfl h30 ?_
      refine sxo_move rfl rfl rfl ?_
      refine sxo_eql rfl rfl rfl rfl ?_
      refine sxo_pick (b := true) rfl rfl rfl rfl ?_
      refine sxo_again (d := 69) (v := .bool (((x27 && ((x5.2.2 : Int) == 0)) && ((x9.1 : Int) == 9)) && ((x9.2 : Int) == 0))) rfl (by rw [h30]; simp only [Bool.true_and]) ?_
      refine sxo_nil ?_
      exact sxq_case (lk_cons rfl (lk_cons rfl (lk_cons rfl (lk_cons rfl (lk_cons rfl (lk_cons rfl (lk_cons rfl lk_nil)))))))
    · refine sxo_take (os := _) rfl ?_
      refine sxo_isF (k := 66) rfl h30 ?_
      refine sxo_skip rfl rfl rfl ?_
      refine sxo_skip rfl rfl rfl ?_
      refine sxo_pick (b := false) rfl rfl rfl rfl ?_
      refine sxo_again (d := 69) (v := .bool (((x27 && ((x5.2.2 : Int) == 0)) && ((x9.1 : Int) == 9)) && ((x9.2 : Int) == 0))) rfl (by rw [h30]; simp only [Bool.false_and]) ?_
      refine sxo_nil ?_
      exact sxq_case (lk_cons rfl (lk_cons rfl (lk_cons rfl (lk_cons rfl (lk_cons rfl (lk_cons rfl (lk_cons rfl lk_nil)))))))
    refine sxo_take (os := _) rfl ?_
    refine sxo_move rfl rfl rfl ?_
    refine sxo_case 4 (((x27 && ((x5.2.2 : Int) == 0)) && ((x9.1 : Int) == 9)) && ((x9.2 : Int) == 0)) [(1, .pointer (some ⟨g4, 0, none⟩)), (8, .int .i64 x10.2.2), (9, .pointer (some ⟨g17, 0, none⟩)), (10, .int .i64 x14.2.2), (12, .int .i64 x18.2), (74, .bool ((((x27 && ((x5.2.2 : Int) == 0)) && ((x9.1 : Int) == 9)) && ((x9.2 : Int) == 0)) && ((x10.1 : Int) == 13)))] (fun h31 => ?_) (fun h31 => ?_) ?_
    · refine sxo_take (os := _) rfl ?_
      refine sxo_isT (k := 70) rfl h31 ?_
      refine sxo_fieldAddr rfl rfl ff24_0 rfl ?_
      refine sxo_loadB (i := 1) rfl rfl tf3 rfl rfl (fun _ => rfl) rfl rfl ?_
      refine sxo_eql rfl rfl rfl rfl ?_
      refine sxo_pick (b := true) rfl rfl rfl rfl ?_
      refine sxo_again (d := 74) (v := .bool ((((x27 && ((x5.2.2 : Int) == 0)) && ((x9.1 : Int) == 9)) && ((x9.2 : Int) == 0)) && ((x10.1 : Int) == 13))) rfl (by rw [h31]; simp only [Bool.true_and]) ?_
      refine sxo_nil ?_
      exact sxq_case (lk_cons rfl (lk_cons rfl (lk_cons rfl (lk_cons rfl (lk_cons rfl (lk_cons rfl lk_nil))))))
    · refine sxo_take (os := _) rfl ?_
      refine sxo_isF (k := 70) rfl h31 ?_
      refine sxo_skip rfl rfl rfl ?_
      refine sxo_skip rfl rfl rfl ?_
      refine sxo_skip rfl rfl rfl ?_
      refine sxo_pick (b := false) rfl rfl rfl rfl ?_
      refine sxo_again (d := 74) (v := .bool ((((x27 && ((x5.2.2 : Int) == 0)) && ((x9.1 : Int) == 9)) && ((x9.2 : Int) == 0)) && ((x10.1 : Int) == 13))) rfl (by rw [h31]; simp only [Bool.false_and]) ?_
      refine sxo_nil ?_
      exact sxq_case (lk_cons rfl (lk_cons rfl (lk_cons rfl (lk_cons rfl (lk_cons rfl (lk_cons rfl lk_nil))))))
    refine sxo_take (os := _) rfl ?_
    refine sxo_move rfl rfl rfl ?_
    refine sxo_case 3 ((((x27 && ((x5.2.2 : Int) == 0)) && ((x9.1 : Int) == 9)) && ((x9.2 : Int) == 0)) && ((x10.1 : Int) == 13)) [(1, .pointer (some ⟨g4, 0, none⟩)), (9, .pointer (some ⟨g17, 0, none⟩)), (10, .int .i64 x14.2.2), (12, .int .i64 x18.2), (78, .bool (((((x27 && ((x5.2.2 : Int) == 0)) && ((x9.1 : Int) == 9)) && ((x9.2 : Int) == 0)) && ((x10.1 : Int) == 13)) && ((x10.2.2 : Int) == 0)))] (fun h32 => ?_) (fun h32 => ?_) ?_
    · refine sxo_take (os := _) rfl ?_
      refine sxo_isT (k := 75) rfl h32 ?_
      refine sxo_move rfl rfl rfl ?_
      refine sxo_eql rfl rfl rfl rfl ?_
      refine sxo_pick (b := true) rfl rfl rfl rfl ?_
      refine sxo_again (d := 78) (v := .bool (((((x27 && ((x5.2.2 : Int) == 0)) && ((x9.1 : Int) == 9)) && ((x9.2 : Int) == 0)) && ((x10.1 : Int) == 13)) && ((x10.2.2 : Int) == 0))) rfl (by rw [h32]; simp only [Bool.true_and]) ?_
      refine sxo_nil ?_
      exact sxq_case (lk_cons rfl (lk_cons rfl (lk_cons rfl (lk_cons rfl (lk_cons rfl lk_nil)))))
    · refine sxo_take (os := _) rfl ?_
      refine sxo_isF (k := 75) rfl h32 ?_
      refine sxo_skip rfl rfl rfl ?_
      refine sxo_skip rfl rfl rfl ?_
      refine sxo_pick (b := false) rfl rfl rfl rfl ?_
      refine sxo_again (d := 78) (v := .bool (((((x27 && ((x5.2.2 : Int) == 0)) && ((x9.1 : Int) == 9)) && ((x9.2 : Int) == 0)) && ((x10.1 : Int) == 13)) && ((x10.2.2 : Int) == 0))) rfl (by rw [h32]; simp only [Bool.false_and]) ?_
      refine sxo_nil ?_
      exact sxq_case (lk_cons rfl (lk_cons rfl (lk_cons rfl (lk_cons rfl (lk_cons rfl lk_nil)))))
    refine sxo_take (os := _) rfl ?_
    refine sxo_move rfl rfl rfl ?_
    refine sxo_join 4 (fun ((x35, _) : (Bool × Unit)) => [(10, .int .i64 x14.2.2), (12, .int .i64 x18.2), (83, .bool x35)]) (fun ((x35, _) : (Bool × Unit)) => []) (fun ((x35, _) : (Bool × Unit)) => []) (fun ((x35, _) : (Bool × Unit)) => []) (fun ((x35, _) : (Bool × Unit)) => M_L_bitsBegun_j2 F x14 x18 x35) ?_ ?_
    · refine sxo_take (os := _) rfl ?_
      refine sxo_if (fun h33 => ?_) (fun h33 => ?_)
      · refine sxo_isT (k := 79) rfl h33 ?_
        refine sxo_loadB (i := 0) rfl rfl tf24 rfl rfl (by simp) rfl rfl ?_
        refine sxo_loadB (i := 2) rfl rfl tf24 rfl rfl (by simp) rfl rfl ?_
        refine sxo_call ent36 rfl rfl rfl (fun x46 e46 => C_R_SameBits F x14.1 x14.2.1 a15 c16 x1.1 x1.2.1 a2 c3 x46 e46) (.consR 0 (Ro (eI .u8) 5 1 (.slice a15 x14.2.1.length c16) x14.2.1) rfl (.consR 2 (Ro (eI .u8) 5 1 (.slice a2 x1.2.1.length c3) x1.2.1) rfl .nil)) (fun x46 e46 => ?_)
        intro _
        refine sxo_pick (b := true) rfl rfl rfl rfl ?_
        refine sxo_nil ?_
        exact sxq_meetP (x46, ()) (lk_cons rfl (lk_cons rfl (lk_cons rfl lk_nil))) .nil .nil fk_nil
      · refine sxo_isF (k := 79) rfl h33 ?_
        refine sxo_skip rfl rfl rfl ?_
        refine sxo_skip rfl rfl rfl ?_
        refine sxo_skip rfl rfl rfl ?_
        refine sxo_pick (b := false) rfl rfl rfl rfl ?_
        refine sxo_nil ?_
        exact sxq_meetP (false, ()) (lk_cons rfl (lk_cons rfl (lk_cons rfl lk_nil))) .nil .nil fk_nil
    · rintro ⟨x35, _⟩
      try dsimp only
      refine sxo_take (os := _) rfl ?_
      refine sxo_move rfl rfl rfl ?_
      refine sxo_case 3 x35 [(12, .int .i64 x18.2), (87, .bool (x35 && ((x14.2.2 : Int) == 0)))] (fun h36 => ?_) (fun h36 => ?_) ?_
      · refine sxo_take (os := _) rfl ?_
        refine sxo_isT (k := 84) rfl h36 ?_
        refine sxo_move rfl rfl rfl ?_
        refine sxo_eql rfl rfl rfl rfl ?_
        refine sxo_pick (b := true) rfl rfl rfl rfl ?_
        refine sxo_again (d := 87) (v := .bool (x35 && ((x14.2.2 : Int) == 0))) rfl (by rw [h36]; simp only [Bool.true_and]) ?_
        refine sxo_nil ?_
        exact sxq_case (lk_cons rfl (lk_cons rfl lk_nil))
      · refine sxo_take (os := _) rfl ?_
        refine sxo_isF (k := 84) rfl h36 ?_
        refine sxo_skip rfl rfl rfl ?_
        refine sxo_skip rfl rfl rfl ?_
        refine sxo_pick (b := false) rfl rfl rfl rfl ?_
        refine sxo_again (d := 87) (v := .bool (x35 && ((x14.2.2 : Int) == 0))) rfl (by rw [h36]; simp only [Bool.false_and]) ?_
        refine sxo_nil ?_
        exact sxq_case (lk_cons rfl (lk_cons rfl lk_nil))
      refine sxo_take (os := _) rfl ?_
      refine sxo_move rfl rfl rfl ?_
      refine sxo_case 3 (x35 && ((x14.2.2 : Int) == 0)) [(91, .bool ((x35 && ((x14.2.2 : Int) == 0)) && ((x18.2 : Int) == 7)))] (fun h37 => ?_) (fun h37 => ?_) ?_
      · refine sxo_take (os := _) rfl ?_
        refine sxo_isT (k := 88) rfl h37 ?_
        refine sxo_move rfl rfl rfl ?_
        refine sxo_eql rfl rfl rfl rfl ?_
        refine sxo_pick (b := true) rfl rfl rfl rfl ?_
        refine sxo_again (d := 91) (v := .bool ((x35 && ((x14.2.2 : Int) == 0)) && ((x18.2 : Int) == 7))) rfl (by rw [h37]; simp only [Bool.true_and]) ?_
        refine sxo_nil ?_
        exact sxq_case (lk_cons rfl lk_nil)
      · refine sxo_take (os := _) rfl ?_
        refine sxo_isF (k := 88) rfl h37 ?_
        refine sxo_skip rfl rfl rfl ?_
        refine sxo_skip rfl rfl rfl ?_
        refine sxo_pick (b := false) rfl rfl rfl rfl ?_
        refine sxo_again (d := 91) (v := .bool ((x35 && ((x14.2.2 : Int) == 0)) && ((x18.2 : Int) == 7))) rfl (by rw [h37]; simp only [Bool.false_and]) ?_
        refine sxo_nil ?_
        exact sxq_case (lk_cons rfl lk_nil)
      refine sxo_take (os := _) rfl ?_
      refine sxo_move rfl rfl rfl ?_
      refine sxo_join 5 (fun ((x42, _) : (Bool × Unit)) => [(97, .bool x42)]) (fun ((x42, _) : (Bool × Unit)) => []) (fun ((x42, _) : (Bool × Unit)) => []) (fun ((x42, _) : (Bool × Unit)) => []) (fun ((x42, _) : (Bool × Unit)) => M_L_bitsBegun_j3 F x42) ?_ ?_
      · refine sxo_take (os := _) rfl ?_
        refine sxo_if (fun h38 => ?_) (fun h38 => ?_)
        · refine sxo_isT (k := 92) rfl h38 ?_
          refine sxo_slit (vs := [.int .u8 1]) (ys := ([1] : List Int)) (eI_ok .u8) (by decide) rfl Try.underlying22 tf5 rfl rfl rfl rfl rfl (by decide) (fun a43 c44 => ?_)
          refine sxo_build (cells := [.int .i64 3, .slice a43 ([1] : List Int).length c44]) rfl st24 rfl (by kernel_rfl) rfl ?_
          refine sxo_call ent42 rfl rfl rfl (fun x45 e45 => C_bits_Check F 3 ([1] : List Int) a43 c44 x45 e45) (.consR 0 (Ro (eI .u8) 5 1 (.slice a43 ([1] : List Int).length c44) ([1] : List Int)) rfl .nil) (fun x45 e45 => ?_)
          intro _
          refine sxo_eql rfl rfl rfl rfl ?_
          refine sxo_pick (b := true) rfl rfl rfl rfl ?_
          refine sxo_nil ?_
          exact sxq_meetP (((x45 : Int) == 1), ()) (lk_cons rfl lk_nil) .nil .nil fk_nil
        · refine sxo_isF (k := 92) rfl h38 ?_
          refine sxo_skip rfl rfl rfl ?_
          refine sxo_skip rfl rfl rfl ?_
          refine sxo_skip rfl rfl rfl ?_
          refine sxo_skip rfl rfl rfl ?_
          refine sxo_pick (b := false) rfl rfl rfl rfl ?_
          refine sxo_nil ?_
          exact sxq_meetP (false, ()) (lk_cons rfl lk_nil) .nil .nil fk_nil
      · rintro ⟨x42, _⟩
        try dsimp only
        refine sxo_take (os := _) rfl ?_
        refine sxo_assign rfl rfl rfl ?_
        refine sxo_nil ?_
        refine sxq_next ?_
        refine sxc_ret ?_
        exact sxq_doneP () (.inl rfl) (res1 rfl rfl) (fun h => by subst h; rfl) (fun h => by subst h; exact .nil)

set_option maxHeartbeats 4000000 in
theorem C_L_UnaryMany (F : Nat) (x1 : List Int) (a2 : Option Addr) (c3 : Nat) (x4 : Int) (x5 : List Int) (a6 : Option Addr) (c7 : Nat) (x8 : Int) (r : Bool) (hm : M_L_UnaryMany F x1 x4 x5 x8 = some r) :
    Pure Try.prog 7 [.slice a2 x1.length c3, .agg #[.int .i64 x4, .slice a6 x5.length c7], .int .i64 x8] [Sl (eI .u64) 1 (.slice a2 x1.length c3) x1, Sl (eI .u8) 1 (.slice a6 x5.length c7) x5] Unit (fun _ => .bool r) (fun _ => []) (fun _ => []) := by
  refine pure_of Try.func7 rfl Try.ntmps7 rfl hm (fun w => ?_)
  refine sxc_env (l' := [(0, .slice a2 x1.length c3), (1, .agg #[.int .i64 x4, .slice a6 x5.length c7]), (2, .int .i64 x8)]) rfl ?_
  refine sxc_seq ?_
  refine sxc_region ?_
  refine sxo_box rfl rfl rfl (fun g9 => ?_)
  refine sxo_assign rfl rfl rfl ?_
  refine sxo_nil ?_
  refine sxq_next ?_
  refine sxc_seq ?_
  refine sxc_region ?_
  refine sxo_move rfl rfl rfl ?_
  refine sxo_call ent29 rfl rfl rfl (fun x10 e10 => C_unary_Many F x1 a2 c3 x10 e10) (.consF 0 rfl .nil) (fun x10 e10 => ?_)
  rintro ⟨a11, c12⟩
  refine sxo_move rfl rfl rfl ?_
  refine sxo_extract rfl rfl rfl rfl ?_
  refine sxo_extract rfl rfl rfl rfl ?_
  refine sxo_alloc rfl tf24 rfl (fun g13 => ?_)
  refine sxo_storeB (i := 0) rfl rfl rfl tf24 rfl rfl rfl rfl rfl ?_
  refine sxo_assign rfl rfl rfl ?_
  refine sxo_nil ?_
  refine sxq_next ?_
  refine sxc_seq ?_
  refine sxc_region ?_
  refine sxo_loadB (i := 1) rfl rfl tf24 rfl rfl (by simp) rfl rfl ?_
  refine sxo_move rfl rfl rfl ?_
  refine sxo_call ent30 rfl rfl rfl (fun x14 e14 => C_unary_All F x4 x5 a6 c7 x8 x14 e14) (.consF 1 rfl .nil) (fun x14 e14 => ?_)
  rintro ⟨a15, c16⟩
  refine sxo_move rfl rfl rfl ?_
  refine sxo_extract rfl rfl rfl rfl ?_
  refine sxo_extract rfl rfl rfl rfl ?_
  refine sxo_extract rfl rfl rfl rfl ?_
  refine sxo_assign rfl rfl rfl ?_
  refine sxo_assign rfl rfl rfl ?_
  refine sxo_assign rfl rfl rfl ?_
  refine sxo_nil ?_
  refine sxq_next ?_
  refine sxc_seq ?_
  refine sxc_seq ?_
  refine sxc_region ?_
  refine sxo_call ent35 rfl rfl rfl (fun x23 e23 => C_L_unaryBegun F  x23 e23) .nil (fun x23 e23 => ?_)
  intro _
  refine sxo_not rfl rfl rfl ?_
  refine sxo_move rfl rfl rfl ?_
  refine sxo_join 3 (fun ((x26, _) : (Bool × Unit)) => [(0, .slice a2 x1.length c3), (4, .pointer (some ⟨g9, 0, none⟩)), (7, .pointer (some ⟨g13, 0, none⟩)), (8, .int .i64 x10.2.2), (9, .slice a15 x14.1.length c16), (10, .int .i64 x14.2.1), (11, .int .i64 x14.2.2), (36, .bool x26)]) (fun ((x26, _) : (Bool × Unit)) => [⟨g13, 24, [.int .i64 x10.1, .slice a11 x10.2.1.length c12]⟩, ⟨g9, 24, [.int .i64 x4, .slice a6 x5.length c7]⟩]) (fun ((x26, _) : (Bool × Unit)) => [Ro (eI .u64) 45 1 (.slice a15 x14.1.length c16) x14.1, Ro (eI .u8) 5 1 (.slice a11 x10.2.1.length c12) x10.2.1]) (fun ((x26, _) : (Bool × Unit)) => [Sl (eI .u64) 1 (.slice a2 x1.length c3) x1, Sl (eI .u8) 1 (.slice a6 x5.length c7) x5]) (fun ((x26, _) : (Bool × Unit)) => M_L_UnaryMany_j2 F x1 x4 x5 x10 x14 x26) ?_ ?_
  · refine sxo_take (os := _) rfl ?_
    refine sxo_if (fun h24 => ?_) (fun h24 => ?_)
    · refine sxo_isT (k := 33) rfl h24 ?_
      refine sxo_skip rfl rfl rfl ?_
      refine sxo_skip rfl rfl rfl ?_
      refine sxo_pick (b := true) rfl rfl rfl rfl ?_
      refine sxo_nil ?_
      exact sxq_meetP (true, ()) (lk_cons rfl (lk_cons rfl (lk_cons rfl (lk_cons rfl (lk_cons rfl (lk_cons rfl (lk_cons rfl (lk_cons rfl lk_nil)))))))) (.cons 0 rfl (.cons 0 rfl .nil)) (.cons 0 rfl (.cons 0 rfl .nil)) (fk_cons 0 rfl (fk_cons 1 rfl fk_nil))
    · refine sxo_isF (k := 33) rfl h24 ?_
      refine sxo_call ent38 rfl rfl rfl (fun x65 e65 => C_L_bitsBegun F  x65 e65) .nil (fun x65 e65 => ?_)
      intro _
      refine sxo_not rfl rfl rfl ?_
      refine sxo_pick (b := false) rfl rfl rfl rfl ?_
      refine sxo_nil ?_
      exact sxq_meetP ((!x65), ()) (lk_cons rfl (lk_cons rfl (lk_cons rfl (lk_cons rfl (lk_cons rfl (lk_cons rfl (lk_cons rfl (lk_cons rfl lk_nil)))))))) (.cons 0 rfl (.cons 0 rfl .nil)) (.cons 0 rfl (.cons 0 rfl .nil)) (fk_cons 0 rfl (fk_cons 1 rfl fk_nil))
  · rintro ⟨x26, _⟩
    try dsimp only
    refine sxo_take (os := _) rfl ?_
    refine sxo_nil ?_
    refine sxq_next ?_
    refine sxc_if rfl (fun h64 => ?_) (fun h64 => ?_)
    · refine sxc_seq ?_
      refine sxc_region ?_
      refine sxo_assign rfl rfl rfl ?_
      refine sxo_nil ?_
      refine sxq_next ?_
      refine sxc_ret ?_
      refine sxq_thenR ?_
      exact sxq_doneP () (.inl rfl) (res1 rfl rfl) (fun h => by subst h; rfl) (fun h => by subst h; exact .nil)
    · refine sxc_skip ?_
      refine sxq_next ?_
      refine sxc_join (fun ((_, _) : (Unit × Unit)) => [(4, .pointer (some ⟨g9, 0, none⟩)), (9, .slice a15 x14.1.length c16), (10, .int .i64 x14.2.1), (11, .int .i64 x14.2.2)]) (fun ((_, _) : (Unit × Unit)) => [⟨g9, 24, [.int .i64 x4, .slice a6 x5.length c7]⟩]) (fun ((_, _) : (Unit × Unit)) => [Ro (eI .u64) 45 1 (.slice a15 x14.1.length c16) x14.1]) (fun ((_, _) : (Unit × Unit)) => [Sl (eI .u8) 1 (.slice a6 x5.length c7) x5]) (fun ((_, _) : (Unit × Unit)) => M_L_UnaryMany_j4 F x4 x5 x14) ?_ ?_
      · refine sxc_seq ?_
        refine sxc_region ?_
        refine sxo_move rfl rfl rfl ?_
        refine sxo_eql rfl rfl rfl rfl ?_
        refine sxo_nil ?_
        refine sxq_next ?_
        refine sxc_if rfl (fun h63 => ?_) (fun h63 => ?_)
        · refine sxc_seq ?_
          refine sxc_region ?_
          refine sxo_loadB (i := 0) rfl rfl tf24 rfl rfl (by simp) rfl rfl ?_
          refine sxo_move rfl rfl rfl ?_
          refine sxo_len rfl Try.underlying46 rfl rfl ?_
          refine sxo_call ent30 rfl rfl rfl (fun x54 e54 => C_unary_All F x10.1 x10.2.1 a11 c12 (x1.length : Int) x54 e54) (.consR 1 (Ro (eI .u8) 5 1 (.slice a11 x10.2.1.length c12) x10.2.1) rfl .nil) (fun x54 e54 => ?_)
          rintro ⟨a55, c56⟩
          refine sxo_move rfl rfl rfl ?_
          refine sxo_extract rfl rfl rfl rfl ?_
          refine sxo_extract rfl rfl rfl rfl ?_
          refine sxo_extract rfl rfl rfl rfl ?_
          refine sxo_assign rfl rfl rfl ?_
          refine sxo_assign rfl rfl rfl ?_
          refine sxo_assign rfl rfl rfl ?_
          refine sxo_nil ?_
          refine sxq_next ?_
          refine sxc_seq ?_
          refine sxc_region ?_
          refine sxo_move rfl rfl rfl ?_
          refine sxo_neq rfl rfl rfl rfl ?_
          refine sxo_move rfl rfl rfl ?_
          refine sxo_join 5 (fun ((x59, _) : (Bool × Unit)) => [(4, .pointer (some ⟨g9, 0, none⟩)), (7, .pointer (some ⟨g13, 0, none⟩)), (9, .slice a15 x14.1.length c16), (10, .int .i64 x14.2.1), (11, .int .i64 x14.2.2), (13, .int .i64 x54.2.1), (54, .bool x59)]) (fun ((x59, _) : (Bool × Unit)) => [⟨g13, 24, [.int .i64 x10.1, .slice a11 x10.2.1.length c12]⟩, ⟨g9, 24, [.int .i64 x4, .slice a6 x5.length c7]⟩]) (fun ((x59, _) : (Bool × Unit)) => [Ro (eI .u64) 45 1 (.slice a15 x14.1.length c16) x14.1, Ro (eI .u8) 5 1 (.slice a11 x10.2.1.length c12) x10.2.1]) (fun ((x59, _) : (Bool × Unit)) => [Sl (eI .u8) 1 (.slice a6 x5.length c7) x5]) (fun ((x59, _) : (Bool × Unit)) => M_L_UnaryMany_j6 F x4 x5 x10 x14 x54 x59) ?_ ?_
          · refine sxo_take (os := _) rfl ?_
            refine sxo_if (fun h57 => ?_) (fun h57 => ?_)
            · refine sxo_isT (k := 49) rfl h57 ?_
              refine sxo_skip rfl rfl rfl ?_
              refine sxo_skip rfl rfl rfl ?_
              refine sxo_skip rfl rfl rfl ?_
              refine sxo_skip rfl rfl rfl ?_
              refine sxo_pick (b := true) rfl rfl rfl rfl ?_
              refine sxo_nil ?_
              exact sxq_meetP (true, ()) (lk_cons rfl (lk_cons rfl (lk_cons rfl (lk_cons rfl (lk_cons rfl (lk_cons rfl (lk_cons rfl lk_nil))))))) (.cons 0 rfl (.cons 0 rfl .nil)) (.cons 1 rfl (.cons 1 rfl .nil)) (fk_cons 1 rfl fk_nil)
            · refine sxo_isF (k := 49) rfl h57 ?_
              refine sxo_move rfl rfl rfl ?_
              refine sxo_move rfl rfl rfl ?_
              refine sxo_call ent37 rfl rfl rfl (fun x62 e62 => C_R_SameNums F x54.1 a55 c56 x1 a2 c3 x62 e62) (.consR 0 (Ro (eI .u64) 45 1 (.slice a55 x54.1.length c56) x54.1) rfl (.consF 0 rfl .nil)) (fun x62 e62 => ?_)
              intro _
              refine sxo_not rfl rfl rfl ?_
              refine sxo_pick (b := false) rfl rfl rfl rfl ?_
              refine sxo_nil ?_
              exact sxq_meetP ((!x62), ()) (lk_cons rfl (lk_cons rfl (lk_cons rfl (lk_cons rfl (lk_cons rfl (lk_cons rfl (lk_cons rfl lk_nil))))))) (.cons 0 rfl (.cons 0 rfl .nil)) (.cons 1 rfl (.cons 1 rfl .nil)) (fk_cons 1 rfl fk_nil)
          · rintro ⟨x59, _⟩
            try dsimp only
            refine sxo_take (os := _) rfl ?_
            refine sxo_move rfl rfl rfl ?_
            refine sxo_case 5 x59 [(4, .pointer (some ⟨g9, 0, none⟩)), (9, .slice a15 x14.1.length c16), (10, .int .i64 x14.2.1), (11, .int .i64 x14.2.2), (60, .bool (x59 || ((x54.2.1 : Int) != x10.1)))] (fun h60 => ?_) (fun h60 => ?_) ?_
            · refine sxo_take (os := _) rfl ?_
              refine sxo_isT (k := 55) rfl h60 ?_
              refine sxo_skip rfl rfl rfl ?_
              refine sxo_skip rfl rfl rfl ?_
              refine sxo_skip rfl rfl rfl ?_
              refine sxo_skip rfl rfl rfl ?_
              refine sxo_pick (b := true) rfl rfl rfl rfl ?_
              refine sxo_again (d := 60) (v := .bool (x59 || ((x54.2.1 : Int) != x10.1))) rfl (by rw [h60]; simp only [Bool.true_or]) ?_
              refine sxo_nil ?_
              exact sxq_case (lk_cons rfl (lk_cons rfl (lk_cons rfl (lk_cons rfl (lk_cons rfl lk_nil)))))
            · refine sxo_take (os := _) rfl ?_
              refine sxo_isF (k := 55) rfl h60 ?_
              refine sxo_move rfl rfl rfl ?_
              refine sxo_fieldAddr rfl rfl ff24_0 rfl ?_
              refine sxo_loadB (i := 0) rfl rfl tf3 rfl rfl (fun _ => rfl) rfl rfl ?_
              refine sxo_neq rfl rfl rfl rfl ?_
              refine sxo_pick (b := false) rfl rfl rfl rfl ?_
              refine sxo_again (d := 60) (v := .bool (x59 || ((x54.2.1 : Int) != x10.1))) rfl (by rw [h60]; simp only [Bool.false_or]) ?_
              refine sxo_nil ?_
              exact sxq_case (lk_cons rfl (lk_cons rfl (lk_cons rfl (lk_cons rfl (lk_cons rfl lk_nil)))))
            refine sxo_take (os := _) rfl ?_
            refine sxo_nil ?_
            refine sxq_next ?_
            refine sxc_if rfl (fun h61 => ?_) (fun h61 => ?_)
            · refine sxc_seq ?_
              refine sxc_region ?_
              refine sxo_assign rfl rfl rfl ?_
              refine sxo_nil ?_
              refine sxq_next ?_
              refine sxc_ret ?_
              refine sxq_thenR ?_
              exact sxq_doneP () (.inl rfl) (res1 rfl rfl) (fun h => by subst h; rfl) (fun h => by subst h; exact .nil)
            · refine sxc_skip ?_
              exact sxq_meetP ((), ()) (lk_cons rfl (lk_cons rfl (lk_cons rfl (lk_cons rfl lk_nil)))) (.cons 1 rfl .nil) (.cons 0 rfl .nil) (fk_cons 0 rfl fk_nil)
        · refine sxc_skip ?_
          exact sxq_meetP ((), ()) (lk_cons rfl (lk_cons rfl (lk_cons rfl (lk_cons rfl lk_nil)))) (.cons 1 rfl .nil) (.cons 0 rfl .nil) (fk_cons 1 rfl fk_nil)
      · rintro ⟨_, _⟩
        try dsimp only
        refine sxc_seq ?_
        refine sxc_seq ?_
        refine sxc_region ?_
        refine sxo_move rfl rfl rfl ?_
        refine sxo_neq rfl rfl rfl rfl ?_
        refine sxo_nil ?_
        refine sxq_next ?_
        refine sxc_if rfl (fun h53 => ?_) (fun h53 => ?_)
        · refine sxc_seq ?_
          refine sxc_region ?_
          refine sxo_move rfl rfl rfl ?_
          refine sxo_len rfl Try.underlying46 rfl rfl ?_
          refine sxo_eql rfl rfl rfl rfl ?_
          refine sxo_move rfl rfl rfl ?_
          refine sxo_case 3 (((x14.1.length : Int) : Int) == 0) [(69, .bool ((((x14.1.length : Int) : Int) == 0) && ((x14.2.1 : Int) == 0)))] (fun h39 => ?_) (fun h39 => ?_) ?_
          · refine sxo_take (os := _) rfl ?_
            refine sxo_isT (k := 66) rfl h39 ?_
            refine sxo_move rfl rfl rfl ?_
            refine sxo_eql rfl rfl rfl rfl ?_
            refine sxo_pick (b := true) rfl rfl rfl rfl ?_
            refine sxo_again (d := 69) (v := .bool ((((x14.1.length : Int) : Int) == 0) && ((x14.2.1 : Int) == 0))) rfl (by rw [h39]; simp only [Bool.true_and]) ?_
            refine sxo_nil ?_
            exact sxq_case (lk_cons rfl lk_nil)
          · refine sxo_take (os := _) rfl ?_
            refine sxo_isF (k := 66) rfl h39 ?_
            refine sxo_skip rfl rfl rfl ?_
            refine sxo_skip rfl rfl rfl ?_
            refine sxo_pick (b := false) rfl rfl rfl rfl ?_
            refine sxo_again (d := 69) (v := .bool ((((x14.1.length : Int) : Int) == 0) && ((x14.2.1 : Int) == 0))) rfl (by rw [h39]; simp only [Bool.false_and]) ?_
            refine sxo_nil ?_
            exact sxq_case (lk_cons rfl lk_nil)
          refine sxo_take (os := _) rfl ?_
          refine sxo_assign rfl rfl rfl ?_
          refine sxo_nil ?_
          refine sxq_next ?_
          refine sxc_ret ?_
          refine sxq_thenR ?_
          exact sxq_doneP () (.inl rfl) (res1 rfl rfl) (fun h => by subst h; rfl) (fun h => by subst h; exact .nil)
        · refine sxc_skip ?_
          refine sxq_next ?_
          refine sxc_seq ?_
          refine sxc_region ?_
          refine sxo_move rfl rfl rfl ?_
          refine sxo_call ent29 rfl rfl rfl (fun x40 e40 => C_unary_Many F x14.1 a15 c16 x40 e40) (.consR 0 (Ro (eI .u64) 45 1 (.slice a15 x14.1.length c16) x14.1) rfl .nil) (fun x40 e40 => ?_)
          rintro ⟨a41, c42⟩
          refine sxo_move rfl rfl rfl ?_
          refine sxo_extract rfl rfl rfl rfl ?_
          refine sxo_extract rfl rfl rfl rfl ?_
          refine sxo_alloc rfl tf24 rfl (fun g43 => ?_)
          refine sxo_storeB (i := 0) rfl rfl rfl tf24 rfl rfl rfl rfl rfl ?_
          refine sxo_assign rfl rfl rfl ?_
          refine sxo_nil ?_
          refine sxq_next ?_
          refine sxc_seq ?_
          refine sxc_region ?_
          refine sxo_loadB (i := 1) rfl rfl tf24 rfl rfl (by simp) rfl rfl ?_
          refine sxo_move rfl rfl rfl ?_
          refine sxo_callM ent39 rfl rfl rfl (fun x44 e44 => C_bits_Cut F x4 x5 a6 c7 0 x14.2.1 x44 e44) .nil .nil (.consF 0 rfl .nil) (fun x44 e44 => ?_)
          rintro ⟨a45, c46⟩
          refine sxo_move rfl rfl rfl ?_
          refine sxo_extract rfl rfl rfl rfl ?_
          refine sxo_extract rfl rfl rfl rfl ?_
          refine sxo_alloc rfl tf24 rfl (fun g47 => ?_)
          refine sxo_storeB (i := 0) rfl rfl rfl tf24 rfl rfl rfl rfl rfl ?_
          refine sxo_assign rfl rfl rfl ?_
          refine sxo_nil ?_
          refine sxq_next ?_
          refine sxc_seq ?_
          refine sxc_region ?_
          refine sxo_move rfl rfl rfl ?_
          refine sxo_eql rfl rfl rfl rfl ?_
          refine sxo_move rfl rfl rfl ?_
          refine sxo_case 3 ((x40.2.2 : Int) == 0) [(15, .pointer (some ⟨g43, 0, none⟩)), (17, .pointer (some ⟨g47, 0, none⟩)), (86, .bool (((x40.2.2 : Int) == 0) && ((x44.2.2 : Int) == 0)))] (fun h48 => ?_) (fun h48 => ?_) ?_
          · refine sxo_take (os := _) rfl ?_
            refine sxo_isT (k := 83) rfl h48 ?_
            refine sxo_move rfl rfl rfl ?_
            refine sxo_eql rfl rfl rfl rfl ?_
            refine sxo_pick (b := true) rfl rfl rfl rfl ?_
            refine sxo_again (d := 86) (v := .bool (((x40.2.2 : Int) == 0) && ((x44.2.2 : Int) == 0))) rfl (by rw [h48]; simp only [Bool.true_and]) ?_
            refine sxo_nil ?_
            exact sxq_case (lk_cons rfl (lk_cons rfl (lk_cons rfl lk_nil)))
          · refine sxo_take (os := _) rfl ?_
            refine sxo_isF (k := 83) rfl h48 ?_
            refine sxo_skip rfl rfl rfl ?_
            refine sxo_skip rfl rfl rfl ?_
            refine sxo_pick (b := false) rfl rfl rfl rfl ?_
            refine sxo_again (d := 86) (v := .bool (((x40.2.2 : Int) == 0) && ((x44.2.2 : Int) == 0))) rfl (by rw [h48]; simp only [Bool.false_and]) ?_
            refine sxo_nil ?_
            exact sxq_case (lk_cons rfl (lk_cons rfl (lk_cons rfl lk_nil)))
          refine sxo_take (os := _) rfl ?_
          refine sxo_move rfl rfl rfl ?_
          refine sxo_join 4 (fun ((x51, _) : (Bool × Unit)) => [(91, .bool x51)]) (fun ((x51, _) : (Bool × Unit)) => []) (fun ((x51, _) : (Bool × Unit)) => []) (fun ((x51, _) : (Bool × Unit)) => []) (fun ((x51, _) : (Bool × Unit)) => M_L_UnaryMany_j5 F x51) ?_ ?_
          · refine sxo_take (os := _) rfl ?_
            refine sxo_if (fun h49 => ?_) (fun h49 => ?_)
            · refine sxo_isT (k := 87) rfl h49 ?_
              refine sxo_loadB (i := 1) rfl rfl tf24 rfl rfl (by simp) rfl rfl ?_
              refine sxo_loadB (i := 0) rfl rfl tf24 rfl rfl (by simp) rfl rfl ?_
              refine sxo_call ent36 rfl rfl rfl (fun x52 e52 => C_R_SameBits F x40.1 x40.2.1 a41 c42 x44.1 x44.2.1 a45 c46 x52 e52) (.consR 1 (Ro (eI .u8) 5 1 (.slice a41 x40.2.1.length c42) x40.2.1) rfl (.consR 0 (Ro (eI .u8) 5 1 (.slice a45 x44.2.1.length c46) x44.2.1) rfl .nil)) (fun x52 e52 => ?_)
              intro _
              refine sxo_pick (b := true) rfl rfl rfl rfl ?_
              refine sxo_nil ?_
              exact sxq_meetP (x52, ()) (lk_cons rfl lk_nil) .nil .nil fk_nil
            · refine sxo_isF (k := 87) rfl h49 ?_
              refine sxo_skip rfl rfl rfl ?_
              refine sxo_skip rfl rfl rfl ?_
              refine sxo_skip rfl rfl rfl ?_
              refine sxo_pick (b := false) rfl rfl rfl rfl ?_
              refine sxo_nil ?_
              exact sxq_meetP (false, ()) (lk_cons rfl lk_nil) .nil .nil fk_nil
          · rintro ⟨x51, _⟩
            try dsimp only
            refine sxo_take (os := _) rfl ?_
            refine sxo_assign rfl rfl rfl ?_
            refine sxo_nil ?_
            refine sxq_next ?_
            refine sxc_ret ?_
            exact sxq_doneP () (.inl rfl) (res1 rfl rfl) (fun h => by subst h; rfl) (fun h => by subst h; exact .nil)

theorem C_L_UnaryApart (F : Nat) (x1 : Int) (x2 : Int) (r : Bool) (hm : M_L_UnaryApart F x1 x2 = some r) :
    Pure Try.prog 8 [.int .u64 x1, .int .u64 x2] [] Unit (fun _ => .bool r) (fun _ => []) (fun _ => []) := by
  refine pure_of Try.func8 rfl Try.ntmps8 rfl hm (fun w => ?_)
  refine sxc_env (l' := [(0, .int .u64 x1), (1, .int .u64 x2)]) rfl ?_
  refine sxc_seq ?_
  refine sxc_region ?_
  refine sxo_assign rfl rfl rfl ?_
  refine sxo_nil ?_
  refine sxq_next ?_
  refine sxc_seq ?_
  refine sxc_region ?_
  refine sxo_move rfl rfl rfl ?_
  refine sxo_call ent27 rfl rfl rfl (fun x3 e3 => C_unary_Code F x1 x3 e3) .nil (fun x3 e3 => ?_)
  rintro ⟨a4, c5⟩
  refine sxo_move rfl rfl rfl ?_
  refine sxo_extract rfl rfl rfl rfl ?_
  refine sxo_extract rfl rfl rfl rfl ?_
  refine sxo_alloc rfl tf24 rfl (fun g6 => ?_)
  refine sxo_storeB (i := 0) rfl rfl rfl tf24 rfl rfl rfl rfl rfl ?_
  refine sxo_assign rfl rfl rfl ?_
  refine sxo_nil ?_
  refine sxq_next ?_
  refine sxc_seq ?_
  refine sxc_region ?_
  refine sxo_move rfl rfl rfl ?_
  refine sxo_call ent27 rfl rfl rfl (fun x7 e7 => C_unary_Code F x2 x7 e7) .nil (fun x7 e7 => ?_)
  rintro ⟨a8, c9⟩
  refine sxo_move rfl rfl rfl ?_
  refine sxo_extract rfl rfl rfl rfl ?_
  refine sxo_extract rfl rfl rfl rfl ?_
  refine sxo_alloc rfl tf24 rfl (fun g10 => ?_)
  refine sxo_storeB (i := 0) rfl rfl rfl tf24 rfl rfl rfl rfl rfl ?_
  refine sxo_assign rfl rfl rfl ?_
  refine sxo_nil ?_
  refine sxq_next ?_
  refine sxc_seq ?_
  refine sxc_seq ?_
  refine sxc_region ?_
  refine sxo_call ent35 rfl rfl rfl (fun x17 e17 => C_L_unaryBegun F  x17 e17) .nil (fun x17 e17 => ?_)
  intro _
  refine sxo_not rfl rfl rfl ?_
  refine sxo_move rfl rfl rfl ?_
  refine sxo_join 3 (fun ((x20, _) : (Bool × Unit)) => [(0, .int .u64 x1), (1, .int .u64 x2), (5, .pointer (some ⟨g6, 0, none⟩)), (6, .int .i64 x3.2.2), (7, .pointer (some ⟨g10, 0, none⟩)), (8, .int .i64 x7.2.2), (26, .bool x20)]) (fun ((x20, _) : (Bool × Unit)) => [⟨g10, 24, [.int .i64 x7.1, .slice a8 x7.2.1.length c9]⟩, ⟨g6, 24, [.int .i64 x3.1, .slice a4 x3.2.1.length c5]⟩]) (fun ((x20, _) : (Bool × Unit)) => [Ro (eI .u8) 5 1 (.slice a8 x7.2.1.length c9) x7.2.1, Ro (eI .u8) 5 1 (.slice a4 x3.2.1.length c5) x3.2.1]) (fun ((x20, _) : (Bool × Unit)) => []) (fun ((x20, _) : (Bool × Unit)) => M_L_UnaryApart_j2 F x1 x2 x3 x7 x20) ?_ ?_
  · refine sxo_take (os := _) rfl ?_
    refine sxo_if (fun h18 => ?_) (fun h18 => ?_)
    · refine sxo_isT (k := 23) rfl h18 ?_
      refine sxo_skip rfl rfl rfl ?_
      refine sxo_skip rfl rfl rfl ?_
      refine sxo_pick (b := true) rfl rfl rfl rfl ?_
      refine sxo_nil ?_
      exact sxq_meetP (true, ()) (lk_cons rfl (lk_cons rfl (lk_cons rfl (lk_cons rfl (lk_cons rfl (lk_cons rfl (lk_cons rfl lk_nil))))))) (.cons 0 rfl (.cons 0 rfl .nil)) (.cons 0 rfl (.cons 0 rfl .nil)) fk_nil
    · refine sxo_isF (k := 23) rfl h18 ?_
      refine sxo_call ent38 rfl rfl rfl (fun x36 e36 => C_L_bitsBegun F  x36 e36) .nil (fun x36 e36 => ?_)
      intro _
      refine sxo_not rfl rfl rfl ?_
      refine sxo_pick (b := false) rfl rfl rfl rfl ?_
      refine sxo_nil ?_
      exact sxq_meetP ((!x36), ()) (lk_cons rfl (lk_cons rfl (lk_cons rfl (lk_cons rfl (lk_cons rfl (lk_cons rfl (lk_cons rfl lk_nil))))))) (.cons 0 rfl (.cons 0 rfl .nil)) (.cons 0 rfl (.cons 0 rfl .nil)) fk_nil
  · rintro ⟨x20, _⟩
    try dsimp only
    refine sxo_take (os := _) rfl ?_
    refine sxo_nil ?_
    refine sxq_next ?_
    refine sxc_if rfl (fun h35 => ?_) (fun h35 => ?_)
    · refine sxc_seq ?_
      refine sxc_region ?_
      refine sxo_assign rfl rfl rfl ?_
      refine sxo_nil ?_
      refine sxq_next ?_
      refine sxc_ret ?_
      refine sxq_thenR ?_
      exact sxq_doneP () (.inl rfl) (res1 rfl rfl) (fun h => by subst h; rfl) (fun h => by subst h; exact .nil)
    · refine sxc_skip ?_
      refine sxq_next ?_
      refine sxc_seq ?_
      refine sxc_seq ?_
      refine sxc_region ?_
      refine sxo_move rfl rfl rfl ?_
      refine sxo_neq rfl rfl rfl rfl ?_
      refine sxo_move rfl rfl rfl ?_
      refine sxo_case 3 ((x3.2.2 : Int) != 0) [(0, .int .u64 x1), (1, .int .u64 x2), (5, .pointer (some ⟨g6, 0, none⟩)), (7, .pointer (some ⟨g10, 0, none⟩)), (32, .bool (((x3.2.2 : Int) != 0) || ((x7.2.2 : Int) != 0)))] (fun h24 => ?_) (fun h24 => ?_) ?_
      · refine sxo_take (os := _) rfl ?_
        refine sxo_isT (k := 29) rfl h24 ?_
        refine sxo_skip rfl rfl rfl ?_
        refine sxo_skip rfl rfl rfl ?_
        refine sxo_pick (b := true) rfl rfl rfl rfl ?_
        refine sxo_again (d := 32) (v := .bool (((x3.2.2 : Int) != 0) || ((x7.2.2 : Int) != 0))) rfl (by rw [h24]; simp only [Bool.true_or]) ?_
        refine sxo_nil ?_
        exact sxq_case (lk_cons rfl (lk_cons rfl (lk_cons rfl (lk_cons rfl (lk_cons rfl lk_nil)))))
      · refine sxo_take (os := _) rfl ?_
        refine sxo_isF (k := 29) rfl h24 ?_
        refine sxo_move rfl rfl rfl ?_
        refine sxo_neq rfl rfl rfl rfl ?_
        refine sxo_pick (b := false) rfl rfl rfl rfl ?_
        refine sxo_again (d := 32) (v := .bool (((x3.2.2 : Int) != 0) || ((x7.2.2 : Int) != 0))) rfl (by rw [h24]; simp only [Bool.false_or]) ?_
        refine sxo_nil ?_
        exact sxq_case (lk_cons rfl (lk_cons rfl (lk_cons rfl (lk_cons rfl (lk_cons rfl lk_nil)))))
      refine sxo_take (os := _) rfl ?_
      refine sxo_move rfl rfl rfl ?_
      refine sxo_case 4 (((x3.2.2 : Int) != 0) || ((x7.2.2 : Int) != 0)) [(5, .pointer (some ⟨g6, 0, none⟩)), (7, .pointer (some ⟨g10, 0, none⟩)), (37, .bool ((((x3.2.2 : Int) != 0) || ((x7.2.2 : Int) != 0)) || (decide (x2 ≤ x1))))] (fun h25 => ?_) (fun h25 => ?_) ?_
      · refine sxo_take (os := _) rfl ?_
        refine sxo_isT (k := 33) rfl h25 ?_
        refine sxo_skip rfl rfl rfl ?_
        refine sxo_skip rfl rfl rfl ?_
        refine sxo_skip rfl rfl rfl ?_
        refine sxo_pick (b := true) rfl rfl rfl rfl ?_
        refine sxo_again (d := 37) (v := .bool ((((x3.2.2 : Int) != 0) || ((x7.2.2 : Int) != 0)) || (decide (x2 ≤ x1)))) rfl (by rw [h25]; simp only [Bool.true_or]) ?_
        refine sxo_nil ?_
        exact sxq_case (lk_cons rfl (lk_cons rfl (lk_cons rfl lk_nil)))
      · refine sxo_take (os := _) rfl ?_
        refine sxo_isF (k := 33) rfl h25 ?_
        refine sxo_move rfl rfl rfl ?_
        refine sxo_move rfl rfl rfl ?_
        refine sxo_geq rfl rfl rfl rfl ?_
        refine sxo_pick (b := false) rfl rfl rfl rfl ?_
        refine sxo_again (d := 37) (v := .bool ((((x3.2.2 : Int) != 0) || ((x7.2.2 : Int) != 0)) || (decide (x2 ≤ x1)))) rfl (by rw [h25]; simp only [Bool.false_or]) ?_
        refine sxo_nil ?_
        exact sxq_case (lk_cons rfl (lk_cons rfl (lk_cons rfl lk_nil)))
      refine sxo_take (os := _) rfl ?_
      refine sxo_nil ?_
      refine sxq_next ?_
      refine sxc_if rfl (fun h34 => ?_) (fun h34 => ?_)
      · refine sxc_seq ?_
        refine sxc_region ?_
        refine sxo_assign rfl rfl rfl ?_
        refine sxo_nil ?_
        refine sxq_next ?_
        refine sxc_ret ?_
        refine sxq_thenR ?_
        exact sxq_doneP () (.inl rfl) (res1 rfl rfl) (fun h => by subst h; rfl) (fun h => by subst h; exact .nil)
      · refine sxc_skip ?_
        refine sxq_next ?_
        refine sxc_seq ?_
        refine sxc_region ?_
        refine sxo_loadB (i := 0) rfl rfl tf24 rfl rfl (by simp) rfl rfl ?_
        refine sxo_fieldAddr rfl rfl ff24_0 rfl ?_
        refine sxo_loadB (i := 1) rfl rfl tf3 rfl rfl (fun _ => rfl) rfl rfl ?_
        refine sxo_callM ent39 rfl rfl rfl (fun x26 e26 => C_bits_Cut F x7.1 x7.2.1 a8 c9 0 x3.1 x26 e26) .nil .nil (.consR 0 (Ro (eI .u8) 5 1 (.slice a8 x7.2.1.length c9) x7.2.1) rfl .nil) (fun x26 e26 => ?_)
        rintro ⟨a27, c28⟩
        refine sxo_move rfl rfl rfl ?_
        refine sxo_extract rfl rfl rfl rfl ?_
        refine sxo_extract rfl rfl rfl rfl ?_
        refine sxo_alloc rfl tf24 rfl (fun g29 => ?_)
        refine sxo_storeB (i := 0) rfl rfl rfl tf24 rfl rfl rfl rfl rfl ?_
        refine sxo_assign rfl rfl rfl ?_
        refine sxo_nil ?_
        refine sxq_next ?_
        refine sxc_seq ?_
        refine sxc_region ?_
        refine sxo_move rfl rfl rfl ?_
        refine sxo_eql rfl rfl rfl rfl ?_
        refine sxo_move rfl rfl rfl ?_
        refine sxo_join 5 (fun ((x32, _) : (Bool × Unit)) => [(52, .bool x32)]) (fun ((x32, _) : (Bool × Unit)) => []) (fun ((x32, _) : (Bool × Unit)) => []) (fun ((x32, _) : (Bool × Unit)) => []) (fun ((x32, _) : (Bool × Unit)) => M_L_UnaryApart_j3 F x32) ?_ ?_
        · refine sxo_take (os := _) rfl ?_
          refine sxo_if (fun h30 => ?_) (fun h30 => ?_)
          · refine sxo_isT (k := 47) rfl h30 ?_
            refine sxo_loadB (i := 0) rfl rfl tf24 rfl rfl (by simp) rfl rfl ?_
            refine sxo_loadB (i := 2) rfl rfl tf24 rfl rfl (by simp) rfl rfl ?_
            refine sxo_call ent36 rfl rfl rfl (fun x33 e33 => C_R_SameBits F x26.1 x26.2.1 a27 c28 x3.1 x3.2.1 a4 c5 x33 e33) (.consR 0 (Ro (eI .u8) 5 1 (.slice a27 x26.2.1.length c28) x26.2.1) rfl (.consR 2 (Ro (eI .u8) 5 1 (.slice a4 x3.2.1.length c5) x3.2.1) rfl .nil)) (fun x33 e33 => ?_)
            intro _
            refine sxo_not rfl rfl rfl ?_
            refine sxo_pick (b := true) rfl rfl rfl rfl ?_
            refine sxo_nil ?_
            exact sxq_meetP ((!x33), ()) (lk_cons rfl lk_nil) .nil .nil fk_nil
          · refine sxo_isF (k := 47) rfl h30 ?_
            refine sxo_skip rfl rfl rfl ?_
            refine sxo_skip rfl rfl rfl ?_
            refine sxo_skip rfl rfl rfl ?_
            refine sxo_skip rfl rfl rfl ?_
            refine sxo_pick (b := false) rfl rfl rfl rfl ?_
            refine sxo_nil ?_
            exact sxq_meetP (false, ()) (lk_cons rfl lk_nil) .nil .nil fk_nil
        · rintro ⟨x32, _⟩
          try dsimp only
          refine sxo_take (os := _) rfl ?_
          refine sxo_assign rfl rfl rfl ?_
          refine sxo_nil ?_
          refine sxq_next ?_
          refine sxc_ret ?_
          exact sxq_doneP () (.inl rfl) (res1 rfl rfl) (fun h => by subst h; rfl) (fun h => by subst h; exact .nil)
end Go.Proofs.Ytbdfbheddihefaa
