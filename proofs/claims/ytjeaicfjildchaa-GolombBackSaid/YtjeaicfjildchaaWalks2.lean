/- Each Go function of this seat computes what its model says, part 2. -/
import Derived.Test.YtjeaicfjildchaaWalks
namespace Go.Proofs.Ytjeaicfjildchaa
open Go SX
theorem C_L_GolombBack_3 (F : Nat) (x1 : Int) (x2 : List Int) (a3 : Option Addr) (c4 : Nat) (g5 : Nat) (x6 : Int) (r : (Int × Int × Int)) (hm : M_L_GolombBack_3 F x1 x2 x6 = some r) :
    PureM Try.prog 48 [.agg #[.int .i64 x1, .slice a3 x2.length c4], .pointer (some ⟨g5, 0, none⟩)] [⟨g5, 22, [.int .u64 x6]⟩] [] [Sl (eI .u8) 1 (.slice a3 x2.length c4) x2] Unit (fun _ => .tuple #[.int .u64 r.1, .int .i64 r.2.1, .int .i64 r.2.2]) (fun _ => [⟨g5, 22, [.int .u64 x6]⟩]) (fun _ => []) := by
  refine pureM_of Try.func48 rfl Try.ntmps48 rfl hm (fun w => ?_)
  refine sxc_env (l' := [(0, .agg #[.int .i64 x1, .slice a3 x2.length c4]), (1, .pointer (some ⟨g5, 0, none⟩))]) rfl ?_
  refine sxc_seq ?_
  refine sxc_region ?_
  refine sxo_box rfl rfl rfl (fun g7 => ?_)
  refine sxo_assign rfl rfl rfl ?_
  refine sxo_assign rfl rfl rfl ?_
  refine sxo_assign rfl rfl rfl ?_
  refine sxo_nil ?_
  refine sxq_next ?_
  refine sxc_seq ?_
  refine sxc_region ?_
  refine sxo_loadB (i := 0) rfl rfl tf25 rfl rfl (by simp) rfl rfl ?_
  refine sxo_loadB (i := 1) rfl rfl tf22 rfl rfl (fun _ => rfl) rfl rfl ?_
  refine sxo_call ent32 rfl rfl rfl (fun x8 e8 => C_golomb_Read F x1 x2 a3 c4 0 x6 x8 e8) (.consF 0 rfl .nil) (fun x8 e8 => ?_)
  intro _
  refine sxo_extract rfl rfl rfl rfl ?_
  refine sxo_extract rfl rfl rfl rfl ?_
  refine sxo_extract rfl rfl rfl rfl ?_
  refine sxo_assign rfl rfl rfl ?_
  refine sxo_assign rfl rfl rfl ?_
  refine sxo_assign rfl rfl rfl ?_
  refine sxo_nil ?_
  refine sxq_next ?_
  refine sxc_ret ?_
  exact sxq_doneM () (.inl rfl) (res3 rfl rfl rfl rfl) (fun h => by subst h; rfl) (fun h => by subst h; exact (.cons 1 rfl .nil)) (fun h => by subst h; exact .nil)

theorem C_L_GolombBack_1_L_GolombBack_3 (F : Nat) (x1 : Int) (x2 : List Int) (a3 : Option Addr) (c4 : Nat) (x5 : Int) (g6 : Nat) (x7 : Int) (g8 : Nat) (x9 : Int) (x10 : List Int) (a11 : Option Addr) (c12 : Nat) (g13 : Nat) (x14 : Int) (r : Bool) (hm : M_L_GolombBack_1_L_GolombBack_3 F x1 x2 x5 x7 x9 x10 x14 = some r) :
    PureM Try.prog 46 [.agg #[.int .i64 x1, .slice a3 x2.length c4], .int .i64 x5, .func (.func 48) #[] #[.pointer (some ⟨g6, 0, none⟩)], .pointer (some ⟨g8, 0, none⟩), .pointer (some ⟨g13, 0, none⟩)] [⟨g6, 22, [.int .u64 x7]⟩, ⟨g8, 25, [.int .i64 x9, .slice a11 x10.length c12]⟩, ⟨g13, 22, [.int .u64 x14]⟩] [] [Sl (eI .u8) 1 (.slice a3 x2.length c4) x2, Sl (eI .u8) 1 (.slice a11 x10.length c12) x10] Unit (fun _ => .bool r) (fun _ => [⟨g6, 22, [.int .u64 x7]⟩, ⟨g8, 25, [.int .i64 x9, .slice a11 x10.length c12]⟩, ⟨g13, 22, [.int .u64 x14]⟩]) (fun _ => []) := by
  refine pureM_of Try.func46 rfl Try.ntmps46 rfl hm (fun w => ?_)
  refine sxc_env (l' := [(0, .agg #[.int .i64 x1, .slice a3 x2.length c4]), (1, .int .i64 x5), (2, .func (.func 48) #[] #[.pointer (some ⟨g6, 0, none⟩)]), (3, .pointer (some ⟨g8, 0, none⟩)), (4, .pointer (some ⟨g13, 0, none⟩))]) rfl ?_
  refine sxc_seq ?_
  refine sxc_region ?_
  refine sxo_box rfl rfl rfl (fun g15 => ?_)
  refine sxo_assign rfl rfl rfl ?_
  refine sxo_nil ?_
  refine sxq_next ?_
  refine sxc_seq ?_
  refine sxc_region ?_
  refine sxo_loadB (i := 0) rfl rfl tf25 rfl rfl (by simp) rfl rfl ?_
  refine sxo_loadB (i := 2) rfl rfl tf25 rfl rfl (by simp) rfl rfl ?_
  refine sxo_call ent43 rfl rfl rfl (fun x16 e16 => C_bits_Join F x1 x2 a3 c4 x9 x10 a11 c12 x16 e16) (.consF 0 rfl (.consF 1 rfl .nil)) (fun x16 e16 => ?_)
  rintro ⟨a17, c18⟩
  refine sxo_move rfl rfl rfl ?_
  refine sxo_extract rfl rfl rfl rfl ?_
  refine sxo_extract rfl rfl rfl rfl ?_
  refine sxo_alloc rfl tf25 rfl (fun g19 => ?_)
  refine sxo_storeB (i := 0) rfl rfl rfl tf25 rfl rfl rfl rfl rfl ?_
  refine sxo_assign rfl rfl rfl ?_
  refine sxo_nil ?_
  refine sxq_next ?_
  refine sxc_seq ?_
  refine sxc_seq ?_
  refine sxc_region ?_
  refine sxo_move rfl rfl rfl ?_
  refine sxo_neq rfl rfl rfl rfl ?_
  refine sxo_move rfl rfl rfl ?_
  refine sxo_case 3 ((x5 : Int) != 0) [(1, .int .i64 x5), (2, .func (.func 48) #[] #[.pointer (some ⟨g6, 0, none⟩)]), (4, .pointer (some ⟨g13, 0, none⟩)), (5, .pointer (some ⟨g15, 0, none⟩)), (9, .pointer (some ⟨g19, 0, none⟩)), (25, .bool (((x5 : Int) != 0) || ((x16.2.2 : Int) != 0)))] (fun h26 => ?_) (fun h26 => ?_) ?_
  · refine sxo_take (os := _) rfl ?_
    refine sxo_isT (k := 22) rfl h26 ?_
    refine sxo_skip rfl rfl rfl ?_
    refine sxo_skip rfl rfl rfl ?_
    refine sxo_pick (b := true) rfl rfl rfl rfl ?_
    refine sxo_again (d := 25) (v := .bool (((x5 : Int) != 0) || ((x16.2.2 : Int) != 0))) rfl (by rw [h26]; simp only [Bool.true_or]) ?_
    refine sxo_nil ?_
    exact sxq_case (lk_cons rfl (lk_cons rfl (lk_cons rfl (lk_cons rfl (lk_cons rfl (lk_cons rfl lk_nil))))))
  · refine sxo_take (os := _) rfl ?_
    refine sxo_isF (k := 22) rfl h26 ?_
    refine sxo_move rfl rfl rfl ?_
    refine sxo_neq rfl rfl rfl rfl ?_
    refine sxo_pick (b := false) rfl rfl rfl rfl ?_
    refine sxo_again (d := 25) (v := .bool (((x5 : Int) != 0) || ((x16.2.2 : Int) != 0))) rfl (by rw [h26]; simp only [Bool.false_or]) ?_
    refine sxo_nil ?_
    exact sxq_case (lk_cons rfl (lk_cons rfl (lk_cons rfl (lk_cons rfl (lk_cons rfl (lk_cons rfl lk_nil))))))
  refine sxo_take (os := _) rfl ?_
  refine sxo_nil ?_
  refine sxq_next ?_
  refine sxc_if rfl (fun h34 => ?_) (fun h34 => ?_)
  · refine sxc_seq ?_
    refine sxc_region ?_
    refine sxo_move rfl rfl rfl ?_
    refine sxo_eql rfl rfl rfl rfl ?_
    refine sxo_move rfl rfl rfl ?_
    refine sxo_join 4 (fun ((x29, _) : (Bool × Unit)) => [(32, .bool x29)]) (fun ((x29, _) : (Bool × Unit)) => [⟨g6, 22, [.int .u64 x7]⟩, ⟨g8, 25, [.int .i64 x9, .slice a11 x10.length c12]⟩, ⟨g13, 22, [.int .u64 x14]⟩]) (fun ((x29, _) : (Bool × Unit)) => []) (fun ((x29, _) : (Bool × Unit)) => [Sl (eI .u8) 1 (.slice a11 x10.length c12) x10]) (fun ((x29, _) : (Bool × Unit)) => M_L_GolombBack_1_L_GolombBack_3_j2 F x29) ?_ ?_
    · refine sxo_take (os := _) rfl ?_
      refine sxo_if (fun h27 => ?_) (fun h27 => ?_)
      · refine sxo_isT (k := 28) rfl h27 ?_
        refine sxo_skip rfl rfl rfl ?_
        refine sxo_skip rfl rfl rfl ?_
        refine sxo_skip rfl rfl rfl ?_
        refine sxo_pick (b := true) rfl rfl rfl rfl ?_
        refine sxo_nil ?_
        exact sxq_meetP (true, ()) (lk_cons rfl lk_nil) (.cons 2 rfl (.cons 2 rfl (.cons 2 rfl .nil))) .nil (fk_cons 1 rfl fk_nil)
      · refine sxo_isF (k := 28) rfl h27 ?_
        refine sxo_loadB (i := 1) rfl rfl tf25 rfl rfl (by simp) rfl rfl ?_
        refine sxo_build (cells := [.int .i64 0, .slice none 0 0]) rfl st25 rfl (by kernel_rfl) rfl ?_
        refine sxo_nilrow' Int (eI .u8) 5 1 ?_
        refine sxo_call ent28 rfl rfl rfl (fun x30 e30 => C_R_SameBits F x1 x2 a3 c4 0 ([] : List Int) none 0 x30 e30) (.consF 0 rfl (.consR 0 (Ro (eI .u8) 5 1 (.slice none ([] : List Int).length 0) ([] : List Int)) rfl .nil)) (fun x30 e30 => ?_)
        intro _
        refine sxo_pick (b := false) rfl rfl rfl rfl ?_
        refine sxo_nil ?_
        exact sxq_meetP (x30, ()) (lk_cons rfl lk_nil) (.cons 2 rfl (.cons 2 rfl (.cons 2 rfl .nil))) .nil (fk_cons 1 rfl fk_nil)
    · rintro ⟨x29, _⟩
      try dsimp only
      refine sxo_take (os := _) rfl ?_
      refine sxo_assign rfl rfl rfl ?_
      refine sxo_nil ?_
      refine sxq_next ?_
      refine sxc_ret ?_
      refine sxq_thenR ?_
      exact sxq_doneM () (.inl rfl) (res1 rfl rfl) (fun h => by subst h; rfl) (fun h => by subst h; exact (.cons 0 rfl (.cons 0 rfl (.cons 0 rfl .nil)))) (fun h => by subst h; exact .nil)
  · refine sxc_skip ?_
    refine sxq_next ?_
    refine sxc_seq ?_
    refine sxc_region ?_
    refine sxo_move rfl rfl rfl ?_
    refine sxo_loadB (i := 0) rfl rfl tf25 rfl rfl (by simp) rfl rfl ?_
    refine sxo_callMV ent48 rfl rfl rfl rfl (fun x31 e31 => C_L_GolombBack_3 F x16.1 x16.2.1 a17 c18 g6 x7 x31 e31) (.cons 2 rfl .nil) .nil (.consR 0 (Ro (eI .u8) 5 1 (.slice a17 x16.2.1.length c18) x16.2.1) rfl .nil) (fun x31 e31 => ?_)
    intro _
    refine sxo_move rfl rfl rfl ?_
    refine sxo_extract rfl rfl rfl rfl ?_
    refine sxo_extract rfl rfl rfl rfl ?_
    refine sxo_extract rfl rfl rfl rfl ?_
    refine sxo_assign rfl rfl rfl ?_
    refine sxo_assign rfl rfl rfl ?_
    refine sxo_assign rfl rfl rfl ?_
    refine sxo_nil ?_
    refine sxq_next ?_
    refine sxc_seq ?_
    refine sxc_region ?_
    refine sxo_move rfl rfl rfl ?_
    refine sxo_eql rfl rfl rfl rfl ?_
    refine sxo_move rfl rfl rfl ?_
    refine sxo_case 4 ((x31.2.2 : Int) == 0) [(5, .pointer (some ⟨g15, 0, none⟩)), (12, .int .i64 x31.2.1), (46, .bool (((x31.2.2 : Int) == 0) && ((x31.1 : Int) == x14)))] (fun h32 => ?_) (fun h32 => ?_) ?_
    · refine sxo_take (os := _) rfl ?_
      refine sxo_isT (k := 42) rfl h32 ?_
      refine sxo_move rfl rfl rfl ?_
      refine sxo_loadB (i := 4) rfl rfl tf22 rfl rfl (fun _ => rfl) rfl rfl ?_
      refine sxo_eql rfl rfl rfl rfl ?_
      refine sxo_pick (b := true) rfl rfl rfl rfl ?_
      refine sxo_again (d := 46) (v := .bool (((x31.2.2 : Int) == 0) && ((x31.1 : Int) == x14))) rfl (by rw [h32]; simp only [Bool.true_and]) ?_
      refine sxo_nil ?_
      exact sxq_case (lk_cons rfl (lk_cons rfl (lk_cons rfl lk_nil)))
    · refine sxo_take (os := _) rfl ?_
      refine sxo_isF (k := 42) rfl h32 ?_
      refine sxo_skip rfl rfl rfl ?_
      refine sxo_skip rfl rfl rfl ?_
      refine sxo_skip rfl rfl rfl ?_
      refine sxo_pick (b := false) rfl rfl rfl rfl ?_
      refine sxo_again (d := 46) (v := .bool (((x31.2.2 : Int) == 0) && ((x31.1 : Int) == x14))) rfl (by rw [h32]; simp only [Bool.false_and]) ?_
      refine sxo_nil ?_
      exact sxq_case (lk_cons rfl (lk_cons rfl (lk_cons rfl lk_nil)))
    refine sxo_take (os := _) rfl ?_
    refine sxo_move rfl rfl rfl ?_
    refine sxo_case 5 (((x31.2.2 : Int) == 0) && ((x31.1 : Int) == x14)) [(52, .bool ((((x31.2.2 : Int) == 0) && ((x31.1 : Int) == x14)) && ((x31.2.1 : Int) == x1)))] (fun h33 => ?_) (fun h33 => ?_) ?_
    · refine sxo_take (os := _) rfl ?_
      refine sxo_isT (k := 47) rfl h33 ?_
      refine sxo_move rfl rfl rfl ?_
      refine sxo_fieldAddr rfl rfl ff25_0 rfl ?_
      refine sxo_loadB (i := 2) rfl rfl tf3 rfl rfl (fun _ => rfl) rfl rfl ?_
      refine sxo_eql rfl rfl rfl rfl ?_
      refine sxo_pick (b := true) rfl rfl rfl rfl ?_
      refine sxo_again (d := 52) (v := .bool ((((x31.2.2 : Int) == 0) && ((x31.1 : Int) == x14)) && ((x31.2.1 : Int) == x1))) rfl (by rw [h33]; simp only [Bool.true_and]) ?_
      refine sxo_nil ?_
      exact sxq_case (lk_cons rfl lk_nil)
    · refine sxo_take (os := _) rfl ?_
      refine sxo_isF (k := 47) rfl h33 ?_
      refine sxo_skip rfl rfl rfl ?_
      refine sxo_skip rfl rfl rfl ?_
      refine sxo_skip rfl rfl rfl ?_
      refine sxo_skip rfl rfl rfl ?_
      refine sxo_pick (b := false) rfl rfl rfl rfl ?_
      refine sxo_again (d := 52) (v := .bool ((((x31.2.2 : Int) == 0) && ((x31.1 : Int) == x14)) && ((x31.2.1 : Int) == x1))) rfl (by rw [h33]; simp only [Bool.false_and]) ?_
      refine sxo_nil ?_
      exact sxq_case (lk_cons rfl lk_nil)
    refine sxo_take (os := _) rfl ?_
    refine sxo_assign rfl rfl rfl ?_
    refine sxo_nil ?_
    refine sxq_next ?_
    refine sxc_ret ?_
    exact sxq_doneM () (.inl rfl) (res1 rfl rfl) (fun h => by subst h; rfl) (fun h => by subst h; exact (.cons 0 rfl (.cons 2 rfl (.cons 2 rfl .nil)))) (fun h => by subst h; exact .nil)

theorem C_L_GolombBack_4 (F : Nat) (x1 : Int) (x2 : List Int) (a3 : Option Addr) (c4 : Nat) (g5 : Nat) (x6 : Int) (r : (Int × Int × Int)) (hm : M_L_GolombBack_4 F x1 x2 x6 = some r) :
    PureM Try.prog 49 [.agg #[.int .i64 x1, .slice a3 x2.length c4], .pointer (some ⟨g5, 0, none⟩)] [⟨g5, 3, [.int .i64 x6]⟩] [] [Sl (eI .u8) 1 (.slice a3 x2.length c4) x2] Unit (fun _ => .tuple #[.int .u64 r.1, .int .i64 r.2.1, .int .i64 r.2.2]) (fun _ => [⟨g5, 3, [.int .i64 x6]⟩]) (fun _ => []) := by
  refine pureM_of Try.func49 rfl Try.ntmps49 rfl hm (fun w => ?_)
  refine sxc_env (l' := [(0, .agg #[.int .i64 x1, .slice a3 x2.length c4]), (1, .pointer (some ⟨g5, 0, none⟩))]) rfl ?_
  refine sxc_seq ?_
  refine sxc_region ?_
  refine sxo_box rfl rfl rfl (fun g7 => ?_)
  refine sxo_assign rfl rfl rfl ?_
  refine sxo_assign rfl rfl rfl ?_
  refine sxo_assign rfl rfl rfl ?_
  refine sxo_nil ?_
  refine sxq_next ?_
  refine sxc_seq ?_
  refine sxc_region ?_
  refine sxo_loadB (i := 0) rfl rfl tf25 rfl rfl (by simp) rfl rfl ?_
  refine sxo_loadB (i := 1) rfl rfl tf3 rfl rfl (fun _ => rfl) rfl rfl ?_
  refine sxo_call ent39 rfl rfl rfl (fun x8 e8 => C_golomb_ReadZeta F x1 x2 a3 c4 0 x6 x8 e8) (.consF 0 rfl .nil) (fun x8 e8 => ?_)
  intro _
  refine sxo_extract rfl rfl rfl rfl ?_
  refine sxo_extract rfl rfl rfl rfl ?_
  refine sxo_extract rfl rfl rfl rfl ?_
  refine sxo_assign rfl rfl rfl ?_
  refine sxo_assign rfl rfl rfl ?_
  refine sxo_assign rfl rfl rfl ?_
  refine sxo_nil ?_
  refine sxq_next ?_
  refine sxc_ret ?_
  exact sxq_doneM () (.inl rfl) (res3 rfl rfl rfl rfl) (fun h => by subst h; rfl) (fun h => by subst h; exact (.cons 1 rfl .nil)) (fun h => by subst h; exact .nil)

theorem C_L_GolombBack_1_L_GolombBack_4 (F : Nat) (x1 : Int) (x2 : List Int) (a3 : Option Addr) (c4 : Nat) (x5 : Int) (g6 : Nat) (x7 : Int) (g8 : Nat) (x9 : Int) (x10 : List Int) (a11 : Option Addr) (c12 : Nat) (g13 : Nat) (x14 : Int) (r : Bool) (hm : M_L_GolombBack_1_L_GolombBack_4 F x1 x2 x5 x7 x9 x10 x14 = some r) :
    PureM Try.prog 46 [.agg #[.int .i64 x1, .slice a3 x2.length c4], .int .i64 x5, .func (.func 49) #[] #[.pointer (some ⟨g6, 0, none⟩)], .pointer (some ⟨g8, 0, none⟩), .pointer (some ⟨g13, 0, none⟩)] [⟨g6, 3, [.int .i64 x7]⟩, ⟨g8, 25, [.int .i64 x9, .slice a11 x10.length c12]⟩, ⟨g13, 22, [.int .u64 x14]⟩] [] [Sl (eI .u8) 1 (.slice a3 x2.length c4) x2, Sl (eI .u8) 1 (.slice a11 x10.length c12) x10] Unit (fun _ => .bool r) (fun _ => [⟨g6, 3, [.int .i64 x7]⟩, ⟨g8, 25, [.int .i64 x9, .slice a11 x10.length c12]⟩, ⟨g13, 22, [.int .u64 x14]⟩]) (fun _ => []) := by
  refine pureM_of Try.func46 rfl Try.ntmps46 rfl hm (fun w => ?_)
  refine sxc_env (l' := [(0, .agg #[.int .i64 x1, .slice a3 x2.length c4]), (1, .int .i64 x5), (2, .func (.func 49) #[] #[.pointer (some ⟨g6, 0, none⟩)]), (3, .pointer (some ⟨g8, 0, none⟩)), (4, .pointer (some ⟨g13, 0, none⟩))]) rfl ?_
  refine sxc_seq ?_
  refine sxc_region ?_
  refine sxo_box rfl rfl rfl (fun g15 => ?_)
  refine sxo_assign rfl rfl rfl ?_
  refine sxo_nil ?_
  refine sxq_next ?_
  refine sxc_seq ?_
  refine sxc_region ?_
  refine sxo_loadB (i := 0) rfl rfl tf25 rfl rfl (by simp) rfl rfl ?_
  refine sxo_loadB (i := 2) rfl rfl tf25 rfl rfl (by simp) rfl rfl ?_
  refine sxo_call ent43 rfl rfl rfl (fun x16 e16 => C_bits_Join F x1 x2 a3 c4 x9 x10 a11 c12 x16 e16) (.consF 0 rfl (.consF 1 rfl .nil)) (fun x16 e16 => ?_)
  rintro ⟨a17, c18⟩
  refine sxo_move rfl rfl rfl ?_
  refine sxo_extract rfl rfl rfl rfl ?_
  refine sxo_extract rfl rfl rfl rfl ?_
  refine sxo_alloc rfl tf25 rfl (fun g19 => ?_)
  refine sxo_storeB (i := 0) rfl rfl rfl tf25 rfl rfl rfl rfl rfl ?_
  refine sxo_assign rfl rfl rfl ?_
  refine sxo_nil ?_
  refine sxq_next ?_
  refine sxc_seq ?_
  refine sxc_seq ?_
  refine sxc_region ?_
  refine sxo_move rfl rfl rfl ?_
  refine sxo_neq rfl rfl rfl rfl ?_
  refine sxo_move rfl rfl rfl ?_
  refine sxo_case 3 ((x5 : Int) != 0) [(1, .int .i64 x5), (2, .func (.func 49) #[] #[.pointer (some ⟨g6, 0, none⟩)]), (4, .pointer (some ⟨g13, 0, none⟩)), (5, .pointer (some ⟨g15, 0, none⟩)), (9, .pointer (some ⟨g19, 0, none⟩)), (25, .bool (((x5 : Int) != 0) || ((x16.2.2 : Int) != 0)))] (fun h26 => ?_) (fun h26 => ?_) ?_
  · refine sxo_take (os := _) rfl ?_
    refine sxo_isT (k := 22) rfl h26 ?_
    refine sxo_skip rfl rfl rfl ?_
    refine sxo_skip rfl rfl rfl ?_
    refine sxo_pick (b := true) rfl rfl rfl rfl ?_
    refine sxo_again (d := 25) (v := .bool (((x5 : Int) != 0) || ((x16.2.2 : Int) != 0))) rfl (by rw [h26]; simp only [Bool.true_or]) ?_
    refine sxo_nil ?_
    exact sxq_case (lk_cons rfl (lk_cons rfl (lk_cons rfl (lk_cons rfl (lk_cons rfl (lk_cons rfl lk_nil))))))
  · refine sxo_take (os := _) rfl ?_
    refine sxo_isF (k := 22) rfl h26 ?_
    refine sxo_move rfl rfl rfl ?_
    refine sxo_neq rfl rfl rfl rfl ?_
    refine sxo_pick (b := false) rfl rfl rfl rfl ?_
    refine sxo_again (d := 25) (v := .bool (((x5 : Int) != 0) || ((x16.2.2 : Int) != 0))) rfl (by rw [h26]; simp only [Bool.false_or]) ?_
    refine sxo_nil ?_
    exact sxq_case (lk_cons rfl (lk_cons rfl (lk_cons rfl (lk_cons rfl (lk_cons rfl (lk_cons rfl lk_nil))))))
  refine sxo_take (os := _) rfl ?_
  refine sxo_nil ?_
  refine sxq_next ?_
  refine sxc_if rfl (fun h34 => ?_) (fun h34 => ?_)
  · refine sxc_seq ?_
    refine sxc_region ?_
    refine sxo_move rfl rfl rfl ?_
    refine sxo_eql rfl rfl rfl rfl ?_
    refine sxo_move rfl rfl rfl ?_
    refine sxo_join 4 (fun ((x29, _) : (Bool × Unit)) => [(32, .bool x29)]) (fun ((x29, _) : (Bool × Unit)) => [⟨g6, 3, [.int .i64 x7]⟩, ⟨g8, 25, [.int .i64 x9, .slice a11 x10.length c12]⟩, ⟨g13, 22, [.int .u64 x14]⟩]) (fun ((x29, _) : (Bool × Unit)) => []) (fun ((x29, _) : (Bool × Unit)) => [Sl (eI .u8) 1 (.slice a11 x10.length c12) x10]) (fun ((x29, _) : (Bool × Unit)) => M_L_GolombBack_1_L_GolombBack_4_j2 F x29) ?_ ?_
    · refine sxo_take (os := _) rfl ?_
      refine sxo_if (fun h27 => ?_) (fun h27 => ?_)
      · refine sxo_isT (k := 28) rfl h27 ?_
        refine sxo_skip rfl rfl rfl ?_
        refine sxo_skip rfl rfl rfl ?_
        refine sxo_skip rfl rfl rfl ?_
        refine sxo_pick (b := true) rfl rfl rfl rfl ?_
        refine sxo_nil ?_
        exact sxq_meetP (true, ()) (lk_cons rfl lk_nil) (.cons 2 rfl (.cons 2 rfl (.cons 2 rfl .nil))) .nil (fk_cons 1 rfl fk_nil)
      · refine sxo_isF (k := 28) rfl h27 ?_
        refine sxo_loadB (i := 1) rfl rfl tf25 rfl rfl (by simp) rfl rfl ?_
        refine sxo_build (cells := [.int .i64 0, .slice none 0 0]) rfl st25 rfl (by kernel_rfl) rfl ?_
        refine sxo_nilrow' Int (eI .u8) 5 1 ?_
        refine sxo_call ent28 rfl rfl rfl (fun x30 e30 => C_R_SameBits F x1 x2 a3 c4 0 ([] : List Int) none 0 x30 e30) (.consF 0 rfl (.consR 0 (Ro (eI .u8) 5 1 (.slice none ([] : List Int).length 0) ([] : List Int)) rfl .nil)) (fun x30 e30 => ?_)
        intro _
        refine sxo_pick (b := false) rfl rfl rfl rfl ?_
        refine sxo_nil ?_
        exact sxq_meetP (x30, ()) (lk_cons rfl lk_nil) (.cons 2 rfl (.cons 2 rfl (.cons 2 rfl .nil))) .nil (fk_cons 1 rfl fk_nil)
    · rintro ⟨x29, _⟩
      try dsimp only
      refine sxo_take (os := _) rfl ?_
      refine sxo_assign rfl rfl rfl ?_
      refine sxo_nil ?_
      refine sxq_next ?_
      refine sxc_ret ?_
      refine sxq_thenR ?_
      exact sxq_doneM () (.inl rfl) (res1 rfl rfl) (fun h => by subst h; rfl) (fun h => by subst h; exact (.cons 0 rfl (.cons 0 rfl (.cons 0 rfl .nil)))) (fun h => by subst h; exact .nil)
  · refine sxc_skip ?_
    refine sxq_next ?_
    refine sxc_seq ?_
    refine sxc_region ?_
    refine sxo_move rfl rfl rfl ?_
    refine sxo_loadB (i := 0) rfl rfl tf25 rfl rfl (by simp) rfl rfl ?_
    refine sxo_callMV ent49 rfl rfl rfl rfl (fun x31 e31 => C_L_GolombBack_4 F x16.1 x16.2.1 a17 c18 g6 x7 x31 e31) (.cons 2 rfl .nil) .nil (.consR 0 (Ro (eI .u8) 5 1 (.slice a17 x16.2.1.length c18) x16.2.1) rfl .nil) (fun x31 e31 => ?_)
    intro _
    refine sxo_move rfl rfl rfl ?_
    refine sxo_extract rfl rfl rfl rfl ?_
    refine sxo_extract rfl rfl rfl rfl ?_
    refine sxo_extract rfl rfl rfl rfl ?_
    refine sxo_assign rfl rfl rfl ?_
    refine sxo_assign rfl rfl rfl ?_
    refine sxo_assign rfl rfl rfl ?_
    refine sxo_nil ?_
    refine sxq_next ?_
    refine sxc_seq ?_
    refine sxc_region ?_
    refine sxo_move rfl rfl rfl ?_
    refine sxo_eql rfl rfl rfl rfl ?_
    refine sxo_move rfl rfl rfl ?_
    refine sxo_case 4 ((x31.2.2 : Int) == 0) [(5, .pointer (some ⟨g15, 0, none⟩)), (12, .int .i64 x31.2.1), (46, .bool (((x31.2.2 : Int) == 0) && ((x31.1 : Int) == x14)))] (fun h32 => ?_) (fun h32 => ?_) ?_
    · refine sxo_take (os := _) rfl ?_
      refine sxo_isT (k := 42) rfl h32 ?_
      refine sxo_move rfl rfl rfl ?_
      refine sxo_loadB (i := 4) rfl rfl tf22 rfl rfl (fun _ => rfl) rfl rfl ?_
      refine sxo_eql rfl rfl rfl rfl ?_
      refine sxo_pick (b := true) rfl rfl rfl rfl ?_
      refine sxo_again (d := 46) (v := .bool (((x31.2.2 : Int) == 0) && ((x31.1 : Int) == x14))) rfl (by rw [h32]; simp only [Bool.true_and]) ?_
      refine sxo_nil ?_
      exact sxq_case (lk_cons rfl (lk_cons rfl (lk_cons rfl lk_nil)))
    · refine sxo_take (os := _) rfl ?_
      refine sxo_isF (k := 42) rfl h32 ?_
      refine sxo_skip rfl rfl rfl ?_
      refine sxo_skip rfl rfl rfl ?_
      refine sxo_skip rfl rfl rfl ?_
      refine sxo_pick (b := false) rfl rfl rfl rfl ?_
      refine sxo_again (d := 46) (v := .bool (((x31.2.2 : Int) == 0) && ((x31.1 : Int) == x14))) rfl (by rw [h32]; simp only [Bool.false_and]) ?_
      refine sxo_nil ?_
      exact sxq_case (lk_cons rfl (lk_cons rfl (lk_cons rfl lk_nil)))
    refine sxo_take (os := _) rfl ?_
    refine sxo_move rfl rfl rfl ?_
    refine sxo_case 5 (((x31.2.2 : Int) == 0) && ((x31.1 : Int) == x14)) [(52, .bool ((((x31.2.2 : Int) == 0) && ((x31.1 : Int) == x14)) && ((x31.2.1 : Int) == x1)))] (fun h33 => ?_) (fun h33 => ?_) ?_
    · refine sxo_take (os := _) rfl ?_
      refine sxo_isT (k := 47) rfl h33 ?_
      refine sxo_move rfl rfl rfl ?_
      refine sxo_fieldAddr rfl rfl ff25_0 rfl ?_
      refine sxo_loadB (i := 2) rfl rfl tf3 rfl rfl (fun _ => rfl) rfl rfl ?_
      refine sxo_eql rfl rfl rfl rfl ?_
      refine sxo_pick (b := true) rfl rfl rfl rfl ?_
      refine sxo_again (d := 52) (v := .bool ((((x31.2.2 : Int) == 0) && ((x31.1 : Int) == x14)) && ((x31.2.1 : Int) == x1))) rfl (by rw [h33]; simp only [Bool.true_and]) ?_
      refine sxo_nil ?_
      exact sxq_case (lk_cons rfl lk_nil)
    · refine sxo_take (os := _) rfl ?_
      refine sxo_isF (k := 47) rfl h33 ?_
      refine sxo_skip rfl rfl rfl ?_
      refine sxo_skip rfl rfl rfl ?_
      refine sxo_skip rfl rfl rfl ?_
      refine sxo_skip rfl rfl rfl ?_
      refine sxo_pick (b := false) rfl rfl rfl rfl ?_
      refine sxo_again (d := 52) (v := .bool ((((x31.2.2 : Int) == 0) && ((x31.1 : Int) == x14)) && ((x31.2.1 : Int) == x1))) rfl (by rw [h33]; simp only [Bool.false_and]) ?_
      refine sxo_nil ?_
      exact sxq_case (lk_cons rfl lk_nil)
    refine sxo_take (os := _) rfl ?_
    refine sxo_assign rfl rfl rfl ?_
    refine sxo_nil ?_
    refine sxq_next ?_
    refine sxc_ret ?_
    exact sxq_doneM () (.inl rfl) (res1 rfl rfl) (fun h => by subst h; rfl) (fun h => by subst h; exact (.cons 0 rfl (.cons 2 rfl (.cons 2 rfl .nil)))) (fun h => by subst h; exact .nil)

theorem C_L_GolombBack (F : Nat) (x1 : Int) (x2 : Int) (x3 : Int) (x4 : Int) (x5 : List Int) (a6 : Option Addr) (c7 : Nat) (r : Bool) (hm : M_L_GolombBack F x1 x2 x3 x4 x5 = some r) :
    Pure Try.prog 12 [.int .u64 x1, .int .u64 x2, .int .i64 x3, .agg #[.int .i64 x4, .slice a6 x5.length c7]] [Sl (eI .u8) 1 (.slice a6 x5.length c7) x5] Unit (fun _ => .bool r) (fun _ => []) (fun _ => []) := by
  refine pure_of Try.func12 rfl Try.ntmps12 rfl hm (fun w => ?_)
  refine sxc_env (l' := [(0, .int .u64 x1), (1, .int .u64 x2), (2, .int .i64 x3), (3, .agg #[.int .i64 x4, .slice a6 x5.length c7])]) rfl ?_
  refine sxc_seq ?_
  refine sxc_region ?_
  refine sxo_box rfl rfl rfl (fun g8 => ?_)
  refine sxo_box rfl rfl rfl (fun g9 => ?_)
  refine sxo_box rfl rfl rfl (fun g10 => ?_)
  refine sxo_box rfl rfl rfl (fun g11 => ?_)
  refine sxo_assign rfl rfl rfl ?_
  refine sxo_nil ?_
  refine sxq_next ?_
  refine sxc_seq ?_
  refine sxc_seq ?_
  refine sxc_region ?_
  refine sxo_call ent37 rfl rfl rfl (fun x18 e18 => C_L_golombBegun F  x18 e18) .nil (fun x18 e18 => ?_)
  intro _
  refine sxo_not rfl rfl rfl ?_
  refine sxo_move rfl rfl rfl ?_
  refine sxo_join 3 (fun ((x21, _) : (Bool × Unit)) => [(4, .pointer (some ⟨g8, 0, none⟩)), (5, .pointer (some ⟨g9, 0, none⟩)), (6, .pointer (some ⟨g10, 0, none⟩)), (7, .pointer (some ⟨g11, 0, none⟩)), (21, .bool x21)]) (fun ((x21, _) : (Bool × Unit)) => [⟨g11, 25, [.int .i64 x4, .slice a6 x5.length c7]⟩, ⟨g10, 3, [.int .i64 x3]⟩, ⟨g9, 22, [.int .u64 x2]⟩, ⟨g8, 22, [.int .u64 x1]⟩]) (fun ((x21, _) : (Bool × Unit)) => []) (fun ((x21, _) : (Bool × Unit)) => [Sl (eI .u8) 1 (.slice a6 x5.length c7) x5]) (fun ((x21, _) : (Bool × Unit)) => M_L_GolombBack_j2 F x1 x2 x3 x4 x5 x21) ?_ ?_
  · refine sxo_take (os := _) rfl ?_
    refine sxo_if (fun h19 => ?_) (fun h19 => ?_)
    · refine sxo_isT (k := 18) rfl h19 ?_
      refine sxo_skip rfl rfl rfl ?_
      refine sxo_skip rfl rfl rfl ?_
      refine sxo_pick (b := true) rfl rfl rfl rfl ?_
      refine sxo_nil ?_
      exact sxq_meetP (true, ()) (lk_cons rfl (lk_cons rfl (lk_cons rfl (lk_cons rfl (lk_cons rfl lk_nil))))) (.cons 0 rfl (.cons 0 rfl (.cons 0 rfl (.cons 0 rfl .nil)))) .nil (fk_cons 0 rfl fk_nil)
    · refine sxo_isF (k := 18) rfl h19 ?_
      refine sxo_call ent42 rfl rfl rfl (fun x44 e44 => C_L_bitsBegun F  x44 e44) .nil (fun x44 e44 => ?_)
      intro _
      refine sxo_not rfl rfl rfl ?_
      refine sxo_pick (b := false) rfl rfl rfl rfl ?_
      refine sxo_nil ?_
      exact sxq_meetP ((!x44), ()) (lk_cons rfl (lk_cons rfl (lk_cons rfl (lk_cons rfl (lk_cons rfl lk_nil))))) (.cons 0 rfl (.cons 0 rfl (.cons 0 rfl (.cons 0 rfl .nil)))) .nil (fk_cons 0 rfl fk_nil)
  · rintro ⟨x21, _⟩
    try dsimp only
    refine sxo_take (os := _) rfl ?_
    refine sxo_nil ?_
    refine sxq_next ?_
    refine sxc_if rfl (fun h43 => ?_) (fun h43 => ?_)
    · refine sxc_seq ?_
      refine sxc_region ?_
      refine sxo_assign rfl rfl rfl ?_
      refine sxo_nil ?_
      refine sxq_next ?_
      refine sxc_ret ?_
      refine sxq_thenR ?_
      exact sxq_doneP () (.inl rfl) (res1 rfl rfl) (fun h => by subst h; rfl) (fun h => by subst h; exact .nil)
    · refine sxc_skip ?_
      refine sxq_next ?_
      refine sxc_seq ?_
      refine sxc_region ?_
      refine sxo_makeFunc rfl rfl rfl ?_
      refine sxo_assign rfl rfl rfl ?_
      refine sxo_nil ?_
      refine sxq_next ?_
      refine sxc_seq ?_
      refine sxc_region ?_
      refine sxo_loadB (i := 3) rfl rfl tf22 rfl rfl (fun _ => rfl) rfl rfl ?_
      refine sxo_loadB (i := 2) rfl rfl tf22 rfl rfl (fun _ => rfl) rfl rfl ?_
      refine sxo_call ent29 rfl rfl rfl (fun x22 e22 => C_golomb_Least F x1 x2 x22 e22) .nil (fun x22 e22 => ?_)
      rintro ⟨a23, c24⟩
      refine sxo_move rfl rfl rfl ?_
      refine sxo_extract rfl rfl rfl rfl ?_
      refine sxo_extract rfl rfl rfl rfl ?_
      refine sxo_alloc rfl tf25 rfl (fun g25 => ?_)
      refine sxo_storeB (i := 0) rfl rfl rfl tf25 rfl rfl rfl rfl rfl ?_
      refine sxo_assign rfl rfl rfl ?_
      refine sxo_nil ?_
      refine sxq_next ?_
      refine sxc_seq ?_
      refine sxc_region ?_
      refine sxo_loadB (i := 4) rfl rfl tf22 rfl rfl (fun _ => rfl) rfl rfl ?_
      refine sxo_loadB (i := 3) rfl rfl tf22 rfl rfl (fun _ => rfl) rfl rfl ?_
      refine sxo_call ent30 rfl rfl rfl (fun x26 e26 => C_golomb_Code F x1 x2 x26 e26) .nil (fun x26 e26 => ?_)
      rintro ⟨a27, c28⟩
      refine sxo_move rfl rfl rfl ?_
      refine sxo_extract rfl rfl rfl rfl ?_
      refine sxo_extract rfl rfl rfl rfl ?_
      refine sxo_alloc rfl tf25 rfl (fun g29 => ?_)
      refine sxo_storeB (i := 0) rfl rfl rfl tf25 rfl rfl rfl rfl rfl ?_
      refine sxo_assign rfl rfl rfl ?_
      refine sxo_nil ?_
      refine sxq_next ?_
      refine sxc_seq ?_
      refine sxc_region ?_
      refine sxo_loadB (i := 5) rfl rfl tf22 rfl rfl (fun _ => rfl) rfl rfl ?_
      refine sxo_loadB (i := 3) rfl rfl tf3 rfl rfl (fun _ => rfl) rfl rfl ?_
      refine sxo_call ent38 rfl rfl rfl (fun x30 e30 => C_golomb_Zeta F x1 x3 x30 e30) .nil (fun x30 e30 => ?_)
      rintro ⟨a31, c32⟩
      refine sxo_move rfl rfl rfl ?_
      refine sxo_extract rfl rfl rfl rfl ?_
      refine sxo_extract rfl rfl rfl rfl ?_
      refine sxo_alloc rfl tf25 rfl (fun g33 => ?_)
      refine sxo_storeB (i := 0) rfl rfl rfl tf25 rfl rfl rfl rfl rfl ?_
      refine sxo_assign rfl rfl rfl ?_
      refine sxo_nil ?_
      refine sxq_next ?_
      refine sxc_seq ?_
      refine sxc_region ?_
      refine sxo_move rfl rfl rfl ?_
      refine sxo_loadB (i := 2) rfl rfl tf25 rfl rfl (by simp) rfl rfl ?_
      refine sxo_move rfl rfl rfl ?_
      refine sxo_makeFunc rfl rfl rfl ?_
      refine sxo_callMV ent46 rfl rfl rfl rfl (fun x34 e34 => C_L_GolombBack_1_L_GolombBack_2 F x22.1 x22.2.1 a23 c24 x22.2.2 g9 x2 g11 x4 x5 a6 c7 g8 x1 x34 e34) (.cons 5 rfl (.cons 3 rfl (.cons 4 rfl .nil))) .nil (.consR 2 (Ro (eI .u8) 5 1 (.slice a23 x22.2.1.length c24) x22.2.1) rfl (.consF 0 rfl .nil)) (fun x34 e34 => ?_)
      intro _
      refine sxo_move rfl rfl rfl ?_
      refine sxo_join 6 (fun ((x37, _) : (Bool × Unit)) => [(6, .pointer (some ⟨g10, 0, none⟩)), (9, .func (.func 46) #[] #[.pointer (some ⟨g11, 0, none⟩), .pointer (some ⟨g8, 0, none⟩)]), (14, .pointer (some ⟨g33, 0, none⟩)), (15, .int .i64 x30.2.2), (52, .bool x37)]) (fun ((x37, _) : (Bool × Unit)) => [⟨g11, 25, [.int .i64 x4, .slice a6 x5.length c7]⟩, ⟨g8, 22, [.int .u64 x1]⟩, ⟨g33, 25, [.int .i64 x30.1, .slice a31 x30.2.1.length c32]⟩, ⟨g10, 3, [.int .i64 x3]⟩]) (fun ((x37, _) : (Bool × Unit)) => [Ro (eI .u8) 5 1 (.slice a31 x30.2.1.length c32) x30.2.1]) (fun ((x37, _) : (Bool × Unit)) => [Sl (eI .u8) 1 (.slice a6 x5.length c7) x5]) (fun ((x37, _) : (Bool × Unit)) => M_L_GolombBack_j3 F x1 x3 x4 x5 x30 x37) ?_ ?_
      · refine sxo_take (os := _) rfl ?_
        refine sxo_if (fun h35 => ?_) (fun h35 => ?_)
        · refine sxo_isT (k := 46) rfl h35 ?_
          refine sxo_move rfl rfl rfl ?_
          refine sxo_loadB (i := 4) rfl rfl tf25 rfl rfl (by simp) rfl rfl ?_
          refine sxo_move rfl rfl rfl ?_
          refine sxo_makeFunc rfl rfl rfl ?_
          refine sxo_callMV ent46 rfl rfl rfl rfl (fun x42 e42 => C_L_GolombBack_1_L_GolombBack_3 F x26.1 x26.2.1 a27 c28 x26.2.2 g9 x2 g11 x4 x5 a6 c7 g8 x1 x42 e42) (.cons 0 rfl (.cons 0 rfl (.cons 0 rfl .nil))) .nil (.consR 1 (Ro (eI .u8) 5 1 (.slice a27 x26.2.1.length c28) x26.2.1) rfl (.consF 0 rfl .nil)) (fun x42 e42 => ?_)
          intro _
          refine sxo_pick (b := true) rfl rfl rfl rfl ?_
          refine sxo_nil ?_
          exact sxq_meetP (x42, ()) (lk_cons rfl (lk_cons rfl (lk_cons rfl (lk_cons rfl (lk_cons rfl lk_nil))))) (.cons 1 rfl (.cons 1 rfl (.cons 1 rfl (.cons 3 rfl .nil)))) (.cons 0 rfl .nil) (fk_cons 0 rfl fk_nil)
        · refine sxo_isF (k := 46) rfl h35 ?_
          refine sxo_skip rfl rfl rfl ?_
          refine sxo_skip rfl rfl rfl ?_
          refine sxo_skip rfl rfl rfl ?_
          refine sxo_skip rfl rfl rfl ?_
          refine sxo_skip rfl rfl rfl ?_
          refine sxo_pick (b := false) rfl rfl rfl rfl ?_
          refine sxo_nil ?_
          exact sxq_meetP (false, ()) (lk_cons rfl (lk_cons rfl (lk_cons rfl (lk_cons rfl (lk_cons rfl lk_nil))))) (.cons 1 rfl (.cons 1 rfl (.cons 1 rfl (.cons 3 rfl .nil)))) (.cons 0 rfl .nil) (fk_cons 0 rfl fk_nil)
      · rintro ⟨x37, _⟩
        try dsimp only
        refine sxo_take (os := _) rfl ?_
        refine sxo_move rfl rfl rfl ?_
        refine sxo_join 6 (fun ((x40, _) : (Bool × Unit)) => [(59, .bool x40)]) (fun ((x40, _) : (Bool × Unit)) => []) (fun ((x40, _) : (Bool × Unit)) => []) (fun ((x40, _) : (Bool × Unit)) => []) (fun ((x40, _) : (Bool × Unit)) => M_L_GolombBack_j4 F x40) ?_ ?_
        · refine sxo_take (os := _) rfl ?_
          refine sxo_if (fun h38 => ?_) (fun h38 => ?_)
          · refine sxo_isT (k := 53) rfl h38 ?_
            refine sxo_move rfl rfl rfl ?_
            refine sxo_loadB (i := 2) rfl rfl tf25 rfl rfl (by simp) rfl rfl ?_
            refine sxo_move rfl rfl rfl ?_
            refine sxo_makeFunc rfl rfl rfl ?_
            refine sxo_callMV ent46 rfl rfl rfl rfl (fun x41 e41 => C_L_GolombBack_1_L_GolombBack_4 F x30.1 x30.2.1 a31 c32 x30.2.2 g10 x3 g11 x4 x5 a6 c7 g8 x1 x41 e41) (.cons 3 rfl (.cons 0 rfl (.cons 0 rfl .nil))) .nil (.consR 0 (Ro (eI .u8) 5 1 (.slice a31 x30.2.1.length c32) x30.2.1) rfl (.consF 0 rfl .nil)) (fun x41 e41 => ?_)
            intro _
            refine sxo_pick (b := true) rfl rfl rfl rfl ?_
            refine sxo_nil ?_
            exact sxq_meetP (x41, ()) (lk_cons rfl lk_nil) .nil .nil fk_nil
          · refine sxo_isF (k := 53) rfl h38 ?_
            refine sxo_skip rfl rfl rfl ?_
            refine sxo_skip rfl rfl rfl ?_
            refine sxo_skip rfl rfl rfl ?_
            refine sxo_skip rfl rfl rfl ?_
            refine sxo_skip rfl rfl rfl ?_
            refine sxo_pick (b := false) rfl rfl rfl rfl ?_
            refine sxo_nil ?_
            exact sxq_meetP (false, ()) (lk_cons rfl lk_nil) .nil .nil fk_nil
        · rintro ⟨x40, _⟩
          try dsimp only
          refine sxo_take (os := _) rfl ?_
          refine sxo_assign rfl rfl rfl ?_
          refine sxo_nil ?_
          refine sxq_next ?_
          refine sxc_ret ?_
          exact sxq_doneP () (.inl rfl) (res1 rfl rfl) (fun h => by subst h; rfl) (fun h => by subst h; exact .nil)
end Go.Proofs.Ytjeaicfjildchaa
