/- Each Go function of this seat computes what its model says, part 2. -/
import Derived.Test.YtghkjonlhphcjaaWalks
namespace Go.Proofs.Ytghkjonlhphcjaa
open Go SX
theorem C_L_PartsBack (F : Nat) (x1 : List Int) (a2 : Option Addr) (c3 : Nat) (x4 : List Int) (a5 : Option Addr) (c6 : Nat) (r : Bool) (hm : M_L_PartsBack F x1 x4 = some r) :
    Pure Try.prog 10 [.slice a2 x1.length c3, .slice a5 x4.length c6] [Sl (eI .i64) 1 (.slice a2 x1.length c3) x1, Sl (eI .i64) 1 (.slice a5 x4.length c6) x4] Unit (fun _ => .bool r) (fun _ => []) (fun _ => []) := by
  refine pure_of Try.func10 rfl Try.ntmps10 rfl hm (fun w => ?_)
  refine sxc_env (l' := [(0, .slice a2 x1.length c3), (1, .slice a5 x4.length c6)]) rfl ?_
  refine sxc_seq ?_
  refine sxc_region ?_
  refine sxo_assign rfl rfl rfl ?_
  refine sxo_nil ?_
  refine sxq_next ?_
  refine sxc_seq ?_
  refine sxc_region ?_
  refine sxo_move rfl rfl rfl ?_
  refine sxo_move rfl rfl rfl ?_
  refine sxo_call ent32 rfl rfl rfl (fun x7 e7 => C_parts_Blocks F x1 a2 c3 x4 a5 c6 x7 e7) (.consF 0 rfl (.consF 1 rfl .nil)) (fun x7 e7 => ?_)
  rintro ⟨⟨a8, c9⟩, ⟨a10, c11⟩⟩
  refine sxo_move rfl rfl rfl ?_
  refine sxo_extract rfl rfl rfl rfl ?_
  refine sxo_extract rfl rfl rfl rfl ?_
  refine sxo_extract rfl rfl rfl rfl ?_
  refine sxo_assign rfl rfl rfl ?_
  refine sxo_assign rfl rfl rfl ?_
  refine sxo_assign rfl rfl rfl ?_
  refine sxo_nil ?_
  refine sxq_next ?_
  refine sxc_seq ?_
  refine sxc_seq ?_
  refine sxc_region ?_
  refine sxo_call ent39 rfl rfl rfl (fun x14 e14 => C_L_partsBegun F  x14 e14) .nil (fun x14 e14 => ?_)
  intro _
  refine sxo_not rfl rfl rfl ?_
  refine sxo_nil ?_
  refine sxq_next ?_
  refine sxc_if rfl (fun h29 => ?_) (fun h29 => ?_)
  · refine sxc_seq ?_
    refine sxc_region ?_
    refine sxo_assign rfl rfl rfl ?_
    refine sxo_nil ?_
    refine sxq_next ?_
    refine sxc_ret ?_
    refine sxq_thenR ?_
    exact sxq_doneP () (.inl rfl) (res1 rfl rfl) (fun h => by subst h; rfl) (fun h => by subst h; exact .nil)
  · refine sxc_skip ?_
    refine sxq_next ?_
    refine sxc_seq ?_
    refine sxc_seq ?_
    refine sxc_region ?_
    refine sxo_move rfl rfl rfl ?_
    refine sxo_neq rfl rfl rfl rfl ?_
    refine sxo_nil ?_
    refine sxq_next ?_
    refine sxc_if rfl (fun h28 => ?_) (fun h28 => ?_)
    · refine sxc_seq ?_
      refine sxc_region ?_
      refine sxo_move rfl rfl rfl ?_
      refine sxo_len rfl Try.underlying32 rfl rfl ?_
      refine sxo_move rfl rfl rfl ?_
      refine sxo_len rfl Try.underlying32 rfl rfl ?_
      refine sxo_add rfl rfl rfl rfl ?_
      refine sxo_eql rfl rfl rfl rfl ?_
      refine sxo_assign rfl rfl rfl ?_
      refine sxo_nil ?_
      refine sxq_next ?_
      refine sxc_ret ?_
      refine sxq_thenR ?_
      exact sxq_doneP () (.inl rfl) (res1 rfl rfl) (fun h => by subst h; rfl) (fun h => by subst h; exact .nil)
    · refine sxc_skip ?_
      refine sxq_next ?_
      refine sxc_seq ?_
      refine sxc_region ?_
      refine sxo_move rfl rfl rfl ?_
      refine sxo_move rfl rfl rfl ?_
      refine sxo_move rfl rfl rfl ?_
      refine sxo_call ent34 rfl rfl rfl (fun x16 e16 => C_parts_Join F x1 a2 c3 x7.1 a8 c9 x7.2.1 a10 c11 x16 e16) (.consF 0 rfl (.consR 0 (Ro (eI .i64) 3 1 (.slice a8 x7.1.length c9) x7.1) rfl (.consR 1 (Ro (eI .i64) 3 1 (.slice a10 x7.2.1.length c11) x7.2.1) rfl .nil))) (fun x16 e16 => ?_)
      rintro ⟨a17, c18⟩
      refine sxo_move rfl rfl rfl ?_
      refine sxo_extract rfl rfl rfl rfl ?_
      refine sxo_extract rfl rfl rfl rfl ?_
      refine sxo_assign rfl rfl rfl ?_
      refine sxo_assign rfl rfl rfl ?_
      refine sxo_nil ?_
      refine sxq_next ?_
      refine sxc_seq ?_
      refine sxc_region ?_
      refine sxo_move rfl rfl rfl ?_
      refine sxo_move rfl rfl rfl ?_
      refine sxo_call ent33 rfl rfl rfl (fun x19 e19 => C_parts_Copy F x1 a2 c3 x7.1 a8 c9 x19 e19) (.consF 0 rfl (.consR 1 (Ro (eI .i64) 3 1 (.slice a8 x7.1.length c9) x7.1) rfl .nil)) (fun x19 e19 => ?_)
      rintro ⟨a20, c21⟩
      refine sxo_move rfl rfl rfl ?_
      refine sxo_extract rfl rfl rfl rfl ?_
      refine sxo_extract rfl rfl rfl rfl ?_
      refine sxo_assign rfl rfl rfl ?_
      refine sxo_assign rfl rfl rfl ?_
      refine sxo_nil ?_
      refine sxq_next ?_
      refine sxc_seq ?_
      refine sxc_region ?_
      refine sxo_move rfl rfl rfl ?_
      refine sxo_eql rfl rfl rfl rfl ?_
      refine sxo_move rfl rfl rfl ?_
      refine sxo_case 3 ((x16.2 : Int) == 0) [(1, .slice a5 x4.length c6), (6, .slice a10 x7.2.1.length c11), (8, .slice a17 x16.1.length c18), (10, .slice a20 x19.1.length c21), (47, .bool (((x16.2 : Int) == 0) && ((x19.2 : Int) == 0)))] (fun h22 => ?_) (fun h22 => ?_) ?_
      · refine sxo_take (os := _) rfl ?_
        refine sxo_isT (k := 44) rfl h22 ?_
        refine sxo_move rfl rfl rfl ?_
        refine sxo_eql rfl rfl rfl rfl ?_
        refine sxo_pick (b := true) rfl rfl rfl rfl ?_
        refine sxo_again (d := 47) (v := .bool (((x16.2 : Int) == 0) && ((x19.2 : Int) == 0))) rfl (by rw [h22]; simp only [Bool.true_and]) ?_
        refine sxo_nil ?_
        exact sxq_case (lk_cons rfl (lk_cons rfl (lk_cons rfl (lk_cons rfl (lk_cons rfl lk_nil)))))
      · refine sxo_take (os := _) rfl ?_
        refine sxo_isF (k := 44) rfl h22 ?_
        refine sxo_skip rfl rfl rfl ?_
        refine sxo_skip rfl rfl rfl ?_
        refine sxo_pick (b := false) rfl rfl rfl rfl ?_
        refine sxo_again (d := 47) (v := .bool (((x16.2 : Int) == 0) && ((x19.2 : Int) == 0))) rfl (by rw [h22]; simp only [Bool.false_and]) ?_
        refine sxo_nil ?_
        exact sxq_case (lk_cons rfl (lk_cons rfl (lk_cons rfl (lk_cons rfl (lk_cons rfl lk_nil)))))
      refine sxo_take (os := _) rfl ?_
      refine sxo_move rfl rfl rfl ?_
      refine sxo_join 4 (fun ((x25, _) : (Bool × Unit)) => [(1, .slice a5 x4.length c6), (6, .slice a10 x7.2.1.length c11), (10, .slice a20 x19.1.length c21), (52, .bool x25)]) (fun ((x25, _) : (Bool × Unit)) => []) (fun ((x25, _) : (Bool × Unit)) => [Ro (eI .i64) 3 1 (.slice a10 x7.2.1.length c11) x7.2.1, Ro (eI .i64) 3 1 (.slice a20 x19.1.length c21) x19.1]) (fun ((x25, _) : (Bool × Unit)) => [Sl (eI .i64) 1 (.slice a5 x4.length c6) x4]) (fun ((x25, _) : (Bool × Unit)) => M_L_PartsBack_j1 F x4 x7 x19 x25) ?_ ?_
      · refine sxo_take (os := _) rfl ?_
        refine sxo_if (fun h23 => ?_) (fun h23 => ?_)
        · refine sxo_isT (k := 48) rfl h23 ?_
          refine sxo_move rfl rfl rfl ?_
          refine sxo_move rfl rfl rfl ?_
          refine sxo_call ent29 rfl rfl rfl (fun x27 e27 => C_R_SameInts F x16.1 a17 c18 x4 a5 c6 x27 e27) (.consR 1 (Ro (eI .i64) 3 1 (.slice a17 x16.1.length c18) x16.1) rfl (.consF 1 rfl .nil)) (fun x27 e27 => ?_)
          intro _
          refine sxo_pick (b := true) rfl rfl rfl rfl ?_
          refine sxo_nil ?_
          exact sxq_meetP (x27, ()) (lk_cons rfl (lk_cons rfl (lk_cons rfl (lk_cons rfl lk_nil)))) .nil (.cons 3 rfl (.cons 0 rfl .nil)) (fk_cons 1 rfl fk_nil)
        · refine sxo_isF (k := 48) rfl h23 ?_
          refine sxo_skip rfl rfl rfl ?_
          refine sxo_skip rfl rfl rfl ?_
          refine sxo_skip rfl rfl rfl ?_
          refine sxo_pick (b := false) rfl rfl rfl rfl ?_
          refine sxo_nil ?_
          exact sxq_meetP (false, ()) (lk_cons rfl (lk_cons rfl (lk_cons rfl (lk_cons rfl lk_nil)))) .nil (.cons 3 rfl (.cons 0 rfl .nil)) (fk_cons 1 rfl fk_nil)
      · rintro ⟨x25, _⟩
        try dsimp only
        refine sxo_take (os := _) rfl ?_
        refine sxo_move rfl rfl rfl ?_
        refine sxo_case 9 x25 [(62, .bool (x25 && (((iadd .i64 (x19.1.length : Int) (x7.2.1.length : Int)) : Int) == (x4.length : Int))))] (fun h26 => ?_) (fun h26 => ?_) ?_
        · refine sxo_take (os := _) rfl ?_
          refine sxo_isT (k := 53) rfl h26 ?_
          refine sxo_move rfl rfl rfl ?_
          refine sxo_len rfl Try.underlying32 rfl rfl ?_
          refine sxo_move rfl rfl rfl ?_
          refine sxo_len rfl Try.underlying32 rfl rfl ?_
          refine sxo_add rfl rfl rfl rfl ?_
          refine sxo_move rfl rfl rfl ?_
          refine sxo_len rfl Try.underlying32 rfl rfl ?_
          refine sxo_eql rfl rfl rfl rfl ?_
          refine sxo_pick (b := true) rfl rfl rfl rfl ?_
          refine sxo_again (d := 62) (v := .bool (x25 && (((iadd .i64 (x19.1.length : Int) (x7.2.1.length : Int)) : Int) == (x4.length : Int)))) rfl (by rw [h26]; simp only [Bool.true_and]) ?_
          refine sxo_nil ?_
          exact sxq_case (lk_cons rfl lk_nil)
        · refine sxo_take (os := _) rfl ?_
          refine sxo_isF (k := 53) rfl h26 ?_
          refine sxo_skip rfl rfl rfl ?_
          refine sxo_skip rfl rfl rfl ?_
          refine sxo_skip rfl rfl rfl ?_
          refine sxo_skip rfl rfl rfl ?_
          refine sxo_skip rfl rfl rfl ?_
          refine sxo_skip rfl rfl rfl ?_
          refine sxo_skip rfl rfl rfl ?_
          refine sxo_skip rfl rfl rfl ?_
          refine sxo_pick (b := false) rfl rfl rfl rfl ?_
          refine sxo_again (d := 62) (v := .bool (x25 && (((iadd .i64 (x19.1.length : Int) (x7.2.1.length : Int)) : Int) == (x4.length : Int)))) rfl (by rw [h26]; simp only [Bool.false_and]) ?_
          refine sxo_nil ?_
          exact sxq_case (lk_cons rfl lk_nil)
        refine sxo_take (os := _) rfl ?_
        refine sxo_assign rfl rfl rfl ?_
        refine sxo_nil ?_
        refine sxq_next ?_
        refine sxc_ret ?_
        exact sxq_doneP () (.inl rfl) (res1 rfl rfl) (fun h => by subst h; rfl) (fun h => by subst h; exact .nil)

theorem C_L_PartsFew (F : Nat) (x1 : List Int) (a2 : Option Addr) (c3 : Nat) (x4 : List Int) (a5 : Option Addr) (c6 : Nat) (r : Bool) (hm : M_L_PartsFew F x1 x4 = some r) :
    Pure Try.prog 11 [.slice a2 x1.length c3, .slice a5 x4.length c6] [Sl (eI .i64) 1 (.slice a2 x1.length c3) x1, Sl (eI .i64) 1 (.slice a5 x4.length c6) x4] Unit (fun _ => .bool r) (fun _ => []) (fun _ => []) := by
  refine pure_of Try.func11 rfl Try.ntmps11 rfl hm (fun w => ?_)
  refine sxc_env (l' := [(0, .slice a2 x1.length c3), (1, .slice a5 x4.length c6)]) rfl ?_
  refine sxc_seq ?_
  refine sxc_region ?_
  refine sxo_assign rfl rfl rfl ?_
  refine sxo_nil ?_
  refine sxq_next ?_
  refine sxc_seq ?_
  refine sxc_region ?_
  refine sxo_move rfl rfl rfl ?_
  refine sxo_move rfl rfl rfl ?_
  refine sxo_call ent33 rfl rfl rfl (fun x7 e7 => C_parts_Copy F x1 a2 c3 x4 a5 c6 x7 e7) (.consF 0 rfl (.consF 1 rfl .nil)) (fun x7 e7 => ?_)
  rintro ⟨a8, c9⟩
  refine sxo_move rfl rfl rfl ?_
  refine sxo_extract rfl rfl rfl rfl ?_
  refine sxo_extract rfl rfl rfl rfl ?_
  refine sxo_assign rfl rfl rfl ?_
  refine sxo_assign rfl rfl rfl ?_
  refine sxo_nil ?_
  refine sxq_next ?_
  refine sxc_seq ?_
  refine sxc_seq ?_
  refine sxc_region ?_
  refine sxo_call ent39 rfl rfl rfl (fun x12 e12 => C_L_partsBegun F  x12 e12) .nil (fun x12 e12 => ?_)
  intro _
  refine sxo_not rfl rfl rfl ?_
  refine sxo_nil ?_
  refine sxq_next ?_
  refine sxc_if rfl (fun h31 => ?_) (fun h31 => ?_)
  · refine sxc_seq ?_
    refine sxc_region ?_
    refine sxo_assign rfl rfl rfl ?_
    refine sxo_nil ?_
    refine sxq_next ?_
    refine sxc_ret ?_
    refine sxq_thenR ?_
    exact sxq_doneP () (.inl rfl) (res1 rfl rfl) (fun h => by subst h; rfl) (fun h => by subst h; exact .nil)
  · refine sxc_skip ?_
    refine sxq_next ?_
    refine sxc_seq ?_
    refine sxc_seq ?_
    refine sxc_region ?_
    refine sxo_move rfl rfl rfl ?_
    refine sxo_neq rfl rfl rfl rfl ?_
    refine sxo_nil ?_
    refine sxq_next ?_
    refine sxc_if rfl (fun h30 => ?_) (fun h30 => ?_)
    · refine sxc_seq ?_
      refine sxc_region ?_
      refine sxo_move rfl rfl rfl ?_
      refine sxo_len rfl Try.underlying32 rfl rfl ?_
      refine sxo_eql rfl rfl rfl rfl ?_
      refine sxo_assign rfl rfl rfl ?_
      refine sxo_nil ?_
      refine sxq_next ?_
      refine sxc_ret ?_
      refine sxq_thenR ?_
      exact sxq_doneP () (.inl rfl) (res1 rfl rfl) (fun h => by subst h; rfl) (fun h => by subst h; exact .nil)
    · refine sxc_skip ?_
      refine sxq_next ?_
      refine sxc_seq ?_
      refine sxc_region ?_
      refine sxo_move rfl rfl rfl ?_
      refine sxo_move rfl rfl rfl ?_
      refine sxo_call ent32 rfl rfl rfl (fun x14 e14 => C_parts_Blocks F x1 a2 c3 x7.1 a8 c9 x14 e14) (.consF 0 rfl (.consR 0 (Ro (eI .i64) 3 1 (.slice a8 x7.1.length c9) x7.1) rfl .nil)) (fun x14 e14 => ?_)
      rintro ⟨⟨a15, c16⟩, ⟨a17, c18⟩⟩
      refine sxo_move rfl rfl rfl ?_
      refine sxo_extract rfl rfl rfl rfl ?_
      refine sxo_extract rfl rfl rfl rfl ?_
      refine sxo_extract rfl rfl rfl rfl ?_
      refine sxo_assign rfl rfl rfl ?_
      refine sxo_assign rfl rfl rfl ?_
      refine sxo_assign rfl rfl rfl ?_
      refine sxo_nil ?_
      refine sxq_next ?_
      refine sxc_seq ?_
      refine sxc_seq ?_
      refine sxc_region ?_
      refine sxo_move rfl rfl rfl ?_
      refine sxo_neq rfl rfl rfl rfl ?_
      refine sxo_move rfl rfl rfl ?_
      refine sxo_case 4 ((x14.2.2 : Int) != 0) [(1, .slice a5 x4.length c6), (7, .slice a15 x14.1.length c16), (36, .bool (((x14.2.2 : Int) != 0) || (((x14.2.1.length : Int) : Int) != 0)))] (fun h22 => ?_) (fun h22 => ?_) ?_
      · refine sxo_take (os := _) rfl ?_
        refine sxo_isT (k := 32) rfl h22 ?_
        refine sxo_skip rfl rfl rfl ?_
        refine sxo_skip rfl rfl rfl ?_
        refine sxo_skip rfl rfl rfl ?_
        refine sxo_pick (b := true) rfl rfl rfl rfl ?_
        refine sxo_again (d := 36) (v := .bool (((x14.2.2 : Int) != 0) || (((x14.2.1.length : Int) : Int) != 0))) rfl (by rw [h22]; simp only [Bool.true_or]) ?_
        refine sxo_nil ?_
        exact sxq_case (lk_cons rfl (lk_cons rfl (lk_cons rfl lk_nil)))
      · refine sxo_take (os := _) rfl ?_
        refine sxo_isF (k := 32) rfl h22 ?_
        refine sxo_move rfl rfl rfl ?_
        refine sxo_len rfl Try.underlying32 rfl rfl ?_
        refine sxo_neq rfl rfl rfl rfl ?_
        refine sxo_pick (b := false) rfl rfl rfl rfl ?_
        refine sxo_again (d := 36) (v := .bool (((x14.2.2 : Int) != 0) || (((x14.2.1.length : Int) : Int) != 0))) rfl (by rw [h22]; simp only [Bool.false_or]) ?_
        refine sxo_nil ?_
        exact sxq_case (lk_cons rfl (lk_cons rfl (lk_cons rfl lk_nil)))
      refine sxo_take (os := _) rfl ?_
      refine sxo_move rfl rfl rfl ?_
      refine sxo_case 6 (((x14.2.2 : Int) != 0) || (((x14.2.1.length : Int) : Int) != 0)) [(1, .slice a5 x4.length c6), (7, .slice a15 x14.1.length c16), (43, .bool ((((x14.2.2 : Int) != 0) || (((x14.2.1.length : Int) : Int) != 0)) || (decide ((x4.length : Int) < (x14.1.length : Int)))))] (fun h23 => ?_) (fun h23 => ?_) ?_
      · refine sxo_take (os := _) rfl ?_
        refine sxo_isT (k := 37) rfl h23 ?_
        refine sxo_skip rfl rfl rfl ?_
        refine sxo_skip rfl rfl rfl ?_
        refine sxo_skip rfl rfl rfl ?_
        refine sxo_skip rfl rfl rfl ?_
        refine sxo_skip rfl rfl rfl ?_
        refine sxo_pick (b := true) rfl rfl rfl rfl ?_
        refine sxo_again (d := 43) (v := .bool ((((x14.2.2 : Int) != 0) || (((x14.2.1.length : Int) : Int) != 0)) || (decide ((x4.length : Int) < (x14.1.length : Int))))) rfl (by rw [h23]; simp only [Bool.true_or]) ?_
        refine sxo_nil ?_
        exact sxq_case (lk_cons rfl (lk_cons rfl (lk_cons rfl lk_nil)))
      · refine sxo_take (os := _) rfl ?_
        refine sxo_isF (k := 37) rfl h23 ?_
        refine sxo_move rfl rfl rfl ?_
        refine sxo_len rfl Try.underlying32 rfl rfl ?_
        refine sxo_move rfl rfl rfl ?_
        refine sxo_len rfl Try.underlying32 rfl rfl ?_
        refine sxo_gtr rfl rfl rfl rfl ?_
        refine sxo_pick (b := false) rfl rfl rfl rfl ?_
        refine sxo_again (d := 43) (v := .bool ((((x14.2.2 : Int) != 0) || (((x14.2.1.length : Int) : Int) != 0)) || (decide ((x4.length : Int) < (x14.1.length : Int))))) rfl (by rw [h23]; simp only [Bool.false_or]) ?_
        refine sxo_nil ?_
        exact sxq_case (lk_cons rfl (lk_cons rfl (lk_cons rfl lk_nil)))
      refine sxo_take (os := _) rfl ?_
      refine sxo_nil ?_
      refine sxq_next ?_
      refine sxc_if rfl (fun h29 => ?_) (fun h29 => ?_)
      · refine sxc_seq ?_
        refine sxc_region ?_
        refine sxo_assign rfl rfl rfl ?_
        refine sxo_nil ?_
        refine sxq_next ?_
        refine sxc_ret ?_
        refine sxq_thenR ?_
        exact sxq_doneP () (.inl rfl) (res1 rfl rfl) (fun h => by subst h; rfl) (fun h => by subst h; exact .nil)
      · refine sxc_skip ?_
        refine sxq_next ?_
        refine sxc_seq ?_
        refine sxc_region ?_
        refine sxo_move rfl rfl rfl ?_
        refine sxo_move rfl rfl rfl ?_
        refine sxo_move rfl rfl rfl ?_
        refine sxo_len rfl Try.underlying32 rfl rfl ?_
        refine sxo_cut (j := 1) (eI_ok .i64) rfl Try.underlying32 tf3 rfl rfl rfl rfl rfl (fun x24 e24 a25 c26 => ?_)
        refine sxo_call ent29 rfl rfl rfl (fun x27 e27 => C_R_SameInts F x14.1 a15 c16 x24 a25 c26 x27 e27) (.consR 0 (Ro (eI .i64) 3 1 (.slice a15 x14.1.length c16) x14.1) rfl (.consF 0 rfl .nil)) (fun x27 e27 => ?_)
        intro _
        refine sxo_move rfl rfl rfl ?_
        refine sxo_case 7 x27 [(57, .bool (x27 && (decide ((x4.length : Int) ≤ (iadd .i64 (x14.1.length : Int) 1)))))] (fun h28 => ?_) (fun h28 => ?_) ?_
        · refine sxo_take (os := _) rfl ?_
          refine sxo_isT (k := 50) rfl h28 ?_
          refine sxo_move rfl rfl rfl ?_
          refine sxo_len rfl Try.underlying32 rfl rfl ?_
          refine sxo_move rfl rfl rfl ?_
          refine sxo_len rfl Try.underlying32 rfl rfl ?_
          refine sxo_add rfl rfl rfl rfl ?_
          refine sxo_leq rfl rfl rfl rfl ?_
          refine sxo_pick (b := true) rfl rfl rfl rfl ?_
          refine sxo_again (d := 57) (v := .bool (x27 && (decide ((x4.length : Int) ≤ (iadd .i64 (x14.1.length : Int) 1))))) rfl (by rw [h28]; simp only [Bool.true_and]) ?_
          refine sxo_nil ?_
          exact sxq_case (lk_cons rfl lk_nil)
        · refine sxo_take (os := _) rfl ?_
          refine sxo_isF (k := 50) rfl h28 ?_
          refine sxo_skip rfl rfl rfl ?_
          refine sxo_skip rfl rfl rfl ?_
          refine sxo_skip rfl rfl rfl ?_
          refine sxo_skip rfl rfl rfl ?_
          refine sxo_skip rfl rfl rfl ?_
          refine sxo_skip rfl rfl rfl ?_
          refine sxo_pick (b := false) rfl rfl rfl rfl ?_
          refine sxo_again (d := 57) (v := .bool (x27 && (decide ((x4.length : Int) ≤ (iadd .i64 (x14.1.length : Int) 1))))) rfl (by rw [h28]; simp only [Bool.false_and]) ?_
          refine sxo_nil ?_
          exact sxq_case (lk_cons rfl lk_nil)
        refine sxo_take (os := _) rfl ?_
        refine sxo_assign rfl rfl rfl ?_
        refine sxo_nil ?_
        refine sxq_next ?_
        refine sxc_ret ?_
        exact sxq_doneP () (.inl rfl) (res1 rfl rfl) (fun h => by subst h; rfl) (fun h => by subst h; exact .nil)

theorem C_L_PartsSelf (F : Nat) (x1 : List Int) (a2 : Option Addr) (c3 : Nat) (r : Bool) (hm : M_L_PartsSelf F x1 = some r) :
    Pure Try.prog 12 [.slice a2 x1.length c3] [Sl (eI .i64) 1 (.slice a2 x1.length c3) x1] Unit (fun _ => .bool r) (fun _ => []) (fun _ => []) := by
  refine pure_of Try.func12 rfl Try.ntmps12 rfl hm (fun w => ?_)
  refine sxc_env (l' := [(0, .slice a2 x1.length c3)]) rfl ?_
  refine sxc_seq ?_
  refine sxc_region ?_
  refine sxo_assign rfl rfl rfl ?_
  refine sxo_nil ?_
  refine sxq_next ?_
  refine sxc_seq ?_
  refine sxc_region ?_
  refine sxo_move rfl rfl rfl ?_
  refine sxo_move rfl rfl rfl ?_
  refine sxo_call ent32 rfl rfl rfl (fun x4 e4 => C_parts_Blocks F x1 a2 c3 x1 a2 c3 x4 e4) (.consF 0 rfl (.consF 0 rfl .nil)) (fun x4 e4 => ?_)
  rintro ⟨⟨a5, c6⟩, ⟨a7, c8⟩⟩
  refine sxo_move rfl rfl rfl ?_
  refine sxo_extract rfl rfl rfl rfl ?_
  refine sxo_extract rfl rfl rfl rfl ?_
  refine sxo_extract rfl rfl rfl rfl ?_
  refine sxo_assign rfl rfl rfl ?_
  refine sxo_assign rfl rfl rfl ?_
  refine sxo_assign rfl rfl rfl ?_
  refine sxo_nil ?_
  refine sxq_next ?_
  refine sxc_seq ?_
  refine sxc_region ?_
  refine sxo_move rfl rfl rfl ?_
  refine sxo_nilrow' Int (eI .i64) 3 1 ?_
  refine sxo_call ent32 rfl rfl rfl (fun x9 e9 => C_parts_Blocks F ([] : List Int) none 0 x1 a2 c3 x9 e9) (.consR 0 (Ro (eI .i64) 3 1 (.slice none ([] : List Int).length 0) ([] : List Int)) rfl (.consF 0 rfl .nil)) (fun x9 e9 => ?_)
  rintro ⟨⟨a10, c11⟩, ⟨a12, c13⟩⟩
  refine sxo_move rfl rfl rfl ?_
  refine sxo_extract rfl rfl rfl rfl ?_
  refine sxo_extract rfl rfl rfl rfl ?_
  refine sxo_extract rfl rfl rfl rfl ?_
  refine sxo_assign rfl rfl rfl ?_
  refine sxo_assign rfl rfl rfl ?_
  refine sxo_assign rfl rfl rfl ?_
  refine sxo_nil ?_
  refine sxq_next ?_
  refine sxc_seq ?_
  refine sxc_seq ?_
  refine sxc_region ?_
  refine sxo_call ent39 rfl rfl rfl (fun x16 e16 => C_L_partsBegun F  x16 e16) .nil (fun x16 e16 => ?_)
  intro _
  refine sxo_not rfl rfl rfl ?_
  refine sxo_nil ?_
  refine sxq_next ?_
  refine sxc_if rfl (fun h26 => ?_) (fun h26 => ?_)
  · refine sxc_seq ?_
    refine sxc_region ?_
    refine sxo_assign rfl rfl rfl ?_
    refine sxo_nil ?_
    refine sxq_next ?_
    refine sxc_ret ?_
    refine sxq_thenR ?_
    exact sxq_doneP () (.inl rfl) (res1 rfl rfl) (fun h => by subst h; rfl) (fun h => by subst h; exact .nil)
  · refine sxc_skip ?_
    refine sxq_next ?_
    refine sxc_seq ?_
    refine sxc_seq ?_
    refine sxc_region ?_
    refine sxo_move rfl rfl rfl ?_
    refine sxo_neq rfl rfl rfl rfl ?_
    refine sxo_move rfl rfl rfl ?_
    refine sxo_case 3 ((x4.2.2 : Int) != 0) [(0, .slice a2 x1.length c3), (3, .slice a5 x4.1.length c6), (4, .slice a7 x4.2.1.length c8), (5, .int .i64 x4.2.2), (6, .slice a10 x9.1.length c11), (7, .slice a12 x9.2.1.length c13), (8, .int .i64 x9.2.2), (29, .bool (((x4.2.2 : Int) != 0) || ((x9.2.2 : Int) != 0)))] (fun h19 => ?_) (fun h19 => ?_) ?_
    · refine sxo_take (os := _) rfl ?_
      refine sxo_isT (k := 26) rfl h19 ?_
      refine sxo_skip rfl rfl rfl ?_
      refine sxo_skip rfl rfl rfl ?_
      refine sxo_pick (b := true) rfl rfl rfl rfl ?_
      refine sxo_again (d := 29) (v := .bool (((x4.2.2 : Int) != 0) || ((x9.2.2 : Int) != 0))) rfl (by rw [h19]; simp only [Bool.true_or]) ?_
      refine sxo_nil ?_
      exact sxq_case (lk_cons rfl (lk_cons rfl (lk_cons rfl (lk_cons rfl (lk_cons rfl (lk_cons rfl (lk_cons rfl (lk_cons rfl lk_nil))))))))
    · refine sxo_take (os := _) rfl ?_
      refine sxo_isF (k := 26) rfl h19 ?_
      refine sxo_move rfl rfl rfl ?_
      refine sxo_neq rfl rfl rfl rfl ?_
      refine sxo_pick (b := false) rfl rfl rfl rfl ?_
      refine sxo_again (d := 29) (v := .bool (((x4.2.2 : Int) != 0) || ((x9.2.2 : Int) != 0))) rfl (by rw [h19]; simp only [Bool.false_or]) ?_
      refine sxo_nil ?_
      exact sxq_case (lk_cons rfl (lk_cons rfl (lk_cons rfl (lk_cons rfl (lk_cons rfl (lk_cons rfl (lk_cons rfl (lk_cons rfl lk_nil))))))))
    refine sxo_take (os := _) rfl ?_
    refine sxo_nil ?_
    refine sxq_next ?_
    refine sxc_if rfl (fun h25 => ?_) (fun h25 => ?_)
    · refine sxc_seq ?_
      refine sxc_region ?_
      refine sxo_move rfl rfl rfl ?_
      refine sxo_move rfl rfl rfl ?_
      refine sxo_eql rfl rfl rfl rfl ?_
      refine sxo_assign rfl rfl rfl ?_
      refine sxo_nil ?_
      refine sxq_next ?_
      refine sxc_ret ?_
      refine sxq_thenR ?_
      exact sxq_doneP () (.inl rfl) (res1 rfl rfl) (fun h => by subst h; rfl) (fun h => by subst h; exact .nil)
    · refine sxc_skip ?_
      refine sxq_next ?_
      refine sxc_seq ?_
      refine sxc_region ?_
      refine sxo_move rfl rfl rfl ?_
      refine sxo_len rfl Try.underlying32 rfl rfl ?_
      refine sxo_move rfl rfl rfl ?_
      refine sxo_len rfl Try.underlying32 rfl rfl ?_
      refine sxo_add rfl rfl rfl rfl ?_
      refine sxo_eql rfl rfl rfl rfl ?_
      refine sxo_move rfl rfl rfl ?_
      refine sxo_case 4 (((iadd .i64 (x4.1.length : Int) (x4.2.1.length : Int)) : Int) == 0) [(0, .slice a2 x1.length c3), (7, .slice a12 x9.2.1.length c13), (43, .bool ((((iadd .i64 (x4.1.length : Int) (x4.2.1.length : Int)) : Int) == 0) && (((x9.1.length : Int) : Int) == 0)))] (fun h20 => ?_) (fun h20 => ?_) ?_
      · refine sxo_take (os := _) rfl ?_
        refine sxo_isT (k := 39) rfl h20 ?_
        refine sxo_move rfl rfl rfl ?_
        refine sxo_len rfl Try.underlying32 rfl rfl ?_
        refine sxo_eql rfl rfl rfl rfl ?_
        refine sxo_pick (b := true) rfl rfl rfl rfl ?_
        refine sxo_again (d := 43) (v := .bool ((((iadd .i64 (x4.1.length : Int) (x4.2.1.length : Int)) : Int) == 0) && (((x9.1.length : Int) : Int) == 0))) rfl (by rw [h20]; simp only [Bool.true_and]) ?_
        refine sxo_nil ?_
        exact sxq_case (lk_cons rfl (lk_cons rfl (lk_cons rfl lk_nil)))
      · refine sxo_take (os := _) rfl ?_
        refine sxo_isF (k := 39) rfl h20 ?_
        refine sxo_skip rfl rfl rfl ?_
        refine sxo_skip rfl rfl rfl ?_
        refine sxo_skip rfl rfl rfl ?_
        refine sxo_pick (b := false) rfl rfl rfl rfl ?_
        refine sxo_again (d := 43) (v := .bool ((((iadd .i64 (x4.1.length : Int) (x4.2.1.length : Int)) : Int) == 0) && (((x9.1.length : Int) : Int) == 0))) rfl (by rw [h20]; simp only [Bool.false_and]) ?_
        refine sxo_nil ?_
        exact sxq_case (lk_cons rfl (lk_cons rfl (lk_cons rfl lk_nil)))
      refine sxo_take (os := _) rfl ?_
      refine sxo_move rfl rfl rfl ?_
      refine sxo_join 4 (fun ((x23, _) : (Bool × Unit)) => [(48, .bool x23)]) (fun ((x23, _) : (Bool × Unit)) => []) (fun ((x23, _) : (Bool × Unit)) => []) (fun ((x23, _) : (Bool × Unit)) => []) (fun ((x23, _) : (Bool × Unit)) => M_L_PartsSelf_j1 F x23) ?_ ?_
      · refine sxo_take (os := _) rfl ?_
        refine sxo_if (fun h21 => ?_) (fun h21 => ?_)
        · refine sxo_isT (k := 44) rfl h21 ?_
          refine sxo_move rfl rfl rfl ?_
          refine sxo_move rfl rfl rfl ?_
          refine sxo_call ent29 rfl rfl rfl (fun x24 e24 => C_R_SameInts F x9.2.1 a12 c13 x1 a2 c3 x24 e24) (.consR 1 (Ro (eI .i64) 3 1 (.slice a12 x9.2.1.length c13) x9.2.1) rfl (.consF 0 rfl .nil)) (fun x24 e24 => ?_)
          intro _
          refine sxo_pick (b := true) rfl rfl rfl rfl ?_
          refine sxo_nil ?_
          exact sxq_meetP (x24, ()) (lk_cons rfl lk_nil) .nil .nil fk_nil
        · refine sxo_isF (k := 44) rfl h21 ?_
          refine sxo_skip rfl rfl rfl ?_
          refine sxo_skip rfl rfl rfl ?_
          refine sxo_skip rfl rfl rfl ?_
          refine sxo_pick (b := false) rfl rfl rfl rfl ?_
          refine sxo_nil ?_
          exact sxq_meetP (false, ()) (lk_cons rfl lk_nil) .nil .nil fk_nil
      · rintro ⟨x23, _⟩
        try dsimp only
        refine sxo_take (os := _) rfl ?_
        refine sxo_assign rfl rfl rfl ?_
        refine sxo_nil ?_
        refine sxq_next ?_
        refine sxc_ret ?_
        exact sxq_doneP () (.inl rfl) (res1 rfl rfl) (fun h => by subst h; rfl) (fun h => by subst h; exact .nil)

set_option maxHeartbeats 4000000 in
theorem C_L_PartsSwap (F : Nat) (x1 : List Int) (a2 : Option Addr) (c3 : Nat) (x4 : List Int) (a5 : Option Addr) (c6 : Nat) (r : Bool) (hm : M_L_PartsSwap F x1 x4 = some r) :
    Pure Try.prog 13 [.slice a2 x1.length c3, .slice a5 x4.length c6] [Sl (eI .i64) 1 (.slice a2 x1.length c3) x1, Sl (eI .i64) 1 (.slice a5 x4.length c6) x4] Unit (fun _ => .bool r) (fun _ => []) (fun _ => []) := by
  refine pure_of Try.func13 rfl Try.ntmps13 rfl hm (fun w => ?_)
  refine sxc_env (l' := [(0, .slice a2 x1.length c3), (1, .slice a5 x4.length c6)]) rfl ?_
  refine sxc_seq ?_
  refine sxc_region ?_
  refine sxo_assign rfl rfl rfl ?_
  refine sxo_nil ?_
  refine sxq_next ?_
  refine sxc_seq ?_
  refine sxc_region ?_
  refine sxo_move rfl rfl rfl ?_
  refine sxo_move rfl rfl rfl ?_
  refine sxo_call ent32 rfl rfl rfl (fun x7 e7 => C_parts_Blocks F x1 a2 c3 x4 a5 c6 x7 e7) (.consF 0 rfl (.consF 1 rfl .nil)) (fun x7 e7 => ?_)
  rintro ⟨⟨a8, c9⟩, ⟨a10, c11⟩⟩
  refine sxo_move rfl rfl rfl ?_
  refine sxo_extract rfl rfl rfl rfl ?_
  refine sxo_extract rfl rfl rfl rfl ?_
  refine sxo_extract rfl rfl rfl rfl ?_
  refine sxo_assign rfl rfl rfl ?_
  refine sxo_assign rfl rfl rfl ?_
  refine sxo_assign rfl rfl rfl ?_
  refine sxo_nil ?_
  refine sxq_next ?_
  refine sxc_seq ?_
  refine sxc_region ?_
  refine sxo_move rfl rfl rfl ?_
  refine sxo_move rfl rfl rfl ?_
  refine sxo_call ent32 rfl rfl rfl (fun x12 e12 => C_parts_Blocks F x4 a5 c6 x1 a2 c3 x12 e12) (.consF 1 rfl (.consF 0 rfl .nil)) (fun x12 e12 => ?_)
  rintro ⟨⟨a13, c14⟩, ⟨a15, c16⟩⟩
  refine sxo_move rfl rfl rfl ?_
  refine sxo_extract rfl rfl rfl rfl ?_
  refine sxo_extract rfl rfl rfl rfl ?_
  refine sxo_extract rfl rfl rfl rfl ?_
  refine sxo_assign rfl rfl rfl ?_
  refine sxo_assign rfl rfl rfl ?_
  refine sxo_assign rfl rfl rfl ?_
  refine sxo_nil ?_
  refine sxq_next ?_
  refine sxc_seq ?_
  refine sxc_seq ?_
  refine sxc_region ?_
  refine sxo_call ent39 rfl rfl rfl (fun x19 e19 => C_L_partsBegun F  x19 e19) .nil (fun x19 e19 => ?_)
  intro _
  refine sxo_not rfl rfl rfl ?_
  refine sxo_nil ?_
  refine sxq_next ?_
  refine sxc_if rfl (fun h36 => ?_) (fun h36 => ?_)
  · refine sxc_seq ?_
    refine sxc_region ?_
    refine sxo_assign rfl rfl rfl ?_
    refine sxo_nil ?_
    refine sxq_next ?_
    refine sxc_ret ?_
    refine sxq_thenR ?_
    exact sxq_doneP () (.inl rfl) (res1 rfl rfl) (fun h => by subst h; rfl) (fun h => by subst h; exact .nil)
  · refine sxc_skip ?_
    refine sxq_next ?_
    refine sxc_seq ?_
    refine sxc_seq ?_
    refine sxc_region ?_
    refine sxo_move rfl rfl rfl ?_
    refine sxo_neq rfl rfl rfl rfl ?_
    refine sxo_move rfl rfl rfl ?_
    refine sxo_case 3 ((x7.2.2 : Int) != 0) [(0, .slice a2 x1.length c3), (1, .slice a5 x4.length c6), (5, .slice a8 x7.1.length c9), (6, .slice a10 x7.2.1.length c11), (8, .slice a13 x12.1.length c14), (9, .slice a15 x12.2.1.length c16), (36, .bool (((x7.2.2 : Int) != 0) || ((x12.2.2 : Int) != 0)))] (fun h22 => ?_) (fun h22 => ?_) ?_
    · refine sxo_take (os := _) rfl ?_
      refine sxo_isT (k := 33) rfl h22 ?_
      refine sxo_skip rfl rfl rfl ?_
      refine sxo_skip rfl rfl rfl ?_
      refine sxo_pick (b := true) rfl rfl rfl rfl ?_
      refine sxo_again (d := 36) (v := .bool (((x7.2.2 : Int) != 0) || ((x12.2.2 : Int) != 0))) rfl (by rw [h22]; simp only [Bool.true_or]) ?_
      refine sxo_nil ?_
      exact sxq_case (lk_cons rfl (lk_cons rfl (lk_cons rfl (lk_cons rfl (lk_cons rfl (lk_cons rfl (lk_cons rfl lk_nil)))))))
    · refine sxo_take (os := _) rfl ?_
      refine sxo_isF (k := 33) rfl h22 ?_
      refine sxo_move rfl rfl rfl ?_
      refine sxo_neq rfl rfl rfl rfl ?_
      refine sxo_pick (b := false) rfl rfl rfl rfl ?_
      refine sxo_again (d := 36) (v := .bool (((x7.2.2 : Int) != 0) || ((x12.2.2 : Int) != 0))) rfl (by rw [h22]; simp only [Bool.false_or]) ?_
      refine sxo_nil ?_
      exact sxq_case (lk_cons rfl (lk_cons rfl (lk_cons rfl (lk_cons rfl (lk_cons rfl (lk_cons rfl (lk_cons rfl lk_nil)))))))
    refine sxo_take (os := _) rfl ?_
    refine sxo_nil ?_
    refine sxq_next ?_
    refine sxc_if rfl (fun h35 => ?_) (fun h35 => ?_)
    · refine sxc_seq ?_
      refine sxc_region ?_
      refine sxo_move rfl rfl rfl ?_
      refine sxo_len rfl Try.underlying32 rfl rfl ?_
      refine sxo_move rfl rfl rfl ?_
      refine sxo_len rfl Try.underlying32 rfl rfl ?_
      refine sxo_add rfl rfl rfl rfl ?_
      refine sxo_move rfl rfl rfl ?_
      refine sxo_len rfl Try.underlying32 rfl rfl ?_
      refine sxo_add rfl rfl rfl rfl ?_
      refine sxo_move rfl rfl rfl ?_
      refine sxo_len rfl Try.underlying32 rfl rfl ?_
      refine sxo_add rfl rfl rfl rfl ?_
      refine sxo_eql rfl rfl rfl rfl ?_
      refine sxo_assign rfl rfl rfl ?_
      refine sxo_nil ?_
      refine sxq_next ?_
      refine sxc_ret ?_
      refine sxq_thenR ?_
      exact sxq_doneP () (.inl rfl) (res1 rfl rfl) (fun h => by subst h; rfl) (fun h => by subst h; exact .nil)
    · refine sxc_skip ?_
      refine sxq_next ?_
      refine sxc_seq ?_
      refine sxc_region ?_
      refine sxo_move rfl rfl rfl ?_
      refine sxo_move rfl rfl rfl ?_
      refine sxo_call ent33 rfl rfl rfl (fun x23 e23 => C_parts_Copy F x1 a2 c3 x7.1 a8 c9 x23 e23) (.consF 0 rfl (.consR 2 (Ro (eI .i64) 3 1 (.slice a8 x7.1.length c9) x7.1) rfl .nil)) (fun x23 e23 => ?_)
      rintro ⟨a24, c25⟩
      refine sxo_move rfl rfl rfl ?_
      refine sxo_extract rfl rfl rfl rfl ?_
      refine sxo_extract rfl rfl rfl rfl ?_
      refine sxo_assign rfl rfl rfl ?_
      refine sxo_assign rfl rfl rfl ?_
      refine sxo_nil ?_
      refine sxq_next ?_
      refine sxc_seq ?_
      refine sxc_region ?_
      refine sxo_move rfl rfl rfl ?_
      refine sxo_move rfl rfl rfl ?_
      refine sxo_call ent33 rfl rfl rfl (fun x26 e26 => C_parts_Copy F x4 a5 c6 x12.1 a13 c14 x26 e26) (.consF 1 rfl (.consR 1 (Ro (eI .i64) 3 1 (.slice a13 x12.1.length c14) x12.1) rfl .nil)) (fun x26 e26 => ?_)
      rintro ⟨a27, c28⟩
      refine sxo_move rfl rfl rfl ?_
      refine sxo_extract rfl rfl rfl rfl ?_
      refine sxo_extract rfl rfl rfl rfl ?_
      refine sxo_assign rfl rfl rfl ?_
      refine sxo_assign rfl rfl rfl ?_
      refine sxo_nil ?_
      refine sxq_next ?_
      refine sxc_seq ?_
      refine sxc_region ?_
      refine sxo_move rfl rfl rfl ?_
      refine sxo_eql rfl rfl rfl rfl ?_
      refine sxo_move rfl rfl rfl ?_
      refine sxo_case 3 ((x23.2 : Int) == 0) [(0, .slice a2 x1.length c3), (1, .slice a5 x4.length c6), (6, .slice a10 x7.2.1.length c11), (9, .slice a15 x12.2.1.length c16), (11, .slice a24 x23.1.length c25), (13, .slice a27 x26.1.length c28), (66, .bool (((x23.2 : Int) == 0) && ((x26.2 : Int) == 0)))] (fun h29 => ?_) (fun h29 => ?_) ?_
      · refine sxo_take (os := _) rfl ?_
        refine sxo_isT (k := 63) rfl h29 ?_
        refine sxo_move rfl rfl rfl ?_
        refine sxo_eql rfl rfl rfl rfl ?_
        refine sxo_pick (b := true) rfl rfl rfl rfl ?_
        refine sxo_again (d := 66) (v := .bool (((x23.2 : Int) == 0) && ((x26.2 : Int) == 0))) rfl (by rw [h29]; simp only [Bool.true_and]) ?_
        refine sxo_nil ?_
        exact sxq_case (lk_cons rfl (lk_cons rfl (lk_cons rfl (lk_cons rfl (lk_cons rfl (lk_cons rfl (lk_cons rfl lk_nil)))))))
      · refine sxo_take (os := _) rfl ?_
        refine sxo_isF (k := 63) rfl h29 ?_
        refine sxo_skip rfl rfl rfl ?_
        refine sxo_skip rfl rfl rfl ?_
        refine sxo_pick (b := false) rfl rfl rfl rfl ?_
        refine sxo_again (d := 66) (v := .bool (((x23.2 : Int) == 0) && ((x26.2 : Int) == 0))) rfl (by rw [h29]; simp only [Bool.false_and]) ?_
        refine sxo_nil ?_
        exact sxq_case (lk_cons rfl (lk_cons rfl (lk_cons rfl (lk_cons rfl (lk_cons rfl (lk_cons rfl (lk_cons rfl lk_nil)))))))
      refine sxo_take (os := _) rfl ?_
      refine sxo_move rfl rfl rfl ?_
      refine sxo_join 4 (fun ((x32, _) : (Bool × Unit)) => [(0, .slice a2 x1.length c3), (1, .slice a5 x4.length c6), (6, .slice a10 x7.2.1.length c11), (9, .slice a15 x12.2.1.length c16), (71, .bool x32)]) (fun ((x32, _) : (Bool × Unit)) => []) (fun ((x32, _) : (Bool × Unit)) => [Ro (eI .i64) 3 1 (.slice a10 x7.2.1.length c11) x7.2.1, Ro (eI .i64) 3 1 (.slice a15 x12.2.1.length c16) x12.2.1]) (fun ((x32, _) : (Bool × Unit)) => [Sl (eI .i64) 1 (.slice a2 x1.length c3) x1, Sl (eI .i64) 1 (.slice a5 x4.length c6) x4]) (fun ((x32, _) : (Bool × Unit)) => M_L_PartsSwap_j1 F x1 x4 x7 x12 x32) ?_ ?_
      · refine sxo_take (os := _) rfl ?_
        refine sxo_if (fun h30 => ?_) (fun h30 => ?_)
        · refine sxo_isT (k := 67) rfl h30 ?_
          refine sxo_move rfl rfl rfl ?_
          refine sxo_move rfl rfl rfl ?_
          refine sxo_call ent29 rfl rfl rfl (fun x34 e34 => C_R_SameInts F x23.1 a24 c25 x26.1 a27 c28 x34 e34) (.consR 1 (Ro (eI .i64) 3 1 (.slice a24 x23.1.length c25) x23.1) rfl (.consR 0 (Ro (eI .i64) 3 1 (.slice a27 x26.1.length c28) x26.1) rfl .nil)) (fun x34 e34 => ?_)
          intro _
          refine sxo_pick (b := true) rfl rfl rfl rfl ?_
          refine sxo_nil ?_
          exact sxq_meetP (x34, ()) (lk_cons rfl (lk_cons rfl (lk_cons rfl (lk_cons rfl (lk_cons rfl lk_nil))))) .nil (.cons 5 rfl (.cons 3 rfl .nil)) (fk_cons 0 rfl (fk_cons 1 rfl fk_nil))
        · refine sxo_isF (k := 67) rfl h30 ?_
          refine sxo_skip rfl rfl rfl ?_
          refine sxo_skip rfl rfl rfl ?_
          refine sxo_skip rfl rfl rfl ?_
          refine sxo_pick (b := false) rfl rfl rfl rfl ?_
          refine sxo_nil ?_
          exact sxq_meetP (false, ()) (lk_cons rfl (lk_cons rfl (lk_cons rfl (lk_cons rfl (lk_cons rfl lk_nil))))) .nil (.cons 5 rfl (.cons 3 rfl .nil)) (fk_cons 0 rfl (fk_cons 1 rfl fk_nil))
      · rintro ⟨x32, _⟩
        try dsimp only
        refine sxo_take (os := _) rfl ?_
        refine sxo_move rfl rfl rfl ?_
        refine sxo_case 12 x32 [(84, .bool (x32 && (((isub .i64 (x1.length : Int) (x12.2.1.length : Int)) : Int) == (isub .i64 (x4.length : Int) (x7.2.1.length : Int)))))] (fun h33 => ?_) (fun h33 => ?_) ?_
        · refine sxo_take (os := _) rfl ?_
          refine sxo_isT (k := 72) rfl h33 ?_
          refine sxo_move rfl rfl rfl ?_
          refine sxo_len rfl Try.underlying32 rfl rfl ?_
          refine sxo_move rfl rfl rfl ?_
          refine sxo_len rfl Try.underlying32 rfl rfl ?_
          refine sxo_sub rfl rfl rfl rfl ?_
          refine sxo_move rfl rfl rfl ?_
          refine sxo_len rfl Try.underlying32 rfl rfl ?_
          refine sxo_move rfl rfl rfl ?_
          refine sxo_len rfl Try.underlying32 rfl rfl ?_
          refine sxo_sub rfl rfl rfl rfl ?_
          refine sxo_eql rfl rfl rfl rfl ?_
          refine sxo_pick (b := true) rfl rfl rfl rfl ?_
          refine sxo_again (d := 84) (v := .bool (x32 && (((isub .i64 (x1.length : Int) (x12.2.1.length : Int)) : Int) == (isub .i64 (x4.length : Int) (x7.2.1.length : Int))))) rfl (by rw [h33]; simp only [Bool.true_and]) ?_
          refine sxo_nil ?_
          exact sxq_case (lk_cons rfl lk_nil)
        · refine sxo_take (os := _) rfl ?_
          refine sxo_isF (k := 72) rfl h33 ?_
          refine sxo_skip rfl rfl rfl ?_
          refine sxo_skip rfl rfl rfl ?_
          refine sxo_skip rfl rfl rfl ?_
          refine sxo_skip rfl rfl rfl ?_
          refine sxo_skip rfl rfl rfl ?_
          refine sxo_skip rfl rfl rfl ?_
          refine sxo_skip rfl rfl rfl ?_
          refine sxo_skip rfl rfl rfl ?_
          refine sxo_skip rfl rfl rfl ?_
          refine sxo_skip rfl rfl rfl ?_
          refine sxo_skip rfl rfl rfl ?_
          refine sxo_pick (b := false) rfl rfl rfl rfl ?_
          refine sxo_again (d := 84) (v := .bool (x32 && (((isub .i64 (x1.length : Int) (x12.2.1.length : Int)) : Int) == (isub .i64 (x4.length : Int) (x7.2.1.length : Int))))) rfl (by rw [h33]; simp only [Bool.false_and]) ?_
          refine sxo_nil ?_
          exact sxq_case (lk_cons rfl lk_nil)
        refine sxo_take (os := _) rfl ?_
        refine sxo_assign rfl rfl rfl ?_
        refine sxo_nil ?_
        refine sxq_next ?_
        refine sxc_ret ?_
        exact sxq_doneP () (.inl rfl) (res1 rfl rfl) (fun h => by subst h; rfl) (fun h => by subst h; exact .nil)

set_option maxHeartbeats 4000000 in
theorem C_L_PartsApart (F : Nat) (x1 : List Int) (a2 : Option Addr) (c3 : Nat) (x4 : List Int) (a5 : Option Addr) (c6 : Nat) (x7 : Int) (r : Bool) (hm : M_L_PartsApart F x1 x4 x7 = some r) :
    Pure Try.prog 14 [.slice a2 x1.length c3, .slice a5 x4.length c6, .int .i64 x7] [Sl (eI .i64) 1 (.slice a2 x1.length c3) x1, Sl (eI .i64) 1 (.slice a5 x4.length c6) x4] Unit (fun _ => .bool r) (fun _ => []) (fun _ => []) := by
  refine pure_of Try.func14 rfl Try.ntmps14 rfl hm (fun w => ?_)
  refine sxc_env (l' := [(0, .slice a2 x1.length c3), (1, .slice a5 x4.length c6), (2, .int .i64 x7)]) rfl ?_
  refine sxc_seq ?_
  refine sxc_region ?_
  refine sxo_assign rfl rfl rfl ?_
  refine sxo_nil ?_
  refine sxq_next ?_
  refine sxc_seq ?_
  refine sxc_region ?_
  refine sxo_move rfl rfl rfl ?_
  refine sxo_move rfl rfl rfl ?_
  refine sxo_call ent32 rfl rfl rfl (fun x8 e8 => C_parts_Blocks F x1 a2 c3 x4 a5 c6 x8 e8) (.consF 0 rfl (.consF 1 rfl .nil)) (fun x8 e8 => ?_)
  rintro ⟨⟨a9, c10⟩, ⟨a11, c12⟩⟩
  refine sxo_move rfl rfl rfl ?_
  refine sxo_extract rfl rfl rfl rfl ?_
  refine sxo_extract rfl rfl rfl rfl ?_
  refine sxo_extract rfl rfl rfl rfl ?_
  refine sxo_assign rfl rfl rfl ?_
  refine sxo_assign rfl rfl rfl ?_
  refine sxo_assign rfl rfl rfl ?_
  refine sxo_nil ?_
  refine sxq_next ?_
  refine sxc_seq ?_
  refine sxc_seq ?_
  refine sxc_region ?_
  refine sxo_call ent39 rfl rfl rfl (fun x15 e15 => C_L_partsBegun F  x15 e15) .nil (fun x15 e15 => ?_)
  intro _
  refine sxo_not rfl rfl rfl ?_
  refine sxo_nil ?_
  refine sxq_next ?_
  refine sxc_if rfl (fun h48 => ?_) (fun h48 => ?_)
  · refine sxc_seq ?_
    refine sxc_region ?_
    refine sxo_assign rfl rfl rfl ?_
    refine sxo_nil ?_
    refine sxq_next ?_
    refine sxc_ret ?_
    refine sxq_thenR ?_
    exact sxq_doneP () (.inl rfl) (res1 rfl rfl) (fun h => by subst h; rfl) (fun h => by subst h; exact .nil)
  · refine sxc_skip ?_
    refine sxq_next ?_
    refine sxc_seq ?_
    refine sxc_seq ?_
    refine sxc_region ?_
    refine sxo_move rfl rfl rfl ?_
    refine sxo_neq rfl rfl rfl rfl ?_
    refine sxo_nil ?_
    refine sxq_next ?_
    refine sxc_if rfl (fun h47 => ?_) (fun h47 => ?_)
    · refine sxc_seq ?_
      refine sxc_region ?_
      refine sxo_assign rfl rfl rfl ?_
      refine sxo_nil ?_
      refine sxq_next ?_
      refine sxc_ret ?_
      refine sxq_thenR ?_
      exact sxq_doneP () (.inl rfl) (res1 rfl rfl) (fun h => by subst h; rfl) (fun h => by subst h; exact .nil)
    · refine sxc_skip ?_
      refine sxq_next ?_
      refine sxc_seq ?_
      refine sxc_region ?_
      refine sxo_move rfl rfl rfl ?_
      refine sxo_move rfl rfl rfl ?_
      refine sxo_call ent33 rfl rfl rfl (fun x17 e17 => C_parts_Copy F x1 a2 c3 x8.1 a9 c10 x17 e17) (.consF 0 rfl (.consR 0 (Ro (eI .i64) 3 1 (.slice a9 x8.1.length c10) x8.1) rfl .nil)) (fun x17 e17 => ?_)
      rintro ⟨a18, c19⟩
      refine sxo_move rfl rfl rfl ?_
      refine sxo_extract rfl rfl rfl rfl ?_
      refine sxo_extract rfl rfl rfl rfl ?_
      refine sxo_assign rfl rfl rfl ?_
      refine sxo_assign rfl rfl rfl ?_
      refine sxo_nil ?_
      refine sxq_next ?_
      refine sxc_seq ?_
      refine sxc_region ?_
      refine sxo_move rfl rfl rfl ?_
      refine sxo_eql rfl rfl rfl rfl ?_
      refine sxo_move rfl rfl rfl ?_
      refine sxo_case 6 ((x17.2 : Int) == 0) [(0, .slice a2 x1.length c3), (1, .slice a5 x4.length c6), (2, .int .i64 x7), (8, .slice a11 x8.2.1.length c12), (10, .slice a18 x17.1.length c19), (37, .bool (((x17.2 : Int) == 0) && (decide ((x8.1.length : Int) ≤ (x1.length : Int)))))] (fun h20 => ?_) (fun h20 => ?_) ?_
      · refine sxo_take (os := _) rfl ?_
        refine sxo_isT (k := 31) rfl h20 ?_
        refine sxo_move rfl rfl rfl ?_
        refine sxo_len rfl Try.underlying32 rfl rfl ?_
        refine sxo_move rfl rfl rfl ?_
        refine sxo_len rfl Try.underlying32 rfl rfl ?_
        refine sxo_leq rfl rfl rfl rfl ?_
        refine sxo_pick (b := true) rfl rfl rfl rfl ?_
        refine sxo_again (d := 37) (v := .bool (((x17.2 : Int) == 0) && (decide ((x8.1.length : Int) ≤ (x1.length : Int))))) rfl (by rw [h20]; simp only [Bool.true_and]) ?_
        refine sxo_nil ?_
        exact sxq_case (lk_cons rfl (lk_cons rfl (lk_cons rfl (lk_cons rfl (lk_cons rfl (lk_cons rfl lk_nil))))))
      · refine sxo_take (os := _) rfl ?_
        refine sxo_isF (k := 31) rfl h20 ?_
        refine sxo_skip rfl rfl rfl ?_
        refine sxo_skip rfl rfl rfl ?_
        refine sxo_skip rfl rfl rfl ?_
        refine sxo_skip rfl rfl rfl ?_
        refine sxo_skip rfl rfl rfl ?_
        refine sxo_pick (b := false) rfl rfl rfl rfl ?_
        refine sxo_again (d := 37) (v := .bool (((x17.2 : Int) == 0) && (decide ((x8.1.length : Int) ≤ (x1.length : Int))))) rfl (by rw [h20]; simp only [Bool.false_and]) ?_
        refine sxo_nil ?_
        exact sxq_case (lk_cons rfl (lk_cons rfl (lk_cons rfl (lk_cons rfl (lk_cons rfl (lk_cons rfl lk_nil))))))
      refine sxo_take (os := _) rfl ?_
      refine sxo_move rfl rfl rfl ?_
      refine sxo_join 10 (fun ((x27, _) : (Bool × Unit)) => [(0, .slice a2 x1.length c3), (1, .slice a5 x4.length c6), (2, .int .i64 x7), (10, .slice a18 x17.1.length c19), (48, .bool x27)]) (fun ((x27, _) : (Bool × Unit)) => []) (fun ((x27, _) : (Bool × Unit)) => [Ro (eI .i64) 3 1 (.slice a18 x17.1.length c19) x17.1]) (fun ((x27, _) : (Bool × Unit)) => [Sl (eI .i64) 1 (.slice a2 x1.length c3) x1, Sl (eI .i64) 1 (.slice a5 x4.length c6) x4]) (fun ((x27, _) : (Bool × Unit)) => M_L_PartsApart_j2 F x1 x4 x7 x17 x27) ?_ ?_
      · refine sxo_take (os := _) rfl ?_
        refine sxo_if (fun h21 => ?_) (fun h21 => ?_)
        · refine sxo_isT (k := 38) rfl h21 ?_
          refine sxo_move rfl rfl rfl ?_
          refine sxo_move rfl rfl rfl ?_
          refine sxo_call ent40 rfl rfl rfl (fun x42 e42 => C_R_HasInt F x8.2.1 a11 c12 x7 x42 e42) (.consR 2 (Ro (eI .i64) 3 1 (.slice a11 x8.2.1.length c12) x8.2.1) rfl .nil) (fun x42 e42 => ?_)
          intro _
          refine sxo_move rfl rfl rfl ?_
          refine sxo_join 4 (fun ((x45, _) : (Bool × Unit)) => [(0, .slice a2 x1.length c3), (1, .slice a5 x4.length c6), (2, .int .i64 x7), (10, .slice a18 x17.1.length c19), (38, .bool true), (46, .bool x45)]) (fun ((x45, _) : (Bool × Unit)) => []) (fun ((x45, _) : (Bool × Unit)) => [Ro (eI .i64) 3 1 (.slice a18 x17.1.length c19) x17.1]) (fun ((x45, _) : (Bool × Unit)) => [Sl (eI .i64) 1 (.slice a2 x1.length c3) x1, Sl (eI .i64) 1 (.slice a5 x4.length c6) x4]) (fun ((x45, _) : (Bool × Unit)) => M_L_PartsApart_j6 F x1 x4 x7 x17 x45) ?_ ?_
          · refine sxo_take (os := _) rfl ?_
            refine sxo_if (fun h43 => ?_) (fun h43 => ?_)
            · refine sxo_isT (k := 42) rfl h43 ?_
              refine sxo_move rfl rfl rfl ?_
              refine sxo_move rfl rfl rfl ?_
              refine sxo_call ent40 rfl rfl rfl (fun x46 e46 => C_R_HasInt F x1 a2 c3 x7 x46 e46) (.consF 0 rfl .nil) (fun x46 e46 => ?_)
              intro _
              refine sxo_pick (b := true) rfl rfl rfl rfl ?_
              refine sxo_nil ?_
              exact sxq_meetP (x46, ()) (lk_cons rfl (lk_cons rfl (lk_cons rfl (lk_cons rfl (lk_cons rfl (lk_cons rfl lk_nil)))))) .nil (.cons 0 rfl .nil) (fk_cons 0 rfl (fk_cons 1 rfl fk_nil))
            · refine sxo_isF (k := 42) rfl h43 ?_
              refine sxo_skip rfl rfl rfl ?_
              refine sxo_skip rfl rfl rfl ?_
              refine sxo_skip rfl rfl rfl ?_
              refine sxo_pick (b := false) rfl rfl rfl rfl ?_
              refine sxo_nil ?_
              exact sxq_meetP (false, ()) (lk_cons rfl (lk_cons rfl (lk_cons rfl (lk_cons rfl (lk_cons rfl (lk_cons rfl lk_nil)))))) .nil (.cons 0 rfl .nil) (fk_cons 0 rfl (fk_cons 1 rfl fk_nil))
          · rintro ⟨x45, _⟩
            try dsimp only
            refine sxo_take (os := _) rfl ?_
            refine sxo_not rfl rfl rfl ?_
            refine sxo_pick (b := true) rfl rfl rfl rfl ?_
            refine sxo_nil ?_
            exact sxq_meetP ((!x45), ()) (lk_cons rfl (lk_cons rfl (lk_cons rfl (lk_cons rfl (lk_cons rfl lk_nil))))) .nil (.cons 0 rfl .nil) (fk_cons 0 rfl (fk_cons 1 rfl fk_nil))
        · refine sxo_isF (k := 38) rfl h21 ?_
          refine sxo_skip rfl rfl rfl ?_
          refine sxo_skip rfl rfl rfl ?_
          refine sxo_skip rfl rfl rfl ?_
          refine sxo_skip rfl rfl rfl ?_
          refine sxo_skip rfl rfl rfl ?_
          refine sxo_skip rfl rfl rfl ?_
          refine sxo_skip rfl rfl rfl ?_
          refine sxo_skip rfl rfl rfl ?_
          refine sxo_skip rfl rfl rfl ?_
          refine sxo_pick (b := false) rfl rfl rfl rfl ?_
          refine sxo_nil ?_
          exact sxq_meetP (false, ()) (lk_cons rfl (lk_cons rfl (lk_cons rfl (lk_cons rfl (lk_cons rfl lk_nil))))) .nil (.cons 0 rfl .nil) (fk_cons 0 rfl (fk_cons 1 rfl fk_nil))
      · rintro ⟨x27, _⟩
        try dsimp only
        refine sxo_take (os := _) rfl ?_
        refine sxo_move rfl rfl rfl ?_
        refine sxo_join 13 (fun ((x35, _) : (Bool × Unit)) => [(62, .bool x35)]) (fun ((x35, _) : (Bool × Unit)) => []) (fun ((x35, _) : (Bool × Unit)) => []) (fun ((x35, _) : (Bool × Unit)) => []) (fun ((x35, _) : (Bool × Unit)) => M_L_PartsApart_j4 F x35) ?_ ?_
        · refine sxo_take (os := _) rfl ?_
          refine sxo_if (fun h28 => ?_) (fun h28 => ?_)
          · refine sxo_isT (k := 49) rfl h28 ?_
            refine sxo_move rfl rfl rfl ?_
            refine sxo_move rfl rfl rfl ?_
            refine sxo_call ent40 rfl rfl rfl (fun x36 e36 => C_R_HasInt F x17.1 a18 c19 x7 x36 e36) (.consR 0 (Ro (eI .i64) 3 1 (.slice a18 x17.1.length c19) x17.1) rfl .nil) (fun x36 e36 => ?_)
            intro _
            refine sxo_move rfl rfl rfl ?_
            refine sxo_move rfl rfl rfl ?_
            refine sxo_call ent40 rfl rfl rfl (fun x37 e37 => C_R_HasInt F x1 a2 c3 x7 x37 e37) (.consF 0 rfl .nil) (fun x37 e37 => ?_)
            intro _
            refine sxo_move rfl rfl rfl ?_
            refine sxo_join 4 (fun ((x40, _) : (Bool × Unit)) => [(49, .bool true), (52, .bool x36), (60, .bool x40)]) (fun ((x40, _) : (Bool × Unit)) => []) (fun ((x40, _) : (Bool × Unit)) => []) (fun ((x40, _) : (Bool × Unit)) => []) (fun ((x40, _) : (Bool × Unit)) => M_L_PartsApart_j5 F x36 x40) ?_ ?_
            · refine sxo_take (os := _) rfl ?_
              refine sxo_if (fun h38 => ?_) (fun h38 => ?_)
              · refine sxo_isT (k := 56) rfl h38 ?_
                refine sxo_move rfl rfl rfl ?_
                refine sxo_move rfl rfl rfl ?_
                refine sxo_call ent40 rfl rfl rfl (fun x41 e41 => C_R_HasInt F x4 a5 c6 x7 x41 e41) (.consF 1 rfl .nil) (fun x41 e41 => ?_)
                intro _
                refine sxo_pick (b := true) rfl rfl rfl rfl ?_
                refine sxo_nil ?_
                exact sxq_meetP (x41, ()) (lk_cons rfl (lk_cons rfl (lk_cons rfl lk_nil))) .nil .nil fk_nil
              · refine sxo_isF (k := 56) rfl h38 ?_
                refine sxo_skip rfl rfl rfl ?_
                refine sxo_skip rfl rfl rfl ?_
                refine sxo_skip rfl rfl rfl ?_
                refine sxo_pick (b := false) rfl rfl rfl rfl ?_
                refine sxo_nil ?_
                exact sxq_meetP (false, ()) (lk_cons rfl (lk_cons rfl (lk_cons rfl lk_nil))) .nil .nil fk_nil
            · rintro ⟨x40, _⟩
              try dsimp only
              refine sxo_take (os := _) rfl ?_
              refine sxo_eqb rfl Try.underlying4 rfl rfl rfl ?_
              refine sxo_pick (b := true) rfl rfl rfl rfl ?_
              refine sxo_nil ?_
              exact sxq_meetP ((x36 == x40), ()) (lk_cons rfl lk_nil) .nil .nil fk_nil
          · refine sxo_isF (k := 49) rfl h28 ?_
            refine sxo_skip rfl rfl rfl ?_
            refine sxo_skip rfl rfl rfl ?_
            refine sxo_skip rfl rfl rfl ?_
            refine sxo_skip rfl rfl rfl ?_
            refine sxo_skip rfl rfl rfl ?_
            refine sxo_skip rfl rfl rfl ?_
            refine sxo_skip rfl rfl rfl ?_
            refine sxo_skip rfl rfl rfl ?_
            refine sxo_skip rfl rfl rfl ?_
            refine sxo_skip rfl rfl rfl ?_
            refine sxo_skip rfl rfl rfl ?_
            refine sxo_skip rfl rfl rfl ?_
            refine sxo_pick (b := false) rfl rfl rfl rfl ?_
            refine sxo_nil ?_
            exact sxq_meetP (false, ()) (lk_cons rfl lk_nil) .nil .nil fk_nil
        · rintro ⟨x35, _⟩
          try dsimp only
          refine sxo_take (os := _) rfl ?_
          refine sxo_assign rfl rfl rfl ?_
          refine sxo_nil ?_
          refine sxq_next ?_
          refine sxc_ret ?_
          exact sxq_doneP () (.inl rfl) (res1 rfl rfl) (fun h => by subst h; rfl) (fun h => by subst h; exact .nil)
end Go.Proofs.Ytghkjonlhphcjaa
