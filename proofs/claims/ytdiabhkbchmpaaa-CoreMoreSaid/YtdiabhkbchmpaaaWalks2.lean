/- Each Go function of this seat computes what its model says, part 2. -/
import Derived.Test.YtdiabhkbchmpaaaWalks
namespace Go.Proofs.Ytdiabhkbchmpaaa
open Go SX
set_option maxHeartbeats 4000000 in
theorem C_graph_Of (F : Nat) (x1 : Int) (x2 : List (Int × Int)) (a3 : Option Addr) (c4 : Nat) (r : (List (List Int) × Int)) (hm : M_graph_Of F x1 x2 = some r) :
    Pure Try.prog 23 [.int .i64 x1, .slice a3 x2.length c4] [Sl eS44 2 (.slice a3 x2.length c4) x2] (Option Addr × (Nat × List (Option Addr × Nat))) (fun g => .tuple #[.agg #[.slice g.1 r.1.length g.2.1], .int .i64 r.2]) (fun g => [RoN eN25 rN25 25 1 (.slice g.1 r.1.length g.2.1) r.1 g.2.2 []]) (fun _ => []) := by
  refine pure_of Try.func23 rfl Try.ntmps23 rfl hm (fun w => ?_)
  refine sxc_env (l' := [(0, .int .i64 x1), (1, .slice a3 x2.length c4)]) rfl ?_
  refine sxc_seq ?_
  refine sxc_region ?_
  refine sxo_alloc rfl tf24 rfl (fun g5 => ?_)
  refine sxo_assign rfl rfl rfl ?_
  refine sxo_nil ?_
  refine sxq_next ?_
  refine sxc_seq ?_
  refine sxc_block ?_
  refine sxc_seq ?_
  refine sxc_region ?_
  refine sxo_move rfl rfl rfl ?_
  refine sxo_lss rfl rfl rfl rfl ?_
  refine sxo_move rfl rfl rfl ?_
  refine sxo_case 3 (decide (x1 < 0)) [(0, .int .i64 x1), (1, .slice a3 x2.length c4), (4, .pointer (some ⟨g5, 0, none⟩)), (17, .bool ((decide (x1 < 0)) || (decide (100 < x1))))] (fun h9 => ?_) (fun h9 => ?_) ?_
  · refine sxo_take (os := _) rfl ?_
    refine sxo_isT (k := 14) rfl h9 ?_
    refine sxo_skip rfl rfl rfl ?_
    refine sxo_skip rfl rfl rfl ?_
    refine sxo_pick (b := true) rfl rfl rfl rfl ?_
    refine sxo_again (d := 17) (v := .bool ((decide (x1 < 0)) || (decide (100 < x1)))) rfl (by rw [h9]; simp only [Bool.true_or]) ?_
    refine sxo_nil ?_
    exact sxq_case (lk_cons rfl (lk_cons rfl (lk_cons rfl (lk_cons rfl lk_nil))))
  · refine sxo_take (os := _) rfl ?_
    refine sxo_isF (k := 14) rfl h9 ?_
    refine sxo_move rfl rfl rfl ?_
    refine sxo_gtr rfl rfl rfl rfl ?_
    refine sxo_pick (b := false) rfl rfl rfl rfl ?_
    refine sxo_again (d := 17) (v := .bool ((decide (x1 < 0)) || (decide (100 < x1)))) rfl (by rw [h9]; simp only [Bool.false_or]) ?_
    refine sxo_nil ?_
    exact sxq_case (lk_cons rfl (lk_cons rfl (lk_cons rfl (lk_cons rfl lk_nil))))
  refine sxo_take (os := _) rfl ?_
  refine sxo_assign rfl rfl rfl ?_
  refine sxo_nil ?_
  refine sxq_next ?_
  refine sxc_if rfl (fun h242 => ?_) (fun h242 => ?_)
  · refine sxc_seq ?_
    refine sxc_region ?_
    refine sxo_build (cells := [.slice none 0 0]) rfl st24 rfl (by kernel_rfl) rfl ?_
    refine sxo_storeB (i := 0) rfl rfl rfl tf24 rfl rfl rfl rfl rfl ?_
    refine sxo_assign rfl rfl rfl ?_
    refine sxo_nil ?_
    refine sxq_next ?_
    refine sxc_ret ?_
    refine sxq_blkR ?_
    refine sxq_thenR ?_
    refine sxq_nilN (List Int) (Option Addr × Nat) eN25 rN25 25 1 ?_
    exact sxq_doneP (none, (0, ([] : List (Option Addr × Nat)))) (.inl rfl) (resL (rs := [.cell 4 24, .tmp 5]) rfl (.cell (i := 0) rfl tf24 rfl rfl (by simp) rfl (.tmp rfl ResOk.nil)) rfl) (fun h => by subst h; rfl) (fun h => by subst h; exact (.cons 0 rfl .nil))
  · refine sxc_seq ?_
    refine sxc_region ?_
    refine sxo_move rfl rfl rfl ?_
    refine sxo_len rfl Try.underlying45 rfl rfl ?_
    refine sxo_gtr rfl rfl rfl rfl ?_
    refine sxo_assign rfl rfl rfl ?_
    refine sxo_nil ?_
    refine sxq_next ?_
    refine sxc_if rfl (fun h241 => ?_) (fun h241 => ?_)
    · refine sxc_seq ?_
      refine sxc_region ?_
      refine sxo_build (cells := [.slice none 0 0]) rfl st24 rfl (by kernel_rfl) rfl ?_
      refine sxo_storeB (i := 0) rfl rfl rfl tf24 rfl rfl rfl rfl rfl ?_
      refine sxo_assign rfl rfl rfl ?_
      refine sxo_nil ?_
      refine sxq_next ?_
      refine sxc_ret ?_
      refine sxq_blkR ?_
      refine sxq_thenR ?_
      refine sxq_nilN (List Int) (Option Addr × Nat) eN25 rN25 25 1 ?_
      exact sxq_doneP (none, (0, ([] : List (Option Addr × Nat)))) (.inl rfl) (resL (rs := [.cell 4 24, .tmp 5]) rfl (.cell (i := 0) rfl tf24 rfl rfl (by simp) rfl (.tmp rfl ResOk.nil)) rfl) (fun h => by subst h; rfl) (fun h => by subst h; exact (.cons 0 rfl .nil))
    · refine sxc_skip ?_
      refine sxq_blkN ?_
      refine sxq_next ?_
      refine sxc_seq ?_
      refine sxc_region ?_
      refine sxo_makeMap (k0 := .i64) (k1 := .i64) rfl rfl (fun g10 => ?_)
      refine sxo_assign rfl rfl rfl ?_
      refine sxo_nil ?_
      refine sxq_next ?_
      refine sxc_join (fun ((_, _) : (Unit × Unit)) => [(0, .int .i64 x1), (1, .slice a3 x2.length c4), (4, .pointer (some ⟨g5, 0, none⟩))]) (fun ((_, _) : (Unit × Unit)) => [⟨g5, 24, [.slice none 0 0]⟩]) (fun ((_, _) : (Unit × Unit)) => []) (fun ((_, _) : (Unit × Unit)) => [Sl eS44 2 (.slice a3 x2.length c4) x2]) (fun ((_, _) : (Unit × Unit)) => M_graph_Of_j2 F x1 x2) ?_ ?_
      · refine sxc_seq ?_
        refine sxc_region ?_
        refine sxo_move rfl rfl rfl ?_
        refine sxo_len rfl Try.underlying45 rfl rfl ?_
        refine sxo_move rfl rfl rfl ?_
        refine sxo_nil ?_
        refine sxq_next ?_
        refine sxc_block ?_
        refine sxc_loopP (fun (((x166, x167), _) : ((Int × List (Int × Int)) × Unit)) => [(0, .int .i64 x1), (1, .slice a3 x2.length c4), (4, .pointer (some ⟨g5, 0, none⟩)), (6, .map (some g10)), (25, .slice a3 x2.length c4), (26, .int .i64 (x2.length : Int)), (27, .int .i64 x166)]) (fun (((x166, x167), _) : ((Int × List (Int × Int)) × Unit)) => [(blkO g10 (mapO .i64 .i64 x167)), ⟨g5, 24, [.slice none 0 0]⟩]) (fun (((x166, x167), _) : ((Int × List (Int × Int)) × Unit)) => []) (fun (((x166, x167), _) : ((Int × List (Int × Int)) × Unit)) => [Sl eS44 2 (.slice a3 x2.length c4) x2]) (fun k (s : ((Int × List (Int × Int)) × Unit)) => M_graph_Of_l3 F x1 x2 k s.1) ((0, ([] : List (Int × Int))), ()) F (lk_cons rfl (lk_cons rfl (lk_cons rfl (lk_cons rfl (lk_cons rfl (lk_cons rfl (lk_cons rfl lk_nil))))))) (.cons 0 rfl (.cons 0 rfl .nil)) .nil (fk_cons 0 rfl fk_nil) (fun _ => rfl) ?_
        intro k204
        rintro ⟨⟨x166, x167⟩, _⟩
        try dsimp only
        refine sxc_meq (m' := M_graph_Of_b3 F x1 x2 (M_graph_Of_l3 F x1 x2 k204) x166 x167) rfl ?_
        refine sxc_seq ?_
        refine sxc_region ?_
        refine sxo_lss rfl rfl rfl rfl ?_
        refine sxo_nil ?_
        refine sxq_next ?_
        refine sxc_seq ?_
        refine sxc_if rfl (fun h240 => ?_) (fun h240 => ?_)
        · refine sxc_skip ?_
          refine sxq_next ?_
          refine sxc_seq ?_
          refine sxc_block ?_
          refine sxc_seq ?_
          refine sxc_region ?_
          refine sxo_indexF (j := 0) eS44_ok (by decide) rfl Try.underlying45 tf44 rfl rfl rfl rfl (fun x223 e223 b224 o225 => ?_)
          refine sxo_loadF (j := 0) rfl rfl tf44 rfl rfl (by simp) rfl rfl ?_
          refine sxo_alloc rfl tf44 rfl (fun g226 => ?_)
          refine sxo_storeB (i := 0) rfl rfl rfl tf44 rfl rfl rfl rfl rfl ?_
          refine sxo_nil ?_
          refine sxq_next ?_
          refine sxc_seq ?_
          refine sxc_seq ?_
          refine sxc_region ?_
          refine sxo_fieldAddr rfl rfl ff44_0 rfl ?_
          refine sxo_loadB (i := 0) rfl rfl tf3 rfl rfl (fun _ => rfl) rfl rfl ?_
          refine sxo_lss rfl rfl rfl rfl ?_
          refine sxo_move rfl rfl rfl ?_
          refine sxo_case 5 (decide (x223.1 < 0)) [(0, .int .i64 x1), (1, .slice a3 x2.length c4), (4, .pointer (some ⟨g5, 0, none⟩)), (6, .map (some g10)), (25, .slice a3 x2.length c4), (26, .int .i64 (x2.length : Int)), (27, .int .i64 x166), (8, .pointer (some ⟨g226, 0, none⟩)), (39, .bool ((decide (x223.1 < 0)) || (decide (x1 ≤ x223.1))))] (fun h231 => ?_) (fun h231 => ?_) ?_
          · refine sxo_take (os := _) rfl ?_
            refine sxo_isT (k := 34) rfl h231 ?_
            refine sxo_skip rfl rfl rfl ?_
            refine sxo_skip rfl rfl rfl ?_
            refine sxo_skip rfl rfl rfl ?_
            refine sxo_skip rfl rfl rfl ?_
            refine sxo_pick (b := true) rfl rfl rfl rfl ?_
            refine sxo_again (d := 39) (v := .bool ((decide (x223.1 < 0)) || (decide (x1 ≤ x223.1)))) rfl (by rw [h231]; simp only [Bool.true_or]) ?_
            refine sxo_nil ?_
            exact sxq_case (lk_cons rfl (lk_cons rfl (lk_cons rfl (lk_cons rfl (lk_cons rfl (lk_cons rfl (lk_cons rfl (lk_cons rfl (lk_cons rfl lk_nil)))))))))
          · refine sxo_take (os := _) rfl ?_
            refine sxo_isF (k := 34) rfl h231 ?_
            refine sxo_fieldAddr rfl rfl ff44_0 rfl ?_
            refine sxo_loadB (i := 0) rfl rfl tf3 rfl rfl (fun _ => rfl) rfl rfl ?_
            refine sxo_move rfl rfl rfl ?_
            refine sxo_geq rfl rfl rfl rfl ?_
            refine sxo_pick (b := false) rfl rfl rfl rfl ?_
            refine sxo_again (d := 39) (v := .bool ((decide (x223.1 < 0)) || (decide (x1 ≤ x223.1)))) rfl (by rw [h231]; simp only [Bool.false_or]) ?_
            refine sxo_nil ?_
            exact sxq_case (lk_cons rfl (lk_cons rfl (lk_cons rfl (lk_cons rfl (lk_cons rfl (lk_cons rfl (lk_cons rfl (lk_cons rfl (lk_cons rfl lk_nil)))))))))
          refine sxo_take (os := _) rfl ?_
          refine sxo_move rfl rfl rfl ?_
          refine sxo_case 4 ((decide (x223.1 < 0)) || (decide (x1 ≤ x223.1))) [(0, .int .i64 x1), (1, .slice a3 x2.length c4), (4, .pointer (some ⟨g5, 0, none⟩)), (6, .map (some g10)), (25, .slice a3 x2.length c4), (26, .int .i64 (x2.length : Int)), (27, .int .i64 x166), (8, .pointer (some ⟨g226, 0, none⟩)), (44, .bool (((decide (x223.1 < 0)) || (decide (x1 ≤ x223.1))) || (decide (x223.2 < 0))))] (fun h232 => ?_) (fun h232 => ?_) ?_
          · refine sxo_take (os := _) rfl ?_
            refine sxo_isT (k := 40) rfl h232 ?_
            refine sxo_skip rfl rfl rfl ?_
            refine sxo_skip rfl rfl rfl ?_
            refine sxo_skip rfl rfl rfl ?_
            refine sxo_pick (b := true) rfl rfl rfl rfl ?_
            refine sxo_again (d := 44) (v := .bool (((decide (x223.1 < 0)) || (decide (x1 ≤ x223.1))) || (decide (x223.2 < 0)))) rfl (by rw [h232]; simp only [Bool.true_or]) ?_
            refine sxo_nil ?_
            exact sxq_case (lk_cons rfl (lk_cons rfl (lk_cons rfl (lk_cons rfl (lk_cons rfl (lk_cons rfl (lk_cons rfl (lk_cons rfl (lk_cons rfl lk_nil)))))))))
          · refine sxo_take (os := _) rfl ?_
            refine sxo_isF (k := 40) rfl h232 ?_
            refine sxo_fieldAddr rfl rfl ff44_1 rfl ?_
            refine sxo_loadB (i := 0) rfl rfl tf3 rfl rfl (fun _ => rfl) rfl rfl ?_
            refine sxo_lss rfl rfl rfl rfl ?_
            refine sxo_pick (b := false) rfl rfl rfl rfl ?_
            refine sxo_again (d := 44) (v := .bool (((decide (x223.1 < 0)) || (decide (x1 ≤ x223.1))) || (decide (x223.2 < 0)))) rfl (by rw [h232]; simp only [Bool.false_or]) ?_
            refine sxo_nil ?_
            exact sxq_case (lk_cons rfl (lk_cons rfl (lk_cons rfl (lk_cons rfl (lk_cons rfl (lk_cons rfl (lk_cons rfl (lk_cons rfl (lk_cons rfl lk_nil)))))))))
          refine sxo_take (os := _) rfl ?_
          refine sxo_move rfl rfl rfl ?_
          refine sxo_case 5 (((decide (x223.1 < 0)) || (decide (x1 ≤ x223.1))) || (decide (x223.2 < 0))) [(0, .int .i64 x1), (1, .slice a3 x2.length c4), (4, .pointer (some ⟨g5, 0, none⟩)), (6, .map (some g10)), (25, .slice a3 x2.length c4), (26, .int .i64 (x2.length : Int)), (27, .int .i64 x166), (8, .pointer (some ⟨g226, 0, none⟩)), (50, .bool ((((decide (x223.1 < 0)) || (decide (x1 ≤ x223.1))) || (decide (x223.2 < 0))) || (decide (x1 ≤ x223.2))))] (fun h233 => ?_) (fun h233 => ?_) ?_
          · refine sxo_take (os := _) rfl ?_
            refine sxo_isT (k := 45) rfl h233 ?_
            refine sxo_skip rfl rfl rfl ?_
            refine sxo_skip rfl rfl rfl ?_
            refine sxo_skip rfl rfl rfl ?_
            refine sxo_skip rfl rfl rfl ?_
            refine sxo_pick (b := true) rfl rfl rfl rfl ?_
            refine sxo_again (d := 50) (v := .bool ((((decide (x223.1 < 0)) || (decide (x1 ≤ x223.1))) || (decide (x223.2 < 0))) || (decide (x1 ≤ x223.2)))) rfl (by rw [h233]; simp only [Bool.true_or]) ?_
            refine sxo_nil ?_
            exact sxq_case (lk_cons rfl (lk_cons rfl (lk_cons rfl (lk_cons rfl (lk_cons rfl (lk_cons rfl (lk_cons rfl (lk_cons rfl (lk_cons rfl lk_nil)))))))))
          · refine sxo_take (os := _) rfl ?_
            refine sxo_isF (k := 45) rfl h233 ?_
            refine sxo_fieldAddr rfl rfl ff44_1 rfl ?_
            refine sxo_loadB (i := 0) rfl rfl tf3 rfl rfl (fun _ => rfl) rfl rfl ?_
            refine sxo_move rfl rfl rfl ?_
            refine sxo_geq rfl rfl rfl rfl ?_
            refine sxo_pick (b := false) rfl rfl rfl rfl ?_
            refine sxo_again (d := 50) (v := .bool ((((decide (x223.1 < 0)) || (decide (x1 ≤ x223.1))) || (decide (x223.2 < 0))) || (decide (x1 ≤ x223.2)))) rfl (by rw [h233]; simp only [Bool.false_or]) ?_
            refine sxo_nil ?_
            exact sxq_case (lk_cons rfl (lk_cons rfl (lk_cons rfl (lk_cons rfl (lk_cons rfl (lk_cons rfl (lk_cons rfl (lk_cons rfl (lk_cons rfl lk_nil)))))))))
          refine sxo_take (os := _) rfl ?_
          refine sxo_nil ?_
          refine sxq_next ?_
          refine sxc_if rfl (fun h239 => ?_) (fun h239 => ?_)
          · refine sxc_seq ?_
            refine sxc_region ?_
            refine sxo_build (cells := [.slice none 0 0]) rfl st24 rfl (by kernel_rfl) rfl ?_
            refine sxo_storeB (i := 2) rfl rfl rfl tf24 rfl rfl rfl rfl rfl ?_
            refine sxo_assign rfl rfl rfl ?_
            refine sxo_nil ?_
            refine sxq_next ?_
            refine sxc_ret ?_
            refine sxq_thenR ?_
            refine sxq_blkR ?_
            refine sxq_thenR ?_
            refine sxq_thenR ?_
            refine sxq_blkR ?_
            refine sxq_thenR ?_
            refine sxq_nilN (List Int) (Option Addr × Nat) eN25 rN25 25 1 ?_
            exact sxq_doneP (none, (0, ([] : List (Option Addr × Nat)))) (.inl rfl) (resL (rs := [.cell 4 24, .tmp 5]) rfl (.cell (i := 2) rfl tf24 rfl rfl (by simp) rfl (.tmp rfl ResOk.nil)) rfl) (fun h => by subst h; rfl) (fun h => by subst h; exact (.cons 0 rfl .nil))
          · refine sxc_skip ?_
            refine sxq_next ?_
            refine sxc_seq ?_
            refine sxc_seq ?_
            refine sxc_region ?_
            refine sxo_move rfl rfl rfl ?_
            refine sxo_loadB (i := 0) rfl rfl tf44 rfl rfl (by simp) rfl rfl ?_
            refine sxo_lookupS (i := 1) (p := (x223.1, x223.2)) rfl Try.underlying72 se44 tf73 rfl rfl rfl rfl ?_
            refine sxo_move rfl rfl rfl ?_
            refine sxo_extract rfl rfl rfl rfl ?_
            refine sxo_extract rfl rfl rfl rfl ?_
            refine sxo_alloc rfl tf73 rfl (fun g236 => ?_)
            refine sxo_storeB (i := 0) rfl rfl rfl tf73 rfl rfl rfl rfl rfl ?_
            refine sxo_assign rfl rfl rfl ?_
            refine sxo_nil ?_
            refine sxq_next ?_
            refine sxc_seq ?_
            refine sxc_region ?_
            refine sxo_move rfl rfl rfl ?_
            refine sxo_nil ?_
            refine sxq_next ?_
            refine sxc_if rfl (fun h238 => ?_) (fun h238 => ?_)
            · refine sxc_seq ?_
              refine sxc_region ?_
              refine sxo_build (cells := [.slice none 0 0]) rfl st24 rfl (by kernel_rfl) rfl ?_
              refine sxo_storeB (i := 3) rfl rfl rfl tf24 rfl rfl rfl rfl rfl ?_
              refine sxo_assign rfl rfl rfl ?_
              refine sxo_nil ?_
              refine sxq_next ?_
              refine sxc_ret ?_
              refine sxq_thenR ?_
              refine sxq_blkR ?_
              refine sxq_thenR ?_
              refine sxq_thenR ?_
              refine sxq_blkR ?_
              refine sxq_thenR ?_
              refine sxq_nilN (List Int) (Option Addr × Nat) eN25 rN25 25 1 ?_
              exact sxq_doneP (none, (0, ([] : List (Option Addr × Nat)))) (.inl rfl) (resL (rs := [.cell 4 24, .tmp 5]) rfl (.cell (i := 3) rfl tf24 rfl rfl (by simp) rfl (.tmp rfl ResOk.nil)) rfl) (fun h => by subst h; rfl) (fun h => by subst h; exact (.cons 0 rfl .nil))
            · refine sxc_skip ?_
              refine sxq_next ?_
              refine sxc_region ?_
              refine sxo_move rfl rfl rfl ?_
              refine sxo_loadB (i := 1) rfl rfl tf44 rfl rfl (by simp) rfl rfl ?_
              refine sxo_build (cells := []) rfl st73 rfl (by kernel_rfl) rfl ?_
              refine sxo_mapPut (i := 2) (p := (x223.1, x223.2)) rfl Try.underlying72 se44 rfl rfl rfl rfl (fun x237 e237 => ?_)
              refine sxo_nil ?_
              refine sxq_blkN ?_
              refine sxq_next ?_
              refine sxc_region ?_
              refine sxo_add rfl rfl rfl rfl ?_
              refine sxo_move rfl rfl rfl ?_
              refine sxo_nil ?_
              exact sxq_againP ((iadd .i64 x166 1, x237), ()) (lk_cons rfl (lk_cons rfl (lk_cons rfl (lk_cons rfl (lk_cons rfl (lk_cons rfl (lk_cons rfl lk_nil))))))) (.cons 2 rfl (.cons 2 rfl .nil)) .nil (fk_cons 1 rfl fk_nil)
        · refine sxc_exit ?_
          refine sxq_thenX ?_
          refine sxq_thenX ?_
          refine sxq_blkX ?_
          exact sxq_meetP ((), ()) (lk_cons rfl (lk_cons rfl (lk_cons rfl lk_nil))) (.cons 1 rfl .nil) .nil (fk_cons 0 rfl fk_nil)
      · rintro ⟨_, _⟩
        try dsimp only
        refine sxc_seq ?_
        refine sxc_region ?_
        refine sxo_move rfl rfl rfl ?_
        refine sxo_move rfl rfl rfl ?_
        refine sxo_callM ent43 rfl rfl rfl (fun x122 e122 => C_slices_Values_api_Arc_api_Arc F x2 a3 c4 x122 e122) .nil .nil (.consF 0 rfl .nil) (fun x122 e122 => ?_)
        rintro g123
        refine sxo_callM ent42 rfl rfl rfl (fun x124 e124 => C_slices_SortedFunc_api_Arc_slices_Values_api_Arc_api_Arc_1_graph_order F g123 x2 a3 c4 x124 e124) (.cons 0 rfl .nil) .nil (.consF 0 rfl .nil) (fun x124 e124 => ?_)
        rintro ⟨a125, c126⟩
        refine sxo_call ent41 rfl rfl rfl (fun x127 e127 => C_graph_Built F x1 x124 a125 c126 x127 e127) (.consR 0 (Ro eS44 44 2 (.slice a125 x124.length c126) x124) rfl .nil) (fun x127 e127 => ?_)
        rintro ⟨a128, c129⟩
        refine sxo_storeB (i := 1) rfl rfl rfl tf24 rfl rfl rfl rfl rfl ?_
        refine sxo_assign rfl rfl rfl ?_
        refine sxo_nil ?_
        refine sxq_next ?_
        refine sxc_ret ?_
        exact sxq_doneP (a128, c129) (.inl rfl) (resL (rs := [.cell 4 24, .tmp 5]) rfl (.cell (i := 1) rfl tf24 rfl rfl (by simp) rfl (.tmp rfl ResOk.nil)) rfl) (fun h => by subst h; rfl) (fun h => by subst h; exact (.cons 0 rfl .nil))

theorem C_graph_turned (F : Nat) (x1 : List (List Int)) (a2 : Option Addr) (c3 : (Nat × List (Option Addr × Nat))) (r : List (Int × Int)) (hm : M_graph_turned F x1 = some r) :
    PureM Try.prog 45 [.agg #[.slice a2 x1.length c3.1]] [] [] [SlN eN25 iN25 1 (.slice a2 x1.length c3.1) x1 c3.2] (Option Addr × Nat) (fun g => .slice g.1 r.length g.2) (fun _ => []) (fun g => [Ro eS44 44 2 (.slice g.1 r.length g.2) r]) := by
  refine pureX_of Try.func45 rfl Try.ntmps45 rfl hm (fun w => ?_)
  refine sxc_env (l' := [(0, .agg #[.slice a2 x1.length c3.1])]) rfl ?_
  refine sxc_seq ?_
  refine sxc_region ?_
  refine sxo_box rfl rfl rfl (fun g4 => ?_)
  refine sxo_assign rfl rfl rfl ?_
  refine sxo_nil ?_
  refine sxq_next ?_
  refine sxc_seq ?_
  refine sxc_region ?_
  refine sxo_alloc rfl tf45 rfl (fun g5 => ?_)
  refine sxo_nil ?_
  refine sxq_next ?_
  refine sxc_seq ?_
  refine sxc_seq ?_
  refine sxc_region ?_
  refine sxo_loadB (i := 1) rfl rfl tf24 rfl rfl (by simp) rfl rfl ?_
  refine sxo_callM ent36 rfl rfl rfl (fun x35 e35 => C_graph_All F x1 a2 c3 x35 e35) .nil .nil (.consF 0 rfl .nil) (fun x35 e35 => ?_)
  rintro g36
  refine sxo_nil ?_
  refine sxq_next ?_
  refine sxc_block ?_
  refine sxc_nilrow (Int × Int) eS44 44 2 ?_
  refine sxc_range (encs := (fun (p : (Int × Int)) => [.agg #[.int .i64 p.1, .int .i64 p.2]])) (y := (fun (x47 : List (Int × Int)) ((x56, x57) : (Int × Int)) => M_graph_turned_r2 F x47 x56 x57)) (lb := [.pointer (some ⟨g36, 0, none⟩)]) (fun (x47 : List (Int × Int)) ((a45, c46) : (Option Addr × Nat)) => [⟨g5, 45, [.slice a45 x47.length c46]⟩, ⟨g4, 24, [.slice a2 x1.length c3.1]⟩]) (fun (x47 : List (Int × Int)) ((a45, c46) : (Option Addr × Nat)) => [Ro eS44 44 2 (.slice a45 x47.length c46) x47]) (fun (_ : Empty) (_ : Unit) => []) (fun (_ : Empty) (_ : Unit) => []) (fun _ => .skip) ([] : List (Int × Int)) (none, 0) rfl ent55 (fun _ => rfl) rfl (.cons 0 rfl .nil) (.cons 0 rfl (.cons 0 rfl .nil)) (.cons 0 rfl .nil) (.consF 0 rfl .nil) (fun z hz _ _ _ hY => C_graph_All_1 F hY ([] : List (Int × Int)) (none, 0) g36 x1 a2 c3 z hz) ?_ ?_ ?_
  · rintro rc1 L1 D1 x47 ⟨a45, c46⟩ ⟨x56, x57⟩ z w M _
    try dsimp only
    refine sxc_less [(0, .agg #[.slice a2 x1.length c3.1]), (1, .pointer (some ⟨g4, 0, none⟩)), (2, .slice none 0 0), (3, .pointer (some ⟨g5, 0, none⟩)), (5, .agg #[.slice a2 x1.length c3.1]), (6, .func (.func 55) #[] #[.pointer (some ⟨g36, 0, none⟩)]), (7, .agg #[.int .i64 x56, .int .i64 x57])] (lk_cons rfl (lk_cons rfl (lk_cons rfl (lk_cons rfl (lk_cons rfl (lk_cons rfl (lk_cons rfl lk_nil))))))) ?_
    refine sxc_region ?_
    refine sxo_alloc rfl tf44 rfl (fun g58 => ?_)
    refine sxo_storeB (i := 0) rfl rfl rfl tf44 rfl rfl rfl rfl rfl ?_
    refine sxo_nil ?_
    refine sxq_begin (i := 3) rfl ?_
    refine sxc_block ?_
    refine sxc_region ?_
    refine sxo_loadB (i := 1) rfl rfl tf45 rfl rfl (fun _ => rfl) rfl rfl ?_
    refine sxo_fieldAddr rfl rfl ff44_1 rfl ?_
    refine sxo_loadB (i := 0) rfl rfl tf3 rfl rfl (fun _ => rfl) rfl rfl ?_
    refine sxo_fieldAddr rfl rfl ff44_0 rfl ?_
    refine sxo_loadB (i := 0) rfl rfl tf3 rfl rfl (fun _ => rfl) rfl rfl ?_
    refine sxo_build (cells := [.int .i64 x57, .int .i64 x56]) rfl st44 rfl (by kernel_rfl) rfl ?_
    refine sxo_slit (vs := [.agg #[.int .i64 x57, .int .i64 x56]]) (ys := ([(x57, x56)] : List (Int × Int))) eS44_ok (by decide) rfl Try.underlying45 tf44 rfl rfl rfl rfl rfl (by decide) (fun a59 c60 => ?_)
    refine sxo_app 1 eS44_ok rfl Try.underlying45 tf44 rfl rfl rfl rfl rfl (.inl ⟨0, _, rfl⟩) rfl rfl (fun x61 e61 a62 c63 => ?_)
    refine sxo_storeB (i := 1) rfl rfl rfl tf45 rfl rfl rfl rfl rfl ?_
    refine sxo_nil ?_
    refine sxq_blkN ?_
    exact sxq_round (rc := rc1) rfl (.cons 3 rfl .nil) rfl (a62, c63) (.cons 2 rfl (.cons 2 rfl (.cons 0 rfl (.cons 1 rfl .nil)))) (.cons 0 rfl .nil)
  · rintro x47 _ ⟨a45, c46⟩ D1
    try dsimp only
    refine sxq_blkN ?_
    refine sxq_next ?_
    refine sxc_seq ?_
    refine sxc_region ?_
    refine sxo_loadB (i := 2) rfl rfl tf45 rfl rfl (fun _ => rfl) rfl rfl ?_
    refine sxo_assign rfl rfl rfl ?_
    refine sxo_nil ?_
    refine sxq_next ?_
    refine sxc_ret ?_
    exact sxq_doneX [D1] (a45, c46) (.inl rfl) rfl (.cons 0 rfl .nil) (res1 rfl rfl) (fun h => by subst h; rfl) (fun h => by subst h; exact .nil) (fun h => by subst h; exact (.cons 0 rfl .nil))
  · intro t; exact t.elim

set_option maxHeartbeats 4000000 in
theorem C_slices_Compact_api_Arc_api_Arc (F : Nat) (x1 : List (Int × Int)) (a2 : Option Addr) (c3 : Nat) (r : List (Int × Int)) (hm : M_slices_Compact_api_Arc_api_Arc F x1 = some r) :
    PureM Try.prog 47 [.slice a2 x1.length c3] [] [Ro eS44 44 2 (.slice a2 x1.length c3) x1] [] (Option Addr × Nat) (fun g => .slice g.1 r.length g.2) (fun _ => []) (fun g => [Ro eS44 44 2 (.slice g.1 r.length g.2) r]) := by
  refine pureM_of Try.func47 rfl Try.ntmps47 rfl hm (fun w => ?_)
  refine sxc_env (l' := [(0, .slice a2 x1.length c3)]) rfl ?_
  refine sxc_seq ?_
  refine sxc_region ?_
  refine sxo_assign rfl rfl rfl ?_
  refine sxo_nil ?_
  refine sxq_next ?_
  refine sxc_seq ?_
  refine sxc_seq ?_
  refine sxc_region ?_
  refine sxo_move rfl rfl rfl ?_
  refine sxo_len rfl Try.underlying45 rfl rfl ?_
  refine sxo_lss rfl rfl rfl rfl ?_
  refine sxo_nil ?_
  refine sxq_next ?_
  refine sxc_if rfl (fun h2961 => ?_) (fun h2961 => ?_)
  · refine sxc_seq ?_
    refine sxc_region ?_
    refine sxo_move rfl rfl rfl ?_
    refine sxo_assign rfl rfl rfl ?_
    refine sxo_nil ?_
    refine sxq_next ?_
    refine sxc_ret ?_
    refine sxq_thenR ?_
    exact sxq_doneM (a2, c3) (.inl rfl) (res1 rfl rfl) (fun h => by subst h; rfl) (fun h => by subst h; exact .nil) (fun h => by subst h; exact (.cons 0 rfl .nil))
  · refine sxc_skip ?_
    refine sxq_next ?_
    refine sxc_join (fun ((_, _) : (Unit × Unit)) => [(0, .slice a2 x1.length c3)]) (fun ((_, _) : (Unit × Unit)) => []) (fun ((_, _) : (Unit × Unit)) => [Ro eS44 44 2 (.slice a2 x1.length c3) x1]) (fun ((_, _) : (Unit × Unit)) => []) (fun ((_, _) : (Unit × Unit)) => M_slices_Compact_api_Arc_api_Arc_j59 F x1) ?_ ?_
    · refine sxc_seq ?_
      refine sxc_region ?_
      refine sxo_assign rfl rfl rfl ?_
      refine sxo_nil ?_
      refine sxq_next ?_
      refine sxc_block ?_
      refine sxc_loopP (fun ((x1975, _) : (Int × Unit)) => [(0, .slice a2 x1.length c3), (3, .int .i64 x1975)]) (fun ((x1975, _) : (Int × Unit)) => []) (fun ((x1975, _) : (Int × Unit)) => [Ro eS44 44 2 (.slice a2 x1.length c3) x1]) (fun ((x1975, _) : (Int × Unit)) => []) (fun k (s : (Int × Unit)) => M_slices_Compact_api_Arc_api_Arc_l98 F x1 k s.1) (1, ()) F (lk_cons rfl (lk_cons rfl lk_nil)) .nil (.cons 0 rfl .nil) fk_nil (fun _ => rfl) ?_
      intro k2468
      rintro ⟨x1975, _⟩
      try dsimp only
      refine sxc_meq (m' := M_slices_Compact_api_Arc_api_Arc_b98 F x1 (M_slices_Compact_api_Arc_api_Arc_l98 F x1 k2468) x1975) rfl ?_
      refine sxc_seq ?_
      refine sxc_seq ?_
      refine sxc_region ?_
      refine sxo_move rfl rfl rfl ?_
      refine sxo_move rfl rfl rfl ?_
      refine sxo_len rfl Try.underlying45 rfl rfl ?_
      refine sxo_lss rfl rfl rfl rfl ?_
      refine sxo_nil ?_
      refine sxq_next ?_
      refine sxc_if rfl (fun h2960 => ?_) (fun h2960 => ?_)
      · refine sxc_skip ?_
        refine sxq_next ?_
        refine sxc_join (fun ((_, _) : (Unit × Unit)) => [(0, .slice a2 x1.length c3), (3, .int .i64 x1975)]) (fun ((_, _) : (Unit × Unit)) => []) (fun ((_, _) : (Unit × Unit)) => [Ro eS44 44 2 (.slice a2 x1.length c3) x1]) (fun ((_, _) : (Unit × Unit)) => []) (fun ((_, _) : (Unit × Unit)) => M_slices_Compact_api_Arc_api_Arc_j108 F (M_slices_Compact_api_Arc_api_Arc_l98 F x1 k2468) x1975) ?_ ?_
        · refine sxc_block ?_
          refine sxc_seq ?_
          refine sxc_idxO (j := 0) rfl (fun x2723 e2723 g2724 h2725 => ?_)
          replace h2725 : a2 = some ⟨g2724, 0, none⟩ := h2725
          have h2726 := own_of (k := x1.length) (c := c3) h2725
          refine sxc_idxO (j := 0) rfl (fun x2727 e2727 g2728 h2729 => ?_)
          replace h2729 : a2 = some ⟨g2728, 0, none⟩ := h2729
          have h2730 := own_of (k := x1.length) (c := c3) h2729
          refine sxb_draw mixed [] [] [CellsAt g2724 (x1975.toNat * 2) (eS44 x2723), CellsAt g2728 ((isub .i64 x1975 1).toNat * 2) (eS44 x2727)] .nil (gk_R 0 rfl (at_row eS44_ok e2723 h2725) (gk_R 0 rfl (at_row eS44_ok e2727 h2729) gk_nil)) 10 rfl ?_
          refine sxb_takeP 0 (.slice a2 x1.length c3) rfl rfl rfl rfl (by kernel_rfl) (by kernel_rfl) (by kernel_rfl) (by kernel_rfl) (by kernel_rfl) rfl (show _ = #[true, false, false, false, false, false, false, false, false, false] from rfl) (yv_pv rfl) ?_
          refine sxb_takeP 1 (.int .i64 x1975) rfl rfl rfl rfl (by kernel_rfl) (by kernel_rfl) (by kernel_rfl) (by kernel_rfl) (by kernel_rfl) rfl (show _ = #[true, true, false, false, false, false, false, false, false, false] from rfl) (yv_pv rfl) ?_
          refine sxb_again (d := 16) (v := .slice (some ⟨g2724, 0, none⟩) x1.length c3) rfl (by rw [h2725] <;> rfl) ?_
          refine sxb_takeP 2 (.pointer (some ⟨g2724, x1975.toNat * 2, none⟩)) rfl rfl rfl rfl (by kernel_rfl) (by kernel_rfl) (by kernel_rfl) (by kernel_rfl) (by kernel_rfl) rfl (show _ = #[true, true, true, false, false, false, false, false, false, false] from rfl) (yv_idxO Try.underlying45 tf44 rfl rfl (idx_get e2723).1 (idx_lt e2723)) ?_
          refine sxb_again (d := 16) (v := .slice a2 x1.length c3) rfl (by rw [h2725] <;> rfl) ?_
          refine sxb_take 3 (.agg #[.int .i64 x2723.1, .int .i64 x2723.2]) [] rfl rfl rfl rfl (by kernel_rfl) (by kernel_rfl) (by kernel_rfl) (by kernel_rfl) (by kernel_rfl) (by kernel_rfl) rfl (show _ = #[true, true, true, true, false, false, false, false, false, false] from rfl) (yv_loadF (j := 0) rfl tf44 rfl rfl (by simp) rfl) ?_
          refine sxb_takeP 4 (.slice a2 x1.length c3) rfl rfl rfl rfl (by kernel_rfl) (by kernel_rfl) (by kernel_rfl) (by kernel_rfl) (by kernel_rfl) rfl (show _ = #[true, true, true, true, true, false, false, false, false, false] from rfl) (yv_pv rfl) ?_
          refine sxb_takeP 5 (.int .i64 x1975) rfl rfl rfl rfl (by kernel_rfl) (by kernel_rfl) (by kernel_rfl) (by kernel_rfl) (by kernel_rfl) rfl (show _ = #[true, true, true, true, true, true, false, false, false, false] from rfl) (yv_pv rfl) ?_
          refine sxb_takeP 6 (.int .i64 (isub .i64 x1975 1)) rfl rfl rfl rfl (by kernel_rfl) (by kernel_rfl) (by kernel_rfl) (by kernel_rfl) (by kernel_rfl) rfl (show _ = #[true, true, true, true, true, true, true, false, false, false] from rfl) (yv_pv rfl) ?_
          refine sxb_again (d := 20) (v := .slice (some ⟨g2728, 0, none⟩) x1.length c3) rfl (by rw [h2729] <;> rfl) ?_
          refine sxb_takeP 7 (.pointer (some ⟨g2728, (isub .i64 x1975 1).toNat * 2, none⟩)) rfl rfl rfl rfl (by kernel_rfl) (by kernel_rfl) (by kernel_rfl) (by kernel_rfl) (by kernel_rfl) rfl (show _ = #[true, true, true, true, true, true, true, true, false, false] from rfl) (yv_idxO Try.underlying45 tf44 rfl rfl (idx_get e2727).1 (idx_lt e2727)) ?_
          refine sxb_again (d := 20) (v := .slice a2 x1.length c3) rfl (by rw [h2729] <;> rfl) ?_
          refine sxb_take 8 (.agg #[.int .i64 x2727.1, .int .i64 x2727.2]) [] rfl rfl rfl rfl (by kernel_rfl) (by kernel_rfl) (by kernel_rfl) (by kernel_rfl) (by kernel_rfl) (by kernel_rfl) rfl (show _ = #[true, true, true, true, true, true, true, true, true, false] from rfl) (yv_loadF (j := 1) rfl tf44 rfl rfl (by simp) rfl) ?_
          refine sxb_takeP 9 (.bool (((x2723.1 : Int) == x2727.1) && ((x2723.2 : Int) == x2727.2))) rfl rfl rfl rfl (by kernel_rfl) (by kernel_rfl) (by kernel_rfl) (by kernel_rfl) (by kernel_rfl) rfl (show _ = #[true, true, true, true, true, true, true, true, true, true] from rfl) (yv_eql2 rfl rfl se44) ?_
          refine sxb_done (by kernel_rfl) ?_
          refine sxq_np ?_ (by intro c h; cases h)
          refine sxq_next ?_
          refine sxc_if rfl (fun h2959 => ?_) (fun h2959 => ?_)
          · refine sxc_seq ?_
            refine sxc_region ?_
            refine sxo_move rfl rfl rfl ?_
            refine sxo_move rfl rfl rfl ?_
            refine sxo_cutW (j := 0) rfl Try.underlying45 tf44 rfl rfl rfl rfl (fun h2731 g2732 h2733 => ?_)
            refine sxo_assign rfl rfl rfl ?_
            refine sxo_nil ?_
            refine sxq_next ?_
            refine sxc_join (fun (((x2842, x2843), _) : ((List (Int × Int) × Int) × Unit)) => [(0, .slice a2 x2842.length c3), (3, .int .i64 x2843)]) (fun (((x2842, x2843), _) : ((List (Int × Int) × Int) × Unit)) => []) (fun (((x2842, x2843), _) : ((List (Int × Int) × Int) × Unit)) => [Ro eS44 44 2 (.slice a2 x2842.length c3) x2842]) (fun (((x2842, x2843), _) : ((List (Int × Int) × Int) × Unit)) => []) (fun (((x2842, x2843), _) : ((List (Int × Int) × Int) × Unit)) => M_slices_Compact_api_Arc_api_Arc_j113 F x2842 x2843) ?_ ?_
            · refine sxc_seq ?_
              refine sxc_region ?_
              refine sxo_assign rfl rfl rfl ?_
              refine sxo_nil ?_
              refine sxq_next ?_
              refine sxc_block ?_
              refine sxc_loopP (fun (((x2879, x2880, x2881), _) : ((List (Int × Int) × Int × Int) × Unit)) => [(0, .slice a2 x2879.length c3), (3, .int .i64 x2880), (4, .slice (some ⟨g2732, x1975.toNat * 2, none⟩) (x1.length - x1975.toNat) (c3 - x1975.toNat)), (5, .int .i64 x2881)]) (fun (((x2879, x2880, x2881), _) : ((List (Int × Int) × Int × Int) × Unit)) => []) (fun (((x2879, x2880, x2881), _) : ((List (Int × Int) × Int × Int) × Unit)) => [Ro eS44 44 2 (.slice a2 x2879.length c3) x2879]) (fun (((x2879, x2880, x2881), _) : ((List (Int × Int) × Int × Int) × Unit)) => []) (fun k (s : ((List (Int × Int) × Int × Int) × Unit)) => M_slices_Compact_api_Arc_api_Arc_l116 F x1 x1975 k s.1) ((x1, x1975, 1), ()) F (lk_cons rfl (lk_cons rfl (lk_cons rfl (lk_cons rfl lk_nil)))) .nil (.cons 0 rfl .nil) fk_nil (fun _ => rfl) ?_
              intro k2920
              rintro ⟨⟨x2879, x2880, x2881⟩, _⟩
              try dsimp only
              refine sxc_meq (m' := M_slices_Compact_api_Arc_api_Arc_b116 F x1 x1975 (M_slices_Compact_api_Arc_api_Arc_l116 F x1 x1975 k2920) x2879 x2880 x2881) rfl ?_
              refine sxc_seq ?_
              refine sxc_seq ?_
              refine sxc_region ?_
              refine sxo_move rfl rfl rfl ?_
              refine sxo_move rfl rfl rfl ?_
              refine sxo_len rfl Try.underlying45 rfl rfl ?_
              refine sxo_lss rfl rfl rfl rfl ?_
              refine sxo_nil ?_
              refine sxq_next ?_
              refine sxc_if rfl (fun h2958 => ?_) (fun h2958 => ?_)
              · refine sxc_skip ?_
                refine sxq_next ?_
                refine sxc_join (fun (((x2939, x2940), _) : ((List (Int × Int) × Int) × Unit)) => [(0, .slice a2 x2939.length c3), (3, .int .i64 x2940), (4, .slice (some ⟨g2732, x1975.toNat * 2, none⟩) (x1.length - x1975.toNat) (c3 - x1975.toNat)), (5, .int .i64 x2881)]) (fun (((x2939, x2940), _) : ((List (Int × Int) × Int) × Unit)) => []) (fun (((x2939, x2940), _) : ((List (Int × Int) × Int) × Unit)) => [Ro eS44 44 2 (.slice a2 x2939.length c3) x2939]) (fun (((x2939, x2940), _) : ((List (Int × Int) × Int) × Unit)) => []) (fun (((x2939, x2940), _) : ((List (Int × Int) × Int) × Unit)) => M_slices_Compact_api_Arc_api_Arc_j117 F (M_slices_Compact_api_Arc_api_Arc_l116 F x1 x1975 k2920) x2881 x2939 x2940) ?_ ?_
                · refine sxc_block ?_
                  refine sxc_seq ?_
                  refine sxc_chk (fun h2945 => ?_)
                  replace h2945 := of_decide_eq_true h2945
                  refine sxc_bind (fun x2946 e2946 => ?_)
                  refine sxc_chk (fun h2947 => ?_)
                  replace h2947 := of_decide_eq_true h2947
                  refine sxc_bind (fun x2948 e2948 => ?_)
                  refine sxb_draw mixed [] [] [CellsAt g2732 (x1975.toNat * 2 + x2881.toNat * 2) (eS44 x2946), CellsAt g2732 (x1975.toNat * 2 + (isub .i64 x2881 1).toNat * 2) (eS44 x2948)] .nil (gk_R 0 rfl (at_rowW eS44_ok e2946 h2733) (gk_R 0 rfl (at_rowW eS44_ok e2948 h2733) gk_nil)) 10 rfl ?_
                  refine sxb_takeP 0 (.slice (some ⟨g2732, x1975.toNat * 2, none⟩) (x1.length - x1975.toNat) (c3 - x1975.toNat)) rfl rfl rfl rfl (by kernel_rfl) (by kernel_rfl) (by kernel_rfl) (by kernel_rfl) (by kernel_rfl) rfl (show _ = #[true, false, false, false, false, false, false, false, false, false] from rfl) (yv_pv rfl) ?_
                  refine sxb_takeP 1 (.int .i64 x2881) rfl rfl rfl rfl (by kernel_rfl) (by kernel_rfl) (by kernel_rfl) (by kernel_rfl) (by kernel_rfl) rfl (show _ = #[true, true, false, false, false, false, false, false, false, false] from rfl) (yv_pv rfl) ?_
                  refine sxb_takeP 2 (.pointer (some ⟨g2732, x1975.toNat * 2 + x2881.toNat * 2, none⟩)) rfl rfl rfl rfl (by kernel_rfl) (by kernel_rfl) (by kernel_rfl) (by kernel_rfl) (by kernel_rfl) rfl (show _ = #[true, true, true, false, false, false, false, false, false, false] from rfl) (yv_idx Try.underlying45 tf44 rfl rfl (win_lt h2945 e2946).1 (win_lt h2945 e2946).2) ?_
                  refine sxb_take 3 (.agg #[.int .i64 x2946.1, .int .i64 x2946.2]) [] rfl rfl rfl rfl (by kernel_rfl) (by kernel_rfl) (by kernel_rfl) (by kernel_rfl) (by kernel_rfl) (by kernel_rfl) rfl (show _ = #[true, true, true, true, false, false, false, false, false, false] from rfl) (yv_loadF (j := 0) rfl tf44 rfl rfl (by simp) rfl) ?_
                  refine sxb_takeP 4 (.slice (some ⟨g2732, x1975.toNat * 2, none⟩) (x1.length - x1975.toNat) (c3 - x1975.toNat)) rfl rfl rfl rfl (by kernel_rfl) (by kernel_rfl) (by kernel_rfl) (by kernel_rfl) (by kernel_rfl) rfl (show _ = #[true, true, true, true, true, false, false, false, false, false] from rfl) (yv_pv rfl) ?_
                  refine sxb_takeP 5 (.int .i64 x2881) rfl rfl rfl rfl (by kernel_rfl) (by kernel_rfl) (by kernel_rfl) (by kernel_rfl) (by kernel_rfl) rfl (show _ = #[true, true, true, true, true, true, false, false, false, false] from rfl) (yv_pv rfl) ?_
                  refine sxb_takeP 6 (.int .i64 (isub .i64 x2881 1)) rfl rfl rfl rfl (by kernel_rfl) (by kernel_rfl) (by kernel_rfl) (by kernel_rfl) (by kernel_rfl) rfl (show _ = #[true, true, true, true, true, true, true, false, false, false] from rfl) (yv_pv rfl) ?_
                  refine sxb_takeP 7 (.pointer (some ⟨g2732, x1975.toNat * 2 + (isub .i64 x2881 1).toNat * 2, none⟩)) rfl rfl rfl rfl (by kernel_rfl) (by kernel_rfl) (by kernel_rfl) (by kernel_rfl) (by kernel_rfl) rfl (show _ = #[true, true, true, true, true, true, true, true, false, false] from rfl) (yv_idx Try.underlying45 tf44 rfl rfl (win_lt h2947 e2948).1 (win_lt h2947 e2948).2) ?_
                  refine sxb_take 8 (.agg #[.int .i64 x2948.1, .int .i64 x2948.2]) [] rfl rfl rfl rfl (by kernel_rfl) (by kernel_rfl) (by kernel_rfl) (by kernel_rfl) (by kernel_rfl) (by kernel_rfl) rfl (show _ = #[true, true, true, true, true, true, true, true, true, false] from rfl) (yv_loadF (j := 1) rfl tf44 rfl rfl (by simp) rfl) ?_
                  refine sxb_takeP 9 (.bool (!(((x2946.1 : Int) == x2948.1) && ((x2946.2 : Int) == x2948.2)))) rfl rfl rfl rfl (by kernel_rfl) (by kernel_rfl) (by kernel_rfl) (by kernel_rfl) (by kernel_rfl) rfl (show _ = #[true, true, true, true, true, true, true, true, true, true] from rfl) (yv_neq2 rfl rfl se44) ?_
                  refine sxb_done (by kernel_rfl) ?_
                  refine sxq_np ?_ (by intro c h; cases h)
                  refine sxq_next ?_
                  refine sxc_if rfl (fun h2957 => ?_) (fun h2957 => ?_)
                  · refine sxc_seq ?_
                    refine sxc_region ?_
                    refine sxo_move rfl rfl rfl ?_
                    refine sxo_move rfl rfl rfl ?_
                    refine sxo_move rfl rfl rfl ?_
                    refine sxo_move rfl rfl rfl ?_
                    refine sxo_chk (fun h2949 => ?_)
                    replace h2949 := of_decide_eq_true h2949
                    refine sxo_indexW (xs := x2879) h2949 rfl Try.underlying45 tf44 rfl rfl rfl (fun x2950 e2950 => ?_)
                    refine sxo_loadW (j := 0) eS44_ok rfl rfl tf44 rfl h2733 e2950 (by simp) rfl rfl ?_
                    refine sxo_indexR (j := 0) rfl Try.underlying45 tf44 rfl rfl rfl rfl (fun x2951 e2951 g2952 h2953 => ?_)
                    refine sxo_storeL (j := 0) (y' := (x2950.1, x2950.2)) eS44_ok rfl rfl rfl tf44 rfl h2953 (idx_get e2951).2.1 rfl (fun x2954 e2954 h2955 => ?_)
                    have h2956 : x2954.length = x2879.length := by rw [← e2954, List.length_set]
                    refine sxo_again (d := 0) (v := .slice a2 x2954.length c3) rfl h2955 ?_
                    refine sxo_again (d := 45) (v := .slice a2 x2954.length c3) rfl h2955 ?_
                    refine sxo_nil ?_
                    refine sxq_next ?_
                    refine sxc_region ?_
                    refine sxo_move rfl rfl rfl ?_
                    refine sxo_add rfl rfl rfl rfl ?_
                    refine sxo_assign rfl rfl rfl ?_
                    refine sxo_nil ?_
                    refine sxq_blkN ?_
                    exact sxq_meetP ((x2954, iadd .i64 x2880 1), ()) (lk_cons rfl (lk_cons rfl (lk_cons rfl (lk_cons rfl lk_nil)))) .nil (.cons 0 rfl .nil) fk_nil
                  · refine sxc_skip ?_
                    refine sxq_blkN ?_
                    exact sxq_meetP ((x2879, x2880), ()) (lk_cons rfl (lk_cons rfl (lk_cons rfl (lk_cons rfl lk_nil)))) .nil (.cons 0 rfl .nil) fk_nil
                · rintro ⟨⟨x2939, x2940⟩, _⟩
                  try dsimp only
                  refine sxc_region ?_
                  refine sxo_move rfl rfl rfl ?_
                  refine sxo_add rfl rfl rfl rfl ?_
                  refine sxo_assign rfl rfl rfl ?_
                  refine sxo_nil ?_
                  exact sxq_againP ((x2939, x2940, iadd .i64 x2881 1), ()) (lk_cons rfl (lk_cons rfl (lk_cons rfl (lk_cons rfl lk_nil)))) .nil (.cons 0 rfl .nil) fk_nil
              · refine sxc_exit ?_
                refine sxq_thenX ?_
                refine sxq_thenX ?_
                refine sxq_blkX ?_
                exact sxq_meetP ((x2879, x2880), ()) (lk_cons rfl (lk_cons rfl lk_nil)) .nil (.cons 0 rfl .nil) fk_nil
            · rintro ⟨⟨x2842, x2843⟩, _⟩
              try dsimp only
              refine sxc_seq ?_
              refine sxc_region ?_
              refine sxo_move rfl rfl rfl ?_
              refine sxo_move rfl rfl rfl ?_
              refine sxo_cutW (j := 0) rfl Try.underlying45 tf44 rfl rfl rfl rfl (fun h2844 g2845 h2846 => ?_)
              refine sxo_clearW (j := 0) (zy := ((0 : Int), (0 : Int))) eS44_ok (by decide) rfl (by have := h2844; omega) rfl Try.underlying45 tf44 rfl rfl rfl h2846 (fun x2847 e2847 h2848 => ?_)
              have h2849 : x2847.length = x2842.length := by have := congrArg List.length e2847; simp only [List.length_append, List.length_take, List.length_replicate] at this; have := h2844; omega
              refine sxo_again (d := 0) (v := .slice a2 x2847.length c3) rfl (by rw [h2848] <;> rfl) ?_
              refine sxo_again (d := 54) (v := .slice a2 x2847.length c3) rfl (by rw [h2848] <;> rfl) ?_
              refine sxo_nil ?_
              refine sxq_next ?_
              refine sxc_seq ?_
              refine sxc_region ?_
              refine sxo_move rfl rfl rfl ?_
              refine sxo_move rfl rfl rfl ?_
              refine sxo_cutR (i := 0) eS44_ok rfl Try.underlying45 tf44 rfl rfl rfl rfl (fun x2850 e2850 => ?_)
              refine sxo_assign rfl rfl rfl ?_
              refine sxo_nil ?_
              refine sxq_next ?_
              refine sxc_ret ?_
              refine sxq_blkR ?_
              refine sxq_thenR ?_
              refine sxq_thenR ?_
              refine sxq_blkR ?_
              refine sxq_thenR ?_
              exact sxq_doneM (a2, c3) (.inl rfl) (res1 rfl rfl) (fun h => by subst h; rfl) (fun h => by subst h; exact .nil) (fun h => by subst h; exact (.cons 0 rfl .nil))
          · refine sxc_skip ?_
            refine sxq_blkN ?_
            exact sxq_meetP ((), ()) (lk_cons rfl (lk_cons rfl lk_nil)) .nil (.cons 0 rfl .nil) fk_nil
        · rintro ⟨_, _⟩
          try dsimp only
          refine sxc_region ?_
          refine sxo_move rfl rfl rfl ?_
          refine sxo_add rfl rfl rfl rfl ?_
          refine sxo_assign rfl rfl rfl ?_
          refine sxo_nil ?_
          exact sxq_againP (iadd .i64 x1975 1, ()) (lk_cons rfl (lk_cons rfl lk_nil)) .nil (.cons 0 rfl .nil) fk_nil
      · refine sxc_exit ?_
        refine sxq_thenX ?_
        refine sxq_thenX ?_
        refine sxq_blkX ?_
        exact sxq_meetP ((), ()) (lk_cons rfl lk_nil) .nil (.cons 0 rfl .nil) fk_nil
    · rintro ⟨_, _⟩
      try dsimp only
      refine sxc_seq ?_
      refine sxc_region ?_
      refine sxo_move rfl rfl rfl ?_
      refine sxo_assign rfl rfl rfl ?_
      refine sxo_nil ?_
      refine sxq_next ?_
      refine sxc_ret ?_
      exact sxq_doneM (a2, c3) (.inl rfl) (res1 rfl rfl) (fun h => by subst h; rfl) (fun h => by subst h; exact .nil) (fun h => by subst h; exact (.cons 0 rfl .nil))

theorem C_graph_Both (F : Nat) (x1 : List (List Int)) (a2 : Option Addr) (c3 : (Nat × List (Option Addr × Nat))) (r : (List (List Int) × Int)) (hm : M_graph_Both F x1 = some r) :
    Pure Try.prog 24 [.agg #[.slice a2 x1.length c3.1]] [SlN eN25 iN25 1 (.slice a2 x1.length c3.1) x1 c3.2] (Option Addr × (Nat × List (Option Addr × Nat))) (fun g => .tuple #[.agg #[.slice g.1 r.1.length g.2.1], .int .i64 r.2]) (fun g => [RoN eN25 rN25 25 1 (.slice g.1 r.1.length g.2.1) r.1 g.2.2 []]) (fun _ => []) := by
  refine pure_of Try.func24 rfl Try.ntmps24 rfl hm (fun w => ?_)
  refine sxc_env (l' := [(0, .agg #[.slice a2 x1.length c3.1])]) rfl ?_
  refine sxc_seq ?_
  refine sxc_region ?_
  refine sxo_box rfl rfl rfl (fun g4 => ?_)
  refine sxo_alloc rfl tf24 rfl (fun g5 => ?_)
  refine sxo_assign rfl rfl rfl ?_
  refine sxo_nil ?_
  refine sxq_next ?_
  refine sxc_seq ?_
  refine sxc_seq ?_
  refine sxc_region ?_
  refine sxo_loadB (i := 1) rfl rfl tf24 rfl rfl (by simp) rfl rfl ?_
  refine sxo_call ent25 rfl rfl rfl (fun x8 e8 => C_graph_Check F x1 a2 c3 x8 e8) (.consF 0 rfl .nil) (fun x8 e8 => ?_)
  intro _
  refine sxo_assign rfl rfl rfl ?_
  refine sxo_nil ?_
  refine sxq_next ?_
  refine sxc_seq ?_
  refine sxc_region ?_
  refine sxo_move rfl rfl rfl ?_
  refine sxo_neq rfl rfl rfl rfl ?_
  refine sxo_nil ?_
  refine sxq_next ?_
  refine sxc_if rfl (fun h41 => ?_) (fun h41 => ?_)
  · refine sxc_seq ?_
    refine sxc_region ?_
    refine sxo_build (cells := [.slice none 0 0]) rfl st24 rfl (by kernel_rfl) rfl ?_
    refine sxo_move rfl rfl rfl ?_
    refine sxo_storeB (i := 0) rfl rfl rfl tf24 rfl rfl rfl rfl rfl ?_
    refine sxo_assign rfl rfl rfl ?_
    refine sxo_nil ?_
    refine sxq_next ?_
    refine sxc_ret ?_
    refine sxq_thenR ?_
    refine sxq_nilN (List Int) (Option Addr × Nat) eN25 rN25 25 1 ?_
    exact sxq_doneP (none, (0, ([] : List (Option Addr × Nat)))) (.inl rfl) (resL (rs := [.cell 2 24, .tmp 3]) rfl (.cell (i := 0) rfl tf24 rfl rfl (by simp) rfl (.tmp rfl ResOk.nil)) rfl) (fun h => by subst h; rfl) (fun h => by subst h; exact (.cons 0 rfl .nil))
  · refine sxc_skip ?_
    refine sxq_next ?_
    refine sxc_seq ?_
    refine sxb_draw mixed [] [⟨g5, 24, [.slice none 0 0]⟩, ⟨g4, 24, [.slice a2 x1.length c3.1]⟩] [SlN eN25 iN25 1 (.slice a2 x1.length c3.1) x1 c3.2] (.cons 0 rfl (.cons 0 rfl .nil)) (gk_F 0 rfl gk_nil) 7 rfl ?_
    refine sxb_takeB 0 (.agg #[.slice a2 x1.length c3.1]) rfl rfl rfl rfl (by kernel_rfl) (by kernel_rfl) (by kernel_rfl) (by kernel_rfl) (by kernel_rfl) rfl (show _ = #[true, false, false, false, false, false, false] from rfl) (yv_loadB (i := 1) rfl tf24 rfl rfl (by simp) rfl) ?_
    refine sxb_takeB 3 (.agg #[.slice a2 x1.length c3.1]) rfl rfl rfl rfl (by kernel_rfl) (by kernel_rfl) (by kernel_rfl) (by kernel_rfl) (by kernel_rfl) rfl (show _ = #[true, false, false, true, false, false, false] from rfl) (yv_loadB (i := 1) rfl tf24 rfl rfl (by simp) rfl) ?_
    refine sxb_step 1 rfl (by kernel_rfl) (show _ = #[true, true, false, true, false, false, false] from rfl) ?_
    refine sxo_callM ent36 rfl rfl rfl (fun x20 e20 => C_graph_All F x1 a2 c3 x20 e20) .nil .nil (.consF 0 rfl .nil) (fun x20 e20 => ?_)
    rintro g21
    refine sxo_nil ?_
    refine sxq_anyB (.cons 1 rfl (.cons 1 rfl .nil)) (gk_F 0 rfl gk_nil) ?_
    refine sxb_step 2 rfl (by kernel_rfl) (show _ = #[true, true, true, true, false, false, false] from rfl) ?_
    refine sxo_callM ent35 rfl rfl rfl (fun x22 e22 => C_slices_Collect_api_Arc_graph_All_1 F g21 x1 a2 c3 x22 e22) (.cons 0 rfl .nil) .nil (.consF 0 rfl .nil) (fun x22 e22 => ?_)
    rintro ⟨a23, c24⟩
    refine sxo_nil ?_
    refine sxq_anyB (.cons 1 rfl (.cons 1 rfl .nil)) (gk_F 0 rfl gk_nil) ?_
    refine sxb_step 4 rfl (by kernel_rfl) (show _ = #[true, true, true, true, true, false, false] from rfl) ?_
    refine sxo_callM ent45 rfl rfl rfl (fun x25 e25 => C_graph_turned F x1 a2 c3 x25 e25) .nil .nil (.consF 0 rfl .nil) (fun x25 e25 => ?_)
    rintro ⟨a26, c27⟩
    refine sxo_nil ?_
    refine sxq_anyB (.cons 1 rfl (.cons 1 rfl .nil)) (gk_F 0 rfl gk_nil) ?_
    refine sxb_step 5 rfl (by kernel_rfl) (show _ = #[true, true, true, true, true, true, false] from rfl) ?_
    refine sxo_app 1 eS44_ok rfl Try.underlying45 tf44 rfl rfl rfl rfl rfl (.inl ⟨0, _, rfl⟩) rfl rfl (fun x28 e28 a29 c30 => ?_)
    refine sxo_nil ?_
    refine sxq_anyB (.cons 1 rfl (.cons 1 rfl .nil)) (gk_F 0 rfl gk_nil) ?_
    refine sxb_takeP 6 (.slice a29 x28.length c30) rfl rfl rfl rfl (by kernel_rfl) (by kernel_rfl) (by kernel_rfl) (by kernel_rfl) (by kernel_rfl) rfl (show _ = #[true, true, true, true, true, true, true] from rfl) (yv_pv rfl) ?_
    refine sxb_done (by kernel_rfl) ?_
    refine sxq_np ?_ (by intro c h; cases h)
    refine sxq_next ?_
    refine sxc_seq ?_
    refine sxc_region ?_
    refine sxo_move rfl rfl rfl ?_
    refine sxo_callM ent46 rfl rfl rfl (fun x31 e31 => C_slices_SortFunc_api_Arc_api_Arc_graph_order F x28 a29 c30 x31 e31) .nil (.cons 0 rfl .nil) .nil (fun x31 e31 => ?_)
    intro _
    refine sxo_chk (fun h32 => ?_)
    replace h32 := of_decide_eq_true h32
    refine sxo_again (d := 5) (v := .slice a29 x31.length c30) rfl (by rw [h32] <;> rfl) ?_
    refine sxo_again (d := 17) (v := .slice a29 x31.length c30) rfl (by rw [h32] <;> rfl) ?_
    refine sxo_again (d := 18) (v := .slice a29 x31.length c30) rfl (by rw [h32] <;> rfl) ?_
    refine sxo_nil ?_
    refine sxq_next ?_
    refine sxc_seq ?_
    refine sxc_region ?_
    refine sxo_move rfl rfl rfl ?_
    refine sxo_callM ent47 rfl rfl rfl (fun x33 e33 => C_slices_Compact_api_Arc_api_Arc F x31 a29 c30 x33 e33) .nil (.cons 0 rfl .nil) .nil (fun x33 e33 => ?_)
    rintro ⟨a34, c35⟩
    refine sxo_assign rfl rfl rfl ?_
    refine sxo_nil ?_
    refine sxq_next ?_
    refine sxc_seq ?_
    refine sxc_seq ?_
    refine sxc_region ?_
    refine sxo_move rfl rfl rfl ?_
    refine sxo_len rfl Try.underlying45 rfl rfl ?_
    refine sxo_gtr rfl rfl rfl rfl ?_
    refine sxo_nil ?_
    refine sxq_next ?_
    refine sxc_if rfl (fun h40 => ?_) (fun h40 => ?_)
    · refine sxc_seq ?_
      refine sxc_region ?_
      refine sxo_build (cells := [.slice none 0 0]) rfl st24 rfl (by kernel_rfl) rfl ?_
      refine sxo_storeB (i := 1) rfl rfl rfl tf24 rfl rfl rfl rfl rfl ?_
      refine sxo_assign rfl rfl rfl ?_
      refine sxo_nil ?_
      refine sxq_next ?_
      refine sxc_ret ?_
      refine sxq_thenR ?_
      refine sxq_nilN (List Int) (Option Addr × Nat) eN25 rN25 25 1 ?_
      exact sxq_doneP (none, (0, ([] : List (Option Addr × Nat)))) (.inl rfl) (resL (rs := [.cell 2 24, .tmp 3]) rfl (.cell (i := 1) rfl tf24 rfl rfl (by simp) rfl (.tmp rfl ResOk.nil)) rfl) (fun h => by subst h; rfl) (fun h => by subst h; exact (.cons 0 rfl .nil))
    · refine sxc_skip ?_
      refine sxq_next ?_
      refine sxc_seq ?_
      refine sxc_region ?_
      refine sxo_fieldAddr rfl rfl ff24_0 rfl ?_
      refine sxo_loadB (i := 2) rfl rfl tf22 rfl rfl (fun _ => rfl) rfl rfl ?_
      refine sxo_len rfl Try.underlying22 rfl rfl ?_
      refine sxo_move rfl rfl rfl ?_
      refine sxo_call ent41 rfl rfl rfl (fun x37 e37 => C_graph_Built F (x1.length : Int) x33 a34 c35 x37 e37) (.consR 0 (Ro eS44 44 2 (.slice a34 x33.length c35) x33) rfl .nil) (fun x37 e37 => ?_)
      rintro ⟨a38, c39⟩
      refine sxo_storeB (i := 1) rfl rfl rfl tf24 rfl rfl rfl rfl rfl ?_
      refine sxo_assign rfl rfl rfl ?_
      refine sxo_nil ?_
      refine sxq_next ?_
      refine sxc_ret ?_
      exact sxq_doneP (a38, c39) (.inl rfl) (resL (rs := [.cell 2 24, .tmp 3]) rfl (.cell (i := 1) rfl tf24 rfl rfl (by simp) rfl (.tmp rfl ResOk.nil)) rfl) (fun h => by subst h; rfl) (fun h => by subst h; exact (.cons 0 rfl .nil))

theorem C_graph_Turn (F : Nat) (x1 : List (List Int)) (a2 : Option Addr) (c3 : (Nat × List (Option Addr × Nat))) (r : (List (List Int) × Int)) (hm : M_graph_Turn F x1 = some r) :
    Pure Try.prog 37 [.agg #[.slice a2 x1.length c3.1]] [SlN eN25 iN25 1 (.slice a2 x1.length c3.1) x1 c3.2] (Option Addr × (Nat × List (Option Addr × Nat))) (fun g => .tuple #[.agg #[.slice g.1 r.1.length g.2.1], .int .i64 r.2]) (fun g => [RoN eN25 rN25 25 1 (.slice g.1 r.1.length g.2.1) r.1 g.2.2 []]) (fun _ => []) := by
  refine pure_of Try.func37 rfl Try.ntmps37 rfl hm (fun w => ?_)
  refine sxc_env (l' := [(0, .agg #[.slice a2 x1.length c3.1])]) rfl ?_
  refine sxc_seq ?_
  refine sxc_region ?_
  refine sxo_box rfl rfl rfl (fun g4 => ?_)
  refine sxo_alloc rfl tf24 rfl (fun g5 => ?_)
  refine sxo_assign rfl rfl rfl ?_
  refine sxo_nil ?_
  refine sxq_next ?_
  refine sxc_seq ?_
  refine sxc_seq ?_
  refine sxc_region ?_
  refine sxo_loadB (i := 1) rfl rfl tf24 rfl rfl (by simp) rfl rfl ?_
  refine sxo_call ent25 rfl rfl rfl (fun x8 e8 => C_graph_Check F x1 a2 c3 x8 e8) (.consF 0 rfl .nil) (fun x8 e8 => ?_)
  intro _
  refine sxo_assign rfl rfl rfl ?_
  refine sxo_nil ?_
  refine sxq_next ?_
  refine sxc_seq ?_
  refine sxc_region ?_
  refine sxo_move rfl rfl rfl ?_
  refine sxo_neq rfl rfl rfl rfl ?_
  refine sxo_nil ?_
  refine sxq_next ?_
  refine sxc_if rfl (fun h31 => ?_) (fun h31 => ?_)
  · refine sxc_seq ?_
    refine sxc_region ?_
    refine sxo_build (cells := [.slice none 0 0]) rfl st24 rfl (by kernel_rfl) rfl ?_
    refine sxo_move rfl rfl rfl ?_
    refine sxo_storeB (i := 0) rfl rfl rfl tf24 rfl rfl rfl rfl rfl ?_
    refine sxo_assign rfl rfl rfl ?_
    refine sxo_nil ?_
    refine sxq_next ?_
    refine sxc_ret ?_
    refine sxq_thenR ?_
    refine sxq_nilN (List Int) (Option Addr × Nat) eN25 rN25 25 1 ?_
    exact sxq_doneP (none, (0, ([] : List (Option Addr × Nat)))) (.inl rfl) (resL (rs := [.cell 2 24, .tmp 3]) rfl (.cell (i := 0) rfl tf24 rfl rfl (by simp) rfl (.tmp rfl ResOk.nil)) rfl) (fun h => by subst h; rfl) (fun h => by subst h; exact (.cons 0 rfl .nil))
  · refine sxc_skip ?_
    refine sxq_next ?_
    refine sxc_seq ?_
    refine sxb_draw mixed [] [⟨g4, 24, [.slice a2 x1.length c3.1]⟩] [SlN eN25 iN25 1 (.slice a2 x1.length c3.1) x1 c3.2] (.cons 1 rfl .nil) (gk_F 0 rfl gk_nil) 10 rfl ?_
    refine sxb_takeP 0 (.pointer (some ⟨g4, 0, none⟩)) rfl rfl rfl rfl (by kernel_rfl) (by kernel_rfl) (by kernel_rfl) (by kernel_rfl) (by kernel_rfl) rfl (show _ = #[true, false, false, false, false, false, false, false, false, false] from rfl) (yv_fieldAddr rfl ff24_0) ?_
    refine sxb_takeB 1 (.slice a2 x1.length c3.1) rfl rfl rfl rfl (by kernel_rfl) (by kernel_rfl) (by kernel_rfl) (by kernel_rfl) (by kernel_rfl) rfl (show _ = #[true, true, false, false, false, false, false, false, false, false] from rfl) (yv_loadB (i := 0) rfl tf22 rfl rfl (fun _ => rfl) rfl) ?_
    refine sxb_takeP 2 (.int .i64 (x1.length : Int)) rfl rfl rfl rfl (by kernel_rfl) (by kernel_rfl) (by kernel_rfl) (by kernel_rfl) (by kernel_rfl) rfl (show _ = #[true, true, true, false, false, false, false, false, false, false] from rfl) (yv_len Try.underlying22 rfl) ?_
    refine sxb_takeB 3 (.agg #[.slice a2 x1.length c3.1]) rfl rfl rfl rfl (by kernel_rfl) (by kernel_rfl) (by kernel_rfl) (by kernel_rfl) (by kernel_rfl) rfl (show _ = #[true, true, true, true, false, false, false, false, false, false] from rfl) (yv_loadB (i := 0) rfl tf24 rfl rfl (by simp) rfl) ?_
    refine sxb_step 4 rfl (by kernel_rfl) (show _ = #[true, true, true, true, true, false, false, false, false, false] from rfl) ?_
    refine sxo_callM ent45 rfl rfl rfl (fun x20 e20 => C_graph_turned F x1 a2 c3 x20 e20) .nil .nil (.consF 0 rfl .nil) (fun x20 e20 => ?_)
    rintro ⟨a21, c22⟩
    refine sxo_nil ?_
    refine sxq_anyB (.cons 1 rfl .nil) (gk_F 0 rfl gk_nil) ?_
    refine sxb_step 5 rfl (by kernel_rfl) (show _ = #[true, true, true, true, true, true, false, false, false, false] from rfl) ?_
    refine sxo_callM ent43 rfl rfl rfl (fun x23 e23 => C_slices_Values_api_Arc_api_Arc F x20 a21 c22 x23 e23) .nil .nil (.consR 0 (Ro eS44 44 2 (.slice a21 x20.length c22) x20) rfl .nil) (fun x23 e23 => ?_)
    rintro g24
    refine sxo_nil ?_
    refine sxq_anyB (.cons 2 rfl .nil) (gk_F 0 rfl gk_nil) ?_
    refine sxb_step 6 rfl (by kernel_rfl) (show _ = #[true, true, true, true, true, true, true, false, false, false] from rfl) ?_
    refine sxo_callM ent42 rfl rfl rfl (fun x25 e25 => C_slices_SortedFunc_api_Arc_slices_Values_api_Arc_api_Arc_1_graph_order F g24 x20 a21 c22 x25 e25) (.cons 0 rfl .nil) .nil (.consR 0 (Ro eS44 44 2 (.slice a21 x20.length c22) x20) rfl .nil) (fun x25 e25 => ?_)
    rintro ⟨a26, c27⟩
    refine sxo_nil ?_
    refine sxq_anyB (.cons 2 rfl .nil) (gk_F 0 rfl gk_nil) ?_
    refine sxb_step 7 rfl (by kernel_rfl) (show _ = #[true, true, true, true, true, true, true, true, false, false] from rfl) ?_
    refine sxo_call ent41 rfl rfl rfl (fun x28 e28 => C_graph_Built F (x1.length : Int) x25 a26 c27 x28 e28) (.consR 0 (Ro eS44 44 2 (.slice a26 x25.length c27) x25) rfl .nil) (fun x28 e28 => ?_)
    rintro ⟨a29, c30⟩
    refine sxo_nil ?_
    refine sxq_anyB (.cons 2 rfl .nil) (gk_F 0 rfl gk_nil) ?_
    refine sxb_step 8 rfl (by kernel_rfl) (show _ = #[true, true, true, true, true, true, true, true, true, false] from rfl) ?_
    refine sxo_storeB (i := 1) rfl rfl rfl tf24 rfl rfl rfl rfl rfl ?_
    refine sxo_nil ?_
    refine sxq_anyB (.cons 2 rfl .nil) (gk_F 0 rfl gk_nil) ?_
    refine sxb_takeP 9 (.int .i64 0) rfl rfl rfl rfl (by kernel_rfl) (by kernel_rfl) (by kernel_rfl) (by kernel_rfl) (by kernel_rfl) rfl (show _ = #[true, true, true, true, true, true, true, true, true, true] from rfl) (yv_pv rfl) ?_
    refine sxb_done (by kernel_rfl) ?_
    refine sxq_np ?_ (by intro c h; cases h)
    refine sxq_next ?_
    refine sxc_ret ?_
    exact sxq_doneP (a29, c30) (.inl rfl) (resL (rs := [.cell 2 24, .tmp 3]) rfl (.cell (i := 1) rfl tf24 rfl rfl (by simp) rfl (.tmp rfl ResOk.nil)) rfl) (fun h => by subst h; rfl) (fun h => by subst h; exact (.cons 0 rfl .nil))

theorem C_graph_Degrees (F : Nat) (x1 : List (List Int)) (a2 : Option Addr) (c3 : (Nat × List (Option Addr × Nat))) (r : (List Int × List Int × Int)) (hm : M_graph_Degrees F x1 = some r) :
    PureM Try.prog 38 [.agg #[.slice a2 x1.length c3.1]] [] [] [SlN eN25 iN25 1 (.slice a2 x1.length c3.1) x1 c3.2] ((Option Addr × Nat) × (Option Addr × Nat)) (fun g => .tuple #[.slice g.1.1 r.1.length g.1.2, .slice g.2.1 r.2.1.length g.2.2, .int .i64 r.2.2]) (fun _ => []) (fun g => [Ro (eI .i64) 3 1 (.slice g.1.1 r.1.length g.1.2) r.1, Ro (eI .i64) 3 1 (.slice g.2.1 r.2.1.length g.2.2) r.2.1]) := by
  refine pureX_of Try.func38 rfl Try.ntmps38 rfl hm (fun w => ?_)
  refine sxc_env (l' := [(0, .agg #[.slice a2 x1.length c3.1])]) rfl ?_
  refine sxc_seq ?_
  refine sxc_region ?_
  refine sxo_box rfl rfl rfl (fun g4 => ?_)
  refine sxo_alloc rfl tf25 rfl (fun g5 => ?_)
  refine sxo_alloc rfl tf25 rfl (fun g6 => ?_)
  refine sxo_assign rfl rfl rfl ?_
  refine sxo_nil ?_
  refine sxq_next ?_
  refine sxc_seq ?_
  refine sxc_seq ?_
  refine sxc_region ?_
  refine sxo_loadB (i := 2) rfl rfl tf24 rfl rfl (by simp) rfl rfl ?_
  refine sxo_call ent25 rfl rfl rfl (fun x9 e9 => C_graph_Check F x1 a2 c3 x9 e9) (.consF 0 rfl .nil) (fun x9 e9 => ?_)
  intro _
  refine sxo_assign rfl rfl rfl ?_
  refine sxo_nil ?_
  refine sxq_next ?_
  refine sxc_seq ?_
  refine sxc_region ?_
  refine sxo_move rfl rfl rfl ?_
  refine sxo_neq rfl rfl rfl rfl ?_
  refine sxo_nil ?_
  refine sxq_next ?_
  refine sxc_if rfl (fun h180 => ?_) (fun h180 => ?_)
  · refine sxc_seq ?_
    refine sxc_region ?_
    refine sxo_move rfl rfl rfl ?_
    refine sxo_storeB (i := 1) rfl rfl rfl tf25 rfl rfl rfl rfl rfl ?_
    refine sxo_storeB (i := 0) rfl rfl rfl tf25 rfl rfl rfl rfl rfl ?_
    refine sxo_assign rfl rfl rfl ?_
    refine sxo_nil ?_
    refine sxq_next ?_
    refine sxc_ret ?_
    refine sxq_thenR ?_
    refine sxq_nilrow Int (eI .i64) 3 1 ?_
    refine sxq_nilrow Int (eI .i64) 3 1 ?_
    exact sxq_doneX [] ((none, 0), (none, 0)) (.inl rfl) rfl .nil (resL (rs := [.cell 2 25, .cell 3 25, .tmp 4]) rfl (.cell (i := 1) rfl tf25 rfl rfl (fun _ => rfl) rfl (.cell (i := 0) rfl tf25 rfl rfl (fun _ => rfl) rfl (.tmp rfl ResOk.nil))) rfl) (fun h => by subst h; rfl) (fun h => by subst h; exact .nil) (fun h => by subst h; exact (.cons 0 rfl (.cons 0 rfl .nil)))
  · refine sxc_skip ?_
    refine sxq_next ?_
    refine sxc_join (fun (((x27, x30), (a25, c26, a28, c29)) : ((List Int × List Int) × (Option Addr × Nat × Option Addr × Nat))) => [(1, .pointer (some ⟨g4, 0, none⟩)), (2, .pointer (some ⟨g5, 0, none⟩)), (3, .pointer (some ⟨g6, 0, none⟩)), (4, .int .i64 0)]) (fun (((x27, x30), (a25, c26, a28, c29)) : ((List Int × List Int) × (Option Addr × Nat × Option Addr × Nat))) => [⟨g6, 25, [.slice a25 x27.length c26]⟩, ⟨g5, 25, [.slice a28 x30.length c29]⟩, ⟨g4, 24, [.slice a2 x1.length c3.1]⟩]) (fun (((x27, x30), (a25, c26, a28, c29)) : ((List Int × List Int) × (Option Addr × Nat × Option Addr × Nat))) => [Ro (eI .i64) 3 1 (.slice a25 x27.length c26) x27, Ro (eI .i64) 3 1 (.slice a28 x30.length c29) x30]) (fun (((x27, x30), (a25, c26, a28, c29)) : ((List Int × List Int) × (Option Addr × Nat × Option Addr × Nat))) => [SlN eN25 iN25 1 (.slice a2 x1.length c3.1) x1 c3.2]) (fun (((x27, x30), _) : ((List Int × List Int) × (Option Addr × Nat × Option Addr × Nat))) => M_graph_Degrees_j1 F x1 x27 x30) ?_ ?_
    · refine sxb_draw mixed [] [⟨g4, 24, [.slice a2 x1.length c3.1]⟩] [SlN eN25 iN25 1 (.slice a2 x1.length c3.1) x1 c3.2] (.cons 2 rfl .nil) (gk_F 0 rfl gk_nil) 10 rfl ?_
      refine sxb_takeP 0 (.pointer (some ⟨g4, 0, none⟩)) rfl rfl rfl rfl (by kernel_rfl) (by kernel_rfl) (by kernel_rfl) (by kernel_rfl) (by kernel_rfl) rfl (show _ = #[true, false, false, false, false, false, false, false, false, false] from rfl) (yv_fieldAddr rfl ff24_0) ?_
      refine sxb_takeB 1 (.slice a2 x1.length c3.1) rfl rfl rfl rfl (by kernel_rfl) (by kernel_rfl) (by kernel_rfl) (by kernel_rfl) (by kernel_rfl) rfl (show _ = #[true, true, false, false, false, false, false, false, false, false] from rfl) (yv_loadB (i := 0) rfl tf22 rfl rfl (fun _ => rfl) rfl) ?_
      refine sxb_takeP 2 (.int .i64 (x1.length : Int)) rfl rfl rfl rfl (by kernel_rfl) (by kernel_rfl) (by kernel_rfl) (by kernel_rfl) (by kernel_rfl) rfl (show _ = #[true, true, true, false, false, false, false, false, false, false] from rfl) (yv_len Try.underlying22 rfl) ?_
      refine sxb_takeP 4 (.pointer (some ⟨g4, 0, none⟩)) rfl rfl rfl rfl (by kernel_rfl) (by kernel_rfl) (by kernel_rfl) (by kernel_rfl) (by kernel_rfl) rfl (show _ = #[true, true, true, false, true, false, false, false, false, false] from rfl) (yv_fieldAddr rfl ff24_0) ?_
      refine sxb_takeB 5 (.slice a2 x1.length c3.1) rfl rfl rfl rfl (by kernel_rfl) (by kernel_rfl) (by kernel_rfl) (by kernel_rfl) (by kernel_rfl) rfl (show _ = #[true, true, true, false, true, true, false, false, false, false] from rfl) (yv_loadB (i := 0) rfl tf22 rfl rfl (fun _ => rfl) rfl) ?_
      refine sxb_takeP 6 (.int .i64 (x1.length : Int)) rfl rfl rfl rfl (by kernel_rfl) (by kernel_rfl) (by kernel_rfl) (by kernel_rfl) (by kernel_rfl) rfl (show _ = #[true, true, true, false, true, true, true, false, false, false] from rfl) (yv_len Try.underlying22 rfl) ?_
      refine sxb_two 3 7 rfl rfl (by kernel_rfl) (show _ = #[true, true, true, true, true, true, true, false, false, false] from rfl) (show _ = #[true, true, true, false, true, true, true, true, false, false] from rfl) ?_ ?_
      · refine sxo_mk (eI_ok .i64) rfl Try.underlying25 tf3 rfl rfl rfl rfl rfl rfl rfl (fun x165 e165 a166 c167 => ?_)
        refine sxo_nil ?_
        refine sxq_anyB (.cons 2 rfl .nil) (gk_F 0 rfl gk_nil) ?_
        refine sxb_two 7 8 rfl rfl (by kernel_rfl) (show _ = #[true, true, true, true, true, true, true, true, false, false] from rfl) (show _ = #[true, true, true, true, true, true, true, false, true, false] from rfl) ?_ ?_
        · refine sxo_mk (eI_ok .i64) rfl Try.underlying25 tf3 rfl rfl rfl rfl rfl rfl rfl (fun x168 e168 a169 c170 => ?_)
          refine sxo_nil ?_
          refine sxq_anyB (.cons 2 rfl .nil) (gk_F 0 rfl gk_nil) ?_
          refine sxb_step 8 rfl (by kernel_rfl) (show _ = #[true, true, true, true, true, true, true, true, true, false] from rfl) ?_
          refine sxo_storeB (i := 1) rfl rfl rfl tf25 rfl rfl rfl rfl rfl ?_
          refine sxo_nil ?_
          refine sxq_anyB (.cons 2 rfl .nil) (gk_F 0 rfl gk_nil) ?_
          refine sxb_step 9 rfl (by kernel_rfl) (show _ = #[true, true, true, true, true, true, true, true, true, true] from rfl) ?_
          refine sxo_storeB (i := 0) rfl rfl rfl tf25 rfl rfl rfl rfl rfl ?_
          refine sxo_nil ?_
          refine sxq_anyB (.cons 2 rfl .nil) (gk_F 0 rfl gk_nil) ?_
          refine sxb_done (by kernel_rfl) ?_
          refine sxq_np ?_ (by intro c h; cases h)
          exact sxq_meetP ((x168, x165), (a169, c170, a166, c167)) (lk_cons rfl (lk_cons rfl (lk_cons rfl (lk_cons rfl lk_nil)))) (.cons 0 rfl (.cons 0 rfl (.cons 0 rfl .nil))) (.cons 0 rfl (.cons 0 rfl .nil)) (fk_cons 0 rfl fk_nil)
        · refine sxo_meq (m' := ((mk 17592186044416 (0 : Int) (x1.length : Int)).bind fun x171 => M_graph_Degrees_j1 F x1 x171 x165)) (rfl) ?_
          refine sxo_storeB (i := 1) rfl rfl rfl tf25 rfl rfl rfl rfl rfl ?_
          refine sxo_nil ?_
          refine sxq_anyB (.cons 2 rfl .nil) (gk_F 0 rfl gk_nil) ?_
          refine sxb_step 7 rfl (by kernel_rfl) (show _ = #[true, true, true, true, true, true, true, true, true, false] from rfl) ?_
          refine sxo_mk (eI_ok .i64) rfl Try.underlying25 tf3 rfl rfl rfl rfl rfl rfl rfl (fun x171 e171 a172 c173 => ?_)
          refine sxo_nil ?_
          refine sxq_anyB (.cons 2 rfl .nil) (gk_F 0 rfl gk_nil) ?_
          refine sxb_step 9 rfl (by kernel_rfl) (show _ = #[true, true, true, true, true, true, true, true, true, true] from rfl) ?_
          refine sxo_storeB (i := 0) rfl rfl rfl tf25 rfl rfl rfl rfl rfl ?_
          refine sxo_nil ?_
          refine sxq_anyB (.cons 2 rfl .nil) (gk_F 0 rfl gk_nil) ?_
          refine sxb_done (by kernel_rfl) ?_
          refine sxq_np ?_ (by intro c h; cases h)
          exact sxq_meetP ((x171, x165), (a172, c173, a166, c167)) (lk_cons rfl (lk_cons rfl (lk_cons rfl (lk_cons rfl lk_nil)))) (.cons 0 rfl (.cons 0 rfl (.cons 0 rfl .nil))) (.cons 0 rfl (.cons 0 rfl .nil)) (fk_cons 0 rfl fk_nil)
      · refine sxo_meq (m' := ((mk 17592186044416 (0 : Int) (x1.length : Int)).bind fun x174 => ((mk 17592186044416 (0 : Int) (x1.length : Int)).bind fun x177 => M_graph_Degrees_j1 F x1 x174 x177))) (by generalize (mk 17592186044416 (0 : Int) (x1.length : Int)) = q0; cases q0 <;> rfl) ?_
        refine sxo_mk (eI_ok .i64) rfl Try.underlying25 tf3 rfl rfl rfl rfl rfl rfl rfl (fun x174 e174 a175 c176 => ?_)
        refine sxo_nil ?_
        refine sxq_anyB (.cons 2 rfl .nil) (gk_F 0 rfl gk_nil) ?_
        refine sxb_step 3 rfl (by kernel_rfl) (show _ = #[true, true, true, true, true, true, true, true, false, false] from rfl) ?_
        refine sxo_mk (eI_ok .i64) rfl Try.underlying25 tf3 rfl rfl rfl rfl rfl rfl rfl (fun x177 e177 a178 c179 => ?_)
        refine sxo_nil ?_
        refine sxq_anyB (.cons 2 rfl .nil) (gk_F 0 rfl gk_nil) ?_
        refine sxb_step 8 rfl (by kernel_rfl) (show _ = #[true, true, true, true, true, true, true, true, true, false] from rfl) ?_
        refine sxo_storeB (i := 1) rfl rfl rfl tf25 rfl rfl rfl rfl rfl ?_
        refine sxo_nil ?_
        refine sxq_anyB (.cons 2 rfl .nil) (gk_F 0 rfl gk_nil) ?_
        refine sxb_step 9 rfl (by kernel_rfl) (show _ = #[true, true, true, true, true, true, true, true, true, true] from rfl) ?_
        refine sxo_storeB (i := 0) rfl rfl rfl tf25 rfl rfl rfl rfl rfl ?_
        refine sxo_nil ?_
        refine sxq_anyB (.cons 2 rfl .nil) (gk_F 0 rfl gk_nil) ?_
        refine sxb_done (by kernel_rfl) ?_
        refine sxq_np ?_ (by intro c h; cases h)
        exact sxq_meetP ((x174, x177), (a175, c176, a178, c179)) (lk_cons rfl (lk_cons rfl (lk_cons rfl (lk_cons rfl lk_nil)))) (.cons 0 rfl (.cons 0 rfl (.cons 0 rfl .nil))) (.cons 1 rfl (.cons 0 rfl .nil)) (fk_cons 0 rfl fk_nil)
    · rintro ⟨⟨x27, x30⟩, ⟨a25, c26, a28, c29⟩⟩
      try dsimp only
      refine sxc_seq ?_
      refine sxc_seq ?_
      refine sxc_region ?_
      refine sxo_loadB (i := 2) rfl rfl tf24 rfl rfl (by simp) rfl rfl ?_
      refine sxo_callM ent36 rfl rfl rfl (fun x98 e98 => C_graph_All F x1 a2 c3 x98 e98) .nil .nil (.consF 0 rfl .nil) (fun x98 e98 => ?_)
      rintro g99
      refine sxo_nil ?_
      refine sxq_next ?_
      refine sxc_block ?_
      refine sxc_range (encs := (fun (p : (Int × Int)) => [.agg #[.int .i64 p.1, .int .i64 p.2]])) (y := (fun ((x121, x122) : (List Int × List Int)) ((x144, x145) : (Int × Int)) => M_graph_Degrees_r3 F x121 x122 x144 x145)) (lb := [.pointer (some ⟨g99, 0, none⟩)]) (fun ((x121, x122) : (List Int × List Int)) (_ : Unit) => [⟨g6, 25, [.slice a25 x121.length c26]⟩, ⟨g5, 25, [.slice a28 x122.length c29]⟩, ⟨g4, 24, [.slice a2 x1.length c3.1]⟩]) (fun ((x121, x122) : (List Int × List Int)) (_ : Unit) => [Ro (eI .i64) 3 1 (.slice a25 x121.length c26) x121, Ro (eI .i64) 3 1 (.slice a28 x122.length c29) x122]) (fun (_ : Empty) (_ : Unit) => []) (fun (_ : Empty) (_ : Unit) => []) (fun _ => .skip) (x27, x30) () rfl ent55 (fun _ => rfl) rfl (.cons 0 rfl .nil) (.cons 0 rfl (.cons 0 rfl (.cons 0 rfl .nil))) (.cons 0 rfl (.cons 0 rfl .nil)) (.consF 0 rfl .nil) (fun z hz _ _ _ hY => C_graph_All_1 F hY (x27, x30) () g99 x1 a2 c3 z hz) ?_ ?_ ?_
      · rintro rc1 L1 D1 ⟨x121, x122⟩ _ ⟨x144, x145⟩ z w M _
        try dsimp only
        refine sxc_less [(1, .pointer (some ⟨g4, 0, none⟩)), (2, .pointer (some ⟨g5, 0, none⟩)), (3, .pointer (some ⟨g6, 0, none⟩)), (4, .int .i64 0), (20, .agg #[.slice a2 x1.length c3.1]), (21, .func (.func 55) #[] #[.pointer (some ⟨g99, 0, none⟩)]), (22, .agg #[.int .i64 x144, .int .i64 x145])] (lk_cons rfl (lk_cons rfl (lk_cons rfl (lk_cons rfl (lk_cons rfl (lk_cons rfl (lk_cons rfl lk_nil))))))) ?_
        refine sxc_region ?_
        refine sxo_alloc rfl tf44 rfl (fun g146 => ?_)
        refine sxo_storeB (i := 0) rfl rfl rfl tf44 rfl rfl rfl rfl rfl ?_
        refine sxo_nil ?_
        refine sxq_begin (i := 4) rfl ?_
        refine sxc_block ?_
        refine sxc_seq ?_
        refine sxc_region ?_
        refine sxo_loadB (i := 2) rfl rfl tf25 rfl rfl (fun _ => rfl) rfl rfl ?_
        refine sxo_fieldAddr rfl rfl ff44_0 rfl ?_
        refine sxo_loadB (i := 0) rfl rfl tf3 rfl rfl (fun _ => rfl) rfl rfl ?_
        refine sxo_indexR (j := 1) rfl Try.underlying25 tf3 rfl rfl rfl rfl (fun x147 e147 g148 h149 => ?_)
        refine sxo_loadR (j := 1) (y := x147) (eI_ok .i64) rfl rfl tf3 rfl h149 (idx_get e147).2.2 (fun _ => rfl) rfl rfl ?_
        refine sxo_add rfl rfl rfl rfl ?_
        refine sxo_indexR (j := 1) rfl Try.underlying25 tf3 rfl rfl rfl rfl (fun x150 e150 g151 h152 => ?_)
        refine sxo_storeL (j := 1) (y' := iadd .i64 x147 1) (eI_ok .i64) rfl rfl rfl tf3 rfl h152 (idx_get e150).2.1 rfl (fun x153 e153 h154 => ?_)
        have h155 : x153.length = x122.length := by rw [← e153, List.length_set]
        refine sxo_again (d := 23) (v := .slice a28 x153.length c29) rfl h154 ?_
        refine sxo_blkAgain (i := 2) (cs' := [.slice a28 x153.length c29]) rfl (by rw [h154] <;> rfl) ?_
        refine sxo_nil ?_
        refine sxq_next ?_
        refine sxc_region ?_
        refine sxo_loadB (i := 1) rfl rfl tf25 rfl rfl (fun _ => rfl) rfl rfl ?_
        refine sxo_fieldAddr rfl rfl ff44_1 rfl ?_
        refine sxo_loadB (i := 0) rfl rfl tf3 rfl rfl (fun _ => rfl) rfl rfl ?_
        refine sxo_indexR (j := 1) rfl Try.underlying25 tf3 rfl rfl rfl rfl (fun x156 e156 g157 h158 => ?_)
        refine sxo_loadR (j := 1) (y := x156) (eI_ok .i64) rfl rfl tf3 rfl h158 (idx_get e156).2.2 (fun _ => rfl) rfl rfl ?_
        refine sxo_add rfl rfl rfl rfl ?_
        refine sxo_indexR (j := 1) rfl Try.underlying25 tf3 rfl rfl rfl rfl (fun x159 e159 g160 h161 => ?_)
        refine sxo_storeL (j := 1) (y' := iadd .i64 x156 1) (eI_ok .i64) rfl rfl rfl tf3 rfl h161 (idx_get e159).2.1 rfl (fun x162 e162 h163 => ?_)
        have h164 : x162.length = x121.length := by rw [← e162, List.length_set]
        refine sxo_again (d := 30) (v := .slice a25 x162.length c26) rfl h163 ?_
        refine sxo_blkAgain (i := 1) (cs' := [.slice a25 x162.length c26]) rfl (by rw [h163] <;> rfl) ?_
        refine sxo_nil ?_
        refine sxq_blkN ?_
        exact sxq_round (rc := rc1) rfl (.cons 4 rfl .nil) rfl () (.cons 2 rfl (.cons 2 rfl (.cons 2 rfl (.cons 0 rfl (.cons 1 rfl .nil))))) (.cons 0 rfl (.cons 0 rfl .nil))
      · rintro ⟨x121, x122⟩ _ _ D1
        try dsimp only
        refine sxq_blkN ?_
        refine sxq_next ?_
        refine sxc_seq ?_
        refine sxb_draw mixed [] [(dblk D1), ⟨g99, 24, [.slice a2 x1.length c3.1]⟩, ⟨g6, 25, [.slice a25 x121.length c26]⟩, ⟨g5, 25, [.slice a28 x122.length c29]⟩, ⟨g4, 24, [.slice a2 x1.length c3.1]⟩] [SlN eN25 iN25 1 (.slice a2 x1.length c3.1) x1 c3.2] (.cons 0 rfl (.cons 0 rfl (.cons 0 rfl (.cons 0 rfl (.cons 0 rfl .nil))))) (gk_F 0 rfl gk_nil) 5 rfl ?_
        refine sxb_takeB 0 (.slice a28 x122.length c29) rfl rfl rfl rfl (by kernel_rfl) (by kernel_rfl) (by kernel_rfl) (by kernel_rfl) (by kernel_rfl) rfl (show _ = #[true, false, false, false, false] from rfl) (yv_loadB (i := 3) rfl tf25 rfl rfl (fun _ => rfl) rfl) ?_
        refine sxb_takeB 1 (.slice a25 x121.length c26) rfl rfl rfl rfl (by kernel_rfl) (by kernel_rfl) (by kernel_rfl) (by kernel_rfl) (by kernel_rfl) rfl (show _ = #[true, true, false, false, false] from rfl) (yv_loadB (i := 2) rfl tf25 rfl rfl (fun _ => rfl) rfl) ?_
        refine sxb_step 2 rfl (by kernel_rfl) (show _ = #[true, true, true, false, false] from rfl) ?_
        refine sxo_storeB (i := 3) rfl rfl rfl tf25 rfl rfl rfl rfl rfl ?_
        refine sxo_nil ?_
        refine sxq_anyB (.cons 0 rfl (.cons 0 rfl (.cons 0 rfl (.cons 0 rfl (.cons 0 rfl .nil))))) (gk_F 0 rfl gk_nil) ?_
        refine sxb_step 3 rfl (by kernel_rfl) (show _ = #[true, true, true, true, false] from rfl) ?_
        refine sxo_storeB (i := 2) rfl rfl rfl tf25 rfl rfl rfl rfl rfl ?_
        refine sxo_nil ?_
        refine sxq_anyB (.cons 0 rfl (.cons 0 rfl (.cons 0 rfl (.cons 0 rfl (.cons 0 rfl .nil))))) (gk_F 0 rfl gk_nil) ?_
        refine sxb_takeP 4 (.int .i64 0) rfl rfl rfl rfl (by kernel_rfl) (by kernel_rfl) (by kernel_rfl) (by kernel_rfl) (by kernel_rfl) rfl (show _ = #[true, true, true, true, true] from rfl) (yv_pv rfl) ?_
        refine sxb_done (by kernel_rfl) ?_
        refine sxq_np ?_ (by intro c h; cases h)
        refine sxq_next ?_
        refine sxc_ret ?_
        exact sxq_doneX [D1] ((a28, c29), (a25, c26)) (.inl rfl) rfl (.cons 0 rfl .nil) (resL (rs := [.cell 2 25, .cell 3 25, .tmp 4]) rfl (.cell (i := 2) rfl tf25 rfl rfl (fun _ => rfl) rfl (.cell (i := 1) rfl tf25 rfl rfl (fun _ => rfl) rfl (.tmp rfl ResOk.nil))) rfl) (fun h => by subst h; rfl) (fun h => by subst h; exact .nil) (fun h => by subst h; exact (.cons 1 rfl (.cons 0 rfl .nil)))
      · intro t; exact t.elim

theorem C_R_SameLists (F : Nat) (x1 : List (List Int)) (a2 : Option Addr) (c3 : (Nat × List (Option Addr × Nat))) (x4 : List (List Int)) (a5 : Option Addr) (c6 : (Nat × List (Option Addr × Nat))) (r : Bool) (hm : M_R_SameLists F x1 x4 = some r) :
    Pure Try.prog 39 [.slice a2 x1.length c3.1, .slice a5 x4.length c6.1] [SlN eN25 iN25 1 (.slice a2 x1.length c3.1) x1 c3.2, SlN eN25 iN25 1 (.slice a5 x4.length c6.1) x4 c6.2] Unit (fun _ => .bool r) (fun _ => []) (fun _ => []) := by
  refine pure_of Try.func39 rfl Try.ntmps39 rfl hm (fun w => ?_)
  refine sxc_env (l' := [(0, .slice a2 x1.length c3.1), (1, .slice a5 x4.length c6.1)]) rfl ?_
  refine sxc_seq ?_
  refine sxc_region ?_
  refine sxo_assign rfl rfl rfl ?_
  refine sxo_nil ?_
  refine sxq_next ?_
  refine sxc_seq ?_
  refine sxc_seq ?_
  refine sxc_region ?_
  refine sxo_move rfl rfl rfl ?_
  refine sxo_len rfl Try.underlying22 rfl rfl ?_
  refine sxo_move rfl rfl rfl ?_
  refine sxo_len rfl Try.underlying22 rfl rfl ?_
  refine sxo_neq rfl rfl rfl rfl ?_
  refine sxo_nil ?_
  refine sxq_next ?_
  refine sxc_if rfl (fun h300 => ?_) (fun h300 => ?_)
  · refine sxc_seq ?_
    refine sxc_region ?_
    refine sxo_assign rfl rfl rfl ?_
    refine sxo_nil ?_
    refine sxq_next ?_
    refine sxc_ret ?_
    refine sxq_thenR ?_
    exact sxq_doneP () (.inl rfl) (res1 rfl rfl) (fun h => by subst h; rfl) (fun h => by subst h; exact .nil)
  · refine sxc_skip ?_
    refine sxq_next ?_
    refine sxc_join (fun ((_, _) : (Unit × Unit)) => []) (fun ((_, _) : (Unit × Unit)) => []) (fun ((_, _) : (Unit × Unit)) => []) (fun ((_, _) : (Unit × Unit)) => []) (fun ((_, _) : (Unit × Unit)) => M_R_SameLists_j2 F) ?_ ?_
    · refine sxc_seq ?_
      refine sxc_region ?_
      refine sxo_assign rfl rfl rfl ?_
      refine sxo_nil ?_
      refine sxq_next ?_
      refine sxc_block ?_
      refine sxc_loopP (fun ((x202, _) : (Int × Unit)) => [(0, .slice a2 x1.length c3.1), (1, .slice a5 x4.length c6.1), (5, .int .i64 x202)]) (fun ((x202, _) : (Int × Unit)) => []) (fun ((x202, _) : (Int × Unit)) => []) (fun ((x202, _) : (Int × Unit)) => [SlN eN25 iN25 1 (.slice a2 x1.length c3.1) x1 c3.2, SlN eN25 iN25 1 (.slice a5 x4.length c6.1) x4 c6.2]) (fun k (s : (Int × Unit)) => M_R_SameLists_l3 F x1 x4 k s.1) (0, ()) F (lk_cons rfl (lk_cons rfl (lk_cons rfl lk_nil))) .nil .nil (fk_cons 0 rfl (fk_cons 1 rfl fk_nil)) (fun _ => rfl) ?_
      intro k251
      rintro ⟨x202, _⟩
      try dsimp only
      refine sxc_meq (m' := M_R_SameLists_b3 F x1 x4 (M_R_SameLists_l3 F x1 x4 k251) x202) rfl ?_
      refine sxc_seq ?_
      refine sxc_seq ?_
      refine sxc_region ?_
      refine sxo_move rfl rfl rfl ?_
      refine sxo_move rfl rfl rfl ?_
      refine sxo_len rfl Try.underlying22 rfl rfl ?_
      refine sxo_lss rfl rfl rfl rfl ?_
      refine sxo_nil ?_
      refine sxq_next ?_
      refine sxc_if rfl (fun h299 => ?_) (fun h299 => ?_)
      · refine sxc_skip ?_
        refine sxq_next ?_
        refine sxc_seq ?_
        refine sxc_block ?_
        refine sxc_seq ?_
        refine sxc_idxN (j := 0) eN25_ok (by decide) rfl (fun x287 e287 g291 b288 o289 h290 => ?_)
        replace h290 : a2 = some ⟨b288, o289, none⟩ := h290
        refine sxc_idxN (j := 3) eN25_ok (by decide) rfl (fun x292 e292 g296 b293 o294 h295 => ?_)
        replace h295 : a5 = some ⟨b293, o294, none⟩ := h295
        refine sxb_draw mixed [] [] [CellsAt b293 (o294 + x202.toNat * 1) (eN25 (x292, g296)), Sl (eI .i64) 1 (.slice g296.1 x292.length g296.2) x292, CellsAt b288 (o289 + x202.toNat * 1) (eN25 (x287, g291)), Sl (eI .i64) 1 (.slice g291.1 x287.length g291.2) x287, SlN eN25 iN25 1 (.slice a2 x1.length c3.1) x1 c3.2, SlN eN25 iN25 1 (.slice a5 x4.length c6.1) x4 c6.2] .nil (gk_F 0 rfl (gk_F 1 rfl (gk_F 2 rfl (gk_F 3 rfl (gk_F 4 rfl (gk_F 5 rfl gk_nil)))))) 10 rfl ?_
        refine sxb_takeP 0 (.slice a2 x1.length c3.1) rfl rfl rfl rfl (by kernel_rfl) (by kernel_rfl) (by kernel_rfl) (by kernel_rfl) (by kernel_rfl) rfl (show _ = #[true, false, false, false, false, false, false, false, false, false] from rfl) (yv_pv rfl) ?_
        refine sxb_takeP 1 (.int .i64 x202) rfl rfl rfl rfl (by kernel_rfl) (by kernel_rfl) (by kernel_rfl) (by kernel_rfl) (by kernel_rfl) rfl (show _ = #[true, true, false, false, false, false, false, false, false, false] from rfl) (yv_pv rfl) ?_
        refine sxb_again (d := 17) (v := .slice (some ⟨b288, o289, none⟩) x1.length c3.1) rfl (by rw [h290] <;> rfl) ?_
        refine sxb_takeP 2 (.pointer (some ⟨b288, (o289 + x202.toNat * 1), none⟩)) rfl rfl rfl rfl (by kernel_rfl) (by kernel_rfl) (by kernel_rfl) (by kernel_rfl) (by kernel_rfl) rfl (show _ = #[true, true, true, false, false, false, false, false, false, false] from rfl) (yv_idx Try.underlying22 tf25 rfl rfl (idx_get e287).1 (idx_lt e287)) ?_
        refine sxb_again (d := 17) (v := .slice a2 x1.length c3.1) rfl (by rw [h290] <;> rfl) ?_
        refine sxb_take 3 (.slice g291.1 x287.length g291.2) [] rfl rfl rfl rfl (by kernel_rfl) (by kernel_rfl) (by kernel_rfl) (by kernel_rfl) (by kernel_rfl) (by kernel_rfl) rfl (show _ = #[true, true, true, true, false, false, false, false, false, false] from rfl) (yv_loadF (j := 2) rfl tf25 rfl rfl (fun _ => rfl) rfl) ?_
        refine sxb_takeP 4 (.slice a5 x4.length c6.1) rfl rfl rfl rfl (by kernel_rfl) (by kernel_rfl) (by kernel_rfl) (by kernel_rfl) (by kernel_rfl) rfl (show _ = #[true, true, true, true, true, false, false, false, false, false] from rfl) (yv_pv rfl) ?_
        refine sxb_takeP 5 (.int .i64 x202) rfl rfl rfl rfl (by kernel_rfl) (by kernel_rfl) (by kernel_rfl) (by kernel_rfl) (by kernel_rfl) rfl (show _ = #[true, true, true, true, true, true, false, false, false, false] from rfl) (yv_pv rfl) ?_
        refine sxb_again (d := 21) (v := .slice (some ⟨b293, o294, none⟩) x4.length c6.1) rfl (by rw [h295] <;> rfl) ?_
        refine sxb_takeP 6 (.pointer (some ⟨b293, (o294 + x202.toNat * 1), none⟩)) rfl rfl rfl rfl (by kernel_rfl) (by kernel_rfl) (by kernel_rfl) (by kernel_rfl) (by kernel_rfl) rfl (show _ = #[true, true, true, true, true, true, true, false, false, false] from rfl) (yv_idx Try.underlying22 tf25 rfl rfl (idx_get e292).1 (idx_lt e292)) ?_
        refine sxb_again (d := 21) (v := .slice a5 x4.length c6.1) rfl (by rw [h295] <;> rfl) ?_
        refine sxb_take 7 (.slice g296.1 x292.length g296.2) [] rfl rfl rfl rfl (by kernel_rfl) (by kernel_rfl) (by kernel_rfl) (by kernel_rfl) (by kernel_rfl) (by kernel_rfl) rfl (show _ = #[true, true, true, true, true, true, true, true, false, false] from rfl) (yv_loadF (j := 0) rfl tf25 rfl rfl (fun _ => rfl) rfl) ?_
        refine sxb_step 8 rfl (by kernel_rfl) (show _ = #[true, true, true, true, true, true, true, true, true, false] from rfl) ?_
        refine sxo_call ent18 rfl rfl rfl (fun x297 e297 => C_R_SameInts F x287 g291.1 g291.2 x292 g296.1 g296.2 x297 e297) (.consF 3 rfl (.consF 1 rfl .nil)) (fun x297 e297 => ?_)
        intro _
        refine sxo_nil ?_
        refine sxq_anyB .nil (gk_F 0 rfl (gk_F 1 rfl (gk_F 2 rfl (gk_F 3 rfl (gk_F 4 rfl (gk_F 5 rfl gk_nil)))))) ?_
        refine sxb_takeP 9 (.bool (!x297)) rfl rfl rfl rfl (by kernel_rfl) (by kernel_rfl) (by kernel_rfl) (by kernel_rfl) (by kernel_rfl) rfl (show _ = #[true, true, true, true, true, true, true, true, true, true] from rfl) (yv_pv rfl) ?_
        refine sxb_done (by kernel_rfl) ?_
        refine sxq_np ?_ (by intro c h; cases h)
        refine sxq_next ?_
        refine sxc_if rfl (fun h298 => ?_) (fun h298 => ?_)
        · refine sxc_seq ?_
          refine sxc_region ?_
          refine sxo_assign rfl rfl rfl ?_
          refine sxo_nil ?_
          refine sxq_next ?_
          refine sxc_ret ?_
          refine sxq_blkR ?_
          refine sxq_thenR ?_
          refine sxq_thenR ?_
          refine sxq_blkR ?_
          refine sxq_thenR ?_
          exact sxq_doneP () (.inl rfl) (res1 rfl rfl) (fun h => by subst h; rfl) (fun h => by subst h; exact .nil)
        · refine sxc_skip ?_
          refine sxq_blkN ?_
          refine sxq_next ?_
          refine sxc_region ?_
          refine sxo_move rfl rfl rfl ?_
          refine sxo_add rfl rfl rfl rfl ?_
          refine sxo_assign rfl rfl rfl ?_
          refine sxo_nil ?_
          exact sxq_againP (iadd .i64 x202 1, ()) (lk_cons rfl (lk_cons rfl (lk_cons rfl lk_nil))) .nil .nil (fk_cons 4 rfl (fk_cons 5 rfl fk_nil))
      · refine sxc_exit ?_
        refine sxq_thenX ?_
        refine sxq_thenX ?_
        refine sxq_blkX ?_
        exact sxq_meetP ((), ()) lk_nil .nil .nil fk_nil
    · rintro ⟨_, _⟩
      try dsimp only
      refine sxc_seq ?_
      refine sxc_region ?_
      refine sxo_assign rfl rfl rfl ?_
      refine sxo_nil ?_
      refine sxq_next ?_
      refine sxc_ret ?_
      exact sxq_doneP () (.inl rfl) (res1 rfl rfl) (fun h => by subst h; rfl) (fun h => by subst h; exact .nil)

theorem C_R_SameArcs (F : Nat) (x1 : List (Int × Int)) (a2 : Option Addr) (c3 : Nat) (x4 : List (Int × Int)) (a5 : Option Addr) (c6 : Nat) (r : Bool) (hm : M_R_SameArcs F x1 x4 = some r) :
    Pure Try.prog 40 [.slice a2 x1.length c3, .slice a5 x4.length c6] [Sl eS44 2 (.slice a2 x1.length c3) x1, Sl eS44 2 (.slice a5 x4.length c6) x4] Unit (fun _ => .bool r) (fun _ => []) (fun _ => []) := by
  refine pure_of Try.func40 rfl Try.ntmps40 rfl hm (fun w => ?_)
  refine sxc_env (l' := [(0, .slice a2 x1.length c3), (1, .slice a5 x4.length c6)]) rfl ?_
  refine sxc_seq ?_
  refine sxc_region ?_
  refine sxo_assign rfl rfl rfl ?_
  refine sxo_nil ?_
  refine sxq_next ?_
  refine sxc_seq ?_
  refine sxc_seq ?_
  refine sxc_region ?_
  refine sxo_move rfl rfl rfl ?_
  refine sxo_len rfl Try.underlying45 rfl rfl ?_
  refine sxo_move rfl rfl rfl ?_
  refine sxo_len rfl Try.underlying45 rfl rfl ?_
  refine sxo_neq rfl rfl rfl rfl ?_
  refine sxo_nil ?_
  refine sxq_next ?_
  refine sxc_if rfl (fun h228 => ?_) (fun h228 => ?_)
  · refine sxc_seq ?_
    refine sxc_region ?_
    refine sxo_assign rfl rfl rfl ?_
    refine sxo_nil ?_
    refine sxq_next ?_
    refine sxc_ret ?_
    refine sxq_thenR ?_
    exact sxq_doneP () (.inl rfl) (res1 rfl rfl) (fun h => by subst h; rfl) (fun h => by subst h; exact .nil)
  · refine sxc_skip ?_
    refine sxq_next ?_
    refine sxc_join (fun ((_, _) : (Unit × Unit)) => []) (fun ((_, _) : (Unit × Unit)) => []) (fun ((_, _) : (Unit × Unit)) => []) (fun ((_, _) : (Unit × Unit)) => []) (fun ((_, _) : (Unit × Unit)) => M_R_SameArcs_j2 F) ?_ ?_
    · refine sxc_seq ?_
      refine sxc_region ?_
      refine sxo_assign rfl rfl rfl ?_
      refine sxo_nil ?_
      refine sxq_next ?_
      refine sxc_block ?_
      refine sxc_loopP (fun ((x154, _) : (Int × Unit)) => [(0, .slice a2 x1.length c3), (1, .slice a5 x4.length c6), (5, .int .i64 x154)]) (fun ((x154, _) : (Int × Unit)) => []) (fun ((x154, _) : (Int × Unit)) => []) (fun ((x154, _) : (Int × Unit)) => [Sl eS44 2 (.slice a2 x1.length c3) x1, Sl eS44 2 (.slice a5 x4.length c6) x4]) (fun k (s : (Int × Unit)) => M_R_SameArcs_l3 F x1 x4 k s.1) (0, ()) F (lk_cons rfl (lk_cons rfl (lk_cons rfl lk_nil))) .nil .nil (fk_cons 0 rfl (fk_cons 1 rfl fk_nil)) (fun _ => rfl) ?_
      intro k191
      rintro ⟨x154, _⟩
      try dsimp only
      refine sxc_meq (m' := M_R_SameArcs_b3 F x1 x4 (M_R_SameArcs_l3 F x1 x4 k191) x154) rfl ?_
      refine sxc_seq ?_
      refine sxc_seq ?_
      refine sxc_region ?_
      refine sxo_move rfl rfl rfl ?_
      refine sxo_move rfl rfl rfl ?_
      refine sxo_len rfl Try.underlying45 rfl rfl ?_
      refine sxo_lss rfl rfl rfl rfl ?_
      refine sxo_nil ?_
      refine sxq_next ?_
      refine sxc_if rfl (fun h227 => ?_) (fun h227 => ?_)
      · refine sxc_skip ?_
        refine sxq_next ?_
        refine sxc_seq ?_
        refine sxc_block ?_
        refine sxc_seq ?_
        refine sxc_idxF (j := 0) eS44_ok (by decide) rfl (fun x218 e218 b219 o220 h221 => ?_)
        replace h221 : a2 = some ⟨b219, o220, none⟩ := h221
        refine sxc_idxF (j := 2) eS44_ok (by decide) rfl (fun x222 e222 b223 o224 h225 => ?_)
        replace h225 : a5 = some ⟨b223, o224, none⟩ := h225
        refine sxb_draw mixed [] [] [CellsAt b223 (o224 + x154.toNat * 2) (eS44 x222), CellsAt b219 (o220 + x154.toNat * 2) (eS44 x218), Sl eS44 2 (.slice a2 x1.length c3) x1, Sl eS44 2 (.slice a5 x4.length c6) x4] .nil (gk_F 0 rfl (gk_F 1 rfl (gk_F 2 rfl (gk_F 3 rfl gk_nil)))) 9 rfl ?_
        refine sxb_takeP 0 (.slice a2 x1.length c3) rfl rfl rfl rfl (by kernel_rfl) (by kernel_rfl) (by kernel_rfl) (by kernel_rfl) (by kernel_rfl) rfl (show _ = #[true, false, false, false, false, false, false, false, false] from rfl) (yv_pv rfl) ?_
        refine sxb_takeP 1 (.int .i64 x154) rfl rfl rfl rfl (by kernel_rfl) (by kernel_rfl) (by kernel_rfl) (by kernel_rfl) (by kernel_rfl) rfl (show _ = #[true, true, false, false, false, false, false, false, false] from rfl) (yv_pv rfl) ?_
        refine sxb_again (d := 17) (v := .slice (some ⟨b219, o220, none⟩) x1.length c3) rfl (by rw [h221] <;> rfl) ?_
        refine sxb_takeP 2 (.pointer (some ⟨b219, (o220 + x154.toNat * 2), none⟩)) rfl rfl rfl rfl (by kernel_rfl) (by kernel_rfl) (by kernel_rfl) (by kernel_rfl) (by kernel_rfl) rfl (show _ = #[true, true, true, false, false, false, false, false, false] from rfl) (yv_idx Try.underlying45 tf44 rfl rfl (idx_get e218).1 (idx_lt e218)) ?_
        refine sxb_again (d := 17) (v := .slice a2 x1.length c3) rfl (by rw [h221] <;> rfl) ?_
        refine sxb_take 3 (.agg #[.int .i64 x218.1, .int .i64 x218.2]) [] rfl rfl rfl rfl (by kernel_rfl) (by kernel_rfl) (by kernel_rfl) (by kernel_rfl) (by kernel_rfl) (by kernel_rfl) rfl (show _ = #[true, true, true, true, false, false, false, false, false] from rfl) (yv_loadF (j := 1) rfl tf44 rfl rfl (by simp) rfl) ?_
        refine sxb_takeP 4 (.slice a5 x4.length c6) rfl rfl rfl rfl (by kernel_rfl) (by kernel_rfl) (by kernel_rfl) (by kernel_rfl) (by kernel_rfl) rfl (show _ = #[true, true, true, true, true, false, false, false, false] from rfl) (yv_pv rfl) ?_
        refine sxb_takeP 5 (.int .i64 x154) rfl rfl rfl rfl (by kernel_rfl) (by kernel_rfl) (by kernel_rfl) (by kernel_rfl) (by kernel_rfl) rfl (show _ = #[true, true, true, true, true, true, false, false, false] from rfl) (yv_pv rfl) ?_
        refine sxb_again (d := 21) (v := .slice (some ⟨b223, o224, none⟩) x4.length c6) rfl (by rw [h225] <;> rfl) ?_
        refine sxb_takeP 6 (.pointer (some ⟨b223, (o224 + x154.toNat * 2), none⟩)) rfl rfl rfl rfl (by kernel_rfl) (by kernel_rfl) (by kernel_rfl) (by kernel_rfl) (by kernel_rfl) rfl (show _ = #[true, true, true, true, true, true, true, false, false] from rfl) (yv_idx Try.underlying45 tf44 rfl rfl (idx_get e222).1 (idx_lt e222)) ?_
        refine sxb_again (d := 21) (v := .slice a5 x4.length c6) rfl (by rw [h225] <;> rfl) ?_
        refine sxb_take 7 (.agg #[.int .i64 x222.1, .int .i64 x222.2]) [] rfl rfl rfl rfl (by kernel_rfl) (by kernel_rfl) (by kernel_rfl) (by kernel_rfl) (by kernel_rfl) (by kernel_rfl) rfl (show _ = #[true, true, true, true, true, true, true, true, false] from rfl) (yv_loadF (j := 0) rfl tf44 rfl rfl (by simp) rfl) ?_
        refine sxb_takeP 8 (.bool (!(((x218.1 : Int) == x222.1) && ((x218.2 : Int) == x222.2)))) rfl rfl rfl rfl (by kernel_rfl) (by kernel_rfl) (by kernel_rfl) (by kernel_rfl) (by kernel_rfl) rfl (show _ = #[true, true, true, true, true, true, true, true, true] from rfl) (yv_neq2 rfl rfl se44) ?_
        refine sxb_done (by kernel_rfl) ?_
        refine sxq_np ?_ (by intro c h; cases h)
        refine sxq_next ?_
        refine sxc_if rfl (fun h226 => ?_) (fun h226 => ?_)
        · refine sxc_seq ?_
          refine sxc_region ?_
          refine sxo_assign rfl rfl rfl ?_
          refine sxo_nil ?_
          refine sxq_next ?_
          refine sxc_ret ?_
          refine sxq_blkR ?_
          refine sxq_thenR ?_
          refine sxq_thenR ?_
          refine sxq_blkR ?_
          refine sxq_thenR ?_
          exact sxq_doneP () (.inl rfl) (res1 rfl rfl) (fun h => by subst h; rfl) (fun h => by subst h; exact .nil)
        · refine sxc_skip ?_
          refine sxq_blkN ?_
          refine sxq_next ?_
          refine sxc_region ?_
          refine sxo_move rfl rfl rfl ?_
          refine sxo_add rfl rfl rfl rfl ?_
          refine sxo_assign rfl rfl rfl ?_
          refine sxo_nil ?_
          exact sxq_againP (iadd .i64 x154 1, ()) (lk_cons rfl (lk_cons rfl (lk_cons rfl lk_nil))) .nil .nil (fk_cons 2 rfl (fk_cons 3 rfl fk_nil))
      · refine sxc_exit ?_
        refine sxq_thenX ?_
        refine sxq_thenX ?_
        refine sxq_blkX ?_
        exact sxq_meetP ((), ()) lk_nil .nil .nil fk_nil
    · rintro ⟨_, _⟩
      try dsimp only
      refine sxc_seq ?_
      refine sxc_region ?_
      refine sxo_assign rfl rfl rfl ?_
      refine sxo_nil ?_
      refine sxq_next ?_
      refine sxc_ret ?_
      exact sxq_doneP () (.inl rfl) (res1 rfl rfl) (fun h => by subst h; rfl) (fun h => by subst h; exact .nil)

set_option maxHeartbeats 4000000 in
theorem C_L_graphBegun (F : Nat)  (r : Bool) (hm : M_L_graphBegun F  = some r) :
    Pure Try.prog 22 [] [] Unit (fun _ => .bool r) (fun _ => []) (fun _ => []) := by
  refine pure_of Try.func22 rfl Try.ntmps22 rfl hm (fun w => ?_)
  refine sxc_env (l' := []) rfl ?_
  refine sxc_seq ?_
  refine sxc_region ?_
  refine sxo_assign rfl rfl rfl ?_
  refine sxo_nil ?_
  refine sxq_next ?_
  refine sxc_seq ?_
  refine sxc_region ?_
  refine sxo_build (cells := [.int .i64 2, .int .i64 0]) rfl st44 rfl (by kernel_rfl) rfl ?_
  refine sxo_build (cells := [.int .i64 0, .int .i64 1]) rfl st44 rfl (by kernel_rfl) rfl ?_
  refine sxo_build (cells := [.int .i64 0, .int .i64 0]) rfl st44 rfl (by kernel_rfl) rfl ?_
  refine sxo_slit (vs := [.agg #[.int .i64 2, .int .i64 0], .agg #[.int .i64 0, .int .i64 1], .agg #[.int .i64 0, .int .i64 0]]) (ys := ([(2, 0), (0, 1), (0, 0)] : List (Int × Int))) eS44_ok (by decide) rfl Try.underlying45 tf44 rfl rfl rfl rfl rfl (by decide) (fun a1 c2 => ?_)
  refine sxo_call ent23 rfl rfl rfl (fun x3 e3 => C_graph_Of F 3 ([(2, 0), (0, 1), (0, 0)] : List (Int × Int)) a1 c2 x3 e3) (.consR 0 (Ro eS44 44 2 (.slice a1 ([(2, 0), (0, 1), (0, 0)] : List (Int × Int)).length c2) ([(2, 0), (0, 1), (0, 0)] : List (Int × Int))) rfl .nil) (fun x3 e3 => ?_)
  rintro ⟨a4, c5⟩
  refine sxo_move rfl rfl rfl ?_
  refine sxo_extract rfl rfl rfl rfl ?_
  refine sxo_extract rfl rfl rfl rfl ?_
  refine sxo_alloc rfl tf24 rfl (fun g6 => ?_)
  refine sxo_storeB (i := 0) rfl rfl rfl tf24 rfl rfl rfl rfl rfl ?_
  refine sxo_assign rfl rfl rfl ?_
  refine sxo_nil ?_
  refine sxq_next ?_
  refine sxc_seq ?_
  refine sxc_region ?_
  refine sxo_loadB (i := 0) rfl rfl tf24 rfl rfl (by simp) rfl rfl ?_
  refine sxo_call ent21 rfl rfl rfl (fun x7 e7 => C_graph_Arcs F x3.1 a4 c5 x7 e7) (.consG 0 rfl (nest_sl rN25_in) .nil) (fun x7 e7 => ?_)
  rintro ⟨a8, c9⟩
  refine sxo_move rfl rfl rfl ?_
  refine sxo_extract rfl rfl rfl rfl ?_
  refine sxo_extract rfl rfl rfl rfl ?_
  refine sxo_assign rfl rfl rfl ?_
  refine sxo_assign rfl rfl rfl ?_
  refine sxo_nil ?_
  refine sxq_next ?_
  refine sxc_seq ?_
  refine sxc_region ?_
  refine sxo_loadB (i := 0) rfl rfl tf24 rfl rfl (by simp) rfl rfl ?_
  refine sxo_call ent37 rfl rfl rfl (fun x10 e10 => C_graph_Turn F x3.1 a4 c5 x10 e10) (.consG 1 rfl (nest_sl rN25_in) .nil) (fun x10 e10 => ?_)
  rintro ⟨a11, c12⟩
  refine sxo_move rfl rfl rfl ?_
  refine sxo_extract rfl rfl rfl rfl ?_
  refine sxo_extract rfl rfl rfl rfl ?_
  refine sxo_alloc rfl tf24 rfl (fun g13 => ?_)
  refine sxo_storeB (i := 0) rfl rfl rfl tf24 rfl rfl rfl rfl rfl ?_
  refine sxo_assign rfl rfl rfl ?_
  refine sxo_nil ?_
  refine sxq_next ?_
  refine sxc_seq ?_
  refine sxc_region ?_
  refine sxo_loadB (i := 1) rfl rfl tf24 rfl rfl (by simp) rfl rfl ?_
  refine sxo_call ent24 rfl rfl rfl (fun x14 e14 => C_graph_Both F x3.1 a4 c5 x14 e14) (.consG 2 rfl (nest_sl rN25_in) .nil) (fun x14 e14 => ?_)
  rintro ⟨a15, c16⟩
  refine sxo_move rfl rfl rfl ?_
  refine sxo_extract rfl rfl rfl rfl ?_
  refine sxo_extract rfl rfl rfl rfl ?_
  refine sxo_alloc rfl tf24 rfl (fun g17 => ?_)
  refine sxo_storeB (i := 0) rfl rfl rfl tf24 rfl rfl rfl rfl rfl ?_
  refine sxo_assign rfl rfl rfl ?_
  refine sxo_nil ?_
  refine sxq_next ?_
  refine sxc_seq ?_
  refine sxc_region ?_
  refine sxo_loadB (i := 2) rfl rfl tf24 rfl rfl (by simp) rfl rfl ?_
  refine sxo_callM ent38 rfl rfl rfl (fun x18 e18 => C_graph_Degrees F x3.1 a4 c5 x18 e18) .nil .nil (.consG 3 rfl (nest_sl rN25_in) .nil) (fun x18 e18 => ?_)
  rintro ⟨⟨a19, c20⟩, ⟨a21, c22⟩⟩
  refine sxo_move rfl rfl rfl ?_
  refine sxo_extract rfl rfl rfl rfl ?_
  refine sxo_extract rfl rfl rfl rfl ?_
  refine sxo_extract rfl rfl rfl rfl ?_
  refine sxo_assign rfl rfl rfl ?_
  refine sxo_assign rfl rfl rfl ?_
  refine sxo_assign rfl rfl rfl ?_
  refine sxo_nil ?_
  refine sxq_next ?_
  refine sxc_seq ?_
  refine sxc_region ?_
  refine sxo_build (cells := [.int .i64 0, .int .i64 0]) rfl st44 rfl (by kernel_rfl) rfl ?_
  refine sxo_build (cells := [.int .i64 0, .int .i64 0]) rfl st44 rfl (by kernel_rfl) rfl ?_
  refine sxo_slit (vs := [.agg #[.int .i64 0, .int .i64 0], .agg #[.int .i64 0, .int .i64 0]]) (ys := ([(0, 0), (0, 0)] : List (Int × Int))) eS44_ok (by decide) rfl Try.underlying45 tf44 rfl rfl rfl rfl rfl (by decide) (fun a23 c24 => ?_)
  refine sxo_call ent23 rfl rfl rfl (fun x25 e25 => C_graph_Of F 1 ([(0, 0), (0, 0)] : List (Int × Int)) a23 c24 x25 e25) (.consR 0 (Ro eS44 44 2 (.slice a23 ([(0, 0), (0, 0)] : List (Int × Int)).length c24) ([(0, 0), (0, 0)] : List (Int × Int))) rfl .nil) (fun x25 e25 => ?_)
  rintro ⟨a26, c27⟩
  refine sxo_move rfl rfl rfl ?_
  refine sxo_extract rfl rfl rfl rfl ?_
  refine sxo_extract rfl rfl rfl rfl ?_
  refine sxo_alloc rfl tf24 rfl (fun g28 => ?_)
  refine sxo_storeB (i := 0) rfl rfl rfl tf24 rfl rfl rfl rfl rfl ?_
  refine sxo_assign rfl rfl rfl ?_
  refine sxo_nil ?_
  refine sxq_next ?_
  refine sxc_seq ?_
  refine sxc_region ?_
  refine sxo_fieldAddr rfl rfl ff24_0 rfl ?_
  refine sxo_loadB (i := 3) rfl rfl tf22 rfl rfl (fun _ => rfl) rfl rfl ?_
  refine sxo_slit (vs := [.int .i64 0, .int .i64 1]) (ys := ([0, 1] : List Int)) (eI_ok .i64) (by decide) rfl Try.underlying25 tf3 rfl rfl rfl rfl rfl (by decide) (fun a29 c30 => ?_)
  refine sxo_slit (vs := [.int .i64 0]) (ys := ([0] : List Int)) (eI_ok .i64) (by decide) rfl Try.underlying25 tf3 rfl rfl rfl rfl rfl (by decide) (fun a31 c32 => ?_)
  refine sxo_freeze 1 rfl ?_
  refine sxo_nilrow' Int (eI .i64) 3 1 ?_
  refine sxo_freeze 0 rfl ?_
  refine sxo_freeze 0 rfl ?_
  refine sxo_slit (vs := [.slice a29 ([0, 1] : List Int).length c30, .slice none 0 0, .slice a31 ([0] : List Int).length c32]) (ys := ([(([0, 1] : List Int), (a29, c30)), (([] : List Int), (none, 0)), (([0] : List Int), (a31, c32))] : List (List Int × (Option Addr × Nat)))) eN25_ok (by decide) rfl Try.underlying22 tf25 rfl rfl rfl rfl rfl (by decide) (fun a33 c34 => ?_)
  refine sxo_nestF (inn := iN25) ([([0, 1] : List Int), ([] : List Int), ([0] : List Int)] : List (List Int)) ([(a29, c30), (none, 0), (a31, c32)] : List (Option Addr × Nat)) 0 rfl rfl (fk_cons 2 rfl (fk_cons 1 rfl (fk_cons 0 rfl fk_nil))) ?_
  refine sxo_call ent39 rfl rfl rfl (fun x35 e35 => C_R_SameLists F x3.1 a4 c5 ([([0, 1] : List Int), ([] : List Int), ([0] : List Int)] : List (List Int)) a33 (c34, ([(a29, c30), (none, 0), (a31, c32)] : List (Option Addr × Nat))) x35 e35) (.consG 7 rfl (nest_sl rN25_in) (.consF 0 rfl .nil)) (fun x35 e35 => ?_)
  intro _
  refine sxo_move rfl rfl rfl ?_
  refine sxo_case 3 x35 [(3, .slice a8 x7.1.length c9), (4, .int .i64 x7.2), (5, .pointer (some ⟨g13, 0, none⟩)), (6, .int .i64 x10.2), (7, .pointer (some ⟨g17, 0, none⟩)), (8, .int .i64 x14.2), (9, .slice a19 x18.1.length c20), (10, .slice a21 x18.2.1.length c22), (11, .int .i64 x18.2.2), (13, .int .i64 x25.2), (59, .bool (x35 && ((x3.2 : Int) == 0)))] (fun h36 => ?_) (fun h36 => ?_) ?_
  · refine sxo_take (os := _) rfl ?_
    refine sxo_isT (k := 56) rfl h36 ?_
    refine sxo_move rfl rfl rfl ?_
    refine sxo_eql rfl rfl rfl rfl ?_
    refine sxo_pick (b := true) rfl rfl rfl rfl ?_
    refine sxo_again (d := 59) (v := .bool (x35 && ((x3.2 : Int) == 0))) rfl (by rw [h36]; simp only [Bool.true_and]) ?_
    refine sxo_nil ?_
    exact sxq_case (lk_cons rfl (lk_cons rfl (lk_cons rfl (lk_cons rfl (lk_cons rfl (lk_cons rfl (lk_cons rfl (lk_cons rfl (lk_cons rfl (lk_cons rfl (lk_cons rfl lk_nil)))))))))))
  · refine sxo_take (os := _) rfl ?_
    refine sxo_isF (k := 56) rfl h36 ?_
    refine sxo_skip rfl rfl rfl ?_
    refine sxo_skip rfl rfl rfl ?_
    refine sxo_pick (b := false) rfl rfl rfl rfl ?_
    refine sxo_again (d := 59) (v := .bool (x35 && ((x3.2 : Int) == 0))) rfl (by rw [h36]; simp only [Bool.false_and]) ?_
    refine sxo_nil ?_
    exact sxq_case (lk_cons rfl (lk_cons rfl (lk_cons rfl (lk_cons rfl (lk_cons rfl (lk_cons rfl (lk_cons rfl (lk_cons rfl (lk_cons rfl (lk_cons rfl (lk_cons rfl lk_nil)))))))))))
  refine sxo_take (os := _) rfl ?_
  refine sxo_move rfl rfl rfl ?_
  refine sxo_join 7 (fun ((x41, _) : (Bool × Unit)) => [(4, .int .i64 x7.2), (5, .pointer (some ⟨g13, 0, none⟩)), (6, .int .i64 x10.2), (7, .pointer (some ⟨g17, 0, none⟩)), (8, .int .i64 x14.2), (9, .slice a19 x18.1.length c20), (10, .slice a21 x18.2.1.length c22), (11, .int .i64 x18.2.2), (13, .int .i64 x25.2), (67, .bool x41)]) (fun ((x41, _) : (Bool × Unit)) => [⟨g17, 24, [.slice a15 x14.1.length c16.1]⟩, ⟨g13, 24, [.slice a11 x10.1.length c12.1]⟩]) (fun ((x41, _) : (Bool × Unit)) => [Ro (eI .i64) 3 1 (.slice a19 x18.1.length c20) x18.1, Ro (eI .i64) 3 1 (.slice a21 x18.2.1.length c22) x18.2.1, RoN eN25 rN25 25 1 (.slice a15 x14.1.length c16.1) x14.1 c16.2 [], RoN eN25 rN25 25 1 (.slice a11 x10.1.length c12.1) x10.1 c12.2 []]) (fun ((x41, _) : (Bool × Unit)) => []) (fun ((x41, _) : (Bool × Unit)) => M_L_graphBegun_j1 F x7 x10 x14 x18 x25 x41) ?_ ?_
  · refine sxo_take (os := _) rfl ?_
    refine sxo_if (fun h37 => ?_) (fun h37 => ?_)
    · refine sxo_isT (k := 60) rfl h37 ?_
      refine sxo_move rfl rfl rfl ?_
      refine sxo_build (cells := [.int .i64 0, .int .i64 0]) rfl st44 rfl (by kernel_rfl) rfl ?_
      refine sxo_build (cells := [.int .i64 0, .int .i64 1]) rfl st44 rfl (by kernel_rfl) rfl ?_
      refine sxo_build (cells := [.int .i64 2, .int .i64 0]) rfl st44 rfl (by kernel_rfl) rfl ?_
      refine sxo_slit (vs := [.agg #[.int .i64 0, .int .i64 0], .agg #[.int .i64 0, .int .i64 1], .agg #[.int .i64 2, .int .i64 0]]) (ys := ([(0, 0), (0, 1), (2, 0)] : List (Int × Int))) eS44_ok (by decide) rfl Try.underlying45 tf44 rfl rfl rfl rfl rfl (by decide) (fun a111 c112 => ?_)
      refine sxo_call ent40 rfl rfl rfl (fun x113 e113 => C_R_SameArcs F x7.1 a8 c9 ([(0, 0), (0, 1), (2, 0)] : List (Int × Int)) a111 c112 x113 e113) (.consR 7 (Ro eS44 44 2 (.slice a8 x7.1.length c9) x7.1) rfl (.consR 0 (Ro eS44 44 2 (.slice a111 ([(0, 0), (0, 1), (2, 0)] : List (Int × Int)).length c112) ([(0, 0), (0, 1), (2, 0)] : List (Int × Int))) rfl .nil)) (fun x113 e113 => ?_)
      intro _
      refine sxo_pick (b := true) rfl rfl rfl rfl ?_
      refine sxo_nil ?_
      exact sxq_meetP (x113, ()) (lk_cons rfl (lk_cons rfl (lk_cons rfl (lk_cons rfl (lk_cons rfl (lk_cons rfl (lk_cons rfl (lk_cons rfl (lk_cons rfl (lk_cons rfl lk_nil)))))))))) (.cons 1 rfl (.cons 1 rfl .nil)) (.cons 3 rfl (.cons 3 rfl (.cons 3 rfl (.cons 3 rfl .nil)))) fk_nil
    · refine sxo_isF (k := 60) rfl h37 ?_
      refine sxo_skip rfl rfl rfl ?_
      refine sxo_skip rfl rfl rfl ?_
      refine sxo_skip rfl rfl rfl ?_
      refine sxo_skip rfl rfl rfl ?_
      refine sxo_skip rfl rfl rfl ?_
      refine sxo_skip rfl rfl rfl ?_
      refine sxo_pick (b := false) rfl rfl rfl rfl ?_
      refine sxo_nil ?_
      exact sxq_meetP (false, ()) (lk_cons rfl (lk_cons rfl (lk_cons rfl (lk_cons rfl (lk_cons rfl (lk_cons rfl (lk_cons rfl (lk_cons rfl (lk_cons rfl (lk_cons rfl lk_nil)))))))))) (.cons 1 rfl (.cons 1 rfl .nil)) (.cons 2 rfl (.cons 2 rfl (.cons 2 rfl (.cons 2 rfl .nil)))) fk_nil
  · rintro ⟨x41, _⟩
    try dsimp only
    refine sxo_take (os := _) rfl ?_
    refine sxo_move rfl rfl rfl ?_
    refine sxo_case 3 x41 [(5, .pointer (some ⟨g13, 0, none⟩)), (6, .int .i64 x10.2), (7, .pointer (some ⟨g17, 0, none⟩)), (8, .int .i64 x14.2), (9, .slice a19 x18.1.length c20), (10, .slice a21 x18.2.1.length c22), (11, .int .i64 x18.2.2), (13, .int .i64 x25.2), (71, .bool (x41 && ((x7.2 : Int) == 0)))] (fun h42 => ?_) (fun h42 => ?_) ?_
    · refine sxo_take (os := _) rfl ?_
      refine sxo_isT (k := 68) rfl h42 ?_
      refine sxo_move rfl rfl rfl ?_
      refine sxo_eql rfl rfl rfl rfl ?_
      refine sxo_pick (b := true) rfl rfl rfl rfl ?_
      refine sxo_again (d := 71) (v := .bool (x41 && ((x7.2 : Int) == 0))) rfl (by rw [h42]; simp only [Bool.true_and]) ?_
      refine sxo_nil ?_
      exact sxq_case (lk_cons rfl (lk_cons rfl (lk_cons rfl (lk_cons rfl (lk_cons rfl (lk_cons rfl (lk_cons rfl (lk_cons rfl (lk_cons rfl lk_nil)))))))))
    · refine sxo_take (os := _) rfl ?_
      refine sxo_isF (k := 68) rfl h42 ?_
      refine sxo_skip rfl rfl rfl ?_
      refine sxo_skip rfl rfl rfl ?_
      refine sxo_pick (b := false) rfl rfl rfl rfl ?_
      refine sxo_again (d := 71) (v := .bool (x41 && ((x7.2 : Int) == 0))) rfl (by rw [h42]; simp only [Bool.false_and]) ?_
      refine sxo_nil ?_
      exact sxq_case (lk_cons rfl (lk_cons rfl (lk_cons rfl (lk_cons rfl (lk_cons rfl (lk_cons rfl (lk_cons rfl (lk_cons rfl (lk_cons rfl lk_nil)))))))))
    refine sxo_take (os := _) rfl ?_
    refine sxo_move rfl rfl rfl ?_
    refine sxo_join 7 (fun ((x51, _) : (Bool × Unit)) => [(6, .int .i64 x10.2), (7, .pointer (some ⟨g17, 0, none⟩)), (8, .int .i64 x14.2), (9, .slice a19 x18.1.length c20), (10, .slice a21 x18.2.1.length c22), (11, .int .i64 x18.2.2), (13, .int .i64 x25.2), (79, .bool x51)]) (fun ((x51, _) : (Bool × Unit)) => [⟨g17, 24, [.slice a15 x14.1.length c16.1]⟩]) (fun ((x51, _) : (Bool × Unit)) => [Ro (eI .i64) 3 1 (.slice a19 x18.1.length c20) x18.1, Ro (eI .i64) 3 1 (.slice a21 x18.2.1.length c22) x18.2.1, RoN eN25 rN25 25 1 (.slice a15 x14.1.length c16.1) x14.1 c16.2 []]) (fun ((x51, _) : (Bool × Unit)) => []) (fun ((x51, _) : (Bool × Unit)) => M_L_graphBegun_j2 F x10 x14 x18 x25 x51) ?_ ?_
    · refine sxo_take (os := _) rfl ?_
      refine sxo_if (fun h43 => ?_) (fun h43 => ?_)
      · refine sxo_isT (k := 72) rfl h43 ?_
        refine sxo_fieldAddr rfl rfl ff24_0 rfl ?_
        refine sxo_loadB (i := 1) rfl rfl tf22 rfl rfl (fun _ => rfl) rfl rfl ?_
        refine sxo_slit (vs := [.int .i64 0, .int .i64 2]) (ys := ([0, 2] : List Int)) (eI_ok .i64) (by decide) rfl Try.underlying25 tf3 rfl rfl rfl rfl rfl (by decide) (fun a104 c105 => ?_)
        refine sxo_slit (vs := [.int .i64 0]) (ys := ([0] : List Int)) (eI_ok .i64) (by decide) rfl Try.underlying25 tf3 rfl rfl rfl rfl rfl (by decide) (fun a106 c107 => ?_)
        refine sxo_freeze 1 rfl ?_
        refine sxo_freeze 0 rfl ?_
        refine sxo_nilrow' Int (eI .i64) 3 1 ?_
        refine sxo_freeze 0 rfl ?_
        refine sxo_slit (vs := [.slice a104 ([0, 2] : List Int).length c105, .slice a106 ([0] : List Int).length c107, .slice none 0 0]) (ys := ([(([0, 2] : List Int), (a104, c105)), (([0] : List Int), (a106, c107)), (([] : List Int), (none, 0))] : List (List Int × (Option Addr × Nat)))) eN25_ok (by decide) rfl Try.underlying22 tf25 rfl rfl rfl rfl rfl (by decide) (fun a108 c109 => ?_)
        refine sxo_nestF (inn := iN25) ([([0, 2] : List Int), ([0] : List Int), ([] : List Int)] : List (List Int)) ([(a104, c105), (a106, c107), (none, 0)] : List (Option Addr × Nat)) 0 rfl rfl (fk_cons 2 rfl (fk_cons 1 rfl (fk_cons 0 rfl fk_nil))) ?_
        refine sxo_call ent39 rfl rfl rfl (fun x110 e110 => C_R_SameLists F x10.1 a11 c12 ([([0, 2] : List Int), ([0] : List Int), ([] : List Int)] : List (List Int)) a108 (c109, ([(a104, c105), (a106, c107), (none, 0)] : List (Option Addr × Nat))) x110 e110) (.consG 3 rfl (nest_sl rN25_in) (.consF 0 rfl .nil)) (fun x110 e110 => ?_)
        intro _
        refine sxo_pick (b := true) rfl rfl rfl rfl ?_
        refine sxo_nil ?_
        exact sxq_meetP (x110, ()) (lk_cons rfl (lk_cons rfl (lk_cons rfl (lk_cons rfl (lk_cons rfl (lk_cons rfl (lk_cons rfl (lk_cons rfl lk_nil)))))))) (.cons 0 rfl .nil) (.cons 0 rfl (.cons 0 rfl (.cons 0 rfl .nil))) fk_nil
      · refine sxo_isF (k := 72) rfl h43 ?_
        refine sxo_skip rfl rfl rfl ?_
        refine sxo_skip rfl rfl rfl ?_
        refine sxo_skip rfl rfl rfl ?_
        refine sxo_skip rfl rfl rfl ?_
        refine sxo_skip rfl rfl rfl ?_
        refine sxo_skip rfl rfl rfl ?_
        refine sxo_pick (b := false) rfl rfl rfl rfl ?_
        refine sxo_nil ?_
        exact sxq_meetP (false, ()) (lk_cons rfl (lk_cons rfl (lk_cons rfl (lk_cons rfl (lk_cons rfl (lk_cons rfl (lk_cons rfl (lk_cons rfl lk_nil)))))))) (.cons 0 rfl .nil) (.cons 0 rfl (.cons 0 rfl (.cons 0 rfl .nil))) fk_nil
    · rintro ⟨x51, _⟩
      try dsimp only
      refine sxo_take (os := _) rfl ?_
      refine sxo_move rfl rfl rfl ?_
      refine sxo_case 3 x51 [(7, .pointer (some ⟨g17, 0, none⟩)), (8, .int .i64 x14.2), (9, .slice a19 x18.1.length c20), (10, .slice a21 x18.2.1.length c22), (11, .int .i64 x18.2.2), (13, .int .i64 x25.2), (83, .bool (x51 && ((x10.2 : Int) == 0)))] (fun h52 => ?_) (fun h52 => ?_) ?_
      · refine sxo_take (os := _) rfl ?_
        refine sxo_isT (k := 80) rfl h52 ?_
        refine sxo_move rfl rfl rfl ?_
        refine sxo_eql rfl rfl rfl rfl ?_
        refine sxo_pick (b := true) rfl rfl rfl rfl ?_
        refine sxo_again (d := 83) (v := .bool (x51 && ((x10.2 : Int) == 0))) rfl (by rw [h52]; simp only [Bool.true_and]) ?_
        refine sxo_nil ?_
        exact sxq_case (lk_cons rfl (lk_cons rfl (lk_cons rfl (lk_cons rfl (lk_cons rfl (lk_cons rfl (lk_cons rfl lk_nil)))))))
      · refine sxo_take (os := _) rfl ?_
        refine sxo_isF (k := 80) rfl h52 ?_
        refine sxo_skip rfl rfl rfl ?_
        refine sxo_skip rfl rfl rfl ?_
        refine sxo_pick (b := false) rfl rfl rfl rfl ?_
        refine sxo_again (d := 83) (v := .bool (x51 && ((x10.2 : Int) == 0))) rfl (by rw [h52]; simp only [Bool.false_and]) ?_
        refine sxo_nil ?_
        exact sxq_case (lk_cons rfl (lk_cons rfl (lk_cons rfl (lk_cons rfl (lk_cons rfl (lk_cons rfl (lk_cons rfl lk_nil)))))))
      refine sxo_take (os := _) rfl ?_
      refine sxo_move rfl rfl rfl ?_
      refine sxo_join 8 (fun ((x63, _) : (Bool × Unit)) => [(8, .int .i64 x14.2), (9, .slice a19 x18.1.length c20), (10, .slice a21 x18.2.1.length c22), (11, .int .i64 x18.2.2), (13, .int .i64 x25.2), (92, .bool x63)]) (fun ((x63, _) : (Bool × Unit)) => []) (fun ((x63, _) : (Bool × Unit)) => [Ro (eI .i64) 3 1 (.slice a19 x18.1.length c20) x18.1, Ro (eI .i64) 3 1 (.slice a21 x18.2.1.length c22) x18.2.1]) (fun ((x63, _) : (Bool × Unit)) => []) (fun ((x63, _) : (Bool × Unit)) => M_L_graphBegun_j3 F x14 x18 x25 x63) ?_ ?_
      · refine sxo_take (os := _) rfl ?_
        refine sxo_if (fun h53 => ?_) (fun h53 => ?_)
        · refine sxo_isT (k := 84) rfl h53 ?_
          refine sxo_fieldAddr rfl rfl ff24_0 rfl ?_
          refine sxo_loadB (i := 0) rfl rfl tf22 rfl rfl (fun _ => rfl) rfl rfl ?_
          refine sxo_slit (vs := [.int .i64 0, .int .i64 1, .int .i64 2]) (ys := ([0, 1, 2] : List Int)) (eI_ok .i64) (by decide) rfl Try.underlying25 tf3 rfl rfl rfl rfl rfl (by decide) (fun a95 c96 => ?_)
          refine sxo_slit (vs := [.int .i64 0]) (ys := ([0] : List Int)) (eI_ok .i64) (by decide) rfl Try.underlying25 tf3 rfl rfl rfl rfl rfl (by decide) (fun a97 c98 => ?_)
          refine sxo_slit (vs := [.int .i64 0]) (ys := ([0] : List Int)) (eI_ok .i64) (by decide) rfl Try.underlying25 tf3 rfl rfl rfl rfl rfl (by decide) (fun a99 c100 => ?_)
          refine sxo_freeze 2 rfl ?_
          refine sxo_freeze 1 rfl ?_
          refine sxo_freeze 0 rfl ?_
          refine sxo_slit (vs := [.slice a95 ([0, 1, 2] : List Int).length c96, .slice a97 ([0] : List Int).length c98, .slice a99 ([0] : List Int).length c100]) (ys := ([(([0, 1, 2] : List Int), (a95, c96)), (([0] : List Int), (a97, c98)), (([0] : List Int), (a99, c100))] : List (List Int × (Option Addr × Nat)))) eN25_ok (by decide) rfl Try.underlying22 tf25 rfl rfl rfl rfl rfl (by decide) (fun a101 c102 => ?_)
          refine sxo_nestF (inn := iN25) ([([0, 1, 2] : List Int), ([0] : List Int), ([0] : List Int)] : List (List Int)) ([(a95, c96), (a97, c98), (a99, c100)] : List (Option Addr × Nat)) 0 rfl rfl (fk_cons 2 rfl (fk_cons 1 rfl (fk_cons 0 rfl fk_nil))) ?_
          refine sxo_call ent39 rfl rfl rfl (fun x103 e103 => C_R_SameLists F x14.1 a15 c16 ([([0, 1, 2] : List Int), ([0] : List Int), ([0] : List Int)] : List (List Int)) a101 (c102, ([(a95, c96), (a97, c98), (a99, c100)] : List (Option Addr × Nat))) x103 e103) (.consG 2 rfl (nest_sl rN25_in) (.consF 0 rfl .nil)) (fun x103 e103 => ?_)
          intro _
          refine sxo_pick (b := true) rfl rfl rfl rfl ?_
          refine sxo_nil ?_
          exact sxq_meetP (x103, ()) (lk_cons rfl (lk_cons rfl (lk_cons rfl (lk_cons rfl (lk_cons rfl (lk_cons rfl lk_nil)))))) .nil (.cons 0 rfl (.cons 0 rfl .nil)) fk_nil
        · refine sxo_isF (k := 84) rfl h53 ?_
          refine sxo_skip rfl rfl rfl ?_
          refine sxo_skip rfl rfl rfl ?_
          refine sxo_skip rfl rfl rfl ?_
          refine sxo_skip rfl rfl rfl ?_
          refine sxo_skip rfl rfl rfl ?_
          refine sxo_skip rfl rfl rfl ?_
          refine sxo_skip rfl rfl rfl ?_
          refine sxo_pick (b := false) rfl rfl rfl rfl ?_
          refine sxo_nil ?_
          exact sxq_meetP (false, ()) (lk_cons rfl (lk_cons rfl (lk_cons rfl (lk_cons rfl (lk_cons rfl (lk_cons rfl lk_nil)))))) .nil (.cons 0 rfl (.cons 0 rfl .nil)) fk_nil
      · rintro ⟨x63, _⟩
        try dsimp only
        refine sxo_take (os := _) rfl ?_
        refine sxo_move rfl rfl rfl ?_
        refine sxo_case 3 x63 [(9, .slice a19 x18.1.length c20), (10, .slice a21 x18.2.1.length c22), (11, .int .i64 x18.2.2), (13, .int .i64 x25.2), (96, .bool (x63 && ((x14.2 : Int) == 0)))] (fun h64 => ?_) (fun h64 => ?_) ?_
        · refine sxo_take (os := _) rfl ?_
          refine sxo_isT (k := 93) rfl h64 ?_
          refine sxo_move rfl rfl rfl ?_
          refine sxo_eql rfl rfl rfl rfl ?_
          refine sxo_pick (b := true) rfl rfl rfl rfl ?_
          refine sxo_again (d := 96) (v := .bool (x63 && ((x14.2 : Int) == 0))) rfl (by rw [h64]; simp only [Bool.true_and]) ?_
          refine sxo_nil ?_
          exact sxq_case (lk_cons rfl (lk_cons rfl (lk_cons rfl (lk_cons rfl (lk_cons rfl lk_nil)))))
        · refine sxo_take (os := _) rfl ?_
          refine sxo_isF (k := 93) rfl h64 ?_
          refine sxo_skip rfl rfl rfl ?_
          refine sxo_skip rfl rfl rfl ?_
          refine sxo_pick (b := false) rfl rfl rfl rfl ?_
          refine sxo_again (d := 96) (v := .bool (x63 && ((x14.2 : Int) == 0))) rfl (by rw [h64]; simp only [Bool.false_and]) ?_
          refine sxo_nil ?_
          exact sxq_case (lk_cons rfl (lk_cons rfl (lk_cons rfl (lk_cons rfl (lk_cons rfl lk_nil)))))
        refine sxo_take (os := _) rfl ?_
        refine sxo_move rfl rfl rfl ?_
        refine sxo_join 4 (fun ((x69, _) : (Bool × Unit)) => [(10, .slice a21 x18.2.1.length c22), (11, .int .i64 x18.2.2), (13, .int .i64 x25.2), (101, .bool x69)]) (fun ((x69, _) : (Bool × Unit)) => []) (fun ((x69, _) : (Bool × Unit)) => [Ro (eI .i64) 3 1 (.slice a21 x18.2.1.length c22) x18.2.1]) (fun ((x69, _) : (Bool × Unit)) => []) (fun ((x69, _) : (Bool × Unit)) => M_L_graphBegun_j4 F x18 x25 x69) ?_ ?_
        · refine sxo_take (os := _) rfl ?_
          refine sxo_if (fun h65 => ?_) (fun h65 => ?_)
          · refine sxo_isT (k := 97) rfl h65 ?_
            refine sxo_move rfl rfl rfl ?_
            refine sxo_slit (vs := [.int .i64 2, .int .i64 0, .int .i64 1]) (ys := ([2, 0, 1] : List Int)) (eI_ok .i64) (by decide) rfl Try.underlying25 tf3 rfl rfl rfl rfl rfl (by decide) (fun a92 c93 => ?_)
            refine sxo_call ent18 rfl rfl rfl (fun x94 e94 => C_R_SameInts F x18.1 a19 c20 ([2, 0, 1] : List Int) a92 c93 x94 e94) (.consR 1 (Ro (eI .i64) 3 1 (.slice a19 x18.1.length c20) x18.1) rfl (.consR 0 (Ro (eI .i64) 3 1 (.slice a92 ([2, 0, 1] : List Int).length c93) ([2, 0, 1] : List Int)) rfl .nil)) (fun x94 e94 => ?_)
            intro _
            refine sxo_pick (b := true) rfl rfl rfl rfl ?_
            refine sxo_nil ?_
            exact sxq_meetP (x94, ()) (lk_cons rfl (lk_cons rfl (lk_cons rfl (lk_cons rfl lk_nil)))) .nil (.cons 2 rfl .nil) fk_nil
          · refine sxo_isF (k := 97) rfl h65 ?_
            refine sxo_skip rfl rfl rfl ?_
            refine sxo_skip rfl rfl rfl ?_
            refine sxo_skip rfl rfl rfl ?_
            refine sxo_pick (b := false) rfl rfl rfl rfl ?_
            refine sxo_nil ?_
            exact sxq_meetP (false, ()) (lk_cons rfl (lk_cons rfl (lk_cons rfl (lk_cons rfl lk_nil)))) .nil (.cons 1 rfl .nil) fk_nil
        · rintro ⟨x69, _⟩
          try dsimp only
          refine sxo_take (os := _) rfl ?_
          refine sxo_move rfl rfl rfl ?_
          refine sxo_join 4 (fun ((x74, _) : (Bool × Unit)) => [(11, .int .i64 x18.2.2), (13, .int .i64 x25.2), (106, .bool x74)]) (fun ((x74, _) : (Bool × Unit)) => []) (fun ((x74, _) : (Bool × Unit)) => []) (fun ((x74, _) : (Bool × Unit)) => []) (fun ((x74, _) : (Bool × Unit)) => M_L_graphBegun_j5 F x18 x25 x74) ?_ ?_
          · refine sxo_take (os := _) rfl ?_
            refine sxo_if (fun h70 => ?_) (fun h70 => ?_)
            · refine sxo_isT (k := 102) rfl h70 ?_
              refine sxo_move rfl rfl rfl ?_
              refine sxo_slit (vs := [.int .i64 2, .int .i64 1, .int .i64 0]) (ys := ([2, 1, 0] : List Int)) (eI_ok .i64) (by decide) rfl Try.underlying25 tf3 rfl rfl rfl rfl rfl (by decide) (fun a89 c90 => ?_)
              refine sxo_call ent18 rfl rfl rfl (fun x91 e91 => C_R_SameInts F x18.2.1 a21 c22 ([2, 1, 0] : List Int) a89 c90 x91 e91) (.consR 1 (Ro (eI .i64) 3 1 (.slice a21 x18.2.1.length c22) x18.2.1) rfl (.consR 0 (Ro (eI .i64) 3 1 (.slice a89 ([2, 1, 0] : List Int).length c90) ([2, 1, 0] : List Int)) rfl .nil)) (fun x91 e91 => ?_)
              intro _
              refine sxo_pick (b := true) rfl rfl rfl rfl ?_
              refine sxo_nil ?_
              exact sxq_meetP (x91, ()) (lk_cons rfl (lk_cons rfl (lk_cons rfl lk_nil))) .nil .nil fk_nil
            · refine sxo_isF (k := 102) rfl h70 ?_
              refine sxo_skip rfl rfl rfl ?_
              refine sxo_skip rfl rfl rfl ?_
              refine sxo_skip rfl rfl rfl ?_
              refine sxo_pick (b := false) rfl rfl rfl rfl ?_
              refine sxo_nil ?_
              exact sxq_meetP (false, ()) (lk_cons rfl (lk_cons rfl (lk_cons rfl lk_nil))) .nil .nil fk_nil
          · rintro ⟨x74, _⟩
            try dsimp only
            refine sxo_take (os := _) rfl ?_
            refine sxo_move rfl rfl rfl ?_
            refine sxo_case 3 x74 [(13, .int .i64 x25.2), (110, .bool (x74 && ((x18.2.2 : Int) == 0)))] (fun h75 => ?_) (fun h75 => ?_) ?_
            · refine sxo_take (os := _) rfl ?_
              refine sxo_isT (k := 107) rfl h75 ?_
              refine sxo_move rfl rfl rfl ?_
              refine sxo_eql rfl rfl rfl rfl ?_
              refine sxo_pick (b := true) rfl rfl rfl rfl ?_
              refine sxo_again (d := 110) (v := .bool (x74 && ((x18.2.2 : Int) == 0))) rfl (by rw [h75]; simp only [Bool.true_and]) ?_
              refine sxo_nil ?_
              exact sxq_case (lk_cons rfl (lk_cons rfl lk_nil))
            · refine sxo_take (os := _) rfl ?_
              refine sxo_isF (k := 107) rfl h75 ?_
              refine sxo_skip rfl rfl rfl ?_
              refine sxo_skip rfl rfl rfl ?_
              refine sxo_pick (b := false) rfl rfl rfl rfl ?_
              refine sxo_again (d := 110) (v := .bool (x74 && ((x18.2.2 : Int) == 0))) rfl (by rw [h75]; simp only [Bool.false_and]) ?_
              refine sxo_nil ?_
              exact sxq_case (lk_cons rfl (lk_cons rfl lk_nil))
            refine sxo_take (os := _) rfl ?_
            refine sxo_move rfl rfl rfl ?_
            refine sxo_case 3 (x74 && ((x18.2.2 : Int) == 0)) [(114, .bool ((x74 && ((x18.2.2 : Int) == 0)) && ((x25.2 : Int) == 6)))] (fun h76 => ?_) (fun h76 => ?_) ?_
            · refine sxo_take (os := _) rfl ?_
              refine sxo_isT (k := 111) rfl h76 ?_
              refine sxo_move rfl rfl rfl ?_
              refine sxo_eql rfl rfl rfl rfl ?_
              refine sxo_pick (b := true) rfl rfl rfl rfl ?_
              refine sxo_again (d := 114) (v := .bool ((x74 && ((x18.2.2 : Int) == 0)) && ((x25.2 : Int) == 6))) rfl (by rw [h76]; simp only [Bool.true_and]) ?_
              refine sxo_nil ?_
              exact sxq_case (lk_cons rfl lk_nil)
            · refine sxo_take (os := _) rfl ?_
              refine sxo_isF (k := 111) rfl h76 ?_
              refine sxo_skip rfl rfl rfl ?_
              refine sxo_skip rfl rfl rfl ?_
              refine sxo_pick (b := false) rfl rfl rfl rfl ?_
              refine sxo_again (d := 114) (v := .bool ((x74 && ((x18.2.2 : Int) == 0)) && ((x25.2 : Int) == 6))) rfl (by rw [h76]; simp only [Bool.false_and]) ?_
              refine sxo_nil ?_
              exact sxq_case (lk_cons rfl lk_nil)
            refine sxo_take (os := _) rfl ?_
            refine sxo_move rfl rfl rfl ?_
            refine sxo_join 6 (fun ((x83, _) : (Bool × Unit)) => [(121, .bool x83)]) (fun ((x83, _) : (Bool × Unit)) => []) (fun ((x83, _) : (Bool × Unit)) => []) (fun ((x83, _) : (Bool × Unit)) => []) (fun ((x83, _) : (Bool × Unit)) => M_L_graphBegun_j6 F x83) ?_ ?_
            · refine sxo_take (os := _) rfl ?_
              refine sxo_if (fun h77 => ?_) (fun h77 => ?_)
              · refine sxo_isT (k := 115) rfl h77 ?_
                refine sxo_slit (vs := [.int .i64 1]) (ys := ([1] : List Int)) (eI_ok .i64) (by decide) rfl Try.underlying25 tf3 rfl rfl rfl rfl rfl (by decide) (fun a84 c85 => ?_)
                refine sxo_freeze 0 rfl ?_
                refine sxo_slit (vs := [.slice a84 ([1] : List Int).length c85]) (ys := ([(([1] : List Int), (a84, c85))] : List (List Int × (Option Addr × Nat)))) eN25_ok (by decide) rfl Try.underlying22 tf25 rfl rfl rfl rfl rfl (by decide) (fun a86 c87 => ?_)
                refine sxo_nestF (inn := iN25) ([([1] : List Int)] : List (List Int)) ([(a84, c85)] : List (Option Addr × Nat)) 0 rfl rfl (fk_cons 0 rfl fk_nil) ?_
                refine sxo_build (cells := [.slice a86 ([([1] : List Int)] : List (List Int)).length c87]) rfl st24 rfl (by kernel_rfl) rfl ?_
                refine sxo_call ent25 rfl rfl rfl (fun x88 e88 => C_graph_Check F ([([1] : List Int)] : List (List Int)) a86 (c87, ([(a84, c85)] : List (Option Addr × Nat))) x88 e88) (.consF 0 rfl .nil) (fun x88 e88 => ?_)
                intro _
                refine sxo_eql rfl rfl rfl rfl ?_
                refine sxo_pick (b := true) rfl rfl rfl rfl ?_
                refine sxo_nil ?_
                exact sxq_meetP (((x88 : Int) == 3), ()) (lk_cons rfl lk_nil) .nil .nil fk_nil
              · refine sxo_isF (k := 115) rfl h77 ?_
                refine sxo_skip rfl rfl rfl ?_
                refine sxo_skip rfl rfl rfl ?_
                refine sxo_skip rfl rfl rfl ?_
                refine sxo_skip rfl rfl rfl ?_
                refine sxo_skip rfl rfl rfl ?_
                refine sxo_pick (b := false) rfl rfl rfl rfl ?_
                refine sxo_nil ?_
                exact sxq_meetP (false, ()) (lk_cons rfl lk_nil) .nil .nil fk_nil
            · rintro ⟨x83, _⟩
              try dsimp only
              refine sxo_take (os := _) rfl ?_
              refine sxo_assign rfl rfl rfl ?_
              refine sxo_nil ?_
              refine sxq_next ?_
              refine sxc_ret ?_
              exact sxq_doneP () (.inl rfl) (res1 rfl rfl) (fun h => by subst h; rfl) (fun h => by subst h; exact .nil)

set_option maxHeartbeats 4000000 in
theorem C_L_CoreMore (F : Nat) (x1 : List (List Int)) (a2 : Option Addr) (c3 : (Nat × List (Option Addr × Nat))) (x4 : Int) (x5 : Int) (r : Bool) (hm : M_L_CoreMore F x1 x4 x5 = some r) :
    Pure Try.prog 8 [.agg #[.slice a2 x1.length c3.1], .agg #[.int .i64 x4, .int .i64 x5]] [SlN eN25 iN25 1 (.slice a2 x1.length c3.1) x1 c3.2] Unit (fun _ => .bool r) (fun _ => []) (fun _ => []) := by
  refine pure_of Try.func8 rfl Try.ntmps8 rfl hm (fun w => ?_)
  refine sxc_env (l' := [(0, .agg #[.slice a2 x1.length c3.1]), (1, .agg #[.int .i64 x4, .int .i64 x5])]) rfl ?_
  refine sxc_seq ?_
  refine sxc_region ?_
  refine sxo_box rfl rfl rfl (fun g6 => ?_)
  refine sxo_box rfl rfl rfl (fun g7 => ?_)
  refine sxo_assign rfl rfl rfl ?_
  refine sxo_nil ?_
  refine sxq_next ?_
  refine sxc_seq ?_
  refine sxc_region ?_
  refine sxo_loadB (i := 1) rfl rfl tf24 rfl rfl (by simp) rfl rfl ?_
  refine sxo_call ent10 rfl rfl rfl (fun x8 e8 => C_core_Numbers F x1 a2 c3 x8 e8) (.consF 0 rfl .nil) (fun x8 e8 => ?_)
  rintro ⟨a9, c10⟩
  refine sxo_move rfl rfl rfl ?_
  refine sxo_extract rfl rfl rfl rfl ?_
  refine sxo_extract rfl rfl rfl rfl ?_
  refine sxo_assign rfl rfl rfl ?_
  refine sxo_assign rfl rfl rfl ?_
  refine sxo_nil ?_
  refine sxq_next ?_
  refine sxc_seq ?_
  refine sxc_region ?_
  refine sxo_loadB (i := 1) rfl rfl tf24 rfl rfl (by simp) rfl rfl ?_
  refine sxo_callM ent11 rfl rfl rfl (fun x11 e11 => C_core_Threes F x1 a2 c3 x11 e11) .nil .nil (.consF 0 rfl .nil) (fun x11 e11 => ?_)
  rintro ⟨a12, c13⟩
  refine sxo_move rfl rfl rfl ?_
  refine sxo_extract rfl rfl rfl rfl ?_
  refine sxo_extract rfl rfl rfl rfl ?_
  refine sxo_extract rfl rfl rfl rfl ?_
  refine sxo_assign rfl rfl rfl ?_
  refine sxo_assign rfl rfl rfl ?_
  refine sxo_assign rfl rfl rfl ?_
  refine sxo_nil ?_
  refine sxq_next ?_
  refine sxc_seq ?_
  refine sxc_region ?_
  refine sxo_loadB (i := 1) rfl rfl tf24 rfl rfl (by simp) rfl rfl ?_
  refine sxo_call ent21 rfl rfl rfl (fun x14 e14 => C_graph_Arcs F x1 a2 c3 x14 e14) (.consF 0 rfl .nil) (fun x14 e14 => ?_)
  rintro ⟨a15, c16⟩
  refine sxo_move rfl rfl rfl ?_
  refine sxo_extract rfl rfl rfl rfl ?_
  refine sxo_extract rfl rfl rfl rfl ?_
  refine sxo_assign rfl rfl rfl ?_
  refine sxo_assign rfl rfl rfl ?_
  refine sxo_nil ?_
  refine sxq_next ?_
  refine sxc_seq ?_
  refine sxc_seq ?_
  refine sxc_region ?_
  refine sxo_call ent17 rfl rfl rfl (fun x23 e23 => C_L_coreBegun F  x23 e23) .nil (fun x23 e23 => ?_)
  intro _
  refine sxo_not rfl rfl rfl ?_
  refine sxo_move rfl rfl rfl ?_
  refine sxo_join 3 (fun ((x26, _) : (Bool × Unit)) => [(2, .pointer (some ⟨g6, 0, none⟩)), (3, .pointer (some ⟨g7, 0, none⟩)), (5, .slice a9 x8.1.length c10), (6, .int .i64 x8.2), (8, .int .i64 x11.2.1), (9, .int .i64 x11.2.2), (10, .slice a15 x14.1.length c16), (11, .int .i64 x14.2), (41, .bool x26)]) (fun ((x26, _) : (Bool × Unit)) => [⟨g7, 44, [.int .i64 x4, .int .i64 x5]⟩, ⟨g6, 24, [.slice a2 x1.length c3.1]⟩]) (fun ((x26, _) : (Bool × Unit)) => [Ro (eI .i64) 3 1 (.slice a9 x8.1.length c10) x8.1, Ro eS44 44 2 (.slice a15 x14.1.length c16) x14.1]) (fun ((x26, _) : (Bool × Unit)) => [SlN eN25 iN25 1 (.slice a2 x1.length c3.1) x1 c3.2]) (fun ((x26, _) : (Bool × Unit)) => M_L_CoreMore_j2 F x1 x4 x5 x8 x11 x14 x26) ?_ ?_
  · refine sxo_take (os := _) rfl ?_
    refine sxo_if (fun h24 => ?_) (fun h24 => ?_)
    · refine sxo_isT (k := 38) rfl h24 ?_
      refine sxo_skip rfl rfl rfl ?_
      refine sxo_skip rfl rfl rfl ?_
      refine sxo_pick (b := true) rfl rfl rfl rfl ?_
      refine sxo_nil ?_
      exact sxq_meetP (true, ()) (lk_cons rfl (lk_cons rfl (lk_cons rfl (lk_cons rfl (lk_cons rfl (lk_cons rfl (lk_cons rfl (lk_cons rfl (lk_cons rfl lk_nil))))))))) (.cons 0 rfl (.cons 0 rfl .nil)) (.cons 2 rfl (.cons 0 rfl .nil)) (fk_cons 0 rfl fk_nil)
    · refine sxo_isF (k := 38) rfl h24 ?_
      refine sxo_call ent22 rfl rfl rfl (fun x853 e853 => C_L_graphBegun F  x853 e853) .nil (fun x853 e853 => ?_)
      intro _
      refine sxo_not rfl rfl rfl ?_
      refine sxo_pick (b := false) rfl rfl rfl rfl ?_
      refine sxo_nil ?_
      exact sxq_meetP ((!x853), ()) (lk_cons rfl (lk_cons rfl (lk_cons rfl (lk_cons rfl (lk_cons rfl (lk_cons rfl (lk_cons rfl (lk_cons rfl (lk_cons rfl lk_nil))))))))) (.cons 0 rfl (.cons 0 rfl .nil)) (.cons 2 rfl (.cons 0 rfl .nil)) (fk_cons 0 rfl fk_nil)
  · rintro ⟨x26, _⟩
    try dsimp only
    refine sxo_take (os := _) rfl ?_
    refine sxo_nil ?_
    refine sxq_next ?_
    refine sxc_if rfl (fun h852 => ?_) (fun h852 => ?_)
    · refine sxc_seq ?_
      refine sxc_region ?_
      refine sxo_assign rfl rfl rfl ?_
      refine sxo_nil ?_
      refine sxq_next ?_
      refine sxc_ret ?_
      refine sxq_thenR ?_
      exact sxq_doneP () (.inl rfl) (res1 rfl rfl) (fun h => by subst h; rfl) (fun h => by subst h; exact .nil)
    · refine sxc_skip ?_
      refine sxq_next ?_
      refine sxc_seq ?_
      refine sxc_seq ?_
      refine sxc_region ?_
      refine sxo_move rfl rfl rfl ?_
      refine sxo_neq rfl rfl rfl rfl ?_
      refine sxo_move rfl rfl rfl ?_
      refine sxo_case 3 ((x8.2 : Int) != 0) [(2, .pointer (some ⟨g6, 0, none⟩)), (3, .pointer (some ⟨g7, 0, none⟩)), (5, .slice a9 x8.1.length c10), (6, .int .i64 x8.2), (8, .int .i64 x11.2.1), (9, .int .i64 x11.2.2), (10, .slice a15 x14.1.length c16), (11, .int .i64 x14.2), (47, .bool (((x8.2 : Int) != 0) || ((x11.2.2 : Int) != 0)))] (fun h30 => ?_) (fun h30 => ?_) ?_
      · refine sxo_take (os := _) rfl ?_
        refine sxo_isT (k := 44) rfl h30 ?_
        refine sxo_skip rfl rfl rfl ?_
        refine sxo_skip rfl rfl rfl ?_
        refine sxo_pick (b := true) rfl rfl rfl rfl ?_
        refine sxo_again (d := 47) (v := .bool (((x8.2 : Int) != 0) || ((x11.2.2 : Int) != 0))) rfl (by rw [h30]; simp only [Bool.true_or]) ?_
        refine sxo_nil ?_
        exact sxq_case (lk_cons rfl (lk_cons rfl (lk_cons rfl (lk_cons rfl (lk_cons rfl (lk_cons rfl (lk_cons rfl (lk_cons rfl (lk_cons rfl lk_nil)))))))))
      · refine sxo_take (os := _) rfl ?_
        refine sxo_isF (k := 44) rfl h30 ?_
        refine sxo_move rfl rfl rfl ?_
        refine sxo_neq rfl rfl rfl rfl ?_
        refine sxo_pick (b := false) rfl rfl rfl rfl ?_
        refine sxo_again (d := 47) (v := .bool (((x8.2 : Int) != 0) || ((x11.2.2 : Int) != 0))) rfl (by rw [h30]; simp only [Bool.false_or]) ?_
        refine sxo_nil ?_
        exact sxq_case (lk_cons rfl (lk_cons rfl (lk_cons rfl (lk_cons rfl (lk_cons rfl (lk_cons rfl (lk_cons rfl (lk_cons rfl (lk_cons rfl lk_nil)))))))))
      refine sxo_take (os := _) rfl ?_
      refine sxo_move rfl rfl rfl ?_
      refine sxo_case 3 (((x8.2 : Int) != 0) || ((x11.2.2 : Int) != 0)) [(2, .pointer (some ⟨g6, 0, none⟩)), (3, .pointer (some ⟨g7, 0, none⟩)), (5, .slice a9 x8.1.length c10), (6, .int .i64 x8.2), (8, .int .i64 x11.2.1), (9, .int .i64 x11.2.2), (10, .slice a15 x14.1.length c16), (51, .bool ((((x8.2 : Int) != 0) || ((x11.2.2 : Int) != 0)) || ((x14.2 : Int) != 0)))] (fun h31 => ?_) (fun h31 => ?_) ?_
      · refine sxo_take (os := _) rfl ?_
        refine sxo_isT (k := 48) rfl h31 ?_
        refine sxo_skip rfl rfl rfl ?_
        refine sxo_skip rfl rfl rfl ?_
        refine sxo_pick (b := true) rfl rfl rfl rfl ?_
        refine sxo_again (d := 51) (v := .bool ((((x8.2 : Int) != 0) || ((x11.2.2 : Int) != 0)) || ((x14.2 : Int) != 0))) rfl (by rw [h31]; simp only [Bool.true_or]) ?_
        refine sxo_nil ?_
        exact sxq_case (lk_cons rfl (lk_cons rfl (lk_cons rfl (lk_cons rfl (lk_cons rfl (lk_cons rfl (lk_cons rfl (lk_cons rfl lk_nil))))))))
      · refine sxo_take (os := _) rfl ?_
        refine sxo_isF (k := 48) rfl h31 ?_
        refine sxo_move rfl rfl rfl ?_
        refine sxo_neq rfl rfl rfl rfl ?_
        refine sxo_pick (b := false) rfl rfl rfl rfl ?_
        refine sxo_again (d := 51) (v := .bool ((((x8.2 : Int) != 0) || ((x11.2.2 : Int) != 0)) || ((x14.2 : Int) != 0))) rfl (by rw [h31]; simp only [Bool.false_or]) ?_
        refine sxo_nil ?_
        exact sxq_case (lk_cons rfl (lk_cons rfl (lk_cons rfl (lk_cons rfl (lk_cons rfl (lk_cons rfl (lk_cons rfl (lk_cons rfl lk_nil))))))))
      refine sxo_take (os := _) rfl ?_
      refine sxo_nil ?_
      refine sxq_next ?_
      refine sxc_if rfl (fun h851 => ?_) (fun h851 => ?_)
      · refine sxc_seq ?_
        refine sxc_region ?_
        refine sxo_move rfl rfl rfl ?_
        refine sxo_move rfl rfl rfl ?_
        refine sxo_eql rfl rfl rfl rfl ?_
        refine sxo_assign rfl rfl rfl ?_
        refine sxo_nil ?_
        refine sxq_next ?_
        refine sxc_ret ?_
        refine sxq_thenR ?_
        exact sxq_doneP () (.inl rfl) (res1 rfl rfl) (fun h => by subst h; rfl) (fun h => by subst h; exact .nil)
      · refine sxc_skip ?_
        refine sxq_next ?_
        refine sxc_join (fun (((x208, x211), (g207, a209, c210)) : ((Int × List (List Int)) × (Nat × Option Addr × (Nat × List (Option Addr × Nat))))) => [(5, .slice a9 x8.1.length c10), (8, .int .i64 x11.2.1), (12, .pointer (some ⟨g207, 0, none⟩)), (13, .int .i64 x208)]) (fun (((x208, x211), (g207, a209, c210)) : ((Int × List (List Int)) × (Nat × Option Addr × (Nat × List (Option Addr × Nat))))) => [⟨g207, 24, [.slice a209 x211.length c210.1]⟩]) (fun (((x208, x211), (g207, a209, c210)) : ((Int × List (List Int)) × (Nat × Option Addr × (Nat × List (Option Addr × Nat))))) => [Ro (eI .i64) 3 1 (.slice a9 x8.1.length c10) x8.1, RoN eN25 rN25 25 1 (.slice a209 x211.length c210.1) x211 c210.2 []]) (fun (((x208, x211), (g207, a209, c210)) : ((Int × List (List Int)) × (Nat × Option Addr × (Nat × List (Option Addr × Nat))))) => []) (fun (((x208, x211), _) : ((Int × List (List Int)) × (Nat × Option Addr × (Nat × List (Option Addr × Nat))))) => M_L_CoreMore_j3 F x8 x11 x208 x211) ?_ ?_
        · refine sxb_draw mixed [] [⟨g7, 44, [.int .i64 x4, .int .i64 x5]⟩, ⟨g6, 24, [.slice a2 x1.length c3.1]⟩] [SlN eN25 iN25 1 (.slice a2 x1.length c3.1) x1 c3.2] (.cons 0 rfl (.cons 0 rfl .nil)) (gk_F 0 rfl gk_nil) 16 rfl ?_
          refine sxb_takeP 0 (.pointer (some ⟨g6, 0, none⟩)) rfl rfl rfl rfl (by kernel_rfl) (by kernel_rfl) (by kernel_rfl) (by kernel_rfl) (by kernel_rfl) rfl (show _ = #[true, false, false, false, false, false, false, false, false, false, false, false, false, false, false, false] from rfl) (yv_fieldAddr rfl ff24_0) ?_
          refine sxb_takeB 1 (.slice a2 x1.length c3.1) rfl rfl rfl rfl (by kernel_rfl) (by kernel_rfl) (by kernel_rfl) (by kernel_rfl) (by kernel_rfl) rfl (show _ = #[true, true, false, false, false, false, false, false, false, false, false, false, false, false, false, false] from rfl) (yv_loadB (i := 1) rfl tf22 rfl rfl (fun _ => rfl) rfl) ?_
          refine sxb_takeP 2 (.int .i64 (x1.length : Int)) rfl rfl rfl rfl (by kernel_rfl) (by kernel_rfl) (by kernel_rfl) (by kernel_rfl) (by kernel_rfl) rfl (show _ = #[true, true, true, false, false, false, false, false, false, false, false, false, false, false, false, false] from rfl) (yv_len Try.underlying22 rfl) ?_
          refine sxb_takeP 4 (.slice a15 x14.1.length c16) rfl rfl rfl rfl (by kernel_rfl) (by kernel_rfl) (by kernel_rfl) (by kernel_rfl) (by kernel_rfl) rfl (show _ = #[true, true, true, false, true, false, false, false, false, false, false, false, false, false, false, false] from rfl) (yv_pv rfl) ?_
          refine sxb_takeB 6 (.agg #[.int .i64 x4, .int .i64 x5]) rfl rfl rfl rfl (by kernel_rfl) (by kernel_rfl) (by kernel_rfl) (by kernel_rfl) (by kernel_rfl) rfl (show _ = #[true, true, true, false, true, false, true, false, false, false, false, false, false, false, false, false] from rfl) (yv_loadB (i := 0) rfl tf44 rfl rfl (by simp) rfl) ?_
          refine sxb_three 3 7 13 rfl rfl rfl (by kernel_rfl) (show _ = #[true, true, true, true, true, false, true, false, false, false, false, false, false, false, false, false] from rfl) (show _ = #[true, true, true, false, true, false, true, true, false, false, false, false, false, false, false, false] from rfl) (show _ = #[true, true, true, false, true, false, true, false, false, false, false, false, false, true, false, false] from rfl) ?_ ?_ ?_
          · refine sxo_slit (vs := []) (ys := ([] : List (Int × Int))) eS44_ok (by decide) rfl Try.underlying45 tf44 rfl rfl rfl rfl rfl (by decide) (fun a676 c677 => ?_)
            refine sxo_nil ?_
            refine sxq_anyB (.cons 0 rfl (.cons 0 rfl .nil)) (gk_F 0 rfl gk_nil) ?_
            refine sxb_three 5 7 13 rfl rfl rfl (by kernel_rfl) (show _ = #[true, true, true, true, true, true, true, false, false, false, false, false, false, false, false, false] from rfl) (show _ = #[true, true, true, true, true, false, true, true, false, false, false, false, false, false, false, false] from rfl) (show _ = #[true, true, true, true, true, false, true, false, false, false, false, false, false, true, false, false] from rfl) ?_ ?_ ?_
            · refine sxo_app 0 eS44_ok rfl Try.underlying45 tf44 rfl rfl rfl rfl rfl (.inl ⟨2, _, rfl⟩) rfl rfl (fun x678 e678 a679 c680 => ?_)
              refine sxo_nil ?_
              refine sxq_anyB (.cons 0 rfl (.cons 0 rfl .nil)) (gk_F 0 rfl gk_nil) ?_
              refine sxb_two 7 13 rfl rfl (by kernel_rfl) (show _ = #[true, true, true, true, true, true, true, true, false, false, false, false, false, false, false, false] from rfl) (show _ = #[true, true, true, true, true, true, true, false, false, false, false, false, false, true, false, false] from rfl) ?_ ?_
              · refine sxo_slit (vs := [.agg #[.int .i64 x4, .int .i64 x5]]) (ys := ([(x4, x5)] : List (Int × Int))) eS44_ok (by decide) rfl Try.underlying45 tf44 rfl rfl rfl rfl rfl (by decide) (fun a681 c682 => ?_)
                refine sxo_nil ?_
                refine sxq_anyB (.cons 0 rfl (.cons 0 rfl .nil)) (gk_F 0 rfl gk_nil) ?_
                refine sxb_two 8 13 rfl rfl (by kernel_rfl) (show _ = #[true, true, true, true, true, true, true, true, true, false, false, false, false, false, false, false] from rfl) (show _ = #[true, true, true, true, true, true, true, true, false, false, false, false, false, true, false, false] from rfl) ?_ ?_
                · refine sxo_app 1 eS44_ok rfl Try.underlying45 tf44 rfl rfl rfl rfl rfl (.inl ⟨0, _, rfl⟩) rfl rfl (fun x683 e683 a684 c685 => ?_)
                  refine sxo_nil ?_
                  refine sxq_anyB (.cons 0 rfl (.cons 0 rfl .nil)) (gk_F 0 rfl gk_nil) ?_
                  refine sxb_two 9 13 rfl rfl (by kernel_rfl) (show _ = #[true, true, true, true, true, true, true, true, true, true, false, false, false, false, false, false] from rfl) (show _ = #[true, true, true, true, true, true, true, true, true, false, false, false, false, true, false, false] from rfl) ?_ ?_
                  · refine sxo_call ent23 rfl rfl rfl (fun x686 e686 => C_graph_Of F (x1.length : Int) x683 a684 c685 x686 e686) (.consR 0 (Ro eS44 44 2 (.slice a684 x683.length c685) x683) rfl .nil) (fun x686 e686 => ?_)
                    rintro ⟨a687, c688⟩
                    refine sxo_nil ?_
                    refine sxq_anyB (.cons 0 rfl (.cons 0 rfl .nil)) (gk_F 0 rfl gk_nil) ?_
                    refine sxb_takeP 10 (.tuple #[.agg #[.slice a687 x686.1.length c688.1], .int .i64 x686.2]) rfl rfl rfl rfl (by kernel_rfl) (by kernel_rfl) (by kernel_rfl) (by kernel_rfl) (by kernel_rfl) rfl (show _ = #[true, true, true, true, true, true, true, true, true, true, true, false, false, false, false, false] from rfl) (yv_pv rfl) ?_
                    refine sxb_takeP 11 (.agg #[.slice a687 x686.1.length c688.1]) rfl rfl rfl rfl (by kernel_rfl) (by kernel_rfl) (by kernel_rfl) (by kernel_rfl) (by kernel_rfl) rfl (show _ = #[true, true, true, true, true, true, true, true, true, true, true, true, false, false, false, false] from rfl) (yv_pv rfl) ?_
                    refine sxb_takeP 12 (.int .i64 x686.2) rfl rfl rfl rfl (by kernel_rfl) (by kernel_rfl) (by kernel_rfl) (by kernel_rfl) (by kernel_rfl) rfl (show _ = #[true, true, true, true, true, true, true, true, true, true, true, true, true, false, false, false] from rfl) (yv_pv rfl) ?_
                    refine sxb_step 13 rfl (by kernel_rfl) (show _ = #[true, true, true, true, true, true, true, true, true, true, true, true, true, true, false, false] from rfl) ?_
                    refine sxo_alloc rfl tf24 rfl (fun g689 => ?_)
                    refine sxo_nil ?_
                    refine sxq_anyB (.cons 1 rfl (.cons 1 rfl .nil)) (gk_F 0 rfl gk_nil) ?_
                    refine sxb_step 14 rfl (by kernel_rfl) (show _ = #[true, true, true, true, true, true, true, true, true, true, true, true, true, true, true, false] from rfl) ?_
                    refine sxo_storeB (i := 0) rfl rfl rfl tf24 rfl rfl rfl rfl rfl ?_
                    refine sxo_nil ?_
                    refine sxq_anyB (.cons 1 rfl (.cons 1 rfl .nil)) (gk_F 0 rfl gk_nil) ?_
                    refine sxb_takeP 15 (.int .i64 x686.2) rfl rfl rfl rfl (by kernel_rfl) (by kernel_rfl) (by kernel_rfl) (by kernel_rfl) (by kernel_rfl) rfl (show _ = #[true, true, true, true, true, true, true, true, true, true, true, true, true, true, true, true] from rfl) (yv_pv rfl) ?_
                    refine sxb_done (by kernel_rfl) ?_
                    refine sxq_np ?_ (by intro c h; cases h)
                    exact sxq_meetP ((x686.2, x686.1), (g689, a687, c688)) (lk_cons rfl (lk_cons rfl (lk_cons rfl (lk_cons rfl lk_nil)))) (.cons 0 rfl .nil) (.cons 3 rfl (.cons 0 rfl .nil)) fk_nil
                  · refine sxo_meq (m' := ((M_graph_Of F (x1.length : Int) x683).bind fun x691 => M_L_CoreMore_j3 F x8 x11 x691.2 x691.1)) (rfl) ?_
                    refine sxo_alloc rfl tf24 rfl (fun g690 => ?_)
                    refine sxo_nil ?_
                    refine sxq_anyB (.cons 1 rfl (.cons 1 rfl .nil)) (gk_F 0 rfl gk_nil) ?_
                    refine sxb_step 9 rfl (by kernel_rfl) (show _ = #[true, true, true, true, true, true, true, true, true, true, false, false, false, true, false, false] from rfl) ?_
                    refine sxo_call ent23 rfl rfl rfl (fun x691 e691 => C_graph_Of F (x1.length : Int) x683 a684 c685 x691 e691) (.consR 0 (Ro eS44 44 2 (.slice a684 x683.length c685) x683) rfl .nil) (fun x691 e691 => ?_)
                    rintro ⟨a692, c693⟩
                    refine sxo_nil ?_
                    refine sxq_anyB (.cons 1 rfl (.cons 1 rfl .nil)) (gk_F 0 rfl gk_nil) ?_
                    refine sxb_takeP 10 (.tuple #[.agg #[.slice a692 x691.1.length c693.1], .int .i64 x691.2]) rfl rfl rfl rfl (by kernel_rfl) (by kernel_rfl) (by kernel_rfl) (by kernel_rfl) (by kernel_rfl) rfl (show _ = #[true, true, true, true, true, true, true, true, true, true, true, false, false, true, false, false] from rfl) (yv_pv rfl) ?_
                    refine sxb_takeP 11 (.agg #[.slice a692 x691.1.length c693.1]) rfl rfl rfl rfl (by kernel_rfl) (by kernel_rfl) (by kernel_rfl) (by kernel_rfl) (by kernel_rfl) rfl (show _ = #[true, true, true, true, true, true, true, true, true, true, true, true, false, true, false, false] from rfl) (yv_pv rfl) ?_
                    refine sxb_takeP 12 (.int .i64 x691.2) rfl rfl rfl rfl (by kernel_rfl) (by kernel_rfl) (by kernel_rfl) (by kernel_rfl) (by kernel_rfl) rfl (show _ = #[true, true, true, true, true, true, true, true, true, true, true, true, true, true, false, false] from rfl) (yv_pv rfl) ?_
                    refine sxb_step 14 rfl (by kernel_rfl) (show _ = #[true, true, true, true, true, true, true, true, true, true, true, true, true, true, true, false] from rfl) ?_
                    refine sxo_storeB (i := 0) rfl rfl rfl tf24 rfl rfl rfl rfl rfl ?_
                    refine sxo_nil ?_
                    refine sxq_anyB (.cons 1 rfl (.cons 1 rfl .nil)) (gk_F 0 rfl gk_nil) ?_
                    refine sxb_takeP 15 (.int .i64 x691.2) rfl rfl rfl rfl (by kernel_rfl) (by kernel_rfl) (by kernel_rfl) (by kernel_rfl) (by kernel_rfl) rfl (show _ = #[true, true, true, true, true, true, true, true, true, true, true, true, true, true, true, true] from rfl) (yv_pv rfl) ?_
                    refine sxb_done (by kernel_rfl) ?_
                    refine sxq_np ?_ (by intro c h; cases h)
                    exact sxq_meetP ((x691.2, x691.1), (g690, a692, c693)) (lk_cons rfl (lk_cons rfl (lk_cons rfl (lk_cons rfl lk_nil)))) (.cons 0 rfl .nil) (.cons 3 rfl (.cons 0 rfl .nil)) fk_nil
                · refine sxo_meq (m' := ((app 4398046511104 x678 ([(x4, x5)] : List (Int × Int))).bind fun x695 => ((M_graph_Of F (x1.length : Int) x695).bind fun x698 => M_L_CoreMore_j3 F x8 x11 x698.2 x698.1))) (rfl) ?_
                  refine sxo_alloc rfl tf24 rfl (fun g694 => ?_)
                  refine sxo_nil ?_
                  refine sxq_anyB (.cons 1 rfl (.cons 1 rfl .nil)) (gk_F 0 rfl gk_nil) ?_
                  refine sxb_step 8 rfl (by kernel_rfl) (show _ = #[true, true, true, true, true, true, true, true, true, false, false, false, false, true, false, false] from rfl) ?_
                  refine sxo_app 1 eS44_ok rfl Try.underlying45 tf44 rfl rfl rfl rfl rfl (.inl ⟨0, _, rfl⟩) rfl rfl (fun x695 e695 a696 c697 => ?_)
                  refine sxo_nil ?_
                  refine sxq_anyB (.cons 1 rfl (.cons 1 rfl .nil)) (gk_F 0 rfl gk_nil) ?_
                  refine sxb_step 9 rfl (by kernel_rfl) (show _ = #[true, true, true, true, true, true, true, true, true, true, false, false, false, true, false, false] from rfl) ?_
                  refine sxo_call ent23 rfl rfl rfl (fun x698 e698 => C_graph_Of F (x1.length : Int) x695 a696 c697 x698 e698) (.consR 0 (Ro eS44 44 2 (.slice a696 x695.length c697) x695) rfl .nil) (fun x698 e698 => ?_)
                  rintro ⟨a699, c700⟩
                  refine sxo_nil ?_
                  refine sxq_anyB (.cons 1 rfl (.cons 1 rfl .nil)) (gk_F 0 rfl gk_nil) ?_
                  refine sxb_takeP 10 (.tuple #[.agg #[.slice a699 x698.1.length c700.1], .int .i64 x698.2]) rfl rfl rfl rfl (by kernel_rfl) (by kernel_rfl) (by kernel_rfl) (by kernel_rfl) (by kernel_rfl) rfl (show _ = #[true, true, true, true, true, true, true, true, true, true, true, false, false, true, false, false] from rfl) (yv_pv rfl) ?_
                  refine sxb_takeP 11 (.agg #[.slice a699 x698.1.length c700.1]) rfl rfl rfl rfl (by kernel_rfl) (by kernel_rfl) (by kernel_rfl) (by kernel_rfl) (by kernel_rfl) rfl (show _ = #[true, true, true, true, true, true, true, true, true, true, true, true, false, true, false, false] from rfl) (yv_pv rfl) ?_
                  refine sxb_takeP 12 (.int .i64 x698.2) rfl rfl rfl rfl (by kernel_rfl) (by kernel_rfl) (by kernel_rfl) (by kernel_rfl) (by kernel_rfl) rfl (show _ = #[true, true, true, true, true, true, true, true, true, true, true, true, true, true, false, false] from rfl) (yv_pv rfl) ?_
                  refine sxb_step 14 rfl (by kernel_rfl) (show _ = #[true, true, true, true, true, true, true, true, true, true, true, true, true, true, true, false] from rfl) ?_
                  refine sxo_storeB (i := 0) rfl rfl rfl tf24 rfl rfl rfl rfl rfl ?_
                  refine sxo_nil ?_
                  refine sxq_anyB (.cons 1 rfl (.cons 1 rfl .nil)) (gk_F 0 rfl gk_nil) ?_
                  refine sxb_takeP 15 (.int .i64 x698.2) rfl rfl rfl rfl (by kernel_rfl) (by kernel_rfl) (by kernel_rfl) (by kernel_rfl) (by kernel_rfl) rfl (show _ = #[true, true, true, true, true, true, true, true, true, true, true, true, true, true, true, true] from rfl) (yv_pv rfl) ?_
                  refine sxb_done (by kernel_rfl) ?_
                  refine sxq_np ?_ (by intro c h; cases h)
                  exact sxq_meetP ((x698.2, x698.1), (g694, a699, c700)) (lk_cons rfl (lk_cons rfl (lk_cons rfl (lk_cons rfl lk_nil)))) (.cons 0 rfl .nil) (.cons 3 rfl (.cons 0 rfl .nil)) fk_nil
              · refine sxo_meq (m' := ((app 4398046511104 x678 ([(x4, x5)] : List (Int × Int))).bind fun x704 => ((M_graph_Of F (x1.length : Int) x704).bind fun x707 => M_L_CoreMore_j3 F x8 x11 x707.2 x707.1))) (rfl) ?_
                refine sxo_alloc rfl tf24 rfl (fun g701 => ?_)
                refine sxo_nil ?_
                refine sxq_anyB (.cons 1 rfl (.cons 1 rfl .nil)) (gk_F 0 rfl gk_nil) ?_
                refine sxb_step 7 rfl (by kernel_rfl) (show _ = #[true, true, true, true, true, true, true, true, false, false, false, false, false, true, false, false] from rfl) ?_
                refine sxo_slit (vs := [.agg #[.int .i64 x4, .int .i64 x5]]) (ys := ([(x4, x5)] : List (Int × Int))) eS44_ok (by decide) rfl Try.underlying45 tf44 rfl rfl rfl rfl rfl (by decide) (fun a702 c703 => ?_)
                refine sxo_nil ?_
                refine sxq_anyB (.cons 1 rfl (.cons 1 rfl .nil)) (gk_F 0 rfl gk_nil) ?_
                refine sxb_step 8 rfl (by kernel_rfl) (show _ = #[true, true, true, true, true, true, true, true, true, false, false, false, false, true, false, false] from rfl) ?_
                refine sxo_app 1 eS44_ok rfl Try.underlying45 tf44 rfl rfl rfl rfl rfl (.inl ⟨0, _, rfl⟩) rfl rfl (fun x704 e704 a705 c706 => ?_)
                refine sxo_nil ?_
                refine sxq_anyB (.cons 1 rfl (.cons 1 rfl .nil)) (gk_F 0 rfl gk_nil) ?_
                refine sxb_step 9 rfl (by kernel_rfl) (show _ = #[true, true, true, true, true, true, true, true, true, true, false, false, false, true, false, false] from rfl) ?_
                refine sxo_call ent23 rfl rfl rfl (fun x707 e707 => C_graph_Of F (x1.length : Int) x704 a705 c706 x707 e707) (.consR 0 (Ro eS44 44 2 (.slice a705 x704.length c706) x704) rfl .nil) (fun x707 e707 => ?_)
                rintro ⟨a708, c709⟩
                refine sxo_nil ?_
                refine sxq_anyB (.cons 1 rfl (.cons 1 rfl .nil)) (gk_F 0 rfl gk_nil) ?_
                refine sxb_takeP 10 (.tuple #[.agg #[.slice a708 x707.1.length c709.1], .int .i64 x707.2]) rfl rfl rfl rfl (by kernel_rfl) (by kernel_rfl) (by kernel_rfl) (by kernel_rfl) (by kernel_rfl) rfl (show _ = #[true, true, true, true, true, true, true, true, true, true, true, false, false, true, false, false] from rfl) (yv_pv rfl) ?_
                refine sxb_takeP 11 (.agg #[.slice a708 x707.1.length c709.1]) rfl rfl rfl rfl (by kernel_rfl) (by kernel_rfl) (by kernel_rfl) (by kernel_rfl) (by kernel_rfl) rfl (show _ = #[true, true, true, true, true, true, true, true, true, true, true, true, false, true, false, false] from rfl) (yv_pv rfl) ?_
                refine sxb_takeP 12 (.int .i64 x707.2) rfl rfl rfl rfl (by kernel_rfl) (by kernel_rfl) (by kernel_rfl) (by kernel_rfl) (by kernel_rfl) rfl (show _ = #[true, true, true, true, true, true, true, true, true, true, true, true, true, true, false, false] from rfl) (yv_pv rfl) ?_
                refine sxb_step 14 rfl (by kernel_rfl) (show _ = #[true, true, true, true, true, true, true, true, true, true, true, true, true, true, true, false] from rfl) ?_
                refine sxo_storeB (i := 0) rfl rfl rfl tf24 rfl rfl rfl rfl rfl ?_
                refine sxo_nil ?_
                refine sxq_anyB (.cons 1 rfl (.cons 1 rfl .nil)) (gk_F 0 rfl gk_nil) ?_
                refine sxb_takeP 15 (.int .i64 x707.2) rfl rfl rfl rfl (by kernel_rfl) (by kernel_rfl) (by kernel_rfl) (by kernel_rfl) (by kernel_rfl) rfl (show _ = #[true, true, true, true, true, true, true, true, true, true, true, true, true, true, true, true] from rfl) (yv_pv rfl) ?_
                refine sxb_done (by kernel_rfl) ?_
                refine sxq_np ?_ (by intro c h; cases h)
                exact sxq_meetP ((x707.2, x707.1), (g701, a708, c709)) (lk_cons rfl (lk_cons rfl (lk_cons rfl (lk_cons rfl lk_nil)))) (.cons 0 rfl .nil) (.cons 3 rfl (.cons 0 rfl .nil)) fk_nil
            · refine sxo_meq (m' := ((app 4398046511104 ([] : List (Int × Int)) x14.1).bind fun x712 => ((app 4398046511104 x712 ([(x4, x5)] : List (Int × Int))).bind fun x715 => ((M_graph_Of F (x1.length : Int) x715).bind fun x718 => M_L_CoreMore_j3 F x8 x11 x718.2 x718.1)))) (rfl) ?_
              refine sxo_slit (vs := [.agg #[.int .i64 x4, .int .i64 x5]]) (ys := ([(x4, x5)] : List (Int × Int))) eS44_ok (by decide) rfl Try.underlying45 tf44 rfl rfl rfl rfl rfl (by decide) (fun a710 c711 => ?_)
              refine sxo_nil ?_
              refine sxq_anyB (.cons 0 rfl (.cons 0 rfl .nil)) (gk_F 0 rfl gk_nil) ?_
              refine sxb_two 5 13 rfl rfl (by kernel_rfl) (show _ = #[true, true, true, true, true, true, true, true, false, false, false, false, false, false, false, false] from rfl) (show _ = #[true, true, true, true, true, false, true, true, false, false, false, false, false, true, false, false] from rfl) ?_ ?_
              · refine sxo_app 1 eS44_ok rfl Try.underlying45 tf44 rfl rfl rfl rfl rfl (.inl ⟨3, _, rfl⟩) rfl rfl (fun x712 e712 a713 c714 => ?_)
                refine sxo_nil ?_
                refine sxq_anyB (.cons 0 rfl (.cons 0 rfl .nil)) (gk_F 0 rfl gk_nil) ?_
                refine sxb_two 8 13 rfl rfl (by kernel_rfl) (show _ = #[true, true, true, true, true, true, true, true, true, false, false, false, false, false, false, false] from rfl) (show _ = #[true, true, true, true, true, true, true, true, false, false, false, false, false, true, false, false] from rfl) ?_ ?_
                · refine sxo_app 0 eS44_ok rfl Try.underlying45 tf44 rfl rfl rfl rfl rfl (.inl ⟨1, _, rfl⟩) rfl rfl (fun x715 e715 a716 c717 => ?_)
                  refine sxo_nil ?_
                  refine sxq_anyB (.cons 0 rfl (.cons 0 rfl .nil)) (gk_F 0 rfl gk_nil) ?_
                  refine sxb_two 9 13 rfl rfl (by kernel_rfl) (show _ = #[true, true, true, true, true, true, true, true, true, true, false, false, false, false, false, false] from rfl) (show _ = #[true, true, true, true, true, true, true, true, true, false, false, false, false, true, false, false] from rfl) ?_ ?_
                  · refine sxo_call ent23 rfl rfl rfl (fun x718 e718 => C_graph_Of F (x1.length : Int) x715 a716 c717 x718 e718) (.consR 0 (Ro eS44 44 2 (.slice a716 x715.length c717) x715) rfl .nil) (fun x718 e718 => ?_)
                    rintro ⟨a719, c720⟩
                    refine sxo_nil ?_
                    refine sxq_anyB (.cons 0 rfl (.cons 0 rfl .nil)) (gk_F 0 rfl gk_nil) ?_
                    refine sxb_takeP 10 (.tuple #[.agg #[.slice a719 x718.1.length c720.1], .int .i64 x718.2]) rfl rfl rfl rfl (by kernel_rfl) (by kernel_rfl) (by kernel_rfl) (by kernel_rfl) (by kernel_rfl) rfl (show _ = #[true, true, true, true, true, true, true, true, true, true, true, false, false, false, false, false] from rfl) (yv_pv rfl) ?_
                    refine sxb_takeP 11 (.agg #[.slice a719 x718.1.length c720.1]) rfl rfl rfl rfl (by kernel_rfl) (by kernel_rfl) (by kernel_rfl) (by kernel_rfl) (by kernel_rfl) rfl (show _ = #[true, true, true, true, true, true, true, true, true, true, true, true, false, false, false, false] from rfl) (yv_pv rfl) ?_
                    refine sxb_takeP 12 (.int .i64 x718.2) rfl rfl rfl rfl (by kernel_rfl) (by kernel_rfl) (by kernel_rfl) (by kernel_rfl) (by kernel_rfl) rfl (show _ = #[true, true, true, true, true, true, true, true, true, true, true, true, true, false, false, false] from rfl) (yv_pv rfl) ?_
                    refine sxb_step 13 rfl (by kernel_rfl) (show _ = #[true, true, true, true, true, true, true, true, true, true, true, true, true, true, false, false] from rfl) ?_
                    refine sxo_alloc rfl tf24 rfl (fun g721 => ?_)
                    refine sxo_nil ?_
                    refine sxq_anyB (.cons 1 rfl (.cons 1 rfl .nil)) (gk_F 0 rfl gk_nil) ?_
                    refine sxb_step 14 rfl (by kernel_rfl) (show _ = #[true, true, true, true, true, true, true, true, true, true, true, true, true, true, true, false] from rfl) ?_
                    refine sxo_storeB (i := 0) rfl rfl rfl tf24 rfl rfl rfl rfl rfl ?_
                    refine sxo_nil ?_
                    refine sxq_anyB (.cons 1 rfl (.cons 1 rfl .nil)) (gk_F 0 rfl gk_nil) ?_
                    refine sxb_takeP 15 (.int .i64 x718.2) rfl rfl rfl rfl (by kernel_rfl) (by kernel_rfl) (by kernel_rfl) (by kernel_rfl) (by kernel_rfl) rfl (show _ = #[true, true, true, true, true, true, true, true, true, true, true, true, true, true, true, true] from rfl) (yv_pv rfl) ?_
                    refine sxb_done (by kernel_rfl) ?_
                    refine sxq_np ?_ (by intro c h; cases h)
                    exact sxq_meetP ((x718.2, x718.1), (g721, a719, c720)) (lk_cons rfl (lk_cons rfl (lk_cons rfl (lk_cons rfl lk_nil)))) (.cons 0 rfl .nil) (.cons 3 rfl (.cons 0 rfl .nil)) fk_nil
                  · refine sxo_meq (m' := ((M_graph_Of F (x1.length : Int) x715).bind fun x723 => M_L_CoreMore_j3 F x8 x11 x723.2 x723.1)) (rfl) ?_
                    refine sxo_alloc rfl tf24 rfl (fun g722 => ?_)
                    refine sxo_nil ?_
                    refine sxq_anyB (.cons 1 rfl (.cons 1 rfl .nil)) (gk_F 0 rfl gk_nil) ?_
                    refine sxb_step 9 rfl (by kernel_rfl) (show _ = #[true, true, true, true, true, true, true, true, true, true, false, false, false, true, false, false] from rfl) ?_
                    refine sxo_call ent23 rfl rfl rfl (fun x723 e723 => C_graph_Of F (x1.length : Int) x715 a716 c717 x723 e723) (.consR 0 (Ro eS44 44 2 (.slice a716 x715.length c717) x715) rfl .nil) (fun x723 e723 => ?_)
                    rintro ⟨a724, c725⟩
                    refine sxo_nil ?_
                    refine sxq_anyB (.cons 1 rfl (.cons 1 rfl .nil)) (gk_F 0 rfl gk_nil) ?_
                    refine sxb_takeP 10 (.tuple #[.agg #[.slice a724 x723.1.length c725.1], .int .i64 x723.2]) rfl rfl rfl rfl (by kernel_rfl) (by kernel_rfl) (by kernel_rfl) (by kernel_rfl) (by kernel_rfl) rfl (show _ = #[true, true, true, true, true, true, true, true, true, true, true, false, false, true, false, false] from rfl) (yv_pv rfl) ?_
                    refine sxb_takeP 11 (.agg #[.slice a724 x723.1.length c725.1]) rfl rfl rfl rfl (by kernel_rfl) (by kernel_rfl) (by kernel_rfl) (by kernel_rfl) (by kernel_rfl) rfl (show _ = #[true, true, true, true, true, true, true, true, true, true, true, true, false, true, false, false] from rfl) (yv_pv rfl) ?_
                    refine sxb_takeP 12 (.int .i64 x723.2) rfl rfl rfl rfl (by kernel_rfl) (by kernel_rfl) (by kernel_rfl) (by kernel_rfl) (by kernel_rfl) rfl (show _ = #[true, true, true, true, true, true, true, true, true, true, true, true, true, true, false, false] from rfl) (yv_pv rfl) ?_
                    refine sxb_step 14 rfl (by kernel_rfl) (show _ = #[true, true, true, true, true, true, true, true, true, true, true, true, true, true, true, false] from rfl) ?_
                    refine sxo_storeB (i := 0) rfl rfl rfl tf24 rfl rfl rfl rfl rfl ?_
                    refine sxo_nil ?_
                    refine sxq_anyB (.cons 1 rfl (.cons 1 rfl .nil)) (gk_F 0 rfl gk_nil) ?_
                    refine sxb_takeP 15 (.int .i64 x723.2) rfl rfl rfl rfl (by kernel_rfl) (by kernel_rfl) (by kernel_rfl) (by kernel_rfl) (by kernel_rfl) rfl (show _ = #[true, true, true, true, true, true, true, true, true, true, true, true, true, true, true, true] from rfl) (yv_pv rfl) ?_
                    refine sxb_done (by kernel_rfl) ?_
                    refine sxq_np ?_ (by intro c h; cases h)
                    exact sxq_meetP ((x723.2, x723.1), (g722, a724, c725)) (lk_cons rfl (lk_cons rfl (lk_cons rfl (lk_cons rfl lk_nil)))) (.cons 0 rfl .nil) (.cons 3 rfl (.cons 0 rfl .nil)) fk_nil
                · refine sxo_meq (m' := ((app 4398046511104 x712 ([(x4, x5)] : List (Int × Int))).bind fun x727 => ((M_graph_Of F (x1.length : Int) x727).bind fun x730 => M_L_CoreMore_j3 F x8 x11 x730.2 x730.1))) (rfl) ?_
                  refine sxo_alloc rfl tf24 rfl (fun g726 => ?_)
                  refine sxo_nil ?_
                  refine sxq_anyB (.cons 1 rfl (.cons 1 rfl .nil)) (gk_F 0 rfl gk_nil) ?_
                  refine sxb_step 8 rfl (by kernel_rfl) (show _ = #[true, true, true, true, true, true, true, true, true, false, false, false, false, true, false, false] from rfl) ?_
                  refine sxo_app 0 eS44_ok rfl Try.underlying45 tf44 rfl rfl rfl rfl rfl (.inl ⟨1, _, rfl⟩) rfl rfl (fun x727 e727 a728 c729 => ?_)
                  refine sxo_nil ?_
                  refine sxq_anyB (.cons 1 rfl (.cons 1 rfl .nil)) (gk_F 0 rfl gk_nil) ?_
                  refine sxb_step 9 rfl (by kernel_rfl) (show _ = #[true, true, true, true, true, true, true, true, true, true, false, false, false, true, false, false] from rfl) ?_
                  refine sxo_call ent23 rfl rfl rfl (fun x730 e730 => C_graph_Of F (x1.length : Int) x727 a728 c729 x730 e730) (.consR 0 (Ro eS44 44 2 (.slice a728 x727.length c729) x727) rfl .nil) (fun x730 e730 => ?_)
                  rintro ⟨a731, c732⟩
                  refine sxo_nil ?_
                  refine sxq_anyB (.cons 1 rfl (.cons 1 rfl .nil)) (gk_F 0 rfl gk_nil) ?_
                  refine sxb_takeP 10 (.tuple #[.agg #[.slice a731 x730.1.length c732.1], .int .i64 x730.2]) rfl rfl rfl rfl (by kernel_rfl) (by kernel_rfl) (by kernel_rfl) (by kernel_rfl) (by kernel_rfl) rfl (show _ = #[true, true, true, true, true, true, true, true, true, true, true, false, false, true, false, false] from rfl) (yv_pv rfl) ?_
                  refine sxb_takeP 11 (.agg #[.slice a731 x730.1.length c732.1]) rfl rfl rfl rfl (by kernel_rfl) (by kernel_rfl) (by kernel_rfl) (by kernel_rfl) (by kernel_rfl) rfl (show _ = #[true, true, true, true, true, true, true, true, true, true, true, true, false, true, false, false] from rfl) (yv_pv rfl) ?_
                  refine sxb_takeP 12 (.int .i64 x730.2) rfl rfl rfl rfl (by kernel_rfl) (by kernel_rfl) (by kernel_rfl) (by kernel_rfl) (by kernel_rfl) rfl (show _ = #[true, true, true, true, true, true, true, true, true, true, true, true, true, true, false, false] from rfl) (yv_pv rfl) ?_
                  refine sxb_step 14 rfl (by kernel_rfl) (show _ = #[true, true, true, true, true, true, true, true, true, true, true, true, true, true, true, false] from rfl) ?_
                  refine sxo_storeB (i := 0) rfl rfl rfl tf24 rfl rfl rfl rfl rfl ?_
                  refine sxo_nil ?_
                  refine sxq_anyB (.cons 1 rfl (.cons 1 rfl .nil)) (gk_F 0 rfl gk_nil) ?_
                  refine sxb_takeP 15 (.int .i64 x730.2) rfl rfl rfl rfl (by kernel_rfl) (by kernel_rfl) (by kernel_rfl) (by kernel_rfl) (by kernel_rfl) rfl (show _ = #[true, true, true, true, true, true, true, true, true, true, true, true, true, true, true, true] from rfl) (yv_pv rfl) ?_
                  refine sxb_done (by kernel_rfl) ?_
                  refine sxq_np ?_ (by intro c h; cases h)
                  exact sxq_meetP ((x730.2, x730.1), (g726, a731, c732)) (lk_cons rfl (lk_cons rfl (lk_cons rfl (lk_cons rfl lk_nil)))) (.cons 0 rfl .nil) (.cons 3 rfl (.cons 0 rfl .nil)) fk_nil
              · refine sxo_meq (m' := ((app 4398046511104 ([] : List (Int × Int)) x14.1).bind fun x734 => ((app 4398046511104 x734 ([(x4, x5)] : List (Int × Int))).bind fun x737 => ((M_graph_Of F (x1.length : Int) x737).bind fun x740 => M_L_CoreMore_j3 F x8 x11 x740.2 x740.1)))) (rfl) ?_
                refine sxo_alloc rfl tf24 rfl (fun g733 => ?_)
                refine sxo_nil ?_
                refine sxq_anyB (.cons 1 rfl (.cons 1 rfl .nil)) (gk_F 0 rfl gk_nil) ?_
                refine sxb_step 5 rfl (by kernel_rfl) (show _ = #[true, true, true, true, true, true, true, true, false, false, false, false, false, true, false, false] from rfl) ?_
                refine sxo_app 1 eS44_ok rfl Try.underlying45 tf44 rfl rfl rfl rfl rfl (.inl ⟨3, _, rfl⟩) rfl rfl (fun x734 e734 a735 c736 => ?_)
                refine sxo_nil ?_
                refine sxq_anyB (.cons 1 rfl (.cons 1 rfl .nil)) (gk_F 0 rfl gk_nil) ?_
                refine sxb_step 8 rfl (by kernel_rfl) (show _ = #[true, true, true, true, true, true, true, true, true, false, false, false, false, true, false, false] from rfl) ?_
                refine sxo_app 0 eS44_ok rfl Try.underlying45 tf44 rfl rfl rfl rfl rfl (.inl ⟨1, _, rfl⟩) rfl rfl (fun x737 e737 a738 c739 => ?_)
                refine sxo_nil ?_
                refine sxq_anyB (.cons 1 rfl (.cons 1 rfl .nil)) (gk_F 0 rfl gk_nil) ?_
                refine sxb_step 9 rfl (by kernel_rfl) (show _ = #[true, true, true, true, true, true, true, true, true, true, false, false, false, true, false, false] from rfl) ?_
                refine sxo_call ent23 rfl rfl rfl (fun x740 e740 => C_graph_Of F (x1.length : Int) x737 a738 c739 x740 e740) (.consR 0 (Ro eS44 44 2 (.slice a738 x737.length c739) x737) rfl .nil) (fun x740 e740 => ?_)
                rintro ⟨a741, c742⟩
                refine sxo_nil ?_
                refine sxq_anyB (.cons 1 rfl (.cons 1 rfl .nil)) (gk_F 0 rfl gk_nil) ?_
                refine sxb_takeP 10 (.tuple #[.agg #[.slice a741 x740.1.length c742.1], .int .i64 x740.2]) rfl rfl rfl rfl (by kernel_rfl) (by kernel_rfl) (by kernel_rfl) (by kernel_rfl) (by kernel_rfl) rfl (show _ = #[true, true, true, true, true, true, true, true, true, true, true, false, false, true, false, false] from rfl) (yv_pv rfl) ?_
                refine sxb_takeP 11 (.agg #[.slice a741 x740.1.length c742.1]) rfl rfl rfl rfl (by kernel_rfl) (by kernel_rfl) (by kernel_rfl) (by kernel_rfl) (by kernel_rfl) rfl (show _ = #[true, true, true, true, true, true, true, true, true, true, true, true, false, true, false, false] from rfl) (yv_pv rfl) ?_
                refine sxb_takeP 12 (.int .i64 x740.2) rfl rfl rfl rfl (by kernel_rfl) (by kernel_rfl) (by kernel_rfl) (by kernel_rfl) (by kernel_rfl) rfl (show _ = #[true, true, true, true, true, true, true, true, true, true, true, true, true, true, false, false] from rfl) (yv_pv rfl) ?_
                refine sxb_step 14 rfl (by kernel_rfl) (show _ = #[true, true, true, true, true, true, true, true, true, true, true, true, true, true, true, false] from rfl) ?_
                refine sxo_storeB (i := 0) rfl rfl rfl tf24 rfl rfl rfl rfl rfl ?_
                refine sxo_nil ?_
                refine sxq_anyB (.cons 1 rfl (.cons 1 rfl .nil)) (gk_F 0 rfl gk_nil) ?_
                refine sxb_takeP 15 (.int .i64 x740.2) rfl rfl rfl rfl (by kernel_rfl) (by kernel_rfl) (by kernel_rfl) (by kernel_rfl) (by kernel_rfl) rfl (show _ = #[true, true, true, true, true, true, true, true, true, true, true, true, true, true, true, true] from rfl) (yv_pv rfl) ?_
                refine sxb_done (by kernel_rfl) ?_
                refine sxq_np ?_ (by intro c h; cases h)
                exact sxq_meetP ((x740.2, x740.1), (g733, a741, c742)) (lk_cons rfl (lk_cons rfl (lk_cons rfl (lk_cons rfl lk_nil)))) (.cons 0 rfl .nil) (.cons 3 rfl (.cons 0 rfl .nil)) fk_nil
            · refine sxo_meq (m' := ((app 4398046511104 ([] : List (Int × Int)) x14.1).bind fun x744 => ((app 4398046511104 x744 ([(x4, x5)] : List (Int × Int))).bind fun x749 => ((M_graph_Of F (x1.length : Int) x749).bind fun x752 => M_L_CoreMore_j3 F x8 x11 x752.2 x752.1)))) (rfl) ?_
              refine sxo_alloc rfl tf24 rfl (fun g743 => ?_)
              refine sxo_nil ?_
              refine sxq_anyB (.cons 1 rfl (.cons 1 rfl .nil)) (gk_F 0 rfl gk_nil) ?_
              refine sxb_two 5 7 rfl rfl (by kernel_rfl) (show _ = #[true, true, true, true, true, true, true, false, false, false, false, false, false, true, false, false] from rfl) (show _ = #[true, true, true, true, true, false, true, true, false, false, false, false, false, true, false, false] from rfl) ?_ ?_
              · refine sxo_app 0 eS44_ok rfl Try.underlying45 tf44 rfl rfl rfl rfl rfl (.inl ⟨2, _, rfl⟩) rfl rfl (fun x744 e744 a745 c746 => ?_)
                refine sxo_nil ?_
                refine sxq_anyB (.cons 1 rfl (.cons 1 rfl .nil)) (gk_F 0 rfl gk_nil) ?_
                refine sxb_step 7 rfl (by kernel_rfl) (show _ = #[true, true, true, true, true, true, true, true, false, false, false, false, false, true, false, false] from rfl) ?_
                refine sxo_slit (vs := [.agg #[.int .i64 x4, .int .i64 x5]]) (ys := ([(x4, x5)] : List (Int × Int))) eS44_ok (by decide) rfl Try.underlying45 tf44 rfl rfl rfl rfl rfl (by decide) (fun a747 c748 => ?_)
                refine sxo_nil ?_
                refine sxq_anyB (.cons 1 rfl (.cons 1 rfl .nil)) (gk_F 0 rfl gk_nil) ?_
                refine sxb_step 8 rfl (by kernel_rfl) (show _ = #[true, true, true, true, true, true, true, true, true, false, false, false, false, true, false, false] from rfl) ?_
                refine sxo_app 1 eS44_ok rfl Try.underlying45 tf44 rfl rfl rfl rfl rfl (.inl ⟨0, _, rfl⟩) rfl rfl (fun x749 e749 a750 c751 => ?_)
                refine sxo_nil ?_
                refine sxq_anyB (.cons 1 rfl (.cons 1 rfl .nil)) (gk_F 0 rfl gk_nil) ?_
                refine sxb_step 9 rfl (by kernel_rfl) (show _ = #[true, true, true, true, true, true, true, true, true, true, false, false, false, true, false, false] from rfl) ?_
                refine sxo_call ent23 rfl rfl rfl (fun x752 e752 => C_graph_Of F (x1.length : Int) x749 a750 c751 x752 e752) (.consR 0 (Ro eS44 44 2 (.slice a750 x749.length c751) x749) rfl .nil) (fun x752 e752 => ?_)
                rintro ⟨a753, c754⟩
                refine sxo_nil ?_
                refine sxq_anyB (.cons 1 rfl (.cons 1 rfl .nil)) (gk_F 0 rfl gk_nil) ?_
                refine sxb_takeP 10 (.tuple #[.agg #[.slice a753 x752.1.length c754.1], .int .i64 x752.2]) rfl rfl rfl rfl (by kernel_rfl) (by kernel_rfl) (by kernel_rfl) (by kernel_rfl) (by kernel_rfl) rfl (show _ = #[true, true, true, true, true, true, true, true, true, true, true, false, false, true, false, false] from rfl) (yv_pv rfl) ?_
                refine sxb_takeP 11 (.agg #[.slice a753 x752.1.length c754.1]) rfl rfl rfl rfl (by kernel_rfl) (by kernel_rfl) (by kernel_rfl) (by kernel_rfl) (by kernel_rfl) rfl (show _ = #[true, true, true, true, true, true, true, true, true, true, true, true, false, true, false, false] from rfl) (yv_pv rfl) ?_
                refine sxb_takeP 12 (.int .i64 x752.2) rfl rfl rfl rfl (by kernel_rfl) (by kernel_rfl) (by kernel_rfl) (by kernel_rfl) (by kernel_rfl) rfl (show _ = #[true, true, true, true, true, true, true, true, true, true, true, true, true, true, false, false] from rfl) (yv_pv rfl) ?_
                refine sxb_step 14 rfl (by kernel_rfl) (show _ = #[true, true, true, true, true, true, true, true, true, true, true, true, true, true, true, false] from rfl) ?_
                refine sxo_storeB (i := 0) rfl rfl rfl tf24 rfl rfl rfl rfl rfl ?_
                refine sxo_nil ?_
                refine sxq_anyB (.cons 1 rfl (.cons 1 rfl .nil)) (gk_F 0 rfl gk_nil) ?_
                refine sxb_takeP 15 (.int .i64 x752.2) rfl rfl rfl rfl (by kernel_rfl) (by kernel_rfl) (by kernel_rfl) (by kernel_rfl) (by kernel_rfl) rfl (show _ = #[true, true, true, true, true, true, true, true, true, true, true, true, true, true, true, true] from rfl) (yv_pv rfl) ?_
                refine sxb_done (by kernel_rfl) ?_
                refine sxq_np ?_ (by intro c h; cases h)
                exact sxq_meetP ((x752.2, x752.1), (g743, a753, c754)) (lk_cons rfl (lk_cons rfl (lk_cons rfl (lk_cons rfl lk_nil)))) (.cons 0 rfl .nil) (.cons 3 rfl (.cons 0 rfl .nil)) fk_nil
              · refine sxo_meq (m' := ((app 4398046511104 ([] : List (Int × Int)) x14.1).bind fun x757 => ((app 4398046511104 x757 ([(x4, x5)] : List (Int × Int))).bind fun x760 => ((M_graph_Of F (x1.length : Int) x760).bind fun x763 => M_L_CoreMore_j3 F x8 x11 x763.2 x763.1)))) (rfl) ?_
                refine sxo_slit (vs := [.agg #[.int .i64 x4, .int .i64 x5]]) (ys := ([(x4, x5)] : List (Int × Int))) eS44_ok (by decide) rfl Try.underlying45 tf44 rfl rfl rfl rfl rfl (by decide) (fun a755 c756 => ?_)
                refine sxo_nil ?_
                refine sxq_anyB (.cons 1 rfl (.cons 1 rfl .nil)) (gk_F 0 rfl gk_nil) ?_
                refine sxb_step 5 rfl (by kernel_rfl) (show _ = #[true, true, true, true, true, true, true, true, false, false, false, false, false, true, false, false] from rfl) ?_
                refine sxo_app 1 eS44_ok rfl Try.underlying45 tf44 rfl rfl rfl rfl rfl (.inl ⟨3, _, rfl⟩) rfl rfl (fun x757 e757 a758 c759 => ?_)
                refine sxo_nil ?_
                refine sxq_anyB (.cons 1 rfl (.cons 1 rfl .nil)) (gk_F 0 rfl gk_nil) ?_
                refine sxb_step 8 rfl (by kernel_rfl) (show _ = #[true, true, true, true, true, true, true, true, true, false, false, false, false, true, false, false] from rfl) ?_
                refine sxo_app 0 eS44_ok rfl Try.underlying45 tf44 rfl rfl rfl rfl rfl (.inl ⟨1, _, rfl⟩) rfl rfl (fun x760 e760 a761 c762 => ?_)
                refine sxo_nil ?_
                refine sxq_anyB (.cons 1 rfl (.cons 1 rfl .nil)) (gk_F 0 rfl gk_nil) ?_
                refine sxb_step 9 rfl (by kernel_rfl) (show _ = #[true, true, true, true, true, true, true, true, true, true, false, false, false, true, false, false] from rfl) ?_
                refine sxo_call ent23 rfl rfl rfl (fun x763 e763 => C_graph_Of F (x1.length : Int) x760 a761 c762 x763 e763) (.consR 0 (Ro eS44 44 2 (.slice a761 x760.length c762) x760) rfl .nil) (fun x763 e763 => ?_)
                rintro ⟨a764, c765⟩
                refine sxo_nil ?_
                refine sxq_anyB (.cons 1 rfl (.cons 1 rfl .nil)) (gk_F 0 rfl gk_nil) ?_
                refine sxb_takeP 10 (.tuple #[.agg #[.slice a764 x763.1.length c765.1], .int .i64 x763.2]) rfl rfl rfl rfl (by kernel_rfl) (by kernel_rfl) (by kernel_rfl) (by kernel_rfl) (by kernel_rfl) rfl (show _ = #[true, true, true, true, true, true, true, true, true, true, true, false, false, true, false, false] from rfl) (yv_pv rfl) ?_
                refine sxb_takeP 11 (.agg #[.slice a764 x763.1.length c765.1]) rfl rfl rfl rfl (by kernel_rfl) (by kernel_rfl) (by kernel_rfl) (by kernel_rfl) (by kernel_rfl) rfl (show _ = #[true, true, true, true, true, true, true, true, true, true, true, true, false, true, false, false] from rfl) (yv_pv rfl) ?_
                refine sxb_takeP 12 (.int .i64 x763.2) rfl rfl rfl rfl (by kernel_rfl) (by kernel_rfl) (by kernel_rfl) (by kernel_rfl) (by kernel_rfl) rfl (show _ = #[true, true, true, true, true, true, true, true, true, true, true, true, true, true, false, false] from rfl) (yv_pv rfl) ?_
                refine sxb_step 14 rfl (by kernel_rfl) (show _ = #[true, true, true, true, true, true, true, true, true, true, true, true, true, true, true, false] from rfl) ?_
                refine sxo_storeB (i := 0) rfl rfl rfl tf24 rfl rfl rfl rfl rfl ?_
                refine sxo_nil ?_
                refine sxq_anyB (.cons 1 rfl (.cons 1 rfl .nil)) (gk_F 0 rfl gk_nil) ?_
                refine sxb_takeP 15 (.int .i64 x763.2) rfl rfl rfl rfl (by kernel_rfl) (by kernel_rfl) (by kernel_rfl) (by kernel_rfl) (by kernel_rfl) rfl (show _ = #[true, true, true, true, true, true, true, true, true, true, true, true, true, true, true, true] from rfl) (yv_pv rfl) ?_
                refine sxb_done (by kernel_rfl) ?_
                refine sxq_np ?_ (by intro c h; cases h)
                exact sxq_meetP ((x763.2, x763.1), (g743, a764, c765)) (lk_cons rfl (lk_cons rfl (lk_cons rfl (lk_cons rfl lk_nil)))) (.cons 0 rfl .nil) (.cons 3 rfl (.cons 0 rfl .nil)) fk_nil
          · refine sxo_meq (m' := ((app 4398046511104 ([] : List (Int × Int)) x14.1).bind fun x770 => ((app 4398046511104 x770 ([(x4, x5)] : List (Int × Int))).bind fun x773 => ((M_graph_Of F (x1.length : Int) x773).bind fun x776 => M_L_CoreMore_j3 F x8 x11 x776.2 x776.1)))) (rfl) ?_
            refine sxo_slit (vs := [.agg #[.int .i64 x4, .int .i64 x5]]) (ys := ([(x4, x5)] : List (Int × Int))) eS44_ok (by decide) rfl Try.underlying45 tf44 rfl rfl rfl rfl rfl (by decide) (fun a766 c767 => ?_)
            refine sxo_nil ?_
            refine sxq_anyB (.cons 0 rfl (.cons 0 rfl .nil)) (gk_F 0 rfl gk_nil) ?_
            refine sxb_two 3 13 rfl rfl (by kernel_rfl) (show _ = #[true, true, true, true, true, false, true, true, false, false, false, false, false, false, false, false] from rfl) (show _ = #[true, true, true, false, true, false, true, true, false, false, false, false, false, true, false, false] from rfl) ?_ ?_
            · refine sxo_slit (vs := []) (ys := ([] : List (Int × Int))) eS44_ok (by decide) rfl Try.underlying45 tf44 rfl rfl rfl rfl rfl (by decide) (fun a768 c769 => ?_)
              refine sxo_nil ?_
              refine sxq_anyB (.cons 0 rfl (.cons 0 rfl .nil)) (gk_F 0 rfl gk_nil) ?_
              refine sxb_two 5 13 rfl rfl (by kernel_rfl) (show _ = #[true, true, true, true, true, true, true, true, false, false, false, false, false, false, false, false] from rfl) (show _ = #[true, true, true, true, true, false, true, true, false, false, false, false, false, true, false, false] from rfl) ?_ ?_
              · refine sxo_app 0 eS44_ok rfl Try.underlying45 tf44 rfl rfl rfl rfl rfl (.inl ⟨3, _, rfl⟩) rfl rfl (fun x770 e770 a771 c772 => ?_)
                refine sxo_nil ?_
                refine sxq_anyB (.cons 0 rfl (.cons 0 rfl .nil)) (gk_F 0 rfl gk_nil) ?_
                refine sxb_two 8 13 rfl rfl (by kernel_rfl) (show _ = #[true, true, true, true, true, true, true, true, true, false, false, false, false, false, false, false] from rfl) (show _ = #[true, true, true, true, true, true, true, true, false, false, false, false, false, true, false, false] from rfl) ?_ ?_
                · refine sxo_app 0 eS44_ok rfl Try.underlying45 tf44 rfl rfl rfl rfl rfl (.inl ⟨1, _, rfl⟩) rfl rfl (fun x773 e773 a774 c775 => ?_)
                  refine sxo_nil ?_
                  refine sxq_anyB (.cons 0 rfl (.cons 0 rfl .nil)) (gk_F 0 rfl gk_nil) ?_
                  refine sxb_two 9 13 rfl rfl (by kernel_rfl) (show _ = #[true, true, true, true, true, true, true, true, true, true, false, false, false, false, false, false] from rfl) (show _ = #[true, true, true, true, true, true, true, true, true, false, false, false, false, true, false, false] from rfl) ?_ ?_
                  · refine sxo_call ent23 rfl rfl rfl (fun x776 e776 => C_graph_Of F (x1.length : Int) x773 a774 c775 x776 e776) (.consR 0 (Ro eS44 44 2 (.slice a774 x773.length c775) x773) rfl .nil) (fun x776 e776 => ?_)
                    rintro ⟨a777, c778⟩
                    refine sxo_nil ?_
                    refine sxq_anyB (.cons 0 rfl (.cons 0 rfl .nil)) (gk_F 0 rfl gk_nil) ?_
                    refine sxb_takeP 10 (.tuple #[.agg #[.slice a777 x776.1.length c778.1], .int .i64 x776.2]) rfl rfl rfl rfl (by kernel_rfl) (by kernel_rfl) (by kernel_rfl) (by kernel_rfl) (by kernel_rfl) rfl (show _ = #[true, true, true, true, true, true, true, true, true, true, true, false, false, false, false, false] from rfl) (yv_pv rfl) ?_
                    refine sxb_takeP 11 (.agg #[.slice a777 x776.1.length c778.1]) rfl rfl rfl rfl (by kernel_rfl) (by kernel_rfl) (by kernel_rfl) (by kernel_rfl) (by kernel_rfl) rfl (show _ = #[true, true, true, true, true, true, true, true, true, true, true, true, false, false, false, false] from rfl) (yv_pv rfl) ?_
                    refine sxb_takeP 12 (.int .i64 x776.2) rfl rfl rfl rfl (by kernel_rfl) (by kernel_rfl) (by kernel_rfl) (by kernel_rfl) (by kernel_rfl) rfl (show _ = #[true, true, true, true, true, true, true, true, true, true, true, true, true, false, false, false] from rfl) (yv_pv rfl) ?_
                    refine sxb_step 13 rfl (by kernel_rfl) (show _ = #[true, true, true, true, true, true, true, true, true, true, true, true, true, true, false, false] from rfl) ?_
                    refine sxo_alloc rfl tf24 rfl (fun g779 => ?_)
                    refine sxo_nil ?_
                    refine sxq_anyB (.cons 1 rfl (.cons 1 rfl .nil)) (gk_F 0 rfl gk_nil) ?_
                    refine sxb_step 14 rfl (by kernel_rfl) (show _ = #[true, true, true, true, true, true, true, true, true, true, true, true, true, true, true, false] from rfl) ?_
                    refine sxo_storeB (i := 0) rfl rfl rfl tf24 rfl rfl rfl rfl rfl ?_
                    refine sxo_nil ?_
                    refine sxq_anyB (.cons 1 rfl (.cons 1 rfl .nil)) (gk_F 0 rfl gk_nil) ?_
                    refine sxb_takeP 15 (.int .i64 x776.2) rfl rfl rfl rfl (by kernel_rfl) (by kernel_rfl) (by kernel_rfl) (by kernel_rfl) (by kernel_rfl) rfl (show _ = #[true, true, true, true, true, true, true, true, true, true, true, true, true, true, true, true] from rfl) (yv_pv rfl) ?_
                    refine sxb_done (by kernel_rfl) ?_
                    refine sxq_np ?_ (by intro c h; cases h)
                    exact sxq_meetP ((x776.2, x776.1), (g779, a777, c778)) (lk_cons rfl (lk_cons rfl (lk_cons rfl (lk_cons rfl lk_nil)))) (.cons 0 rfl .nil) (.cons 3 rfl (.cons 0 rfl .nil)) fk_nil
                  · refine sxo_meq (m' := ((M_graph_Of F (x1.length : Int) x773).bind fun x781 => M_L_CoreMore_j3 F x8 x11 x781.2 x781.1)) (rfl) ?_
                    refine sxo_alloc rfl tf24 rfl (fun g780 => ?_)
                    refine sxo_nil ?_
                    refine sxq_anyB (.cons 1 rfl (.cons 1 rfl .nil)) (gk_F 0 rfl gk_nil) ?_
                    refine sxb_step 9 rfl (by kernel_rfl) (show _ = #[true, true, true, true, true, true, true, true, true, true, false, false, false, true, false, false] from rfl) ?_
                    refine sxo_call ent23 rfl rfl rfl (fun x781 e781 => C_graph_Of F (x1.length : Int) x773 a774 c775 x781 e781) (.consR 0 (Ro eS44 44 2 (.slice a774 x773.length c775) x773) rfl .nil) (fun x781 e781 => ?_)
                    rintro ⟨a782, c783⟩
                    refine sxo_nil ?_
                    refine sxq_anyB (.cons 1 rfl (.cons 1 rfl .nil)) (gk_F 0 rfl gk_nil) ?_
                    refine sxb_takeP 10 (.tuple #[.agg #[.slice a782 x781.1.length c783.1], .int .i64 x781.2]) rfl rfl rfl rfl (by kernel_rfl) (by kernel_rfl) (by kernel_rfl) (by kernel_rfl) (by kernel_rfl) rfl (show _ = #[true, true, true, true, true, true, true, true, true, true, true, false, false, true, false, false] from rfl) (yv_pv rfl) ?_
                    refine sxb_takeP 11 (.agg #[.slice a782 x781.1.length c783.1]) rfl rfl rfl rfl (by kernel_rfl) (by kernel_rfl) (by kernel_rfl) (by kernel_rfl) (by kernel_rfl) rfl (show _ = #[true, true, true, true, true, true, true, true, true, true, true, true, false, true, false, false] from rfl) (yv_pv rfl) ?_
                    refine sxb_takeP 12 (.int .i64 x781.2) rfl rfl rfl rfl (by kernel_rfl) (by kernel_rfl) (by kernel_rfl) (by kernel_rfl) (by kernel_rfl) rfl (show _ = #[true, true, true, true, true, true, true, true, true, true, true, true, true, true, false, false] from rfl) (yv_pv rfl) ?_
                    refine sxb_step 14 rfl (by kernel_rfl) (show _ = #[true, true, true, true, true, true, true, true, true, true, true, true, true, true, true, false] from rfl) ?_
                    refine sxo_storeB (i := 0) rfl rfl rfl tf24 rfl rfl rfl rfl rfl ?_
                    refine sxo_nil ?_
                    refine sxq_anyB (.cons 1 rfl (.cons 1 rfl .nil)) (gk_F 0 rfl gk_nil) ?_
                    refine sxb_takeP 15 (.int .i64 x781.2) rfl rfl rfl rfl (by kernel_rfl) (by kernel_rfl) (by kernel_rfl) (by kernel_rfl) (by kernel_rfl) rfl (show _ = #[true, true, true, true, true, true, true, true, true, true, true, true, true, true, true, true] from rfl) (yv_pv rfl) ?_
                    refine sxb_done (by kernel_rfl) ?_
                    refine sxq_np ?_ (by intro c h; cases h)
                    exact sxq_meetP ((x781.2, x781.1), (g780, a782, c783)) (lk_cons rfl (lk_cons rfl (lk_cons rfl (lk_cons rfl lk_nil)))) (.cons 0 rfl .nil) (.cons 3 rfl (.cons 0 rfl .nil)) fk_nil
                · refine sxo_meq (m' := ((app 4398046511104 x770 ([(x4, x5)] : List (Int × Int))).bind fun x785 => ((M_graph_Of F (x1.length : Int) x785).bind fun x788 => M_L_CoreMore_j3 F x8 x11 x788.2 x788.1))) (rfl) ?_
                  refine sxo_alloc rfl tf24 rfl (fun g784 => ?_)
                  refine sxo_nil ?_
                  refine sxq_anyB (.cons 1 rfl (.cons 1 rfl .nil)) (gk_F 0 rfl gk_nil) ?_
                  refine sxb_step 8 rfl (by kernel_rfl) (show _ = #[true, true, true, true, true, true, true, true, true, false, false, false, false, true, false, false] from rfl) ?_
                  refine sxo_app 0 eS44_ok rfl Try.underlying45 tf44 rfl rfl rfl rfl rfl (.inl ⟨1, _, rfl⟩) rfl rfl (fun x785 e785 a786 c787 => ?_)
                  refine sxo_nil ?_
                  refine sxq_anyB (.cons 1 rfl (.cons 1 rfl .nil)) (gk_F 0 rfl gk_nil) ?_
                  refine sxb_step 9 rfl (by kernel_rfl) (show _ = #[true, true, true, true, true, true, true, true, true, true, false, false, false, true, false, false] from rfl) ?_
                  refine sxo_call ent23 rfl rfl rfl (fun x788 e788 => C_graph_Of F (x1.length : Int) x785 a786 c787 x788 e788) (.consR 0 (Ro eS44 44 2 (.slice a786 x785.length c787) x785) rfl .nil) (fun x788 e788 => ?_)
                  rintro ⟨a789, c790⟩
                  refine sxo_nil ?_
                  refine sxq_anyB (.cons 1 rfl (.cons 1 rfl .nil)) (gk_F 0 rfl gk_nil) ?_
                  refine sxb_takeP 10 (.tuple #[.agg #[.slice a789 x788.1.length c790.1], .int .i64 x788.2]) rfl rfl rfl rfl (by kernel_rfl) (by kernel_rfl) (by kernel_rfl) (by kernel_rfl) (by kernel_rfl) rfl (show _ = #[true, true, true, true, true, true, true, true, true, true, true, false, false, true, false, false] from rfl) (yv_pv rfl) ?_
                  refine sxb_takeP 11 (.agg #[.slice a789 x788.1.length c790.1]) rfl rfl rfl rfl (by kernel_rfl) (by kernel_rfl) (by kernel_rfl) (by kernel_rfl) (by kernel_rfl) rfl (show _ = #[true, true, true, true, true, true, true, true, true, true, true, true, false, true, false, false] from rfl) (yv_pv rfl) ?_
                  refine sxb_takeP 12 (.int .i64 x788.2) rfl rfl rfl rfl (by kernel_rfl) (by kernel_rfl) (by kernel_rfl) (by kernel_rfl) (by kernel_rfl) rfl (show _ = #[true, true, true, true, true, true, true, true, true, true, true, true, true, true, false, false] from rfl) (yv_pv rfl) ?_
                  refine sxb_step 14 rfl (by kernel_rfl) (show _ = #[true, true, true, true, true, true, true, true, true, true, true, true, true, true, true, false] from rfl) ?_
                  refine sxo_storeB (i := 0) rfl rfl rfl tf24 rfl rfl rfl rfl rfl ?_
                  refine sxo_nil ?_
                  refine sxq_anyB (.cons 1 rfl (.cons 1 rfl .nil)) (gk_F 0 rfl gk_nil) ?_
                  refine sxb_takeP 15 (.int .i64 x788.2) rfl rfl rfl rfl (by kernel_rfl) (by kernel_rfl) (by kernel_rfl) (by kernel_rfl) (by kernel_rfl) rfl (show _ = #[true, true, true, true, true, true, true, true, true, true, true, true, true, true, true, true] from rfl) (yv_pv rfl) ?_
                  refine sxb_done (by kernel_rfl) ?_
                  refine sxq_np ?_ (by intro c h; cases h)
                  exact sxq_meetP ((x788.2, x788.1), (g784, a789, c790)) (lk_cons rfl (lk_cons rfl (lk_cons rfl (lk_cons rfl lk_nil)))) (.cons 0 rfl .nil) (.cons 3 rfl (.cons 0 rfl .nil)) fk_nil
              · refine sxo_meq (m' := ((app 4398046511104 ([] : List (Int × Int)) x14.1).bind fun x792 => ((app 4398046511104 x792 ([(x4, x5)] : List (Int × Int))).bind fun x795 => ((M_graph_Of F (x1.length : Int) x795).bind fun x798 => M_L_CoreMore_j3 F x8 x11 x798.2 x798.1)))) (rfl) ?_
                refine sxo_alloc rfl tf24 rfl (fun g791 => ?_)
                refine sxo_nil ?_
                refine sxq_anyB (.cons 1 rfl (.cons 1 rfl .nil)) (gk_F 0 rfl gk_nil) ?_
                refine sxb_step 5 rfl (by kernel_rfl) (show _ = #[true, true, true, true, true, true, true, true, false, false, false, false, false, true, false, false] from rfl) ?_
                refine sxo_app 0 eS44_ok rfl Try.underlying45 tf44 rfl rfl rfl rfl rfl (.inl ⟨3, _, rfl⟩) rfl rfl (fun x792 e792 a793 c794 => ?_)
                refine sxo_nil ?_
                refine sxq_anyB (.cons 1 rfl (.cons 1 rfl .nil)) (gk_F 0 rfl gk_nil) ?_
                refine sxb_step 8 rfl (by kernel_rfl) (show _ = #[true, true, true, true, true, true, true, true, true, false, false, false, false, true, false, false] from rfl) ?_
                refine sxo_app 0 eS44_ok rfl Try.underlying45 tf44 rfl rfl rfl rfl rfl (.inl ⟨1, _, rfl⟩) rfl rfl (fun x795 e795 a796 c797 => ?_)
                refine sxo_nil ?_
                refine sxq_anyB (.cons 1 rfl (.cons 1 rfl .nil)) (gk_F 0 rfl gk_nil) ?_
                refine sxb_step 9 rfl (by kernel_rfl) (show _ = #[true, true, true, true, true, true, true, true, true, true, false, false, false, true, false, false] from rfl) ?_
                refine sxo_call ent23 rfl rfl rfl (fun x798 e798 => C_graph_Of F (x1.length : Int) x795 a796 c797 x798 e798) (.consR 0 (Ro eS44 44 2 (.slice a796 x795.length c797) x795) rfl .nil) (fun x798 e798 => ?_)
                rintro ⟨a799, c800⟩
                refine sxo_nil ?_
                refine sxq_anyB (.cons 1 rfl (.cons 1 rfl .nil)) (gk_F 0 rfl gk_nil) ?_
                refine sxb_takeP 10 (.tuple #[.agg #[.slice a799 x798.1.length c800.1], .int .i64 x798.2]) rfl rfl rfl rfl (by kernel_rfl) (by kernel_rfl) (by kernel_rfl) (by kernel_rfl) (by kernel_rfl) rfl (show _ = #[true, true, true, true, true, true, true, true, true, true, true, false, false, true, false, false] from rfl) (yv_pv rfl) ?_
                refine sxb_takeP 11 (.agg #[.slice a799 x798.1.length c800.1]) rfl rfl rfl rfl (by kernel_rfl) (by kernel_rfl) (by kernel_rfl) (by kernel_rfl) (by kernel_rfl) rfl (show _ = #[true, true, true, true, true, true, true, true, true, true, true, true, false, true, false, false] from rfl) (yv_pv rfl) ?_
                refine sxb_takeP 12 (.int .i64 x798.2) rfl rfl rfl rfl (by kernel_rfl) (by kernel_rfl) (by kernel_rfl) (by kernel_rfl) (by kernel_rfl) rfl (show _ = #[true, true, true, true, true, true, true, true, true, true, true, true, true, true, false, false] from rfl) (yv_pv rfl) ?_
                refine sxb_step 14 rfl (by kernel_rfl) (show _ = #[true, true, true, true, true, true, true, true, true, true, true, true, true, true, true, false] from rfl) ?_
                refine sxo_storeB (i := 0) rfl rfl rfl tf24 rfl rfl rfl rfl rfl ?_
                refine sxo_nil ?_
                refine sxq_anyB (.cons 1 rfl (.cons 1 rfl .nil)) (gk_F 0 rfl gk_nil) ?_
                refine sxb_takeP 15 (.int .i64 x798.2) rfl rfl rfl rfl (by kernel_rfl) (by kernel_rfl) (by kernel_rfl) (by kernel_rfl) (by kernel_rfl) rfl (show _ = #[true, true, true, true, true, true, true, true, true, true, true, true, true, true, true, true] from rfl) (yv_pv rfl) ?_
                refine sxb_done (by kernel_rfl) ?_
                refine sxq_np ?_ (by intro c h; cases h)
                exact sxq_meetP ((x798.2, x798.1), (g791, a799, c800)) (lk_cons rfl (lk_cons rfl (lk_cons rfl (lk_cons rfl lk_nil)))) (.cons 0 rfl .nil) (.cons 3 rfl (.cons 0 rfl .nil)) fk_nil
            · refine sxo_meq (m' := ((app 4398046511104 ([] : List (Int × Int)) x14.1).bind fun x804 => ((app 4398046511104 x804 ([(x4, x5)] : List (Int × Int))).bind fun x807 => ((M_graph_Of F (x1.length : Int) x807).bind fun x810 => M_L_CoreMore_j3 F x8 x11 x810.2 x810.1)))) (rfl) ?_
              refine sxo_alloc rfl tf24 rfl (fun g801 => ?_)
              refine sxo_nil ?_
              refine sxq_anyB (.cons 1 rfl (.cons 1 rfl .nil)) (gk_F 0 rfl gk_nil) ?_
              refine sxb_step 3 rfl (by kernel_rfl) (show _ = #[true, true, true, true, true, false, true, true, false, false, false, false, false, true, false, false] from rfl) ?_
              refine sxo_slit (vs := []) (ys := ([] : List (Int × Int))) eS44_ok (by decide) rfl Try.underlying45 tf44 rfl rfl rfl rfl rfl (by decide) (fun a802 c803 => ?_)
              refine sxo_nil ?_
              refine sxq_anyB (.cons 1 rfl (.cons 1 rfl .nil)) (gk_F 0 rfl gk_nil) ?_
              refine sxb_step 5 rfl (by kernel_rfl) (show _ = #[true, true, true, true, true, true, true, true, false, false, false, false, false, true, false, false] from rfl) ?_
              refine sxo_app 0 eS44_ok rfl Try.underlying45 tf44 rfl rfl rfl rfl rfl (.inl ⟨3, _, rfl⟩) rfl rfl (fun x804 e804 a805 c806 => ?_)
              refine sxo_nil ?_
              refine sxq_anyB (.cons 1 rfl (.cons 1 rfl .nil)) (gk_F 0 rfl gk_nil) ?_
              refine sxb_step 8 rfl (by kernel_rfl) (show _ = #[true, true, true, true, true, true, true, true, true, false, false, false, false, true, false, false] from rfl) ?_
              refine sxo_app 0 eS44_ok rfl Try.underlying45 tf44 rfl rfl rfl rfl rfl (.inl ⟨1, _, rfl⟩) rfl rfl (fun x807 e807 a808 c809 => ?_)
              refine sxo_nil ?_
              refine sxq_anyB (.cons 1 rfl (.cons 1 rfl .nil)) (gk_F 0 rfl gk_nil) ?_
              refine sxb_step 9 rfl (by kernel_rfl) (show _ = #[true, true, true, true, true, true, true, true, true, true, false, false, false, true, false, false] from rfl) ?_
              refine sxo_call ent23 rfl rfl rfl (fun x810 e810 => C_graph_Of F (x1.length : Int) x807 a808 c809 x810 e810) (.consR 0 (Ro eS44 44 2 (.slice a808 x807.length c809) x807) rfl .nil) (fun x810 e810 => ?_)
              rintro ⟨a811, c812⟩
              refine sxo_nil ?_
              refine sxq_anyB (.cons 1 rfl (.cons 1 rfl .nil)) (gk_F 0 rfl gk_nil) ?_
              refine sxb_takeP 10 (.tuple #[.agg #[.slice a811 x810.1.length c812.1], .int .i64 x810.2]) rfl rfl rfl rfl (by kernel_rfl) (by kernel_rfl) (by kernel_rfl) (by kernel_rfl) (by kernel_rfl) rfl (show _ = #[true, true, true, true, true, true, true, true, true, true, true, false, false, true, false, false] from rfl) (yv_pv rfl) ?_
              refine sxb_takeP 11 (.agg #[.slice a811 x810.1.length c812.1]) rfl rfl rfl rfl (by kernel_rfl) (by kernel_rfl) (by kernel_rfl) (by kernel_rfl) (by kernel_rfl) rfl (show _ = #[true, true, true, true, true, true, true, true, true, true, true, true, false, true, false, false] from rfl) (yv_pv rfl) ?_
              refine sxb_takeP 12 (.int .i64 x810.2) rfl rfl rfl rfl (by kernel_rfl) (by kernel_rfl) (by kernel_rfl) (by kernel_rfl) (by kernel_rfl) rfl (show _ = #[true, true, true, true, true, true, true, true, true, true, true, true, true, true, false, false] from rfl) (yv_pv rfl) ?_
              refine sxb_step 14 rfl (by kernel_rfl) (show _ = #[true, true, true, true, true, true, true, true, true, true, true, true, true, true, true, false] from rfl) ?_
              refine sxo_storeB (i := 0) rfl rfl rfl tf24 rfl rfl rfl rfl rfl ?_
              refine sxo_nil ?_
              refine sxq_anyB (.cons 1 rfl (.cons 1 rfl .nil)) (gk_F 0 rfl gk_nil) ?_
              refine sxb_takeP 15 (.int .i64 x810.2) rfl rfl rfl rfl (by kernel_rfl) (by kernel_rfl) (by kernel_rfl) (by kernel_rfl) (by kernel_rfl) rfl (show _ = #[true, true, true, true, true, true, true, true, true, true, true, true, true, true, true, true] from rfl) (yv_pv rfl) ?_
              refine sxb_done (by kernel_rfl) ?_
              refine sxq_np ?_ (by intro c h; cases h)
              exact sxq_meetP ((x810.2, x810.1), (g801, a811, c812)) (lk_cons rfl (lk_cons rfl (lk_cons rfl (lk_cons rfl lk_nil)))) (.cons 0 rfl .nil) (.cons 3 rfl (.cons 0 rfl .nil)) fk_nil
          · refine sxo_meq (m' := ((app 4398046511104 ([] : List (Int × Int)) x14.1).bind fun x816 => ((app 4398046511104 x816 ([(x4, x5)] : List (Int × Int))).bind fun x821 => ((M_graph_Of F (x1.length : Int) x821).bind fun x824 => M_L_CoreMore_j3 F x8 x11 x824.2 x824.1)))) (rfl) ?_
            refine sxo_alloc rfl tf24 rfl (fun g813 => ?_)
            refine sxo_nil ?_
            refine sxq_anyB (.cons 1 rfl (.cons 1 rfl .nil)) (gk_F 0 rfl gk_nil) ?_
            refine sxb_two 3 7 rfl rfl (by kernel_rfl) (show _ = #[true, true, true, true, true, false, true, false, false, false, false, false, false, true, false, false] from rfl) (show _ = #[true, true, true, false, true, false, true, true, false, false, false, false, false, true, false, false] from rfl) ?_ ?_
            · refine sxo_slit (vs := []) (ys := ([] : List (Int × Int))) eS44_ok (by decide) rfl Try.underlying45 tf44 rfl rfl rfl rfl rfl (by decide) (fun a814 c815 => ?_)
              refine sxo_nil ?_
              refine sxq_anyB (.cons 1 rfl (.cons 1 rfl .nil)) (gk_F 0 rfl gk_nil) ?_
              refine sxb_two 5 7 rfl rfl (by kernel_rfl) (show _ = #[true, true, true, true, true, true, true, false, false, false, false, false, false, true, false, false] from rfl) (show _ = #[true, true, true, true, true, false, true, true, false, false, false, false, false, true, false, false] from rfl) ?_ ?_
              · refine sxo_app 0 eS44_ok rfl Try.underlying45 tf44 rfl rfl rfl rfl rfl (.inl ⟨2, _, rfl⟩) rfl rfl (fun x816 e816 a817 c818 => ?_)
                refine sxo_nil ?_
                refine sxq_anyB (.cons 1 rfl (.cons 1 rfl .nil)) (gk_F 0 rfl gk_nil) ?_
                refine sxb_step 7 rfl (by kernel_rfl) (show _ = #[true, true, true, true, true, true, true, true, false, false, false, false, false, true, false, false] from rfl) ?_
                refine sxo_slit (vs := [.agg #[.int .i64 x4, .int .i64 x5]]) (ys := ([(x4, x5)] : List (Int × Int))) eS44_ok (by decide) rfl Try.underlying45 tf44 rfl rfl rfl rfl rfl (by decide) (fun a819 c820 => ?_)
                refine sxo_nil ?_
                refine sxq_anyB (.cons 1 rfl (.cons 1 rfl .nil)) (gk_F 0 rfl gk_nil) ?_
                refine sxb_step 8 rfl (by kernel_rfl) (show _ = #[true, true, true, true, true, true, true, true, true, false, false, false, false, true, false, false] from rfl) ?_
                refine sxo_app 1 eS44_ok rfl Try.underlying45 tf44 rfl rfl rfl rfl rfl (.inl ⟨0, _, rfl⟩) rfl rfl (fun x821 e821 a822 c823 => ?_)
                refine sxo_nil ?_
                refine sxq_anyB (.cons 1 rfl (.cons 1 rfl .nil)) (gk_F 0 rfl gk_nil) ?_
                refine sxb_step 9 rfl (by kernel_rfl) (show _ = #[true, true, true, true, true, true, true, true, true, true, false, false, false, true, false, false] from rfl) ?_
                refine sxo_call ent23 rfl rfl rfl (fun x824 e824 => C_graph_Of F (x1.length : Int) x821 a822 c823 x824 e824) (.consR 0 (Ro eS44 44 2 (.slice a822 x821.length c823) x821) rfl .nil) (fun x824 e824 => ?_)
                rintro ⟨a825, c826⟩
                refine sxo_nil ?_
                refine sxq_anyB (.cons 1 rfl (.cons 1 rfl .nil)) (gk_F 0 rfl gk_nil) ?_
                refine sxb_takeP 10 (.tuple #[.agg #[.slice a825 x824.1.length c826.1], .int .i64 x824.2]) rfl rfl rfl rfl (by kernel_rfl) (by kernel_rfl) (by kernel_rfl) (by kernel_rfl) (by kernel_rfl) rfl (show _ = #[true, true, true, true, true, true, true, true, true, true, true, false, false, true, false, false] from rfl) (yv_pv rfl) ?_
                refine sxb_takeP 11 (.agg #[.slice a825 x824.1.length c826.1]) rfl rfl rfl rfl (by kernel_rfl) (by kernel_rfl) (by kernel_rfl) (by kernel_rfl) (by kernel_rfl) rfl (show _ = #[true, true, true, true, true, true, true, true, true, true, true, true, false, true, false, false] from rfl) (yv_pv rfl) ?_
                refine sxb_takeP 12 (.int .i64 x824.2) rfl rfl rfl rfl (by kernel_rfl) (by kernel_rfl) (by kernel_rfl) (by kernel_rfl) (by kernel_rfl) rfl (show _ = #[true, true, true, true, true, true, true, true, true, true, true, true, true, true, false, false] from rfl) (yv_pv rfl) ?_
                refine sxb_step 14 rfl (by kernel_rfl) (show _ = #[true, true, true, true, true, true, true, true, true, true, true, true, true, true, true, false] from rfl) ?_
                refine sxo_storeB (i := 0) rfl rfl rfl tf24 rfl rfl rfl rfl rfl ?_
                refine sxo_nil ?_
                refine sxq_anyB (.cons 1 rfl (.cons 1 rfl .nil)) (gk_F 0 rfl gk_nil) ?_
                refine sxb_takeP 15 (.int .i64 x824.2) rfl rfl rfl rfl (by kernel_rfl) (by kernel_rfl) (by kernel_rfl) (by kernel_rfl) (by kernel_rfl) rfl (show _ = #[true, true, true, true, true, true, true, true, true, true, true, true, true, true, true, true] from rfl) (yv_pv rfl) ?_
                refine sxb_done (by kernel_rfl) ?_
                refine sxq_np ?_ (by intro c h; cases h)
                exact sxq_meetP ((x824.2, x824.1), (g813, a825, c826)) (lk_cons rfl (lk_cons rfl (lk_cons rfl (lk_cons rfl lk_nil)))) (.cons 0 rfl .nil) (.cons 3 rfl (.cons 0 rfl .nil)) fk_nil
              · refine sxo_meq (m' := ((app 4398046511104 ([] : List (Int × Int)) x14.1).bind fun x829 => ((app 4398046511104 x829 ([(x4, x5)] : List (Int × Int))).bind fun x832 => ((M_graph_Of F (x1.length : Int) x832).bind fun x835 => M_L_CoreMore_j3 F x8 x11 x835.2 x835.1)))) (rfl) ?_
                refine sxo_slit (vs := [.agg #[.int .i64 x4, .int .i64 x5]]) (ys := ([(x4, x5)] : List (Int × Int))) eS44_ok (by decide) rfl Try.underlying45 tf44 rfl rfl rfl rfl rfl (by decide) (fun a827 c828 => ?_)
                refine sxo_nil ?_
                refine sxq_anyB (.cons 1 rfl (.cons 1 rfl .nil)) (gk_F 0 rfl gk_nil) ?_
                refine sxb_step 5 rfl (by kernel_rfl) (show _ = #[true, true, true, true, true, true, true, true, false, false, false, false, false, true, false, false] from rfl) ?_
                refine sxo_app 1 eS44_ok rfl Try.underlying45 tf44 rfl rfl rfl rfl rfl (.inl ⟨3, _, rfl⟩) rfl rfl (fun x829 e829 a830 c831 => ?_)
                refine sxo_nil ?_
                refine sxq_anyB (.cons 1 rfl (.cons 1 rfl .nil)) (gk_F 0 rfl gk_nil) ?_
                refine sxb_step 8 rfl (by kernel_rfl) (show _ = #[true, true, true, true, true, true, true, true, true, false, false, false, false, true, false, false] from rfl) ?_
                refine sxo_app 0 eS44_ok rfl Try.underlying45 tf44 rfl rfl rfl rfl rfl (.inl ⟨1, _, rfl⟩) rfl rfl (fun x832 e832 a833 c834 => ?_)
                refine sxo_nil ?_
                refine sxq_anyB (.cons 1 rfl (.cons 1 rfl .nil)) (gk_F 0 rfl gk_nil) ?_
                refine sxb_step 9 rfl (by kernel_rfl) (show _ = #[true, true, true, true, true, true, true, true, true, true, false, false, false, true, false, false] from rfl) ?_
                refine sxo_call ent23 rfl rfl rfl (fun x835 e835 => C_graph_Of F (x1.length : Int) x832 a833 c834 x835 e835) (.consR 0 (Ro eS44 44 2 (.slice a833 x832.length c834) x832) rfl .nil) (fun x835 e835 => ?_)
                rintro ⟨a836, c837⟩
                refine sxo_nil ?_
                refine sxq_anyB (.cons 1 rfl (.cons 1 rfl .nil)) (gk_F 0 rfl gk_nil) ?_
                refine sxb_takeP 10 (.tuple #[.agg #[.slice a836 x835.1.length c837.1], .int .i64 x835.2]) rfl rfl rfl rfl (by kernel_rfl) (by kernel_rfl) (by kernel_rfl) (by kernel_rfl) (by kernel_rfl) rfl (show _ = #[true, true, true, true, true, true, true, true, true, true, true, false, false, true, false, false] from rfl) (yv_pv rfl) ?_
                refine sxb_takeP 11 (.agg #[.slice a836 x835.1.length c837.1]) rfl rfl rfl rfl (by kernel_rfl) (by kernel_rfl) (by kernel_rfl) (by kernel_rfl) (by kernel_rfl) rfl (show _ = #[true, true, true, true, true, true, true, true, true, true, true, true, false, true, false, false] from rfl) (yv_pv rfl) ?_
                refine sxb_takeP 12 (.int .i64 x835.2) rfl rfl rfl rfl (by kernel_rfl) (by kernel_rfl) (by kernel_rfl) (by kernel_rfl) (by kernel_rfl) rfl (show _ = #[true, true, true, true, true, true, true, true, true, true, true, true, true, true, false, false] from rfl) (yv_pv rfl) ?_
                refine sxb_step 14 rfl (by kernel_rfl) (show _ = #[true, true, true, true, true, true, true, true, true, true, true, true, true, true, true, false] from rfl) ?_
                refine sxo_storeB (i := 0) rfl rfl rfl tf24 rfl rfl rfl rfl rfl ?_
                refine sxo_nil ?_
                refine sxq_anyB (.cons 1 rfl (.cons 1 rfl .nil)) (gk_F 0 rfl gk_nil) ?_
                refine sxb_takeP 15 (.int .i64 x835.2) rfl rfl rfl rfl (by kernel_rfl) (by kernel_rfl) (by kernel_rfl) (by kernel_rfl) (by kernel_rfl) rfl (show _ = #[true, true, true, true, true, true, true, true, true, true, true, true, true, true, true, true] from rfl) (yv_pv rfl) ?_
                refine sxb_done (by kernel_rfl) ?_
                refine sxq_np ?_ (by intro c h; cases h)
                exact sxq_meetP ((x835.2, x835.1), (g813, a836, c837)) (lk_cons rfl (lk_cons rfl (lk_cons rfl (lk_cons rfl lk_nil)))) (.cons 0 rfl .nil) (.cons 3 rfl (.cons 0 rfl .nil)) fk_nil
            · refine sxo_meq (m' := ((app 4398046511104 ([] : List (Int × Int)) x14.1).bind fun x842 => ((app 4398046511104 x842 ([(x4, x5)] : List (Int × Int))).bind fun x845 => ((M_graph_Of F (x1.length : Int) x845).bind fun x848 => M_L_CoreMore_j3 F x8 x11 x848.2 x848.1)))) (rfl) ?_
              refine sxo_slit (vs := [.agg #[.int .i64 x4, .int .i64 x5]]) (ys := ([(x4, x5)] : List (Int × Int))) eS44_ok (by decide) rfl Try.underlying45 tf44 rfl rfl rfl rfl rfl (by decide) (fun a838 c839 => ?_)
              refine sxo_nil ?_
              refine sxq_anyB (.cons 1 rfl (.cons 1 rfl .nil)) (gk_F 0 rfl gk_nil) ?_
              refine sxb_step 3 rfl (by kernel_rfl) (show _ = #[true, true, true, true, true, false, true, true, false, false, false, false, false, true, false, false] from rfl) ?_
              refine sxo_slit (vs := []) (ys := ([] : List (Int × Int))) eS44_ok (by decide) rfl Try.underlying45 tf44 rfl rfl rfl rfl rfl (by decide) (fun a840 c841 => ?_)
              refine sxo_nil ?_
              refine sxq_anyB (.cons 1 rfl (.cons 1 rfl .nil)) (gk_F 0 rfl gk_nil) ?_
              refine sxb_step 5 rfl (by kernel_rfl) (show _ = #[true, true, true, true, true, true, true, true, false, false, false, false, false, true, false, false] from rfl) ?_
              refine sxo_app 0 eS44_ok rfl Try.underlying45 tf44 rfl rfl rfl rfl rfl (.inl ⟨3, _, rfl⟩) rfl rfl (fun x842 e842 a843 c844 => ?_)
              refine sxo_nil ?_
              refine sxq_anyB (.cons 1 rfl (.cons 1 rfl .nil)) (gk_F 0 rfl gk_nil) ?_
              refine sxb_step 8 rfl (by kernel_rfl) (show _ = #[true, true, true, true, true, true, true, true, true, false, false, false, false, true, false, false] from rfl) ?_
              refine sxo_app 0 eS44_ok rfl Try.underlying45 tf44 rfl rfl rfl rfl rfl (.inl ⟨1, _, rfl⟩) rfl rfl (fun x845 e845 a846 c847 => ?_)
              refine sxo_nil ?_
              refine sxq_anyB (.cons 1 rfl (.cons 1 rfl .nil)) (gk_F 0 rfl gk_nil) ?_
              refine sxb_step 9 rfl (by kernel_rfl) (show _ = #[true, true, true, true, true, true, true, true, true, true, false, false, false, true, false, false] from rfl) ?_
              refine sxo_call ent23 rfl rfl rfl (fun x848 e848 => C_graph_Of F (x1.length : Int) x845 a846 c847 x848 e848) (.consR 0 (Ro eS44 44 2 (.slice a846 x845.length c847) x845) rfl .nil) (fun x848 e848 => ?_)
              rintro ⟨a849, c850⟩
              refine sxo_nil ?_
              refine sxq_anyB (.cons 1 rfl (.cons 1 rfl .nil)) (gk_F 0 rfl gk_nil) ?_
              refine sxb_takeP 10 (.tuple #[.agg #[.slice a849 x848.1.length c850.1], .int .i64 x848.2]) rfl rfl rfl rfl (by kernel_rfl) (by kernel_rfl) (by kernel_rfl) (by kernel_rfl) (by kernel_rfl) rfl (show _ = #[true, true, true, true, true, true, true, true, true, true, true, false, false, true, false, false] from rfl) (yv_pv rfl) ?_
              refine sxb_takeP 11 (.agg #[.slice a849 x848.1.length c850.1]) rfl rfl rfl rfl (by kernel_rfl) (by kernel_rfl) (by kernel_rfl) (by kernel_rfl) (by kernel_rfl) rfl (show _ = #[true, true, true, true, true, true, true, true, true, true, true, true, false, true, false, false] from rfl) (yv_pv rfl) ?_
              refine sxb_takeP 12 (.int .i64 x848.2) rfl rfl rfl rfl (by kernel_rfl) (by kernel_rfl) (by kernel_rfl) (by kernel_rfl) (by kernel_rfl) rfl (show _ = #[true, true, true, true, true, true, true, true, true, true, true, true, true, true, false, false] from rfl) (yv_pv rfl) ?_
              refine sxb_step 14 rfl (by kernel_rfl) (show _ = #[true, true, true, true, true, true, true, true, true, true, true, true, true, true, true, false] from rfl) ?_
              refine sxo_storeB (i := 0) rfl rfl rfl tf24 rfl rfl rfl rfl rfl ?_
              refine sxo_nil ?_
              refine sxq_anyB (.cons 1 rfl (.cons 1 rfl .nil)) (gk_F 0 rfl gk_nil) ?_
              refine sxb_takeP 15 (.int .i64 x848.2) rfl rfl rfl rfl (by kernel_rfl) (by kernel_rfl) (by kernel_rfl) (by kernel_rfl) (by kernel_rfl) rfl (show _ = #[true, true, true, true, true, true, true, true, true, true, true, true, true, true, true, true] from rfl) (yv_pv rfl) ?_
              refine sxb_done (by kernel_rfl) ?_
              refine sxq_np ?_ (by intro c h; cases h)
              exact sxq_meetP ((x848.2, x848.1), (g813, a849, c850)) (lk_cons rfl (lk_cons rfl (lk_cons rfl (lk_cons rfl lk_nil)))) (.cons 0 rfl .nil) (.cons 3 rfl (.cons 0 rfl .nil)) fk_nil
        · rintro ⟨⟨x208, x211⟩, ⟨g207, a209, c210⟩⟩
          try dsimp only
          refine sxc_seq ?_
          refine sxc_seq ?_
          refine sxc_region ?_
          refine sxo_move rfl rfl rfl ?_
          refine sxo_neq rfl rfl rfl rfl ?_
          refine sxo_nil ?_
          refine sxq_next ?_
          refine sxc_if rfl (fun h675 => ?_) (fun h675 => ?_)
          · refine sxc_seq ?_
            refine sxc_region ?_
            refine sxo_assign rfl rfl rfl ?_
            refine sxo_nil ?_
            refine sxq_next ?_
            refine sxc_ret ?_
            refine sxq_thenR ?_
            exact sxq_doneP () (.inl rfl) (res1 rfl rfl) (fun h => by subst h; rfl) (fun h => by subst h; exact .nil)
          · refine sxc_skip ?_
            refine sxq_next ?_
            refine sxc_seq ?_
            refine sxc_region ?_
            refine sxo_loadB (i := 0) rfl rfl tf24 rfl rfl (by simp) rfl rfl ?_
            refine sxo_call ent10 rfl rfl rfl (fun x213 e213 => C_core_Numbers F x211 a209 c210 x213 e213) (.consG 1 rfl (nest_sl rN25_in) .nil) (fun x213 e213 => ?_)
            rintro ⟨a214, c215⟩
            refine sxo_move rfl rfl rfl ?_
            refine sxo_extract rfl rfl rfl rfl ?_
            refine sxo_extract rfl rfl rfl rfl ?_
            refine sxo_assign rfl rfl rfl ?_
            refine sxo_assign rfl rfl rfl ?_
            refine sxo_nil ?_
            refine sxq_next ?_
            refine sxc_seq ?_
            refine sxc_region ?_
            refine sxo_loadB (i := 0) rfl rfl tf24 rfl rfl (by simp) rfl rfl ?_
            refine sxo_callM ent11 rfl rfl rfl (fun x216 e216 => C_core_Threes F x211 a209 c210 x216 e216) .nil .nil (.consG 2 rfl (nest_sl rN25_in) .nil) (fun x216 e216 => ?_)
            rintro ⟨a217, c218⟩
            refine sxo_move rfl rfl rfl ?_
            refine sxo_extract rfl rfl rfl rfl ?_
            refine sxo_extract rfl rfl rfl rfl ?_
            refine sxo_extract rfl rfl rfl rfl ?_
            refine sxo_assign rfl rfl rfl ?_
            refine sxo_assign rfl rfl rfl ?_
            refine sxo_assign rfl rfl rfl ?_
            refine sxo_nil ?_
            refine sxq_next ?_
            refine sxc_seq ?_
            refine sxc_seq ?_
            refine sxc_region ?_
            refine sxo_move rfl rfl rfl ?_
            refine sxo_neq rfl rfl rfl rfl ?_
            refine sxo_move rfl rfl rfl ?_
            refine sxo_case 3 ((x213.2 : Int) != 0) [(5, .slice a9 x8.1.length c10), (8, .int .i64 x11.2.1), (14, .slice a214 x213.1.length c215), (17, .int .i64 x216.2.1), (86, .bool (((x213.2 : Int) != 0) || ((x216.2.2 : Int) != 0)))] (fun h223 => ?_) (fun h223 => ?_) ?_
            · refine sxo_take (os := _) rfl ?_
              refine sxo_isT (k := 83) rfl h223 ?_
              refine sxo_skip rfl rfl rfl ?_
              refine sxo_skip rfl rfl rfl ?_
              refine sxo_pick (b := true) rfl rfl rfl rfl ?_
              refine sxo_again (d := 86) (v := .bool (((x213.2 : Int) != 0) || ((x216.2.2 : Int) != 0))) rfl (by rw [h223]; simp only [Bool.true_or]) ?_
              refine sxo_nil ?_
              exact sxq_case (lk_cons rfl (lk_cons rfl (lk_cons rfl (lk_cons rfl (lk_cons rfl lk_nil)))))
            · refine sxo_take (os := _) rfl ?_
              refine sxo_isF (k := 83) rfl h223 ?_
              refine sxo_move rfl rfl rfl ?_
              refine sxo_neq rfl rfl rfl rfl ?_
              refine sxo_pick (b := false) rfl rfl rfl rfl ?_
              refine sxo_again (d := 86) (v := .bool (((x213.2 : Int) != 0) || ((x216.2.2 : Int) != 0))) rfl (by rw [h223]; simp only [Bool.false_or]) ?_
              refine sxo_nil ?_
              exact sxq_case (lk_cons rfl (lk_cons rfl (lk_cons rfl (lk_cons rfl (lk_cons rfl lk_nil)))))
            refine sxo_take (os := _) rfl ?_
            refine sxo_move rfl rfl rfl ?_
            refine sxo_case 6 (((x213.2 : Int) != 0) || ((x216.2.2 : Int) != 0)) [(5, .slice a9 x8.1.length c10), (8, .int .i64 x11.2.1), (14, .slice a214 x213.1.length c215), (17, .int .i64 x216.2.1), (93, .bool ((((x213.2 : Int) != 0) || ((x216.2.2 : Int) != 0)) || (((x213.1.length : Int) : Int) != (x8.1.length : Int))))] (fun h224 => ?_) (fun h224 => ?_) ?_
            · refine sxo_take (os := _) rfl ?_
              refine sxo_isT (k := 87) rfl h224 ?_
              refine sxo_skip rfl rfl rfl ?_
              refine sxo_skip rfl rfl rfl ?_
              refine sxo_skip rfl rfl rfl ?_
              refine sxo_skip rfl rfl rfl ?_
              refine sxo_skip rfl rfl rfl ?_
              refine sxo_pick (b := true) rfl rfl rfl rfl ?_
              refine sxo_again (d := 93) (v := .bool ((((x213.2 : Int) != 0) || ((x216.2.2 : Int) != 0)) || (((x213.1.length : Int) : Int) != (x8.1.length : Int)))) rfl (by rw [h224]; simp only [Bool.true_or]) ?_
              refine sxo_nil ?_
              exact sxq_case (lk_cons rfl (lk_cons rfl (lk_cons rfl (lk_cons rfl (lk_cons rfl lk_nil)))))
            · refine sxo_take (os := _) rfl ?_
              refine sxo_isF (k := 87) rfl h224 ?_
              refine sxo_move rfl rfl rfl ?_
              refine sxo_len rfl Try.underlying25 rfl rfl ?_
              refine sxo_move rfl rfl rfl ?_
              refine sxo_len rfl Try.underlying25 rfl rfl ?_
              refine sxo_neq rfl rfl rfl rfl ?_
              refine sxo_pick (b := false) rfl rfl rfl rfl ?_
              refine sxo_again (d := 93) (v := .bool ((((x213.2 : Int) != 0) || ((x216.2.2 : Int) != 0)) || (((x213.1.length : Int) : Int) != (x8.1.length : Int)))) rfl (by rw [h224]; simp only [Bool.false_or]) ?_
              refine sxo_nil ?_
              exact sxq_case (lk_cons rfl (lk_cons rfl (lk_cons rfl (lk_cons rfl (lk_cons rfl lk_nil)))))
            refine sxo_take (os := _) rfl ?_
            refine sxo_move rfl rfl rfl ?_
            refine sxo_case 4 ((((x213.2 : Int) != 0) || ((x216.2.2 : Int) != 0)) || (((x213.1.length : Int) : Int) != (x8.1.length : Int))) [(5, .slice a9 x8.1.length c10), (14, .slice a214 x213.1.length c215), (98, .bool (((((x213.2 : Int) != 0) || ((x216.2.2 : Int) != 0)) || (((x213.1.length : Int) : Int) != (x8.1.length : Int))) || (decide (x216.2.1 < x11.2.1))))] (fun h225 => ?_) (fun h225 => ?_) ?_
            · refine sxo_take (os := _) rfl ?_
              refine sxo_isT (k := 94) rfl h225 ?_
              refine sxo_skip rfl rfl rfl ?_
              refine sxo_skip rfl rfl rfl ?_
              refine sxo_skip rfl rfl rfl ?_
              refine sxo_pick (b := true) rfl rfl rfl rfl ?_
              refine sxo_again (d := 98) (v := .bool (((((x213.2 : Int) != 0) || ((x216.2.2 : Int) != 0)) || (((x213.1.length : Int) : Int) != (x8.1.length : Int))) || (decide (x216.2.1 < x11.2.1)))) rfl (by rw [h225]; simp only [Bool.true_or]) ?_
              refine sxo_nil ?_
              exact sxq_case (lk_cons rfl (lk_cons rfl (lk_cons rfl lk_nil)))
            · refine sxo_take (os := _) rfl ?_
              refine sxo_isF (k := 94) rfl h225 ?_
              refine sxo_move rfl rfl rfl ?_
              refine sxo_move rfl rfl rfl ?_
              refine sxo_lss rfl rfl rfl rfl ?_
              refine sxo_pick (b := false) rfl rfl rfl rfl ?_
              refine sxo_again (d := 98) (v := .bool (((((x213.2 : Int) != 0) || ((x216.2.2 : Int) != 0)) || (((x213.1.length : Int) : Int) != (x8.1.length : Int))) || (decide (x216.2.1 < x11.2.1)))) rfl (by rw [h225]; simp only [Bool.false_or]) ?_
              refine sxo_nil ?_
              exact sxq_case (lk_cons rfl (lk_cons rfl (lk_cons rfl lk_nil)))
            refine sxo_take (os := _) rfl ?_
            refine sxo_nil ?_
            refine sxq_next ?_
            refine sxc_if rfl (fun h674 => ?_) (fun h674 => ?_)
            · refine sxc_seq ?_
              refine sxc_region ?_
              refine sxo_assign rfl rfl rfl ?_
              refine sxo_nil ?_
              refine sxq_next ?_
              refine sxc_ret ?_
              refine sxq_thenR ?_
              exact sxq_doneP () (.inl rfl) (res1 rfl rfl) (fun h => by subst h; rfl) (fun h => by subst h; exact .nil)
            · refine sxc_skip ?_
              refine sxq_next ?_
              refine sxc_join (fun ((_, _) : (Unit × Unit)) => []) (fun ((_, _) : (Unit × Unit)) => []) (fun ((_, _) : (Unit × Unit)) => []) (fun ((_, _) : (Unit × Unit)) => []) (fun ((_, _) : (Unit × Unit)) => M_L_CoreMore_j11 F) ?_ ?_
              · refine sxc_seq ?_
                refine sxc_region ?_
                refine sxo_assign rfl rfl rfl ?_
                refine sxo_nil ?_
                refine sxq_next ?_
                refine sxc_block ?_
                refine sxc_loopP (fun ((x524, _) : (Int × Unit)) => [(5, .slice a9 x8.1.length c10), (14, .slice a214 x213.1.length c215), (19, .int .i64 x524)]) (fun ((x524, _) : (Int × Unit)) => []) (fun ((x524, _) : (Int × Unit)) => [Ro (eI .i64) 3 1 (.slice a9 x8.1.length c10) x8.1, Ro (eI .i64) 3 1 (.slice a214 x213.1.length c215) x213.1]) (fun ((x524, _) : (Int × Unit)) => []) (fun k (s : (Int × Unit)) => M_L_CoreMore_l16 F x8 x213 k s.1) (0, ()) F (lk_cons rfl (lk_cons rfl (lk_cons rfl lk_nil))) .nil (.cons 2 rfl (.cons 1 rfl .nil)) fk_nil (fun _ => rfl) ?_
                intro k599
                rintro ⟨x524, _⟩
                try dsimp only
                refine sxc_meq (m' := M_L_CoreMore_b16 F x8 x213 (M_L_CoreMore_l16 F x8 x213 k599) x524) rfl ?_
                refine sxc_seq ?_
                refine sxc_seq ?_
                refine sxc_region ?_
                refine sxo_move rfl rfl rfl ?_
                refine sxo_move rfl rfl rfl ?_
                refine sxo_len rfl Try.underlying25 rfl rfl ?_
                refine sxo_lss rfl rfl rfl rfl ?_
                refine sxo_nil ?_
                refine sxq_next ?_
                refine sxc_if rfl (fun h673 => ?_) (fun h673 => ?_)
                · refine sxc_skip ?_
                  refine sxq_next ?_
                  refine sxc_seq ?_
                  refine sxc_block ?_
                  refine sxc_join (fun ((x654, _) : (Bool × Unit)) => [(5, .slice a9 x8.1.length c10), (14, .slice a214 x213.1.length c215), (19, .int .i64 x524), (125, .bool x654)]) (fun ((x654, _) : (Bool × Unit)) => []) (fun ((x654, _) : (Bool × Unit)) => [Ro (eI .i64) 3 1 (.slice a9 x8.1.length c10) x8.1, Ro (eI .i64) 3 1 (.slice a214 x213.1.length c215) x213.1]) (fun ((x654, _) : (Bool × Unit)) => []) (fun ((x654, _) : (Bool × Unit)) => M_L_CoreMore_j18 F (M_L_CoreMore_l16 F x8 x213 k599) x524 x654) ?_ ?_
                  · refine sxc_idxO (j := 1) rfl (fun x656 e656 g657 h658 => ?_)
                    replace h658 : a214 = some ⟨g657, 0, none⟩ := h658
                    have h659 := own_of (k := x213.1.length) (c := c215) h658
                    refine sxc_idxO (j := 0) rfl (fun x660 e660 g661 h662 => ?_)
                    replace h662 : a9 = some ⟨g661, 0, none⟩ := h662
                    have h663 := own_of (k := x8.1.length) (c := c10) h662
                    refine sxc_split (fun h664 => ?_) (fun h664 => ?_)
                    · refine sxb_draw mixed [] [] [CellsAt g657 (x524.toNat * 1) ((eI .i64) x656), CellsAt g661 (x524.toNat * 1) ((eI .i64) x660)] .nil (gk_R 1 rfl (at_row (eI_ok .i64) e656 h658) (gk_R 0 rfl (at_row (eI_ok .i64) e660 h662) gk_nil)) 21 rfl ?_
                      refine sxb_takeP 0 (.slice a214 x213.1.length c215) rfl rfl rfl rfl (by kernel_rfl) (by kernel_rfl) (by kernel_rfl) (by kernel_rfl) (by kernel_rfl) rfl (show _ = #[true, false, false, false, false, false, false, false, false, false, false, false, false, false, false, false, false, false, false, false, false] from rfl) (yv_pv rfl) ?_
                      refine sxb_takeP 1 (.int .i64 x524) rfl rfl rfl rfl (by kernel_rfl) (by kernel_rfl) (by kernel_rfl) (by kernel_rfl) (by kernel_rfl) rfl (show _ = #[true, true, false, false, false, false, false, false, false, false, false, false, false, false, false, false, false, false, false, false, false] from rfl) (yv_pv rfl) ?_
                      refine sxb_again (d := 105) (v := .slice (some ⟨g657, 0, none⟩) x213.1.length c215) rfl (by rw [h658] <;> rfl) ?_
                      refine sxb_takeP 2 (.pointer (some ⟨g657, x524.toNat * 1, none⟩)) rfl rfl rfl rfl (by kernel_rfl) (by kernel_rfl) (by kernel_rfl) (by kernel_rfl) (by kernel_rfl) rfl (show _ = #[true, true, true, false, false, false, false, false, false, false, false, false, false, false, false, false, false, false, false, false, false] from rfl) (yv_idxO Try.underlying25 tf3 rfl rfl (idx_get e656).1 (idx_lt e656)) ?_
                      refine sxb_again (d := 105) (v := .slice a214 x213.1.length c215) rfl (by rw [h658] <;> rfl) ?_
                      refine sxb_take 3 (.int .i64 x656) [] rfl rfl rfl rfl (by kernel_rfl) (by kernel_rfl) (by kernel_rfl) (by kernel_rfl) (by kernel_rfl) (by kernel_rfl) rfl (show _ = #[true, true, true, true, false, false, false, false, false, false, false, false, false, false, false, false, false, false, false, false, false] from rfl) (yv_loadF (j := 0) rfl tf3 rfl rfl (fun _ => rfl) rfl) ?_
                      refine sxb_takeP 4 (.slice a9 x8.1.length c10) rfl rfl rfl rfl (by kernel_rfl) (by kernel_rfl) (by kernel_rfl) (by kernel_rfl) (by kernel_rfl) rfl (show _ = #[true, true, true, true, true, false, false, false, false, false, false, false, false, false, false, false, false, false, false, false, false] from rfl) (yv_pv rfl) ?_
                      refine sxb_takeP 5 (.int .i64 x524) rfl rfl rfl rfl (by kernel_rfl) (by kernel_rfl) (by kernel_rfl) (by kernel_rfl) (by kernel_rfl) rfl (show _ = #[true, true, true, true, true, true, false, false, false, false, false, false, false, false, false, false, false, false, false, false, false] from rfl) (yv_pv rfl) ?_
                      refine sxb_again (d := 109) (v := .slice (some ⟨g661, 0, none⟩) x8.1.length c10) rfl (by rw [h662] <;> rfl) ?_
                      refine sxb_takeP 6 (.pointer (some ⟨g661, x524.toNat * 1, none⟩)) rfl rfl rfl rfl (by kernel_rfl) (by kernel_rfl) (by kernel_rfl) (by kernel_rfl) (by kernel_rfl) rfl (show _ = #[true, true, true, true, true, true, true, false, false, false, false, false, false, false, false, false, false, false, false, false, false] from rfl) (yv_idxO Try.underlying25 tf3 rfl rfl (idx_get e660).1 (idx_lt e660)) ?_
                      refine sxb_again (d := 109) (v := .slice a9 x8.1.length c10) rfl (by rw [h662] <;> rfl) ?_
                      refine sxb_take 7 (.int .i64 x660) [] rfl rfl rfl rfl (by kernel_rfl) (by kernel_rfl) (by kernel_rfl) (by kernel_rfl) (by kernel_rfl) (by kernel_rfl) rfl (show _ = #[true, true, true, true, true, true, true, true, false, false, false, false, false, false, false, false, false, false, false, false, false] from rfl) (yv_loadF (j := 1) rfl tf3 rfl rfl (fun _ => rfl) rfl) ?_
                      refine sxb_takeP 8 (.bool (decide (x656 < x660))) rfl rfl rfl rfl (by kernel_rfl) (by kernel_rfl) (by kernel_rfl) (by kernel_rfl) (by kernel_rfl) rfl (show _ = #[true, true, true, true, true, true, true, true, true, false, false, false, false, false, false, false, false, false, false, false, false] from rfl) (yv_pv rfl) ?_
                      refine sxb_takeP 9 (.bool (decide (x656 < x660))) rfl rfl rfl rfl (by kernel_rfl) (by kernel_rfl) (by kernel_rfl) (by kernel_rfl) (by kernel_rfl) rfl (show _ = #[true, true, true, true, true, true, true, true, true, true, false, false, false, false, false, false, false, false, false, false, false] from rfl) (yv_pv rfl) ?_
                      refine sxb_again (d := 114) (v := .bool true) rfl (by rw [h664] <;> rfl) ?_
                      refine sxb_skip 10 rfl rfl rfl rfl (by kernel_rfl) (by kernel_rfl) (by kernel_rfl) (by kernel_rfl) (by kernel_rfl) rfl (show _ = #[true, true, true, true, true, true, true, true, true, true, true, false, false, false, false, false, false, false, false, false, false] from rfl) ?_
                      refine sxb_skip 11 rfl rfl rfl rfl (by kernel_rfl) (by kernel_rfl) (by kernel_rfl) (by kernel_rfl) (by kernel_rfl) rfl (show _ = #[true, true, true, true, true, true, true, true, true, true, true, true, false, false, false, false, false, false, false, false, false] from rfl) ?_
                      refine sxb_skip 12 rfl rfl rfl rfl (by kernel_rfl) (by kernel_rfl) (by kernel_rfl) (by kernel_rfl) (by kernel_rfl) rfl (show _ = #[true, true, true, true, true, true, true, true, true, true, true, true, true, false, false, false, false, false, false, false, false] from rfl) ?_
                      refine sxb_skip 13 rfl rfl rfl rfl (by kernel_rfl) (by kernel_rfl) (by kernel_rfl) (by kernel_rfl) (by kernel_rfl) rfl (show _ = #[true, true, true, true, true, true, true, true, true, true, true, true, true, true, false, false, false, false, false, false, false] from rfl) ?_
                      refine sxb_skip 14 rfl rfl rfl rfl (by kernel_rfl) (by kernel_rfl) (by kernel_rfl) (by kernel_rfl) (by kernel_rfl) rfl (show _ = #[true, true, true, true, true, true, true, true, true, true, true, true, true, true, true, false, false, false, false, false, false] from rfl) ?_
                      refine sxb_skip 15 rfl rfl rfl rfl (by kernel_rfl) (by kernel_rfl) (by kernel_rfl) (by kernel_rfl) (by kernel_rfl) rfl (show _ = #[true, true, true, true, true, true, true, true, true, true, true, true, true, true, true, true, false, false, false, false, false] from rfl) ?_
                      refine sxb_skip 16 rfl rfl rfl rfl (by kernel_rfl) (by kernel_rfl) (by kernel_rfl) (by kernel_rfl) (by kernel_rfl) rfl (show _ = #[true, true, true, true, true, true, true, true, true, true, true, true, true, true, true, true, true, false, false, false, false] from rfl) ?_
                      refine sxb_skip 17 rfl rfl rfl rfl (by kernel_rfl) (by kernel_rfl) (by kernel_rfl) (by kernel_rfl) (by kernel_rfl) rfl (show _ = #[true, true, true, true, true, true, true, true, true, true, true, true, true, true, true, true, true, true, false, false, false] from rfl) ?_
                      refine sxb_skip 18 rfl rfl rfl rfl (by kernel_rfl) (by kernel_rfl) (by kernel_rfl) (by kernel_rfl) (by kernel_rfl) rfl (show _ = #[true, true, true, true, true, true, true, true, true, true, true, true, true, true, true, true, true, true, true, false, false] from rfl) ?_
                      refine sxb_skip 19 rfl rfl rfl rfl (by kernel_rfl) (by kernel_rfl) (by kernel_rfl) (by kernel_rfl) (by kernel_rfl) rfl (show _ = #[true, true, true, true, true, true, true, true, true, true, true, true, true, true, true, true, true, true, true, true, false] from rfl) ?_
                      refine sxb_takeP 20 (.bool true) rfl rfl rfl rfl (by kernel_rfl) (by kernel_rfl) (by kernel_rfl) (by kernel_rfl) (by kernel_rfl) rfl (show _ = #[true, true, true, true, true, true, true, true, true, true, true, true, true, true, true, true, true, true, true, true, true] from rfl) (yv_pv rfl) ?_
                      refine sxb_done (by kernel_rfl) ?_
                      refine sxq_np ?_ (by intro c h; cases h)
                      exact sxq_meetP (true, ()) (lk_cons rfl (lk_cons rfl (lk_cons rfl (lk_cons rfl lk_nil)))) .nil (.cons 0 rfl (.cons 0 rfl .nil)) fk_nil
                    · refine sxc_idxO (j := 1) rfl (fun x665 e665 g666 h667 => ?_)
                      replace h667 : a214 = some ⟨g666, 0, none⟩ := h667
                      have h668 := own_of (k := x213.1.length) (c := c215) h667
                      refine sxc_idxO (j := 0) rfl (fun x669 e669 g670 h671 => ?_)
                      replace h671 : a9 = some ⟨g670, 0, none⟩ := h671
                      have h672 := own_of (k := x8.1.length) (c := c10) h671
                      refine sxb_draw mixed [] [] [CellsAt g657 (x524.toNat * 1) ((eI .i64) x656), CellsAt g661 (x524.toNat * 1) ((eI .i64) x660), CellsAt g666 (x524.toNat * 1) ((eI .i64) x665), CellsAt g670 (x524.toNat * 1) ((eI .i64) x669)] .nil (gk_R 1 rfl (at_row (eI_ok .i64) e656 h658) (gk_R 0 rfl (at_row (eI_ok .i64) e660 h662) (gk_R 1 rfl (at_row (eI_ok .i64) e665 h667) (gk_R 0 rfl (at_row (eI_ok .i64) e669 h671) gk_nil)))) 21 rfl ?_
                      refine sxb_takeP 0 (.slice a214 x213.1.length c215) rfl rfl rfl rfl (by kernel_rfl) (by kernel_rfl) (by kernel_rfl) (by kernel_rfl) (by kernel_rfl) rfl (show _ = #[true, false, false, false, false, false, false, false, false, false, false, false, false, false, false, false, false, false, false, false, false] from rfl) (yv_pv rfl) ?_
                      refine sxb_takeP 1 (.int .i64 x524) rfl rfl rfl rfl (by kernel_rfl) (by kernel_rfl) (by kernel_rfl) (by kernel_rfl) (by kernel_rfl) rfl (show _ = #[true, true, false, false, false, false, false, false, false, false, false, false, false, false, false, false, false, false, false, false, false] from rfl) (yv_pv rfl) ?_
                      refine sxb_again (d := 105) (v := .slice (some ⟨g657, 0, none⟩) x213.1.length c215) rfl (by rw [h658] <;> rfl) ?_
                      refine sxb_takeP 2 (.pointer (some ⟨g657, x524.toNat * 1, none⟩)) rfl rfl rfl rfl (by kernel_rfl) (by kernel_rfl) (by kernel_rfl) (by kernel_rfl) (by kernel_rfl) rfl (show _ = #[true, true, true, false, false, false, false, false, false, false, false, false, false, false, false, false, false, false, false, false, false] from rfl) (yv_idxO Try.underlying25 tf3 rfl rfl (idx_get e656).1 (idx_lt e656)) ?_
                      refine sxb_again (d := 105) (v := .slice a214 x213.1.length c215) rfl (by rw [h658] <;> rfl) ?_
                      refine sxb_take 3 (.int .i64 x656) [] rfl rfl rfl rfl (by kernel_rfl) (by kernel_rfl) (by kernel_rfl) (by kernel_rfl) (by kernel_rfl) (by kernel_rfl) rfl (show _ = #[true, true, true, true, false, false, false, false, false, false, false, false, false, false, false, false, false, false, false, false, false] from rfl) (yv_loadF (j := 0) rfl tf3 rfl rfl (fun _ => rfl) rfl) ?_
                      refine sxb_takeP 4 (.slice a9 x8.1.length c10) rfl rfl rfl rfl (by kernel_rfl) (by kernel_rfl) (by kernel_rfl) (by kernel_rfl) (by kernel_rfl) rfl (show _ = #[true, true, true, true, true, false, false, false, false, false, false, false, false, false, false, false, false, false, false, false, false] from rfl) (yv_pv rfl) ?_
                      refine sxb_takeP 5 (.int .i64 x524) rfl rfl rfl rfl (by kernel_rfl) (by kernel_rfl) (by kernel_rfl) (by kernel_rfl) (by kernel_rfl) rfl (show _ = #[true, true, true, true, true, true, false, false, false, false, false, false, false, false, false, false, false, false, false, false, false] from rfl) (yv_pv rfl) ?_
                      refine sxb_again (d := 109) (v := .slice (some ⟨g661, 0, none⟩) x8.1.length c10) rfl (by rw [h662] <;> rfl) ?_
                      refine sxb_takeP 6 (.pointer (some ⟨g661, x524.toNat * 1, none⟩)) rfl rfl rfl rfl (by kernel_rfl) (by kernel_rfl) (by kernel_rfl) (by kernel_rfl) (by kernel_rfl) rfl (show _ = #[true, true, true, true, true, true, true, false, false, false, false, false, false, false, false, false, false, false, false, false, false] from rfl) (yv_idxO Try.underlying25 tf3 rfl rfl (idx_get e660).1 (idx_lt e660)) ?_
                      refine sxb_again (d := 109) (v := .slice a9 x8.1.length c10) rfl (by rw [h662] <;> rfl) ?_
                      refine sxb_take 7 (.int .i64 x660) [] rfl rfl rfl rfl (by kernel_rfl) (by kernel_rfl) (by kernel_rfl) (by kernel_rfl) (by kernel_rfl) (by kernel_rfl) rfl (show _ = #[true, true, true, true, true, true, true, true, false, false, false, false, false, false, false, false, false, false, false, false, false] from rfl) (yv_loadF (j := 1) rfl tf3 rfl rfl (fun _ => rfl) rfl) ?_
                      refine sxb_takeP 8 (.bool (decide (x656 < x660))) rfl rfl rfl rfl (by kernel_rfl) (by kernel_rfl) (by kernel_rfl) (by kernel_rfl) (by kernel_rfl) rfl (show _ = #[true, true, true, true, true, true, true, true, true, false, false, false, false, false, false, false, false, false, false, false, false] from rfl) (yv_pv rfl) ?_
                      refine sxb_takeP 9 (.bool (decide (x656 < x660))) rfl rfl rfl rfl (by kernel_rfl) (by kernel_rfl) (by kernel_rfl) (by kernel_rfl) (by kernel_rfl) rfl (show _ = #[true, true, true, true, true, true, true, true, true, true, false, false, false, false, false, false, false, false, false, false, false] from rfl) (yv_pv rfl) ?_
                      refine sxb_again (d := 114) (v := .bool false) rfl (by rw [h664] <;> rfl) ?_
                      refine sxb_takeP 10 (.slice a214 x213.1.length c215) rfl rfl rfl rfl (by kernel_rfl) (by kernel_rfl) (by kernel_rfl) (by kernel_rfl) (by kernel_rfl) rfl (show _ = #[true, true, true, true, true, true, true, true, true, true, true, false, false, false, false, false, false, false, false, false, false] from rfl) (yv_pv rfl) ?_
                      refine sxb_takeP 11 (.int .i64 x524) rfl rfl rfl rfl (by kernel_rfl) (by kernel_rfl) (by kernel_rfl) (by kernel_rfl) (by kernel_rfl) rfl (show _ = #[true, true, true, true, true, true, true, true, true, true, true, true, false, false, false, false, false, false, false, false, false] from rfl) (yv_pv rfl) ?_
                      refine sxb_again (d := 115) (v := .slice (some ⟨g666, 0, none⟩) x213.1.length c215) rfl (by rw [h667] <;> rfl) ?_
                      refine sxb_takeP 12 (.pointer (some ⟨g666, x524.toNat * 1, none⟩)) rfl rfl rfl rfl (by kernel_rfl) (by kernel_rfl) (by kernel_rfl) (by kernel_rfl) (by kernel_rfl) rfl (show _ = #[true, true, true, true, true, true, true, true, true, true, true, true, true, false, false, false, false, false, false, false, false] from rfl) (yv_idxO Try.underlying25 tf3 rfl rfl (idx_get e665).1 (idx_lt e665)) ?_
                      refine sxb_again (d := 115) (v := .slice a214 x213.1.length c215) rfl (by rw [h667] <;> rfl) ?_
                      refine sxb_take 13 (.int .i64 x665) [] rfl rfl rfl rfl (by kernel_rfl) (by kernel_rfl) (by kernel_rfl) (by kernel_rfl) (by kernel_rfl) (by kernel_rfl) rfl (show _ = #[true, true, true, true, true, true, true, true, true, true, true, true, true, true, false, false, false, false, false, false, false] from rfl) (yv_loadF (j := 2) rfl tf3 rfl rfl (fun _ => rfl) rfl) ?_
                      refine sxb_takeP 14 (.slice a9 x8.1.length c10) rfl rfl rfl rfl (by kernel_rfl) (by kernel_rfl) (by kernel_rfl) (by kernel_rfl) (by kernel_rfl) rfl (show _ = #[true, true, true, true, true, true, true, true, true, true, true, true, true, true, true, false, false, false, false, false, false] from rfl) (yv_pv rfl) ?_
                      refine sxb_takeP 15 (.int .i64 x524) rfl rfl rfl rfl (by kernel_rfl) (by kernel_rfl) (by kernel_rfl) (by kernel_rfl) (by kernel_rfl) rfl (show _ = #[true, true, true, true, true, true, true, true, true, true, true, true, true, true, true, true, false, false, false, false, false] from rfl) (yv_pv rfl) ?_
                      refine sxb_again (d := 119) (v := .slice (some ⟨g670, 0, none⟩) x8.1.length c10) rfl (by rw [h671] <;> rfl) ?_
                      refine sxb_takeP 16 (.pointer (some ⟨g670, x524.toNat * 1, none⟩)) rfl rfl rfl rfl (by kernel_rfl) (by kernel_rfl) (by kernel_rfl) (by kernel_rfl) (by kernel_rfl) rfl (show _ = #[true, true, true, true, true, true, true, true, true, true, true, true, true, true, true, true, true, false, false, false, false] from rfl) (yv_idxO Try.underlying25 tf3 rfl rfl (idx_get e669).1 (idx_lt e669)) ?_
                      refine sxb_again (d := 119) (v := .slice a9 x8.1.length c10) rfl (by rw [h671] <;> rfl) ?_
                      refine sxb_take 17 (.int .i64 x669) [] rfl rfl rfl rfl (by kernel_rfl) (by kernel_rfl) (by kernel_rfl) (by kernel_rfl) (by kernel_rfl) (by kernel_rfl) rfl (show _ = #[true, true, true, true, true, true, true, true, true, true, true, true, true, true, true, true, true, true, false, false, false] from rfl) (yv_loadF (j := 3) rfl tf3 rfl rfl (fun _ => rfl) rfl) ?_
                      refine sxb_takeP 18 (.int .i64 (iadd .i64 x669 1)) rfl rfl rfl rfl (by kernel_rfl) (by kernel_rfl) (by kernel_rfl) (by kernel_rfl) (by kernel_rfl) rfl (show _ = #[true, true, true, true, true, true, true, true, true, true, true, true, true, true, true, true, true, true, true, false, false] from rfl) (yv_pv rfl) ?_
                      refine sxb_takeP 19 (.bool (decide ((iadd .i64 x669 1) < x665))) rfl rfl rfl rfl (by kernel_rfl) (by kernel_rfl) (by kernel_rfl) (by kernel_rfl) (by kernel_rfl) rfl (show _ = #[true, true, true, true, true, true, true, true, true, true, true, true, true, true, true, true, true, true, true, true, false] from rfl) (yv_pv rfl) ?_
                      refine sxb_takeP 20 (.bool (decide ((iadd .i64 x669 1) < x665))) rfl rfl rfl rfl (by kernel_rfl) (by kernel_rfl) (by kernel_rfl) (by kernel_rfl) (by kernel_rfl) rfl (show _ = #[true, true, true, true, true, true, true, true, true, true, true, true, true, true, true, true, true, true, true, true, true] from rfl) (yv_pv rfl) ?_
                      refine sxb_done (by kernel_rfl) ?_
                      refine sxq_np ?_ (by intro c h; cases h)
                      exact sxq_meetP ((decide ((iadd .i64 x669 1) < x665)), ()) (lk_cons rfl (lk_cons rfl (lk_cons rfl (lk_cons rfl lk_nil)))) .nil (.cons 0 rfl (.cons 0 rfl .nil)) fk_nil
                  · rintro ⟨x654, _⟩
                    try dsimp only
                    refine sxc_if rfl (fun h655 => ?_) (fun h655 => ?_)
                    · refine sxc_seq ?_
                      refine sxc_region ?_
                      refine sxo_assign rfl rfl rfl ?_
                      refine sxo_nil ?_
                      refine sxq_next ?_
                      refine sxc_ret ?_
                      refine sxq_blkR ?_
                      refine sxq_thenR ?_
                      refine sxq_thenR ?_
                      refine sxq_blkR ?_
                      refine sxq_thenR ?_
                      exact sxq_doneP () (.inl rfl) (res1 rfl rfl) (fun h => by subst h; rfl) (fun h => by subst h; exact .nil)
                    · refine sxc_skip ?_
                      refine sxq_blkN ?_
                      refine sxq_next ?_
                      refine sxc_region ?_
                      refine sxo_move rfl rfl rfl ?_
                      refine sxo_add rfl rfl rfl rfl ?_
                      refine sxo_assign rfl rfl rfl ?_
                      refine sxo_nil ?_
                      exact sxq_againP (iadd .i64 x524 1, ()) (lk_cons rfl (lk_cons rfl (lk_cons rfl lk_nil))) .nil (.cons 0 rfl (.cons 0 rfl .nil)) fk_nil
                · refine sxc_exit ?_
                  refine sxq_thenX ?_
                  refine sxq_thenX ?_
                  refine sxq_blkX ?_
                  exact sxq_meetP ((), ()) lk_nil .nil .nil fk_nil
              · rintro ⟨_, _⟩
                try dsimp only
                refine sxc_seq ?_
                refine sxc_region ?_
                refine sxo_assign rfl rfl rfl ?_
                refine sxo_nil ?_
                refine sxq_next ?_
                refine sxc_ret ?_
                exact sxq_doneP () (.inl rfl) (res1 rfl rfl) (fun h => by subst h; rfl) (fun h => by subst h; exact .nil)

set_option maxHeartbeats 4000000 in
theorem C_L_CoreBoth (F : Nat) (x1 : List (List Int)) (a2 : Option Addr) (c3 : (Nat × List (Option Addr × Nat))) (r : Bool) (hm : M_L_CoreBoth F x1 = some r) :
    Pure Try.prog 9 [.agg #[.slice a2 x1.length c3.1]] [SlN eN25 iN25 1 (.slice a2 x1.length c3.1) x1 c3.2] Unit (fun _ => .bool r) (fun _ => []) (fun _ => []) := by
  refine pure_of Try.func9 rfl Try.ntmps9 rfl hm (fun w => ?_)
  refine sxc_env (l' := [(0, .agg #[.slice a2 x1.length c3.1])]) rfl ?_
  refine sxc_seq ?_
  refine sxc_region ?_
  refine sxo_box rfl rfl rfl (fun g4 => ?_)
  refine sxo_assign rfl rfl rfl ?_
  refine sxo_nil ?_
  refine sxq_next ?_
  refine sxc_seq ?_
  refine sxc_region ?_
  refine sxo_loadB (i := 0) rfl rfl tf24 rfl rfl (by simp) rfl rfl ?_
  refine sxo_call ent24 rfl rfl rfl (fun x5 e5 => C_graph_Both F x1 a2 c3 x5 e5) (.consF 0 rfl .nil) (fun x5 e5 => ?_)
  rintro ⟨a6, c7⟩
  refine sxo_move rfl rfl rfl ?_
  refine sxo_extract rfl rfl rfl rfl ?_
  refine sxo_extract rfl rfl rfl rfl ?_
  refine sxo_alloc rfl tf24 rfl (fun g8 => ?_)
  refine sxo_storeB (i := 0) rfl rfl rfl tf24 rfl rfl rfl rfl rfl ?_
  refine sxo_assign rfl rfl rfl ?_
  refine sxo_nil ?_
  refine sxq_next ?_
  refine sxc_seq ?_
  refine sxc_seq ?_
  refine sxc_region ?_
  refine sxo_call ent17 rfl rfl rfl (fun x15 e15 => C_L_coreBegun F  x15 e15) .nil (fun x15 e15 => ?_)
  intro _
  refine sxo_not rfl rfl rfl ?_
  refine sxo_move rfl rfl rfl ?_
  refine sxo_join 3 (fun ((x18, _) : (Bool × Unit)) => [(1, .pointer (some ⟨g4, 0, none⟩)), (3, .pointer (some ⟨g8, 0, none⟩)), (4, .int .i64 x5.2), (29, .bool x18)]) (fun ((x18, _) : (Bool × Unit)) => [⟨g8, 24, [.slice a6 x5.1.length c7.1]⟩, ⟨g4, 24, [.slice a2 x1.length c3.1]⟩]) (fun ((x18, _) : (Bool × Unit)) => [RoN eN25 rN25 25 1 (.slice a6 x5.1.length c7.1) x5.1 c7.2 []]) (fun ((x18, _) : (Bool × Unit)) => [SlN eN25 iN25 1 (.slice a2 x1.length c3.1) x1 c3.2]) (fun ((x18, _) : (Bool × Unit)) => M_L_CoreBoth_j2 F x1 x5 x18) ?_ ?_
  · refine sxo_take (os := _) rfl ?_
    refine sxo_if (fun h16 => ?_) (fun h16 => ?_)
    · refine sxo_isT (k := 26) rfl h16 ?_
      refine sxo_skip rfl rfl rfl ?_
      refine sxo_skip rfl rfl rfl ?_
      refine sxo_pick (b := true) rfl rfl rfl rfl ?_
      refine sxo_nil ?_
      exact sxq_meetP (true, ()) (lk_cons rfl (lk_cons rfl (lk_cons rfl (lk_cons rfl lk_nil)))) (.cons 0 rfl (.cons 0 rfl .nil)) (.cons 0 rfl .nil) (fk_cons 0 rfl fk_nil)
    · refine sxo_isF (k := 26) rfl h16 ?_
      refine sxo_call ent22 rfl rfl rfl (fun x58 e58 => C_L_graphBegun F  x58 e58) .nil (fun x58 e58 => ?_)
      intro _
      refine sxo_not rfl rfl rfl ?_
      refine sxo_pick (b := false) rfl rfl rfl rfl ?_
      refine sxo_nil ?_
      exact sxq_meetP ((!x58), ()) (lk_cons rfl (lk_cons rfl (lk_cons rfl (lk_cons rfl lk_nil)))) (.cons 0 rfl (.cons 0 rfl .nil)) (.cons 0 rfl .nil) (fk_cons 0 rfl fk_nil)
  · rintro ⟨x18, _⟩
    try dsimp only
    refine sxo_take (os := _) rfl ?_
    refine sxo_nil ?_
    refine sxq_next ?_
    refine sxc_if rfl (fun h57 => ?_) (fun h57 => ?_)
    · refine sxc_seq ?_
      refine sxc_region ?_
      refine sxo_assign rfl rfl rfl ?_
      refine sxo_nil ?_
      refine sxq_next ?_
      refine sxc_ret ?_
      refine sxq_thenR ?_
      exact sxq_doneP () (.inl rfl) (res1 rfl rfl) (fun h => by subst h; rfl) (fun h => by subst h; exact .nil)
    · refine sxc_skip ?_
      refine sxq_next ?_
      refine sxc_seq ?_
      refine sxc_seq ?_
      refine sxc_region ?_
      refine sxo_move rfl rfl rfl ?_
      refine sxo_neq rfl rfl rfl rfl ?_
      refine sxo_nil ?_
      refine sxq_next ?_
      refine sxc_if rfl (fun h56 => ?_) (fun h56 => ?_)
      · refine sxc_seq ?_
        refine sxc_region ?_
        refine sxo_assign rfl rfl rfl ?_
        refine sxo_nil ?_
        refine sxq_next ?_
        refine sxc_ret ?_
        refine sxq_thenR ?_
        exact sxq_doneP () (.inl rfl) (res1 rfl rfl) (fun h => by subst h; rfl) (fun h => by subst h; exact .nil)
      · refine sxc_skip ?_
        refine sxq_next ?_
        refine sxc_seq ?_
        refine sxc_region ?_
        refine sxo_loadB (i := 1) rfl rfl tf24 rfl rfl (by simp) rfl rfl ?_
        refine sxo_call ent10 rfl rfl rfl (fun x20 e20 => C_core_Numbers F x1 a2 c3 x20 e20) (.consF 0 rfl .nil) (fun x20 e20 => ?_)
        rintro ⟨a21, c22⟩
        refine sxo_move rfl rfl rfl ?_
        refine sxo_extract rfl rfl rfl rfl ?_
        refine sxo_extract rfl rfl rfl rfl ?_
        refine sxo_assign rfl rfl rfl ?_
        refine sxo_assign rfl rfl rfl ?_
        refine sxo_nil ?_
        refine sxq_next ?_
        refine sxc_seq ?_
        refine sxc_region ?_
        refine sxo_loadB (i := 0) rfl rfl tf24 rfl rfl (by simp) rfl rfl ?_
        refine sxo_call ent10 rfl rfl rfl (fun x23 e23 => C_core_Numbers F x5.1 a6 c7 x23 e23) (.consG 1 rfl (nest_sl rN25_in) .nil) (fun x23 e23 => ?_)
        rintro ⟨a24, c25⟩
        refine sxo_move rfl rfl rfl ?_
        refine sxo_extract rfl rfl rfl rfl ?_
        refine sxo_extract rfl rfl rfl rfl ?_
        refine sxo_assign rfl rfl rfl ?_
        refine sxo_assign rfl rfl rfl ?_
        refine sxo_nil ?_
        refine sxq_next ?_
        refine sxc_seq ?_
        refine sxc_region ?_
        refine sxo_loadB (i := 1) rfl rfl tf24 rfl rfl (by simp) rfl rfl ?_
        refine sxo_callM ent11 rfl rfl rfl (fun x26 e26 => C_core_Threes F x1 a2 c3 x26 e26) .nil .nil (.consF 0 rfl .nil) (fun x26 e26 => ?_)
        rintro ⟨a27, c28⟩
        refine sxo_move rfl rfl rfl ?_
        refine sxo_extract rfl rfl rfl rfl ?_
        refine sxo_extract rfl rfl rfl rfl ?_
        refine sxo_extract rfl rfl rfl rfl ?_
        refine sxo_assign rfl rfl rfl ?_
        refine sxo_assign rfl rfl rfl ?_
        refine sxo_assign rfl rfl rfl ?_
        refine sxo_nil ?_
        refine sxq_next ?_
        refine sxc_seq ?_
        refine sxc_region ?_
        refine sxo_loadB (i := 0) rfl rfl tf24 rfl rfl (by simp) rfl rfl ?_
        refine sxo_callM ent11 rfl rfl rfl (fun x29 e29 => C_core_Threes F x5.1 a6 c7 x29 e29) .nil .nil (.consG 3 rfl (nest_sl rN25_in) .nil) (fun x29 e29 => ?_)
        rintro ⟨a30, c31⟩
        refine sxo_move rfl rfl rfl ?_
        refine sxo_extract rfl rfl rfl rfl ?_
        refine sxo_extract rfl rfl rfl rfl ?_
        refine sxo_extract rfl rfl rfl rfl ?_
        refine sxo_assign rfl rfl rfl ?_
        refine sxo_assign rfl rfl rfl ?_
        refine sxo_assign rfl rfl rfl ?_
        refine sxo_nil ?_
        refine sxq_next ?_
        refine sxc_seq ?_
        refine sxc_region ?_
        refine sxo_loadB (i := 1) rfl rfl tf24 rfl rfl (by simp) rfl rfl ?_
        refine sxo_call ent12 rfl rfl rfl (fun x32 e32 => C_core_Pairs F x1 a2 c3 x32 e32) (.consF 0 rfl .nil) (fun x32 e32 => ?_)
        rintro ⟨a33, c34⟩
        refine sxo_move rfl rfl rfl ?_
        refine sxo_extract rfl rfl rfl rfl ?_
        refine sxo_extract rfl rfl rfl rfl ?_
        refine sxo_assign rfl rfl rfl ?_
        refine sxo_assign rfl rfl rfl ?_
        refine sxo_nil ?_
        refine sxq_next ?_
        refine sxc_seq ?_
        refine sxc_region ?_
        refine sxo_loadB (i := 0) rfl rfl tf24 rfl rfl (by simp) rfl rfl ?_
        refine sxo_call ent12 rfl rfl rfl (fun x35 e35 => C_core_Pairs F x5.1 a6 c7 x35 e35) (.consG 5 rfl (nest_sl rN25_in) .nil) (fun x35 e35 => ?_)
        rintro ⟨a36, c37⟩
        refine sxo_move rfl rfl rfl ?_
        refine sxo_extract rfl rfl rfl rfl ?_
        refine sxo_extract rfl rfl rfl rfl ?_
        refine sxo_assign rfl rfl rfl ?_
        refine sxo_assign rfl rfl rfl ?_
        refine sxo_nil ?_
        refine sxq_next ?_
        refine sxc_seq ?_
        refine sxc_region ?_
        refine sxo_move rfl rfl rfl ?_
        refine sxo_eql rfl rfl rfl rfl ?_
        refine sxo_move rfl rfl rfl ?_
        refine sxo_case 3 ((x20.2 : Int) == 0) [(5, .slice a21 x20.1.length c22), (7, .slice a24 x23.1.length c25), (9, .slice a27 x26.1.length c28), (10, .int .i64 x26.2.1), (11, .int .i64 x26.2.2), (12, .slice a30 x29.1.length c31), (13, .int .i64 x29.2.1), (14, .int .i64 x29.2.2), (15, .slice a33 x32.1.length c34), (16, .int .i64 x32.2), (17, .slice a36 x35.1.length c37), (18, .int .i64 x35.2), (69, .bool (((x20.2 : Int) == 0) && ((x23.2 : Int) == 0)))] (fun h38 => ?_) (fun h38 => ?_) ?_
        · refine sxo_take (os := _) rfl ?_
          refine sxo_isT (k := 66) rfl h38 ?_
          refine sxo_move rfl rfl rfl ?_
          refine sxo_eql rfl rfl rfl rfl ?_
          refine sxo_pick (b := true) rfl rfl rfl rfl ?_
          refine sxo_again (d := 69) (v := .bool (((x20.2 : Int) == 0) && ((x23.2 : Int) == 0))) rfl (by rw [h38]; simp only [Bool.true_and]) ?_
          refine sxo_nil ?_
          exact sxq_case (lk_cons rfl (lk_cons rfl (lk_cons rfl (lk_cons rfl (lk_cons rfl (lk_cons rfl (lk_cons rfl (lk_cons rfl (lk_cons rfl (lk_cons rfl (lk_cons rfl (lk_cons rfl (lk_cons rfl lk_nil)))))))))))))
        · refine sxo_take (os := _) rfl ?_
          refine sxo_isF (k := 66) rfl h38 ?_
          refine sxo_skip rfl rfl rfl ?_
          refine sxo_skip rfl rfl rfl ?_
          refine sxo_pick (b := false) rfl rfl rfl rfl ?_
          refine sxo_again (d := 69) (v := .bool (((x20.2 : Int) == 0) && ((x23.2 : Int) == 0))) rfl (by rw [h38]; simp only [Bool.false_and]) ?_
          refine sxo_nil ?_
          exact sxq_case (lk_cons rfl (lk_cons rfl (lk_cons rfl (lk_cons rfl (lk_cons rfl (lk_cons rfl (lk_cons rfl (lk_cons rfl (lk_cons rfl (lk_cons rfl (lk_cons rfl (lk_cons rfl (lk_cons rfl lk_nil)))))))))))))
        refine sxo_take (os := _) rfl ?_
        refine sxo_move rfl rfl rfl ?_
        refine sxo_case 3 (((x20.2 : Int) == 0) && ((x23.2 : Int) == 0)) [(5, .slice a21 x20.1.length c22), (7, .slice a24 x23.1.length c25), (9, .slice a27 x26.1.length c28), (10, .int .i64 x26.2.1), (12, .slice a30 x29.1.length c31), (13, .int .i64 x29.2.1), (14, .int .i64 x29.2.2), (15, .slice a33 x32.1.length c34), (16, .int .i64 x32.2), (17, .slice a36 x35.1.length c37), (18, .int .i64 x35.2), (73, .bool ((((x20.2 : Int) == 0) && ((x23.2 : Int) == 0)) && ((x26.2.2 : Int) == 0)))] (fun h39 => ?_) (fun h39 => ?_) ?_
        · refine sxo_take (os := _) rfl ?_
          refine sxo_isT (k := 70) rfl h39 ?_
          refine sxo_move rfl rfl rfl ?_
          refine sxo_eql rfl rfl rfl rfl ?_
          refine sxo_pick (b := true) rfl rfl rfl rfl ?_
          refine sxo_again (d := 73) (v := .bool ((((x20.2 : Int) == 0) && ((x23.2 : Int) == 0)) && ((x26.2.2 : Int) == 0))) rfl (by rw [h39]; simp only [Bool.true_and]) ?_
          refine sxo_nil ?_
          exact sxq_case (lk_cons rfl (lk_cons rfl (lk_cons rfl (lk_cons rfl (lk_cons rfl (lk_cons rfl (lk_cons rfl (lk_cons rfl (lk_cons rfl (lk_cons rfl (lk_cons rfl (lk_cons rfl lk_nil))))))))))))
        · refine sxo_take (os := _) rfl ?_
          refine sxo_isF (k := 70) rfl h39 ?_
          refine sxo_skip rfl rfl rfl ?_
          refine sxo_skip rfl rfl rfl ?_
          refine sxo_pick (b := false) rfl rfl rfl rfl ?_
          refine sxo_again (d := 73) (v := .bool ((((x20.2 : Int) == 0) && ((x23.2 : Int) == 0)) && ((x26.2.2 : Int) == 0))) rfl (by rw [h39]; simp only [Bool.false_and]) ?_
          refine sxo_nil ?_
          exact sxq_case (lk_cons rfl (lk_cons rfl (lk_cons rfl (lk_cons rfl (lk_cons rfl (lk_cons rfl (lk_cons rfl (lk_cons rfl (lk_cons rfl (lk_cons rfl (lk_cons rfl (lk_cons rfl lk_nil))))))))))))
        refine sxo_take (os := _) rfl ?_
        refine sxo_move rfl rfl rfl ?_
        refine sxo_case 3 ((((x20.2 : Int) == 0) && ((x23.2 : Int) == 0)) && ((x26.2.2 : Int) == 0)) [(5, .slice a21 x20.1.length c22), (7, .slice a24 x23.1.length c25), (9, .slice a27 x26.1.length c28), (10, .int .i64 x26.2.1), (12, .slice a30 x29.1.length c31), (13, .int .i64 x29.2.1), (15, .slice a33 x32.1.length c34), (16, .int .i64 x32.2), (17, .slice a36 x35.1.length c37), (18, .int .i64 x35.2), (77, .bool (((((x20.2 : Int) == 0) && ((x23.2 : Int) == 0)) && ((x26.2.2 : Int) == 0)) && ((x29.2.2 : Int) == 0)))] (fun h40 => ?_) (fun h40 => ?_) ?_
        · refine sxo_take (os := _) rfl ?_
          refine sxo_isT (k := 74) rfl h40 ?_
          refine sxo_move rfl rfl rfl ?_
          refine sxo_eql rfl rfl rfl rfl ?_
          refine sxo_pick (b := true) rfl rfl rfl rfl ?_
          refine sxo_again (d := 77) (v := .bool (((((x20.2 : Int) == 0) && ((x23.2 : Int) == 0)) && ((x26.2.2 : Int) == 0)) && ((x29.2.2 : Int) == 0))) rfl (by rw [h40]; simp only [Bool.true_and]) ?_
          refine sxo_nil ?_
          exact sxq_case (lk_cons rfl (lk_cons rfl (lk_cons rfl (lk_cons rfl (lk_cons rfl (lk_cons rfl (lk_cons rfl (lk_cons rfl (lk_cons rfl (lk_cons rfl (lk_cons rfl lk_nil)))))))))))
        · refine sxo_take (os := _) rfl ?_
          refine sxo_isF (k := 74) rfl h40 ?_
          refine sxo_skip rfl rfl rfl ?_
          refine sxo_skip rfl rfl rfl ?_
          refine sxo_pick (b := false) rfl rfl rfl rfl ?_
          refine sxo_again (d := 77) (v := .bool (((((x20.2 : Int) == 0) && ((x23.2 : Int) == 0)) && ((x26.2.2 : Int) == 0)) && ((x29.2.2 : Int) == 0))) rfl (by rw [h40]; simp only [Bool.false_and]) ?_
          refine sxo_nil ?_
          exact sxq_case (lk_cons rfl (lk_cons rfl (lk_cons rfl (lk_cons rfl (lk_cons rfl (lk_cons rfl (lk_cons rfl (lk_cons rfl (lk_cons rfl (lk_cons rfl (lk_cons rfl lk_nil)))))))))))
        refine sxo_take (os := _) rfl ?_
        refine sxo_move rfl rfl rfl ?_
        refine sxo_case 3 (((((x20.2 : Int) == 0) && ((x23.2 : Int) == 0)) && ((x26.2.2 : Int) == 0)) && ((x29.2.2 : Int) == 0)) [(5, .slice a21 x20.1.length c22), (7, .slice a24 x23.1.length c25), (9, .slice a27 x26.1.length c28), (10, .int .i64 x26.2.1), (12, .slice a30 x29.1.length c31), (13, .int .i64 x29.2.1), (15, .slice a33 x32.1.length c34), (17, .slice a36 x35.1.length c37), (18, .int .i64 x35.2), (81, .bool ((((((x20.2 : Int) == 0) && ((x23.2 : Int) == 0)) && ((x26.2.2 : Int) == 0)) && ((x29.2.2 : Int) == 0)) && ((x32.2 : Int) == 0)))] (fun h41 => ?_) (fun h41 => ?_) ?_
        · refine sxo_take (os := _) rfl ?_
          refine sxo_isT (k := 78) rfl h41 ?_
          refine sxo_move rfl rfl rfl ?_
          refine sxo_eql rfl rfl rfl rfl ?_
          refine sxo_pick (b := true) rfl rfl rfl rfl ?_
          refine sxo_again (d := 81) (v := .bool ((((((x20.2 : Int) == 0) && ((x23.2 : Int) == 0)) && ((x26.2.2 : Int) == 0)) && ((x29.2.2 : Int) == 0)) && ((x32.2 : Int) == 0))) rfl (by rw [h41]; simp only [Bool.true_and]) ?_
          refine sxo_nil ?_
          exact sxq_case (lk_cons rfl (lk_cons rfl (lk_cons rfl (lk_cons rfl (lk_cons rfl (lk_cons rfl (lk_cons rfl (lk_cons rfl (lk_cons rfl (lk_cons rfl lk_nil))))))))))
        · refine sxo_take (os := _) rfl ?_
          refine sxo_isF (k := 78) rfl h41 ?_
          refine sxo_skip rfl rfl rfl ?_
          refine sxo_skip rfl rfl rfl ?_
          refine sxo_pick (b := false) rfl rfl rfl rfl ?_
          refine sxo_again (d := 81) (v := .bool ((((((x20.2 : Int) == 0) && ((x23.2 : Int) == 0)) && ((x26.2.2 : Int) == 0)) && ((x29.2.2 : Int) == 0)) && ((x32.2 : Int) == 0))) rfl (by rw [h41]; simp only [Bool.false_and]) ?_
          refine sxo_nil ?_
          exact sxq_case (lk_cons rfl (lk_cons rfl (lk_cons rfl (lk_cons rfl (lk_cons rfl (lk_cons rfl (lk_cons rfl (lk_cons rfl (lk_cons rfl (lk_cons rfl lk_nil))))))))))
        refine sxo_take (os := _) rfl ?_
        refine sxo_move rfl rfl rfl ?_
        refine sxo_case 3 ((((((x20.2 : Int) == 0) && ((x23.2 : Int) == 0)) && ((x26.2.2 : Int) == 0)) && ((x29.2.2 : Int) == 0)) && ((x32.2 : Int) == 0)) [(5, .slice a21 x20.1.length c22), (7, .slice a24 x23.1.length c25), (9, .slice a27 x26.1.length c28), (10, .int .i64 x26.2.1), (12, .slice a30 x29.1.length c31), (13, .int .i64 x29.2.1), (15, .slice a33 x32.1.length c34), (17, .slice a36 x35.1.length c37), (85, .bool (((((((x20.2 : Int) == 0) && ((x23.2 : Int) == 0)) && ((x26.2.2 : Int) == 0)) && ((x29.2.2 : Int) == 0)) && ((x32.2 : Int) == 0)) && ((x35.2 : Int) == 0)))] (fun h42 => ?_) (fun h42 => ?_) ?_
        · refine sxo_take (os := _) rfl ?_
          refine sxo_isT (k := 82) rfl h42 ?_
          refine sxo_move rfl rfl rfl ?_
          refine sxo_eql rfl rfl rfl rfl ?_
          refine sxo_pick (b := true) rfl rfl rfl rfl ?_
          refine sxo_again (d := 85) (v := .bool (((((((x20.2 : Int) == 0) && ((x23.2 : Int) == 0)) && ((x26.2.2 : Int) == 0)) && ((x29.2.2 : Int) == 0)) && ((x32.2 : Int) == 0)) && ((x35.2 : Int) == 0))) rfl (by rw [h42]; simp only [Bool.true_and]) ?_
          refine sxo_nil ?_
          exact sxq_case (lk_cons rfl (lk_cons rfl (lk_cons rfl (lk_cons rfl (lk_cons rfl (lk_cons rfl (lk_cons rfl (lk_cons rfl (lk_cons rfl lk_nil)))))))))
        · refine sxo_take (os := _) rfl ?_
          refine sxo_isF (k := 82) rfl h42 ?_
          refine sxo_skip rfl rfl rfl ?_
          refine sxo_skip rfl rfl rfl ?_
          refine sxo_pick (b := false) rfl rfl rfl rfl ?_
          refine sxo_again (d := 85) (v := .bool (((((((x20.2 : Int) == 0) && ((x23.2 : Int) == 0)) && ((x26.2.2 : Int) == 0)) && ((x29.2.2 : Int) == 0)) && ((x32.2 : Int) == 0)) && ((x35.2 : Int) == 0))) rfl (by rw [h42]; simp only [Bool.false_and]) ?_
          refine sxo_nil ?_
          exact sxq_case (lk_cons rfl (lk_cons rfl (lk_cons rfl (lk_cons rfl (lk_cons rfl (lk_cons rfl (lk_cons rfl (lk_cons rfl (lk_cons rfl lk_nil)))))))))
        refine sxo_take (os := _) rfl ?_
        refine sxo_move rfl rfl rfl ?_
        refine sxo_join 4 (fun ((x45, _) : (Bool × Unit)) => [(9, .slice a27 x26.1.length c28), (10, .int .i64 x26.2.1), (12, .slice a30 x29.1.length c31), (13, .int .i64 x29.2.1), (15, .slice a33 x32.1.length c34), (17, .slice a36 x35.1.length c37), (90, .bool x45)]) (fun ((x45, _) : (Bool × Unit)) => []) (fun ((x45, _) : (Bool × Unit)) => [Ro (eI .i64) 3 1 (.slice a27 x26.1.length c28) x26.1, Ro (eI .i64) 3 1 (.slice a30 x29.1.length c31) x29.1, Ro (eI .i64) 3 1 (.slice a33 x32.1.length c34) x32.1, Ro (eI .i64) 3 1 (.slice a36 x35.1.length c37) x35.1]) (fun ((x45, _) : (Bool × Unit)) => []) (fun ((x45, _) : (Bool × Unit)) => M_L_CoreBoth_j3 F x26 x29 x32 x35 x45) ?_ ?_
        · refine sxo_take (os := _) rfl ?_
          refine sxo_if (fun h43 => ?_) (fun h43 => ?_)
          · refine sxo_isT (k := 86) rfl h43 ?_
            refine sxo_move rfl rfl rfl ?_
            refine sxo_move rfl rfl rfl ?_
            refine sxo_call ent18 rfl rfl rfl (fun x55 e55 => C_R_SameInts F x20.1 a21 c22 x23.1 a24 c25 x55 e55) (.consR 5 (Ro (eI .i64) 3 1 (.slice a21 x20.1.length c22) x20.1) rfl (.consR 4 (Ro (eI .i64) 3 1 (.slice a24 x23.1.length c25) x23.1) rfl .nil)) (fun x55 e55 => ?_)
            intro _
            refine sxo_pick (b := true) rfl rfl rfl rfl ?_
            refine sxo_nil ?_
            exact sxq_meetP (x55, ()) (lk_cons rfl (lk_cons rfl (lk_cons rfl (lk_cons rfl (lk_cons rfl (lk_cons rfl (lk_cons rfl lk_nil))))))) .nil (.cons 3 rfl (.cons 2 rfl (.cons 1 rfl (.cons 0 rfl .nil)))) fk_nil
          · refine sxo_isF (k := 86) rfl h43 ?_
            refine sxo_skip rfl rfl rfl ?_
            refine sxo_skip rfl rfl rfl ?_
            refine sxo_skip rfl rfl rfl ?_
            refine sxo_pick (b := false) rfl rfl rfl rfl ?_
            refine sxo_nil ?_
            exact sxq_meetP (false, ()) (lk_cons rfl (lk_cons rfl (lk_cons rfl (lk_cons rfl (lk_cons rfl (lk_cons rfl (lk_cons rfl lk_nil))))))) .nil (.cons 3 rfl (.cons 2 rfl (.cons 1 rfl (.cons 0 rfl .nil)))) fk_nil
        · rintro ⟨x45, _⟩
          try dsimp only
          refine sxo_take (os := _) rfl ?_
          refine sxo_move rfl rfl rfl ?_
          refine sxo_join 4 (fun ((x48, _) : (Bool × Unit)) => [(10, .int .i64 x26.2.1), (13, .int .i64 x29.2.1), (15, .slice a33 x32.1.length c34), (17, .slice a36 x35.1.length c37), (95, .bool x48)]) (fun ((x48, _) : (Bool × Unit)) => []) (fun ((x48, _) : (Bool × Unit)) => [Ro (eI .i64) 3 1 (.slice a33 x32.1.length c34) x32.1, Ro (eI .i64) 3 1 (.slice a36 x35.1.length c37) x35.1]) (fun ((x48, _) : (Bool × Unit)) => []) (fun ((x48, _) : (Bool × Unit)) => M_L_CoreBoth_j4 F x26 x29 x32 x35 x48) ?_ ?_
          · refine sxo_take (os := _) rfl ?_
            refine sxo_if (fun h46 => ?_) (fun h46 => ?_)
            · refine sxo_isT (k := 91) rfl h46 ?_
              refine sxo_move rfl rfl rfl ?_
              refine sxo_move rfl rfl rfl ?_
              refine sxo_call ent18 rfl rfl rfl (fun x54 e54 => C_R_SameInts F x26.1 a27 c28 x29.1 a30 c31 x54 e54) (.consR 0 (Ro (eI .i64) 3 1 (.slice a27 x26.1.length c28) x26.1) rfl (.consR 1 (Ro (eI .i64) 3 1 (.slice a30 x29.1.length c31) x29.1) rfl .nil)) (fun x54 e54 => ?_)
              intro _
              refine sxo_pick (b := true) rfl rfl rfl rfl ?_
              refine sxo_nil ?_
              exact sxq_meetP (x54, ()) (lk_cons rfl (lk_cons rfl (lk_cons rfl (lk_cons rfl (lk_cons rfl lk_nil))))) .nil (.cons 2 rfl (.cons 2 rfl .nil)) fk_nil
            · refine sxo_isF (k := 91) rfl h46 ?_
              refine sxo_skip rfl rfl rfl ?_
              refine sxo_skip rfl rfl rfl ?_
              refine sxo_skip rfl rfl rfl ?_
              refine sxo_pick (b := false) rfl rfl rfl rfl ?_
              refine sxo_nil ?_
              exact sxq_meetP (false, ()) (lk_cons rfl (lk_cons rfl (lk_cons rfl (lk_cons rfl (lk_cons rfl lk_nil))))) .nil (.cons 2 rfl (.cons 2 rfl .nil)) fk_nil
          · rintro ⟨x48, _⟩
            try dsimp only
            refine sxo_take (os := _) rfl ?_
            refine sxo_move rfl rfl rfl ?_
            refine sxo_case 4 x48 [(15, .slice a33 x32.1.length c34), (17, .slice a36 x35.1.length c37), (100, .bool (x48 && ((x26.2.1 : Int) == x29.2.1)))] (fun h49 => ?_) (fun h49 => ?_) ?_
            · refine sxo_take (os := _) rfl ?_
              refine sxo_isT (k := 96) rfl h49 ?_
              refine sxo_move rfl rfl rfl ?_
              refine sxo_move rfl rfl rfl ?_
              refine sxo_eql rfl rfl rfl rfl ?_
              refine sxo_pick (b := true) rfl rfl rfl rfl ?_
              refine sxo_again (d := 100) (v := .bool (x48 && ((x26.2.1 : Int) == x29.2.1))) rfl (by rw [h49]; simp only [Bool.true_and]) ?_
              refine sxo_nil ?_
              exact sxq_case (lk_cons rfl (lk_cons rfl (lk_cons rfl lk_nil)))
            · refine sxo_take (os := _) rfl ?_
              refine sxo_isF (k := 96) rfl h49 ?_
              refine sxo_skip rfl rfl rfl ?_
              refine sxo_skip rfl rfl rfl ?_
              refine sxo_skip rfl rfl rfl ?_
              refine sxo_pick (b := false) rfl rfl rfl rfl ?_
              refine sxo_again (d := 100) (v := .bool (x48 && ((x26.2.1 : Int) == x29.2.1))) rfl (by rw [h49]; simp only [Bool.false_and]) ?_
              refine sxo_nil ?_
              exact sxq_case (lk_cons rfl (lk_cons rfl (lk_cons rfl lk_nil)))
            refine sxo_take (os := _) rfl ?_
            refine sxo_move rfl rfl rfl ?_
            refine sxo_join 4 (fun ((x52, _) : (Bool × Unit)) => [(105, .bool x52)]) (fun ((x52, _) : (Bool × Unit)) => []) (fun ((x52, _) : (Bool × Unit)) => []) (fun ((x52, _) : (Bool × Unit)) => []) (fun ((x52, _) : (Bool × Unit)) => M_L_CoreBoth_j5 F x52) ?_ ?_
            · refine sxo_take (os := _) rfl ?_
              refine sxo_if (fun h50 => ?_) (fun h50 => ?_)
              · refine sxo_isT (k := 101) rfl h50 ?_
                refine sxo_move rfl rfl rfl ?_
                refine sxo_move rfl rfl rfl ?_
                refine sxo_call ent18 rfl rfl rfl (fun x53 e53 => C_R_SameInts F x32.1 a33 c34 x35.1 a36 c37 x53 e53) (.consR 0 (Ro (eI .i64) 3 1 (.slice a33 x32.1.length c34) x32.1) rfl (.consR 1 (Ro (eI .i64) 3 1 (.slice a36 x35.1.length c37) x35.1) rfl .nil)) (fun x53 e53 => ?_)
                intro _
                refine sxo_pick (b := true) rfl rfl rfl rfl ?_
                refine sxo_nil ?_
                exact sxq_meetP (x53, ()) (lk_cons rfl lk_nil) .nil .nil fk_nil
              · refine sxo_isF (k := 101) rfl h50 ?_
                refine sxo_skip rfl rfl rfl ?_
                refine sxo_skip rfl rfl rfl ?_
                refine sxo_skip rfl rfl rfl ?_
                refine sxo_pick (b := false) rfl rfl rfl rfl ?_
                refine sxo_nil ?_
                exact sxq_meetP (false, ()) (lk_cons rfl lk_nil) .nil .nil fk_nil
            · rintro ⟨x52, _⟩
              try dsimp only
              refine sxo_take (os := _) rfl ?_
              refine sxo_assign rfl rfl rfl ?_
              refine sxo_nil ?_
              refine sxq_next ?_
              refine sxc_ret ?_
              exact sxq_doneP () (.inl rfl) (res1 rfl rfl) (fun h => by subst h; rfl) (fun h => by subst h; exact .nil)
end Go.Proofs.Ytdiabhkbchmpaaa
