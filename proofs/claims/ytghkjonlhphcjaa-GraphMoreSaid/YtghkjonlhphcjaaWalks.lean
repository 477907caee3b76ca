/- Each Go function of this seat computes what its model says. -/
import Derived.Test.YtghkjonlhphcjaaRows
import Derived.Test.YtghkjonlhphcjaaModels
import Derived.Test.YtghkjonlhphcjaaShelf
namespace Go.Proofs.Ytghkjonlhphcjaa
open Go SX
def eN32 (p : List Int × (Option Addr × Nat)) : List Value := [.slice p.2.1 p.1.length p.2.2]
def iN32 (p : List Int × (Option Addr × Nat)) : List (World → Prop) := [Sl (eI .i64) 1 (.slice p.2.1 p.1.length p.2.2) p.1]
theorem eN32_ok : EncOk eN32 1 := ⟨fun _ => rfl, fun _ => rfl⟩
def rN32 (p : List Int × (Option Addr × Nat)) : List RowF := [FoR (eI .i64) 3 1 (.slice p.2.1 p.1.length p.2.2) p.1]
theorem rN32_in : ∀ p, iN32 p = (rN32 p).map RowF.cells := fun _ => rfl
theorem rN32_nil : ∀ f ∈ rN32 (([] : List Int), ((none, 0) : Option Addr × Nat)), f.v = .slice none 0 0 ∧ f.n = 0 ∧ f.cs = [] := by simp [rN32, FoR]
def eS44 (p : (Int × Int)) : List Value := [.int .i64 p.1, .int .i64 p.2]
theorem eS44_ok : EncOk eS44 2 := ⟨fun _ => rfl, fun _ => rfl⟩
theorem tf3 : TyF Try.prog 3 false (.int .i64 0) 1 8 := .of (by kernel_rfl) (by kernel_rfl)
theorem tf22 : TyF Try.prog 22 false (.slice none 0 0) 1 24 := .of (by kernel_rfl) (by kernel_rfl)
theorem tf24 : TyF Try.prog 24 true (.agg #[.slice none 0 0]) 1 24 := .of (by kernel_rfl) (by kernel_rfl)
theorem tf25 : TyF Try.prog 25 false (.slice none 0 0) 1 24 := .of (by kernel_rfl) (by kernel_rfl)
theorem tf32 : TyF Try.prog 32 false (.slice none 0 0) 1 24 := .of (by kernel_rfl) (by kernel_rfl)
theorem tf44 : TyF Try.prog 44 true (.agg #[.int .i64 0, .int .i64 0]) 2 16 := .of (by kernel_rfl) (by kernel_rfl)
theorem tf65 : TyF Try.prog 65 true (.agg #[]) 0 0 := .of (by kernel_rfl) (by kernel_rfl)
theorem ff24_0 : FdF Try.prog 24 0 0 := .of (by kernel_rfl)
theorem ff44_0 : FdF Try.prog 44 0 0 := .of (by kernel_rfl)
theorem ff44_1 : FdF Try.prog 44 1 1 := .of (by kernel_rfl)
theorem st24 : StF Try.prog 24 [(0, 1)] (.agg #[.slice none 0 0]) := .of (by kernel_rfl) (by kernel_rfl)
theorem st44 : StF Try.prog 44 [(0, 1), (1, 1)] (.agg #[.int .i64 0, .int .i64 0]) := .of (by kernel_rfl) (by kernel_rfl)
theorem st65 : StF Try.prog 65 [] (.agg #[]) := .of (by kernel_rfl) (by kernel_rfl)
theorem se44 : StE2 Try.prog 44 .i64 .i64 := ⟨_, _, Try.underlying44, by kernel_rfl, by kernel_rfl, by decide, by decide, rfl, rfl, Try.underlying3, Try.underlying3⟩
theorem mixed : Try.prog.follows .mixedOrders = true := by kernel_rfl
theorem ent15 : Enters Try.prog 15 := enters_of Try.func15 rfl rfl
theorem ent16 : Enters Try.prog 16 := enters_of Try.func16 rfl rfl
theorem ent17 : Enters Try.prog 17 := enters_of Try.func17 rfl rfl
theorem ent18 : Enters Try.prog 18 := enters_of Try.func18 rfl rfl
theorem ent19 : Enters Try.prog 19 := enters_of Try.func19 rfl rfl
theorem ent20 : Enters Try.prog 20 := enters_of Try.func20 rfl rfl
theorem ent21 : Enters Try.prog 21 := enters_of Try.func21 rfl rfl
theorem ent22 : Enters Try.prog 22 := enters_of Try.func22 rfl rfl
theorem ent23 : Enters Try.prog 23 := enters_of Try.func23 rfl rfl
theorem ent24 : Enters Try.prog 24 := enters_of Try.func24 rfl rfl
theorem ent25 : Enters Try.prog 25 := enters_of Try.func25 rfl rfl
theorem ent26 : Enters Try.prog 26 := enters_of Try.func26 rfl rfl
theorem ent27 : Enters Try.prog 27 := enters_of Try.func27 rfl rfl
theorem ent28 : Enters Try.prog 28 := enters_of Try.func28 rfl rfl
theorem ent29 : Enters Try.prog 29 := enters_of Try.func29 rfl rfl
theorem ent30 : Enters Try.prog 30 := enters_of Try.func30 rfl rfl
theorem ent31 : Enters Try.prog 31 := enters_of Try.func31 rfl rfl
theorem ent40 : Enters Try.prog 40 := enters_of Try.func40 rfl rfl
theorem ent41 : Enters Try.prog 41 := enters_of Try.func41 rfl rfl
theorem ent42 : Enters Try.prog 42 := enters_of Try.func42 rfl rfl
theorem ent43 : Enters Try.prog 43 := enters_of Try.func43 rfl rfl
theorem ent44 : Enters Try.prog 44 := enters_of Try.func44 rfl rfl
theorem ent45 : Enters Try.prog 45 := enters_of Try.func45 rfl rfl
theorem ent46 : Enters Try.prog 46 := enters_of Try.func46 rfl rfl
theorem ent47 : Enters Try.prog 47 := enters_of Try.func47 rfl rfl
theorem ent48 : Enters Try.prog 48 := enters_of Try.func48 rfl rfl
theorem ent49 : Enters Try.prog 49 := enters_of Try.func49 rfl rfl
theorem ent50 : Enters Try.prog 50 := enters_of Try.func50 rfl rfl
theorem ent51 : Enters Try.prog 51 := enters_of Try.func51 rfl rfl
theorem ent61 : Enters Try.prog 61 := enters_of Try.func61 rfl rfl
theorem ent62 : Enters Try.prog 62 := enters_of Try.func62 rfl rfl
theorem ent63 : Enters Try.prog 63 := enters_of Try.func63 rfl rfl
theorem ent64 : Enters Try.prog 64 := enters_of Try.func64 rfl rfl
theorem ent65 : Enters Try.prog 65 := enters_of Try.func65 rfl rfl
theorem ent73 : Enters Try.prog 73 := enters_of Try.func73 rfl rfl
theorem sby48_46 (cb : Array Value) : SortsBy Try.prog 48 46 2 (fun l => .agg l.toArray) cb :=
  sortsBy_K fun _ _ enc hk h1 cf hO blk cap d w hc hH hb hsz hT => Go.Proofs.AnyQ.slices_SortFunc_total Try.sortf48 2 tf44.run_isAgg tf44.run_size enc hk h1 cf hO 46 cb blk 0 cap d w ent46 hc hH hb hsz hT

set_option maxHeartbeats 4000000 in
theorem C_graph_Check (F : Nat) (x1 : List (List Int)) (a2 : Option Addr) (c3 : (Nat × List (Option Addr × Nat))) (r : Int) (hm : M_graph_Check F x1 = some r) :
    Pure Try.prog 26 [.agg #[.slice a2 x1.length c3.1]] [SlN eN32 iN32 1 (.slice a2 x1.length c3.1) x1 c3.2] Unit (fun _ => .int .i64 r) (fun _ => []) (fun _ => []) := by
  refine pure_of Try.func26 rfl Try.ntmps26 rfl hm (fun w => ?_)
  refine sxc_env (l' := [(0, .agg #[.slice a2 x1.length c3.1])]) rfl ?_
  refine sxc_seq ?_
  refine sxc_region ?_
  refine sxo_box rfl rfl rfl (fun g4 => ?_)
  refine sxo_assign rfl rfl rfl ?_
  refine sxo_nil ?_
  refine sxq_next ?_
  refine sxc_seq ?_
  refine sxc_region ?_
  refine sxo_fieldAddr rfl rfl ff24_0 rfl ?_
  refine sxo_loadB (i := 0) rfl rfl tf22 rfl rfl (fun _ => rfl) rfl rfl ?_
  refine sxo_len rfl Try.underlying22 rfl rfl ?_
  refine sxo_assign rfl rfl rfl ?_
  refine sxo_nil ?_
  refine sxq_next ?_
  refine sxc_seq ?_
  refine sxc_seq ?_
  refine sxc_region ?_
  refine sxo_move rfl rfl rfl ?_
  refine sxo_gtr rfl rfl rfl rfl ?_
  refine sxo_nil ?_
  refine sxq_next ?_
  refine sxc_if rfl (fun h1593 => ?_) (fun h1593 => ?_)
  · refine sxc_seq ?_
    refine sxc_region ?_
    refine sxo_assign rfl rfl rfl ?_
    refine sxo_nil ?_
    refine sxq_next ?_
    refine sxc_ret ?_
    refine sxq_thenR ?_
    exact sxq_doneP () (.inl rfl) (res1 rfl rfl) (fun h => by subst h; rfl) (fun h => by subst h; exact .nil)
  · refine sxc_skip ?_
    refine sxq_next ?_
    refine sxc_seq ?_
    refine sxc_region ?_
    refine sxo_assign rfl rfl rfl ?_
    refine sxo_nil ?_
    refine sxq_next ?_
    refine sxc_join (fun ((x798, _) : (Int × Unit)) => [(4, .int .i64 x798)]) (fun ((x798, _) : (Int × Unit)) => []) (fun ((x798, _) : (Int × Unit)) => []) (fun ((x798, _) : (Int × Unit)) => []) (fun ((x798, _) : (Int × Unit)) => M_graph_Check_j23 F x798) ?_ ?_
    · refine sxc_seq ?_
      refine sxc_region ?_
      refine sxo_fieldAddr rfl rfl ff24_0 rfl ?_
      refine sxo_loadB (i := 0) rfl rfl tf22 rfl rfl (fun _ => rfl) rfl rfl ?_
      refine sxo_len rfl Try.underlying22 rfl rfl ?_
      refine sxo_move rfl rfl rfl ?_
      refine sxo_nil ?_
      refine sxq_next ?_
      refine sxc_block ?_
      refine sxc_loopP (fun (((x1064, x1065), _) : ((Int × Int) × Unit)) => [(3, .int .i64 (x1.length : Int)), (4, .int .i64 x1064), (16, .slice a2 x1.length c3.1), (17, .int .i64 (x1.length : Int)), (18, .int .i64 x1065)]) (fun (((x1064, x1065), _) : ((Int × Int) × Unit)) => []) (fun (((x1064, x1065), _) : ((Int × Int) × Unit)) => []) (fun (((x1064, x1065), _) : ((Int × Int) × Unit)) => [SlN eN32 iN32 1 (.slice a2 x1.length c3.1) x1 c3.2]) (fun k (s : ((Int × Int) × Unit)) => M_graph_Check_l38 F x1 k s.1) ((0, 0), ()) F (lk_cons rfl (lk_cons rfl (lk_cons rfl (lk_cons rfl (lk_cons rfl lk_nil))))) .nil .nil (fk_cons 0 rfl fk_nil) (fun _ => rfl) ?_
      intro k1329
      rintro ⟨⟨x1064, x1065⟩, _⟩
      try dsimp only
      refine sxc_meq (m' := M_graph_Check_b38 F x1 (M_graph_Check_l38 F x1 k1329) x1064 x1065) rfl ?_
      refine sxc_seq ?_
      refine sxc_region ?_
      refine sxo_lss rfl rfl rfl rfl ?_
      refine sxo_nil ?_
      refine sxq_next ?_
      refine sxc_seq ?_
      refine sxc_if rfl (fun h1592 => ?_) (fun h1592 => ?_)
      · refine sxc_skip ?_
        refine sxq_next ?_
        refine sxc_join (fun ((x1461, _) : (Int × Unit)) => [(3, .int .i64 (x1.length : Int)), (4, .int .i64 x1461), (16, .slice a2 x1.length c3.1), (17, .int .i64 (x1.length : Int)), (18, .int .i64 x1065)]) (fun ((x1461, _) : (Int × Unit)) => []) (fun ((x1461, _) : (Int × Unit)) => []) (fun ((x1461, _) : (Int × Unit)) => [SlN eN32 iN32 1 (.slice a2 x1.length c3.1) x1 c3.2]) (fun ((x1461, _) : (Int × Unit)) => M_graph_Check_j42 F (M_graph_Check_l38 F x1 k1329) x1065 x1461) ?_ ?_
        · refine sxc_block ?_
          refine sxc_seq ?_
          refine sxc_region ?_
          refine sxo_indexN (j := 0) eN32_ok (by decide) rfl Try.underlying22 tf32 rfl rfl rfl rfl (fun x1462 e1462 g1465 b1463 o1464 => ?_)
          refine sxo_loadF (j := 0) rfl rfl tf32 rfl rfl (fun _ => rfl) rfl rfl ?_
          refine sxo_assign rfl rfl rfl ?_
          refine sxo_nil ?_
          refine sxq_next ?_
          refine sxc_seq ?_
          refine sxc_region ?_
          refine sxo_assign rfl rfl rfl ?_
          refine sxo_nil ?_
          refine sxq_next ?_
          refine sxc_join (fun ((_, _) : (Unit × Unit)) => [(3, .int .i64 (x1.length : Int)), (4, .int .i64 x1064), (6, .slice g1465.1 x1462.length g1465.2), (16, .slice a2 x1.length c3.1), (17, .int .i64 (x1.length : Int)), (18, .int .i64 x1065)]) (fun ((_, _) : (Unit × Unit)) => []) (fun ((_, _) : (Unit × Unit)) => []) (fun ((_, _) : (Unit × Unit)) => [Sl (eI .i64) 1 (.slice g1465.1 x1462.length g1465.2) x1462, SlN eN32 iN32 1 (.slice a2 x1.length c3.1) x1 c3.2]) (fun ((_, _) : (Unit × Unit)) => M_graph_Check_j44 F (M_graph_Check_l38 F x1 k1329) x1064 x1065 x1462) ?_ ?_
          · refine sxc_seq ?_
            refine sxc_region ?_
            refine sxo_move rfl rfl rfl ?_
            refine sxo_len rfl Try.underlying32 rfl rfl ?_
            refine sxo_move rfl rfl rfl ?_
            refine sxo_nil ?_
            refine sxq_next ?_
            refine sxc_block ?_
            refine sxc_loopP (fun (((x1549, x1550), _) : ((Int × Int) × Unit)) => [(3, .int .i64 (x1.length : Int)), (4, .int .i64 x1064), (6, .slice g1465.1 x1462.length g1465.2), (7, .int .i64 x1549), (16, .slice a2 x1.length c3.1), (17, .int .i64 (x1.length : Int)), (18, .int .i64 x1065), (22, .slice g1465.1 x1462.length g1465.2), (23, .int .i64 (x1462.length : Int)), (24, .int .i64 x1550)]) (fun (((x1549, x1550), _) : ((Int × Int) × Unit)) => []) (fun (((x1549, x1550), _) : ((Int × Int) × Unit)) => []) (fun (((x1549, x1550), _) : ((Int × Int) × Unit)) => [Sl (eI .i64) 1 (.slice g1465.1 x1462.length g1465.2) x1462, SlN eN32 iN32 1 (.slice a2 x1.length c3.1) x1 c3.2]) (fun k (s : ((Int × Int) × Unit)) => M_graph_Check_l45 F (M_graph_Check_l38 F x1 k1329) x1 x1064 x1065 x1462 k s.1) ((-1, 0), ()) F (lk_cons rfl (lk_cons rfl (lk_cons rfl (lk_cons rfl (lk_cons rfl (lk_cons rfl (lk_cons rfl (lk_cons rfl (lk_cons rfl (lk_cons rfl lk_nil)))))))))) .nil .nil (fk_cons 1 rfl (fk_cons 2 rfl fk_nil)) (fun _ => rfl) ?_
            intro k1571
            rintro ⟨⟨x1549, x1550⟩, _⟩
            try dsimp only
            refine sxc_meq (m' := M_graph_Check_b45 F (M_graph_Check_l38 F x1 k1329) x1 x1064 x1065 x1462 (M_graph_Check_l45 F (M_graph_Check_l38 F x1 k1329) x1 x1064 x1065 x1462 k1571) x1549 x1550) rfl ?_
            refine sxc_seq ?_
            refine sxc_region ?_
            refine sxo_lss rfl rfl rfl rfl ?_
            refine sxo_nil ?_
            refine sxq_next ?_
            refine sxc_seq ?_
            refine sxc_if rfl (fun h1591 => ?_) (fun h1591 => ?_)
            · refine sxc_skip ?_
              refine sxq_next ?_
              refine sxc_seq ?_
              refine sxc_block ?_
              refine sxc_seq ?_
              refine sxc_region ?_
              refine sxo_indexF (j := 0) (eI_ok .i64) (by decide) rfl Try.underlying32 tf3 rfl rfl rfl rfl (fun x1582 e1582 b1583 o1584 => ?_)
              refine sxo_loadF (j := 0) rfl rfl tf3 rfl rfl (fun _ => rfl) rfl rfl ?_
              refine sxo_assign rfl rfl rfl ?_
              refine sxo_nil ?_
              refine sxq_next ?_
              refine sxc_seq ?_
              refine sxc_block ?_
              refine sxc_seq ?_
              refine sxc_region ?_
              refine sxo_move rfl rfl rfl ?_
              refine sxo_lss rfl rfl rfl rfl ?_
              refine sxo_move rfl rfl rfl ?_
              refine sxo_case 4 (decide (x1582 < 0)) [(3, .int .i64 (x1.length : Int)), (4, .int .i64 x1064), (6, .slice g1465.1 x1462.length g1465.2), (7, .int .i64 x1549), (16, .slice a2 x1.length c3.1), (17, .int .i64 (x1.length : Int)), (18, .int .i64 x1065), (22, .slice g1465.1 x1462.length g1465.2), (23, .int .i64 (x1462.length : Int)), (24, .int .i64 x1550), (9, .int .i64 x1582), (35, .bool ((decide (x1582 < 0)) || (decide ((x1.length : Int) ≤ x1582))))] (fun h1588 => ?_) (fun h1588 => ?_) ?_
              · refine sxo_take (os := _) rfl ?_
                refine sxo_isT (k := 31) rfl h1588 ?_
                refine sxo_skip rfl rfl rfl ?_
                refine sxo_skip rfl rfl rfl ?_
                refine sxo_skip rfl rfl rfl ?_
                refine sxo_pick (b := true) rfl rfl rfl rfl ?_
                refine sxo_again (d := 35) (v := .bool ((decide (x1582 < 0)) || (decide ((x1.length : Int) ≤ x1582)))) rfl (by rw [h1588]; simp only [Bool.true_or]) ?_
                refine sxo_nil ?_
                exact sxq_case (lk_cons rfl (lk_cons rfl (lk_cons rfl (lk_cons rfl (lk_cons rfl (lk_cons rfl (lk_cons rfl (lk_cons rfl (lk_cons rfl (lk_cons rfl (lk_cons rfl (lk_cons rfl lk_nil))))))))))))
              · refine sxo_take (os := _) rfl ?_
                refine sxo_isF (k := 31) rfl h1588 ?_
                refine sxo_move rfl rfl rfl ?_
                refine sxo_move rfl rfl rfl ?_
                refine sxo_geq rfl rfl rfl rfl ?_
                refine sxo_pick (b := false) rfl rfl rfl rfl ?_
                refine sxo_again (d := 35) (v := .bool ((decide (x1582 < 0)) || (decide ((x1.length : Int) ≤ x1582)))) rfl (by rw [h1588]; simp only [Bool.false_or]) ?_
                refine sxo_nil ?_
                exact sxq_case (lk_cons rfl (lk_cons rfl (lk_cons rfl (lk_cons rfl (lk_cons rfl (lk_cons rfl (lk_cons rfl (lk_cons rfl (lk_cons rfl (lk_cons rfl (lk_cons rfl (lk_cons rfl lk_nil))))))))))))
              refine sxo_take (os := _) rfl ?_
              refine sxo_assign rfl rfl rfl ?_
              refine sxo_nil ?_
              refine sxq_next ?_
              refine sxc_if rfl (fun h1590 => ?_) (fun h1590 => ?_)
              · refine sxc_seq ?_
                refine sxc_region ?_
                refine sxo_assign rfl rfl rfl ?_
                refine sxo_nil ?_
                refine sxq_next ?_
                refine sxc_ret ?_
                refine sxq_blkR ?_
                refine sxq_thenR ?_
                refine sxq_blkR ?_
                refine sxq_thenR ?_
                refine sxq_thenR ?_
                refine sxq_blkR ?_
                refine sxq_thenR ?_
                refine sxq_blkR ?_
                refine sxq_thenR ?_
                refine sxq_thenR ?_
                refine sxq_blkR ?_
                refine sxq_thenR ?_
                exact sxq_doneP () (.inl rfl) (res1 rfl rfl) (fun h => by subst h; rfl) (fun h => by subst h; exact .nil)
              · refine sxc_seq ?_
                refine sxc_region ?_
                refine sxo_move rfl rfl rfl ?_
                refine sxo_move rfl rfl rfl ?_
                refine sxo_leq rfl rfl rfl rfl ?_
                refine sxo_assign rfl rfl rfl ?_
                refine sxo_nil ?_
                refine sxq_next ?_
                refine sxc_if rfl (fun h1589 => ?_) (fun h1589 => ?_)
                · refine sxc_seq ?_
                  refine sxc_region ?_
                  refine sxo_assign rfl rfl rfl ?_
                  refine sxo_nil ?_
                  refine sxq_next ?_
                  refine sxc_ret ?_
                  refine sxq_blkR ?_
                  refine sxq_thenR ?_
                  refine sxq_blkR ?_
                  refine sxq_thenR ?_
                  refine sxq_thenR ?_
                  refine sxq_blkR ?_
                  refine sxq_thenR ?_
                  refine sxq_blkR ?_
                  refine sxq_thenR ?_
                  refine sxq_thenR ?_
                  refine sxq_blkR ?_
                  refine sxq_thenR ?_
                  exact sxq_doneP () (.inl rfl) (res1 rfl rfl) (fun h => by subst h; rfl) (fun h => by subst h; exact .nil)
                · refine sxc_skip ?_
                  refine sxq_blkN ?_
                  refine sxq_next ?_
                  refine sxc_region ?_
                  refine sxo_move rfl rfl rfl ?_
                  refine sxo_assign rfl rfl rfl ?_
                  refine sxo_nil ?_
                  refine sxq_blkN ?_
                  refine sxq_next ?_
                  refine sxc_region ?_
                  refine sxo_add rfl rfl rfl rfl ?_
                  refine sxo_move rfl rfl rfl ?_
                  refine sxo_nil ?_
                  exact sxq_againP ((x1582, iadd .i64 x1550 1), ()) (lk_cons rfl (lk_cons rfl (lk_cons rfl (lk_cons rfl (lk_cons rfl (lk_cons rfl (lk_cons rfl (lk_cons rfl (lk_cons rfl (lk_cons rfl lk_nil)))))))))) .nil .nil (fk_cons 1 rfl (fk_cons 2 rfl fk_nil))
            · refine sxc_exit ?_
              refine sxq_thenX ?_
              refine sxq_thenX ?_
              refine sxq_blkX ?_
              exact sxq_meetP ((), ()) (lk_cons rfl (lk_cons rfl (lk_cons rfl (lk_cons rfl (lk_cons rfl (lk_cons rfl lk_nil)))))) .nil .nil (fk_cons 0 rfl (fk_cons 1 rfl fk_nil))
          · rintro ⟨_, _⟩
            try dsimp only
            refine sxc_region ?_
            refine sxo_move rfl rfl rfl ?_
            refine sxo_move rfl rfl rfl ?_
            refine sxo_len rfl Try.underlying32 rfl rfl ?_
            refine sxo_add rfl rfl rfl rfl ?_
            refine sxo_assign rfl rfl rfl ?_
            refine sxo_nil ?_
            refine sxq_blkN ?_
            exact sxq_meetP (iadd .i64 x1064 (x1462.length : Int), ()) (lk_cons rfl (lk_cons rfl (lk_cons rfl (lk_cons rfl (lk_cons rfl lk_nil))))) .nil .nil (fk_cons 1 rfl fk_nil)
        · rintro ⟨x1461, _⟩
          try dsimp only
          refine sxc_region ?_
          refine sxo_add rfl rfl rfl rfl ?_
          refine sxo_move rfl rfl rfl ?_
          refine sxo_nil ?_
          exact sxq_againP ((x1461, iadd .i64 x1065 1), ()) (lk_cons rfl (lk_cons rfl (lk_cons rfl (lk_cons rfl (lk_cons rfl lk_nil))))) .nil .nil (fk_cons 0 rfl fk_nil)
      · refine sxc_exit ?_
        refine sxq_thenX ?_
        refine sxq_thenX ?_
        refine sxq_blkX ?_
        exact sxq_meetP (x1064, ()) (lk_cons rfl lk_nil) .nil .nil fk_nil
    · rintro ⟨x798, _⟩
      try dsimp only
      refine sxc_seq ?_
      refine sxc_seq ?_
      refine sxc_region ?_
      refine sxo_move rfl rfl rfl ?_
      refine sxo_gtr rfl rfl rfl rfl ?_
      refine sxo_nil ?_
      refine sxq_next ?_
      refine sxc_if rfl (fun h800 => ?_) (fun h800 => ?_)
      · refine sxc_seq ?_
        refine sxc_region ?_
        refine sxo_assign rfl rfl rfl ?_
        refine sxo_nil ?_
        refine sxq_next ?_
        refine sxc_ret ?_
        refine sxq_thenR ?_
        exact sxq_doneP () (.inl rfl) (res1 rfl rfl) (fun h => by subst h; rfl) (fun h => by subst h; exact .nil)
      · refine sxc_skip ?_
        refine sxq_next ?_
        refine sxc_seq ?_
        refine sxc_region ?_
        refine sxo_assign rfl rfl rfl ?_
        refine sxo_nil ?_
        refine sxq_next ?_
        refine sxc_ret ?_
        exact sxq_doneP () (.inl rfl) (res1 rfl rfl) (fun h => by subst h; rfl) (fun h => by subst h; exact .nil)

theorem C_graph_All (F : Nat) (x1 : List (List Int)) (a2 : Option Addr) (c3 : (Nat × List (Option Addr × Nat))) (r : Unit) (hm : M_graph_All F x1 = some r) :
    PureM Try.prog 42 [.agg #[.slice a2 x1.length c3.1]] [] [] [SlN eN32 iN32 1 (.slice a2 x1.length c3.1) x1 c3.2] Nat (fun g => .func (.func 62) #[] #[.pointer (some ⟨g, 0, none⟩)]) (fun g => [⟨g, 24, [.slice a2 x1.length c3.1]⟩]) (fun _ => []) := by
  refine pureM_of Try.func42 rfl Try.ntmps42 rfl hm (fun w => ?_)
  refine sxc_env (l' := [(0, .agg #[.slice a2 x1.length c3.1])]) rfl ?_
  refine sxc_seq ?_
  refine sxc_region ?_
  refine sxo_box rfl rfl rfl (fun g4 => ?_)
  refine sxo_assign rfl rfl rfl ?_
  refine sxo_nil ?_
  refine sxq_next ?_
  refine sxc_seq ?_
  refine sxc_region ?_
  refine sxo_makeFunc rfl rfl rfl ?_
  refine sxo_assign rfl rfl rfl ?_
  refine sxo_nil ?_
  refine sxq_next ?_
  refine sxc_ret ?_
  exact sxq_doneM g4 (.inl rfl) (res1 rfl rfl) (fun h => by subst h; rfl) (fun h => by subst h; exact (.cons 0 rfl .nil)) (fun h => by subst h; exact .nil)

theorem C_graph_All_1 (F : Nat) {σ τ : Type} {J : Rounds σ τ} {yy : σ → (Int × Int) → Option (σ ⊕ τ)} {L : Nat} (hY : YieldC Try.prog L (fun (p : (Int × Int)) => [.agg #[.int .i64 p.1, .int .i64 p.2]]) J yy) (s0 : σ) (gs0 : J.γ) (g1 : Nat) (x2 : List (List Int)) (a3 : Option Addr) (c4 : (Nat × List (Option Addr × Nat))) (r : σ ⊕ τ) (hm : M_graph_All_1 F yy x2 s0 = some r) :
    PureM Try.prog 62 ([.func (.yield L) #[] #[], .pointer (some ⟨g1, 0, none⟩)]) ([⟨g1, 24, [.slice a3 x2.length c4.1]⟩] ++ J.IB s0 gs0) (J.IR s0 gs0) [J.F, SlN eN32 iN32 1 (.slice a3 x2.length c4.1) x2 c4.2] (J.G r) (fun _ => .tuple #[]) (fun g => [⟨g1, 24, [.slice a3 x2.length c4.1]⟩] ++ J.bs r g) (fun g => J.rs r g) := by
  refine pureM_of Try.func62 rfl Try.ntmps62 rfl hm (fun w => ?_)
  refine sxc_env (l' := [(0, .func (.yield L) #[] #[]), (1, .pointer (some ⟨g1, 0, none⟩))]) rfl ?_
  refine sxc_seq ?_
  refine sxc_region ?_
  refine sxo_fieldAddr rfl rfl ff24_0 rfl ?_
  refine sxo_loadB (i := 0) rfl rfl tf22 rfl rfl (fun _ => rfl) rfl rfl ?_
  refine sxo_len rfl Try.underlying22 rfl rfl ?_
  refine sxo_move rfl rfl rfl ?_
  refine sxo_nil ?_
  refine sxq_next ?_
  refine sxc_block ?_
  refine sxc_loopP (fun (((x121, x122), g123) : ((Int × σ) × J.γ)) => [(0, .func (.yield L) #[] #[]), (8, .slice a3 x2.length c4.1), (9, .int .i64 (x2.length : Int)), (10, .int .i64 x121)]) (fun (((x121, x122), g123) : ((Int × σ) × J.γ)) => [⟨g1, 24, [.slice a3 x2.length c4.1]⟩] ++ J.IB x122 g123) (fun (((x121, x122), g123) : ((Int × σ) × J.γ)) => [] ++ J.IR x122 g123) (fun (((x121, x122), g123) : ((Int × σ) × J.γ)) => [SlN eN32 iN32 1 (.slice a3 x2.length c4.1) x2 c4.2, J.F]) (fun k (s : ((Int × σ) × J.γ)) => M_graph_All_1_l7 F yy x2 k s.1) ((0, s0), gs0) F (lk_cons rfl (lk_cons rfl (lk_cons rfl (lk_cons rfl lk_nil)))) (.cons 0 rfl (pick_rest 0 rfl)) (pick_rest 0 rfl) (fk_cons 1 rfl (fk_cons 0 rfl fk_nil)) (fun _ => rfl) ?_
  intro k240
  rintro ⟨⟨x121, x122⟩, g123⟩
  try dsimp only
  refine sxc_meq (m' := M_graph_All_1_b7 F yy x2 (M_graph_All_1_l7 F yy x2 k240) x121 x122) rfl ?_
  refine sxc_seq ?_
  refine sxc_region ?_
  refine sxo_lss rfl rfl rfl rfl ?_
  refine sxo_nil ?_
  refine sxq_next ?_
  refine sxc_seq ?_
  refine sxc_if rfl (fun h356 => ?_) (fun h356 => ?_)
  · refine sxc_skip ?_
    refine sxq_next ?_
    refine sxc_join (fun ((x298, g299) : (σ × J.γ)) => [(0, .func (.yield L) #[] #[]), (8, .slice a3 x2.length c4.1), (9, .int .i64 (x2.length : Int)), (10, .int .i64 x121)]) (fun ((x298, g299) : (σ × J.γ)) => [⟨g1, 24, [.slice a3 x2.length c4.1]⟩] ++ J.IB x298 g299) (fun ((x298, g299) : (σ × J.γ)) => [] ++ J.IR x298 g299) (fun ((x298, g299) : (σ × J.γ)) => [SlN eN32 iN32 1 (.slice a3 x2.length c4.1) x2 c4.2, J.F]) (fun ((x298, _) : (σ × J.γ)) => M_graph_All_1_j9 F yy (M_graph_All_1_l7 F yy x2 k240) x121 x298) ?_ ?_
    · refine sxc_block ?_
      refine sxc_seq ?_
      refine sxc_region ?_
      refine sxo_move rfl rfl rfl ?_
      refine sxo_indexN (j := 0) eN32_ok (by decide) rfl Try.underlying22 tf32 rfl rfl rfl rfl (fun x300 e300 g303 b301 o302 => ?_)
      refine sxo_loadF (j := 0) rfl rfl tf32 rfl rfl (fun _ => rfl) rfl rfl ?_
      refine sxo_assign rfl rfl rfl ?_
      refine sxo_assign rfl rfl rfl ?_
      refine sxo_nil ?_
      refine sxq_next ?_
      refine sxc_seq ?_
      refine sxc_region ?_
      refine sxo_move rfl rfl rfl ?_
      refine sxo_len rfl Try.underlying32 rfl rfl ?_
      refine sxo_move rfl rfl rfl ?_
      refine sxo_nil ?_
      refine sxq_next ?_
      refine sxc_block ?_
      refine sxc_loopP (fun (((x320, x321), g322) : ((Int × σ) × J.γ)) => [(0, .func (.yield L) #[] #[]), (3, .int .i64 x121), (8, .slice a3 x2.length c4.1), (9, .int .i64 (x2.length : Int)), (10, .int .i64 x121), (15, .slice g303.1 x300.length g303.2), (16, .int .i64 (x300.length : Int)), (17, .int .i64 x320)]) (fun (((x320, x321), g322) : ((Int × σ) × J.γ)) => [⟨g1, 24, [.slice a3 x2.length c4.1]⟩] ++ J.IB x321 g322) (fun (((x320, x321), g322) : ((Int × σ) × J.γ)) => [] ++ J.IR x321 g322) (fun (((x320, x321), g322) : ((Int × σ) × J.γ)) => [SlN eN32 iN32 1 (.slice a3 x2.length c4.1) x2 c4.2, Sl (eI .i64) 1 (.slice g303.1 x300.length g303.2) x300, J.F]) (fun k (s : ((Int × σ) × J.γ)) => M_graph_All_1_l10 F yy (M_graph_All_1_l7 F yy x2 k240) x121 x300 k s.1) ((0, x122), g123) F (lk_cons rfl (lk_cons rfl (lk_cons rfl (lk_cons rfl (lk_cons rfl (lk_cons rfl (lk_cons rfl (lk_cons rfl lk_nil)))))))) (.cons 0 rfl (pick_rest 0 rfl)) (pick_rest 0 rfl) (fk_cons 2 rfl (fk_cons 1 rfl (fk_cons 3 rfl fk_nil))) (fun _ => rfl) ?_
      intro k339
      rintro ⟨⟨x320, x321⟩, g322⟩
      try dsimp only
      refine sxc_meq (m' := M_graph_All_1_b10 F yy (M_graph_All_1_l7 F yy x2 k240) x121 x300 (M_graph_All_1_l10 F yy (M_graph_All_1_l7 F yy x2 k240) x121 x300 k339) x320 x321) rfl ?_
      refine sxc_seq ?_
      refine sxc_region ?_
      refine sxo_lss rfl rfl rfl rfl ?_
      refine sxo_nil ?_
      refine sxq_next ?_
      refine sxc_seq ?_
      refine sxc_if rfl (fun h355 => ?_) (fun h355 => ?_)
      · refine sxc_skip ?_
        refine sxq_next ?_
        refine sxc_seq ?_
        refine sxc_block ?_
        refine sxc_seq ?_
        refine sxc_region ?_
        refine sxo_indexF (j := 1) (eI_ok .i64) (by decide) rfl Try.underlying32 tf3 rfl rfl rfl rfl (fun x348 e348 b349 o350 => ?_)
        refine sxo_loadF (j := 0) rfl rfl tf3 rfl rfl (fun _ => rfl) rfl rfl ?_
        refine sxo_assign rfl rfl rfl ?_
        refine sxo_nil ?_
        refine sxq_next ?_
        refine sxc_seq ?_
        refine sxc_region ?_
        refine sxo_move rfl rfl rfl ?_
        refine sxo_move rfl rfl rfl ?_
        refine sxo_move rfl rfl rfl ?_
        refine sxo_build (cells := [.int .i64 x121, .int .i64 x348]) rfl st44 rfl (by kernel_rfl) rfl ?_
        refine sxo_yield hY x321 (x121, x348) g322 (B1 := [⟨g1, 24, [.slice a3 x2.length c4.1]⟩]) (R1 := []) (j := 3) rfl rfl rfl rfl rfl rfl rfl (fun x351 _ g353 => ?_) (fun x352 _ g353 => ?_)
        · refine sxo_not rfl rfl rfl ?_
          refine sxo_nil ?_
          refine sxq_next ?_
          refine sxc_cond (b := false) rfl (fun h => by cases h) (fun _ => ?_)
          refine sxc_skip ?_
          refine sxq_blkN ?_
          refine sxq_next ?_
          refine sxc_region ?_
          refine sxo_add rfl rfl rfl rfl ?_
          refine sxo_move rfl rfl rfl ?_
          refine sxo_nil ?_
          exact sxq_againP ((iadd .i64 x320 1, x351), g353) (lk_cons rfl (lk_cons rfl (lk_cons rfl (lk_cons rfl (lk_cons rfl (lk_cons rfl (lk_cons rfl (lk_cons rfl lk_nil)))))))) (.cons 0 rfl (pick_rest 0 rfl)) (pick_rest 0 rfl) (fk_cons 1 rfl (fk_cons 2 rfl (fk_cons 3 rfl fk_nil)))
        · refine sxo_not rfl rfl rfl ?_
          refine sxo_nil ?_
          refine sxq_next ?_
          refine sxc_cond (b := true) rfl (fun _ => ?_) (fun h => by cases h)
          refine sxc_ret ?_
          refine sxq_blkR ?_
          refine sxq_thenR ?_
          refine sxq_thenR ?_
          refine sxq_blkR ?_
          refine sxq_blkR ?_
          refine sxq_thenR ?_
          refine sxq_thenR ?_
          refine sxq_blkR ?_
          exact sxq_doneI (B0 := [⟨g1, 24, [.slice a3 x2.length c4.1]⟩]) (x := .inr x352) g353 (.inl rfl) (res0 rfl) (.cons 0 rfl (pick_rest 0 rfl)) (pick_rest 0 rfl)
      · refine sxc_exit ?_
        refine sxq_thenX ?_
        refine sxq_thenX ?_
        refine sxq_blkX ?_
        refine sxq_blkN ?_
        exact sxq_meetP (x321, g322) (lk_cons rfl (lk_cons rfl (lk_cons rfl (lk_cons rfl lk_nil)))) (.cons 0 rfl (pick_rest 0 rfl)) (pick_rest 0 rfl) (fk_cons 0 rfl (fk_cons 2 rfl fk_nil))
    · rintro ⟨x298, g299⟩
      try dsimp only
      refine sxc_region ?_
      refine sxo_add rfl rfl rfl rfl ?_
      refine sxo_move rfl rfl rfl ?_
      refine sxo_nil ?_
      exact sxq_againP ((iadd .i64 x121 1, x298), g299) (lk_cons rfl (lk_cons rfl (lk_cons rfl (lk_cons rfl lk_nil)))) (.cons 0 rfl (pick_rest 0 rfl)) (pick_rest 0 rfl) (fk_cons 0 rfl (fk_cons 1 rfl fk_nil))
  · refine sxc_exit ?_
    refine sxq_thenX ?_
    refine sxq_thenX ?_
    refine sxq_blkX ?_
    exact sxq_doneI (B0 := [⟨g1, 24, [.slice a3 x2.length c4.1]⟩]) (x := .inl x122) g123 (.inr rfl) (res0 rfl) (.cons 0 rfl (pick_rest 0 rfl)) (pick_rest 0 rfl)

theorem C_slices_AppendSeq_api_Arc_api_Arc_graph_All_1 (F : Nat) (x1 : List (Int × Int)) (a2 : Option Addr) (c3 : Nat) (g4 : Nat) (x5 : List (List Int)) (a6 : Option Addr) (c7 : (Nat × List (Option Addr × Nat))) (r : List (Int × Int)) (hm : M_slices_AppendSeq_api_Arc_api_Arc_graph_All_1 F x1 x5 = some r) :
    PureM Try.prog 61 [.slice a2 x1.length c3, .func (.func 62) #[] #[.pointer (some ⟨g4, 0, none⟩)]] [⟨g4, 24, [.slice a6 x5.length c7.1]⟩] [Ro eS44 44 2 (.slice a2 x1.length c3) x1] [SlN eN32 iN32 1 (.slice a6 x5.length c7.1) x5 c7.2] (Option Addr × Nat) (fun g => .slice g.1 r.length g.2) (fun _ => [⟨g4, 24, [.slice a6 x5.length c7.1]⟩]) (fun g => [Ro eS44 44 2 (.slice g.1 r.length g.2) r]) := by
  refine pureX_of Try.func61 rfl Try.ntmps61 rfl hm (fun w => ?_)
  refine sxc_env (l' := [(0, .slice a2 x1.length c3), (1, .func (.func 62) #[] #[.pointer (some ⟨g4, 0, none⟩)])]) rfl ?_
  refine sxc_seq ?_
  refine sxc_region ?_
  refine sxo_box rfl rfl rfl (fun g8 => ?_)
  refine sxo_assign rfl rfl rfl ?_
  refine sxo_nil ?_
  refine sxq_next ?_
  refine sxc_seq ?_
  refine sxc_seq ?_
  refine sxc_region ?_
  refine sxo_move rfl rfl rfl ?_
  refine sxo_nil ?_
  refine sxq_next ?_
  refine sxc_block ?_
  refine sxc_range (encs := (fun (p : (Int × Int)) => [.agg #[.int .i64 p.1, .int .i64 p.2]])) (y := (fun (x46 : List (Int × Int)) ((x55, x56) : (Int × Int)) => M_slices_AppendSeq_api_Arc_api_Arc_graph_All_1_r2 F x46 x55 x56)) (lb := [.pointer (some ⟨g4, 0, none⟩)]) (fun (x46 : List (Int × Int)) ((a44, c45) : (Option Addr × Nat)) => [⟨g8, 25, [.slice a44 x46.length c45]⟩]) (fun (x46 : List (Int × Int)) ((a44, c45) : (Option Addr × Nat)) => [Ro eS44 44 2 (.slice a44 x46.length c45) x46]) (fun (_ : Empty) (_ : Unit) => []) (fun (_ : Empty) (_ : Unit) => []) (fun _ => .skip) x1 (a2, c3) rfl ent62 (fun _ => rfl) rfl (.cons 1 rfl .nil) (.cons 0 rfl .nil) (.cons 0 rfl .nil) (.consF 0 rfl .nil) (fun z hz _ _ _ hY => C_graph_All_1 F hY x1 (a2, c3) g4 x5 a6 c7 z hz) ?_ ?_ ?_
  · rintro rc1 L1 D1 x46 ⟨a44, c45⟩ ⟨x55, x56⟩ z w M _
    try dsimp only
    refine sxc_less [(0, .slice a2 x1.length c3), (1, .func (.func 62) #[] #[.pointer (some ⟨g4, 0, none⟩)]), (2, .pointer (some ⟨g8, 0, none⟩)), (4, .slice none 0 0), (6, .func (.func 62) #[] #[.pointer (some ⟨g4, 0, none⟩)]), (7, .agg #[.int .i64 x55, .int .i64 x56])] (lk_cons rfl (lk_cons rfl (lk_cons rfl (lk_cons rfl (lk_cons rfl (lk_cons rfl lk_nil)))))) ?_
    refine sxc_region ?_
    refine sxo_alloc rfl tf44 rfl (fun g57 => ?_)
    refine sxo_storeB (i := 0) rfl rfl rfl tf44 rfl rfl rfl rfl rfl ?_
    refine sxo_nil ?_
    refine sxq_begin (i := 2) rfl ?_
    refine sxc_block ?_
    refine sxc_region ?_
    refine sxo_loadB (i := 1) rfl rfl tf25 rfl rfl (fun _ => rfl) rfl rfl ?_
    refine sxo_loadB (i := 0) rfl rfl tf44 rfl rfl (by simp) rfl rfl ?_
    refine sxo_slit (vs := [.agg #[.int .i64 x55, .int .i64 x56]]) (ys := ([(x55, x56)] : List (Int × Int))) eS44_ok (by decide) rfl Try.underlying25 tf44 rfl rfl rfl rfl rfl (by decide) (fun a58 c59 => ?_)
    refine sxo_app 1 eS44_ok rfl Try.underlying25 tf44 rfl rfl rfl rfl rfl (.inl ⟨0, _, rfl⟩) rfl rfl (fun x60 e60 a61 c62 => ?_)
    refine sxo_storeB (i := 1) rfl rfl rfl tf25 rfl rfl rfl rfl rfl ?_
    refine sxo_nil ?_
    refine sxq_blkN ?_
    exact sxq_round (rc := rc1) rfl (.cons 2 rfl .nil) rfl (a61, c62) (.cons 2 rfl (.cons 0 rfl (.cons 1 rfl .nil))) (.cons 0 rfl .nil)
  · rintro x46 _ ⟨a44, c45⟩ D1
    try dsimp only
    refine sxq_blkN ?_
    refine sxq_next ?_
    refine sxc_seq ?_
    refine sxc_region ?_
    refine sxo_loadB (i := 2) rfl rfl tf25 rfl rfl (fun _ => rfl) rfl rfl ?_
    refine sxo_assign rfl rfl rfl ?_
    refine sxo_nil ?_
    refine sxq_next ?_
    refine sxc_ret ?_
    exact sxq_doneX [D1] (a44, c45) (.inl rfl) rfl (.cons 0 rfl .nil) (res1 rfl rfl) (fun h => by subst h; rfl) (fun h => by subst h; exact (.cons 0 rfl .nil)) (fun h => by subst h; exact (.cons 0 rfl .nil))
  · intro t; exact t.elim

theorem C_slices_Collect_api_Arc_graph_All_1 (F : Nat) (g1 : Nat) (x2 : List (List Int)) (a3 : Option Addr) (c4 : (Nat × List (Option Addr × Nat))) (r : List (Int × Int)) (hm : M_slices_Collect_api_Arc_graph_All_1 F x2 = some r) :
    PureM Try.prog 41 [.func (.func 62) #[] #[.pointer (some ⟨g1, 0, none⟩)]] [⟨g1, 24, [.slice a3 x2.length c4.1]⟩] [] [SlN eN32 iN32 1 (.slice a3 x2.length c4.1) x2 c4.2] (Option Addr × Nat) (fun g => .slice g.1 r.length g.2) (fun _ => [⟨g1, 24, [.slice a3 x2.length c4.1]⟩]) (fun g => [Ro eS44 44 2 (.slice g.1 r.length g.2) r]) := by
  refine pureM_of Try.func41 rfl Try.ntmps41 rfl hm (fun w => ?_)
  refine sxc_env (l' := [(0, .func (.func 62) #[] #[.pointer (some ⟨g1, 0, none⟩)])]) rfl ?_
  refine sxc_seq ?_
  refine sxc_region ?_
  refine sxo_assign rfl rfl rfl ?_
  refine sxo_nil ?_
  refine sxq_next ?_
  refine sxc_seq ?_
  refine sxc_region ?_
  refine sxo_move rfl rfl rfl ?_
  refine sxo_nilrow' (Int × Int) eS44 44 2 ?_
  refine sxo_callM ent61 rfl rfl rfl (fun x5 e5 => C_slices_AppendSeq_api_Arc_api_Arc_graph_All_1 F ([] : List (Int × Int)) none 0 g1 x2 a3 c4 x5 e5) (.cons 0 rfl .nil) (.cons 0 rfl .nil) (.consF 0 rfl .nil) (fun x5 e5 => ?_)
  rintro ⟨a6, c7⟩
  refine sxo_assign rfl rfl rfl ?_
  refine sxo_nil ?_
  refine sxq_next ?_
  refine sxc_ret ?_
  exact sxq_doneM (a6, c7) (.inl rfl) (res1 rfl rfl) (fun h => by subst h; rfl) (fun h => by subst h; exact (.cons 0 rfl .nil)) (fun h => by subst h; exact (.cons 0 rfl .nil))

theorem C_graph_Arcs (F : Nat) (x1 : List (List Int)) (a2 : Option Addr) (c3 : (Nat × List (Option Addr × Nat))) (r : (List (Int × Int) × Int)) (hm : M_graph_Arcs F x1 = some r) :
    Pure Try.prog 15 [.agg #[.slice a2 x1.length c3.1]] [SlN eN32 iN32 1 (.slice a2 x1.length c3.1) x1 c3.2] (Option Addr × Nat) (fun g => .tuple #[.slice g.1 r.1.length g.2, .int .i64 r.2]) (fun g => [Ro eS44 44 2 (.slice g.1 r.1.length g.2) r.1]) (fun _ => []) := by
  refine pure_of Try.func15 rfl Try.ntmps15 rfl hm (fun w => ?_)
  refine sxc_env (l' := [(0, .agg #[.slice a2 x1.length c3.1])]) rfl ?_
  refine sxc_seq ?_
  refine sxc_region ?_
  refine sxo_box rfl rfl rfl (fun g4 => ?_)
  refine sxo_assign rfl rfl rfl ?_
  refine sxo_assign rfl rfl rfl ?_
  refine sxo_nil ?_
  refine sxq_next ?_
  refine sxc_seq ?_
  refine sxc_seq ?_
  refine sxc_region ?_
  refine sxo_loadB (i := 0) rfl rfl tf24 rfl rfl (by simp) rfl rfl ?_
  refine sxo_call ent26 rfl rfl rfl (fun x7 e7 => C_graph_Check F x1 a2 c3 x7 e7) (.consF 0 rfl .nil) (fun x7 e7 => ?_)
  intro _
  refine sxo_assign rfl rfl rfl ?_
  refine sxo_nil ?_
  refine sxq_next ?_
  refine sxc_seq ?_
  refine sxc_region ?_
  refine sxo_move rfl rfl rfl ?_
  refine sxo_neq rfl rfl rfl rfl ?_
  refine sxo_nil ?_
  refine sxq_next ?_
  refine sxc_if rfl (fun h13 => ?_) (fun h13 => ?_)
  · refine sxc_seq ?_
    refine sxc_region ?_
    refine sxo_move rfl rfl rfl ?_
    refine sxo_assign rfl rfl rfl ?_
    refine sxo_assign rfl rfl rfl ?_
    refine sxo_nil ?_
    refine sxq_next ?_
    refine sxc_ret ?_
    refine sxq_thenR ?_
    refine sxq_nilrow (Int × Int) eS44 44 2 ?_
    exact sxq_doneP (none, 0) (.inl rfl) (res2 rfl rfl rfl) (fun h => by subst h; rfl) (fun h => by subst h; exact (.cons 0 rfl .nil))
  · refine sxc_skip ?_
    refine sxq_next ?_
    refine sxc_seq ?_
    refine sxc_region ?_
    refine sxo_loadB (i := 0) rfl rfl tf24 rfl rfl (by simp) rfl rfl ?_
    refine sxo_callM ent42 rfl rfl rfl (fun x8 e8 => C_graph_All F x1 a2 c3 x8 e8) .nil .nil (.consF 0 rfl .nil) (fun x8 e8 => ?_)
    rintro g9
    refine sxo_callM ent41 rfl rfl rfl (fun x10 e10 => C_slices_Collect_api_Arc_graph_All_1 F g9 x1 a2 c3 x10 e10) (.cons 0 rfl .nil) .nil (.consF 0 rfl .nil) (fun x10 e10 => ?_)
    rintro ⟨a11, c12⟩
    refine sxo_assign rfl rfl rfl ?_
    refine sxo_assign rfl rfl rfl ?_
    refine sxo_nil ?_
    refine sxq_next ?_
    refine sxc_ret ?_
    exact sxq_doneP (a11, c12) (.inl rfl) (res2 rfl rfl rfl) (fun h => by subst h; rfl) (fun h => by subst h; exact (.cons 0 rfl .nil))

theorem C_graph_Built (F : Nat) (x1 : Int) (x2 : List (Int × Int)) (a3 : Option Addr) (c4 : Nat) (r : List (List Int)) (hm : M_graph_Built F x1 x2 = some r) :
    Pure Try.prog 43 [.int .i64 x1, .slice a3 x2.length c4] [Sl eS44 2 (.slice a3 x2.length c4) x2] (Option Addr × (Nat × List (Option Addr × Nat))) (fun g => .agg #[.slice g.1 r.length g.2.1]) (fun g => [RoN eN32 rN32 32 1 (.slice g.1 r.length g.2.1) r g.2.2 []]) (fun _ => []) := by
  refine pure_of Try.func43 rfl Try.ntmps43 rfl hm (fun w => ?_)
  refine sxc_env (l' := [(0, .int .i64 x1), (1, .slice a3 x2.length c4)]) rfl ?_
  refine sxc_seq ?_
  refine sxc_region ?_
  refine sxo_alloc rfl tf24 rfl (fun g5 => ?_)
  refine sxo_nil ?_
  refine sxq_next ?_
  refine sxc_seq ?_
  refine sxc_region ?_
  refine sxo_move rfl rfl rfl ?_
  refine sxo_mkN (rin := rN32) (y := ([] : List Int)) (q := ((none, 0) : Option Addr × Nat)) eN32_ok (by decide) rN32_nil rfl Try.underlying22 tf32 rfl rfl rfl rfl rfl rfl (fun x6 e6 a7 c8 => ?_)
  refine sxo_build (cells := [.slice a7 x6.length c8]) rfl st24 rfl (by kernel_rfl) rfl ?_
  refine sxo_alloc rfl tf24 rfl (fun g9 => ?_)
  refine sxo_storeB (i := 0) rfl rfl rfl tf24 rfl rfl rfl rfl rfl ?_
  refine sxo_nil ?_
  refine sxq_next ?_
  refine sxc_join (fun ((x171, g170) : (List (List Int) × List (Option Addr × Nat))) => [(4, .pointer (some ⟨g5, 0, none⟩)), (5, .pointer (some ⟨g9, 0, none⟩))]) (fun ((x171, g170) : (List (List Int) × List (Option Addr × Nat))) => [⟨g9, 24, [.slice a7 x171.length c8]⟩, ⟨g5, 24, [.slice none 0 0]⟩]) (fun ((x171, g170) : (List (List Int) × List (Option Addr × Nat))) => [RoN eN32 rN32 32 1 (.slice a7 x171.length c8) x171 g170 []]) (fun ((x171, g170) : (List (List Int) × List (Option Addr × Nat))) => []) (fun ((x171, _) : (List (List Int) × List (Option Addr × Nat))) => M_graph_Built_j2 F x171) ?_ ?_
  · refine sxc_seq ?_
    refine sxc_region ?_
    refine sxo_move rfl rfl rfl ?_
    refine sxo_len rfl Try.underlying25 rfl rfl ?_
    refine sxo_move rfl rfl rfl ?_
    refine sxo_nil ?_
    refine sxq_next ?_
    refine sxc_block ?_
    refine sxc_loopP (fun (((x224, x226), g225) : ((Int × List (List Int)) × List (Option Addr × Nat))) => [(4, .pointer (some ⟨g5, 0, none⟩)), (5, .pointer (some ⟨g9, 0, none⟩)), (11, .slice a3 x2.length c4), (12, .int .i64 (x2.length : Int)), (13, .int .i64 x224)]) (fun (((x224, x226), g225) : ((Int × List (List Int)) × List (Option Addr × Nat))) => [⟨g9, 24, [.slice a7 x226.length c8]⟩, ⟨g5, 24, [.slice none 0 0]⟩]) (fun (((x224, x226), g225) : ((Int × List (List Int)) × List (Option Addr × Nat))) => [RoN eN32 rN32 32 1 (.slice a7 x226.length c8) x226 g225 []]) (fun (((x224, x226), g225) : ((Int × List (List Int)) × List (Option Addr × Nat))) => [Sl eS44 2 (.slice a3 x2.length c4) x2]) (fun k (s : ((Int × List (List Int)) × List (Option Addr × Nat))) => M_graph_Built_l3 F x2 k s.1) ((0, x6), (List.replicate x6.length ((none, 0) : Option Addr × Nat))) F (lk_cons rfl (lk_cons rfl (lk_cons rfl (lk_cons rfl (lk_cons rfl lk_nil))))) (.cons 0 rfl (.cons 0 rfl .nil)) (.cons 0 rfl .nil) (fk_cons 0 rfl fk_nil) (fun _ => rfl) ?_
    intro k279
    rintro ⟨⟨x224, x226⟩, g225⟩
    try dsimp only
    refine sxc_meq (m' := M_graph_Built_b3 F x2 (M_graph_Built_l3 F x2 k279) x224 x226) rfl ?_
    refine sxc_seq ?_
    refine sxc_region ?_
    refine sxo_lss rfl rfl rfl rfl ?_
    refine sxo_nil ?_
    refine sxq_next ?_
    refine sxc_seq ?_
    refine sxc_if rfl (fun h331 => ?_) (fun h331 => ?_)
    · refine sxc_skip ?_
      refine sxq_next ?_
      refine sxc_seq ?_
      refine sxc_block ?_
      refine sxc_seq ?_
      refine sxc_region ?_
      refine sxo_indexF (j := 0) eS44_ok (by decide) rfl Try.underlying25 tf44 rfl rfl rfl rfl (fun x306 e306 b307 o308 => ?_)
      refine sxo_loadF (j := 0) rfl rfl tf44 rfl rfl (by simp) rfl rfl ?_
      refine sxo_alloc rfl tf44 rfl (fun g309 => ?_)
      refine sxo_storeB (i := 0) rfl rfl rfl tf44 rfl rfl rfl rfl rfl ?_
      refine sxo_nil ?_
      refine sxq_next ?_
      refine sxc_idxP (j := 0) rfl (fun x310 e310 g311 h312 g313 h314 => ?_)
      replace h314 : a7 = some ⟨g313, 0, none⟩ := h314
      have h315 := own_of (k := x226.length) (c := c8) h314
      refine sxc_openN (i := 0) rfl h312 (List.not_mem_nil) ?_
      refine sxc_idxP (j := 1) rfl (fun x316 e316 g317 h318 g319 h320 => ?_)
      replace h320 : a7 = some ⟨g319, 0, none⟩ := h320
      have h321 := own_of (k := x226.length) (c := c8) h320
      refine sxb_draw mixed [15] [⟨g309, 44, [.int .i64 x306.1, .int .i64 x306.2]⟩, ⟨g9, 24, [.slice a7 x226.length c8]⟩, ⟨g5, 24, [.slice none 0 0]⟩] [CellsAt b307 o308 (eS44 x306), Sl eS44 2 (.slice a3 x2.length c4) x2, CellsAt g313 (x306.1.toNat * 1) (eN32 (x310, g311)), CellsAt g319 (x306.1.toNat * 1) (eN32 (x316, g317))] (.cons 0 rfl (.cons 0 rfl (.cons 0 rfl .nil))) (gk_F 0 rfl (gk_F 1 rfl (gk_R 1 rfl (at_rowN eN32_ok h312 h314) (gk_R 1 rfl (at_rowN eN32_ok h318 h320) gk_nil)))) 16 rfl ?_
      refine sxb_takeP 0 (.pointer (some ⟨g9, 0, none⟩)) rfl rfl rfl rfl (by kernel_rfl) (by kernel_rfl) (by kernel_rfl) (by kernel_rfl) (by kernel_rfl) rfl (show _ = #[true, false, false, false, false, false, false, false, false, false, false, false, false, false, false, false] from rfl) (yv_fieldAddr rfl ff24_0) ?_
      refine sxb_take 1 (.slice a7 x226.length c8) [[15]] rfl rfl rfl rfl (by kernel_rfl) (by kernel_rfl) (by kernel_rfl) (by kernel_rfl) (by kernel_rfl) (by kernel_rfl) rfl (show _ = #[true, true, false, false, false, false, false, false, false, false, false, false, false, false, false, false] from rfl) (yv_loadB (i := 1) rfl tf22 rfl rfl (fun _ => rfl) rfl) ?_
      refine sxb_takeP 2 (.pointer (some ⟨g309, 0, none⟩)) rfl rfl rfl rfl (by kernel_rfl) (by kernel_rfl) (by kernel_rfl) (by kernel_rfl) (by kernel_rfl) rfl (show _ = #[true, true, true, false, false, false, false, false, false, false, false, false, false, false, false, false] from rfl) (yv_fieldAddr rfl ff44_0) ?_
      refine sxb_take 3 (.int .i64 x306.1) [[15]] rfl rfl rfl rfl (by kernel_rfl) (by kernel_rfl) (by kernel_rfl) (by kernel_rfl) (by kernel_rfl) (by kernel_rfl) rfl (show _ = #[true, true, true, true, false, false, false, false, false, false, false, false, false, false, false, false] from rfl) (yv_loadB (i := 0) rfl tf3 rfl rfl (fun _ => rfl) rfl) ?_
      refine sxb_takeP 4 (.pointer (some ⟨g9, 0, none⟩)) rfl rfl rfl rfl (by kernel_rfl) (by kernel_rfl) (by kernel_rfl) (by kernel_rfl) (by kernel_rfl) rfl (show _ = #[true, true, true, true, true, false, false, false, false, false, false, false, false, false, false, false] from rfl) (yv_fieldAddr rfl ff24_0) ?_
      refine sxb_take 5 (.slice a7 x226.length c8) [[15]] rfl rfl rfl rfl (by kernel_rfl) (by kernel_rfl) (by kernel_rfl) (by kernel_rfl) (by kernel_rfl) (by kernel_rfl) rfl (show _ = #[true, true, true, true, true, true, false, false, false, false, false, false, false, false, false, false] from rfl) (yv_loadB (i := 1) rfl tf22 rfl rfl (fun _ => rfl) rfl) ?_
      refine sxb_takeP 6 (.pointer (some ⟨g309, 0, none⟩)) rfl rfl rfl rfl (by kernel_rfl) (by kernel_rfl) (by kernel_rfl) (by kernel_rfl) (by kernel_rfl) rfl (show _ = #[true, true, true, true, true, true, true, false, false, false, false, false, false, false, false, false] from rfl) (yv_fieldAddr rfl ff44_0) ?_
      refine sxb_take 7 (.int .i64 x306.1) [[15]] rfl rfl rfl rfl (by kernel_rfl) (by kernel_rfl) (by kernel_rfl) (by kernel_rfl) (by kernel_rfl) (by kernel_rfl) rfl (show _ = #[true, true, true, true, true, true, true, true, false, false, false, false, false, false, false, false] from rfl) (yv_loadB (i := 0) rfl tf3 rfl rfl (fun _ => rfl) rfl) ?_
      refine sxb_again (d := 22) (v := .slice (some ⟨g313, 0, none⟩) x226.length c8) rfl (by rw [h314]) ?_
      refine sxb_takeP 8 (.pointer (some ⟨g313, x306.1.toNat * 1, none⟩)) rfl rfl rfl rfl (by kernel_rfl) (by kernel_rfl) (by kernel_rfl) (by kernel_rfl) (by kernel_rfl) rfl (show _ = #[true, true, true, true, true, true, true, true, true, false, false, false, false, false, false, false] from rfl) (yv_idxO Try.underlying22 tf32 rfl rfl (idx_get e310).1 (idx_lt e310)) ?_
      refine sxb_again (d := 22) (v := .slice a7 x226.length c8) rfl (by rw [h314]) ?_
      refine sxb_take 9 (.slice g311.1 x310.length g311.2) [[15]] rfl rfl rfl rfl (by kernel_rfl) (by kernel_rfl) (by kernel_rfl) (by kernel_rfl) (by kernel_rfl) (by kernel_rfl) rfl (show _ = #[true, true, true, true, true, true, true, true, true, true, false, false, false, false, false, false] from rfl) (yv_loadF (j := 2) rfl tf32 rfl rfl (fun _ => rfl) rfl) ?_
      refine sxb_takeP 10 (.pointer (some ⟨g309, 1, none⟩)) rfl rfl rfl rfl (by kernel_rfl) (by kernel_rfl) (by kernel_rfl) (by kernel_rfl) (by kernel_rfl) rfl (show _ = #[true, true, true, true, true, true, true, true, true, true, true, false, false, false, false, false] from rfl) (yv_fieldAddr rfl ff44_1) ?_
      refine sxb_take 11 (.int .i64 x306.2) [[15]] rfl rfl rfl rfl (by kernel_rfl) (by kernel_rfl) (by kernel_rfl) (by kernel_rfl) (by kernel_rfl) (by kernel_rfl) rfl (show _ = #[true, true, true, true, true, true, true, true, true, true, true, true, false, false, false, false] from rfl) (yv_loadB (i := 0) rfl tf3 rfl rfl (fun _ => rfl) rfl) ?_
      refine sxb_step 12 rfl (by kernel_rfl) (show _ = #[true, true, true, true, true, true, true, true, true, true, true, true, true, false, false, false] from rfl) ?_
      refine sxo_slit (vs := [.int .i64 x306.2]) (ys := ([x306.2] : List Int)) (eI_ok .i64) (by decide) rfl Try.underlying32 tf3 rfl rfl rfl rfl rfl (by decide) (fun a322 c323 => ?_)
      refine sxo_nil ?_
      refine sxq_anyB (.cons 0 rfl (.cons 0 rfl (.cons 0 rfl .nil))) (gk_F 0 rfl (gk_F 1 rfl (gk_R 2 rfl (at_rowN eN32_ok h312 h314) (gk_R 2 rfl (at_rowN eN32_ok h318 h320) gk_nil)))) ?_
      refine sxb_step 13 rfl (by kernel_rfl) (show _ = #[true, true, true, true, true, true, true, true, true, true, true, true, true, true, false, false] from rfl) ?_
      refine sxo_app 1 (eI_ok .i64) rfl Try.underlying32 tf3 rfl rfl rfl rfl rfl (.inl ⟨0, _, rfl⟩) rfl rfl (fun x324 e324 a325 c326 => ?_)
      refine sxo_nil ?_
      refine sxq_anyB (.cons 0 rfl (.cons 0 rfl (.cons 0 rfl .nil))) (gk_F 0 rfl (gk_F 1 rfl (gk_R 2 rfl (at_rowN eN32_ok h312 h314) (gk_R 2 rfl (at_rowN eN32_ok h318 h320) gk_nil)))) ?_
      refine sxb_again (d := 18) (v := .slice (some ⟨g319, 0, none⟩) x226.length c8) rfl (by rw [h320]) ?_
      refine sxb_takeP 14 (.pointer (some ⟨g319, x306.1.toNat * 1, none⟩)) rfl rfl rfl rfl (by kernel_rfl) (by kernel_rfl) (by kernel_rfl) (by kernel_rfl) (by kernel_rfl) rfl (show _ = #[true, true, true, true, true, true, true, true, true, true, true, true, true, true, true, false] from rfl) (yv_idxO Try.underlying22 tf32 rfl rfl (idx_get e316).1 (idx_lt e316)) ?_
      refine sxb_again (d := 18) (v := .slice a7 x226.length c8) rfl (by rw [h320]) ?_
      refine sxb_step 15 rfl (by kernel_rfl) (show _ = #[true, true, true, true, true, true, true, true, true, true, true, true, true, true, true, true] from rfl) ?_
      refine sxo_storeC (j := 2) (kh := 0) (y' := x324) (q' := (a325, c326)) eN32_ok rfl rfl rfl tf32 rfl (own_of h320) rfl (idx_get e316).2.1 rfl (.cons 0 rfl .nil) (fun x327 e327 h328 g330 => ?_)
      have h329 : x327.length = x226.length := by rw [← e327, List.length_set]
      refine sxo_again (d := 18) (v := .slice a7 x327.length c8) rfl (by rw [h328]) ?_
      refine sxo_again (d := 22) (v := .slice a7 x327.length c8) rfl (by rw [h328]) ?_
      refine sxo_blkAgain (i := 1) (cs' := [.slice a7 x327.length c8]) rfl (by rw [h328]) ?_
      refine sxo_nil ?_
      refine sxq_anyW 15 rfl rfl ?_
      refine sxb_done (by kernel_rfl) ?_
      refine sxq_np ?_ (by intro c h; cases h)
      refine sxq_blkN ?_
      refine sxq_next ?_
      refine sxc_region ?_
      refine sxo_add rfl rfl rfl rfl ?_
      refine sxo_move rfl rfl rfl ?_
      refine sxo_nil ?_
      exact sxq_againP ((iadd .i64 x224 1, x327), g330) (lk_cons rfl (lk_cons rfl (lk_cons rfl (lk_cons rfl (lk_cons rfl lk_nil))))) (.cons 1 rfl (.cons 1 rfl .nil)) (.cons 0 rfl .nil) (fk_cons 1 rfl fk_nil)
    · refine sxc_exit ?_
      refine sxq_thenX ?_
      refine sxq_thenX ?_
      refine sxq_blkX ?_
      exact sxq_meetP (x226, g225) (lk_cons rfl (lk_cons rfl lk_nil)) (.cons 0 rfl (.cons 0 rfl .nil)) (.cons 0 rfl .nil) fk_nil
  · rintro ⟨x171, g170⟩
    try dsimp only
    refine sxc_seq ?_
    refine sxc_region ?_
    refine sxo_loadB (i := 0) rfl rfl tf24 rfl rfl (by simp) rfl rfl ?_
    refine sxo_storeB (i := 1) rfl rfl rfl tf24 rfl rfl rfl rfl rfl ?_
    refine sxo_nil ?_
    refine sxq_next ?_
    refine sxc_ret ?_
    exact sxq_doneP (a7, (c8, g170)) (.inl rfl) (resL (rs := [.cell 4 24]) rfl (.cell (i := 1) rfl tf24 rfl rfl (by simp) rfl ResOk.nil) rfl) (fun h => by subst h; rfl) (fun h => by subst h; exact (.cons 0 rfl .nil))

theorem C_slices_Values_api_Arc_api_Arc (F : Nat) (x1 : List (Int × Int)) (a2 : Option Addr) (c3 : Nat) (r : Unit) (hm : M_slices_Values_api_Arc_api_Arc F x1 = some r) :
    PureM Try.prog 45 [.slice a2 x1.length c3] [] [] [Sl eS44 2 (.slice a2 x1.length c3) x1] Nat (fun g => .func (.func 63) #[] #[.pointer (some ⟨g, 0, none⟩)]) (fun g => [⟨g, 25, [.slice a2 x1.length c3]⟩]) (fun _ => []) := by
  refine pureM_of Try.func45 rfl Try.ntmps45 rfl hm (fun w => ?_)
  refine sxc_env (l' := [(0, .slice a2 x1.length c3)]) rfl ?_
  refine sxc_seq ?_
  refine sxc_region ?_
  refine sxo_box rfl rfl rfl (fun g4 => ?_)
  refine sxo_assign rfl rfl rfl ?_
  refine sxo_nil ?_
  refine sxq_next ?_
  refine sxc_seq ?_
  refine sxc_region ?_
  refine sxo_makeFunc rfl rfl rfl ?_
  refine sxo_assign rfl rfl rfl ?_
  refine sxo_nil ?_
  refine sxq_next ?_
  refine sxc_ret ?_
  exact sxq_doneM g4 (.inl rfl) (res1 rfl rfl) (fun h => by subst h; rfl) (fun h => by subst h; exact (.cons 0 rfl .nil)) (fun h => by subst h; exact .nil)

theorem C_cmp_Or_int (F : Nat) (x1 : List Int) (a2 : Option Addr) (c3 : Nat) (r : Int) (hm : M_cmp_Or_int F x1 = some r) :
    Pure Try.prog 64 [.slice a2 x1.length c3] [Sl (eI .i64) 1 (.slice a2 x1.length c3) x1] Unit (fun _ => .int .i64 r) (fun _ => []) (fun _ => []) := by
  refine pure_of Try.func64 rfl Try.ntmps64 rfl hm (fun w => ?_)
  refine sxc_env (l' := [(0, .slice a2 x1.length c3)]) rfl ?_
  refine sxc_seq ?_
  refine sxc_region ?_
  refine sxo_assign rfl rfl rfl ?_
  refine sxo_nil ?_
  refine sxq_next ?_
  refine sxc_seq ?_
  refine sxc_region ?_
  refine sxo_assign rfl rfl rfl ?_
  refine sxo_nil ?_
  refine sxq_next ?_
  refine sxc_join (fun ((_, _) : (Unit × Unit)) => [(3, .int .i64 0)]) (fun ((_, _) : (Unit × Unit)) => []) (fun ((_, _) : (Unit × Unit)) => []) (fun ((_, _) : (Unit × Unit)) => []) (fun ((_, _) : (Unit × Unit)) => M_cmp_Or_int_j2 F) ?_ ?_
  · refine sxc_seq ?_
    refine sxc_region ?_
    refine sxo_move rfl rfl rfl ?_
    refine sxo_len rfl Try.underlying32 rfl rfl ?_
    refine sxo_move rfl rfl rfl ?_
    refine sxo_nil ?_
    refine sxq_next ?_
    refine sxc_block ?_
    refine sxc_loopP (fun ((x46, _) : (Int × Unit)) => [(3, .int .i64 0), (6, .slice a2 x1.length c3), (7, .int .i64 (x1.length : Int)), (8, .int .i64 x46)]) (fun ((x46, _) : (Int × Unit)) => []) (fun ((x46, _) : (Int × Unit)) => []) (fun ((x46, _) : (Int × Unit)) => [Sl (eI .i64) 1 (.slice a2 x1.length c3) x1]) (fun k (s : (Int × Unit)) => M_cmp_Or_int_l3 F x1 k s.1) (0, ()) F (lk_cons rfl (lk_cons rfl (lk_cons rfl (lk_cons rfl lk_nil)))) .nil .nil (fk_cons 0 rfl fk_nil) (fun _ => rfl) ?_
    intro k57
    rintro ⟨x46, _⟩
    try dsimp only
    refine sxc_meq (m' := M_cmp_Or_int_b3 F x1 (M_cmp_Or_int_l3 F x1 k57) x46) rfl ?_
    refine sxc_seq ?_
    refine sxc_region ?_
    refine sxo_lss rfl rfl rfl rfl ?_
    refine sxo_nil ?_
    refine sxq_next ?_
    refine sxc_seq ?_
    refine sxc_if rfl (fun h67 => ?_) (fun h67 => ?_)
    · refine sxc_skip ?_
      refine sxq_next ?_
      refine sxc_seq ?_
      refine sxc_block ?_
      refine sxc_seq ?_
      refine sxc_region ?_
      refine sxo_indexF (j := 0) (eI_ok .i64) (by decide) rfl Try.underlying32 tf3 rfl rfl rfl rfl (fun x63 e63 b64 o65 => ?_)
      refine sxo_loadF (j := 0) rfl rfl tf3 rfl rfl (fun _ => rfl) rfl rfl ?_
      refine sxo_assign rfl rfl rfl ?_
      refine sxo_nil ?_
      refine sxq_next ?_
      refine sxc_seq ?_
      refine sxc_region ?_
      refine sxo_move rfl rfl rfl ?_
      refine sxo_move rfl rfl rfl ?_
      refine sxo_neq rfl rfl rfl rfl ?_
      refine sxo_nil ?_
      refine sxq_next ?_
      refine sxc_if rfl (fun h66 => ?_) (fun h66 => ?_)
      · refine sxc_seq ?_
        refine sxc_region ?_
        refine sxo_move rfl rfl rfl ?_
        refine sxo_assign rfl rfl rfl ?_
        refine sxo_nil ?_
        refine sxq_next ?_
        refine sxc_ret ?_
        refine sxq_blkR ?_
        refine sxq_thenR ?_
        refine sxq_thenR ?_
        refine sxq_blkR ?_
        refine sxq_thenR ?_
        exact sxq_doneP () (.inl rfl) (res1 rfl rfl) (fun h => by subst h; rfl) (fun h => by subst h; exact .nil)
      · refine sxc_skip ?_
        refine sxq_blkN ?_
        refine sxq_next ?_
        refine sxc_region ?_
        refine sxo_add rfl rfl rfl rfl ?_
        refine sxo_move rfl rfl rfl ?_
        refine sxo_nil ?_
        exact sxq_againP (iadd .i64 x46 1, ()) (lk_cons rfl (lk_cons rfl (lk_cons rfl (lk_cons rfl lk_nil)))) .nil .nil (fk_cons 1 rfl fk_nil)
    · refine sxc_exit ?_
      refine sxq_thenX ?_
      refine sxq_thenX ?_
      refine sxq_blkX ?_
      exact sxq_meetP ((), ()) (lk_cons rfl lk_nil) .nil .nil fk_nil
  · rintro ⟨_, _⟩
    try dsimp only
    refine sxc_seq ?_
    refine sxc_region ?_
    refine sxo_move rfl rfl rfl ?_
    refine sxo_assign rfl rfl rfl ?_
    refine sxo_nil ?_
    refine sxq_next ?_
    refine sxc_ret ?_
    exact sxq_doneP () (.inl rfl) (res1 rfl rfl) (fun h => by subst h; rfl) (fun h => by subst h; exact .nil)

theorem C_cmp_isNaN_int (F : Nat) (x1 : Int) (r : Bool) (hm : M_cmp_isNaN_int F x1 = some r) :
    Pure Try.prog 73 [.int .i64 x1] [] Unit (fun _ => .bool r) (fun _ => []) (fun _ => []) := by
  refine pure_of Try.func73 rfl Try.ntmps73 rfl hm (fun w => ?_)
  refine sxc_env (l' := [(0, .int .i64 x1)]) rfl ?_
  refine sxc_seq ?_
  refine sxc_region ?_
  refine sxo_assign rfl rfl rfl ?_
  refine sxo_nil ?_
  refine sxq_next ?_
  refine sxc_seq ?_
  refine sxc_region ?_
  refine sxo_move rfl rfl rfl ?_
  refine sxo_move rfl rfl rfl ?_
  refine sxo_neq rfl rfl rfl rfl ?_
  refine sxo_assign rfl rfl rfl ?_
  refine sxo_nil ?_
  refine sxq_next ?_
  refine sxc_ret ?_
  exact sxq_doneP () (.inl rfl) (res1 rfl rfl) (fun h => by subst h; rfl) (fun h => by subst h; exact .nil)

theorem C_cmp_Compare_int (F : Nat) (x1 : Int) (x2 : Int) (r : Int) (hm : M_cmp_Compare_int F x1 x2 = some r) :
    Pure Try.prog 65 [.int .i64 x1, .int .i64 x2] [] Unit (fun _ => .int .i64 r) (fun _ => []) (fun _ => []) := by
  refine pure_of Try.func65 rfl Try.ntmps65 rfl hm (fun w => ?_)
  refine sxc_env (l' := [(0, .int .i64 x1), (1, .int .i64 x2)]) rfl ?_
  refine sxc_seq ?_
  refine sxc_region ?_
  refine sxo_assign rfl rfl rfl ?_
  refine sxo_nil ?_
  refine sxq_next ?_
  refine sxc_seq ?_
  refine sxc_region ?_
  refine sxo_move rfl rfl rfl ?_
  refine sxo_call ent73 rfl rfl rfl (fun x3 e3 => C_cmp_isNaN_int F x1 x3 e3) .nil (fun x3 e3 => ?_)
  intro _
  refine sxo_assign rfl rfl rfl ?_
  refine sxo_nil ?_
  refine sxq_next ?_
  refine sxc_seq ?_
  refine sxc_region ?_
  refine sxo_move rfl rfl rfl ?_
  refine sxo_call ent73 rfl rfl rfl (fun x4 e4 => C_cmp_isNaN_int F x2 x4 e4) .nil (fun x4 e4 => ?_)
  intro _
  refine sxo_assign rfl rfl rfl ?_
  refine sxo_nil ?_
  refine sxq_next ?_
  refine sxc_seq ?_
  refine sxc_seq ?_
  refine sxc_region ?_
  refine sxo_move rfl rfl rfl ?_
  refine sxo_nil ?_
  refine sxq_next ?_
  refine sxc_if rfl (fun h16 => ?_) (fun h16 => ?_)
  · refine sxc_seq ?_
    refine sxc_seq ?_
    refine sxc_region ?_
    refine sxo_move rfl rfl rfl ?_
    refine sxo_nil ?_
    refine sxq_next ?_
    refine sxc_if rfl (fun h9 => ?_) (fun h9 => ?_)
    · refine sxc_seq ?_
      refine sxc_region ?_
      refine sxo_assign rfl rfl rfl ?_
      refine sxo_nil ?_
      refine sxq_next ?_
      refine sxc_ret ?_
      refine sxq_thenR ?_
      refine sxq_thenR ?_
      exact sxq_doneP () (.inl rfl) (res1 rfl rfl) (fun h => by subst h; rfl) (fun h => by subst h; exact .nil)
    · refine sxc_skip ?_
      refine sxq_next ?_
      refine sxc_seq ?_
      refine sxc_region ?_
      refine sxo_assign rfl rfl rfl ?_
      refine sxo_nil ?_
      refine sxq_next ?_
      refine sxc_ret ?_
      refine sxq_thenR ?_
      exact sxq_doneP () (.inl rfl) (res1 rfl rfl) (fun h => by subst h; rfl) (fun h => by subst h; exact .nil)
  · refine sxc_skip ?_
    refine sxq_next ?_
    refine sxc_seq ?_
    refine sxc_seq ?_
    refine sxc_region ?_
    refine sxo_move rfl rfl rfl ?_
    refine sxo_nil ?_
    refine sxq_next ?_
    refine sxc_if rfl (fun h15 => ?_) (fun h15 => ?_)
    · refine sxc_seq ?_
      refine sxc_region ?_
      refine sxo_assign rfl rfl rfl ?_
      refine sxo_nil ?_
      refine sxq_next ?_
      refine sxc_ret ?_
      refine sxq_thenR ?_
      exact sxq_doneP () (.inl rfl) (res1 rfl rfl) (fun h => by subst h; rfl) (fun h => by subst h; exact .nil)
    · refine sxc_skip ?_
      refine sxq_next ?_
      refine sxc_seq ?_
      refine sxc_seq ?_
      refine sxc_region ?_
      refine sxo_move rfl rfl rfl ?_
      refine sxo_move rfl rfl rfl ?_
      refine sxo_lss rfl rfl rfl rfl ?_
      refine sxo_nil ?_
      refine sxq_next ?_
      refine sxc_if rfl (fun h14 => ?_) (fun h14 => ?_)
      · refine sxc_seq ?_
        refine sxc_region ?_
        refine sxo_assign rfl rfl rfl ?_
        refine sxo_nil ?_
        refine sxq_next ?_
        refine sxc_ret ?_
        refine sxq_thenR ?_
        exact sxq_doneP () (.inl rfl) (res1 rfl rfl) (fun h => by subst h; rfl) (fun h => by subst h; exact .nil)
      · refine sxc_skip ?_
        refine sxq_next ?_
        refine sxc_seq ?_
        refine sxc_seq ?_
        refine sxc_region ?_
        refine sxo_move rfl rfl rfl ?_
        refine sxo_move rfl rfl rfl ?_
        refine sxo_gtr rfl rfl rfl rfl ?_
        refine sxo_nil ?_
        refine sxq_next ?_
        refine sxc_if rfl (fun h13 => ?_) (fun h13 => ?_)
        · refine sxc_seq ?_
          refine sxc_region ?_
          refine sxo_assign rfl rfl rfl ?_
          refine sxo_nil ?_
          refine sxq_next ?_
          refine sxc_ret ?_
          refine sxq_thenR ?_
          exact sxq_doneP () (.inl rfl) (res1 rfl rfl) (fun h => by subst h; rfl) (fun h => by subst h; exact .nil)
        · refine sxc_skip ?_
          refine sxq_next ?_
          refine sxc_seq ?_
          refine sxc_region ?_
          refine sxo_assign rfl rfl rfl ?_
          refine sxo_nil ?_
          refine sxq_next ?_
          refine sxc_ret ?_
          exact sxq_doneP () (.inl rfl) (res1 rfl rfl) (fun h => by subst h; rfl) (fun h => by subst h; exact .nil)

theorem C_graph_order (F : Nat) (x1 : Int) (x2 : Int) (x3 : Int) (x4 : Int) (r : Int) (hm : M_graph_order F x1 x2 x3 x4 = some r) :
    Pure Try.prog 46 [.agg #[.int .i64 x1, .int .i64 x2], .agg #[.int .i64 x3, .int .i64 x4]] [] Unit (fun _ => .int .i64 r) (fun _ => []) (fun _ => []) := by
  refine pure_of Try.func46 rfl Try.ntmps46 rfl hm (fun w => ?_)
  refine sxc_env (l' := [(0, .agg #[.int .i64 x1, .int .i64 x2]), (1, .agg #[.int .i64 x3, .int .i64 x4])]) rfl ?_
  refine sxc_seq ?_
  refine sxc_region ?_
  refine sxo_box rfl rfl rfl (fun g5 => ?_)
  refine sxo_box rfl rfl rfl (fun g6 => ?_)
  refine sxo_assign rfl rfl rfl ?_
  refine sxo_nil ?_
  refine sxq_next ?_
  refine sxc_seq ?_
  refine sxb_draw mixed [] [⟨g6, 44, [.int .i64 x3, .int .i64 x4]⟩, ⟨g5, 44, [.int .i64 x1, .int .i64 x2]⟩] [] (.cons 0 rfl (.cons 0 rfl .nil)) gk_nil 13 rfl ?_
  refine sxb_takeP 0 (.pointer (some ⟨g5, 0, none⟩)) rfl rfl rfl rfl (by kernel_rfl) (by kernel_rfl) (by kernel_rfl) (by kernel_rfl) (by kernel_rfl) rfl (show _ = #[true, false, false, false, false, false, false, false, false, false, false, false, false] from rfl) (yv_fieldAddr rfl ff44_0) ?_
  refine sxb_take 1 (.int .i64 x1) [] rfl rfl rfl rfl (by kernel_rfl) (by kernel_rfl) (by kernel_rfl) (by kernel_rfl) (by kernel_rfl) (by kernel_rfl) rfl (show _ = #[true, true, false, false, false, false, false, false, false, false, false, false, false] from rfl) (yv_loadB (i := 1) rfl tf3 rfl rfl (fun _ => rfl) rfl) ?_
  refine sxb_takeP 2 (.pointer (some ⟨g6, 0, none⟩)) rfl rfl rfl rfl (by kernel_rfl) (by kernel_rfl) (by kernel_rfl) (by kernel_rfl) (by kernel_rfl) rfl (show _ = #[true, true, true, false, false, false, false, false, false, false, false, false, false] from rfl) (yv_fieldAddr rfl ff44_0) ?_
  refine sxb_take 3 (.int .i64 x3) [] rfl rfl rfl rfl (by kernel_rfl) (by kernel_rfl) (by kernel_rfl) (by kernel_rfl) (by kernel_rfl) (by kernel_rfl) rfl (show _ = #[true, true, true, true, false, false, false, false, false, false, false, false, false] from rfl) (yv_loadB (i := 0) rfl tf3 rfl rfl (fun _ => rfl) rfl) ?_
  refine sxb_takeP 5 (.pointer (some ⟨g5, 1, none⟩)) rfl rfl rfl rfl (by kernel_rfl) (by kernel_rfl) (by kernel_rfl) (by kernel_rfl) (by kernel_rfl) rfl (show _ = #[true, true, true, true, false, true, false, false, false, false, false, false, false] from rfl) (yv_fieldAddr rfl ff44_1) ?_
  refine sxb_take 6 (.int .i64 x2) [] rfl rfl rfl rfl (by kernel_rfl) (by kernel_rfl) (by kernel_rfl) (by kernel_rfl) (by kernel_rfl) (by kernel_rfl) rfl (show _ = #[true, true, true, true, false, true, true, false, false, false, false, false, false] from rfl) (yv_loadB (i := 1) rfl tf3 rfl rfl (fun _ => rfl) rfl) ?_
  refine sxb_takeP 7 (.pointer (some ⟨g6, 1, none⟩)) rfl rfl rfl rfl (by kernel_rfl) (by kernel_rfl) (by kernel_rfl) (by kernel_rfl) (by kernel_rfl) rfl (show _ = #[true, true, true, true, false, true, true, true, false, false, false, false, false] from rfl) (yv_fieldAddr rfl ff44_1) ?_
  refine sxb_take 8 (.int .i64 x4) [] rfl rfl rfl rfl (by kernel_rfl) (by kernel_rfl) (by kernel_rfl) (by kernel_rfl) (by kernel_rfl) (by kernel_rfl) rfl (show _ = #[true, true, true, true, false, true, true, true, true, false, false, false, false] from rfl) (yv_loadB (i := 0) rfl tf3 rfl rfl (fun _ => rfl) rfl) ?_
  refine sxb_step 4 rfl (by kernel_rfl) (show _ = #[true, true, true, true, true, true, true, true, true, false, false, false, false] from rfl) ?_
  refine sxo_call ent65 rfl rfl rfl (fun x12 e12 => C_cmp_Compare_int F x1 x3 x12 e12) .nil (fun x12 e12 => ?_)
  intro _
  refine sxo_nil ?_
  refine sxq_anyB (.cons 0 rfl (.cons 0 rfl .nil)) gk_nil ?_
  refine sxb_step 9 rfl (by kernel_rfl) (show _ = #[true, true, true, true, true, true, true, true, true, true, false, false, false] from rfl) ?_
  refine sxo_call ent65 rfl rfl rfl (fun x13 e13 => C_cmp_Compare_int F x2 x4 x13 e13) .nil (fun x13 e13 => ?_)
  intro _
  refine sxo_nil ?_
  refine sxq_anyB (.cons 0 rfl (.cons 0 rfl .nil)) gk_nil ?_
  refine sxb_step 10 rfl (by kernel_rfl) (show _ = #[true, true, true, true, true, true, true, true, true, true, true, false, false] from rfl) ?_
  refine sxo_slit (vs := [.int .i64 x12, .int .i64 x13]) (ys := ([x12, x13] : List Int)) (eI_ok .i64) (by decide) rfl Try.underlying32 tf3 rfl rfl rfl rfl rfl (by decide) (fun a14 c15 => ?_)
  refine sxo_nil ?_
  refine sxq_anyB (.cons 0 rfl (.cons 0 rfl .nil)) gk_nil ?_
  refine sxb_step 11 rfl (by kernel_rfl) (show _ = #[true, true, true, true, true, true, true, true, true, true, true, true, false] from rfl) ?_
  refine sxo_call ent64 rfl rfl rfl (fun x16 e16 => C_cmp_Or_int F ([x12, x13] : List Int) a14 c15 x16 e16) (.consR 0 (Ro (eI .i64) 3 1 (.slice a14 ([x12, x13] : List Int).length c15) ([x12, x13] : List Int)) rfl .nil) (fun x16 e16 => ?_)
  intro _
  refine sxo_nil ?_
  refine sxq_anyB (.cons 0 rfl (.cons 0 rfl .nil)) gk_nil ?_
  refine sxb_takeP 12 (.int .i64 x16) rfl rfl rfl rfl (by kernel_rfl) (by kernel_rfl) (by kernel_rfl) (by kernel_rfl) (by kernel_rfl) rfl (show _ = #[true, true, true, true, true, true, true, true, true, true, true, true, true] from rfl) (yv_pv rfl) ?_
  refine sxb_done (by kernel_rfl) ?_
  refine sxq_np ?_ (by intro c h; cases h)
  refine sxq_next ?_
  refine sxc_ret ?_
  exact sxq_doneP () (.inl rfl) (res1 rfl rfl) (fun h => by subst h; rfl) (fun h => by subst h; exact .nil)

theorem C_slices_Values_api_Arc_api_Arc_1 (F : Nat) {σ τ : Type} {J : Rounds σ τ} {yy : σ → (Int × Int) → Option (σ ⊕ τ)} {L : Nat} (hY : YieldC Try.prog L (fun (p : (Int × Int)) => [.agg #[.int .i64 p.1, .int .i64 p.2]]) J yy) (s0 : σ) (gs0 : J.γ) (g1 : Nat) (x2 : List (Int × Int)) (a3 : Option Addr) (c4 : Nat) (r : σ ⊕ τ) (hm : M_slices_Values_api_Arc_api_Arc_1 F yy x2 s0 = some r) :
    PureM Try.prog 63 ([.func (.yield L) #[] #[], .pointer (some ⟨g1, 0, none⟩)]) ([⟨g1, 25, [.slice a3 x2.length c4]⟩] ++ J.IB s0 gs0) (J.IR s0 gs0) [J.F, Sl eS44 2 (.slice a3 x2.length c4) x2] (J.G r) (fun _ => .tuple #[]) (fun g => [⟨g1, 25, [.slice a3 x2.length c4]⟩] ++ J.bs r g) (fun g => J.rs r g) := by
  refine pureM_of Try.func63 rfl Try.ntmps63 rfl hm (fun w => ?_)
  refine sxc_env (l' := [(0, .func (.yield L) #[] #[]), (1, .pointer (some ⟨g1, 0, none⟩))]) rfl ?_
  refine sxc_seq ?_
  refine sxc_region ?_
  refine sxo_loadB (i := 0) rfl rfl tf25 rfl rfl (fun _ => rfl) rfl rfl ?_
  refine sxo_len rfl Try.underlying25 rfl rfl ?_
  refine sxo_move rfl rfl rfl ?_
  refine sxo_nil ?_
  refine sxq_next ?_
  refine sxc_block ?_
  refine sxc_loopP (fun (((x23, x24), g25) : ((Int × σ) × J.γ)) => [(0, .func (.yield L) #[] #[]), (5, .slice a3 x2.length c4), (6, .int .i64 (x2.length : Int)), (7, .int .i64 x23)]) (fun (((x23, x24), g25) : ((Int × σ) × J.γ)) => [⟨g1, 25, [.slice a3 x2.length c4]⟩] ++ J.IB x24 g25) (fun (((x23, x24), g25) : ((Int × σ) × J.γ)) => [] ++ J.IR x24 g25) (fun (((x23, x24), g25) : ((Int × σ) × J.γ)) => [Sl eS44 2 (.slice a3 x2.length c4) x2, J.F]) (fun k (s : ((Int × σ) × J.γ)) => M_slices_Values_api_Arc_api_Arc_1_l1 F yy x2 k s.1) ((0, s0), gs0) F (lk_cons rfl (lk_cons rfl (lk_cons rfl (lk_cons rfl lk_nil)))) (.cons 0 rfl (pick_rest 0 rfl)) (pick_rest 0 rfl) (fk_cons 1 rfl (fk_cons 0 rfl fk_nil)) (fun _ => rfl) ?_
  intro k44
  rintro ⟨⟨x23, x24⟩, g25⟩
  try dsimp only
  refine sxc_meq (m' := M_slices_Values_api_Arc_api_Arc_1_b1 F yy x2 (M_slices_Values_api_Arc_api_Arc_1_l1 F yy x2 k44) x23 x24) rfl ?_
  refine sxc_seq ?_
  refine sxc_region ?_
  refine sxo_lss rfl rfl rfl rfl ?_
  refine sxo_nil ?_
  refine sxq_next ?_
  refine sxc_seq ?_
  refine sxc_if rfl (fun h62 => ?_) (fun h62 => ?_)
  · refine sxc_skip ?_
    refine sxq_next ?_
    refine sxc_seq ?_
    refine sxc_block ?_
    refine sxc_seq ?_
    refine sxc_region ?_
    refine sxo_indexF (j := 0) eS44_ok (by decide) rfl Try.underlying25 tf44 rfl rfl rfl rfl (fun x54 e54 b55 o56 => ?_)
    refine sxo_loadF (j := 0) rfl rfl tf44 rfl rfl (by simp) rfl rfl ?_
    refine sxo_alloc rfl tf44 rfl (fun g57 => ?_)
    refine sxo_storeB (i := 0) rfl rfl rfl tf44 rfl rfl rfl rfl rfl ?_
    refine sxo_nil ?_
    refine sxq_next ?_
    refine sxc_seq ?_
    refine sxc_region ?_
    refine sxo_move rfl rfl rfl ?_
    refine sxo_loadB (i := 0) rfl rfl tf44 rfl rfl (by simp) rfl rfl ?_
    refine sxo_yield hY x24 (x54.1, x54.2) g25 (B1 := [⟨g57, 44, [.int .i64 x54.1, .int .i64 x54.2]⟩, ⟨g1, 25, [.slice a3 x2.length c4]⟩]) (R1 := []) (j := 2) rfl rfl rfl rfl rfl rfl rfl (fun x58 _ g60 => ?_) (fun x59 _ g60 => ?_)
    · refine sxo_not rfl rfl rfl ?_
      refine sxo_nil ?_
      refine sxq_next ?_
      refine sxc_cond (b := false) rfl (fun h => by cases h) (fun _ => ?_)
      refine sxc_skip ?_
      refine sxq_blkN ?_
      refine sxq_next ?_
      refine sxc_region ?_
      refine sxo_add rfl rfl rfl rfl ?_
      refine sxo_move rfl rfl rfl ?_
      refine sxo_nil ?_
      exact sxq_againP ((iadd .i64 x23 1, x58), g60) (lk_cons rfl (lk_cons rfl (lk_cons rfl (lk_cons rfl lk_nil)))) (.cons 1 rfl (pick_rest 1 rfl)) (pick_rest 0 rfl) (fk_cons 1 rfl (fk_cons 2 rfl fk_nil))
    · refine sxo_not rfl rfl rfl ?_
      refine sxo_nil ?_
      refine sxq_next ?_
      refine sxc_cond (b := true) rfl (fun _ => ?_) (fun h => by cases h)
      refine sxc_ret ?_
      refine sxq_blkR ?_
      refine sxq_thenR ?_
      refine sxq_thenR ?_
      refine sxq_blkR ?_
      exact sxq_doneI (B0 := [⟨g1, 25, [.slice a3 x2.length c4]⟩]) (x := .inr x59) g60 (.inl rfl) (res0 rfl) (.cons 1 rfl (pick_rest 1 rfl)) (pick_rest 0 rfl)
  · refine sxc_exit ?_
    refine sxq_thenX ?_
    refine sxq_thenX ?_
    refine sxq_blkX ?_
    exact sxq_doneI (B0 := [⟨g1, 25, [.slice a3 x2.length c4]⟩]) (x := .inl x24) g25 (.inr rfl) (res0 rfl) (.cons 0 rfl (pick_rest 0 rfl)) (pick_rest 0 rfl)

theorem C_slices_AppendSeq_api_Arc_api_Arc_slices_Values_api_Arc_api_Arc_1 (F : Nat) (x1 : List (Int × Int)) (a2 : Option Addr) (c3 : Nat) (g4 : Nat) (x5 : List (Int × Int)) (a6 : Option Addr) (c7 : Nat) (r : List (Int × Int)) (hm : M_slices_AppendSeq_api_Arc_api_Arc_slices_Values_api_Arc_api_Arc_1 F x1 x5 = some r) :
    PureM Try.prog 61 [.slice a2 x1.length c3, .func (.func 63) #[] #[.pointer (some ⟨g4, 0, none⟩)]] [⟨g4, 25, [.slice a6 x5.length c7]⟩] [Ro eS44 44 2 (.slice a2 x1.length c3) x1] [Sl eS44 2 (.slice a6 x5.length c7) x5] (Option Addr × Nat) (fun g => .slice g.1 r.length g.2) (fun _ => [⟨g4, 25, [.slice a6 x5.length c7]⟩]) (fun g => [Ro eS44 44 2 (.slice g.1 r.length g.2) r]) := by
  refine pureX_of Try.func61 rfl Try.ntmps61 rfl hm (fun w => ?_)
  refine sxc_env (l' := [(0, .slice a2 x1.length c3), (1, .func (.func 63) #[] #[.pointer (some ⟨g4, 0, none⟩)])]) rfl ?_
  refine sxc_seq ?_
  refine sxc_region ?_
  refine sxo_box rfl rfl rfl (fun g8 => ?_)
  refine sxo_assign rfl rfl rfl ?_
  refine sxo_nil ?_
  refine sxq_next ?_
  refine sxc_seq ?_
  refine sxc_seq ?_
  refine sxc_region ?_
  refine sxo_move rfl rfl rfl ?_
  refine sxo_nil ?_
  refine sxq_next ?_
  refine sxc_block ?_
  refine sxc_range (encs := (fun (p : (Int × Int)) => [.agg #[.int .i64 p.1, .int .i64 p.2]])) (y := (fun (x46 : List (Int × Int)) ((x55, x56) : (Int × Int)) => M_slices_AppendSeq_api_Arc_api_Arc_slices_Values_api_Arc_api_Arc_1_r2 F x46 x55 x56)) (lb := [.pointer (some ⟨g4, 0, none⟩)]) (fun (x46 : List (Int × Int)) ((a44, c45) : (Option Addr × Nat)) => [⟨g8, 25, [.slice a44 x46.length c45]⟩]) (fun (x46 : List (Int × Int)) ((a44, c45) : (Option Addr × Nat)) => [Ro eS44 44 2 (.slice a44 x46.length c45) x46]) (fun (_ : Empty) (_ : Unit) => []) (fun (_ : Empty) (_ : Unit) => []) (fun _ => .skip) x1 (a2, c3) rfl ent63 (fun _ => rfl) rfl (.cons 1 rfl .nil) (.cons 0 rfl .nil) (.cons 0 rfl .nil) (.consF 0 rfl .nil) (fun z hz _ _ _ hY => C_slices_Values_api_Arc_api_Arc_1 F hY x1 (a2, c3) g4 x5 a6 c7 z hz) ?_ ?_ ?_
  · rintro rc1 L1 D1 x46 ⟨a44, c45⟩ ⟨x55, x56⟩ z w M _
    try dsimp only
    refine sxc_less [(0, .slice a2 x1.length c3), (1, .func (.func 63) #[] #[.pointer (some ⟨g4, 0, none⟩)]), (2, .pointer (some ⟨g8, 0, none⟩)), (4, .slice none 0 0), (6, .func (.func 63) #[] #[.pointer (some ⟨g4, 0, none⟩)]), (7, .agg #[.int .i64 x55, .int .i64 x56])] (lk_cons rfl (lk_cons rfl (lk_cons rfl (lk_cons rfl (lk_cons rfl (lk_cons rfl lk_nil)))))) ?_
    refine sxc_region ?_
    refine sxo_alloc rfl tf44 rfl (fun g57 => ?_)
    refine sxo_storeB (i := 0) rfl rfl rfl tf44 rfl rfl rfl rfl rfl ?_
    refine sxo_nil ?_
    refine sxq_begin (i := 2) rfl ?_
    refine sxc_block ?_
    refine sxc_region ?_
    refine sxo_loadB (i := 1) rfl rfl tf25 rfl rfl (fun _ => rfl) rfl rfl ?_
    refine sxo_loadB (i := 0) rfl rfl tf44 rfl rfl (by simp) rfl rfl ?_
    refine sxo_slit (vs := [.agg #[.int .i64 x55, .int .i64 x56]]) (ys := ([(x55, x56)] : List (Int × Int))) eS44_ok (by decide) rfl Try.underlying25 tf44 rfl rfl rfl rfl rfl (by decide) (fun a58 c59 => ?_)
    refine sxo_app 1 eS44_ok rfl Try.underlying25 tf44 rfl rfl rfl rfl rfl (.inl ⟨0, _, rfl⟩) rfl rfl (fun x60 e60 a61 c62 => ?_)
    refine sxo_storeB (i := 1) rfl rfl rfl tf25 rfl rfl rfl rfl rfl ?_
    refine sxo_nil ?_
    refine sxq_blkN ?_
    exact sxq_round (rc := rc1) rfl (.cons 2 rfl .nil) rfl (a61, c62) (.cons 2 rfl (.cons 0 rfl (.cons 1 rfl .nil))) (.cons 0 rfl .nil)
  · rintro x46 _ ⟨a44, c45⟩ D1
    try dsimp only
    refine sxq_blkN ?_
    refine sxq_next ?_
    refine sxc_seq ?_
    refine sxc_region ?_
    refine sxo_loadB (i := 2) rfl rfl tf25 rfl rfl (fun _ => rfl) rfl rfl ?_
    refine sxo_assign rfl rfl rfl ?_
    refine sxo_nil ?_
    refine sxq_next ?_
    refine sxc_ret ?_
    exact sxq_doneX [D1] (a44, c45) (.inl rfl) rfl (.cons 0 rfl .nil) (res1 rfl rfl) (fun h => by subst h; rfl) (fun h => by subst h; exact (.cons 0 rfl .nil)) (fun h => by subst h; exact (.cons 0 rfl .nil))
  · intro t; exact t.elim

theorem C_slices_Collect_api_Arc_slices_Values_api_Arc_api_Arc_1 (F : Nat) (g1 : Nat) (x2 : List (Int × Int)) (a3 : Option Addr) (c4 : Nat) (r : List (Int × Int)) (hm : M_slices_Collect_api_Arc_slices_Values_api_Arc_api_Arc_1 F x2 = some r) :
    PureM Try.prog 41 [.func (.func 63) #[] #[.pointer (some ⟨g1, 0, none⟩)]] [⟨g1, 25, [.slice a3 x2.length c4]⟩] [] [Sl eS44 2 (.slice a3 x2.length c4) x2] (Option Addr × Nat) (fun g => .slice g.1 r.length g.2) (fun _ => [⟨g1, 25, [.slice a3 x2.length c4]⟩]) (fun g => [Ro eS44 44 2 (.slice g.1 r.length g.2) r]) := by
  refine pureM_of Try.func41 rfl Try.ntmps41 rfl hm (fun w => ?_)
  refine sxc_env (l' := [(0, .func (.func 63) #[] #[.pointer (some ⟨g1, 0, none⟩)])]) rfl ?_
  refine sxc_seq ?_
  refine sxc_region ?_
  refine sxo_assign rfl rfl rfl ?_
  refine sxo_nil ?_
  refine sxq_next ?_
  refine sxc_seq ?_
  refine sxc_region ?_
  refine sxo_move rfl rfl rfl ?_
  refine sxo_nilrow' (Int × Int) eS44 44 2 ?_
  refine sxo_callM ent61 rfl rfl rfl (fun x5 e5 => C_slices_AppendSeq_api_Arc_api_Arc_slices_Values_api_Arc_api_Arc_1 F ([] : List (Int × Int)) none 0 g1 x2 a3 c4 x5 e5) (.cons 0 rfl .nil) (.cons 0 rfl .nil) (.consF 0 rfl .nil) (fun x5 e5 => ?_)
  rintro ⟨a6, c7⟩
  refine sxo_assign rfl rfl rfl ?_
  refine sxo_nil ?_
  refine sxq_next ?_
  refine sxc_ret ?_
  exact sxq_doneM (a6, c7) (.inl rfl) (res1 rfl rfl) (fun h => by subst h; rfl) (fun h => by subst h; exact (.cons 0 rfl .nil)) (fun h => by subst h; exact (.cons 0 rfl .nil))

theorem C_slices_SortFunc_api_Arc_api_Arc_graph_order (F : Nat) (x1 : List (Int × Int)) (a2 : Option Addr) (c3 : Nat) (r : List (Int × Int)) (hm : M_slices_SortFunc_api_Arc_api_Arc_graph_order F x1 = some r) :
    PureM Try.prog 48 [.slice a2 x1.length c3, .func (.func 46) #[] #[]] [] [Ro eS44 44 2 (.slice a2 x1.length c3) x1] [] Unit (fun _ => .tuple #[]) (fun _ => []) (fun _ => [Ro eS44 44 2 (.slice a2 r.length c3) r]) :=
  sortf_pureM (cb := []) (BC := []) (Φ := []) eS44_ok (by decide) (sby48_46 _) (fun p cap w => Try.sortn48 p cap _ w) (fun a b z h => (C_graph_order F a.1 a.2 b.1 b.2 z h).toM) hm

theorem C_slices_SortedFunc_api_Arc_slices_Values_api_Arc_api_Arc_1_graph_order (F : Nat) (g1 : Nat) (x2 : List (Int × Int)) (a3 : Option Addr) (c4 : Nat) (r : List (Int × Int)) (hm : M_slices_SortedFunc_api_Arc_slices_Values_api_Arc_api_Arc_1_graph_order F x2 = some r) :
    PureM Try.prog 44 [.func (.func 63) #[] #[.pointer (some ⟨g1, 0, none⟩)], .func (.func 46) #[] #[]] [⟨g1, 25, [.slice a3 x2.length c4]⟩] [] [Sl eS44 2 (.slice a3 x2.length c4) x2] (Option Addr × Nat) (fun g => .slice g.1 r.length g.2) (fun _ => [⟨g1, 25, [.slice a3 x2.length c4]⟩]) (fun g => [Ro eS44 44 2 (.slice g.1 r.length g.2) r]) := by
  refine pureM_of Try.func44 rfl Try.ntmps44 rfl hm (fun w => ?_)
  refine sxc_env (l' := [(0, .func (.func 63) #[] #[.pointer (some ⟨g1, 0, none⟩)]), (1, .func (.func 46) #[] #[])]) rfl ?_
  refine sxc_seq ?_
  refine sxc_region ?_
  refine sxo_assign rfl rfl rfl ?_
  refine sxo_nil ?_
  refine sxq_next ?_
  refine sxc_seq ?_
  refine sxc_region ?_
  refine sxo_move rfl rfl rfl ?_
  refine sxo_callM ent41 rfl rfl rfl (fun x5 e5 => C_slices_Collect_api_Arc_slices_Values_api_Arc_api_Arc_1 F g1 x2 a3 c4 x5 e5) (.cons 0 rfl .nil) .nil (.consF 0 rfl .nil) (fun x5 e5 => ?_)
  rintro ⟨a6, c7⟩
  refine sxo_assign rfl rfl rfl ?_
  refine sxo_nil ?_
  refine sxq_next ?_
  refine sxc_seq ?_
  refine sxc_region ?_
  refine sxo_move rfl rfl rfl ?_
  refine sxo_move rfl rfl rfl ?_
  refine sxo_callM ent48 rfl rfl rfl (fun x8 e8 => C_slices_SortFunc_api_Arc_api_Arc_graph_order F x5 a6 c7 x8 e8) .nil (.cons 0 rfl .nil) .nil (fun x8 e8 => ?_)
  intro _
  refine sxo_chk (fun h9 => ?_)
  replace h9 := of_decide_eq_true h9
  refine sxo_again (d := 5) (v := .slice a6 x8.length c7) rfl (by rw [h9]) ?_
  refine sxo_again (d := 7) (v := .slice a6 x8.length c7) rfl (by rw [h9]) ?_
  refine sxo_again (d := 8) (v := .slice a6 x8.length c7) rfl (by rw [h9]) ?_
  refine sxo_nil ?_
  refine sxq_next ?_
  refine sxc_seq ?_
  refine sxc_region ?_
  refine sxo_move rfl rfl rfl ?_
  refine sxo_assign rfl rfl rfl ?_
  refine sxo_nil ?_
  refine sxq_next ?_
  refine sxc_ret ?_
  exact sxq_doneM (a6, c7) (.inl rfl) (res1 rfl rfl) (fun h => by subst h; rfl) (fun h => by subst h; exact (.cons 0 rfl .nil)) (fun h => by subst h; exact (.cons 0 rfl .nil))

set_option maxHeartbeats 4000000 in
theorem C_graph_Of (F : Nat) (x1 : Int) (x2 : List (Int × Int)) (a3 : Option Addr) (c4 : Nat) (r : (List (List Int) × Int)) (hm : M_graph_Of F x1 x2 = some r) :
    Pure Try.prog 16 [.int .i64 x1, .slice a3 x2.length c4] [Sl eS44 2 (.slice a3 x2.length c4) x2] (Option Addr × (Nat × List (Option Addr × Nat))) (fun g => .tuple #[.agg #[.slice g.1 r.1.length g.2.1], .int .i64 r.2]) (fun g => [RoN eN32 rN32 32 1 (.slice g.1 r.1.length g.2.1) r.1 g.2.2 []]) (fun _ => []) := by
  refine pure_of Try.func16 rfl Try.ntmps16 rfl hm (fun w => ?_)
  refine sxc_env (l' := [(0, .int .i64 x1), (1, .slice a3 x2.length c4)]) rfl ?_
  refine sxc_seq ?_
  refine sxc_region ?_
  refine sxo_alloc rfl tf24 rfl (fun g5 => ?_)
  refine sxo_assign rfl rfl rfl ?_
  refine sxo_nil ?_
  refine sxq_next ?_
  refine sxc_seq ?_
  refine sxc_block ?_
  refine sxc_seq ?_
  refine sxc_region ?_
  refine sxo_move rfl rfl rfl ?_
  refine sxo_lss rfl rfl rfl rfl ?_
  refine sxo_move rfl rfl rfl ?_
  refine sxo_case 3 (decide (x1 < 0)) [(0, .int .i64 x1), (1, .slice a3 x2.length c4), (4, .pointer (some ⟨g5, 0, none⟩)), (17, .bool ((decide (x1 < 0)) || (decide (100 < x1))))] (fun h9 => ?_) (fun h9 => ?_) ?_
  · refine sxo_take (os := _) rfl ?_
    refine sxo_isT (k := 14) rfl h9 ?_
    refine sxo_skip rfl rfl rfl ?_
    refine sxo_skip rfl rfl rfl ?_
    refine sxo_pick (b := true) rfl rfl rfl rfl ?_
    refine sxo_again (d := 17) (v := .bool ((decide (x1 < 0)) || (decide (100 < x1)))) rfl (by rw [h9]; simp only [Bool.true_or]) ?_
    refine sxo_nil ?_
    exact sxq_case (lk_cons rfl (lk_cons rfl (lk_cons rfl (lk_cons rfl lk_nil))))
  · refine sxo_take (os := _) rfl ?_
    refine sxo_isF (k := 14) rfl h9 ?_
    refine sxo_move rfl rfl rfl ?_
    refine sxo_gtr rfl rfl rfl rfl ?_
    refine sxo_pick (b := false) rfl rfl rfl rfl ?_
    refine sxo_again (d := 17) (v := .bool ((decide (x1 < 0)) || (decide (100 < x1)))) rfl (by rw [h9]; simp only [Bool.false_or]) ?_
    refine sxo_nil ?_
    exact sxq_case (lk_cons rfl (lk_cons rfl (lk_cons rfl (lk_cons rfl lk_nil))))
  refine sxo_take (os := _) rfl ?_
  refine sxo_assign rfl rfl rfl ?_
  refine sxo_nil ?_
  refine sxq_next ?_
  refine sxc_if rfl (fun h242 => ?_) (fun h242 => ?_)
  · refine sxc_seq ?_
    refine sxc_region ?_
    refine sxo_build (cells := [.slice none 0 0]) rfl st24 rfl (by kernel_rfl) rfl ?_
    refine sxo_storeB (i := 0) rfl rfl rfl tf24 rfl rfl rfl rfl rfl ?_
    refine sxo_assign rfl rfl rfl ?_
    refine sxo_nil ?_
    refine sxq_next ?_
    refine sxc_ret ?_
    refine sxq_blkR ?_
    refine sxq_thenR ?_
    refine sxq_nilN (List Int) (Option Addr × Nat) eN32 rN32 32 1 ?_
    exact sxq_doneP (none, (0, ([] : List (Option Addr × Nat)))) (.inl rfl) (resL (rs := [.cell 4 24, .tmp 5]) rfl (.cell (i := 0) rfl tf24 rfl rfl (by simp) rfl (.tmp rfl ResOk.nil)) rfl) (fun h => by subst h; rfl) (fun h => by subst h; exact (.cons 0 rfl .nil))
  · refine sxc_seq ?_
    refine sxc_region ?_
    refine sxo_move rfl rfl rfl ?_
    refine sxo_len rfl Try.underlying25 rfl rfl ?_
    refine sxo_gtr rfl rfl rfl rfl ?_
    refine sxo_assign rfl rfl rfl ?_
    refine sxo_nil ?_
    refine sxq_next ?_
    refine sxc_if rfl (fun h241 => ?_) (fun h241 => ?_)
    · refine sxc_seq ?_
      refine sxc_region ?_
      refine sxo_build (cells := [.slice none 0 0]) rfl st24 rfl (by kernel_rfl) rfl ?_
      refine sxo_storeB (i := 0) rfl rfl rfl tf24 rfl rfl rfl rfl rfl ?_
      refine sxo_assign rfl rfl rfl ?_
      refine sxo_nil ?_
      refine sxq_next ?_
      refine sxc_ret ?_
      refine sxq_blkR ?_
      refine sxq_thenR ?_
      refine sxq_nilN (List Int) (Option Addr × Nat) eN32 rN32 32 1 ?_
      exact sxq_doneP (none, (0, ([] : List (Option Addr × Nat)))) (.inl rfl) (resL (rs := [.cell 4 24, .tmp 5]) rfl (.cell (i := 0) rfl tf24 rfl rfl (by simp) rfl (.tmp rfl ResOk.nil)) rfl) (fun h => by subst h; rfl) (fun h => by subst h; exact (.cons 0 rfl .nil))
    · refine sxc_skip ?_
      refine sxq_blkN ?_
      refine sxq_next ?_
      refine sxc_seq ?_
      refine sxc_region ?_
      refine sxo_makeMap (k0 := .i64) (k1 := .i64) rfl rfl (fun g10 => ?_)
      refine sxo_assign rfl rfl rfl ?_
      refine sxo_nil ?_
      refine sxq_next ?_
      refine sxc_join (fun ((_, _) : (Unit × Unit)) => [(0, .int .i64 x1), (1, .slice a3 x2.length c4), (4, .pointer (some ⟨g5, 0, none⟩))]) (fun ((_, _) : (Unit × Unit)) => [⟨g5, 24, [.slice none 0 0]⟩]) (fun ((_, _) : (Unit × Unit)) => []) (fun ((_, _) : (Unit × Unit)) => [Sl eS44 2 (.slice a3 x2.length c4) x2]) (fun ((_, _) : (Unit × Unit)) => M_graph_Of_j2 F x1 x2) ?_ ?_
      · refine sxc_seq ?_
        refine sxc_region ?_
        refine sxo_move rfl rfl rfl ?_
        refine sxo_len rfl Try.underlying25 rfl rfl ?_
        refine sxo_move rfl rfl rfl ?_
        refine sxo_nil ?_
        refine sxq_next ?_
        refine sxc_block ?_
        refine sxc_loopP (fun (((x166, x167), _) : ((Int × List (Int × Int)) × Unit)) => [(0, .int .i64 x1), (1, .slice a3 x2.length c4), (4, .pointer (some ⟨g5, 0, none⟩)), (6, .map (some g10)), (25, .slice a3 x2.length c4), (26, .int .i64 (x2.length : Int)), (27, .int .i64 x166)]) (fun (((x166, x167), _) : ((Int × List (Int × Int)) × Unit)) => [(blkO g10 (mapO .i64 .i64 x167)), ⟨g5, 24, [.slice none 0 0]⟩]) (fun (((x166, x167), _) : ((Int × List (Int × Int)) × Unit)) => []) (fun (((x166, x167), _) : ((Int × List (Int × Int)) × Unit)) => [Sl eS44 2 (.slice a3 x2.length c4) x2]) (fun k (s : ((Int × List (Int × Int)) × Unit)) => M_graph_Of_l3 F x1 x2 k s.1) ((0, ([] : List (Int × Int))), ()) F (lk_cons rfl (lk_cons rfl (lk_cons rfl (lk_cons rfl (lk_cons rfl (lk_cons rfl (lk_cons rfl lk_nil))))))) (.cons 0 rfl (.cons 0 rfl .nil)) .nil (fk_cons 0 rfl fk_nil) (fun _ => rfl) ?_
        intro k204
        rintro ⟨⟨x166, x167⟩, _⟩
        try dsimp only
        refine sxc_meq (m' := M_graph_Of_b3 F x1 x2 (M_graph_Of_l3 F x1 x2 k204) x166 x167) rfl ?_
        refine sxc_seq ?_
        refine sxc_region ?_
        refine sxo_lss rfl rfl rfl rfl ?_
        refine sxo_nil ?_
        refine sxq_next ?_
        refine sxc_seq ?_
        refine sxc_if rfl (fun h240 => ?_) (fun h240 => ?_)
        · refine sxc_skip ?_
          refine sxq_next ?_
          refine sxc_seq ?_
          refine sxc_block ?_
          refine sxc_seq ?_
          refine sxc_region ?_
          refine sxo_indexF (j := 0) eS44_ok (by decide) rfl Try.underlying25 tf44 rfl rfl rfl rfl (fun x223 e223 b224 o225 => ?_)
          refine sxo_loadF (j := 0) rfl rfl tf44 rfl rfl (by simp) rfl rfl ?_
          refine sxo_alloc rfl tf44 rfl (fun g226 => ?_)
          refine sxo_storeB (i := 0) rfl rfl rfl tf44 rfl rfl rfl rfl rfl ?_
          refine sxo_nil ?_
          refine sxq_next ?_
          refine sxc_seq ?_
          refine sxc_seq ?_
          refine sxc_region ?_
          refine sxo_fieldAddr rfl rfl ff44_0 rfl ?_
          refine sxo_loadB (i := 0) rfl rfl tf3 rfl rfl (fun _ => rfl) rfl rfl ?_
          refine sxo_lss rfl rfl rfl rfl ?_
          refine sxo_move rfl rfl rfl ?_
          refine sxo_case 5 (decide (x223.1 < 0)) [(0, .int .i64 x1), (1, .slice a3 x2.length c4), (4, .pointer (some ⟨g5, 0, none⟩)), (6, .map (some g10)), (25, .slice a3 x2.length c4), (26, .int .i64 (x2.length : Int)), (27, .int .i64 x166), (8, .pointer (some ⟨g226, 0, none⟩)), (39, .bool ((decide (x223.1 < 0)) || (decide (x1 ≤ x223.1))))] (fun h231 => ?_) (fun h231 => ?_) ?_
          · refine sxo_take (os := _) rfl ?_
            refine sxo_isT (k := 34) rfl h231 ?_
            refine sxo_skip rfl rfl rfl ?_
            refine sxo_skip rfl rfl rfl ?_
            refine sxo_skip rfl rfl rfl ?_
            refine sxo_skip rfl rfl rfl ?_
            refine sxo_pick (b := true) rfl rfl rfl rfl ?_
            refine sxo_again (d := 39) (v := .bool ((decide (x223.1 < 0)) || (decide (x1 ≤ x223.1)))) rfl (by rw [h231]; simp only [Bool.true_or]) ?_
            refine sxo_nil ?_
            exact sxq_case (lk_cons rfl (lk_cons rfl (lk_cons rfl (lk_cons rfl (lk_cons rfl (lk_cons rfl (lk_cons rfl (lk_cons rfl (lk_cons rfl lk_nil)))))))))
          · refine sxo_take (os := _) rfl ?_
            refine sxo_isF (k := 34) rfl h231 ?_
            refine sxo_fieldAddr rfl rfl ff44_0 rfl ?_
            refine sxo_loadB (i := 0) rfl rfl tf3 rfl rfl (fun _ => rfl) rfl rfl ?_
            refine sxo_move rfl rfl rfl ?_
            refine sxo_geq rfl rfl rfl rfl ?_
            refine sxo_pick (b := false) rfl rfl rfl rfl ?_
            refine sxo_again (d := 39) (v := .bool ((decide (x223.1 < 0)) || (decide (x1 ≤ x223.1)))) rfl (by rw [h231]; simp only [Bool.false_or]) ?_
            refine sxo_nil ?_
            exact sxq_case (lk_cons rfl (lk_cons rfl (lk_cons rfl (lk_cons rfl (lk_cons rfl (lk_cons rfl (lk_cons rfl (lk_cons rfl (lk_cons rfl lk_nil)))))))))
          refine sxo_take (os := _) rfl ?_
          refine sxo_move rfl rfl rfl ?_
          refine sxo_case 4 ((decide (x223.1 < 0)) || (decide (x1 ≤ x223.1))) [(0, .int .i64 x1), (1, .slice a3 x2.length c4), (4, .pointer (some ⟨g5, 0, none⟩)), (6, .map (some g10)), (25, .slice a3 x2.length c4), (26, .int .i64 (x2.length : Int)), (27, .int .i64 x166), (8, .pointer (some ⟨g226, 0, none⟩)), (44, .bool (((decide (x223.1 < 0)) || (decide (x1 ≤ x223.1))) || (decide (x223.2 < 0))))] (fun h232 => ?_) (fun h232 => ?_) ?_
          · refine sxo_take (os := _) rfl ?_
            refine sxo_isT (k := 40) rfl h232 ?_
            refine sxo_skip rfl rfl rfl ?_
            refine sxo_skip rfl rfl rfl ?_
            refine sxo_skip rfl rfl rfl ?_
            refine sxo_pick (b := true) rfl rfl rfl rfl ?_
            refine sxo_again (d := 44) (v := .bool (((decide (x223.1 < 0)) || (decide (x1 ≤ x223.1))) || (decide (x223.2 < 0)))) rfl (by rw [h232]; simp only [Bool.true_or]) ?_
            refine sxo_nil ?_
            exact sxq_case (lk_cons rfl (lk_cons rfl (lk_cons rfl (lk_cons rfl (lk_cons rfl (lk_cons rfl (lk_cons rfl (lk_cons rfl (lk_cons rfl lk_nil)))))))))
          · refine sxo_take (os := _) rfl ?_
            refine sxo_isF (k := 40) rfl h232 ?_
            refine sxo_fieldAddr rfl rfl ff44_1 rfl ?_
            refine sxo_loadB (i := 0) rfl rfl tf3 rfl rfl (fun _ => rfl) rfl rfl ?_
            refine sxo_lss rfl rfl rfl rfl ?_
            refine sxo_pick (b := false) rfl rfl rfl rfl ?_
            refine sxo_again (d := 44) (v := .bool (((decide (x223.1 < 0)) || (decide (x1 ≤ x223.1))) || (decide (x223.2 < 0)))) rfl (by rw [h232]; simp only [Bool.false_or]) ?_
            refine sxo_nil ?_
            exact sxq_case (lk_cons rfl (lk_cons rfl (lk_cons rfl (lk_cons rfl (lk_cons rfl (lk_cons rfl (lk_cons rfl (lk_cons rfl (lk_cons rfl lk_nil)))))))))
          refine sxo_take (os := _) rfl ?_
          refine sxo_move rfl rfl rfl ?_
          refine sxo_case 5 (((decide (x223.1 < 0)) || (decide (x1 ≤ x223.1))) || (decide (x223.2 < 0))) [(0, .int .i64 x1), (1, .slice a3 x2.length c4), (4, .pointer (some ⟨g5, 0, none⟩)), (6, .map (some g10)), (25, .slice a3 x2.length c4), (26, .int .i64 (x2.length : Int)), (27, .int .i64 x166), (8, .pointer (some ⟨g226, 0, none⟩)), (50, .bool ((((decide (x223.1 < 0)) || (decide (x1 ≤ x223.1))) || (decide (x223.2 < 0))) || (decide (x1 ≤ x223.2))))] (fun h233 => ?_) (fun h233 => ?_) ?_
          · refine sxo_take (os := _) rfl ?_
            refine sxo_isT (k := 45) rfl h233 ?_
            refine sxo_skip rfl rfl rfl ?_
            refine sxo_skip rfl rfl rfl ?_
            refine sxo_skip rfl rfl rfl ?_
            refine sxo_skip rfl rfl rfl ?_
            refine sxo_pick (b := true) rfl rfl rfl rfl ?_
            refine sxo_again (d := 50) (v := .bool ((((decide (x223.1 < 0)) || (decide (x1 ≤ x223.1))) || (decide (x223.2 < 0))) || (decide (x1 ≤ x223.2)))) rfl (by rw [h233]; simp only [Bool.true_or]) ?_
            refine sxo_nil ?_
            exact sxq_case (lk_cons rfl (lk_cons rfl (lk_cons rfl (lk_cons rfl (lk_cons rfl (lk_cons rfl (lk_cons rfl (lk_cons rfl (lk_cons rfl lk_nil)))))))))
          · refine sxo_take (os := _) rfl ?_
            refine sxo_isF (k := 45) rfl h233 ?_
            refine sxo_fieldAddr rfl rfl ff44_1 rfl ?_
            refine sxo_loadB (i := 0) rfl rfl tf3 rfl rfl (fun _ => rfl) rfl rfl ?_
            refine sxo_move rfl rfl rfl ?_
            refine sxo_geq rfl rfl rfl rfl ?_
            refine sxo_pick (b := false) rfl rfl rfl rfl ?_
            refine sxo_again (d := 50) (v := .bool ((((decide (x223.1 < 0)) || (decide (x1 ≤ x223.1))) || (decide (x223.2 < 0))) || (decide (x1 ≤ x223.2)))) rfl (by rw [h233]; simp only [Bool.false_or]) ?_
            refine sxo_nil ?_
            exact sxq_case (lk_cons rfl (lk_cons rfl (lk_cons rfl (lk_cons rfl (lk_cons rfl (lk_cons rfl (lk_cons rfl (lk_cons rfl (lk_cons rfl lk_nil)))))))))
          refine sxo_take (os := _) rfl ?_
          refine sxo_nil ?_
          refine sxq_next ?_
          refine sxc_if rfl (fun h239 => ?_) (fun h239 => ?_)
          · refine sxc_seq ?_
            refine sxc_region ?_
            refine sxo_build (cells := [.slice none 0 0]) rfl st24 rfl (by kernel_rfl) rfl ?_
            refine sxo_storeB (i := 2) rfl rfl rfl tf24 rfl rfl rfl rfl rfl ?_
            refine sxo_assign rfl rfl rfl ?_
            refine sxo_nil ?_
            refine sxq_next ?_
            refine sxc_ret ?_
            refine sxq_thenR ?_
            refine sxq_blkR ?_
            refine sxq_thenR ?_
            refine sxq_thenR ?_
            refine sxq_blkR ?_
            refine sxq_thenR ?_
            refine sxq_nilN (List Int) (Option Addr × Nat) eN32 rN32 32 1 ?_
            exact sxq_doneP (none, (0, ([] : List (Option Addr × Nat)))) (.inl rfl) (resL (rs := [.cell 4 24, .tmp 5]) rfl (.cell (i := 2) rfl tf24 rfl rfl (by simp) rfl (.tmp rfl ResOk.nil)) rfl) (fun h => by subst h; rfl) (fun h => by subst h; exact (.cons 0 rfl .nil))
          · refine sxc_skip ?_
            refine sxq_next ?_
            refine sxc_seq ?_
            refine sxc_seq ?_
            refine sxc_region ?_
            refine sxo_move rfl rfl rfl ?_
            refine sxo_loadB (i := 0) rfl rfl tf44 rfl rfl (by simp) rfl rfl ?_
            refine sxo_lookupS (i := 1) (p := (x223.1, x223.2)) rfl Try.underlying64 se44 tf65 rfl rfl rfl rfl ?_
            refine sxo_move rfl rfl rfl ?_
            refine sxo_extract rfl rfl rfl rfl ?_
            refine sxo_extract rfl rfl rfl rfl ?_
            refine sxo_alloc rfl tf65 rfl (fun g236 => ?_)
            refine sxo_storeB (i := 0) rfl rfl rfl tf65 rfl rfl rfl rfl rfl ?_
            refine sxo_assign rfl rfl rfl ?_
            refine sxo_nil ?_
            refine sxq_next ?_
            refine sxc_seq ?_
            refine sxc_region ?_
            refine sxo_move rfl rfl rfl ?_
            refine sxo_nil ?_
            refine sxq_next ?_
            refine sxc_if rfl (fun h238 => ?_) (fun h238 => ?_)
            · refine sxc_seq ?_
              refine sxc_region ?_
              refine sxo_build (cells := [.slice none 0 0]) rfl st24 rfl (by kernel_rfl) rfl ?_
              refine sxo_storeB (i := 3) rfl rfl rfl tf24 rfl rfl rfl rfl rfl ?_
              refine sxo_assign rfl rfl rfl ?_
              refine sxo_nil ?_
              refine sxq_next ?_
              refine sxc_ret ?_
              refine sxq_thenR ?_
              refine sxq_blkR ?_
              refine sxq_thenR ?_
              refine sxq_thenR ?_
              refine sxq_blkR ?_
              refine sxq_thenR ?_
              refine sxq_nilN (List Int) (Option Addr × Nat) eN32 rN32 32 1 ?_
              exact sxq_doneP (none, (0, ([] : List (Option Addr × Nat)))) (.inl rfl) (resL (rs := [.cell 4 24, .tmp 5]) rfl (.cell (i := 3) rfl tf24 rfl rfl (by simp) rfl (.tmp rfl ResOk.nil)) rfl) (fun h => by subst h; rfl) (fun h => by subst h; exact (.cons 0 rfl .nil))
            · refine sxc_skip ?_
              refine sxq_next ?_
              refine sxc_region ?_
              refine sxo_move rfl rfl rfl ?_
              refine sxo_loadB (i := 1) rfl rfl tf44 rfl rfl (by simp) rfl rfl ?_
              refine sxo_build (cells := []) rfl st65 rfl (by kernel_rfl) rfl ?_
              refine sxo_mapPut (i := 2) (p := (x223.1, x223.2)) rfl Try.underlying64 se44 rfl rfl rfl rfl (fun x237 e237 => ?_)
              refine sxo_nil ?_
              refine sxq_blkN ?_
              refine sxq_next ?_
              refine sxc_region ?_
              refine sxo_add rfl rfl rfl rfl ?_
              refine sxo_move rfl rfl rfl ?_
              refine sxo_nil ?_
              exact sxq_againP ((iadd .i64 x166 1, x237), ()) (lk_cons rfl (lk_cons rfl (lk_cons rfl (lk_cons rfl (lk_cons rfl (lk_cons rfl (lk_cons rfl lk_nil))))))) (.cons 2 rfl (.cons 2 rfl .nil)) .nil (fk_cons 1 rfl fk_nil)
        · refine sxc_exit ?_
          refine sxq_thenX ?_
          refine sxq_thenX ?_
          refine sxq_blkX ?_
          exact sxq_meetP ((), ()) (lk_cons rfl (lk_cons rfl (lk_cons rfl lk_nil))) (.cons 1 rfl .nil) .nil (fk_cons 0 rfl fk_nil)
      · rintro ⟨_, _⟩
        try dsimp only
        refine sxc_seq ?_
        refine sxc_region ?_
        refine sxo_move rfl rfl rfl ?_
        refine sxo_move rfl rfl rfl ?_
        refine sxo_callM ent45 rfl rfl rfl (fun x122 e122 => C_slices_Values_api_Arc_api_Arc F x2 a3 c4 x122 e122) .nil .nil (.consF 0 rfl .nil) (fun x122 e122 => ?_)
        rintro g123
        refine sxo_callM ent44 rfl rfl rfl (fun x124 e124 => C_slices_SortedFunc_api_Arc_slices_Values_api_Arc_api_Arc_1_graph_order F g123 x2 a3 c4 x124 e124) (.cons 0 rfl .nil) .nil (.consF 0 rfl .nil) (fun x124 e124 => ?_)
        rintro ⟨a125, c126⟩
        refine sxo_call ent43 rfl rfl rfl (fun x127 e127 => C_graph_Built F x1 x124 a125 c126 x127 e127) (.consR 0 (Ro eS44 44 2 (.slice a125 x124.length c126) x124) rfl .nil) (fun x127 e127 => ?_)
        rintro ⟨a128, c129⟩
        refine sxo_storeB (i := 1) rfl rfl rfl tf24 rfl rfl rfl rfl rfl ?_
        refine sxo_assign rfl rfl rfl ?_
        refine sxo_nil ?_
        refine sxq_next ?_
        refine sxc_ret ?_
        exact sxq_doneP (a128, c129) (.inl rfl) (resL (rs := [.cell 4 24, .tmp 5]) rfl (.cell (i := 1) rfl tf24 rfl rfl (by simp) rfl (.tmp rfl ResOk.nil)) rfl) (fun h => by subst h; rfl) (fun h => by subst h; exact (.cons 0 rfl .nil))

theorem C_graph_turned (F : Nat) (x1 : List (List Int)) (a2 : Option Addr) (c3 : (Nat × List (Option Addr × Nat))) (r : List (Int × Int)) (hm : M_graph_turned F x1 = some r) :
    PureM Try.prog 47 [.agg #[.slice a2 x1.length c3.1]] [] [] [SlN eN32 iN32 1 (.slice a2 x1.length c3.1) x1 c3.2] (Option Addr × Nat) (fun g => .slice g.1 r.length g.2) (fun _ => []) (fun g => [Ro eS44 44 2 (.slice g.1 r.length g.2) r]) := by
  refine pureX_of Try.func47 rfl Try.ntmps47 rfl hm (fun w => ?_)
  refine sxc_env (l' := [(0, .agg #[.slice a2 x1.length c3.1])]) rfl ?_
  refine sxc_seq ?_
  refine sxc_region ?_
  refine sxo_box rfl rfl rfl (fun g4 => ?_)
  refine sxo_assign rfl rfl rfl ?_
  refine sxo_nil ?_
  refine sxq_next ?_
  refine sxc_seq ?_
  refine sxc_region ?_
  refine sxo_alloc rfl tf25 rfl (fun g5 => ?_)
  refine sxo_nil ?_
  refine sxq_next ?_
  refine sxc_seq ?_
  refine sxc_seq ?_
  refine sxc_region ?_
  refine sxo_loadB (i := 1) rfl rfl tf24 rfl rfl (by simp) rfl rfl ?_
  refine sxo_callM ent42 rfl rfl rfl (fun x35 e35 => C_graph_All F x1 a2 c3 x35 e35) .nil .nil (.consF 0 rfl .nil) (fun x35 e35 => ?_)
  rintro g36
  refine sxo_nil ?_
  refine sxq_next ?_
  refine sxc_block ?_
  refine sxc_nilrow (Int × Int) eS44 44 2 ?_
  refine sxc_range (encs := (fun (p : (Int × Int)) => [.agg #[.int .i64 p.1, .int .i64 p.2]])) (y := (fun (x47 : List (Int × Int)) ((x56, x57) : (Int × Int)) => M_graph_turned_r2 F x47 x56 x57)) (lb := [.pointer (some ⟨g36, 0, none⟩)]) (fun (x47 : List (Int × Int)) ((a45, c46) : (Option Addr × Nat)) => [⟨g5, 25, [.slice a45 x47.length c46]⟩, ⟨g4, 24, [.slice a2 x1.length c3.1]⟩]) (fun (x47 : List (Int × Int)) ((a45, c46) : (Option Addr × Nat)) => [Ro eS44 44 2 (.slice a45 x47.length c46) x47]) (fun (_ : Empty) (_ : Unit) => []) (fun (_ : Empty) (_ : Unit) => []) (fun _ => .skip) ([] : List (Int × Int)) (none, 0) rfl ent62 (fun _ => rfl) rfl (.cons 0 rfl .nil) (.cons 0 rfl (.cons 0 rfl .nil)) (.cons 0 rfl .nil) (.consF 0 rfl .nil) (fun z hz _ _ _ hY => C_graph_All_1 F hY ([] : List (Int × Int)) (none, 0) g36 x1 a2 c3 z hz) ?_ ?_ ?_
  · rintro rc1 L1 D1 x47 ⟨a45, c46⟩ ⟨x56, x57⟩ z w M _
    try dsimp only
    refine sxc_less [(0, .agg #[.slice a2 x1.length c3.1]), (1, .pointer (some ⟨g4, 0, none⟩)), (2, .slice none 0 0), (3, .pointer (some ⟨g5, 0, none⟩)), (5, .agg #[.slice a2 x1.length c3.1]), (6, .func (.func 62) #[] #[.pointer (some ⟨g36, 0, none⟩)]), (7, .agg #[.int .i64 x56, .int .i64 x57])] (lk_cons rfl (lk_cons rfl (lk_cons rfl (lk_cons rfl (lk_cons rfl (lk_cons rfl (lk_cons rfl lk_nil))))))) ?_
    refine sxc_region ?_
    refine sxo_alloc rfl tf44 rfl (fun g58 => ?_)
    refine sxo_storeB (i := 0) rfl rfl rfl tf44 rfl rfl rfl rfl rfl ?_
    refine sxo_nil ?_
    refine sxq_begin (i := 3) rfl ?_
    refine sxc_block ?_
    refine sxc_region ?_
    refine sxo_loadB (i := 1) rfl rfl tf25 rfl rfl (fun _ => rfl) rfl rfl ?_
    refine sxo_fieldAddr rfl rfl ff44_1 rfl ?_
    refine sxo_loadB (i := 0) rfl rfl tf3 rfl rfl (fun _ => rfl) rfl rfl ?_
    refine sxo_fieldAddr rfl rfl ff44_0 rfl ?_
    refine sxo_loadB (i := 0) rfl rfl tf3 rfl rfl (fun _ => rfl) rfl rfl ?_
    refine sxo_build (cells := [.int .i64 x57, .int .i64 x56]) rfl st44 rfl (by kernel_rfl) rfl ?_
    refine sxo_slit (vs := [.agg #[.int .i64 x57, .int .i64 x56]]) (ys := ([(x57, x56)] : List (Int × Int))) eS44_ok (by decide) rfl Try.underlying25 tf44 rfl rfl rfl rfl rfl (by decide) (fun a59 c60 => ?_)
    refine sxo_app 1 eS44_ok rfl Try.underlying25 tf44 rfl rfl rfl rfl rfl (.inl ⟨0, _, rfl⟩) rfl rfl (fun x61 e61 a62 c63 => ?_)
    refine sxo_storeB (i := 1) rfl rfl rfl tf25 rfl rfl rfl rfl rfl ?_
    refine sxo_nil ?_
    refine sxq_blkN ?_
    exact sxq_round (rc := rc1) rfl (.cons 3 rfl .nil) rfl (a62, c63) (.cons 2 rfl (.cons 2 rfl (.cons 0 rfl (.cons 1 rfl .nil)))) (.cons 0 rfl .nil)
  · rintro x47 _ ⟨a45, c46⟩ D1
    try dsimp only
    refine sxq_blkN ?_
    refine sxq_next ?_
    refine sxc_seq ?_
    refine sxc_region ?_
    refine sxo_loadB (i := 2) rfl rfl tf25 rfl rfl (fun _ => rfl) rfl rfl ?_
    refine sxo_assign rfl rfl rfl ?_
    refine sxo_nil ?_
    refine sxq_next ?_
    refine sxc_ret ?_
    exact sxq_doneX [D1] (a45, c46) (.inl rfl) rfl (.cons 0 rfl .nil) (res1 rfl rfl) (fun h => by subst h; rfl) (fun h => by subst h; exact .nil) (fun h => by subst h; exact (.cons 0 rfl .nil))
  · intro t; exact t.elim

theorem C_graph_Turn (F : Nat) (x1 : List (List Int)) (a2 : Option Addr) (c3 : (Nat × List (Option Addr × Nat))) (r : (List (List Int) × Int)) (hm : M_graph_Turn F x1 = some r) :
    Pure Try.prog 17 [.agg #[.slice a2 x1.length c3.1]] [SlN eN32 iN32 1 (.slice a2 x1.length c3.1) x1 c3.2] (Option Addr × (Nat × List (Option Addr × Nat))) (fun g => .tuple #[.agg #[.slice g.1 r.1.length g.2.1], .int .i64 r.2]) (fun g => [RoN eN32 rN32 32 1 (.slice g.1 r.1.length g.2.1) r.1 g.2.2 []]) (fun _ => []) := by
  refine pure_of Try.func17 rfl Try.ntmps17 rfl hm (fun w => ?_)
  refine sxc_env (l' := [(0, .agg #[.slice a2 x1.length c3.1])]) rfl ?_
  refine sxc_seq ?_
  refine sxc_region ?_
  refine sxo_box rfl rfl rfl (fun g4 => ?_)
  refine sxo_alloc rfl tf24 rfl (fun g5 => ?_)
  refine sxo_assign rfl rfl rfl ?_
  refine sxo_nil ?_
  refine sxq_next ?_
  refine sxc_seq ?_
  refine sxc_seq ?_
  refine sxc_region ?_
  refine sxo_loadB (i := 1) rfl rfl tf24 rfl rfl (by simp) rfl rfl ?_
  refine sxo_call ent26 rfl rfl rfl (fun x8 e8 => C_graph_Check F x1 a2 c3 x8 e8) (.consF 0 rfl .nil) (fun x8 e8 => ?_)
  intro _
  refine sxo_assign rfl rfl rfl ?_
  refine sxo_nil ?_
  refine sxq_next ?_
  refine sxc_seq ?_
  refine sxc_region ?_
  refine sxo_move rfl rfl rfl ?_
  refine sxo_neq rfl rfl rfl rfl ?_
  refine sxo_nil ?_
  refine sxq_next ?_
  refine sxc_if rfl (fun h31 => ?_) (fun h31 => ?_)
  · refine sxc_seq ?_
    refine sxc_region ?_
    refine sxo_build (cells := [.slice none 0 0]) rfl st24 rfl (by kernel_rfl) rfl ?_
    refine sxo_move rfl rfl rfl ?_
    refine sxo_storeB (i := 0) rfl rfl rfl tf24 rfl rfl rfl rfl rfl ?_
    refine sxo_assign rfl rfl rfl ?_
    refine sxo_nil ?_
    refine sxq_next ?_
    refine sxc_ret ?_
    refine sxq_thenR ?_
    refine sxq_nilN (List Int) (Option Addr × Nat) eN32 rN32 32 1 ?_
    exact sxq_doneP (none, (0, ([] : List (Option Addr × Nat)))) (.inl rfl) (resL (rs := [.cell 2 24, .tmp 3]) rfl (.cell (i := 0) rfl tf24 rfl rfl (by simp) rfl (.tmp rfl ResOk.nil)) rfl) (fun h => by subst h; rfl) (fun h => by subst h; exact (.cons 0 rfl .nil))
  · refine sxc_skip ?_
    refine sxq_next ?_
    refine sxc_seq ?_
    refine sxb_draw mixed [] [⟨g4, 24, [.slice a2 x1.length c3.1]⟩] [SlN eN32 iN32 1 (.slice a2 x1.length c3.1) x1 c3.2] (.cons 1 rfl .nil) (gk_F 0 rfl gk_nil) 10 rfl ?_
    refine sxb_takeP 0 (.pointer (some ⟨g4, 0, none⟩)) rfl rfl rfl rfl (by kernel_rfl) (by kernel_rfl) (by kernel_rfl) (by kernel_rfl) (by kernel_rfl) rfl (show _ = #[true, false, false, false, false, false, false, false, false, false] from rfl) (yv_fieldAddr rfl ff24_0) ?_
    refine sxb_take 1 (.slice a2 x1.length c3.1) [] rfl rfl rfl rfl (by kernel_rfl) (by kernel_rfl) (by kernel_rfl) (by kernel_rfl) (by kernel_rfl) (by kernel_rfl) rfl (show _ = #[true, true, false, false, false, false, false, false, false, false] from rfl) (yv_loadB (i := 0) rfl tf22 rfl rfl (fun _ => rfl) rfl) ?_
    refine sxb_takeP 2 (.int .i64 (x1.length : Int)) rfl rfl rfl rfl (by kernel_rfl) (by kernel_rfl) (by kernel_rfl) (by kernel_rfl) (by kernel_rfl) rfl (show _ = #[true, true, true, false, false, false, false, false, false, false] from rfl) (yv_len Try.underlying22 rfl) ?_
    refine sxb_take 3 (.agg #[.slice a2 x1.length c3.1]) [] rfl rfl rfl rfl (by kernel_rfl) (by kernel_rfl) (by kernel_rfl) (by kernel_rfl) (by kernel_rfl) (by kernel_rfl) rfl (show _ = #[true, true, true, true, false, false, false, false, false, false] from rfl) (yv_loadB (i := 0) rfl tf24 rfl rfl (by simp) rfl) ?_
    refine sxb_step 4 rfl (by kernel_rfl) (show _ = #[true, true, true, true, true, false, false, false, false, false] from rfl) ?_
    refine sxo_callM ent47 rfl rfl rfl (fun x20 e20 => C_graph_turned F x1 a2 c3 x20 e20) .nil .nil (.consF 0 rfl .nil) (fun x20 e20 => ?_)
    rintro ⟨a21, c22⟩
    refine sxo_nil ?_
    refine sxq_anyB (.cons 1 rfl .nil) (gk_F 0 rfl gk_nil) ?_
    refine sxb_step 5 rfl (by kernel_rfl) (show _ = #[true, true, true, true, true, true, false, false, false, false] from rfl) ?_
    refine sxo_callM ent45 rfl rfl rfl (fun x23 e23 => C_slices_Values_api_Arc_api_Arc F x20 a21 c22 x23 e23) .nil .nil (.consR 0 (Ro eS44 44 2 (.slice a21 x20.length c22) x20) rfl .nil) (fun x23 e23 => ?_)
    rintro g24
    refine sxo_nil ?_
    refine sxq_anyB (.cons 2 rfl .nil) (gk_F 0 rfl gk_nil) ?_
    refine sxb_step 6 rfl (by kernel_rfl) (show _ = #[true, true, true, true, true, true, true, false, false, false] from rfl) ?_
    refine sxo_callM ent44 rfl rfl rfl (fun x25 e25 => C_slices_SortedFunc_api_Arc_slices_Values_api_Arc_api_Arc_1_graph_order F g24 x20 a21 c22 x25 e25) (.cons 0 rfl .nil) .nil (.consR 0 (Ro eS44 44 2 (.slice a21 x20.length c22) x20) rfl .nil) (fun x25 e25 => ?_)
    rintro ⟨a26, c27⟩
    refine sxo_nil ?_
    refine sxq_anyB (.cons 2 rfl .nil) (gk_F 0 rfl gk_nil) ?_
    refine sxb_step 7 rfl (by kernel_rfl) (show _ = #[true, true, true, true, true, true, true, true, false, false] from rfl) ?_
    refine sxo_call ent43 rfl rfl rfl (fun x28 e28 => C_graph_Built F (x1.length : Int) x25 a26 c27 x28 e28) (.consR 0 (Ro eS44 44 2 (.slice a26 x25.length c27) x25) rfl .nil) (fun x28 e28 => ?_)
    rintro ⟨a29, c30⟩
    refine sxo_nil ?_
    refine sxq_anyB (.cons 2 rfl .nil) (gk_F 0 rfl gk_nil) ?_
    refine sxb_step 8 rfl (by kernel_rfl) (show _ = #[true, true, true, true, true, true, true, true, true, false] from rfl) ?_
    refine sxo_storeB (i := 1) rfl rfl rfl tf24 rfl rfl rfl rfl rfl ?_
    refine sxo_nil ?_
    refine sxq_anyB (.cons 2 rfl .nil) (gk_F 0 rfl gk_nil) ?_
    refine sxb_takeP 9 (.int .i64 0) rfl rfl rfl rfl (by kernel_rfl) (by kernel_rfl) (by kernel_rfl) (by kernel_rfl) (by kernel_rfl) rfl (show _ = #[true, true, true, true, true, true, true, true, true, true] from rfl) (yv_pv rfl) ?_
    refine sxb_done (by kernel_rfl) ?_
    refine sxq_np ?_ (by intro c h; cases h)
    refine sxq_next ?_
    refine sxc_ret ?_
    exact sxq_doneP (a29, c30) (.inl rfl) (resL (rs := [.cell 2 24, .tmp 3]) rfl (.cell (i := 1) rfl tf24 rfl rfl (by simp) rfl (.tmp rfl ResOk.nil)) rfl) (fun h => by subst h; rfl) (fun h => by subst h; exact (.cons 0 rfl .nil))

set_option maxHeartbeats 4000000 in
theorem C_slices_Compact_api_Arc_api_Arc (F : Nat) (x1 : List (Int × Int)) (a2 : Option Addr) (c3 : Nat) (r : List (Int × Int)) (hm : M_slices_Compact_api_Arc_api_Arc F x1 = some r) :
    PureM Try.prog 49 [.slice a2 x1.length c3] [] [Ro eS44 44 2 (.slice a2 x1.length c3) x1] [] (Option Addr × Nat) (fun g => .slice g.1 r.length g.2) (fun _ => []) (fun g => [Ro eS44 44 2 (.slice g.1 r.length g.2) r]) := by
  refine pureM_of Try.func49 rfl Try.ntmps49 rfl hm (fun w => ?_)
  refine sxc_env (l' := [(0, .slice a2 x1.length c3)]) rfl ?_
  refine sxc_seq ?_
  refine sxc_region ?_
  refine sxo_assign rfl rfl rfl ?_
  refine sxo_nil ?_
  refine sxq_next ?_
  refine sxc_seq ?_
  refine sxc_seq ?_
  refine sxc_region ?_
  refine sxo_move rfl rfl rfl ?_
  refine sxo_len rfl Try.underlying25 rfl rfl ?_
  refine sxo_lss rfl rfl rfl rfl ?_
  refine sxo_nil ?_
  refine sxq_next ?_
  refine sxc_if rfl (fun h2961 => ?_) (fun h2961 => ?_)
  · refine sxc_seq ?_
    refine sxc_region ?_
    refine sxo_move rfl rfl rfl ?_
    refine sxo_assign rfl rfl rfl ?_
    refine sxo_nil ?_
    refine sxq_next ?_
    refine sxc_ret ?_
    refine sxq_thenR ?_
    exact sxq_doneM (a2, c3) (.inl rfl) (res1 rfl rfl) (fun h => by subst h; rfl) (fun h => by subst h; exact .nil) (fun h => by subst h; exact (.cons 0 rfl .nil))
  · refine sxc_skip ?_
    refine sxq_next ?_
    refine sxc_join (fun ((_, _) : (Unit × Unit)) => [(0, .slice a2 x1.length c3)]) (fun ((_, _) : (Unit × Unit)) => []) (fun ((_, _) : (Unit × Unit)) => [Ro eS44 44 2 (.slice a2 x1.length c3) x1]) (fun ((_, _) : (Unit × Unit)) => []) (fun ((_, _) : (Unit × Unit)) => M_slices_Compact_api_Arc_api_Arc_j59 F x1) ?_ ?_
    · refine sxc_seq ?_
      refine sxc_region ?_
      refine sxo_assign rfl rfl rfl ?_
      refine sxo_nil ?_
      refine sxq_next ?_
      refine sxc_block ?_
      refine sxc_loopP (fun ((x1975, _) : (Int × Unit)) => [(0, .slice a2 x1.length c3), (3, .int .i64 x1975)]) (fun ((x1975, _) : (Int × Unit)) => []) (fun ((x1975, _) : (Int × Unit)) => [Ro eS44 44 2 (.slice a2 x1.length c3) x1]) (fun ((x1975, _) : (Int × Unit)) => []) (fun k (s : (Int × Unit)) => M_slices_Compact_api_Arc_api_Arc_l98 F x1 k s.1) (1, ()) F (lk_cons rfl (lk_cons rfl lk_nil)) .nil (.cons 0 rfl .nil) fk_nil (fun _ => rfl) ?_
      intro k2468
      rintro ⟨x1975, _⟩
      try dsimp only
      refine sxc_meq (m' := M_slices_Compact_api_Arc_api_Arc_b98 F x1 (M_slices_Compact_api_Arc_api_Arc_l98 F x1 k2468) x1975) rfl ?_
      refine sxc_seq ?_
      refine sxc_seq ?_
      refine sxc_region ?_
      refine sxo_move rfl rfl rfl ?_
      refine sxo_move rfl rfl rfl ?_
      refine sxo_len rfl Try.underlying25 rfl rfl ?_
      refine sxo_lss rfl rfl rfl rfl ?_
      refine sxo_nil ?_
      refine sxq_next ?_
      refine sxc_if rfl (fun h2960 => ?_) (fun h2960 => ?_)
      · refine sxc_skip ?_
        refine sxq_next ?_
        refine sxc_join (fun ((_, _) : (Unit × Unit)) => [(0, .slice a2 x1.length c3), (3, .int .i64 x1975)]) (fun ((_, _) : (Unit × Unit)) => []) (fun ((_, _) : (Unit × Unit)) => [Ro eS44 44 2 (.slice a2 x1.length c3) x1]) (fun ((_, _) : (Unit × Unit)) => []) (fun ((_, _) : (Unit × Unit)) => M_slices_Compact_api_Arc_api_Arc_j108 F (M_slices_Compact_api_Arc_api_Arc_l98 F x1 k2468) x1975) ?_ ?_
        · refine sxc_block ?_
          refine sxc_seq ?_
          refine sxc_idxO (j := 0) rfl (fun x2723 e2723 g2724 h2725 => ?_)
          replace h2725 : a2 = some ⟨g2724, 0, none⟩ := h2725
          have h2726 := own_of (k := x1.length) (c := c3) h2725
          refine sxc_idxO (j := 0) rfl (fun x2727 e2727 g2728 h2729 => ?_)
          replace h2729 : a2 = some ⟨g2728, 0, none⟩ := h2729
          have h2730 := own_of (k := x1.length) (c := c3) h2729
          refine sxb_draw mixed [] [] [CellsAt g2724 (x1975.toNat * 2) (eS44 x2723), CellsAt g2728 ((isub .i64 x1975 1).toNat * 2) (eS44 x2727)] .nil (gk_R 0 rfl (at_row eS44_ok e2723 h2725) (gk_R 0 rfl (at_row eS44_ok e2727 h2729) gk_nil)) 10 rfl ?_
          refine sxb_takeP 0 (.slice a2 x1.length c3) rfl rfl rfl rfl (by kernel_rfl) (by kernel_rfl) (by kernel_rfl) (by kernel_rfl) (by kernel_rfl) rfl (show _ = #[true, false, false, false, false, false, false, false, false, false] from rfl) (yv_pv rfl) ?_
          refine sxb_takeP 1 (.int .i64 x1975) rfl rfl rfl rfl (by kernel_rfl) (by kernel_rfl) (by kernel_rfl) (by kernel_rfl) (by kernel_rfl) rfl (show _ = #[true, true, false, false, false, false, false, false, false, false] from rfl) (yv_pv rfl) ?_
          refine sxb_again (d := 16) (v := .slice (some ⟨g2724, 0, none⟩) x1.length c3) rfl (by rw [h2725]) ?_
          refine sxb_takeP 2 (.pointer (some ⟨g2724, x1975.toNat * 2, none⟩)) rfl rfl rfl rfl (by kernel_rfl) (by kernel_rfl) (by kernel_rfl) (by kernel_rfl) (by kernel_rfl) rfl (show _ = #[true, true, true, false, false, false, false, false, false, false] from rfl) (yv_idxO Try.underlying25 tf44 rfl rfl (idx_get e2723).1 (idx_lt e2723)) ?_
          refine sxb_again (d := 16) (v := .slice a2 x1.length c3) rfl (by rw [h2725]) ?_
          refine sxb_take 3 (.agg #[.int .i64 x2723.1, .int .i64 x2723.2]) [] rfl rfl rfl rfl (by kernel_rfl) (by kernel_rfl) (by kernel_rfl) (by kernel_rfl) (by kernel_rfl) (by kernel_rfl) rfl (show _ = #[true, true, true, true, false, false, false, false, false, false] from rfl) (yv_loadF (j := 0) rfl tf44 rfl rfl (by simp) rfl) ?_
          refine sxb_takeP 4 (.slice a2 x1.length c3) rfl rfl rfl rfl (by kernel_rfl) (by kernel_rfl) (by kernel_rfl) (by kernel_rfl) (by kernel_rfl) rfl (show _ = #[true, true, true, true, true, false, false, false, false, false] from rfl) (yv_pv rfl) ?_
          refine sxb_takeP 5 (.int .i64 x1975) rfl rfl rfl rfl (by kernel_rfl) (by kernel_rfl) (by kernel_rfl) (by kernel_rfl) (by kernel_rfl) rfl (show _ = #[true, true, true, true, true, true, false, false, false, false] from rfl) (yv_pv rfl) ?_
          refine sxb_takeP 6 (.int .i64 (isub .i64 x1975 1)) rfl rfl rfl rfl (by kernel_rfl) (by kernel_rfl) (by kernel_rfl) (by kernel_rfl) (by kernel_rfl) rfl (show _ = #[true, true, true, true, true, true, true, false, false, false] from rfl) (yv_pv rfl) ?_
          refine sxb_again (d := 20) (v := .slice (some ⟨g2728, 0, none⟩) x1.length c3) rfl (by rw [h2729]) ?_
          refine sxb_takeP 7 (.pointer (some ⟨g2728, (isub .i64 x1975 1).toNat * 2, none⟩)) rfl rfl rfl rfl (by kernel_rfl) (by kernel_rfl) (by kernel_rfl) (by kernel_rfl) (by kernel_rfl) rfl (show _ = #[true, true, true, true, true, true, true, true, false, false] from rfl) (yv_idxO Try.underlying25 tf44 rfl rfl (idx_get e2727).1 (idx_lt e2727)) ?_
          refine sxb_again (d := 20) (v := .slice a2 x1.length c3) rfl (by rw [h2729]) ?_
          refine sxb_take 8 (.agg #[.int .i64 x2727.1, .int .i64 x2727.2]) [] rfl rfl rfl rfl (by kernel_rfl) (by kernel_rfl) (by kernel_rfl) (by kernel_rfl) (by kernel_rfl) (by kernel_rfl) rfl (show _ = #[true, true, true, true, true, true, true, true, true, false] from rfl) (yv_loadF (j := 1) rfl tf44 rfl rfl (by simp) rfl) ?_
          refine sxb_takeP 9 (.bool (((x2723.1 : Int) == x2727.1) && ((x2723.2 : Int) == x2727.2))) rfl rfl rfl rfl (by kernel_rfl) (by kernel_rfl) (by kernel_rfl) (by kernel_rfl) (by kernel_rfl) rfl (show _ = #[true, true, true, true, true, true, true, true, true, true] from rfl) (yv_eql2 rfl rfl se44) ?_
          refine sxb_done (by kernel_rfl) ?_
          refine sxq_np ?_ (by intro c h; cases h)
          refine sxq_next ?_
          refine sxc_if rfl (fun h2959 => ?_) (fun h2959 => ?_)
          · refine sxc_seq ?_
            refine sxc_region ?_
            refine sxo_move rfl rfl rfl ?_
            refine sxo_move rfl rfl rfl ?_
            refine sxo_cutW (j := 0) rfl Try.underlying25 tf44 rfl rfl rfl rfl (fun h2731 g2732 h2733 => ?_)
            refine sxo_assign rfl rfl rfl ?_
            refine sxo_nil ?_
            refine sxq_next ?_
            refine sxc_join (fun (((x2842, x2843), _) : ((List (Int × Int) × Int) × Unit)) => [(0, .slice a2 x2842.length c3), (3, .int .i64 x2843)]) (fun (((x2842, x2843), _) : ((List (Int × Int) × Int) × Unit)) => []) (fun (((x2842, x2843), _) : ((List (Int × Int) × Int) × Unit)) => [Ro eS44 44 2 (.slice a2 x2842.length c3) x2842]) (fun (((x2842, x2843), _) : ((List (Int × Int) × Int) × Unit)) => []) (fun (((x2842, x2843), _) : ((List (Int × Int) × Int) × Unit)) => M_slices_Compact_api_Arc_api_Arc_j113 F x2842 x2843) ?_ ?_
            · refine sxc_seq ?_
              refine sxc_region ?_
              refine sxo_assign rfl rfl rfl ?_
              refine sxo_nil ?_
              refine sxq_next ?_
              refine sxc_block ?_
              refine sxc_loopP (fun (((x2879, x2880, x2881), _) : ((List (Int × Int) × Int × Int) × Unit)) => [(0, .slice a2 x2879.length c3), (3, .int .i64 x2880), (4, .slice (some ⟨g2732, x1975.toNat * 2, none⟩) (x1.length - x1975.toNat) (c3 - x1975.toNat)), (5, .int .i64 x2881)]) (fun (((x2879, x2880, x2881), _) : ((List (Int × Int) × Int × Int) × Unit)) => []) (fun (((x2879, x2880, x2881), _) : ((List (Int × Int) × Int × Int) × Unit)) => [Ro eS44 44 2 (.slice a2 x2879.length c3) x2879]) (fun (((x2879, x2880, x2881), _) : ((List (Int × Int) × Int × Int) × Unit)) => []) (fun k (s : ((List (Int × Int) × Int × Int) × Unit)) => M_slices_Compact_api_Arc_api_Arc_l116 F x1 x1975 k s.1) ((x1, x1975, 1), ()) F (lk_cons rfl (lk_cons rfl (lk_cons rfl (lk_cons rfl lk_nil)))) .nil (.cons 0 rfl .nil) fk_nil (fun _ => rfl) ?_
              intro k2920
              rintro ⟨⟨x2879, x2880, x2881⟩, _⟩
              try dsimp only
              refine sxc_meq (m' := M_slices_Compact_api_Arc_api_Arc_b116 F x1 x1975 (M_slices_Compact_api_Arc_api_Arc_l116 F x1 x1975 k2920) x2879 x2880 x2881) rfl ?_
              refine sxc_seq ?_
              refine sxc_seq ?_
              refine sxc_region ?_
              refine sxo_move rfl rfl rfl ?_
              refine sxo_move rfl rfl rfl ?_
              refine sxo_len rfl Try.underlying25 rfl rfl ?_
              refine sxo_lss rfl rfl rfl rfl ?_
              refine sxo_nil ?_
              refine sxq_next ?_
              refine sxc_if rfl (fun h2958 => ?_) (fun h2958 => ?_)
              · refine sxc_skip ?_
                refine sxq_next ?_
                refine sxc_join (fun (((x2939, x2940), _) : ((List (Int × Int) × Int) × Unit)) => [(0, .slice a2 x2939.length c3), (3, .int .i64 x2940), (4, .slice (some ⟨g2732, x1975.toNat * 2, none⟩) (x1.length - x1975.toNat) (c3 - x1975.toNat)), (5, .int .i64 x2881)]) (fun (((x2939, x2940), _) : ((List (Int × Int) × Int) × Unit)) => []) (fun (((x2939, x2940), _) : ((List (Int × Int) × Int) × Unit)) => [Ro eS44 44 2 (.slice a2 x2939.length c3) x2939]) (fun (((x2939, x2940), _) : ((List (Int × Int) × Int) × Unit)) => []) (fun (((x2939, x2940), _) : ((List (Int × Int) × Int) × Unit)) => M_slices_Compact_api_Arc_api_Arc_j117 F (M_slices_Compact_api_Arc_api_Arc_l116 F x1 x1975 k2920) x2881 x2939 x2940) ?_ ?_
                · refine sxc_block ?_
                  refine sxc_seq ?_
                  refine sxc_chk (fun h2945 => ?_)
                  replace h2945 := of_decide_eq_true h2945
                  refine sxc_bind (fun x2946 e2946 => ?_)
                  refine sxc_chk (fun h2947 => ?_)
                  replace h2947 := of_decide_eq_true h2947
                  refine sxc_bind (fun x2948 e2948 => ?_)
                  refine sxb_draw mixed [] [] [CellsAt g2732 (x1975.toNat * 2 + x2881.toNat * 2) (eS44 x2946), CellsAt g2732 (x1975.toNat * 2 + (isub .i64 x2881 1).toNat * 2) (eS44 x2948)] .nil (gk_R 0 rfl (at_rowW eS44_ok e2946 h2733) (gk_R 0 rfl (at_rowW eS44_ok e2948 h2733) gk_nil)) 10 rfl ?_
                  refine sxb_takeP 0 (.slice (some ⟨g2732, x1975.toNat * 2, none⟩) (x1.length - x1975.toNat) (c3 - x1975.toNat)) rfl rfl rfl rfl (by kernel_rfl) (by kernel_rfl) (by kernel_rfl) (by kernel_rfl) (by kernel_rfl) rfl (show _ = #[true, false, false, false, false, false, false, false, false, false] from rfl) (yv_pv rfl) ?_
                  refine sxb_takeP 1 (.int .i64 x2881) rfl rfl rfl rfl (by kernel_rfl) (by kernel_rfl) (by kernel_rfl) (by kernel_rfl) (by kernel_rfl) rfl (show _ = #[true, true, false, false, false, false, false, false, false, false] from rfl) (yv_pv rfl) ?_
                  refine sxb_takeP 2 (.pointer (some ⟨g2732, x1975.toNat * 2 + x2881.toNat * 2, none⟩)) rfl rfl rfl rfl (by kernel_rfl) (by kernel_rfl) (by kernel_rfl) (by kernel_rfl) (by kernel_rfl) rfl (show _ = #[true, true, true, false, false, false, false, false, false, false] from rfl) (yv_idx Try.underlying25 tf44 rfl rfl (win_lt h2945 e2946).1 (win_lt h2945 e2946).2) ?_
                  refine sxb_take 3 (.agg #[.int .i64 x2946.1, .int .i64 x2946.2]) [] rfl rfl rfl rfl (by kernel_rfl) (by kernel_rfl) (by kernel_rfl) (by kernel_rfl) (by kernel_rfl) (by kernel_rfl) rfl (show _ = #[true, true, true, true, false, false, false, false, false, false] from rfl) (yv_loadF (j := 0) rfl tf44 rfl rfl (by simp) rfl) ?_
                  refine sxb_takeP 4 (.slice (some ⟨g2732, x1975.toNat * 2, none⟩) (x1.length - x1975.toNat) (c3 - x1975.toNat)) rfl rfl rfl rfl (by kernel_rfl) (by kernel_rfl) (by kernel_rfl) (by kernel_rfl) (by kernel_rfl) rfl (show _ = #[true, true, true, true, true, false, false, false, false, false] from rfl) (yv_pv rfl) ?_
                  refine sxb_takeP 5 (.int .i64 x2881) rfl rfl rfl rfl (by kernel_rfl) (by kernel_rfl) (by kernel_rfl) (by kernel_rfl) (by kernel_rfl) rfl (show _ = #[true, true, true, true, true, true, false, false, false, false] from rfl) (yv_pv rfl) ?_
                  refine sxb_takeP 6 (.int .i64 (isub .i64 x2881 1)) rfl rfl rfl rfl (by kernel_rfl) (by kernel_rfl) (by kernel_rfl) (by kernel_rfl) (by kernel_rfl) rfl (show _ = #[true, true, true, true, true, true, true, false, false, false] from rfl) (yv_pv rfl) ?_
                  refine sxb_takeP 7 (.pointer (some ⟨g2732, x1975.toNat * 2 + (isub .i64 x2881 1).toNat * 2, none⟩)) rfl rfl rfl rfl (by kernel_rfl) (by kernel_rfl) (by kernel_rfl) (by kernel_rfl) (by kernel_rfl) rfl (show _ = #[true, true, true, true, true, true, true, true, false, false] from rfl) (yv_idx Try.underlying25 tf44 rfl rfl (win_lt h2947 e2948).1 (win_lt h2947 e2948).2) ?_
                  refine sxb_take 8 (.agg #[.int .i64 x2948.1, .int .i64 x2948.2]) [] rfl rfl rfl rfl (by kernel_rfl) (by kernel_rfl) (by kernel_rfl) (by kernel_rfl) (by kernel_rfl) (by kernel_rfl) rfl (show _ = #[true, true, true, true, true, true, true, true, true, false] from rfl) (yv_loadF (j := 1) rfl tf44 rfl rfl (by simp) rfl) ?_
                  refine sxb_takeP 9 (.bool (!(((x2946.1 : Int) == x2948.1) && ((x2946.2 : Int) == x2948.2)))) rfl rfl rfl rfl (by kernel_rfl) (by kernel_rfl) (by kernel_rfl) (by kernel_rfl) (by kernel_rfl) rfl (show _ = #[true, true, true, true, true, true, true, true, true, true] from rfl) (yv_neq2 rfl rfl se44) ?_
                  refine sxb_done (by kernel_rfl) ?_
                  refine sxq_np ?_ (by intro c h; cases h)
                  refine sxq_next ?_
                  refine sxc_if rfl (fun h2957 => ?_) (fun h2957 => ?_)
                  · refine sxc_seq ?_
                    refine sxc_region ?_
                    refine sxo_move rfl rfl rfl ?_
                    refine sxo_move rfl rfl rfl ?_
                    refine sxo_move rfl rfl rfl ?_
                    refine sxo_move rfl rfl rfl ?_
                    refine sxo_chk (fun h2949 => ?_)
                    replace h2949 := of_decide_eq_true h2949
                    refine sxo_indexW (xs := x2879) h2949 rfl Try.underlying25 tf44 rfl rfl rfl (fun x2950 e2950 => ?_)
                    refine sxo_loadW (j := 0) eS44_ok rfl rfl tf44 rfl h2733 e2950 (by simp) rfl rfl ?_
                    refine sxo_indexR (j := 0) rfl Try.underlying25 tf44 rfl rfl rfl rfl (fun x2951 e2951 g2952 h2953 => ?_)
                    refine sxo_storeL (j := 0) (y' := (x2950.1, x2950.2)) eS44_ok rfl rfl rfl tf44 rfl h2953 (idx_get e2951).2.1 rfl (fun x2954 e2954 h2955 => ?_)
                    have h2956 : x2954.length = x2879.length := by rw [← e2954, List.length_set]
                    refine sxo_again (d := 0) (v := .slice a2 x2954.length c3) rfl h2955 ?_
                    refine sxo_again (d := 45) (v := .slice a2 x2954.length c3) rfl h2955 ?_
                    refine sxo_nil ?_
                    refine sxq_next ?_
                    refine sxc_region ?_
                    refine sxo_move rfl rfl rfl ?_
                    refine sxo_add rfl rfl rfl rfl ?_
                    refine sxo_assign rfl rfl rfl ?_
                    refine sxo_nil ?_
                    refine sxq_blkN ?_
                    exact sxq_meetP ((x2954, iadd .i64 x2880 1), ()) (lk_cons rfl (lk_cons rfl (lk_cons rfl (lk_cons rfl lk_nil)))) .nil (.cons 0 rfl .nil) fk_nil
                  · refine sxc_skip ?_
                    refine sxq_blkN ?_
                    exact sxq_meetP ((x2879, x2880), ()) (lk_cons rfl (lk_cons rfl (lk_cons rfl (lk_cons rfl lk_nil)))) .nil (.cons 0 rfl .nil) fk_nil
                · rintro ⟨⟨x2939, x2940⟩, _⟩
                  try dsimp only
                  refine sxc_region ?_
                  refine sxo_move rfl rfl rfl ?_
                  refine sxo_add rfl rfl rfl rfl ?_
                  refine sxo_assign rfl rfl rfl ?_
                  refine sxo_nil ?_
                  exact sxq_againP ((x2939, x2940, iadd .i64 x2881 1), ()) (lk_cons rfl (lk_cons rfl (lk_cons rfl (lk_cons rfl lk_nil)))) .nil (.cons 0 rfl .nil) fk_nil
              · refine sxc_exit ?_
                refine sxq_thenX ?_
                refine sxq_thenX ?_
                refine sxq_blkX ?_
                exact sxq_meetP ((x2879, x2880), ()) (lk_cons rfl (lk_cons rfl lk_nil)) .nil (.cons 0 rfl .nil) fk_nil
            · rintro ⟨⟨x2842, x2843⟩, _⟩
              try dsimp only
              refine sxc_seq ?_
              refine sxc_region ?_
              refine sxo_move rfl rfl rfl ?_
              refine sxo_move rfl rfl rfl ?_
              refine sxo_cutW (j := 0) rfl Try.underlying25 tf44 rfl rfl rfl rfl (fun h2844 g2845 h2846 => ?_)
              refine sxo_clearW (j := 0) (zy := ((0 : Int), (0 : Int))) eS44_ok (by decide) rfl (by have := h2844; omega) rfl Try.underlying25 tf44 rfl rfl rfl h2846 (fun x2847 e2847 h2848 => ?_)
              have h2849 : x2847.length = x2842.length := by have := congrArg List.length e2847; simp only [List.length_append, List.length_take, List.length_replicate] at this; have := h2844; omega
              refine sxo_again (d := 0) (v := .slice a2 x2847.length c3) rfl (by rw [h2848]) ?_
              refine sxo_again (d := 54) (v := .slice a2 x2847.length c3) rfl (by rw [h2848]) ?_
              refine sxo_nil ?_
              refine sxq_next ?_
              refine sxc_seq ?_
              refine sxc_region ?_
              refine sxo_move rfl rfl rfl ?_
              refine sxo_move rfl rfl rfl ?_
              refine sxo_cutR (i := 0) eS44_ok rfl Try.underlying25 tf44 rfl rfl rfl rfl (fun x2850 e2850 => ?_)
              refine sxo_assign rfl rfl rfl ?_
              refine sxo_nil ?_
              refine sxq_next ?_
              refine sxc_ret ?_
              refine sxq_blkR ?_
              refine sxq_thenR ?_
              refine sxq_thenR ?_
              refine sxq_blkR ?_
              refine sxq_thenR ?_
              exact sxq_doneM (a2, c3) (.inl rfl) (res1 rfl rfl) (fun h => by subst h; rfl) (fun h => by subst h; exact .nil) (fun h => by subst h; exact (.cons 0 rfl .nil))
          · refine sxc_skip ?_
            refine sxq_blkN ?_
            exact sxq_meetP ((), ()) (lk_cons rfl (lk_cons rfl lk_nil)) .nil (.cons 0 rfl .nil) fk_nil
        · rintro ⟨_, _⟩
          try dsimp only
          refine sxc_region ?_
          refine sxo_move rfl rfl rfl ?_
          refine sxo_add rfl rfl rfl rfl ?_
          refine sxo_assign rfl rfl rfl ?_
          refine sxo_nil ?_
          exact sxq_againP (iadd .i64 x1975 1, ()) (lk_cons rfl (lk_cons rfl lk_nil)) .nil (.cons 0 rfl .nil) fk_nil
      · refine sxc_exit ?_
        refine sxq_thenX ?_
        refine sxq_thenX ?_
        refine sxq_blkX ?_
        exact sxq_meetP ((), ()) (lk_cons rfl lk_nil) .nil (.cons 0 rfl .nil) fk_nil
    · rintro ⟨_, _⟩
      try dsimp only
      refine sxc_seq ?_
      refine sxc_region ?_
      refine sxo_move rfl rfl rfl ?_
      refine sxo_assign rfl rfl rfl ?_
      refine sxo_nil ?_
      refine sxq_next ?_
      refine sxc_ret ?_
      exact sxq_doneM (a2, c3) (.inl rfl) (res1 rfl rfl) (fun h => by subst h; rfl) (fun h => by subst h; exact .nil) (fun h => by subst h; exact (.cons 0 rfl .nil))

theorem C_graph_Both (F : Nat) (x1 : List (List Int)) (a2 : Option Addr) (c3 : (Nat × List (Option Addr × Nat))) (r : (List (List Int) × Int)) (hm : M_graph_Both F x1 = some r) :
    Pure Try.prog 18 [.agg #[.slice a2 x1.length c3.1]] [SlN eN32 iN32 1 (.slice a2 x1.length c3.1) x1 c3.2] (Option Addr × (Nat × List (Option Addr × Nat))) (fun g => .tuple #[.agg #[.slice g.1 r.1.length g.2.1], .int .i64 r.2]) (fun g => [RoN eN32 rN32 32 1 (.slice g.1 r.1.length g.2.1) r.1 g.2.2 []]) (fun _ => []) := by
  refine pure_of Try.func18 rfl Try.ntmps18 rfl hm (fun w => ?_)
  refine sxc_env (l' := [(0, .agg #[.slice a2 x1.length c3.1])]) rfl ?_
  refine sxc_seq ?_
  refine sxc_region ?_
  refine sxo_box rfl rfl rfl (fun g4 => ?_)
  refine sxo_alloc rfl tf24 rfl (fun g5 => ?_)
  refine sxo_assign rfl rfl rfl ?_
  refine sxo_nil ?_
  refine sxq_next ?_
  refine sxc_seq ?_
  refine sxc_seq ?_
  refine sxc_region ?_
  refine sxo_loadB (i := 1) rfl rfl tf24 rfl rfl (by simp) rfl rfl ?_
  refine sxo_call ent26 rfl rfl rfl (fun x8 e8 => C_graph_Check F x1 a2 c3 x8 e8) (.consF 0 rfl .nil) (fun x8 e8 => ?_)
  intro _
  refine sxo_assign rfl rfl rfl ?_
  refine sxo_nil ?_
  refine sxq_next ?_
  refine sxc_seq ?_
  refine sxc_region ?_
  refine sxo_move rfl rfl rfl ?_
  refine sxo_neq rfl rfl rfl rfl ?_
  refine sxo_nil ?_
  refine sxq_next ?_
  refine sxc_if rfl (fun h41 => ?_) (fun h41 => ?_)
  · refine sxc_seq ?_
    refine sxc_region ?_
    refine sxo_build (cells := [.slice none 0 0]) rfl st24 rfl (by kernel_rfl) rfl ?_
    refine sxo_move rfl rfl rfl ?_
    refine sxo_storeB (i := 0) rfl rfl rfl tf24 rfl rfl rfl rfl rfl ?_
    refine sxo_assign rfl rfl rfl ?_
    refine sxo_nil ?_
    refine sxq_next ?_
    refine sxc_ret ?_
    refine sxq_thenR ?_
    refine sxq_nilN (List Int) (Option Addr × Nat) eN32 rN32 32 1 ?_
    exact sxq_doneP (none, (0, ([] : List (Option Addr × Nat)))) (.inl rfl) (resL (rs := [.cell 2 24, .tmp 3]) rfl (.cell (i := 0) rfl tf24 rfl rfl (by simp) rfl (.tmp rfl ResOk.nil)) rfl) (fun h => by subst h; rfl) (fun h => by subst h; exact (.cons 0 rfl .nil))
  · refine sxc_skip ?_
    refine sxq_next ?_
    refine sxc_seq ?_
    refine sxb_draw mixed [] [⟨g5, 24, [.slice none 0 0]⟩, ⟨g4, 24, [.slice a2 x1.length c3.1]⟩] [SlN eN32 iN32 1 (.slice a2 x1.length c3.1) x1 c3.2] (.cons 0 rfl (.cons 0 rfl .nil)) (gk_F 0 rfl gk_nil) 7 rfl ?_
    refine sxb_take 0 (.agg #[.slice a2 x1.length c3.1]) [] rfl rfl rfl rfl (by kernel_rfl) (by kernel_rfl) (by kernel_rfl) (by kernel_rfl) (by kernel_rfl) (by kernel_rfl) rfl (show _ = #[true, false, false, false, false, false, false] from rfl) (yv_loadB (i := 1) rfl tf24 rfl rfl (by simp) rfl) ?_
    refine sxb_take 3 (.agg #[.slice a2 x1.length c3.1]) [] rfl rfl rfl rfl (by kernel_rfl) (by kernel_rfl) (by kernel_rfl) (by kernel_rfl) (by kernel_rfl) (by kernel_rfl) rfl (show _ = #[true, false, false, true, false, false, false] from rfl) (yv_loadB (i := 1) rfl tf24 rfl rfl (by simp) rfl) ?_
    refine sxb_step 1 rfl (by kernel_rfl) (show _ = #[true, true, false, true, false, false, false] from rfl) ?_
    refine sxo_callM ent42 rfl rfl rfl (fun x20 e20 => C_graph_All F x1 a2 c3 x20 e20) .nil .nil (.consF 0 rfl .nil) (fun x20 e20 => ?_)
    rintro g21
    refine sxo_nil ?_
    refine sxq_anyB (.cons 1 rfl (.cons 1 rfl .nil)) (gk_F 0 rfl gk_nil) ?_
    refine sxb_step 2 rfl (by kernel_rfl) (show _ = #[true, true, true, true, false, false, false] from rfl) ?_
    refine sxo_callM ent41 rfl rfl rfl (fun x22 e22 => C_slices_Collect_api_Arc_graph_All_1 F g21 x1 a2 c3 x22 e22) (.cons 0 rfl .nil) .nil (.consF 0 rfl .nil) (fun x22 e22 => ?_)
    rintro ⟨a23, c24⟩
    refine sxo_nil ?_
    refine sxq_anyB (.cons 1 rfl (.cons 1 rfl .nil)) (gk_F 0 rfl gk_nil) ?_
    refine sxb_step 4 rfl (by kernel_rfl) (show _ = #[true, true, true, true, true, false, false] from rfl) ?_
    refine sxo_callM ent47 rfl rfl rfl (fun x25 e25 => C_graph_turned F x1 a2 c3 x25 e25) .nil .nil (.consF 0 rfl .nil) (fun x25 e25 => ?_)
    rintro ⟨a26, c27⟩
    refine sxo_nil ?_
    refine sxq_anyB (.cons 1 rfl (.cons 1 rfl .nil)) (gk_F 0 rfl gk_nil) ?_
    refine sxb_step 5 rfl (by kernel_rfl) (show _ = #[true, true, true, true, true, true, false] from rfl) ?_
    refine sxo_app 1 eS44_ok rfl Try.underlying25 tf44 rfl rfl rfl rfl rfl (.inl ⟨0, _, rfl⟩) rfl rfl (fun x28 e28 a29 c30 => ?_)
    refine sxo_nil ?_
    refine sxq_anyB (.cons 1 rfl (.cons 1 rfl .nil)) (gk_F 0 rfl gk_nil) ?_
    refine sxb_takeP 6 (.slice a29 x28.length c30) rfl rfl rfl rfl (by kernel_rfl) (by kernel_rfl) (by kernel_rfl) (by kernel_rfl) (by kernel_rfl) rfl (show _ = #[true, true, true, true, true, true, true] from rfl) (yv_pv rfl) ?_
    refine sxb_done (by kernel_rfl) ?_
    refine sxq_np ?_ (by intro c h; cases h)
    refine sxq_next ?_
    refine sxc_seq ?_
    refine sxc_region ?_
    refine sxo_move rfl rfl rfl ?_
    refine sxo_callM ent48 rfl rfl rfl (fun x31 e31 => C_slices_SortFunc_api_Arc_api_Arc_graph_order F x28 a29 c30 x31 e31) .nil (.cons 0 rfl .nil) .nil (fun x31 e31 => ?_)
    intro _
    refine sxo_chk (fun h32 => ?_)
    replace h32 := of_decide_eq_true h32
    refine sxo_again (d := 5) (v := .slice a29 x31.length c30) rfl (by rw [h32]) ?_
    refine sxo_again (d := 17) (v := .slice a29 x31.length c30) rfl (by rw [h32]) ?_
    refine sxo_again (d := 18) (v := .slice a29 x31.length c30) rfl (by rw [h32]) ?_
    refine sxo_nil ?_
    refine sxq_next ?_
    refine sxc_seq ?_
    refine sxc_region ?_
    refine sxo_move rfl rfl rfl ?_
    refine sxo_callM ent49 rfl rfl rfl (fun x33 e33 => C_slices_Compact_api_Arc_api_Arc F x31 a29 c30 x33 e33) .nil (.cons 0 rfl .nil) .nil (fun x33 e33 => ?_)
    rintro ⟨a34, c35⟩
    refine sxo_assign rfl rfl rfl ?_
    refine sxo_nil ?_
    refine sxq_next ?_
    refine sxc_seq ?_
    refine sxc_seq ?_
    refine sxc_region ?_
    refine sxo_move rfl rfl rfl ?_
    refine sxo_len rfl Try.underlying25 rfl rfl ?_
    refine sxo_gtr rfl rfl rfl rfl ?_
    refine sxo_nil ?_
    refine sxq_next ?_
    refine sxc_if rfl (fun h40 => ?_) (fun h40 => ?_)
    · refine sxc_seq ?_
      refine sxc_region ?_
      refine sxo_build (cells := [.slice none 0 0]) rfl st24 rfl (by kernel_rfl) rfl ?_
      refine sxo_storeB (i := 1) rfl rfl rfl tf24 rfl rfl rfl rfl rfl ?_
      refine sxo_assign rfl rfl rfl ?_
      refine sxo_nil ?_
      refine sxq_next ?_
      refine sxc_ret ?_
      refine sxq_thenR ?_
      refine sxq_nilN (List Int) (Option Addr × Nat) eN32 rN32 32 1 ?_
      exact sxq_doneP (none, (0, ([] : List (Option Addr × Nat)))) (.inl rfl) (resL (rs := [.cell 2 24, .tmp 3]) rfl (.cell (i := 1) rfl tf24 rfl rfl (by simp) rfl (.tmp rfl ResOk.nil)) rfl) (fun h => by subst h; rfl) (fun h => by subst h; exact (.cons 0 rfl .nil))
    · refine sxc_skip ?_
      refine sxq_next ?_
      refine sxc_seq ?_
      refine sxc_region ?_
      refine sxo_fieldAddr rfl rfl ff24_0 rfl ?_
      refine sxo_loadB (i := 2) rfl rfl tf22 rfl rfl (fun _ => rfl) rfl rfl ?_
      refine sxo_len rfl Try.underlying22 rfl rfl ?_
      refine sxo_move rfl rfl rfl ?_
      refine sxo_call ent43 rfl rfl rfl (fun x37 e37 => C_graph_Built F (x1.length : Int) x33 a34 c35 x37 e37) (.consR 0 (Ro eS44 44 2 (.slice a34 x33.length c35) x33) rfl .nil) (fun x37 e37 => ?_)
      rintro ⟨a38, c39⟩
      refine sxo_storeB (i := 1) rfl rfl rfl tf24 rfl rfl rfl rfl rfl ?_
      refine sxo_assign rfl rfl rfl ?_
      refine sxo_nil ?_
      refine sxq_next ?_
      refine sxc_ret ?_
      exact sxq_doneP (a38, c39) (.inl rfl) (resL (rs := [.cell 2 24, .tmp 3]) rfl (.cell (i := 1) rfl tf24 rfl rfl (by simp) rfl (.tmp rfl ResOk.nil)) rfl) (fun h => by subst h; rfl) (fun h => by subst h; exact (.cons 0 rfl .nil))

theorem C_graph_Degrees (F : Nat) (x1 : List (List Int)) (a2 : Option Addr) (c3 : (Nat × List (Option Addr × Nat))) (r : (List Int × List Int × Int)) (hm : M_graph_Degrees F x1 = some r) :
    PureM Try.prog 19 [.agg #[.slice a2 x1.length c3.1]] [] [] [SlN eN32 iN32 1 (.slice a2 x1.length c3.1) x1 c3.2] ((Option Addr × Nat) × (Option Addr × Nat)) (fun g => .tuple #[.slice g.1.1 r.1.length g.1.2, .slice g.2.1 r.2.1.length g.2.2, .int .i64 r.2.2]) (fun _ => []) (fun g => [Ro (eI .i64) 3 1 (.slice g.1.1 r.1.length g.1.2) r.1, Ro (eI .i64) 3 1 (.slice g.2.1 r.2.1.length g.2.2) r.2.1]) := by
  refine pureX_of Try.func19 rfl Try.ntmps19 rfl hm (fun w => ?_)
  refine sxc_env (l' := [(0, .agg #[.slice a2 x1.length c3.1])]) rfl ?_
  refine sxc_seq ?_
  refine sxc_region ?_
  refine sxo_box rfl rfl rfl (fun g4 => ?_)
  refine sxo_alloc rfl tf32 rfl (fun g5 => ?_)
  refine sxo_alloc rfl tf32 rfl (fun g6 => ?_)
  refine sxo_assign rfl rfl rfl ?_
  refine sxo_nil ?_
  refine sxq_next ?_
  refine sxc_seq ?_
  refine sxc_seq ?_
  refine sxc_region ?_
  refine sxo_loadB (i := 2) rfl rfl tf24 rfl rfl (by simp) rfl rfl ?_
  refine sxo_call ent26 rfl rfl rfl (fun x9 e9 => C_graph_Check F x1 a2 c3 x9 e9) (.consF 0 rfl .nil) (fun x9 e9 => ?_)
  intro _
  refine sxo_assign rfl rfl rfl ?_
  refine sxo_nil ?_
  refine sxq_next ?_
  refine sxc_seq ?_
  refine sxc_region ?_
  refine sxo_move rfl rfl rfl ?_
  refine sxo_neq rfl rfl rfl rfl ?_
  refine sxo_nil ?_
  refine sxq_next ?_
  refine sxc_if rfl (fun h180 => ?_) (fun h180 => ?_)
  · refine sxc_seq ?_
    refine sxc_region ?_
    refine sxo_move rfl rfl rfl ?_
    refine sxo_storeB (i := 1) rfl rfl rfl tf32 rfl rfl rfl rfl rfl ?_
    refine sxo_storeB (i := 0) rfl rfl rfl tf32 rfl rfl rfl rfl rfl ?_
    refine sxo_assign rfl rfl rfl ?_
    refine sxo_nil ?_
    refine sxq_next ?_
    refine sxc_ret ?_
    refine sxq_thenR ?_
    refine sxq_nilrow Int (eI .i64) 3 1 ?_
    refine sxq_nilrow Int (eI .i64) 3 1 ?_
    exact sxq_doneX [] ((none, 0), (none, 0)) (.inl rfl) rfl .nil (resL (rs := [.cell 2 32, .cell 3 32, .tmp 4]) rfl (.cell (i := 1) rfl tf32 rfl rfl (fun _ => rfl) rfl (.cell (i := 0) rfl tf32 rfl rfl (fun _ => rfl) rfl (.tmp rfl ResOk.nil))) rfl) (fun h => by subst h; rfl) (fun h => by subst h; exact .nil) (fun h => by subst h; exact (.cons 0 rfl (.cons 0 rfl .nil)))
  · refine sxc_skip ?_
    refine sxq_next ?_
    refine sxc_join (fun (((x27, x30), (a25, c26, a28, c29)) : ((List Int × List Int) × (Option Addr × Nat × Option Addr × Nat))) => [(1, .pointer (some ⟨g4, 0, none⟩)), (2, .pointer (some ⟨g5, 0, none⟩)), (3, .pointer (some ⟨g6, 0, none⟩)), (4, .int .i64 0)]) (fun (((x27, x30), (a25, c26, a28, c29)) : ((List Int × List Int) × (Option Addr × Nat × Option Addr × Nat))) => [⟨g6, 32, [.slice a25 x27.length c26]⟩, ⟨g5, 32, [.slice a28 x30.length c29]⟩, ⟨g4, 24, [.slice a2 x1.length c3.1]⟩]) (fun (((x27, x30), (a25, c26, a28, c29)) : ((List Int × List Int) × (Option Addr × Nat × Option Addr × Nat))) => [Ro (eI .i64) 3 1 (.slice a25 x27.length c26) x27, Ro (eI .i64) 3 1 (.slice a28 x30.length c29) x30]) (fun (((x27, x30), (a25, c26, a28, c29)) : ((List Int × List Int) × (Option Addr × Nat × Option Addr × Nat))) => [SlN eN32 iN32 1 (.slice a2 x1.length c3.1) x1 c3.2]) (fun (((x27, x30), _) : ((List Int × List Int) × (Option Addr × Nat × Option Addr × Nat))) => M_graph_Degrees_j1 F x1 x27 x30) ?_ ?_
    · refine sxb_draw mixed [] [⟨g4, 24, [.slice a2 x1.length c3.1]⟩] [SlN eN32 iN32 1 (.slice a2 x1.length c3.1) x1 c3.2] (.cons 2 rfl .nil) (gk_F 0 rfl gk_nil) 10 rfl ?_
      refine sxb_takeP 0 (.pointer (some ⟨g4, 0, none⟩)) rfl rfl rfl rfl (by kernel_rfl) (by kernel_rfl) (by kernel_rfl) (by kernel_rfl) (by kernel_rfl) rfl (show _ = #[true, false, false, false, false, false, false, false, false, false] from rfl) (yv_fieldAddr rfl ff24_0) ?_
      refine sxb_take 1 (.slice a2 x1.length c3.1) [] rfl rfl rfl rfl (by kernel_rfl) (by kernel_rfl) (by kernel_rfl) (by kernel_rfl) (by kernel_rfl) (by kernel_rfl) rfl (show _ = #[true, true, false, false, false, false, false, false, false, false] from rfl) (yv_loadB (i := 0) rfl tf22 rfl rfl (fun _ => rfl) rfl) ?_
      refine sxb_takeP 2 (.int .i64 (x1.length : Int)) rfl rfl rfl rfl (by kernel_rfl) (by kernel_rfl) (by kernel_rfl) (by kernel_rfl) (by kernel_rfl) rfl (show _ = #[true, true, true, false, false, false, false, false, false, false] from rfl) (yv_len Try.underlying22 rfl) ?_
      refine sxb_takeP 4 (.pointer (some ⟨g4, 0, none⟩)) rfl rfl rfl rfl (by kernel_rfl) (by kernel_rfl) (by kernel_rfl) (by kernel_rfl) (by kernel_rfl) rfl (show _ = #[true, true, true, false, true, false, false, false, false, false] from rfl) (yv_fieldAddr rfl ff24_0) ?_
      refine sxb_take 5 (.slice a2 x1.length c3.1) [] rfl rfl rfl rfl (by kernel_rfl) (by kernel_rfl) (by kernel_rfl) (by kernel_rfl) (by kernel_rfl) (by kernel_rfl) rfl (show _ = #[true, true, true, false, true, true, false, false, false, false] from rfl) (yv_loadB (i := 0) rfl tf22 rfl rfl (fun _ => rfl) rfl) ?_
      refine sxb_takeP 6 (.int .i64 (x1.length : Int)) rfl rfl rfl rfl (by kernel_rfl) (by kernel_rfl) (by kernel_rfl) (by kernel_rfl) (by kernel_rfl) rfl (show _ = #[true, true, true, false, true, true, true, false, false, false] from rfl) (yv_len Try.underlying22 rfl) ?_
      refine sxb_two 3 7 rfl rfl (by kernel_rfl) (show _ = #[true, true, true, true, true, true, true, false, false, false] from rfl) (show _ = #[true, true, true, false, true, true, true, true, false, false] from rfl) ?_ ?_
      · refine sxo_mk (eI_ok .i64) rfl Try.underlying32 tf3 rfl rfl rfl rfl rfl rfl rfl (fun x165 e165 a166 c167 => ?_)
        refine sxo_nil ?_
        refine sxq_anyB (.cons 2 rfl .nil) (gk_F 0 rfl gk_nil) ?_
        refine sxb_two 7 8 rfl rfl (by kernel_rfl) (show _ = #[true, true, true, true, true, true, true, true, false, false] from rfl) (show _ = #[true, true, true, true, true, true, true, false, true, false] from rfl) ?_ ?_
        · refine sxo_mk (eI_ok .i64) rfl Try.underlying32 tf3 rfl rfl rfl rfl rfl rfl rfl (fun x168 e168 a169 c170 => ?_)
          refine sxo_nil ?_
          refine sxq_anyB (.cons 2 rfl .nil) (gk_F 0 rfl gk_nil) ?_
          refine sxb_step 8 rfl (by kernel_rfl) (show _ = #[true, true, true, true, true, true, true, true, true, false] from rfl) ?_
          refine sxo_storeB (i := 1) rfl rfl rfl tf32 rfl rfl rfl rfl rfl ?_
          refine sxo_nil ?_
          refine sxq_anyB (.cons 2 rfl .nil) (gk_F 0 rfl gk_nil) ?_
          refine sxb_step 9 rfl (by kernel_rfl) (show _ = #[true, true, true, true, true, true, true, true, true, true] from rfl) ?_
          refine sxo_storeB (i := 0) rfl rfl rfl tf32 rfl rfl rfl rfl rfl ?_
          refine sxo_nil ?_
          refine sxq_anyB (.cons 2 rfl .nil) (gk_F 0 rfl gk_nil) ?_
          refine sxb_done (by kernel_rfl) ?_
          refine sxq_np ?_ (by intro c h; cases h)
          exact sxq_meetP ((x168, x165), (a169, c170, a166, c167)) (lk_cons rfl (lk_cons rfl (lk_cons rfl (lk_cons rfl lk_nil)))) (.cons 0 rfl (.cons 0 rfl (.cons 0 rfl .nil))) (.cons 0 rfl (.cons 0 rfl .nil)) (fk_cons 0 rfl fk_nil)
        · refine sxo_meq (m' := ((mk 17592186044416 (0 : Int) (x1.length : Int)).bind fun x171 => M_graph_Degrees_j1 F x1 x171 x165)) (rfl) ?_
          refine sxo_storeB (i := 1) rfl rfl rfl tf32 rfl rfl rfl rfl rfl ?_
          refine sxo_nil ?_
          refine sxq_anyB (.cons 2 rfl .nil) (gk_F 0 rfl gk_nil) ?_
          refine sxb_step 7 rfl (by kernel_rfl) (show _ = #[true, true, true, true, true, true, true, true, true, false] from rfl) ?_
          refine sxo_mk (eI_ok .i64) rfl Try.underlying32 tf3 rfl rfl rfl rfl rfl rfl rfl (fun x171 e171 a172 c173 => ?_)
          refine sxo_nil ?_
          refine sxq_anyB (.cons 2 rfl .nil) (gk_F 0 rfl gk_nil) ?_
          refine sxb_step 9 rfl (by kernel_rfl) (show _ = #[true, true, true, true, true, true, true, true, true, true] from rfl) ?_
          refine sxo_storeB (i := 0) rfl rfl rfl tf32 rfl rfl rfl rfl rfl ?_
          refine sxo_nil ?_
          refine sxq_anyB (.cons 2 rfl .nil) (gk_F 0 rfl gk_nil) ?_
          refine sxb_done (by kernel_rfl) ?_
          refine sxq_np ?_ (by intro c h; cases h)
          exact sxq_meetP ((x171, x165), (a172, c173, a166, c167)) (lk_cons rfl (lk_cons rfl (lk_cons rfl (lk_cons rfl lk_nil)))) (.cons 0 rfl (.cons 0 rfl (.cons 0 rfl .nil))) (.cons 0 rfl (.cons 0 rfl .nil)) (fk_cons 0 rfl fk_nil)
      · refine sxo_meq (m' := ((mk 17592186044416 (0 : Int) (x1.length : Int)).bind fun x174 => ((mk 17592186044416 (0 : Int) (x1.length : Int)).bind fun x177 => M_graph_Degrees_j1 F x1 x174 x177))) (by generalize (mk 17592186044416 (0 : Int) (x1.length : Int)) = q0; cases q0 <;> rfl) ?_
        refine sxo_mk (eI_ok .i64) rfl Try.underlying32 tf3 rfl rfl rfl rfl rfl rfl rfl (fun x174 e174 a175 c176 => ?_)
        refine sxo_nil ?_
        refine sxq_anyB (.cons 2 rfl .nil) (gk_F 0 rfl gk_nil) ?_
        refine sxb_step 3 rfl (by kernel_rfl) (show _ = #[true, true, true, true, true, true, true, true, false, false] from rfl) ?_
        refine sxo_mk (eI_ok .i64) rfl Try.underlying32 tf3 rfl rfl rfl rfl rfl rfl rfl (fun x177 e177 a178 c179 => ?_)
        refine sxo_nil ?_
        refine sxq_anyB (.cons 2 rfl .nil) (gk_F 0 rfl gk_nil) ?_
        refine sxb_step 8 rfl (by kernel_rfl) (show _ = #[true, true, true, true, true, true, true, true, true, false] from rfl) ?_
        refine sxo_storeB (i := 1) rfl rfl rfl tf32 rfl rfl rfl rfl rfl ?_
        refine sxo_nil ?_
        refine sxq_anyB (.cons 2 rfl .nil) (gk_F 0 rfl gk_nil) ?_
        refine sxb_step 9 rfl (by kernel_rfl) (show _ = #[true, true, true, true, true, true, true, true, true, true] from rfl) ?_
        refine sxo_storeB (i := 0) rfl rfl rfl tf32 rfl rfl rfl rfl rfl ?_
        refine sxo_nil ?_
        refine sxq_anyB (.cons 2 rfl .nil) (gk_F 0 rfl gk_nil) ?_
        refine sxb_done (by kernel_rfl) ?_
        refine sxq_np ?_ (by intro c h; cases h)
        exact sxq_meetP ((x174, x177), (a175, c176, a178, c179)) (lk_cons rfl (lk_cons rfl (lk_cons rfl (lk_cons rfl lk_nil)))) (.cons 0 rfl (.cons 0 rfl (.cons 0 rfl .nil))) (.cons 1 rfl (.cons 0 rfl .nil)) (fk_cons 0 rfl fk_nil)
    · rintro ⟨⟨x27, x30⟩, ⟨a25, c26, a28, c29⟩⟩
      try dsimp only
      refine sxc_seq ?_
      refine sxc_seq ?_
      refine sxc_region ?_
      refine sxo_loadB (i := 2) rfl rfl tf24 rfl rfl (by simp) rfl rfl ?_
      refine sxo_callM ent42 rfl rfl rfl (fun x98 e98 => C_graph_All F x1 a2 c3 x98 e98) .nil .nil (.consF 0 rfl .nil) (fun x98 e98 => ?_)
      rintro g99
      refine sxo_nil ?_
      refine sxq_next ?_
      refine sxc_block ?_
      refine sxc_range (encs := (fun (p : (Int × Int)) => [.agg #[.int .i64 p.1, .int .i64 p.2]])) (y := (fun ((x121, x122) : (List Int × List Int)) ((x144, x145) : (Int × Int)) => M_graph_Degrees_r3 F x121 x122 x144 x145)) (lb := [.pointer (some ⟨g99, 0, none⟩)]) (fun ((x121, x122) : (List Int × List Int)) (_ : Unit) => [⟨g6, 32, [.slice a25 x121.length c26]⟩, ⟨g5, 32, [.slice a28 x122.length c29]⟩, ⟨g4, 24, [.slice a2 x1.length c3.1]⟩]) (fun ((x121, x122) : (List Int × List Int)) (_ : Unit) => [Ro (eI .i64) 3 1 (.slice a25 x121.length c26) x121, Ro (eI .i64) 3 1 (.slice a28 x122.length c29) x122]) (fun (_ : Empty) (_ : Unit) => []) (fun (_ : Empty) (_ : Unit) => []) (fun _ => .skip) (x27, x30) () rfl ent62 (fun _ => rfl) rfl (.cons 0 rfl .nil) (.cons 0 rfl (.cons 0 rfl (.cons 0 rfl .nil))) (.cons 0 rfl (.cons 0 rfl .nil)) (.consF 0 rfl .nil) (fun z hz _ _ _ hY => C_graph_All_1 F hY (x27, x30) () g99 x1 a2 c3 z hz) ?_ ?_ ?_
      · rintro rc1 L1 D1 ⟨x121, x122⟩ _ ⟨x144, x145⟩ z w M _
        try dsimp only
        refine sxc_less [(1, .pointer (some ⟨g4, 0, none⟩)), (2, .pointer (some ⟨g5, 0, none⟩)), (3, .pointer (some ⟨g6, 0, none⟩)), (4, .int .i64 0), (20, .agg #[.slice a2 x1.length c3.1]), (21, .func (.func 62) #[] #[.pointer (some ⟨g99, 0, none⟩)]), (22, .agg #[.int .i64 x144, .int .i64 x145])] (lk_cons rfl (lk_cons rfl (lk_cons rfl (lk_cons rfl (lk_cons rfl (lk_cons rfl (lk_cons rfl lk_nil))))))) ?_
        refine sxc_region ?_
        refine sxo_alloc rfl tf44 rfl (fun g146 => ?_)
        refine sxo_storeB (i := 0) rfl rfl rfl tf44 rfl rfl rfl rfl rfl ?_
        refine sxo_nil ?_
        refine sxq_begin (i := 4) rfl ?_
        refine sxc_block ?_
        refine sxc_seq ?_
        refine sxc_region ?_
        refine sxo_loadB (i := 2) rfl rfl tf32 rfl rfl (fun _ => rfl) rfl rfl ?_
        refine sxo_fieldAddr rfl rfl ff44_0 rfl ?_
        refine sxo_loadB (i := 0) rfl rfl tf3 rfl rfl (fun _ => rfl) rfl rfl ?_
        refine sxo_indexR (j := 1) rfl Try.underlying32 tf3 rfl rfl rfl rfl (fun x147 e147 g148 h149 => ?_)
        refine sxo_loadR (j := 1) (y := x147) (eI_ok .i64) rfl rfl tf3 rfl h149 (idx_get e147).2.2 (fun _ => rfl) rfl rfl ?_
        refine sxo_add rfl rfl rfl rfl ?_
        refine sxo_indexR (j := 1) rfl Try.underlying32 tf3 rfl rfl rfl rfl (fun x150 e150 g151 h152 => ?_)
        refine sxo_storeL (j := 1) (y' := iadd .i64 x147 1) (eI_ok .i64) rfl rfl rfl tf3 rfl h152 (idx_get e150).2.1 rfl (fun x153 e153 h154 => ?_)
        have h155 : x153.length = x122.length := by rw [← e153, List.length_set]
        refine sxo_again (d := 23) (v := .slice a28 x153.length c29) rfl h154 ?_
        refine sxo_blkAgain (i := 2) (cs' := [.slice a28 x153.length c29]) rfl (by rw [h154]) ?_
        refine sxo_nil ?_
        refine sxq_next ?_
        refine sxc_region ?_
        refine sxo_loadB (i := 1) rfl rfl tf32 rfl rfl (fun _ => rfl) rfl rfl ?_
        refine sxo_fieldAddr rfl rfl ff44_1 rfl ?_
        refine sxo_loadB (i := 0) rfl rfl tf3 rfl rfl (fun _ => rfl) rfl rfl ?_
        refine sxo_indexR (j := 1) rfl Try.underlying32 tf3 rfl rfl rfl rfl (fun x156 e156 g157 h158 => ?_)
        refine sxo_loadR (j := 1) (y := x156) (eI_ok .i64) rfl rfl tf3 rfl h158 (idx_get e156).2.2 (fun _ => rfl) rfl rfl ?_
        refine sxo_add rfl rfl rfl rfl ?_
        refine sxo_indexR (j := 1) rfl Try.underlying32 tf3 rfl rfl rfl rfl (fun x159 e159 g160 h161 => ?_)
        refine sxo_storeL (j := 1) (y' := iadd .i64 x156 1) (eI_ok .i64) rfl rfl rfl tf3 rfl h161 (idx_get e159).2.1 rfl (fun x162 e162 h163 => ?_)
        have h164 : x162.length = x121.length := by rw [← e162, List.length_set]
        refine sxo_again (d := 30) (v := .slice a25 x162.length c26) rfl h163 ?_
        refine sxo_blkAgain (i := 1) (cs' := [.slice a25 x162.length c26]) rfl (by rw [h163]) ?_
        refine sxo_nil ?_
        refine sxq_blkN ?_
        exact sxq_round (rc := rc1) rfl (.cons 4 rfl .nil) rfl () (.cons 2 rfl (.cons 2 rfl (.cons 2 rfl (.cons 0 rfl (.cons 1 rfl .nil))))) (.cons 0 rfl (.cons 0 rfl .nil))
      · rintro ⟨x121, x122⟩ _ _ D1
        try dsimp only
        refine sxq_blkN ?_
        refine sxq_next ?_
        refine sxc_seq ?_
        refine sxb_draw mixed [] [(dblk D1), ⟨g99, 24, [.slice a2 x1.length c3.1]⟩, ⟨g6, 32, [.slice a25 x121.length c26]⟩, ⟨g5, 32, [.slice a28 x122.length c29]⟩, ⟨g4, 24, [.slice a2 x1.length c3.1]⟩] [SlN eN32 iN32 1 (.slice a2 x1.length c3.1) x1 c3.2] (.cons 0 rfl (.cons 0 rfl (.cons 0 rfl (.cons 0 rfl (.cons 0 rfl .nil))))) (gk_F 0 rfl gk_nil) 5 rfl ?_
        refine sxb_take 0 (.slice a28 x122.length c29) [] rfl rfl rfl rfl (by kernel_rfl) (by kernel_rfl) (by kernel_rfl) (by kernel_rfl) (by kernel_rfl) (by kernel_rfl) rfl (show _ = #[true, false, false, false, false] from rfl) (yv_loadB (i := 3) rfl tf32 rfl rfl (fun _ => rfl) rfl) ?_
        refine sxb_take 1 (.slice a25 x121.length c26) [] rfl rfl rfl rfl (by kernel_rfl) (by kernel_rfl) (by kernel_rfl) (by kernel_rfl) (by kernel_rfl) (by kernel_rfl) rfl (show _ = #[true, true, false, false, false] from rfl) (yv_loadB (i := 2) rfl tf32 rfl rfl (fun _ => rfl) rfl) ?_
        refine sxb_step 2 rfl (by kernel_rfl) (show _ = #[true, true, true, false, false] from rfl) ?_
        refine sxo_storeB (i := 3) rfl rfl rfl tf32 rfl rfl rfl rfl rfl ?_
        refine sxo_nil ?_
        refine sxq_anyB (.cons 0 rfl (.cons 0 rfl (.cons 0 rfl (.cons 0 rfl (.cons 0 rfl .nil))))) (gk_F 0 rfl gk_nil) ?_
        refine sxb_step 3 rfl (by kernel_rfl) (show _ = #[true, true, true, true, false] from rfl) ?_
        refine sxo_storeB (i := 2) rfl rfl rfl tf32 rfl rfl rfl rfl rfl ?_
        refine sxo_nil ?_
        refine sxq_anyB (.cons 0 rfl (.cons 0 rfl (.cons 0 rfl (.cons 0 rfl (.cons 0 rfl .nil))))) (gk_F 0 rfl gk_nil) ?_
        refine sxb_takeP 4 (.int .i64 0) rfl rfl rfl rfl (by kernel_rfl) (by kernel_rfl) (by kernel_rfl) (by kernel_rfl) (by kernel_rfl) rfl (show _ = #[true, true, true, true, true] from rfl) (yv_pv rfl) ?_
        refine sxb_done (by kernel_rfl) ?_
        refine sxq_np ?_ (by intro c h; cases h)
        refine sxq_next ?_
        refine sxc_ret ?_
        exact sxq_doneX [D1] ((a28, c29), (a25, c26)) (.inl rfl) rfl (.cons 0 rfl .nil) (resL (rs := [.cell 2 32, .cell 3 32, .tmp 4]) rfl (.cell (i := 2) rfl tf32 rfl rfl (fun _ => rfl) rfl (.cell (i := 1) rfl tf32 rfl rfl (fun _ => rfl) rfl (.tmp rfl ResOk.nil))) rfl) (fun h => by subst h; rfl) (fun h => by subst h; exact .nil) (fun h => by subst h; exact (.cons 1 rfl (.cons 0 rfl .nil)))
      · intro t; exact t.elim

theorem C_R_between (F : Nat) (x1 : Int) (x2 : Int) (x3 : Int) (r : Bool) (hm : M_R_between F x1 x2 x3 = some r) :
    Pure Try.prog 50 [.int .i64 x1, .int .i64 x2, .int .i64 x3] [] Unit (fun _ => .bool r) (fun _ => []) (fun _ => []) := by
  refine pure_of Try.func50 rfl Try.ntmps50 rfl hm (fun w => ?_)
  refine sxc_env (l' := [(0, .int .i64 x1), (1, .int .i64 x2), (2, .int .i64 x3)]) rfl ?_
  refine sxc_seq ?_
  refine sxc_region ?_
  refine sxo_assign rfl rfl rfl ?_
  refine sxo_nil ?_
  refine sxq_next ?_
  refine sxc_seq ?_
  refine sxc_region ?_
  refine sxo_move rfl rfl rfl ?_
  refine sxo_move rfl rfl rfl ?_
  refine sxo_geq rfl rfl rfl rfl ?_
  refine sxo_move rfl rfl rfl ?_
  refine sxo_case 4 (decide (x2 ≤ x1)) [(14, .bool ((decide (x2 ≤ x1)) && (decide (x1 ≤ x3))))] (fun h4 => ?_) (fun h4 => ?_) ?_
  · refine sxo_take (os := _) rfl ?_
    refine sxo_isT (k := 10) rfl h4 ?_
    refine sxo_move rfl rfl rfl ?_
    refine sxo_move rfl rfl rfl ?_
    refine sxo_leq rfl rfl rfl rfl ?_
    refine sxo_pick (b := true) rfl rfl rfl rfl ?_
    refine sxo_again (d := 14) (v := .bool ((decide (x2 ≤ x1)) && (decide (x1 ≤ x3)))) rfl (by rw [h4]; simp only [Bool.true_and]) ?_
    refine sxo_nil ?_
    exact sxq_case (lk_cons rfl lk_nil)
  · refine sxo_take (os := _) rfl ?_
    refine sxo_isF (k := 10) rfl h4 ?_
    refine sxo_skip rfl rfl rfl ?_
    refine sxo_skip rfl rfl rfl ?_
    refine sxo_skip rfl rfl rfl ?_
    refine sxo_pick (b := false) rfl rfl rfl rfl ?_
    refine sxo_again (d := 14) (v := .bool ((decide (x2 ≤ x1)) && (decide (x1 ≤ x3)))) rfl (by rw [h4]; simp only [Bool.false_and]) ?_
    refine sxo_nil ?_
    exact sxq_case (lk_cons rfl lk_nil)
  refine sxo_take (os := _) rfl ?_
  refine sxo_assign rfl rfl rfl ?_
  refine sxo_nil ?_
  refine sxq_next ?_
  refine sxc_ret ?_
  exact sxq_doneP () (.inl rfl) (res1 rfl rfl) (fun h => by subst h; rfl) (fun h => by subst h; exact .nil)

set_option maxHeartbeats 4000000 in
theorem C_R_GraphCheck (F : Nat) (x1 : List (List Int)) (a2 : Option Addr) (c3 : (Nat × List (Option Addr × Nat))) (r : Int) (hm : M_R_GraphCheck F x1 = some r) :
    Pure Try.prog 20 [.agg #[.slice a2 x1.length c3.1]] [SlN eN32 iN32 1 (.slice a2 x1.length c3.1) x1 c3.2] Unit (fun _ => .int .i64 r) (fun _ => []) (fun _ => []) := by
  refine pure_of Try.func20 rfl Try.ntmps20 rfl hm (fun w => ?_)
  refine sxc_env (l' := [(0, .agg #[.slice a2 x1.length c3.1])]) rfl ?_
  refine sxc_seq ?_
  refine sxc_region ?_
  refine sxo_box rfl rfl rfl (fun g4 => ?_)
  refine sxo_assign rfl rfl rfl ?_
  refine sxo_nil ?_
  refine sxq_next ?_
  refine sxc_seq ?_
  refine sxc_region ?_
  refine sxo_fieldAddr rfl rfl ff24_0 rfl ?_
  refine sxo_loadB (i := 0) rfl rfl tf22 rfl rfl (fun _ => rfl) rfl rfl ?_
  refine sxo_len rfl Try.underlying22 rfl rfl ?_
  refine sxo_assign rfl rfl rfl ?_
  refine sxo_nil ?_
  refine sxq_next ?_
  refine sxc_seq ?_
  refine sxc_seq ?_
  refine sxc_region ?_
  refine sxo_move rfl rfl rfl ?_
  refine sxo_gtr rfl rfl rfl rfl ?_
  refine sxo_nil ?_
  refine sxq_next ?_
  refine sxc_if rfl (fun h7485 => ?_) (fun h7485 => ?_)
  · refine sxc_seq ?_
    refine sxc_region ?_
    refine sxo_assign rfl rfl rfl ?_
    refine sxo_nil ?_
    refine sxq_next ?_
    refine sxc_ret ?_
    refine sxq_thenR ?_
    exact sxq_doneP () (.inl rfl) (res1 rfl rfl) (fun h => by subst h; rfl) (fun h => by subst h; exact .nil)
  · refine sxc_skip ?_
    refine sxq_next ?_
    refine sxc_seq ?_
    refine sxc_region ?_
    refine sxo_assign rfl rfl rfl ?_
    refine sxo_nil ?_
    refine sxq_next ?_
    refine sxc_join (fun ((x3744, _) : (Int × Unit)) => [(4, .int .i64 x3744)]) (fun ((x3744, _) : (Int × Unit)) => []) (fun ((x3744, _) : (Int × Unit)) => []) (fun ((x3744, _) : (Int × Unit)) => []) (fun ((x3744, _) : (Int × Unit)) => M_R_GraphCheck_j83 F x3744) ?_ ?_
    · refine sxc_seq ?_
      refine sxc_region ?_
      refine sxo_assign rfl rfl rfl ?_
      refine sxo_nil ?_
      refine sxq_next ?_
      refine sxc_block ?_
      refine sxc_loopP (fun (((x4992, x4993), _) : ((Int × Int) × Unit)) => [(1, .pointer (some ⟨g4, 0, none⟩)), (3, .int .i64 (x1.length : Int)), (4, .int .i64 x4992), (5, .int .i64 x4993)]) (fun (((x4992, x4993), _) : ((Int × Int) × Unit)) => [⟨g4, 24, [.slice a2 x1.length c3.1]⟩]) (fun (((x4992, x4993), _) : ((Int × Int) × Unit)) => []) (fun (((x4992, x4993), _) : ((Int × Int) × Unit)) => [SlN eN32 iN32 1 (.slice a2 x1.length c3.1) x1 c3.2]) (fun k (s : ((Int × Int) × Unit)) => M_R_GraphCheck_l138 F x1 k s.1) ((0, 0), ()) F (lk_cons rfl (lk_cons rfl (lk_cons rfl (lk_cons rfl lk_nil)))) (.cons 0 rfl .nil) .nil (fk_cons 0 rfl fk_nil) (fun _ => rfl) ?_
      intro k6239
      rintro ⟨⟨x4992, x4993⟩, _⟩
      try dsimp only
      refine sxc_meq (m' := M_R_GraphCheck_b138 F x1 (M_R_GraphCheck_l138 F x1 k6239) x4992 x4993) rfl ?_
      refine sxc_seq ?_
      refine sxc_seq ?_
      refine sxc_region ?_
      refine sxo_move rfl rfl rfl ?_
      refine sxo_move rfl rfl rfl ?_
      refine sxo_lss rfl rfl rfl rfl ?_
      refine sxo_nil ?_
      refine sxq_next ?_
      refine sxc_if rfl (fun h7484 => ?_) (fun h7484 => ?_)
      · refine sxc_skip ?_
        refine sxq_next ?_
        refine sxc_join (fun ((x6862, _) : (Int × Unit)) => [(1, .pointer (some ⟨g4, 0, none⟩)), (3, .int .i64 (x1.length : Int)), (4, .int .i64 x6862), (5, .int .i64 x4993)]) (fun ((x6862, _) : (Int × Unit)) => [⟨g4, 24, [.slice a2 x1.length c3.1]⟩]) (fun ((x6862, _) : (Int × Unit)) => []) (fun ((x6862, _) : (Int × Unit)) => [SlN eN32 iN32 1 (.slice a2 x1.length c3.1) x1 c3.2]) (fun ((x6862, _) : (Int × Unit)) => M_R_GraphCheck_j152 F (M_R_GraphCheck_l138 F x1 k6239) x4993 x6862) ?_ ?_
        · refine sxc_block ?_
          refine sxc_seq ?_
          refine sxc_region ?_
          refine sxo_assign rfl rfl rfl ?_
          refine sxo_nil ?_
          refine sxq_next ?_
          refine sxc_block ?_
          refine sxc_loopP (fun (((x7069, x7070), _) : ((Int × Int) × Unit)) => [(1, .pointer (some ⟨g4, 0, none⟩)), (3, .int .i64 (x1.length : Int)), (4, .int .i64 x7069), (5, .int .i64 x4993), (6, .int .i64 x7070)]) (fun (((x7069, x7070), _) : ((Int × Int) × Unit)) => [⟨g4, 24, [.slice a2 x1.length c3.1]⟩]) (fun (((x7069, x7070), _) : ((Int × Int) × Unit)) => []) (fun (((x7069, x7070), _) : ((Int × Int) × Unit)) => [SlN eN32 iN32 1 (.slice a2 x1.length c3.1) x1 c3.2]) (fun k (s : ((Int × Int) × Unit)) => M_R_GraphCheck_l161 F (M_R_GraphCheck_l138 F x1 k6239) x1 x4993 k s.1) ((x4992, 0), ()) F (lk_cons rfl (lk_cons rfl (lk_cons rfl (lk_cons rfl (lk_cons rfl lk_nil))))) (.cons 0 rfl .nil) .nil (fk_cons 0 rfl fk_nil) (fun _ => rfl) ?_
          intro k7277
          rintro ⟨⟨x7069, x7070⟩, _⟩
          try dsimp only
          refine sxc_meq (m' := M_R_GraphCheck_b161 F (M_R_GraphCheck_l138 F x1 k6239) x1 x4993 (M_R_GraphCheck_l161 F (M_R_GraphCheck_l138 F x1 k6239) x1 x4993 k7277) x7069 x7070) rfl ?_
          refine sxc_seq ?_
          refine sxc_seq ?_
          refine sxc_region ?_
          refine sxo_move rfl rfl rfl ?_
          refine sxo_fieldAddr rfl rfl ff24_0 rfl ?_
          refine sxo_loadB (i := 0) rfl rfl tf22 rfl rfl (fun _ => rfl) rfl rfl ?_
          refine sxo_move rfl rfl rfl ?_
          refine sxo_indexN (j := 0) eN32_ok (by decide) rfl Try.underlying22 tf32 rfl rfl rfl rfl (fun x7283 e7283 g7286 b7284 o7285 => ?_)
          refine sxo_loadF (j := 0) rfl rfl tf32 rfl rfl (fun _ => rfl) rfl rfl ?_
          refine sxo_len rfl Try.underlying32 rfl rfl ?_
          refine sxo_lss rfl rfl rfl rfl ?_
          refine sxo_nil ?_
          refine sxq_next ?_
          refine sxc_if rfl (fun h7483 => ?_) (fun h7483 => ?_)
          · refine sxc_skip ?_
            refine sxq_next ?_
            refine sxc_seq ?_
            refine sxc_block ?_
            refine sxc_seq ?_
            refine sxc_seq ?_
            refine sxc_region ?_
            refine sxo_fieldAddr rfl rfl ff24_0 rfl ?_
            refine sxo_loadB (i := 0) rfl rfl tf22 rfl rfl (fun _ => rfl) rfl rfl ?_
            refine sxo_move rfl rfl rfl ?_
            refine sxo_indexN (j := 2) eN32_ok (by decide) rfl Try.underlying22 tf32 rfl rfl rfl rfl (fun x7394 e7394 g7397 b7395 o7396 => ?_)
            refine sxo_loadF (j := 0) rfl rfl tf32 rfl rfl (fun _ => rfl) rfl rfl ?_
            refine sxo_move rfl rfl rfl ?_
            refine sxo_indexF (j := 1) (eI_ok .i64) (by decide) rfl Try.underlying32 tf3 rfl rfl rfl rfl (fun x7398 e7398 b7399 o7400 => ?_)
            refine sxo_loadF (j := 0) rfl rfl tf3 rfl rfl (fun _ => rfl) rfl rfl ?_
            refine sxo_move rfl rfl rfl ?_
            refine sxo_sub rfl rfl rfl rfl ?_
            refine sxo_call ent50 rfl rfl rfl (fun x7401 e7401 => C_R_between F x7398 0 (isub .i64 (x1.length : Int) 1) x7401 e7401) .nil (fun x7401 e7401 => ?_)
            intro _
            refine sxo_not rfl rfl rfl ?_
            refine sxo_nil ?_
            refine sxq_next ?_
            refine sxc_if rfl (fun h7482 => ?_) (fun h7482 => ?_)
            · refine sxc_seq ?_
              refine sxc_region ?_
              refine sxo_assign rfl rfl rfl ?_
              refine sxo_nil ?_
              refine sxq_next ?_
              refine sxc_ret ?_
              refine sxq_thenR ?_
              refine sxq_blkR ?_
              refine sxq_thenR ?_
              refine sxq_thenR ?_
              refine sxq_blkR ?_
              refine sxq_blkR ?_
              refine sxq_thenR ?_
              refine sxq_thenR ?_
              refine sxq_blkR ?_
              refine sxq_thenR ?_
              exact sxq_doneP () (.inl rfl) (res1 rfl rfl) (fun h => by subst h; rfl) (fun h => by subst h; exact .nil)
            · refine sxc_skip ?_
              refine sxq_next ?_
              refine sxc_seq ?_
              refine sxc_join (fun ((x7461, _) : (Bool × Unit)) => [(1, .pointer (some ⟨g4, 0, none⟩)), (3, .int .i64 (x1.length : Int)), (4, .int .i64 x7069), (5, .int .i64 x4993), (6, .int .i64 x7070), (60, .bool x7461)]) (fun ((x7461, _) : (Bool × Unit)) => [⟨g4, 24, [.slice a2 x1.length c3.1]⟩]) (fun ((x7461, _) : (Bool × Unit)) => []) (fun ((x7461, _) : (Bool × Unit)) => [SlN eN32 iN32 1 (.slice a2 x1.length c3.1) x1 c3.2]) (fun ((x7461, _) : (Bool × Unit)) => M_R_GraphCheck_j165 F (M_R_GraphCheck_l161 F (M_R_GraphCheck_l138 F x1 k6239) x1 x4993 k7277) x7069 x7070 x7461) ?_ ?_
              · refine sxc_split (fun h7463 => ?_) (fun h7463 => ?_)
                · refine sxc_idxN (j := 5) eN32_ok (by decide) rfl (fun x7464 e7464 g7468 b7465 o7466 h7467 => ?_)
                  replace h7467 : a2 = some ⟨b7465, o7466, none⟩ := h7467
                  refine sxc_idxF (j := 1) (eI_ok .i64) (by decide) rfl (fun x7469 e7469 b7470 o7471 h7472 => ?_)
                  replace h7472 : g7468.1 = some ⟨b7470, o7471, none⟩ := h7472
                  refine sxc_idxN (j := 8) eN32_ok (by decide) rfl (fun x7473 e7473 g7477 b7474 o7475 h7476 => ?_)
                  replace h7476 : a2 = some ⟨b7474, o7475, none⟩ := h7476
                  refine sxc_idxF (j := 1) (eI_ok .i64) (by decide) rfl (fun x7478 e7478 b7479 o7480 h7481 => ?_)
                  replace h7481 : g7477.1 = some ⟨b7479, o7480, none⟩ := h7481
                  refine sxb_draw mixed [] [⟨g4, 24, [.slice a2 x1.length c3.1]⟩] [CellsAt b7479 (o7480 + (isub .i64 x7070 1).toNat * 1) ((eI .i64) x7478), CellsAt b7474 (o7475 + x4993.toNat * 1) (eN32 (x7473, g7477)), Sl (eI .i64) 1 (.slice g7477.1 x7473.length g7477.2) x7473, CellsAt b7470 (o7471 + x7070.toNat * 1) ((eI .i64) x7469), CellsAt b7465 (o7466 + x4993.toNat * 1) (eN32 (x7464, g7468)), Sl (eI .i64) 1 (.slice g7468.1 x7464.length g7468.2) x7464, CellsAt b7399 o7400 ((eI .i64) x7398), CellsAt b7395 o7396 (eN32 (x7394, g7397)), Sl (eI .i64) 1 (.slice g7397.1 x7394.length g7397.2) x7394, CellsAt b7284 o7285 (eN32 (x7283, g7286)), Sl (eI .i64) 1 (.slice g7286.1 x7283.length g7286.2) x7283, SlN eN32 iN32 1 (.slice a2 x1.length c3.1) x1 c3.2] (.cons 0 rfl .nil) (gk_F 0 rfl (gk_F 1 rfl (gk_F 2 rfl (gk_F 3 rfl (gk_F 4 rfl (gk_F 5 rfl (gk_F 6 rfl (gk_F 7 rfl (gk_F 8 rfl (gk_F 9 rfl (gk_F 10 rfl (gk_F 11 rfl gk_nil)))))))))))) 22 rfl ?_
                  refine sxb_takeP 0 (.int .i64 x7070) rfl rfl rfl rfl (by kernel_rfl) (by kernel_rfl) (by kernel_rfl) (by kernel_rfl) (by kernel_rfl) rfl (show _ = #[true, false, false, false, false, false, false, false, false, false, false, false, false, false, false, false, false, false, false, false, false, false] from rfl) (yv_pv rfl) ?_
                  refine sxb_takeP 1 (.bool (decide (0 < x7070))) rfl rfl rfl rfl (by kernel_rfl) (by kernel_rfl) (by kernel_rfl) (by kernel_rfl) (by kernel_rfl) rfl (show _ = #[true, true, false, false, false, false, false, false, false, false, false, false, false, false, false, false, false, false, false, false, false, false] from rfl) (yv_pv rfl) ?_
                  refine sxb_takeP 2 (.bool (decide (0 < x7070))) rfl rfl rfl rfl (by kernel_rfl) (by kernel_rfl) (by kernel_rfl) (by kernel_rfl) (by kernel_rfl) rfl (show _ = #[true, true, true, false, false, false, false, false, false, false, false, false, false, false, false, false, false, false, false, false, false, false] from rfl) (yv_pv rfl) ?_
                  refine sxb_again (d := 41) (v := .bool true) rfl (by rw [h7463]) ?_
                  refine sxb_takeP 3 (.pointer (some ⟨g4, 0, none⟩)) rfl rfl rfl rfl (by kernel_rfl) (by kernel_rfl) (by kernel_rfl) (by kernel_rfl) (by kernel_rfl) rfl (show _ = #[true, true, true, true, false, false, false, false, false, false, false, false, false, false, false, false, false, false, false, false, false, false] from rfl) (yv_fieldAddr rfl ff24_0) ?_
                  refine sxb_take 4 (.slice a2 x1.length c3.1) [] rfl rfl rfl rfl (by kernel_rfl) (by kernel_rfl) (by kernel_rfl) (by kernel_rfl) (by kernel_rfl) (by kernel_rfl) rfl (show _ = #[true, true, true, true, true, false, false, false, false, false, false, false, false, false, false, false, false, false, false, false, false, false] from rfl) (yv_loadB (i := 0) rfl tf22 rfl rfl (fun _ => rfl) rfl) ?_
                  refine sxb_takeP 5 (.int .i64 x4993) rfl rfl rfl rfl (by kernel_rfl) (by kernel_rfl) (by kernel_rfl) (by kernel_rfl) (by kernel_rfl) rfl (show _ = #[true, true, true, true, true, true, false, false, false, false, false, false, false, false, false, false, false, false, false, false, false, false] from rfl) (yv_pv rfl) ?_
                  refine sxb_again (d := 43) (v := .slice (some ⟨b7465, o7466, none⟩) x1.length c3.1) rfl (by rw [h7467]) ?_
                  refine sxb_takeP 6 (.pointer (some ⟨b7465, (o7466 + x4993.toNat * 1), none⟩)) rfl rfl rfl rfl (by kernel_rfl) (by kernel_rfl) (by kernel_rfl) (by kernel_rfl) (by kernel_rfl) rfl (show _ = #[true, true, true, true, true, true, true, false, false, false, false, false, false, false, false, false, false, false, false, false, false, false] from rfl) (yv_idx Try.underlying22 tf32 rfl rfl (idx_get e7464).1 (idx_lt e7464)) ?_
                  refine sxb_again (d := 43) (v := .slice a2 x1.length c3.1) rfl (by rw [h7467]) ?_
                  refine sxb_take 7 (.slice g7468.1 x7464.length g7468.2) [] rfl rfl rfl rfl (by kernel_rfl) (by kernel_rfl) (by kernel_rfl) (by kernel_rfl) (by kernel_rfl) (by kernel_rfl) rfl (show _ = #[true, true, true, true, true, true, true, true, false, false, false, false, false, false, false, false, false, false, false, false, false, false] from rfl) (yv_loadF (j := 4) rfl tf32 rfl rfl (fun _ => rfl) rfl) ?_
                  refine sxb_takeP 8 (.int .i64 x7070) rfl rfl rfl rfl (by kernel_rfl) (by kernel_rfl) (by kernel_rfl) (by kernel_rfl) (by kernel_rfl) rfl (show _ = #[true, true, true, true, true, true, true, true, true, false, false, false, false, false, false, false, false, false, false, false, false, false] from rfl) (yv_pv rfl) ?_
                  refine sxb_again (d := 46) (v := .slice (some ⟨b7470, o7471, none⟩) x7464.length g7468.2) rfl (by rw [h7472]) ?_
                  refine sxb_takeP 9 (.pointer (some ⟨b7470, (o7471 + x7070.toNat * 1), none⟩)) rfl rfl rfl rfl (by kernel_rfl) (by kernel_rfl) (by kernel_rfl) (by kernel_rfl) (by kernel_rfl) rfl (show _ = #[true, true, true, true, true, true, true, true, true, true, false, false, false, false, false, false, false, false, false, false, false, false] from rfl) (yv_idx Try.underlying32 tf3 rfl rfl (idx_get e7469).1 (idx_lt e7469)) ?_
                  refine sxb_again (d := 46) (v := .slice g7468.1 x7464.length g7468.2) rfl (by rw [h7472]) ?_
                  refine sxb_take 10 (.int .i64 x7469) [] rfl rfl rfl rfl (by kernel_rfl) (by kernel_rfl) (by kernel_rfl) (by kernel_rfl) (by kernel_rfl) (by kernel_rfl) rfl (show _ = #[true, true, true, true, true, true, true, true, true, true, true, false, false, false, false, false, false, false, false, false, false, false] from rfl) (yv_loadF (j := 3) rfl tf3 rfl rfl (fun _ => rfl) rfl) ?_
                  refine sxb_takeP 11 (.pointer (some ⟨g4, 0, none⟩)) rfl rfl rfl rfl (by kernel_rfl) (by kernel_rfl) (by kernel_rfl) (by kernel_rfl) (by kernel_rfl) rfl (show _ = #[true, true, true, true, true, true, true, true, true, true, true, true, false, false, false, false, false, false, false, false, false, false] from rfl) (yv_fieldAddr rfl ff24_0) ?_
                  refine sxb_take 12 (.slice a2 x1.length c3.1) [] rfl rfl rfl rfl (by kernel_rfl) (by kernel_rfl) (by kernel_rfl) (by kernel_rfl) (by kernel_rfl) (by kernel_rfl) rfl (show _ = #[true, true, true, true, true, true, true, true, true, true, true, true, true, false, false, false, false, false, false, false, false, false] from rfl) (yv_loadB (i := 0) rfl tf22 rfl rfl (fun _ => rfl) rfl) ?_
                  refine sxb_takeP 13 (.int .i64 x4993) rfl rfl rfl rfl (by kernel_rfl) (by kernel_rfl) (by kernel_rfl) (by kernel_rfl) (by kernel_rfl) rfl (show _ = #[true, true, true, true, true, true, true, true, true, true, true, true, true, true, false, false, false, false, false, false, false, false] from rfl) (yv_pv rfl) ?_
                  refine sxb_again (d := 51) (v := .slice (some ⟨b7474, o7475, none⟩) x1.length c3.1) rfl (by rw [h7476]) ?_
                  refine sxb_takeP 14 (.pointer (some ⟨b7474, (o7475 + x4993.toNat * 1), none⟩)) rfl rfl rfl rfl (by kernel_rfl) (by kernel_rfl) (by kernel_rfl) (by kernel_rfl) (by kernel_rfl) rfl (show _ = #[true, true, true, true, true, true, true, true, true, true, true, true, true, true, true, false, false, false, false, false, false, false] from rfl) (yv_idx Try.underlying22 tf32 rfl rfl (idx_get e7473).1 (idx_lt e7473)) ?_
                  refine sxb_again (d := 51) (v := .slice a2 x1.length c3.1) rfl (by rw [h7476]) ?_
                  refine sxb_take 15 (.slice g7477.1 x7473.length g7477.2) [] rfl rfl rfl rfl (by kernel_rfl) (by kernel_rfl) (by kernel_rfl) (by kernel_rfl) (by kernel_rfl) (by kernel_rfl) rfl (show _ = #[true, true, true, true, true, true, true, true, true, true, true, true, true, true, true, true, false, false, false, false, false, false] from rfl) (yv_loadF (j := 1) rfl tf32 rfl rfl (fun _ => rfl) rfl) ?_
                  refine sxb_takeP 16 (.int .i64 x7070) rfl rfl rfl rfl (by kernel_rfl) (by kernel_rfl) (by kernel_rfl) (by kernel_rfl) (by kernel_rfl) rfl (show _ = #[true, true, true, true, true, true, true, true, true, true, true, true, true, true, true, true, true, false, false, false, false, false] from rfl) (yv_pv rfl) ?_
                  refine sxb_takeP 17 (.int .i64 (isub .i64 x7070 1)) rfl rfl rfl rfl (by kernel_rfl) (by kernel_rfl) (by kernel_rfl) (by kernel_rfl) (by kernel_rfl) rfl (show _ = #[true, true, true, true, true, true, true, true, true, true, true, true, true, true, true, true, true, true, false, false, false, false] from rfl) (yv_pv rfl) ?_
                  refine sxb_again (d := 54) (v := .slice (some ⟨b7479, o7480, none⟩) x7473.length g7477.2) rfl (by rw [h7481]) ?_
                  refine sxb_takeP 18 (.pointer (some ⟨b7479, (o7480 + (isub .i64 x7070 1).toNat * 1), none⟩)) rfl rfl rfl rfl (by kernel_rfl) (by kernel_rfl) (by kernel_rfl) (by kernel_rfl) (by kernel_rfl) rfl (show _ = #[true, true, true, true, true, true, true, true, true, true, true, true, true, true, true, true, true, true, true, false, false, false] from rfl) (yv_idx Try.underlying32 tf3 rfl rfl (idx_get e7478).1 (idx_lt e7478)) ?_
                  refine sxb_again (d := 54) (v := .slice g7477.1 x7473.length g7477.2) rfl (by rw [h7481]) ?_
                  refine sxb_take 19 (.int .i64 x7478) [] rfl rfl rfl rfl (by kernel_rfl) (by kernel_rfl) (by kernel_rfl) (by kernel_rfl) (by kernel_rfl) (by kernel_rfl) rfl (show _ = #[true, true, true, true, true, true, true, true, true, true, true, true, true, true, true, true, true, true, true, true, false, false] from rfl) (yv_loadF (j := 0) rfl tf3 rfl rfl (fun _ => rfl) rfl) ?_
                  refine sxb_takeP 20 (.bool (decide (x7469 ≤ x7478))) rfl rfl rfl rfl (by kernel_rfl) (by kernel_rfl) (by kernel_rfl) (by kernel_rfl) (by kernel_rfl) rfl (show _ = #[true, true, true, true, true, true, true, true, true, true, true, true, true, true, true, true, true, true, true, true, true, false] from rfl) (yv_pv rfl) ?_
                  refine sxb_takeP 21 (.bool (decide (x7469 ≤ x7478))) rfl rfl rfl rfl (by kernel_rfl) (by kernel_rfl) (by kernel_rfl) (by kernel_rfl) (by kernel_rfl) rfl (show _ = #[true, true, true, true, true, true, true, true, true, true, true, true, true, true, true, true, true, true, true, true, true, true] from rfl) (yv_pv rfl) ?_
                  refine sxb_done (by kernel_rfl) ?_
                  refine sxq_np ?_ (by intro c h; cases h)
                  exact sxq_meetP ((decide (x7469 ≤ x7478)), ()) (lk_cons rfl (lk_cons rfl (lk_cons rfl (lk_cons rfl (lk_cons rfl (lk_cons rfl lk_nil)))))) (.cons 0 rfl .nil) .nil (fk_cons 11 rfl fk_nil)
                · refine sxb_draw mixed [] [⟨g4, 24, [.slice a2 x1.length c3.1]⟩] [CellsAt b7399 o7400 ((eI .i64) x7398), CellsAt b7395 o7396 (eN32 (x7394, g7397)), Sl (eI .i64) 1 (.slice g7397.1 x7394.length g7397.2) x7394, CellsAt b7284 o7285 (eN32 (x7283, g7286)), Sl (eI .i64) 1 (.slice g7286.1 x7283.length g7286.2) x7283, SlN eN32 iN32 1 (.slice a2 x1.length c3.1) x1 c3.2] (.cons 0 rfl .nil) (gk_F 0 rfl (gk_F 1 rfl (gk_F 2 rfl (gk_F 3 rfl (gk_F 4 rfl (gk_F 5 rfl gk_nil)))))) 22 rfl ?_
                  refine sxb_takeP 0 (.int .i64 x7070) rfl rfl rfl rfl (by kernel_rfl) (by kernel_rfl) (by kernel_rfl) (by kernel_rfl) (by kernel_rfl) rfl (show _ = #[true, false, false, false, false, false, false, false, false, false, false, false, false, false, false, false, false, false, false, false, false, false] from rfl) (yv_pv rfl) ?_
                  refine sxb_takeP 1 (.bool (decide (0 < x7070))) rfl rfl rfl rfl (by kernel_rfl) (by kernel_rfl) (by kernel_rfl) (by kernel_rfl) (by kernel_rfl) rfl (show _ = #[true, true, false, false, false, false, false, false, false, false, false, false, false, false, false, false, false, false, false, false, false, false] from rfl) (yv_pv rfl) ?_
                  refine sxb_takeP 2 (.bool (decide (0 < x7070))) rfl rfl rfl rfl (by kernel_rfl) (by kernel_rfl) (by kernel_rfl) (by kernel_rfl) (by kernel_rfl) rfl (show _ = #[true, true, true, false, false, false, false, false, false, false, false, false, false, false, false, false, false, false, false, false, false, false] from rfl) (yv_pv rfl) ?_
                  refine sxb_again (d := 41) (v := .bool false) rfl (by rw [h7463]) ?_
                  refine sxb_skip 3 rfl rfl rfl rfl (by kernel_rfl) (by kernel_rfl) (by kernel_rfl) (by kernel_rfl) (by kernel_rfl) rfl (show _ = #[true, true, true, true, false, false, false, false, false, false, false, false, false, false, false, false, false, false, false, false, false, false] from rfl) ?_
                  refine sxb_skip 4 rfl rfl rfl rfl (by kernel_rfl) (by kernel_rfl) (by kernel_rfl) (by kernel_rfl) (by kernel_rfl) rfl (show _ = #[true, true, true, true, true, false, false, false, false, false, false, false, false, false, false, false, false, false, false, false, false, false] from rfl) ?_
                  refine sxb_skip 5 rfl rfl rfl rfl (by kernel_rfl) (by kernel_rfl) (by kernel_rfl) (by kernel_rfl) (by kernel_rfl) rfl (show _ = #[true, true, true, true, true, true, false, false, false, false, false, false, false, false, false, false, false, false, false, false, false, false] from rfl) ?_
                  refine sxb_skip 6 rfl rfl rfl rfl (by kernel_rfl) (by kernel_rfl) (by kernel_rfl) (by kernel_rfl) (by kernel_rfl) rfl (show _ = #[true, true, true, true, true, true, true, false, false, false, false, false, false, false, false, false, false, false, false, false, false, false] from rfl) ?_
                  refine sxb_skip 7 rfl rfl rfl rfl (by kernel_rfl) (by kernel_rfl) (by kernel_rfl) (by kernel_rfl) (by kernel_rfl) rfl (show _ = #[true, true, true, true, true, true, true, true, false, false, false, false, false, false, false, false, false, false, false, false, false, false] from rfl) ?_
                  refine sxb_skip 8 rfl rfl rfl rfl (by kernel_rfl) (by kernel_rfl) (by kernel_rfl) (by kernel_rfl) (by kernel_rfl) rfl (show _ = #[true, true, true, true, true, true, true, true, true, false, false, false, false, false, false, false, false, false, false, false, false, false] from rfl) ?_
                  refine sxb_skip 9 rfl rfl rfl rfl (by kernel_rfl) (by kernel_rfl) (by kernel_rfl) (by kernel_rfl) (by kernel_rfl) rfl (show _ = #[true, true, true, true, true, true, true, true, true, true, false, false, false, false, false, false, false, false, false, false, false, false] from rfl) ?_
                  refine sxb_skip 10 rfl rfl rfl rfl (by kernel_rfl) (by kernel_rfl) (by kernel_rfl) (by kernel_rfl) (by kernel_rfl) rfl (show _ = #[true, true, true, true, true, true, true, true, true, true, true, false, false, false, false, false, false, false, false, false, false, false] from rfl) ?_
                  refine sxb_skip 11 rfl rfl rfl rfl (by kernel_rfl) (by kernel_rfl) (by kernel_rfl) (by kernel_rfl) (by kernel_rfl) rfl (show _ = #[true, true, true, true, true, true, true, true, true, true, true, true, false, false, false, false, false, false, false, false, false, false] from rfl) ?_
                  refine sxb_skip 12 rfl rfl rfl rfl (by kernel_rfl) (by kernel_rfl) (by kernel_rfl) (by kernel_rfl) (by kernel_rfl) rfl (show _ = #[true, true, true, true, true, true, true, true, true, true, true, true, true, false, false, false, false, false, false, false, false, false] from rfl) ?_
                  refine sxb_skip 13 rfl rfl rfl rfl (by kernel_rfl) (by kernel_rfl) (by kernel_rfl) (by kernel_rfl) (by kernel_rfl) rfl (show _ = #[true, true, true, true, true, true, true, true, true, true, true, true, true, true, false, false, false, false, false, false, false, false] from rfl) ?_
                  refine sxb_skip 14 rfl rfl rfl rfl (by kernel_rfl) (by kernel_rfl) (by kernel_rfl) (by kernel_rfl) (by kernel_rfl) rfl (show _ = #[true, true, true, true, true, true, true, true, true, true, true, true, true, true, true, false, false, false, false, false, false, false] from rfl) ?_
                  refine sxb_skip 15 rfl rfl rfl rfl (by kernel_rfl) (by kernel_rfl) (by kernel_rfl) (by kernel_rfl) (by kernel_rfl) rfl (show _ = #[true, true, true, true, true, true, true, true, true, true, true, true, true, true, true, true, false, false, false, false, false, false] from rfl) ?_
                  refine sxb_skip 16 rfl rfl rfl rfl (by kernel_rfl) (by kernel_rfl) (by kernel_rfl) (by kernel_rfl) (by kernel_rfl) rfl (show _ = #[true, true, true, true, true, true, true, true, true, true, true, true, true, true, true, true, true, false, false, false, false, false] from rfl) ?_
                  refine sxb_skip 17 rfl rfl rfl rfl (by kernel_rfl) (by kernel_rfl) (by kernel_rfl) (by kernel_rfl) (by kernel_rfl) rfl (show _ = #[true, true, true, true, true, true, true, true, true, true, true, true, true, true, true, true, true, true, false, false, false, false] from rfl) ?_
                  refine sxb_skip 18 rfl rfl rfl rfl (by kernel_rfl) (by kernel_rfl) (by kernel_rfl) (by kernel_rfl) (by kernel_rfl) rfl (show _ = #[true, true, true, true, true, true, true, true, true, true, true, true, true, true, true, true, true, true, true, false, false, false] from rfl) ?_
                  refine sxb_skip 19 rfl rfl rfl rfl (by kernel_rfl) (by kernel_rfl) (by kernel_rfl) (by kernel_rfl) (by kernel_rfl) rfl (show _ = #[true, true, true, true, true, true, true, true, true, true, true, true, true, true, true, true, true, true, true, true, false, false] from rfl) ?_
                  refine sxb_skip 20 rfl rfl rfl rfl (by kernel_rfl) (by kernel_rfl) (by kernel_rfl) (by kernel_rfl) (by kernel_rfl) rfl (show _ = #[true, true, true, true, true, true, true, true, true, true, true, true, true, true, true, true, true, true, true, true, true, false] from rfl) ?_
                  refine sxb_takeP 21 (.bool false) rfl rfl rfl rfl (by kernel_rfl) (by kernel_rfl) (by kernel_rfl) (by kernel_rfl) (by kernel_rfl) rfl (show _ = #[true, true, true, true, true, true, true, true, true, true, true, true, true, true, true, true, true, true, true, true, true, true] from rfl) (yv_pv rfl) ?_
                  refine sxb_done (by kernel_rfl) ?_
                  refine sxq_np ?_ (by intro c h; cases h)
                  exact sxq_meetP (false, ()) (lk_cons rfl (lk_cons rfl (lk_cons rfl (lk_cons rfl (lk_cons rfl (lk_cons rfl lk_nil)))))) (.cons 0 rfl .nil) .nil (fk_cons 5 rfl fk_nil)
              · rintro ⟨x7461, _⟩
                try dsimp only
                refine sxc_if rfl (fun h7462 => ?_) (fun h7462 => ?_)
                · refine sxc_seq ?_
                  refine sxc_region ?_
                  refine sxo_assign rfl rfl rfl ?_
                  refine sxo_nil ?_
                  refine sxq_next ?_
                  refine sxc_ret ?_
                  refine sxq_thenR ?_
                  refine sxq_blkR ?_
                  refine sxq_thenR ?_
                  refine sxq_thenR ?_
                  refine sxq_blkR ?_
                  refine sxq_blkR ?_
                  refine sxq_thenR ?_
                  refine sxq_thenR ?_
                  refine sxq_blkR ?_
                  refine sxq_thenR ?_
                  exact sxq_doneP () (.inl rfl) (res1 rfl rfl) (fun h => by subst h; rfl) (fun h => by subst h; exact .nil)
                · refine sxc_skip ?_
                  refine sxq_next ?_
                  refine sxc_region ?_
                  refine sxo_move rfl rfl rfl ?_
                  refine sxo_add rfl rfl rfl rfl ?_
                  refine sxo_assign rfl rfl rfl ?_
                  refine sxo_nil ?_
                  refine sxq_blkN ?_
                  refine sxq_next ?_
                  refine sxc_region ?_
                  refine sxo_move rfl rfl rfl ?_
                  refine sxo_add rfl rfl rfl rfl ?_
                  refine sxo_assign rfl rfl rfl ?_
                  refine sxo_nil ?_
                  exact sxq_againP ((iadd .i64 x7069 1, iadd .i64 x7070 1), ()) (lk_cons rfl (lk_cons rfl (lk_cons rfl (lk_cons rfl (lk_cons rfl lk_nil))))) (.cons 0 rfl .nil) .nil (fk_cons 0 rfl fk_nil)
          · refine sxc_exit ?_
            refine sxq_thenX ?_
            refine sxq_thenX ?_
            refine sxq_blkX ?_
            refine sxq_blkN ?_
            exact sxq_meetP (x7069, ()) (lk_cons rfl (lk_cons rfl (lk_cons rfl (lk_cons rfl lk_nil)))) (.cons 0 rfl .nil) .nil (fk_cons 2 rfl fk_nil)
        · rintro ⟨x6862, _⟩
          try dsimp only
          refine sxc_region ?_
          refine sxo_move rfl rfl rfl ?_
          refine sxo_add rfl rfl rfl rfl ?_
          refine sxo_assign rfl rfl rfl ?_
          refine sxo_nil ?_
          exact sxq_againP ((x6862, iadd .i64 x4993 1), ()) (lk_cons rfl (lk_cons rfl (lk_cons rfl (lk_cons rfl lk_nil)))) (.cons 0 rfl .nil) .nil (fk_cons 0 rfl fk_nil)
      · refine sxc_exit ?_
        refine sxq_thenX ?_
        refine sxq_thenX ?_
        refine sxq_blkX ?_
        exact sxq_meetP (x4992, ()) (lk_cons rfl lk_nil) .nil .nil fk_nil
    · rintro ⟨x3744, _⟩
      try dsimp only
      refine sxc_seq ?_
      refine sxc_seq ?_
      refine sxc_region ?_
      refine sxo_move rfl rfl rfl ?_
      refine sxo_gtr rfl rfl rfl rfl ?_
      refine sxo_nil ?_
      refine sxq_next ?_
      refine sxc_if rfl (fun h3746 => ?_) (fun h3746 => ?_)
      · refine sxc_seq ?_
        refine sxc_region ?_
        refine sxo_assign rfl rfl rfl ?_
        refine sxo_nil ?_
        refine sxq_next ?_
        refine sxc_ret ?_
        refine sxq_thenR ?_
        exact sxq_doneP () (.inl rfl) (res1 rfl rfl) (fun h => by subst h; rfl) (fun h => by subst h; exact .nil)
      · refine sxc_skip ?_
        refine sxq_next ?_
        refine sxc_seq ?_
        refine sxc_region ?_
        refine sxo_assign rfl rfl rfl ?_
        refine sxo_nil ?_
        refine sxq_next ?_
        refine sxc_ret ?_
        exact sxq_doneP () (.inl rfl) (res1 rfl rfl) (fun h => by subst h; rfl) (fun h => by subst h; exact .nil)

theorem C_R_HasArc (F : Nat) (x1 : List (Int × Int)) (a2 : Option Addr) (c3 : Nat) (x4 : Int) (x5 : Int) (r : Bool) (hm : M_R_HasArc F x1 x4 x5 = some r) :
    Pure Try.prog 31 [.slice a2 x1.length c3, .agg #[.int .i64 x4, .int .i64 x5]] [Sl eS44 2 (.slice a2 x1.length c3) x1] Unit (fun _ => .bool r) (fun _ => []) (fun _ => []) := by
  refine pure_of Try.func31 rfl Try.ntmps31 rfl hm (fun w => ?_)
  refine sxc_env (l' := [(0, .slice a2 x1.length c3), (1, .agg #[.int .i64 x4, .int .i64 x5])]) rfl ?_
  refine sxc_seq ?_
  refine sxc_region ?_
  refine sxo_box rfl rfl rfl (fun g6 => ?_)
  refine sxo_assign rfl rfl rfl ?_
  refine sxo_nil ?_
  refine sxq_next ?_
  refine sxc_join (fun ((_, _) : (Unit × Unit)) => []) (fun ((_, _) : (Unit × Unit)) => []) (fun ((_, _) : (Unit × Unit)) => []) (fun ((_, _) : (Unit × Unit)) => []) (fun ((_, _) : (Unit × Unit)) => M_R_HasArc_j2 F) ?_ ?_
  · refine sxc_seq ?_
    refine sxc_region ?_
    refine sxo_assign rfl rfl rfl ?_
    refine sxo_nil ?_
    refine sxq_next ?_
    refine sxc_block ?_
    refine sxc_loopP (fun ((x89, _) : (Int × Unit)) => [(0, .slice a2 x1.length c3), (3, .pointer (some ⟨g6, 0, none⟩)), (5, .int .i64 x89)]) (fun ((x89, _) : (Int × Unit)) => [⟨g6, 44, [.int .i64 x4, .int .i64 x5]⟩]) (fun ((x89, _) : (Int × Unit)) => []) (fun ((x89, _) : (Int × Unit)) => [Sl eS44 2 (.slice a2 x1.length c3) x1]) (fun k (s : (Int × Unit)) => M_R_HasArc_l3 F x1 x4 x5 k s.1) (0, ()) F (lk_cons rfl (lk_cons rfl (lk_cons rfl lk_nil))) (.cons 0 rfl .nil) .nil (fk_cons 0 rfl fk_nil) (fun _ => rfl) ?_
    intro k110
    rintro ⟨x89, _⟩
    try dsimp only
    refine sxc_meq (m' := M_R_HasArc_b3 F x1 x4 x5 (M_R_HasArc_l3 F x1 x4 x5 k110) x89) rfl ?_
    refine sxc_seq ?_
    refine sxc_seq ?_
    refine sxc_region ?_
    refine sxo_move rfl rfl rfl ?_
    refine sxo_move rfl rfl rfl ?_
    refine sxo_len rfl Try.underlying25 rfl rfl ?_
    refine sxo_lss rfl rfl rfl rfl ?_
    refine sxo_nil ?_
    refine sxq_next ?_
    refine sxc_if rfl (fun h130 => ?_) (fun h130 => ?_)
    · refine sxc_skip ?_
      refine sxq_next ?_
      refine sxc_seq ?_
      refine sxc_block ?_
      refine sxc_seq ?_
      refine sxc_idxF (j := 0) eS44_ok (by decide) rfl (fun x125 e125 b126 o127 h128 => ?_)
      replace h128 : a2 = some ⟨b126, o127, none⟩ := h128
      refine sxb_draw mixed [] [⟨g6, 44, [.int .i64 x4, .int .i64 x5]⟩] [CellsAt b126 (o127 + x89.toNat * 2) (eS44 x125), Sl eS44 2 (.slice a2 x1.length c3) x1] (.cons 0 rfl .nil) (gk_F 0 rfl (gk_F 1 rfl gk_nil)) 6 rfl ?_
      refine sxb_takeP 0 (.slice a2 x1.length c3) rfl rfl rfl rfl (by kernel_rfl) (by kernel_rfl) (by kernel_rfl) (by kernel_rfl) (by kernel_rfl) rfl (show _ = #[true, false, false, false, false, false] from rfl) (yv_pv rfl) ?_
      refine sxb_takeP 1 (.int .i64 x89) rfl rfl rfl rfl (by kernel_rfl) (by kernel_rfl) (by kernel_rfl) (by kernel_rfl) (by kernel_rfl) rfl (show _ = #[true, true, false, false, false, false] from rfl) (yv_pv rfl) ?_
      refine sxb_again (d := 12) (v := .slice (some ⟨b126, o127, none⟩) x1.length c3) rfl (by rw [h128]) ?_
      refine sxb_takeP 2 (.pointer (some ⟨b126, (o127 + x89.toNat * 2), none⟩)) rfl rfl rfl rfl (by kernel_rfl) (by kernel_rfl) (by kernel_rfl) (by kernel_rfl) (by kernel_rfl) rfl (show _ = #[true, true, true, false, false, false] from rfl) (yv_idx Try.underlying25 tf44 rfl rfl (idx_get e125).1 (idx_lt e125)) ?_
      refine sxb_again (d := 12) (v := .slice a2 x1.length c3) rfl (by rw [h128]) ?_
      refine sxb_take 3 (.agg #[.int .i64 x125.1, .int .i64 x125.2]) [] rfl rfl rfl rfl (by kernel_rfl) (by kernel_rfl) (by kernel_rfl) (by kernel_rfl) (by kernel_rfl) (by kernel_rfl) rfl (show _ = #[true, true, true, true, false, false] from rfl) (yv_loadF (j := 0) rfl tf44 rfl rfl (by simp) rfl) ?_
      refine sxb_take 4 (.agg #[.int .i64 x4, .int .i64 x5]) [] rfl rfl rfl rfl (by kernel_rfl) (by kernel_rfl) (by kernel_rfl) (by kernel_rfl) (by kernel_rfl) (by kernel_rfl) rfl (show _ = #[true, true, true, true, true, false] from rfl) (yv_loadB (i := 0) rfl tf44 rfl rfl (by simp) rfl) ?_
      refine sxb_takeP 5 (.bool (((x125.1 : Int) == x4) && ((x125.2 : Int) == x5))) rfl rfl rfl rfl (by kernel_rfl) (by kernel_rfl) (by kernel_rfl) (by kernel_rfl) (by kernel_rfl) rfl (show _ = #[true, true, true, true, true, true] from rfl) (yv_eql2 rfl rfl se44) ?_
      refine sxb_done (by kernel_rfl) ?_
      refine sxq_np ?_ (by intro c h; cases h)
      refine sxq_next ?_
      refine sxc_if rfl (fun h129 => ?_) (fun h129 => ?_)
      · refine sxc_seq ?_
        refine sxc_region ?_
        refine sxo_assign rfl rfl rfl ?_
        refine sxo_nil ?_
        refine sxq_next ?_
        refine sxc_ret ?_
        refine sxq_blkR ?_
        refine sxq_thenR ?_
        refine sxq_thenR ?_
        refine sxq_blkR ?_
        refine sxq_thenR ?_
        exact sxq_doneP () (.inl rfl) (res1 rfl rfl) (fun h => by subst h; rfl) (fun h => by subst h; exact .nil)
      · refine sxc_skip ?_
        refine sxq_blkN ?_
        refine sxq_next ?_
        refine sxc_region ?_
        refine sxo_move rfl rfl rfl ?_
        refine sxo_add rfl rfl rfl rfl ?_
        refine sxo_assign rfl rfl rfl ?_
        refine sxo_nil ?_
        exact sxq_againP (iadd .i64 x89 1, ()) (lk_cons rfl (lk_cons rfl (lk_cons rfl lk_nil))) (.cons 0 rfl .nil) .nil (fk_cons 1 rfl fk_nil)
    · refine sxc_exit ?_
      refine sxq_thenX ?_
      refine sxq_thenX ?_
      refine sxq_blkX ?_
      exact sxq_meetP ((), ()) lk_nil .nil .nil fk_nil
  · rintro ⟨_, _⟩
    try dsimp only
    refine sxc_seq ?_
    refine sxc_region ?_
    refine sxo_assign rfl rfl rfl ?_
    refine sxo_nil ?_
    refine sxq_next ?_
    refine sxc_ret ?_
    exact sxq_doneP () (.inl rfl) (res1 rfl rfl) (fun h => by subst h; rfl) (fun h => by subst h; exact .nil)

set_option maxHeartbeats 4000000 in
theorem C_R_GraphOf (F : Nat) (x1 : Int) (x2 : List (Int × Int)) (a3 : Option Addr) (c4 : Nat) (r : (List (List Int) × Int)) (hm : M_R_GraphOf F x1 x2 = some r) :
    Pure Try.prog 21 [.int .i64 x1, .slice a3 x2.length c4] [Sl eS44 2 (.slice a3 x2.length c4) x2] (Option Addr × (Nat × List (Option Addr × Nat))) (fun g => .tuple #[.agg #[.slice g.1 r.1.length g.2.1], .int .i64 r.2]) (fun g => [RoN eN32 rN32 32 1 (.slice g.1 r.1.length g.2.1) r.1 g.2.2 []]) (fun _ => []) := by
  refine pure_of Try.func21 rfl Try.ntmps21 rfl hm (fun w => ?_)
  refine sxc_env (l' := [(0, .int .i64 x1), (1, .slice a3 x2.length c4)]) rfl ?_
  refine sxc_seq ?_
  refine sxc_region ?_
  refine sxo_alloc rfl tf24 rfl (fun g5 => ?_)
  refine sxo_assign rfl rfl rfl ?_
  refine sxo_nil ?_
  refine sxq_next ?_
  refine sxc_seq ?_
  refine sxc_seq ?_
  refine sxc_region ?_
  refine sxo_move rfl rfl rfl ?_
  refine sxo_call ent50 rfl rfl rfl (fun x8 e8 => C_R_between F x1 0 100 x8 e8) .nil (fun x8 e8 => ?_)
  intro _
  refine sxo_not rfl rfl rfl ?_
  refine sxo_nil ?_
  refine sxq_next ?_
  refine sxc_if rfl (fun h2525 => ?_) (fun h2525 => ?_)
  · refine sxc_seq ?_
    refine sxc_region ?_
    refine sxo_build (cells := [.slice none 0 0]) rfl st24 rfl (by kernel_rfl) rfl ?_
    refine sxo_storeB (i := 0) rfl rfl rfl tf24 rfl rfl rfl rfl rfl ?_
    refine sxo_assign rfl rfl rfl ?_
    refine sxo_nil ?_
    refine sxq_next ?_
    refine sxc_ret ?_
    refine sxq_thenR ?_
    refine sxq_nilN (List Int) (Option Addr × Nat) eN32 rN32 32 1 ?_
    exact sxq_doneP (none, (0, ([] : List (Option Addr × Nat)))) (.inl rfl) (resL (rs := [.cell 4 24, .tmp 5]) rfl (.cell (i := 0) rfl tf24 rfl rfl (by simp) rfl (.tmp rfl ResOk.nil)) rfl) (fun h => by subst h; rfl) (fun h => by subst h; exact (.cons 0 rfl .nil))
  · refine sxc_skip ?_
    refine sxq_next ?_
    refine sxc_seq ?_
    refine sxc_seq ?_
    refine sxc_region ?_
    refine sxo_move rfl rfl rfl ?_
    refine sxo_len rfl Try.underlying25 rfl rfl ?_
    refine sxo_gtr rfl rfl rfl rfl ?_
    refine sxo_nil ?_
    refine sxq_next ?_
    refine sxc_if rfl (fun h2524 => ?_) (fun h2524 => ?_)
    · refine sxc_seq ?_
      refine sxc_region ?_
      refine sxo_build (cells := [.slice none 0 0]) rfl st24 rfl (by kernel_rfl) rfl ?_
      refine sxo_storeB (i := 0) rfl rfl rfl tf24 rfl rfl rfl rfl rfl ?_
      refine sxo_assign rfl rfl rfl ?_
      refine sxo_nil ?_
      refine sxq_next ?_
      refine sxc_ret ?_
      refine sxq_thenR ?_
      refine sxq_nilN (List Int) (Option Addr × Nat) eN32 rN32 32 1 ?_
      exact sxq_doneP (none, (0, ([] : List (Option Addr × Nat)))) (.inl rfl) (resL (rs := [.cell 4 24, .tmp 5]) rfl (.cell (i := 0) rfl tf24 rfl rfl (by simp) rfl (.tmp rfl ResOk.nil)) rfl) (fun h => by subst h; rfl) (fun h => by subst h; exact (.cons 0 rfl .nil))
    · refine sxc_skip ?_
      refine sxq_next ?_
      refine sxc_join (fun ((_, _) : (Unit × Unit)) => [(0, .int .i64 x1), (1, .slice a3 x2.length c4), (4, .pointer (some ⟨g5, 0, none⟩))]) (fun ((_, _) : (Unit × Unit)) => [⟨g5, 24, [.slice none 0 0]⟩]) (fun ((_, _) : (Unit × Unit)) => []) (fun ((_, _) : (Unit × Unit)) => [Sl eS44 2 (.slice a3 x2.length c4) x2]) (fun ((_, _) : (Unit × Unit)) => M_R_GraphOf_j14 F x1 x2) ?_ ?_
      · refine sxc_seq ?_
        refine sxc_region ?_
        refine sxo_assign rfl rfl rfl ?_
        refine sxo_nil ?_
        refine sxq_next ?_
        refine sxc_block ?_
        refine sxc_loopP (fun ((x2314, _) : (Int × Unit)) => [(0, .int .i64 x1), (1, .slice a3 x2.length c4), (4, .pointer (some ⟨g5, 0, none⟩)), (6, .int .i64 x2314)]) (fun ((x2314, _) : (Int × Unit)) => [⟨g5, 24, [.slice none 0 0]⟩]) (fun ((x2314, _) : (Int × Unit)) => []) (fun ((x2314, _) : (Int × Unit)) => [Sl eS44 2 (.slice a3 x2.length c4) x2]) (fun k (s : (Int × Unit)) => M_R_GraphOf_l80 F x1 x2 k s.1) (0, ()) F (lk_cons rfl (lk_cons rfl (lk_cons rfl (lk_cons rfl lk_nil)))) (.cons 0 rfl .nil) .nil (fk_cons 0 rfl fk_nil) (fun _ => rfl) ?_
        intro k2419
        rintro ⟨x2314, _⟩
        try dsimp only
        refine sxc_meq (m' := M_R_GraphOf_b80 F x1 x2 (M_R_GraphOf_l80 F x1 x2 k2419) x2314) rfl ?_
        refine sxc_seq ?_
        refine sxc_seq ?_
        refine sxc_region ?_
        refine sxo_move rfl rfl rfl ?_
        refine sxo_move rfl rfl rfl ?_
        refine sxo_len rfl Try.underlying25 rfl rfl ?_
        refine sxo_lss rfl rfl rfl rfl ?_
        refine sxo_nil ?_
        refine sxq_next ?_
        refine sxc_if rfl (fun h2523 => ?_) (fun h2523 => ?_)
        · refine sxc_skip ?_
          refine sxq_next ?_
          refine sxc_seq ?_
          refine sxc_block ?_
          refine sxc_seq ?_
          refine sxc_seq ?_
          refine sxc_region ?_
          refine sxo_move rfl rfl rfl ?_
          refine sxo_move rfl rfl rfl ?_
          refine sxo_indexF (j := 0) eS44_ok (by decide) rfl Try.underlying25 tf44 rfl rfl rfl rfl (fun x2487 e2487 b2488 o2489 => ?_)
          refine sxo_fieldAddr rfl rfl ff44_0 rfl ?_
          refine sxo_loadFo (j := 0) (off := 0) rfl rfl tf3 rfl rfl (fun _ => rfl) rfl rfl ?_
          refine sxo_move rfl rfl rfl ?_
          refine sxo_sub rfl rfl rfl rfl ?_
          refine sxo_call ent50 rfl rfl rfl (fun x2490 e2490 => C_R_between F x2487.1 0 (isub .i64 x1 1) x2490 e2490) .nil (fun x2490 e2490 => ?_)
          intro _
          refine sxo_not rfl rfl rfl ?_
          refine sxo_move rfl rfl rfl ?_
          refine sxo_join 10 (fun ((x2496, _) : (Bool × Unit)) => [(0, .int .i64 x1), (1, .slice a3 x2.length c4), (4, .pointer (some ⟨g5, 0, none⟩)), (6, .int .i64 x2314), (43, .bool x2496)]) (fun ((x2496, _) : (Bool × Unit)) => [⟨g5, 24, [.slice none 0 0]⟩]) (fun ((x2496, _) : (Bool × Unit)) => []) (fun ((x2496, _) : (Bool × Unit)) => [Sl eS44 2 (.slice a3 x2.length c4) x2]) (fun ((x2496, _) : (Bool × Unit)) => M_R_GraphOf_j84 F (M_R_GraphOf_l80 F x1 x2 k2419) x2 x2314 x2496) ?_ ?_
          · refine sxo_take (os := _) rfl ?_
            refine sxo_if (fun h2491 => ?_) (fun h2491 => ?_)
            · refine sxo_isT (k := 33) rfl h2491 ?_
              refine sxo_skip rfl rfl rfl ?_
              refine sxo_skip rfl rfl rfl ?_
              refine sxo_skip rfl rfl rfl ?_
              refine sxo_skip rfl rfl rfl ?_
              refine sxo_skip rfl rfl rfl ?_
              refine sxo_skip rfl rfl rfl ?_
              refine sxo_skip rfl rfl rfl ?_
              refine sxo_skip rfl rfl rfl ?_
              refine sxo_skip rfl rfl rfl ?_
              refine sxo_pick (b := true) rfl rfl rfl rfl ?_
              refine sxo_nil ?_
              exact sxq_meetP (true, ()) (lk_cons rfl (lk_cons rfl (lk_cons rfl (lk_cons rfl (lk_cons rfl lk_nil))))) (.cons 0 rfl .nil) .nil (fk_cons 1 rfl fk_nil)
            · refine sxo_isF (k := 33) rfl h2491 ?_
              refine sxo_move rfl rfl rfl ?_
              refine sxo_move rfl rfl rfl ?_
              refine sxo_indexF (j := 1) eS44_ok (by decide) rfl Try.underlying25 tf44 rfl rfl rfl rfl (fun x2519 e2519 b2520 o2521 => ?_)
              refine sxo_fieldAddr rfl rfl ff44_1 rfl ?_
              refine sxo_loadFo (j := 0) (off := 1) rfl rfl tf3 rfl rfl (fun _ => rfl) rfl rfl ?_
              refine sxo_move rfl rfl rfl ?_
              refine sxo_sub rfl rfl rfl rfl ?_
              refine sxo_call ent50 rfl rfl rfl (fun x2522 e2522 => C_R_between F x2519.2 0 (isub .i64 x1 1) x2522 e2522) .nil (fun x2522 e2522 => ?_)
              intro _
              refine sxo_not rfl rfl rfl ?_
              refine sxo_pick (b := false) rfl rfl rfl rfl ?_
              refine sxo_nil ?_
              exact sxq_meetP ((!x2522), ()) (lk_cons rfl (lk_cons rfl (lk_cons rfl (lk_cons rfl (lk_cons rfl lk_nil))))) (.cons 0 rfl .nil) .nil (fk_cons 2 rfl fk_nil)
          · rintro ⟨x2496, _⟩
            try dsimp only
            refine sxo_take (os := _) rfl ?_
            refine sxo_nil ?_
            refine sxq_next ?_
            refine sxc_if rfl (fun h2518 => ?_) (fun h2518 => ?_)
            · refine sxc_seq ?_
              refine sxc_region ?_
              refine sxo_build (cells := [.slice none 0 0]) rfl st24 rfl (by kernel_rfl) rfl ?_
              refine sxo_storeB (i := 0) rfl rfl rfl tf24 rfl rfl rfl rfl rfl ?_
              refine sxo_assign rfl rfl rfl ?_
              refine sxo_nil ?_
              refine sxq_next ?_
              refine sxc_ret ?_
              refine sxq_thenR ?_
              refine sxq_blkR ?_
              refine sxq_thenR ?_
              refine sxq_thenR ?_
              refine sxq_blkR ?_
              refine sxq_thenR ?_
              refine sxq_nilN (List Int) (Option Addr × Nat) eN32 rN32 32 1 ?_
              exact sxq_doneP (none, (0, ([] : List (Option Addr × Nat)))) (.inl rfl) (resL (rs := [.cell 4 24, .tmp 5]) rfl (.cell (i := 0) rfl tf24 rfl rfl (by simp) rfl (.tmp rfl ResOk.nil)) rfl) (fun h => by subst h; rfl) (fun h => by subst h; exact (.cons 0 rfl .nil))
            · refine sxc_skip ?_
              refine sxq_next ?_
              refine sxc_seq ?_
              refine sxc_cutH 0 eS44_ok rfl (fun x2507 e2507 a2508 c2509 h2510 h2511 => ?_)
              refine sxc_idxF (j := 1) eS44_ok (by decide) rfl (fun x2512 e2512 b2513 o2514 h2515 => ?_)
              replace h2515 : a3 = some ⟨b2513, o2514, none⟩ := h2515
              refine sxb_draw mixed [] [⟨g5, 24, [.slice none 0 0]⟩] [CellsAt b2513 (o2514 + x2314.toNat * 2) (eS44 x2512), Sl eS44 2 (.slice a2508 x2507.length c2509) x2507, Sl eS44 2 (.slice a3 x2.length c4) x2] (.cons 0 rfl .nil) (gk_F 0 rfl (gk_F 1 rfl (gk_F 2 rfl gk_nil))) 8 rfl ?_
              refine sxb_takeP 0 (.slice a3 x2.length c4) rfl rfl rfl rfl (by kernel_rfl) (by kernel_rfl) (by kernel_rfl) (by kernel_rfl) (by kernel_rfl) rfl (show _ = #[true, false, false, false, false, false, false, false] from rfl) (yv_pv rfl) ?_
              refine sxb_takeP 1 (.int .i64 x2314) rfl rfl rfl rfl (by kernel_rfl) (by kernel_rfl) (by kernel_rfl) (by kernel_rfl) (by kernel_rfl) rfl (show _ = #[true, true, false, false, false, false, false, false] from rfl) (yv_pv rfl) ?_
              refine sxb_takeP 2 (.slice a2508 x2507.length c2509) rfl rfl rfl rfl (by kernel_rfl) (by kernel_rfl) (by kernel_rfl) (by kernel_rfl) (by kernel_rfl) rfl (show _ = #[true, true, true, false, false, false, false, false] from rfl) (yv_cut Try.underlying25 tf44 rfl rfl rfl e2507 h2511 h2510) ?_
              refine sxb_takeP 3 (.slice a3 x2.length c4) rfl rfl rfl rfl (by kernel_rfl) (by kernel_rfl) (by kernel_rfl) (by kernel_rfl) (by kernel_rfl) rfl (show _ = #[true, true, true, true, false, false, false, false] from rfl) (yv_pv rfl) ?_
              refine sxb_takeP 4 (.int .i64 x2314) rfl rfl rfl rfl (by kernel_rfl) (by kernel_rfl) (by kernel_rfl) (by kernel_rfl) (by kernel_rfl) rfl (show _ = #[true, true, true, true, true, false, false, false] from rfl) (yv_pv rfl) ?_
              refine sxb_again (d := 48) (v := .slice (some ⟨b2513, o2514, none⟩) x2.length c4) rfl (by rw [h2515]) ?_
              refine sxb_takeP 5 (.pointer (some ⟨b2513, (o2514 + x2314.toNat * 2), none⟩)) rfl rfl rfl rfl (by kernel_rfl) (by kernel_rfl) (by kernel_rfl) (by kernel_rfl) (by kernel_rfl) rfl (show _ = #[true, true, true, true, true, true, false, false] from rfl) (yv_idx Try.underlying25 tf44 rfl rfl (idx_get e2512).1 (idx_lt e2512)) ?_
              refine sxb_again (d := 48) (v := .slice a3 x2.length c4) rfl (by rw [h2515]) ?_
              refine sxb_take 6 (.agg #[.int .i64 x2512.1, .int .i64 x2512.2]) [] rfl rfl rfl rfl (by kernel_rfl) (by kernel_rfl) (by kernel_rfl) (by kernel_rfl) (by kernel_rfl) (by kernel_rfl) rfl (show _ = #[true, true, true, true, true, true, true, false] from rfl) (yv_loadF (j := 0) rfl tf44 rfl rfl (by simp) rfl) ?_
              refine sxb_step 7 rfl (by kernel_rfl) (show _ = #[true, true, true, true, true, true, true, true] from rfl) ?_
              refine sxo_call ent31 rfl rfl rfl (fun x2516 e2516 => C_R_HasArc F x2507 a2508 c2509 x2512.1 x2512.2 x2516 e2516) (.consF 1 rfl .nil) (fun x2516 e2516 => ?_)
              intro _
              refine sxo_nil ?_
              refine sxq_anyB (.cons 0 rfl .nil) (gk_F 0 rfl (gk_F 1 rfl (gk_F 2 rfl gk_nil))) ?_
              refine sxb_done (by kernel_rfl) ?_
              refine sxq_np ?_ (by intro c h; cases h)
              refine sxq_next ?_
              refine sxc_if rfl (fun h2517 => ?_) (fun h2517 => ?_)
              · refine sxc_seq ?_
                refine sxc_region ?_
                refine sxo_build (cells := [.slice none 0 0]) rfl st24 rfl (by kernel_rfl) rfl ?_
                refine sxo_storeB (i := 0) rfl rfl rfl tf24 rfl rfl rfl rfl rfl ?_
                refine sxo_assign rfl rfl rfl ?_
                refine sxo_nil ?_
                refine sxq_next ?_
                refine sxc_ret ?_
                refine sxq_blkR ?_
                refine sxq_thenR ?_
                refine sxq_thenR ?_
                refine sxq_blkR ?_
                refine sxq_thenR ?_
                refine sxq_nilN (List Int) (Option Addr × Nat) eN32 rN32 32 1 ?_
                exact sxq_doneP (none, (0, ([] : List (Option Addr × Nat)))) (.inl rfl) (resL (rs := [.cell 4 24, .tmp 5]) rfl (.cell (i := 0) rfl tf24 rfl rfl (by simp) rfl (.tmp rfl ResOk.nil)) rfl) (fun h => by subst h; rfl) (fun h => by subst h; exact (.cons 0 rfl .nil))
              · refine sxc_skip ?_
                refine sxq_blkN ?_
                refine sxq_next ?_
                refine sxc_region ?_
                refine sxo_move rfl rfl rfl ?_
                refine sxo_add rfl rfl rfl rfl ?_
                refine sxo_assign rfl rfl rfl ?_
                refine sxo_nil ?_
                exact sxq_againP (iadd .i64 x2314 1, ()) (lk_cons rfl (lk_cons rfl (lk_cons rfl (lk_cons rfl lk_nil)))) (.cons 0 rfl .nil) .nil (fk_cons 2 rfl fk_nil)
        · refine sxc_exit ?_
          refine sxq_thenX ?_
          refine sxq_thenX ?_
          refine sxq_blkX ?_
          exact sxq_meetP ((), ()) (lk_cons rfl (lk_cons rfl (lk_cons rfl lk_nil))) (.cons 0 rfl .nil) .nil (fk_cons 0 rfl fk_nil)
      · rintro ⟨_, _⟩
        try dsimp only
        refine sxc_seq ?_
        refine sxc_region ?_
        refine sxo_move rfl rfl rfl ?_
        refine sxo_mkN (rin := rN32) (y := ([] : List Int)) (q := ((none, 0) : Option Addr × Nat)) eN32_ok (by decide) rN32_nil rfl Try.underlying22 tf32 rfl rfl rfl rfl rfl rfl (fun x324 e324 a325 c326 => ?_)
        refine sxo_build (cells := [.slice a325 x324.length c326]) rfl st24 rfl (by kernel_rfl) rfl ?_
        refine sxo_alloc rfl tf24 rfl (fun g327 => ?_)
        refine sxo_storeB (i := 0) rfl rfl rfl tf24 rfl rfl rfl rfl rfl ?_
        refine sxo_nil ?_
        refine sxq_next ?_
        refine sxc_join (fun ((x1269, g1268) : (List (List Int) × List (Option Addr × Nat))) => [(4, .pointer (some ⟨g5, 0, none⟩)), (7, .pointer (some ⟨g327, 0, none⟩))]) (fun ((x1269, g1268) : (List (List Int) × List (Option Addr × Nat))) => [⟨g327, 24, [.slice a325 x1269.length c326]⟩, ⟨g5, 24, [.slice none 0 0]⟩]) (fun ((x1269, g1268) : (List (List Int) × List (Option Addr × Nat))) => [RoN eN32 rN32 32 1 (.slice a325 x1269.length c326) x1269 g1268 []]) (fun ((x1269, g1268) : (List (List Int) × List (Option Addr × Nat))) => []) (fun ((x1269, _) : (List (List Int) × List (Option Addr × Nat))) => M_R_GraphOf_j43 F x1269) ?_ ?_
        · refine sxc_seq ?_
          refine sxc_region ?_
          refine sxo_assign rfl rfl rfl ?_
          refine sxo_nil ?_
          refine sxq_next ?_
          refine sxc_block ?_
          refine sxc_loopP (fun (((x1582, x1584), g1583) : ((Int × List (List Int)) × List (Option Addr × Nat))) => [(0, .int .i64 x1), (1, .slice a3 x2.length c4), (4, .pointer (some ⟨g5, 0, none⟩)), (7, .pointer (some ⟨g327, 0, none⟩)), (8, .int .i64 x1582)]) (fun (((x1582, x1584), g1583) : ((Int × List (List Int)) × List (Option Addr × Nat))) => [⟨g327, 24, [.slice a325 x1584.length c326]⟩, ⟨g5, 24, [.slice none 0 0]⟩]) (fun (((x1582, x1584), g1583) : ((Int × List (List Int)) × List (Option Addr × Nat))) => [RoN eN32 rN32 32 1 (.slice a325 x1584.length c326) x1584 g1583 []]) (fun (((x1582, x1584), g1583) : ((Int × List (List Int)) × List (Option Addr × Nat))) => [Sl eS44 2 (.slice a3 x2.length c4) x2]) (fun k (s : ((Int × List (List Int)) × List (Option Addr × Nat))) => M_R_GraphOf_l62 F x1 x2 k s.1) ((0, x324), (List.replicate x324.length ((none, 0) : Option Addr × Nat))) F (lk_cons rfl (lk_cons rfl (lk_cons rfl (lk_cons rfl (lk_cons rfl lk_nil))))) (.cons 0 rfl (.cons 0 rfl .nil)) (.cons 0 rfl .nil) (fk_cons 0 rfl fk_nil) (fun _ => rfl) ?_
          intro k1897
          rintro ⟨⟨x1582, x1584⟩, g1583⟩
          try dsimp only
          refine sxc_meq (m' := M_R_GraphOf_b62 F x1 x2 (M_R_GraphOf_l62 F x1 x2 k1897) x1582 x1584) rfl ?_
          refine sxc_seq ?_
          refine sxc_seq ?_
          refine sxc_region ?_
          refine sxo_move rfl rfl rfl ?_
          refine sxo_move rfl rfl rfl ?_
          refine sxo_lss rfl rfl rfl rfl ?_
          refine sxo_nil ?_
          refine sxq_next ?_
          refine sxc_if rfl (fun h2209 => ?_) (fun h2209 => ?_)
          · refine sxc_skip ?_
            refine sxq_next ?_
            refine sxc_join (fun ((x2054, g2053) : (List (List Int) × List (Option Addr × Nat))) => [(0, .int .i64 x1), (1, .slice a3 x2.length c4), (4, .pointer (some ⟨g5, 0, none⟩)), (7, .pointer (some ⟨g327, 0, none⟩)), (8, .int .i64 x1582)]) (fun ((x2054, g2053) : (List (List Int) × List (Option Addr × Nat))) => [⟨g327, 24, [.slice a325 x2054.length c326]⟩, ⟨g5, 24, [.slice none 0 0]⟩]) (fun ((x2054, g2053) : (List (List Int) × List (Option Addr × Nat))) => [RoN eN32 rN32 32 1 (.slice a325 x2054.length c326) x2054 g2053 []]) (fun ((x2054, g2053) : (List (List Int) × List (Option Addr × Nat))) => [Sl eS44 2 (.slice a3 x2.length c4) x2]) (fun ((x2054, _) : (List (List Int) × List (Option Addr × Nat))) => M_R_GraphOf_j67 F (M_R_GraphOf_l62 F x1 x2 k1897) x1582 x2054) ?_ ?_
            · refine sxc_block ?_
              refine sxc_seq ?_
              refine sxc_region ?_
              refine sxo_assign rfl rfl rfl ?_
              refine sxo_nil ?_
              refine sxq_next ?_
              refine sxc_block ?_
              refine sxc_loopP (fun (((x2105, x2107), g2106) : ((Int × List (List Int)) × List (Option Addr × Nat))) => [(0, .int .i64 x1), (1, .slice a3 x2.length c4), (4, .pointer (some ⟨g5, 0, none⟩)), (7, .pointer (some ⟨g327, 0, none⟩)), (8, .int .i64 x1582), (9, .int .i64 x2105)]) (fun (((x2105, x2107), g2106) : ((Int × List (List Int)) × List (Option Addr × Nat))) => [⟨g327, 24, [.slice a325 x2107.length c326]⟩, ⟨g5, 24, [.slice none 0 0]⟩]) (fun (((x2105, x2107), g2106) : ((Int × List (List Int)) × List (Option Addr × Nat))) => [RoN eN32 rN32 32 1 (.slice a325 x2107.length c326) x2107 g2106 []]) (fun (((x2105, x2107), g2106) : ((Int × List (List Int)) × List (Option Addr × Nat))) => [Sl eS44 2 (.slice a3 x2.length c4) x2]) (fun k (s : ((Int × List (List Int)) × List (Option Addr × Nat))) => M_R_GraphOf_l70 F (M_R_GraphOf_l62 F x1 x2 k1897) x1 x2 x1582 k s.1) ((0, x1584), g1583) F (lk_cons rfl (lk_cons rfl (lk_cons rfl (lk_cons rfl (lk_cons rfl (lk_cons rfl lk_nil)))))) (.cons 0 rfl (.cons 0 rfl .nil)) (.cons 0 rfl .nil) (fk_cons 0 rfl fk_nil) (fun _ => rfl) ?_
              intro k2158
              rintro ⟨⟨x2105, x2107⟩, g2106⟩
              try dsimp only
              refine sxc_meq (m' := M_R_GraphOf_b70 F (M_R_GraphOf_l62 F x1 x2 k1897) x1 x2 x1582 (M_R_GraphOf_l70 F (M_R_GraphOf_l62 F x1 x2 k1897) x1 x2 x1582 k2158) x2105 x2107) rfl ?_
              refine sxc_seq ?_
              refine sxc_seq ?_
              refine sxc_region ?_
              refine sxo_move rfl rfl rfl ?_
              refine sxo_move rfl rfl rfl ?_
              refine sxo_lss rfl rfl rfl rfl ?_
              refine sxo_nil ?_
              refine sxq_next ?_
              refine sxc_if rfl (fun h2208 => ?_) (fun h2208 => ?_)
              · refine sxc_skip ?_
                refine sxq_next ?_
                refine sxc_join (fun ((x2184, g2183) : (List (List Int) × List (Option Addr × Nat))) => [(0, .int .i64 x1), (1, .slice a3 x2.length c4), (4, .pointer (some ⟨g5, 0, none⟩)), (7, .pointer (some ⟨g327, 0, none⟩)), (8, .int .i64 x1582), (9, .int .i64 x2105)]) (fun ((x2184, g2183) : (List (List Int) × List (Option Addr × Nat))) => [⟨g327, 24, [.slice a325 x2184.length c326]⟩, ⟨g5, 24, [.slice none 0 0]⟩]) (fun ((x2184, g2183) : (List (List Int) × List (Option Addr × Nat))) => [RoN eN32 rN32 32 1 (.slice a325 x2184.length c326) x2184 g2183 []]) (fun ((x2184, g2183) : (List (List Int) × List (Option Addr × Nat))) => [Sl eS44 2 (.slice a3 x2.length c4) x2]) (fun ((x2184, _) : (List (List Int) × List (Option Addr × Nat))) => M_R_GraphOf_j71 F (M_R_GraphOf_l70 F (M_R_GraphOf_l62 F x1 x2 k1897) x1 x2 x1582 k2158) x2105 x2184) ?_ ?_
                · refine sxc_block ?_
                  refine sxc_seq ?_
                  refine sxc_region ?_
                  refine sxo_move rfl rfl rfl ?_
                  refine sxo_move rfl rfl rfl ?_
                  refine sxo_move rfl rfl rfl ?_
                  refine sxo_build (cells := [.int .i64 x1582, .int .i64 x2105]) rfl st44 rfl (by kernel_rfl) rfl ?_
                  refine sxo_call ent31 rfl rfl rfl (fun x2185 e2185 => C_R_HasArc F x2 a3 c4 x1582 x2105 x2185 e2185) (.consF 0 rfl .nil) (fun x2185 e2185 => ?_)
                  intro _
                  refine sxo_nil ?_
                  refine sxq_next ?_
                  refine sxc_if rfl (fun h2207 => ?_) (fun h2207 => ?_)
                  · refine sxc_idxP (j := 0) rfl (fun x2186 e2186 g2187 h2188 g2189 h2190 => ?_)
                    replace h2190 : a325 = some ⟨g2189, 0, none⟩ := h2190
                    have h2191 := own_of (k := x2107.length) (c := c326) h2190
                    refine sxc_openN (i := 0) rfl h2188 (List.not_mem_nil) ?_
                    refine sxc_idxP (j := 1) rfl (fun x2192 e2192 g2193 h2194 g2195 h2196 => ?_)
                    replace h2196 : a325 = some ⟨g2195, 0, none⟩ := h2196
                    have h2197 := own_of (k := x2107.length) (c := c326) h2196
                    refine sxb_draw mixed [12] [⟨g327, 24, [.slice a325 x2107.length c326]⟩, ⟨g5, 24, [.slice none 0 0]⟩] [Sl eS44 2 (.slice a3 x2.length c4) x2, CellsAt g2189 (x1582.toNat * 1) (eN32 (x2186, g2187)), CellsAt g2195 (x1582.toNat * 1) (eN32 (x2192, g2193))] (.cons 0 rfl (.cons 0 rfl .nil)) (gk_F 0 rfl (gk_R 1 rfl (at_rowN eN32_ok h2188 h2190) (gk_R 1 rfl (at_rowN eN32_ok h2194 h2196) gk_nil))) 13 rfl ?_
                    refine sxb_takeP 0 (.pointer (some ⟨g327, 0, none⟩)) rfl rfl rfl rfl (by kernel_rfl) (by kernel_rfl) (by kernel_rfl) (by kernel_rfl) (by kernel_rfl) rfl (show _ = #[true, false, false, false, false, false, false, false, false, false, false, false, false] from rfl) (yv_fieldAddr rfl ff24_0) ?_
                    refine sxb_take 1 (.slice a325 x2107.length c326) [[12]] rfl rfl rfl rfl (by kernel_rfl) (by kernel_rfl) (by kernel_rfl) (by kernel_rfl) (by kernel_rfl) (by kernel_rfl) rfl (show _ = #[true, true, false, false, false, false, false, false, false, false, false, false, false] from rfl) (yv_loadB (i := 0) rfl tf22 rfl rfl (fun _ => rfl) rfl) ?_
                    refine sxb_takeP 2 (.int .i64 x1582) rfl rfl rfl rfl (by kernel_rfl) (by kernel_rfl) (by kernel_rfl) (by kernel_rfl) (by kernel_rfl) rfl (show _ = #[true, true, true, false, false, false, false, false, false, false, false, false, false] from rfl) (yv_pv rfl) ?_
                    refine sxb_takeP 3 (.pointer (some ⟨g327, 0, none⟩)) rfl rfl rfl rfl (by kernel_rfl) (by kernel_rfl) (by kernel_rfl) (by kernel_rfl) (by kernel_rfl) rfl (show _ = #[true, true, true, true, false, false, false, false, false, false, false, false, false] from rfl) (yv_fieldAddr rfl ff24_0) ?_
                    refine sxb_take 4 (.slice a325 x2107.length c326) [[12]] rfl rfl rfl rfl (by kernel_rfl) (by kernel_rfl) (by kernel_rfl) (by kernel_rfl) (by kernel_rfl) (by kernel_rfl) rfl (show _ = #[true, true, true, true, true, false, false, false, false, false, false, false, false] from rfl) (yv_loadB (i := 0) rfl tf22 rfl rfl (fun _ => rfl) rfl) ?_
                    refine sxb_takeP 5 (.int .i64 x1582) rfl rfl rfl rfl (by kernel_rfl) (by kernel_rfl) (by kernel_rfl) (by kernel_rfl) (by kernel_rfl) rfl (show _ = #[true, true, true, true, true, true, false, false, false, false, false, false, false] from rfl) (yv_pv rfl) ?_
                    refine sxb_again (d := 76) (v := .slice (some ⟨g2189, 0, none⟩) x2107.length c326) rfl (by rw [h2190]) ?_
                    refine sxb_takeP 6 (.pointer (some ⟨g2189, x1582.toNat * 1, none⟩)) rfl rfl rfl rfl (by kernel_rfl) (by kernel_rfl) (by kernel_rfl) (by kernel_rfl) (by kernel_rfl) rfl (show _ = #[true, true, true, true, true, true, true, false, false, false, false, false, false] from rfl) (yv_idxO Try.underlying22 tf32 rfl rfl (idx_get e2186).1 (idx_lt e2186)) ?_
                    refine sxb_again (d := 76) (v := .slice a325 x2107.length c326) rfl (by rw [h2190]) ?_
                    refine sxb_take 7 (.slice g2187.1 x2186.length g2187.2) [[12]] rfl rfl rfl rfl (by kernel_rfl) (by kernel_rfl) (by kernel_rfl) (by kernel_rfl) (by kernel_rfl) (by kernel_rfl) rfl (show _ = #[true, true, true, true, true, true, true, true, false, false, false, false, false] from rfl) (yv_loadF (j := 1) rfl tf32 rfl rfl (fun _ => rfl) rfl) ?_
                    refine sxb_takeP 8 (.int .i64 x2105) rfl rfl rfl rfl (by kernel_rfl) (by kernel_rfl) (by kernel_rfl) (by kernel_rfl) (by kernel_rfl) rfl (show _ = #[true, true, true, true, true, true, true, true, true, false, false, false, false] from rfl) (yv_pv rfl) ?_
                    refine sxb_step 9 rfl (by kernel_rfl) (show _ = #[true, true, true, true, true, true, true, true, true, true, false, false, false] from rfl) ?_
                    refine sxo_slit (vs := [.int .i64 x2105]) (ys := ([x2105] : List Int)) (eI_ok .i64) (by decide) rfl Try.underlying32 tf3 rfl rfl rfl rfl rfl (by decide) (fun a2198 c2199 => ?_)
                    refine sxo_nil ?_
                    refine sxq_anyB (.cons 0 rfl (.cons 0 rfl .nil)) (gk_F 0 rfl (gk_R 2 rfl (at_rowN eN32_ok h2188 h2190) (gk_R 2 rfl (at_rowN eN32_ok h2194 h2196) gk_nil))) ?_
                    refine sxb_step 10 rfl (by kernel_rfl) (show _ = #[true, true, true, true, true, true, true, true, true, true, true, false, false] from rfl) ?_
                    refine sxo_app 1 (eI_ok .i64) rfl Try.underlying32 tf3 rfl rfl rfl rfl rfl (.inl ⟨0, _, rfl⟩) rfl rfl (fun x2200 e2200 a2201 c2202 => ?_)
                    refine sxo_nil ?_
                    refine sxq_anyB (.cons 0 rfl (.cons 0 rfl .nil)) (gk_F 0 rfl (gk_R 2 rfl (at_rowN eN32_ok h2188 h2190) (gk_R 2 rfl (at_rowN eN32_ok h2194 h2196) gk_nil))) ?_
                    refine sxb_again (d := 73) (v := .slice (some ⟨g2195, 0, none⟩) x2107.length c326) rfl (by rw [h2196]) ?_
                    refine sxb_takeP 11 (.pointer (some ⟨g2195, x1582.toNat * 1, none⟩)) rfl rfl rfl rfl (by kernel_rfl) (by kernel_rfl) (by kernel_rfl) (by kernel_rfl) (by kernel_rfl) rfl (show _ = #[true, true, true, true, true, true, true, true, true, true, true, true, false] from rfl) (yv_idxO Try.underlying22 tf32 rfl rfl (idx_get e2192).1 (idx_lt e2192)) ?_
                    refine sxb_again (d := 73) (v := .slice a325 x2107.length c326) rfl (by rw [h2196]) ?_
                    refine sxb_step 12 rfl (by kernel_rfl) (show _ = #[true, true, true, true, true, true, true, true, true, true, true, true, true] from rfl) ?_
                    refine sxo_storeC (j := 2) (kh := 0) (y' := x2200) (q' := (a2201, c2202)) eN32_ok rfl rfl rfl tf32 rfl (own_of h2196) rfl (idx_get e2192).2.1 rfl (.cons 0 rfl .nil) (fun x2203 e2203 h2204 g2206 => ?_)
                    have h2205 : x2203.length = x2107.length := by rw [← e2203, List.length_set]
                    refine sxo_again (d := 73) (v := .slice a325 x2203.length c326) rfl (by rw [h2204]) ?_
                    refine sxo_again (d := 76) (v := .slice a325 x2203.length c326) rfl (by rw [h2204]) ?_
                    refine sxo_blkAgain (i := 0) (cs' := [.slice a325 x2203.length c326]) rfl (by rw [h2204]) ?_
                    refine sxo_nil ?_
                    refine sxq_anyW 12 rfl rfl ?_
                    refine sxb_done (by kernel_rfl) ?_
                    refine sxq_np ?_ (by intro c h; cases h)
                    refine sxq_blkN ?_
                    exact sxq_meetP (x2203, g2206) (lk_cons rfl (lk_cons rfl (lk_cons rfl (lk_cons rfl (lk_cons rfl (lk_cons rfl lk_nil)))))) (.cons 0 rfl (.cons 0 rfl .nil)) (.cons 0 rfl .nil) (fk_cons 0 rfl fk_nil)
                  · refine sxc_skip ?_
                    refine sxq_blkN ?_
                    exact sxq_meetP (x2107, g2106) (lk_cons rfl (lk_cons rfl (lk_cons rfl (lk_cons rfl (lk_cons rfl (lk_cons rfl lk_nil)))))) (.cons 0 rfl (.cons 0 rfl .nil)) (.cons 0 rfl .nil) (fk_cons 0 rfl fk_nil)
                · rintro ⟨x2184, g2183⟩
                  try dsimp only
                  refine sxc_region ?_
                  refine sxo_move rfl rfl rfl ?_
                  refine sxo_add rfl rfl rfl rfl ?_
                  refine sxo_assign rfl rfl rfl ?_
                  refine sxo_nil ?_
                  exact sxq_againP ((iadd .i64 x2105 1, x2184), g2183) (lk_cons rfl (lk_cons rfl (lk_cons rfl (lk_cons rfl (lk_cons rfl (lk_cons rfl lk_nil)))))) (.cons 0 rfl (.cons 0 rfl .nil)) (.cons 0 rfl .nil) (fk_cons 0 rfl fk_nil)
              · refine sxc_exit ?_
                refine sxq_thenX ?_
                refine sxq_thenX ?_
                refine sxq_blkX ?_
                refine sxq_blkN ?_
                exact sxq_meetP (x2107, g2106) (lk_cons rfl (lk_cons rfl (lk_cons rfl (lk_cons rfl (lk_cons rfl lk_nil))))) (.cons 0 rfl (.cons 0 rfl .nil)) (.cons 0 rfl .nil) (fk_cons 0 rfl fk_nil)
            · rintro ⟨x2054, g2053⟩
              try dsimp only
              refine sxc_region ?_
              refine sxo_move rfl rfl rfl ?_
              refine sxo_add rfl rfl rfl rfl ?_
              refine sxo_assign rfl rfl rfl ?_
              refine sxo_nil ?_
              exact sxq_againP ((iadd .i64 x1582 1, x2054), g2053) (lk_cons rfl (lk_cons rfl (lk_cons rfl (lk_cons rfl (lk_cons rfl lk_nil))))) (.cons 0 rfl (.cons 0 rfl .nil)) (.cons 0 rfl .nil) (fk_cons 0 rfl fk_nil)
          · refine sxc_exit ?_
            refine sxq_thenX ?_
            refine sxq_thenX ?_
            refine sxq_blkX ?_
            exact sxq_meetP (x1584, g1583) (lk_cons rfl (lk_cons rfl lk_nil)) (.cons 0 rfl (.cons 0 rfl .nil)) (.cons 0 rfl .nil) fk_nil
        · rintro ⟨x1269, g1268⟩
          try dsimp only
          refine sxc_seq ?_
          refine sxc_region ?_
          refine sxo_loadB (i := 0) rfl rfl tf24 rfl rfl (by simp) rfl rfl ?_
          refine sxo_storeB (i := 1) rfl rfl rfl tf24 rfl rfl rfl rfl rfl ?_
          refine sxo_assign rfl rfl rfl ?_
          refine sxo_nil ?_
          refine sxq_next ?_
          refine sxc_ret ?_
          exact sxq_doneP (a325, (c326, g1268)) (.inl rfl) (resL (rs := [.cell 4 24, .tmp 5]) rfl (.cell (i := 1) rfl tf24 rfl rfl (by simp) rfl (.tmp rfl ResOk.nil)) rfl) (fun h => by subst h; rfl) (fun h => by subst h; exact (.cons 0 rfl .nil))

theorem C_R_GraphArcs (F : Nat) (x1 : List (List Int)) (a2 : Option Addr) (c3 : (Nat × List (Option Addr × Nat))) (r : List (Int × Int)) (hm : M_R_GraphArcs F x1 = some r) :
    Pure Try.prog 22 [.agg #[.slice a2 x1.length c3.1]] [SlN eN32 iN32 1 (.slice a2 x1.length c3.1) x1 c3.2] (Option Addr × Nat) (fun g => .slice g.1 r.length g.2) (fun g => [Ro eS44 44 2 (.slice g.1 r.length g.2) r]) (fun _ => []) := by
  refine pure_of Try.func22 rfl Try.ntmps22 rfl hm (fun w => ?_)
  refine sxc_env (l' := [(0, .agg #[.slice a2 x1.length c3.1])]) rfl ?_
  refine sxc_seq ?_
  refine sxc_region ?_
  refine sxo_box rfl rfl rfl (fun g4 => ?_)
  refine sxo_assign rfl rfl rfl ?_
  refine sxo_nil ?_
  refine sxq_next ?_
  refine sxc_seq ?_
  refine sxc_region ?_
  refine sxo_assign rfl rfl rfl ?_
  refine sxo_nil ?_
  refine sxq_next ?_
  refine sxc_join (fun ((x669, (a667, c668)) : (List (Int × Int) × (Option Addr × Nat))) => [(3, .slice a667 x669.length c668)]) (fun ((x669, (a667, c668)) : (List (Int × Int) × (Option Addr × Nat))) => []) (fun ((x669, (a667, c668)) : (List (Int × Int) × (Option Addr × Nat))) => [Ro eS44 44 2 (.slice a667 x669.length c668) x669]) (fun ((x669, (a667, c668)) : (List (Int × Int) × (Option Addr × Nat))) => []) (fun ((x669, _) : (List (Int × Int) × (Option Addr × Nat))) => M_R_GraphArcs_j11 F x669) ?_ ?_
  · refine sxc_seq ?_
    refine sxc_region ?_
    refine sxo_assign rfl rfl rfl ?_
    refine sxo_nil ?_
    refine sxq_next ?_
    refine sxc_block ?_
    refine sxc_nilrow (Int × Int) eS44 44 2 ?_
    refine sxc_loopP (fun (((x891, x892), (a889, c890)) : ((List (Int × Int) × Int) × (Option Addr × Nat))) => [(1, .pointer (some ⟨g4, 0, none⟩)), (3, .slice a889 x891.length c890), (4, .int .i64 x892)]) (fun (((x891, x892), (a889, c890)) : ((List (Int × Int) × Int) × (Option Addr × Nat))) => [⟨g4, 24, [.slice a2 x1.length c3.1]⟩]) (fun (((x891, x892), (a889, c890)) : ((List (Int × Int) × Int) × (Option Addr × Nat))) => [Ro eS44 44 2 (.slice a889 x891.length c890) x891]) (fun (((x891, x892), (a889, c890)) : ((List (Int × Int) × Int) × (Option Addr × Nat))) => [SlN eN32 iN32 1 (.slice a2 x1.length c3.1) x1 c3.2]) (fun k (s : ((List (Int × Int) × Int) × (Option Addr × Nat))) => M_R_GraphArcs_l18 F x1 k s.1) ((([] : List (Int × Int)), 0), (none, 0)) F (lk_cons rfl (lk_cons rfl (lk_cons rfl lk_nil))) (.cons 0 rfl .nil) (.cons 0 rfl .nil) (fk_cons 0 rfl fk_nil) (fun _ => rfl) ?_
    intro k1112
    rintro ⟨⟨x891, x892⟩, ⟨a889, c890⟩⟩
    try dsimp only
    refine sxc_meq (m' := M_R_GraphArcs_b18 F x1 (M_R_GraphArcs_l18 F x1 k1112) x891 x892) rfl ?_
    refine sxc_seq ?_
    refine sxc_seq ?_
    refine sxc_region ?_
    refine sxo_move rfl rfl rfl ?_
    refine sxo_fieldAddr rfl rfl ff24_0 rfl ?_
    refine sxo_loadB (i := 0) rfl rfl tf22 rfl rfl (fun _ => rfl) rfl rfl ?_
    refine sxo_len rfl Try.underlying22 rfl rfl ?_
    refine sxo_lss rfl rfl rfl rfl ?_
    refine sxo_nil ?_
    refine sxq_next ?_
    refine sxc_if rfl (fun h1331 => ?_) (fun h1331 => ?_)
    · refine sxc_skip ?_
      refine sxq_next ?_
      refine sxc_join (fun ((x1223, (a1221, c1222)) : (List (Int × Int) × (Option Addr × Nat))) => [(1, .pointer (some ⟨g4, 0, none⟩)), (3, .slice a1221 x1223.length c1222), (4, .int .i64 x892)]) (fun ((x1223, (a1221, c1222)) : (List (Int × Int) × (Option Addr × Nat))) => [⟨g4, 24, [.slice a2 x1.length c3.1]⟩]) (fun ((x1223, (a1221, c1222)) : (List (Int × Int) × (Option Addr × Nat))) => [Ro eS44 44 2 (.slice a1221 x1223.length c1222) x1223]) (fun ((x1223, (a1221, c1222)) : (List (Int × Int) × (Option Addr × Nat))) => [SlN eN32 iN32 1 (.slice a2 x1.length c3.1) x1 c3.2]) (fun ((x1223, _) : (List (Int × Int) × (Option Addr × Nat))) => M_R_GraphArcs_j20 F (M_R_GraphArcs_l18 F x1 k1112) x892 x1223) ?_ ?_
      · refine sxc_block ?_
        refine sxc_seq ?_
        refine sxc_region ?_
        refine sxo_assign rfl rfl rfl ?_
        refine sxo_nil ?_
        refine sxq_next ?_
        refine sxc_block ?_
        refine sxc_loopP (fun (((x1260, x1261), (a1258, c1259)) : ((List (Int × Int) × Int) × (Option Addr × Nat))) => [(1, .pointer (some ⟨g4, 0, none⟩)), (3, .slice a1258 x1260.length c1259), (4, .int .i64 x892), (5, .int .i64 x1261)]) (fun (((x1260, x1261), (a1258, c1259)) : ((List (Int × Int) × Int) × (Option Addr × Nat))) => [⟨g4, 24, [.slice a2 x1.length c3.1]⟩]) (fun (((x1260, x1261), (a1258, c1259)) : ((List (Int × Int) × Int) × (Option Addr × Nat))) => [Ro eS44 44 2 (.slice a1258 x1260.length c1259) x1260]) (fun (((x1260, x1261), (a1258, c1259)) : ((List (Int × Int) × Int) × (Option Addr × Nat))) => [SlN eN32 iN32 1 (.slice a2 x1.length c3.1) x1 c3.2]) (fun k (s : ((List (Int × Int) × Int) × (Option Addr × Nat))) => M_R_GraphArcs_l21 F (M_R_GraphArcs_l18 F x1 k1112) x1 x892 k s.1) ((x891, 0), (a889, c890)) F (lk_cons rfl (lk_cons rfl (lk_cons rfl (lk_cons rfl lk_nil)))) (.cons 0 rfl .nil) (.cons 0 rfl .nil) (fk_cons 0 rfl fk_nil) (fun _ => rfl) ?_
        intro k1296
        rintro ⟨⟨x1260, x1261⟩, ⟨a1258, c1259⟩⟩
        try dsimp only
        refine sxc_meq (m' := M_R_GraphArcs_b21 F (M_R_GraphArcs_l18 F x1 k1112) x1 x892 (M_R_GraphArcs_l21 F (M_R_GraphArcs_l18 F x1 k1112) x1 x892 k1296) x1260 x1261) rfl ?_
        refine sxc_seq ?_
        refine sxc_seq ?_
        refine sxc_region ?_
        refine sxo_move rfl rfl rfl ?_
        refine sxo_fieldAddr rfl rfl ff24_0 rfl ?_
        refine sxo_loadB (i := 0) rfl rfl tf22 rfl rfl (fun _ => rfl) rfl rfl ?_
        refine sxo_move rfl rfl rfl ?_
        refine sxo_indexN (j := 0) eN32_ok (by decide) rfl Try.underlying22 tf32 rfl rfl rfl rfl (fun x1302 e1302 g1305 b1303 o1304 => ?_)
        refine sxo_loadF (j := 0) rfl rfl tf32 rfl rfl (fun _ => rfl) rfl rfl ?_
        refine sxo_len rfl Try.underlying32 rfl rfl ?_
        refine sxo_lss rfl rfl rfl rfl ?_
        refine sxo_nil ?_
        refine sxq_next ?_
        refine sxc_if rfl (fun h1330 => ?_) (fun h1330 => ?_)
        · refine sxc_skip ?_
          refine sxq_next ?_
          refine sxc_seq ?_
          refine sxc_block ?_
          refine sxc_region ?_
          refine sxo_move rfl rfl rfl ?_
          refine sxo_move rfl rfl rfl ?_
          refine sxo_fieldAddr rfl rfl ff24_0 rfl ?_
          refine sxo_loadB (i := 0) rfl rfl tf22 rfl rfl (fun _ => rfl) rfl rfl ?_
          refine sxo_move rfl rfl rfl ?_
          refine sxo_indexN (j := 2) eN32_ok (by decide) rfl Try.underlying22 tf32 rfl rfl rfl rfl (fun x1318 e1318 g1321 b1319 o1320 => ?_)
          refine sxo_loadF (j := 0) rfl rfl tf32 rfl rfl (fun _ => rfl) rfl rfl ?_
          refine sxo_move rfl rfl rfl ?_
          refine sxo_indexF (j := 1) (eI_ok .i64) (by decide) rfl Try.underlying32 tf3 rfl rfl rfl rfl (fun x1322 e1322 b1323 o1324 => ?_)
          refine sxo_loadF (j := 0) rfl rfl tf3 rfl rfl (fun _ => rfl) rfl rfl ?_
          refine sxo_build (cells := [.int .i64 x892, .int .i64 x1322]) rfl st44 rfl (by kernel_rfl) rfl ?_
          refine sxo_slit (vs := [.agg #[.int .i64 x892, .int .i64 x1322]]) (ys := ([(x892, x1322)] : List (Int × Int))) eS44_ok (by decide) rfl Try.underlying25 tf44 rfl rfl rfl rfl rfl (by decide) (fun a1325 c1326 => ?_)
          refine sxo_app 1 eS44_ok rfl Try.underlying25 tf44 rfl rfl rfl rfl rfl (.inl ⟨0, _, rfl⟩) rfl rfl (fun x1327 e1327 a1328 c1329 => ?_)
          refine sxo_assign rfl rfl rfl ?_
          refine sxo_nil ?_
          refine sxq_blkN ?_
          refine sxq_next ?_
          refine sxc_region ?_
          refine sxo_move rfl rfl rfl ?_
          refine sxo_add rfl rfl rfl rfl ?_
          refine sxo_assign rfl rfl rfl ?_
          refine sxo_nil ?_
          exact sxq_againP ((x1327, iadd .i64 x1261 1), (a1328, c1329)) (lk_cons rfl (lk_cons rfl (lk_cons rfl (lk_cons rfl lk_nil)))) (.cons 0 rfl .nil) (.cons 0 rfl .nil) (fk_cons 5 rfl fk_nil)
        · refine sxc_exit ?_
          refine sxq_thenX ?_
          refine sxq_thenX ?_
          refine sxq_blkX ?_
          refine sxq_blkN ?_
          exact sxq_meetP (x1260, (a1258, c1259)) (lk_cons rfl (lk_cons rfl (lk_cons rfl lk_nil))) (.cons 0 rfl .nil) (.cons 0 rfl .nil) (fk_cons 2 rfl fk_nil)
      · rintro ⟨x1223, ⟨a1221, c1222⟩⟩
        try dsimp only
        refine sxc_region ?_
        refine sxo_move rfl rfl rfl ?_
        refine sxo_add rfl rfl rfl rfl ?_
        refine sxo_assign rfl rfl rfl ?_
        refine sxo_nil ?_
        exact sxq_againP ((x1223, iadd .i64 x892 1), (a1221, c1222)) (lk_cons rfl (lk_cons rfl (lk_cons rfl lk_nil))) (.cons 0 rfl .nil) (.cons 0 rfl .nil) (fk_cons 0 rfl fk_nil)
    · refine sxc_exit ?_
      refine sxq_thenX ?_
      refine sxq_thenX ?_
      refine sxq_blkX ?_
      exact sxq_meetP (x891, (a889, c890)) (lk_cons rfl lk_nil) .nil (.cons 0 rfl .nil) fk_nil
  · rintro ⟨x669, ⟨a667, c668⟩⟩
    try dsimp only
    refine sxc_seq ?_
    refine sxc_region ?_
    refine sxo_move rfl rfl rfl ?_
    refine sxo_assign rfl rfl rfl ?_
    refine sxo_nil ?_
    refine sxq_next ?_
    refine sxc_ret ?_
    exact sxq_doneP (a667, c668) (.inl rfl) (res1 rfl rfl) (fun h => by subst h; rfl) (fun h => by subst h; exact (.cons 0 rfl .nil))

theorem C_R_GraphTurn (F : Nat) (x1 : List (List Int)) (a2 : Option Addr) (c3 : (Nat × List (Option Addr × Nat))) (r : List (List Int)) (hm : M_R_GraphTurn F x1 = some r) :
    Pure Try.prog 23 [.agg #[.slice a2 x1.length c3.1]] [SlN eN32 iN32 1 (.slice a2 x1.length c3.1) x1 c3.2] (Option Addr × (Nat × List (Option Addr × Nat))) (fun g => .agg #[.slice g.1 r.length g.2.1]) (fun g => [RoN eN32 rN32 32 1 (.slice g.1 r.length g.2.1) r g.2.2 []]) (fun _ => []) := by
  refine pure_of Try.func23 rfl Try.ntmps23 rfl hm (fun w => ?_)
  refine sxc_env (l' := [(0, .agg #[.slice a2 x1.length c3.1])]) rfl ?_
  refine sxc_seq ?_
  refine sxc_region ?_
  refine sxo_box rfl rfl rfl (fun g4 => ?_)
  refine sxo_alloc rfl tf24 rfl (fun g5 => ?_)
  refine sxo_nil ?_
  refine sxq_next ?_
  refine sxc_seq ?_
  refine sxc_region ?_
  refine sxo_fieldAddr rfl rfl ff24_0 rfl ?_
  refine sxo_loadB (i := 1) rfl rfl tf22 rfl rfl (fun _ => rfl) rfl rfl ?_
  refine sxo_len rfl Try.underlying22 rfl rfl ?_
  refine sxo_mkN (rin := rN32) (y := ([] : List Int)) (q := ((none, 0) : Option Addr × Nat)) eN32_ok (by decide) rN32_nil rfl Try.underlying22 tf32 rfl rfl rfl rfl rfl rfl (fun x6 e6 a7 c8 => ?_)
  refine sxo_build (cells := [.slice a7 x6.length c8]) rfl st24 rfl (by kernel_rfl) rfl ?_
  refine sxo_alloc rfl tf24 rfl (fun g9 => ?_)
  refine sxo_storeB (i := 0) rfl rfl rfl tf24 rfl rfl rfl rfl rfl ?_
  refine sxo_nil ?_
  refine sxq_next ?_
  refine sxc_join (fun ((x1239, g1238) : (List (List Int) × List (Option Addr × Nat))) => [(2, .pointer (some ⟨g5, 0, none⟩)), (3, .pointer (some ⟨g9, 0, none⟩))]) (fun ((x1239, g1238) : (List (List Int) × List (Option Addr × Nat))) => [⟨g9, 24, [.slice a7 x1239.length c8]⟩, ⟨g5, 24, [.slice none 0 0]⟩]) (fun ((x1239, g1238) : (List (List Int) × List (Option Addr × Nat))) => [RoN eN32 rN32 32 1 (.slice a7 x1239.length c8) x1239 g1238 []]) (fun ((x1239, g1238) : (List (List Int) × List (Option Addr × Nat))) => []) (fun ((x1239, _) : (List (List Int) × List (Option Addr × Nat))) => M_R_GraphTurn_j11 F x1239) ?_ ?_
  · refine sxc_seq ?_
    refine sxc_region ?_
    refine sxo_assign rfl rfl rfl ?_
    refine sxo_nil ?_
    refine sxq_next ?_
    refine sxc_block ?_
    refine sxc_loopP (fun (((x1648, x1650), g1649) : ((Int × List (List Int)) × List (Option Addr × Nat))) => [(1, .pointer (some ⟨g4, 0, none⟩)), (2, .pointer (some ⟨g5, 0, none⟩)), (3, .pointer (some ⟨g9, 0, none⟩)), (4, .int .i64 x1648)]) (fun (((x1648, x1650), g1649) : ((Int × List (List Int)) × List (Option Addr × Nat))) => [⟨g9, 24, [.slice a7 x1650.length c8]⟩, ⟨g5, 24, [.slice none 0 0]⟩, ⟨g4, 24, [.slice a2 x1.length c3.1]⟩]) (fun (((x1648, x1650), g1649) : ((Int × List (List Int)) × List (Option Addr × Nat))) => [RoN eN32 rN32 32 1 (.slice a7 x1650.length c8) x1650 g1649 []]) (fun (((x1648, x1650), g1649) : ((Int × List (List Int)) × List (Option Addr × Nat))) => [SlN eN32 iN32 1 (.slice a2 x1.length c3.1) x1 c3.2]) (fun k (s : ((Int × List (List Int)) × List (Option Addr × Nat))) => M_R_GraphTurn_l18 F x1 k s.1) ((0, x6), (List.replicate x6.length ((none, 0) : Option Addr × Nat))) F (lk_cons rfl (lk_cons rfl (lk_cons rfl (lk_cons rfl lk_nil)))) (.cons 0 rfl (.cons 0 rfl (.cons 0 rfl .nil))) (.cons 0 rfl .nil) (fk_cons 0 rfl fk_nil) (fun _ => rfl) ?_
    intro k2059
    rintro ⟨⟨x1648, x1650⟩, g1649⟩
    try dsimp only
    refine sxc_meq (m' := M_R_GraphTurn_b18 F x1 (M_R_GraphTurn_l18 F x1 k2059) x1648 x1650) rfl ?_
    refine sxc_seq ?_
    refine sxc_seq ?_
    refine sxc_region ?_
    refine sxo_move rfl rfl rfl ?_
    refine sxo_fieldAddr rfl rfl ff24_0 rfl ?_
    refine sxo_loadB (i := 2) rfl rfl tf22 rfl rfl (fun _ => rfl) rfl rfl ?_
    refine sxo_len rfl Try.underlying22 rfl rfl ?_
    refine sxo_lss rfl rfl rfl rfl ?_
    refine sxo_nil ?_
    refine sxq_next ?_
    refine sxc_if rfl (fun h2467 => ?_) (fun h2467 => ?_)
    · refine sxc_skip ?_
      refine sxq_next ?_
      refine sxc_join (fun ((x2264, g2263) : (List (List Int) × List (Option Addr × Nat))) => [(1, .pointer (some ⟨g4, 0, none⟩)), (2, .pointer (some ⟨g5, 0, none⟩)), (3, .pointer (some ⟨g9, 0, none⟩)), (4, .int .i64 x1648)]) (fun ((x2264, g2263) : (List (List Int) × List (Option Addr × Nat))) => [⟨g9, 24, [.slice a7 x2264.length c8]⟩, ⟨g5, 24, [.slice none 0 0]⟩, ⟨g4, 24, [.slice a2 x1.length c3.1]⟩]) (fun ((x2264, g2263) : (List (List Int) × List (Option Addr × Nat))) => [RoN eN32 rN32 32 1 (.slice a7 x2264.length c8) x2264 g2263 []]) (fun ((x2264, g2263) : (List (List Int) × List (Option Addr × Nat))) => [SlN eN32 iN32 1 (.slice a2 x1.length c3.1) x1 c3.2]) (fun ((x2264, _) : (List (List Int) × List (Option Addr × Nat))) => M_R_GraphTurn_j20 F (M_R_GraphTurn_l18 F x1 k2059) x1648 x2264) ?_ ?_
      · refine sxc_block ?_
        refine sxc_seq ?_
        refine sxc_region ?_
        refine sxo_assign rfl rfl rfl ?_
        refine sxo_nil ?_
        refine sxq_next ?_
        refine sxc_block ?_
        refine sxc_loopP (fun (((x2331, x2333), g2332) : ((Int × List (List Int)) × List (Option Addr × Nat))) => [(1, .pointer (some ⟨g4, 0, none⟩)), (2, .pointer (some ⟨g5, 0, none⟩)), (3, .pointer (some ⟨g9, 0, none⟩)), (4, .int .i64 x1648), (5, .int .i64 x2331)]) (fun (((x2331, x2333), g2332) : ((Int × List (List Int)) × List (Option Addr × Nat))) => [⟨g9, 24, [.slice a7 x2333.length c8]⟩, ⟨g5, 24, [.slice none 0 0]⟩, ⟨g4, 24, [.slice a2 x1.length c3.1]⟩]) (fun (((x2331, x2333), g2332) : ((Int × List (List Int)) × List (Option Addr × Nat))) => [RoN eN32 rN32 32 1 (.slice a7 x2333.length c8) x2333 g2332 []]) (fun (((x2331, x2333), g2332) : ((Int × List (List Int)) × List (Option Addr × Nat))) => [SlN eN32 iN32 1 (.slice a2 x1.length c3.1) x1 c3.2]) (fun k (s : ((Int × List (List Int)) × List (Option Addr × Nat))) => M_R_GraphTurn_l21 F (M_R_GraphTurn_l18 F x1 k2059) x1 x1648 k s.1) ((0, x1650), g1649) F (lk_cons rfl (lk_cons rfl (lk_cons rfl (lk_cons rfl (lk_cons rfl lk_nil))))) (.cons 0 rfl (.cons 0 rfl (.cons 0 rfl .nil))) (.cons 0 rfl .nil) (fk_cons 0 rfl fk_nil) (fun _ => rfl) ?_
        intro k2400
        rintro ⟨⟨x2331, x2333⟩, g2332⟩
        try dsimp only
        refine sxc_meq (m' := M_R_GraphTurn_b21 F (M_R_GraphTurn_l18 F x1 k2059) x1 x1648 (M_R_GraphTurn_l21 F (M_R_GraphTurn_l18 F x1 k2059) x1 x1648 k2400) x2331 x2333) rfl ?_
        refine sxc_seq ?_
        refine sxc_seq ?_
        refine sxc_region ?_
        refine sxo_move rfl rfl rfl ?_
        refine sxo_fieldAddr rfl rfl ff24_0 rfl ?_
        refine sxo_loadB (i := 2) rfl rfl tf22 rfl rfl (fun _ => rfl) rfl rfl ?_
        refine sxo_move rfl rfl rfl ?_
        refine sxo_indexN (j := 0) eN32_ok (by decide) rfl Try.underlying22 tf32 rfl rfl rfl rfl (fun x2406 e2406 g2409 b2407 o2408 => ?_)
        refine sxo_loadF (j := 0) rfl rfl tf32 rfl rfl (fun _ => rfl) rfl rfl ?_
        refine sxo_len rfl Try.underlying32 rfl rfl ?_
        refine sxo_lss rfl rfl rfl rfl ?_
        refine sxo_nil ?_
        refine sxq_next ?_
        refine sxc_if rfl (fun h2466 => ?_) (fun h2466 => ?_)
        · refine sxc_skip ?_
          refine sxq_next ?_
          refine sxc_seq ?_
          refine sxc_block ?_
          refine sxc_seq ?_
          refine sxc_region ?_
          refine sxo_fieldAddr rfl rfl ff24_0 rfl ?_
          refine sxo_loadB (i := 2) rfl rfl tf22 rfl rfl (fun _ => rfl) rfl rfl ?_
          refine sxo_move rfl rfl rfl ?_
          refine sxo_indexN (j := 2) eN32_ok (by decide) rfl Try.underlying22 tf32 rfl rfl rfl rfl (fun x2438 e2438 g2441 b2439 o2440 => ?_)
          refine sxo_loadF (j := 0) rfl rfl tf32 rfl rfl (fun _ => rfl) rfl rfl ?_
          refine sxo_move rfl rfl rfl ?_
          refine sxo_indexF (j := 1) (eI_ok .i64) (by decide) rfl Try.underlying32 tf3 rfl rfl rfl rfl (fun x2442 e2442 b2443 o2444 => ?_)
          refine sxo_loadF (j := 0) rfl rfl tf3 rfl rfl (fun _ => rfl) rfl rfl ?_
          refine sxo_assign rfl rfl rfl ?_
          refine sxo_nil ?_
          refine sxq_next ?_
          refine sxc_idxP (j := 0) rfl (fun x2445 e2445 g2446 h2447 g2448 h2449 => ?_)
          replace h2449 : a7 = some ⟨g2448, 0, none⟩ := h2449
          have h2450 := own_of (k := x2333.length) (c := c8) h2449
          refine sxc_openN (i := 0) rfl h2447 (List.not_mem_nil) ?_
          refine sxc_idxP (j := 1) rfl (fun x2451 e2451 g2452 h2453 g2454 h2455 => ?_)
          replace h2455 : a7 = some ⟨g2454, 0, none⟩ := h2455
          have h2456 := own_of (k := x2333.length) (c := c8) h2455
          refine sxb_draw mixed [12] [⟨g9, 24, [.slice a7 x2333.length c8]⟩, ⟨g5, 24, [.slice none 0 0]⟩, ⟨g4, 24, [.slice a2 x1.length c3.1]⟩] [CellsAt b2443 o2444 ((eI .i64) x2442), CellsAt b2439 o2440 (eN32 (x2438, g2441)), Sl (eI .i64) 1 (.slice g2441.1 x2438.length g2441.2) x2438, CellsAt b2407 o2408 (eN32 (x2406, g2409)), Sl (eI .i64) 1 (.slice g2409.1 x2406.length g2409.2) x2406, SlN eN32 iN32 1 (.slice a2 x1.length c3.1) x1 c3.2, CellsAt g2448 (x2442.toNat * 1) (eN32 (x2445, g2446)), CellsAt g2454 (x2442.toNat * 1) (eN32 (x2451, g2452))] (.cons 0 rfl (.cons 0 rfl (.cons 0 rfl .nil))) (gk_F 0 rfl (gk_F 1 rfl (gk_F 2 rfl (gk_F 3 rfl (gk_F 4 rfl (gk_F 5 rfl (gk_R 1 rfl (at_rowN eN32_ok h2447 h2449) (gk_R 1 rfl (at_rowN eN32_ok h2453 h2455) gk_nil)))))))) 13 rfl ?_
          refine sxb_takeP 0 (.pointer (some ⟨g9, 0, none⟩)) rfl rfl rfl rfl (by kernel_rfl) (by kernel_rfl) (by kernel_rfl) (by kernel_rfl) (by kernel_rfl) rfl (show _ = #[true, false, false, false, false, false, false, false, false, false, false, false, false] from rfl) (yv_fieldAddr rfl ff24_0) ?_
          refine sxb_take 1 (.slice a7 x2333.length c8) [[12]] rfl rfl rfl rfl (by kernel_rfl) (by kernel_rfl) (by kernel_rfl) (by kernel_rfl) (by kernel_rfl) (by kernel_rfl) rfl (show _ = #[true, true, false, false, false, false, false, false, false, false, false, false, false] from rfl) (yv_loadB (i := 0) rfl tf22 rfl rfl (fun _ => rfl) rfl) ?_
          refine sxb_takeP 2 (.int .i64 x2442) rfl rfl rfl rfl (by kernel_rfl) (by kernel_rfl) (by kernel_rfl) (by kernel_rfl) (by kernel_rfl) rfl (show _ = #[true, true, true, false, false, false, false, false, false, false, false, false, false] from rfl) (yv_pv rfl) ?_
          refine sxb_takeP 3 (.pointer (some ⟨g9, 0, none⟩)) rfl rfl rfl rfl (by kernel_rfl) (by kernel_rfl) (by kernel_rfl) (by kernel_rfl) (by kernel_rfl) rfl (show _ = #[true, true, true, true, false, false, false, false, false, false, false, false, false] from rfl) (yv_fieldAddr rfl ff24_0) ?_
          refine sxb_take 4 (.slice a7 x2333.length c8) [[12]] rfl rfl rfl rfl (by kernel_rfl) (by kernel_rfl) (by kernel_rfl) (by kernel_rfl) (by kernel_rfl) (by kernel_rfl) rfl (show _ = #[true, true, true, true, true, false, false, false, false, false, false, false, false] from rfl) (yv_loadB (i := 0) rfl tf22 rfl rfl (fun _ => rfl) rfl) ?_
          refine sxb_takeP 5 (.int .i64 x2442) rfl rfl rfl rfl (by kernel_rfl) (by kernel_rfl) (by kernel_rfl) (by kernel_rfl) (by kernel_rfl) rfl (show _ = #[true, true, true, true, true, true, false, false, false, false, false, false, false] from rfl) (yv_pv rfl) ?_
          refine sxb_again (d := 41) (v := .slice (some ⟨g2448, 0, none⟩) x2333.length c8) rfl (by rw [h2449]) ?_
          refine sxb_takeP 6 (.pointer (some ⟨g2448, x2442.toNat * 1, none⟩)) rfl rfl rfl rfl (by kernel_rfl) (by kernel_rfl) (by kernel_rfl) (by kernel_rfl) (by kernel_rfl) rfl (show _ = #[true, true, true, true, true, true, true, false, false, false, false, false, false] from rfl) (yv_idxO Try.underlying22 tf32 rfl rfl (idx_get e2445).1 (idx_lt e2445)) ?_
          refine sxb_again (d := 41) (v := .slice a7 x2333.length c8) rfl (by rw [h2449]) ?_
          refine sxb_take 7 (.slice g2446.1 x2445.length g2446.2) [[12]] rfl rfl rfl rfl (by kernel_rfl) (by kernel_rfl) (by kernel_rfl) (by kernel_rfl) (by kernel_rfl) (by kernel_rfl) rfl (show _ = #[true, true, true, true, true, true, true, true, false, false, false, false, false] from rfl) (yv_loadF (j := 6) rfl tf32 rfl rfl (fun _ => rfl) rfl) ?_
          refine sxb_takeP 8 (.int .i64 x1648) rfl rfl rfl rfl (by kernel_rfl) (by kernel_rfl) (by kernel_rfl) (by kernel_rfl) (by kernel_rfl) rfl (show _ = #[true, true, true, true, true, true, true, true, true, false, false, false, false] from rfl) (yv_pv rfl) ?_
          refine sxb_step 9 rfl (by kernel_rfl) (show _ = #[true, true, true, true, true, true, true, true, true, true, false, false, false] from rfl) ?_
          refine sxo_slit (vs := [.int .i64 x1648]) (ys := ([x1648] : List Int)) (eI_ok .i64) (by decide) rfl Try.underlying32 tf3 rfl rfl rfl rfl rfl (by decide) (fun a2457 c2458 => ?_)
          refine sxo_nil ?_
          refine sxq_anyB (.cons 0 rfl (.cons 0 rfl (.cons 0 rfl .nil))) (gk_F 0 rfl (gk_F 1 rfl (gk_F 2 rfl (gk_F 3 rfl (gk_F 4 rfl (gk_F 5 rfl (gk_R 2 rfl (at_rowN eN32_ok h2447 h2449) (gk_R 2 rfl (at_rowN eN32_ok h2453 h2455) gk_nil)))))))) ?_
          refine sxb_step 10 rfl (by kernel_rfl) (show _ = #[true, true, true, true, true, true, true, true, true, true, true, false, false] from rfl) ?_
          refine sxo_app 1 (eI_ok .i64) rfl Try.underlying32 tf3 rfl rfl rfl rfl rfl (.inl ⟨0, _, rfl⟩) rfl rfl (fun x2459 e2459 a2460 c2461 => ?_)
          refine sxo_nil ?_
          refine sxq_anyB (.cons 0 rfl (.cons 0 rfl (.cons 0 rfl .nil))) (gk_F 0 rfl (gk_F 1 rfl (gk_F 2 rfl (gk_F 3 rfl (gk_F 4 rfl (gk_F 5 rfl (gk_R 2 rfl (at_rowN eN32_ok h2447 h2449) (gk_R 2 rfl (at_rowN eN32_ok h2453 h2455) gk_nil)))))))) ?_
          refine sxb_again (d := 38) (v := .slice (some ⟨g2454, 0, none⟩) x2333.length c8) rfl (by rw [h2455]) ?_
          refine sxb_takeP 11 (.pointer (some ⟨g2454, x2442.toNat * 1, none⟩)) rfl rfl rfl rfl (by kernel_rfl) (by kernel_rfl) (by kernel_rfl) (by kernel_rfl) (by kernel_rfl) rfl (show _ = #[true, true, true, true, true, true, true, true, true, true, true, true, false] from rfl) (yv_idxO Try.underlying22 tf32 rfl rfl (idx_get e2451).1 (idx_lt e2451)) ?_
          refine sxb_again (d := 38) (v := .slice a7 x2333.length c8) rfl (by rw [h2455]) ?_
          refine sxb_step 12 rfl (by kernel_rfl) (show _ = #[true, true, true, true, true, true, true, true, true, true, true, true, true] from rfl) ?_
          refine sxo_storeC (j := 2) (kh := 0) (y' := x2459) (q' := (a2460, c2461)) eN32_ok rfl rfl rfl tf32 rfl (own_of h2455) rfl (idx_get e2451).2.1 rfl (.cons 0 rfl .nil) (fun x2462 e2462 h2463 g2465 => ?_)
          have h2464 : x2462.length = x2333.length := by rw [← e2462, List.length_set]
          refine sxo_again (d := 38) (v := .slice a7 x2462.length c8) rfl (by rw [h2463]) ?_
          refine sxo_again (d := 41) (v := .slice a7 x2462.length c8) rfl (by rw [h2463]) ?_
          refine sxo_blkAgain (i := 0) (cs' := [.slice a7 x2462.length c8]) rfl (by rw [h2463]) ?_
          refine sxo_nil ?_
          refine sxq_anyW 12 rfl rfl ?_
          refine sxb_done (by kernel_rfl) ?_
          refine sxq_np ?_ (by intro c h; cases h)
          refine sxq_blkN ?_
          refine sxq_next ?_
          refine sxc_region ?_
          refine sxo_move rfl rfl rfl ?_
          refine sxo_add rfl rfl rfl rfl ?_
          refine sxo_assign rfl rfl rfl ?_
          refine sxo_nil ?_
          exact sxq_againP ((iadd .i64 x2331 1, x2462), g2465) (lk_cons rfl (lk_cons rfl (lk_cons rfl (lk_cons rfl (lk_cons rfl lk_nil))))) (.cons 0 rfl (.cons 0 rfl (.cons 0 rfl .nil))) (.cons 0 rfl .nil) (fk_cons 5 rfl fk_nil)
        · refine sxc_exit ?_
          refine sxq_thenX ?_
          refine sxq_thenX ?_
          refine sxq_blkX ?_
          refine sxq_blkN ?_
          exact sxq_meetP (x2333, g2332) (lk_cons rfl (lk_cons rfl (lk_cons rfl (lk_cons rfl lk_nil)))) (.cons 0 rfl (.cons 0 rfl (.cons 0 rfl .nil))) (.cons 0 rfl .nil) (fk_cons 2 rfl fk_nil)
      · rintro ⟨x2264, g2263⟩
        try dsimp only
        refine sxc_region ?_
        refine sxo_move rfl rfl rfl ?_
        refine sxo_add rfl rfl rfl rfl ?_
        refine sxo_assign rfl rfl rfl ?_
        refine sxo_nil ?_
        exact sxq_againP ((iadd .i64 x1648 1, x2264), g2263) (lk_cons rfl (lk_cons rfl (lk_cons rfl (lk_cons rfl lk_nil)))) (.cons 0 rfl (.cons 0 rfl (.cons 0 rfl .nil))) (.cons 0 rfl .nil) (fk_cons 0 rfl fk_nil)
    · refine sxc_exit ?_
      refine sxq_thenX ?_
      refine sxq_thenX ?_
      refine sxq_blkX ?_
      exact sxq_meetP (x1650, g1649) (lk_cons rfl (lk_cons rfl lk_nil)) (.cons 0 rfl (.cons 0 rfl .nil)) (.cons 0 rfl .nil) fk_nil
  · rintro ⟨x1239, g1238⟩
    try dsimp only
    refine sxc_seq ?_
    refine sxc_region ?_
    refine sxo_loadB (i := 0) rfl rfl tf24 rfl rfl (by simp) rfl rfl ?_
    refine sxo_storeB (i := 1) rfl rfl rfl tf24 rfl rfl rfl rfl rfl ?_
    refine sxo_nil ?_
    refine sxq_next ?_
    refine sxc_ret ?_
    exact sxq_doneP (a7, (c8, g1238)) (.inl rfl) (resL (rs := [.cell 2 24]) rfl (.cell (i := 1) rfl tf24 rfl rfl (by simp) rfl ResOk.nil) rfl) (fun h => by subst h; rfl) (fun h => by subst h; exact (.cons 0 rfl .nil))

theorem C_R_HasInt (F : Nat) (x1 : List Int) (a2 : Option Addr) (c3 : Nat) (x4 : Int) (r : Bool) (hm : M_R_HasInt F x1 x4 = some r) :
    Pure Try.prog 40 [.slice a2 x1.length c3, .int .i64 x4] [Sl (eI .i64) 1 (.slice a2 x1.length c3) x1] Unit (fun _ => .bool r) (fun _ => []) (fun _ => []) := by
  refine pure_of Try.func40 rfl Try.ntmps40 rfl hm (fun w => ?_)
  refine sxc_env (l' := [(0, .slice a2 x1.length c3), (1, .int .i64 x4)]) rfl ?_
  refine sxc_seq ?_
  refine sxc_region ?_
  refine sxo_assign rfl rfl rfl ?_
  refine sxo_nil ?_
  refine sxq_next ?_
  refine sxc_join (fun ((_, _) : (Unit × Unit)) => []) (fun ((_, _) : (Unit × Unit)) => []) (fun ((_, _) : (Unit × Unit)) => []) (fun ((_, _) : (Unit × Unit)) => []) (fun ((_, _) : (Unit × Unit)) => M_R_HasInt_j2 F) ?_ ?_
  · refine sxc_seq ?_
    refine sxc_region ?_
    refine sxo_assign rfl rfl rfl ?_
    refine sxo_nil ?_
    refine sxq_next ?_
    refine sxc_block ?_
    refine sxc_loopP (fun ((x47, _) : (Int × Unit)) => [(0, .slice a2 x1.length c3), (1, .int .i64 x4), (5, .int .i64 x47)]) (fun ((x47, _) : (Int × Unit)) => []) (fun ((x47, _) : (Int × Unit)) => []) (fun ((x47, _) : (Int × Unit)) => [Sl (eI .i64) 1 (.slice a2 x1.length c3) x1]) (fun k (s : (Int × Unit)) => M_R_HasInt_l3 F x1 x4 k s.1) (0, ()) F (lk_cons rfl (lk_cons rfl (lk_cons rfl lk_nil))) .nil .nil (fk_cons 0 rfl fk_nil) (fun _ => rfl) ?_
    intro k58
    rintro ⟨x47, _⟩
    try dsimp only
    refine sxc_meq (m' := M_R_HasInt_b3 F x1 x4 (M_R_HasInt_l3 F x1 x4 k58) x47) rfl ?_
    refine sxc_seq ?_
    refine sxc_seq ?_
    refine sxc_region ?_
    refine sxo_move rfl rfl rfl ?_
    refine sxo_move rfl rfl rfl ?_
    refine sxo_len rfl Try.underlying32 rfl rfl ?_
    refine sxo_lss rfl rfl rfl rfl ?_
    refine sxo_nil ?_
    refine sxq_next ?_
    refine sxc_if rfl (fun h68 => ?_) (fun h68 => ?_)
    · refine sxc_skip ?_
      refine sxq_next ?_
      refine sxc_seq ?_
      refine sxc_block ?_
      refine sxc_seq ?_
      refine sxc_region ?_
      refine sxo_move rfl rfl rfl ?_
      refine sxo_move rfl rfl rfl ?_
      refine sxo_indexF (j := 0) (eI_ok .i64) (by decide) rfl Try.underlying32 tf3 rfl rfl rfl rfl (fun x64 e64 b65 o66 => ?_)
      refine sxo_loadF (j := 0) rfl rfl tf3 rfl rfl (fun _ => rfl) rfl rfl ?_
      refine sxo_move rfl rfl rfl ?_
      refine sxo_eql rfl rfl rfl rfl ?_
      refine sxo_nil ?_
      refine sxq_next ?_
      refine sxc_if rfl (fun h67 => ?_) (fun h67 => ?_)
      · refine sxc_seq ?_
        refine sxc_region ?_
        refine sxo_assign rfl rfl rfl ?_
        refine sxo_nil ?_
        refine sxq_next ?_
        refine sxc_ret ?_
        refine sxq_blkR ?_
        refine sxq_thenR ?_
        refine sxq_thenR ?_
        refine sxq_blkR ?_
        refine sxq_thenR ?_
        exact sxq_doneP () (.inl rfl) (res1 rfl rfl) (fun h => by subst h; rfl) (fun h => by subst h; exact .nil)
      · refine sxc_skip ?_
        refine sxq_blkN ?_
        refine sxq_next ?_
        refine sxc_region ?_
        refine sxo_move rfl rfl rfl ?_
        refine sxo_add rfl rfl rfl rfl ?_
        refine sxo_assign rfl rfl rfl ?_
        refine sxo_nil ?_
        exact sxq_againP (iadd .i64 x47 1, ()) (lk_cons rfl (lk_cons rfl (lk_cons rfl lk_nil))) .nil .nil (fk_cons 1 rfl fk_nil)
    · refine sxc_exit ?_
      refine sxq_thenX ?_
      refine sxq_thenX ?_
      refine sxq_blkX ?_
      exact sxq_meetP ((), ()) lk_nil .nil .nil fk_nil
  · rintro ⟨_, _⟩
    try dsimp only
    refine sxc_seq ?_
    refine sxc_region ?_
    refine sxo_assign rfl rfl rfl ?_
    refine sxo_nil ?_
    refine sxq_next ?_
    refine sxc_ret ?_
    exact sxq_doneP () (.inl rfl) (res1 rfl rfl) (fun h => by subst h; rfl) (fun h => by subst h; exact .nil)

theorem C_R_Leads (F : Nat) (x1 : List (List Int)) (a2 : Option Addr) (c3 : (Nat × List (Option Addr × Nat))) (x4 : Int) (x5 : Int) (r : Bool) (hm : M_R_Leads F x1 x4 x5 = some r) :
    Pure Try.prog 30 [.agg #[.slice a2 x1.length c3.1], .int .i64 x4, .int .i64 x5] [SlN eN32 iN32 1 (.slice a2 x1.length c3.1) x1 c3.2] Unit (fun _ => .bool r) (fun _ => []) (fun _ => []) := by
  refine pure_of Try.func30 rfl Try.ntmps30 rfl hm (fun w => ?_)
  refine sxc_env (l' := [(0, .agg #[.slice a2 x1.length c3.1]), (1, .int .i64 x4), (2, .int .i64 x5)]) rfl ?_
  refine sxc_seq ?_
  refine sxc_region ?_
  refine sxo_box rfl rfl rfl (fun g6 => ?_)
  refine sxo_assign rfl rfl rfl ?_
  refine sxo_nil ?_
  refine sxq_next ?_
  refine sxc_seq ?_
  refine sxc_region ?_
  refine sxo_fieldAddr rfl rfl ff24_0 rfl ?_
  refine sxo_loadB (i := 0) rfl rfl tf22 rfl rfl (fun _ => rfl) rfl rfl ?_
  refine sxo_move rfl rfl rfl ?_
  refine sxo_indexN (j := 0) eN32_ok (by decide) rfl Try.underlying22 tf32 rfl rfl rfl rfl (fun x7 e7 g10 b8 o9 => ?_)
  refine sxo_loadF (j := 0) rfl rfl tf32 rfl rfl (fun _ => rfl) rfl rfl ?_
  refine sxo_move rfl rfl rfl ?_
  refine sxo_call ent40 rfl rfl rfl (fun x11 e11 => C_R_HasInt F x7 g10.1 g10.2 x5 x11 e11) (.consF 1 rfl .nil) (fun x11 e11 => ?_)
  intro _
  refine sxo_assign rfl rfl rfl ?_
  refine sxo_nil ?_
  refine sxq_next ?_
  refine sxc_ret ?_
  exact sxq_doneP () (.inl rfl) (res1 rfl rfl) (fun h => by subst h; rfl) (fun h => by subst h; exact .nil)

set_option maxHeartbeats 4000000 in
theorem C_R_GraphBoth (F : Nat) (x1 : List (List Int)) (a2 : Option Addr) (c3 : (Nat × List (Option Addr × Nat))) (r : (List (List Int) × Int)) (hm : M_R_GraphBoth F x1 = some r) :
    Pure Try.prog 24 [.agg #[.slice a2 x1.length c3.1]] [SlN eN32 iN32 1 (.slice a2 x1.length c3.1) x1 c3.2] (Option Addr × (Nat × List (Option Addr × Nat))) (fun g => .tuple #[.agg #[.slice g.1 r.1.length g.2.1], .int .i64 r.2]) (fun g => [RoN eN32 rN32 32 1 (.slice g.1 r.1.length g.2.1) r.1 g.2.2 []]) (fun _ => []) := by
  refine pure_of Try.func24 rfl Try.ntmps24 rfl hm (fun w => ?_)
  refine sxc_env (l' := [(0, .agg #[.slice a2 x1.length c3.1])]) rfl ?_
  refine sxc_seq ?_
  refine sxc_region ?_
  refine sxo_box rfl rfl rfl (fun g4 => ?_)
  refine sxo_alloc rfl tf24 rfl (fun g5 => ?_)
  refine sxo_assign rfl rfl rfl ?_
  refine sxo_nil ?_
  refine sxq_next ?_
  refine sxc_seq ?_
  refine sxc_region ?_
  refine sxo_fieldAddr rfl rfl ff24_0 rfl ?_
  refine sxo_loadB (i := 1) rfl rfl tf22 rfl rfl (fun _ => rfl) rfl rfl ?_
  refine sxo_len rfl Try.underlying22 rfl rfl ?_
  refine sxo_assign rfl rfl rfl ?_
  refine sxo_nil ?_
  refine sxq_next ?_
  refine sxc_seq ?_
  refine sxc_region ?_
  refine sxo_move rfl rfl rfl ?_
  refine sxo_mkN (rin := rN32) (y := ([] : List Int)) (q := ((none, 0) : Option Addr × Nat)) eN32_ok (by decide) rN32_nil rfl Try.underlying22 tf32 rfl rfl rfl rfl rfl rfl (fun x6 e6 a7 c8 => ?_)
  refine sxo_build (cells := [.slice a7 x6.length c8]) rfl st24 rfl (by kernel_rfl) rfl ?_
  refine sxo_alloc rfl tf24 rfl (fun g9 => ?_)
  refine sxo_storeB (i := 0) rfl rfl rfl tf24 rfl rfl rfl rfl rfl ?_
  refine sxo_nil ?_
  refine sxq_next ?_
  refine sxc_seq ?_
  refine sxc_region ?_
  refine sxo_assign rfl rfl rfl ?_
  refine sxo_nil ?_
  refine sxq_next ?_
  refine sxc_join (fun (((x1878, x1880), g1879) : ((Int × List (List Int)) × List (Option Addr × Nat))) => [(2, .pointer (some ⟨g5, 0, none⟩)), (5, .pointer (some ⟨g9, 0, none⟩)), (6, .int .i64 x1878)]) (fun (((x1878, x1880), g1879) : ((Int × List (List Int)) × List (Option Addr × Nat))) => [⟨g9, 24, [.slice a7 x1880.length c8]⟩, ⟨g5, 24, [.slice none 0 0]⟩]) (fun (((x1878, x1880), g1879) : ((Int × List (List Int)) × List (Option Addr × Nat))) => [RoN eN32 rN32 32 1 (.slice a7 x1880.length c8) x1880 g1879 []]) (fun (((x1878, x1880), g1879) : ((Int × List (List Int)) × List (Option Addr × Nat))) => []) (fun (((x1878, x1880), _) : ((Int × List (List Int)) × List (Option Addr × Nat))) => M_R_GraphBoth_j65 F x1878 x1880) ?_ ?_
  · refine sxc_seq ?_
    refine sxc_region ?_
    refine sxo_assign rfl rfl rfl ?_
    refine sxo_nil ?_
    refine sxq_next ?_
    refine sxc_block ?_
    refine sxc_loopP (fun (((x2504, x2505, x2507), g2506) : ((Int × Int × List (List Int)) × List (Option Addr × Nat))) => [(1, .pointer (some ⟨g4, 0, none⟩)), (2, .pointer (some ⟨g5, 0, none⟩)), (4, .int .i64 (x1.length : Int)), (5, .pointer (some ⟨g9, 0, none⟩)), (6, .int .i64 x2504), (7, .int .i64 x2505)]) (fun (((x2504, x2505, x2507), g2506) : ((Int × Int × List (List Int)) × List (Option Addr × Nat))) => [⟨g9, 24, [.slice a7 x2507.length c8]⟩, ⟨g5, 24, [.slice none 0 0]⟩, ⟨g4, 24, [.slice a2 x1.length c3.1]⟩]) (fun (((x2504, x2505, x2507), g2506) : ((Int × Int × List (List Int)) × List (Option Addr × Nat))) => [RoN eN32 rN32 32 1 (.slice a7 x2507.length c8) x2507 g2506 []]) (fun (((x2504, x2505, x2507), g2506) : ((Int × Int × List (List Int)) × List (Option Addr × Nat))) => [SlN eN32 iN32 1 (.slice a2 x1.length c3.1) x1 c3.2]) (fun k (s : ((Int × Int × List (List Int)) × List (Option Addr × Nat))) => M_R_GraphBoth_l108 F x1 k s.1) ((0, 0, x6), (List.replicate x6.length ((none, 0) : Option Addr × Nat))) F (lk_cons rfl (lk_cons rfl (lk_cons rfl (lk_cons rfl (lk_cons rfl (lk_cons rfl lk_nil)))))) (.cons 0 rfl (.cons 0 rfl (.cons 0 rfl .nil))) (.cons 0 rfl .nil) (fk_cons 0 rfl fk_nil) (fun _ => rfl) ?_
    intro k3129
    rintro ⟨⟨x2504, x2505, x2507⟩, g2506⟩
    try dsimp only
    refine sxc_meq (m' := M_R_GraphBoth_b108 F x1 (M_R_GraphBoth_l108 F x1 k3129) x2504 x2505 x2507) rfl ?_
    refine sxc_seq ?_
    refine sxc_seq ?_
    refine sxc_region ?_
    refine sxo_move rfl rfl rfl ?_
    refine sxo_move rfl rfl rfl ?_
    refine sxo_lss rfl rfl rfl rfl ?_
    refine sxo_nil ?_
    refine sxq_next ?_
    refine sxc_if rfl (fun h3750 => ?_) (fun h3750 => ?_)
    · refine sxc_skip ?_
      refine sxq_next ?_
      refine sxc_join (fun (((x3439, x3441), g3440) : ((Int × List (List Int)) × List (Option Addr × Nat))) => [(1, .pointer (some ⟨g4, 0, none⟩)), (2, .pointer (some ⟨g5, 0, none⟩)), (4, .int .i64 (x1.length : Int)), (5, .pointer (some ⟨g9, 0, none⟩)), (6, .int .i64 x3439), (7, .int .i64 x2505)]) (fun (((x3439, x3441), g3440) : ((Int × List (List Int)) × List (Option Addr × Nat))) => [⟨g9, 24, [.slice a7 x3441.length c8]⟩, ⟨g5, 24, [.slice none 0 0]⟩, ⟨g4, 24, [.slice a2 x1.length c3.1]⟩]) (fun (((x3439, x3441), g3440) : ((Int × List (List Int)) × List (Option Addr × Nat))) => [RoN eN32 rN32 32 1 (.slice a7 x3441.length c8) x3441 g3440 []]) (fun (((x3439, x3441), g3440) : ((Int × List (List Int)) × List (Option Addr × Nat))) => [SlN eN32 iN32 1 (.slice a2 x1.length c3.1) x1 c3.2]) (fun (((x3439, x3441), _) : ((Int × List (List Int)) × List (Option Addr × Nat))) => M_R_GraphBoth_j119 F (M_R_GraphBoth_l108 F x1 k3129) x2505 x3439 x3441) ?_ ?_
      · refine sxc_block ?_
        refine sxc_seq ?_
        refine sxc_region ?_
        refine sxo_assign rfl rfl rfl ?_
        refine sxo_nil ?_
        refine sxq_next ?_
        refine sxc_block ?_
        refine sxc_loopP (fun (((x3543, x3544, x3546), g3545) : ((Int × Int × List (List Int)) × List (Option Addr × Nat))) => [(1, .pointer (some ⟨g4, 0, none⟩)), (2, .pointer (some ⟨g5, 0, none⟩)), (4, .int .i64 (x1.length : Int)), (5, .pointer (some ⟨g9, 0, none⟩)), (6, .int .i64 x3543), (7, .int .i64 x2505), (8, .int .i64 x3544)]) (fun (((x3543, x3544, x3546), g3545) : ((Int × Int × List (List Int)) × List (Option Addr × Nat))) => [⟨g9, 24, [.slice a7 x3546.length c8]⟩, ⟨g5, 24, [.slice none 0 0]⟩, ⟨g4, 24, [.slice a2 x1.length c3.1]⟩]) (fun (((x3543, x3544, x3546), g3545) : ((Int × Int × List (List Int)) × List (Option Addr × Nat))) => [RoN eN32 rN32 32 1 (.slice a7 x3546.length c8) x3546 g3545 []]) (fun (((x3543, x3544, x3546), g3545) : ((Int × Int × List (List Int)) × List (Option Addr × Nat))) => [SlN eN32 iN32 1 (.slice a2 x1.length c3.1) x1 c3.2]) (fun k (s : ((Int × Int × List (List Int)) × List (Option Addr × Nat))) => M_R_GraphBoth_l126 F (M_R_GraphBoth_l108 F x1 k3129) x1 x2505 k s.1) ((x2504, 0, x2507), g2506) F (lk_cons rfl (lk_cons rfl (lk_cons rfl (lk_cons rfl (lk_cons rfl (lk_cons rfl (lk_cons rfl lk_nil))))))) (.cons 0 rfl (.cons 0 rfl (.cons 0 rfl .nil))) (.cons 0 rfl .nil) (fk_cons 0 rfl fk_nil) (fun _ => rfl) ?_
        intro k3648
        rintro ⟨⟨x3543, x3544, x3546⟩, g3545⟩
        try dsimp only
        refine sxc_meq (m' := M_R_GraphBoth_b126 F (M_R_GraphBoth_l108 F x1 k3129) x1 x2505 (M_R_GraphBoth_l126 F (M_R_GraphBoth_l108 F x1 k3129) x1 x2505 k3648) x3543 x3544 x3546) rfl ?_
        refine sxc_seq ?_
        refine sxc_seq ?_
        refine sxc_region ?_
        refine sxo_move rfl rfl rfl ?_
        refine sxo_move rfl rfl rfl ?_
        refine sxo_lss rfl rfl rfl rfl ?_
        refine sxo_nil ?_
        refine sxq_next ?_
        refine sxc_if rfl (fun h3749 => ?_) (fun h3749 => ?_)
        · refine sxc_skip ?_
          refine sxq_next ?_
          refine sxc_join (fun (((x3698, x3700), g3699) : ((Int × List (List Int)) × List (Option Addr × Nat))) => [(1, .pointer (some ⟨g4, 0, none⟩)), (2, .pointer (some ⟨g5, 0, none⟩)), (4, .int .i64 (x1.length : Int)), (5, .pointer (some ⟨g9, 0, none⟩)), (6, .int .i64 x3698), (7, .int .i64 x2505), (8, .int .i64 x3544)]) (fun (((x3698, x3700), g3699) : ((Int × List (List Int)) × List (Option Addr × Nat))) => [⟨g9, 24, [.slice a7 x3700.length c8]⟩, ⟨g5, 24, [.slice none 0 0]⟩, ⟨g4, 24, [.slice a2 x1.length c3.1]⟩]) (fun (((x3698, x3700), g3699) : ((Int × List (List Int)) × List (Option Addr × Nat))) => [RoN eN32 rN32 32 1 (.slice a7 x3700.length c8) x3700 g3699 []]) (fun (((x3698, x3700), g3699) : ((Int × List (List Int)) × List (Option Addr × Nat))) => [SlN eN32 iN32 1 (.slice a2 x1.length c3.1) x1 c3.2]) (fun (((x3698, x3700), _) : ((Int × List (List Int)) × List (Option Addr × Nat))) => M_R_GraphBoth_j128 F (M_R_GraphBoth_l126 F (M_R_GraphBoth_l108 F x1 k3129) x1 x2505 k3648) x3544 x3698 x3700) ?_ ?_
          · refine sxc_block ?_
            refine sxc_seq ?_
            refine sxc_region ?_
            refine sxo_loadB (i := 2) rfl rfl tf24 rfl rfl (by simp) rfl rfl ?_
            refine sxo_move rfl rfl rfl ?_
            refine sxo_move rfl rfl rfl ?_
            refine sxo_call ent30 rfl rfl rfl (fun x3701 e3701 => C_R_Leads F x1 a2 c3 x2505 x3544 x3701 e3701) (.consF 0 rfl .nil) (fun x3701 e3701 => ?_)
            intro _
            refine sxo_move rfl rfl rfl ?_
            refine sxo_join 5 (fun ((x3704, _) : (Bool × Unit)) => [(1, .pointer (some ⟨g4, 0, none⟩)), (2, .pointer (some ⟨g5, 0, none⟩)), (4, .int .i64 (x1.length : Int)), (5, .pointer (some ⟨g9, 0, none⟩)), (6, .int .i64 x3543), (7, .int .i64 x2505), (8, .int .i64 x3544), (34, .bool x3704)]) (fun ((x3704, _) : (Bool × Unit)) => [⟨g9, 24, [.slice a7 x3546.length c8]⟩, ⟨g5, 24, [.slice none 0 0]⟩, ⟨g4, 24, [.slice a2 x1.length c3.1]⟩]) (fun ((x3704, _) : (Bool × Unit)) => [RoN eN32 rN32 32 1 (.slice a7 x3546.length c8) x3546 g3545 []]) (fun ((x3704, _) : (Bool × Unit)) => [SlN eN32 iN32 1 (.slice a2 x1.length c3.1) x1 c3.2]) (fun ((x3704, _) : (Bool × Unit)) => M_R_GraphBoth_j129 F (M_R_GraphBoth_l126 F (M_R_GraphBoth_l108 F x1 k3129) x1 x2505 k3648) x2505 x3543 x3544 x3546 x3704) ?_ ?_
            · refine sxo_take (os := _) rfl ?_
              refine sxo_if (fun h3702 => ?_) (fun h3702 => ?_)
              · refine sxo_isT (k := 29) rfl h3702 ?_
                refine sxo_skip rfl rfl rfl ?_
                refine sxo_skip rfl rfl rfl ?_
                refine sxo_skip rfl rfl rfl ?_
                refine sxo_skip rfl rfl rfl ?_
                refine sxo_pick (b := true) rfl rfl rfl rfl ?_
                refine sxo_nil ?_
                exact sxq_meetP (true, ()) (lk_cons rfl (lk_cons rfl (lk_cons rfl (lk_cons rfl (lk_cons rfl (lk_cons rfl (lk_cons rfl (lk_cons rfl lk_nil)))))))) (.cons 0 rfl (.cons 0 rfl (.cons 0 rfl .nil))) (.cons 0 rfl .nil) (fk_cons 0 rfl fk_nil)
              · refine sxo_isF (k := 29) rfl h3702 ?_
                refine sxo_loadB (i := 2) rfl rfl tf24 rfl rfl (by simp) rfl rfl ?_
                refine sxo_move rfl rfl rfl ?_
                refine sxo_move rfl rfl rfl ?_
                refine sxo_call ent30 rfl rfl rfl (fun x3748 e3748 => C_R_Leads F x1 a2 c3 x3544 x2505 x3748 e3748) (.consF 0 rfl .nil) (fun x3748 e3748 => ?_)
                intro _
                refine sxo_pick (b := false) rfl rfl rfl rfl ?_
                refine sxo_nil ?_
                exact sxq_meetP (x3748, ()) (lk_cons rfl (lk_cons rfl (lk_cons rfl (lk_cons rfl (lk_cons rfl (lk_cons rfl (lk_cons rfl (lk_cons rfl lk_nil)))))))) (.cons 0 rfl (.cons 0 rfl (.cons 0 rfl .nil))) (.cons 0 rfl .nil) (fk_cons 0 rfl fk_nil)
            · rintro ⟨x3704, _⟩
              try dsimp only
              refine sxo_take (os := _) rfl ?_
              refine sxo_nil ?_
              refine sxq_next ?_
              refine sxc_if rfl (fun h3747 => ?_) (fun h3747 => ?_)
              · refine sxc_seq ?_
                refine sxc_idxP (j := 0) rfl (fun x3726 e3726 g3727 h3728 g3729 h3730 => ?_)
                replace h3730 : a7 = some ⟨g3729, 0, none⟩ := h3730
                have h3731 := own_of (k := x3546.length) (c := c8) h3730
                refine sxc_openN (i := 0) rfl h3728 (List.not_mem_nil) ?_
                refine sxc_idxP (j := 1) rfl (fun x3732 e3732 g3733 h3734 g3735 h3736 => ?_)
                replace h3736 : a7 = some ⟨g3735, 0, none⟩ := h3736
                have h3737 := own_of (k := x3546.length) (c := c8) h3736
                refine sxb_draw mixed [12] [⟨g9, 24, [.slice a7 x3546.length c8]⟩, ⟨g5, 24, [.slice none 0 0]⟩, ⟨g4, 24, [.slice a2 x1.length c3.1]⟩] [SlN eN32 iN32 1 (.slice a2 x1.length c3.1) x1 c3.2, CellsAt g3729 (x2505.toNat * 1) (eN32 (x3726, g3727)), CellsAt g3735 (x2505.toNat * 1) (eN32 (x3732, g3733))] (.cons 0 rfl (.cons 0 rfl (.cons 0 rfl .nil))) (gk_F 0 rfl (gk_R 1 rfl (at_rowN eN32_ok h3728 h3730) (gk_R 1 rfl (at_rowN eN32_ok h3734 h3736) gk_nil))) 13 rfl ?_
                refine sxb_takeP 0 (.pointer (some ⟨g9, 0, none⟩)) rfl rfl rfl rfl (by kernel_rfl) (by kernel_rfl) (by kernel_rfl) (by kernel_rfl) (by kernel_rfl) rfl (show _ = #[true, false, false, false, false, false, false, false, false, false, false, false, false] from rfl) (yv_fieldAddr rfl ff24_0) ?_
                refine sxb_take 1 (.slice a7 x3546.length c8) [[12]] rfl rfl rfl rfl (by kernel_rfl) (by kernel_rfl) (by kernel_rfl) (by kernel_rfl) (by kernel_rfl) (by kernel_rfl) rfl (show _ = #[true, true, false, false, false, false, false, false, false, false, false, false, false] from rfl) (yv_loadB (i := 0) rfl tf22 rfl rfl (fun _ => rfl) rfl) ?_
                refine sxb_takeP 2 (.int .i64 x2505) rfl rfl rfl rfl (by kernel_rfl) (by kernel_rfl) (by kernel_rfl) (by kernel_rfl) (by kernel_rfl) rfl (show _ = #[true, true, true, false, false, false, false, false, false, false, false, false, false] from rfl) (yv_pv rfl) ?_
                refine sxb_takeP 3 (.pointer (some ⟨g9, 0, none⟩)) rfl rfl rfl rfl (by kernel_rfl) (by kernel_rfl) (by kernel_rfl) (by kernel_rfl) (by kernel_rfl) rfl (show _ = #[true, true, true, true, false, false, false, false, false, false, false, false, false] from rfl) (yv_fieldAddr rfl ff24_0) ?_
                refine sxb_take 4 (.slice a7 x3546.length c8) [[12]] rfl rfl rfl rfl (by kernel_rfl) (by kernel_rfl) (by kernel_rfl) (by kernel_rfl) (by kernel_rfl) (by kernel_rfl) rfl (show _ = #[true, true, true, true, true, false, false, false, false, false, false, false, false] from rfl) (yv_loadB (i := 0) rfl tf22 rfl rfl (fun _ => rfl) rfl) ?_
                refine sxb_takeP 5 (.int .i64 x2505) rfl rfl rfl rfl (by kernel_rfl) (by kernel_rfl) (by kernel_rfl) (by kernel_rfl) (by kernel_rfl) rfl (show _ = #[true, true, true, true, true, true, false, false, false, false, false, false, false] from rfl) (yv_pv rfl) ?_
                refine sxb_again (d := 39) (v := .slice (some ⟨g3729, 0, none⟩) x3546.length c8) rfl (by rw [h3730]) ?_
                refine sxb_takeP 6 (.pointer (some ⟨g3729, x2505.toNat * 1, none⟩)) rfl rfl rfl rfl (by kernel_rfl) (by kernel_rfl) (by kernel_rfl) (by kernel_rfl) (by kernel_rfl) rfl (show _ = #[true, true, true, true, true, true, true, false, false, false, false, false, false] from rfl) (yv_idxO Try.underlying22 tf32 rfl rfl (idx_get e3726).1 (idx_lt e3726)) ?_
                refine sxb_again (d := 39) (v := .slice a7 x3546.length c8) rfl (by rw [h3730]) ?_
                refine sxb_take 7 (.slice g3727.1 x3726.length g3727.2) [[12]] rfl rfl rfl rfl (by kernel_rfl) (by kernel_rfl) (by kernel_rfl) (by kernel_rfl) (by kernel_rfl) (by kernel_rfl) rfl (show _ = #[true, true, true, true, true, true, true, true, false, false, false, false, false] from rfl) (yv_loadF (j := 1) rfl tf32 rfl rfl (fun _ => rfl) rfl) ?_
                refine sxb_takeP 8 (.int .i64 x3544) rfl rfl rfl rfl (by kernel_rfl) (by kernel_rfl) (by kernel_rfl) (by kernel_rfl) (by kernel_rfl) rfl (show _ = #[true, true, true, true, true, true, true, true, true, false, false, false, false] from rfl) (yv_pv rfl) ?_
                refine sxb_step 9 rfl (by kernel_rfl) (show _ = #[true, true, true, true, true, true, true, true, true, true, false, false, false] from rfl) ?_
                refine sxo_slit (vs := [.int .i64 x3544]) (ys := ([x3544] : List Int)) (eI_ok .i64) (by decide) rfl Try.underlying32 tf3 rfl rfl rfl rfl rfl (by decide) (fun a3738 c3739 => ?_)
                refine sxo_nil ?_
                refine sxq_anyB (.cons 0 rfl (.cons 0 rfl (.cons 0 rfl .nil))) (gk_F 0 rfl (gk_R 2 rfl (at_rowN eN32_ok h3728 h3730) (gk_R 2 rfl (at_rowN eN32_ok h3734 h3736) gk_nil))) ?_
                refine sxb_step 10 rfl (by kernel_rfl) (show _ = #[true, true, true, true, true, true, true, true, true, true, true, false, false] from rfl) ?_
                refine sxo_app 1 (eI_ok .i64) rfl Try.underlying32 tf3 rfl rfl rfl rfl rfl (.inl ⟨0, _, rfl⟩) rfl rfl (fun x3740 e3740 a3741 c3742 => ?_)
                refine sxo_nil ?_
                refine sxq_anyB (.cons 0 rfl (.cons 0 rfl (.cons 0 rfl .nil))) (gk_F 0 rfl (gk_R 2 rfl (at_rowN eN32_ok h3728 h3730) (gk_R 2 rfl (at_rowN eN32_ok h3734 h3736) gk_nil))) ?_
                refine sxb_again (d := 36) (v := .slice (some ⟨g3735, 0, none⟩) x3546.length c8) rfl (by rw [h3736]) ?_
                refine sxb_takeP 11 (.pointer (some ⟨g3735, x2505.toNat * 1, none⟩)) rfl rfl rfl rfl (by kernel_rfl) (by kernel_rfl) (by kernel_rfl) (by kernel_rfl) (by kernel_rfl) rfl (show _ = #[true, true, true, true, true, true, true, true, true, true, true, true, false] from rfl) (yv_idxO Try.underlying22 tf32 rfl rfl (idx_get e3732).1 (idx_lt e3732)) ?_
                refine sxb_again (d := 36) (v := .slice a7 x3546.length c8) rfl (by rw [h3736]) ?_
                refine sxb_step 12 rfl (by kernel_rfl) (show _ = #[true, true, true, true, true, true, true, true, true, true, true, true, true] from rfl) ?_
                refine sxo_storeC (j := 2) (kh := 0) (y' := x3740) (q' := (a3741, c3742)) eN32_ok rfl rfl rfl tf32 rfl (own_of h3736) rfl (idx_get e3732).2.1 rfl (.cons 0 rfl .nil) (fun x3743 e3743 h3744 g3746 => ?_)
                have h3745 : x3743.length = x3546.length := by rw [← e3743, List.length_set]
                refine sxo_again (d := 36) (v := .slice a7 x3743.length c8) rfl (by rw [h3744]) ?_
                refine sxo_again (d := 39) (v := .slice a7 x3743.length c8) rfl (by rw [h3744]) ?_
                refine sxo_blkAgain (i := 0) (cs' := [.slice a7 x3743.length c8]) rfl (by rw [h3744]) ?_
                refine sxo_nil ?_
                refine sxq_anyW 12 rfl rfl ?_
                refine sxb_done (by kernel_rfl) ?_
                refine sxq_np ?_ (by intro c h; cases h)
                refine sxq_next ?_
                refine sxc_region ?_
                refine sxo_move rfl rfl rfl ?_
                refine sxo_add rfl rfl rfl rfl ?_
                refine sxo_assign rfl rfl rfl ?_
                refine sxo_nil ?_
                refine sxq_blkN ?_
                exact sxq_meetP ((iadd .i64 x3543 1, x3743), g3746) (lk_cons rfl (lk_cons rfl (lk_cons rfl (lk_cons rfl (lk_cons rfl (lk_cons rfl (lk_cons rfl lk_nil))))))) (.cons 0 rfl (.cons 0 rfl (.cons 0 rfl .nil))) (.cons 0 rfl .nil) (fk_cons 0 rfl fk_nil)
              · refine sxc_skip ?_
                refine sxq_blkN ?_
                exact sxq_meetP ((x3543, x3546), g3545) (lk_cons rfl (lk_cons rfl (lk_cons rfl (lk_cons rfl (lk_cons rfl (lk_cons rfl (lk_cons rfl lk_nil))))))) (.cons 0 rfl (.cons 0 rfl (.cons 0 rfl .nil))) (.cons 0 rfl .nil) (fk_cons 0 rfl fk_nil)
          · rintro ⟨⟨x3698, x3700⟩, g3699⟩
            try dsimp only
            refine sxc_region ?_
            refine sxo_move rfl rfl rfl ?_
            refine sxo_add rfl rfl rfl rfl ?_
            refine sxo_assign rfl rfl rfl ?_
            refine sxo_nil ?_
            exact sxq_againP ((x3698, iadd .i64 x3544 1, x3700), g3699) (lk_cons rfl (lk_cons rfl (lk_cons rfl (lk_cons rfl (lk_cons rfl (lk_cons rfl (lk_cons rfl lk_nil))))))) (.cons 0 rfl (.cons 0 rfl (.cons 0 rfl .nil))) (.cons 0 rfl .nil) (fk_cons 0 rfl fk_nil)
        · refine sxc_exit ?_
          refine sxq_thenX ?_
          refine sxq_thenX ?_
          refine sxq_blkX ?_
          refine sxq_blkN ?_
          exact sxq_meetP ((x3543, x3546), g3545) (lk_cons rfl (lk_cons rfl (lk_cons rfl (lk_cons rfl (lk_cons rfl (lk_cons rfl lk_nil)))))) (.cons 0 rfl (.cons 0 rfl (.cons 0 rfl .nil))) (.cons 0 rfl .nil) (fk_cons 0 rfl fk_nil)
      · rintro ⟨⟨x3439, x3441⟩, g3440⟩
        try dsimp only
        refine sxc_region ?_
        refine sxo_move rfl rfl rfl ?_
        refine sxo_add rfl rfl rfl rfl ?_
        refine sxo_assign rfl rfl rfl ?_
        refine sxo_nil ?_
        exact sxq_againP ((x3439, iadd .i64 x2505 1, x3441), g3440) (lk_cons rfl (lk_cons rfl (lk_cons rfl (lk_cons rfl (lk_cons rfl (lk_cons rfl lk_nil)))))) (.cons 0 rfl (.cons 0 rfl (.cons 0 rfl .nil))) (.cons 0 rfl .nil) (fk_cons 0 rfl fk_nil)
    · refine sxc_exit ?_
      refine sxq_thenX ?_
      refine sxq_thenX ?_
      refine sxq_blkX ?_
      exact sxq_meetP ((x2504, x2507), g2506) (lk_cons rfl (lk_cons rfl (lk_cons rfl lk_nil))) (.cons 0 rfl (.cons 0 rfl .nil)) (.cons 0 rfl .nil) fk_nil
  · rintro ⟨⟨x1878, x1880⟩, g1879⟩
    try dsimp only
    refine sxc_seq ?_
    refine sxc_seq ?_
    refine sxc_region ?_
    refine sxo_move rfl rfl rfl ?_
    refine sxo_gtr rfl rfl rfl rfl ?_
    refine sxo_nil ?_
    refine sxq_next ?_
    refine sxc_if rfl (fun h1882 => ?_) (fun h1882 => ?_)
    · refine sxc_seq ?_
      refine sxc_region ?_
      refine sxo_build (cells := [.slice none 0 0]) rfl st24 rfl (by kernel_rfl) rfl ?_
      refine sxo_storeB (i := 1) rfl rfl rfl tf24 rfl rfl rfl rfl rfl ?_
      refine sxo_assign rfl rfl rfl ?_
      refine sxo_nil ?_
      refine sxq_next ?_
      refine sxc_ret ?_
      refine sxq_thenR ?_
      refine sxq_nilN (List Int) (Option Addr × Nat) eN32 rN32 32 1 ?_
      exact sxq_doneP (none, (0, ([] : List (Option Addr × Nat)))) (.inl rfl) (resL (rs := [.cell 2 24, .tmp 3]) rfl (.cell (i := 1) rfl tf24 rfl rfl (by simp) rfl (.tmp rfl ResOk.nil)) rfl) (fun h => by subst h; rfl) (fun h => by subst h; exact (.cons 0 rfl .nil))
    · refine sxc_skip ?_
      refine sxq_next ?_
      refine sxc_seq ?_
      refine sxc_region ?_
      refine sxo_loadB (i := 0) rfl rfl tf24 rfl rfl (by simp) rfl rfl ?_
      refine sxo_storeB (i := 1) rfl rfl rfl tf24 rfl rfl rfl rfl rfl ?_
      refine sxo_assign rfl rfl rfl ?_
      refine sxo_nil ?_
      refine sxq_next ?_
      refine sxc_ret ?_
      exact sxq_doneP (a7, (c8, g1879)) (.inl rfl) (resL (rs := [.cell 2 24, .tmp 3]) rfl (.cell (i := 1) rfl tf24 rfl rfl (by simp) rfl (.tmp rfl ResOk.nil)) rfl) (fun h => by subst h; rfl) (fun h => by subst h; exact (.cons 0 rfl .nil))
end Go.Proofs.Ytghkjonlhphcjaa
