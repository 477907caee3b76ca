/- Each Go function of this seat computes what its model says. -/
import Derived.Test.YtdiabhkbchmpaaaRows
import Derived.Test.YtdiabhkbchmpaaaModels
import Derived.Test.YtdiabhkbchmpaaaShelf
namespace Go.Proofs.Ytdiabhkbchmpaaa
open Go SX
def eN25 (p : List Int × (Option Addr × Nat)) : List Value := [.slice p.2.1 p.1.length p.2.2]
def iN25 (p : List Int × (Option Addr × Nat)) : List (World → Prop) := [Sl (eI .i64) 1 (.slice p.2.1 p.1.length p.2.2) p.1]
theorem eN25_ok : EncOk eN25 1 := ⟨fun _ => rfl, fun _ => rfl⟩
def rN25 (p : List Int × (Option Addr × Nat)) : List RowF := [FoR (eI .i64) 3 1 (.slice p.2.1 p.1.length p.2.2) p.1]
theorem rN25_in : ∀ p, iN25 p = (rN25 p).map RowF.cells := fun _ => rfl
theorem rN25_nil : ∀ f ∈ rN25 (([] : List Int), ((none, 0) : Option Addr × Nat)), f.v = .slice none 0 0 ∧ f.n = 0 ∧ f.cs = [] := by simp [rN25, FoR]
def eS44 (p : (Int × Int)) : List Value := [.int .i64 p.1, .int .i64 p.2]
theorem eS44_ok : EncOk eS44 2 := ⟨fun _ => rfl, fun _ => rfl⟩
theorem tf3 : TyF Try.prog 3 false (.int .i64 0) 1 8 := .of (by kernel_rfl) (by kernel_rfl)
theorem tf22 : TyF Try.prog 22 false (.slice none 0 0) 1 24 := .of (by kernel_rfl) (by kernel_rfl)
theorem tf24 : TyF Try.prog 24 true (.agg #[.slice none 0 0]) 1 24 := .of (by kernel_rfl) (by kernel_rfl)
theorem tf25 : TyF Try.prog 25 false (.slice none 0 0) 1 24 := .of (by kernel_rfl) (by kernel_rfl)
theorem tf44 : TyF Try.prog 44 true (.agg #[.int .i64 0, .int .i64 0]) 2 16 := .of (by kernel_rfl) (by kernel_rfl)
theorem tf45 : TyF Try.prog 45 false (.slice none 0 0) 1 24 := .of (by kernel_rfl) (by kernel_rfl)
theorem tf60 : TyF Try.prog 60 true (.agg #[.int .i64 0, .int .i64 0, .int .i64 0]) 3 24 := .of (by kernel_rfl) (by kernel_rfl)
theorem tf73 : TyF Try.prog 73 true (.agg #[]) 0 0 := .of (by kernel_rfl) (by kernel_rfl)
theorem ff24_0 : FdF Try.prog 24 0 0 := .of (by kernel_rfl)
theorem ff44_0 : FdF Try.prog 44 0 0 := .of (by kernel_rfl)
theorem ff44_1 : FdF Try.prog 44 1 1 := .of (by kernel_rfl)
theorem ff55_0 : FdF Try.prog 55 0 0 := .of (by kernel_rfl)
theorem ff55_1 : FdF Try.prog 55 1 1 := .of (by kernel_rfl)
theorem st24 : StF Try.prog 24 [(0, 1)] (.agg #[.slice none 0 0]) := .of (by kernel_rfl) (by kernel_rfl)
theorem st44 : StF Try.prog 44 [(0, 1), (1, 1)] (.agg #[.int .i64 0, .int .i64 0]) := .of (by kernel_rfl) (by kernel_rfl)
theorem st55 : StF Try.prog 55 [(0, 1), (1, 1)] (.agg #[.slice none 0 0, .slice none 0 0]) := .of (by kernel_rfl) (by kernel_rfl)
theorem st73 : StF Try.prog 73 [] (.agg #[]) := .of (by kernel_rfl) (by kernel_rfl)
theorem se44 : StE2 Try.prog 44 .i64 .i64 := ⟨_, _, Try.underlying44, by kernel_rfl, by kernel_rfl, by decide, by decide, rfl, rfl, Try.underlying3, Try.underlying3⟩
theorem mixed : Try.prog.follows .mixedOrders = true := by kernel_rfl
theorem ent10 : Enters Try.prog 10 := enters_of Try.func10 rfl rfl
theorem ent11 : Enters Try.prog 11 := enters_of Try.func11 rfl rfl
theorem ent12 : Enters Try.prog 12 := enters_of Try.func12 rfl rfl
theorem ent17 : Enters Try.prog 17 := enters_of Try.func17 rfl rfl
theorem ent18 : Enters Try.prog 18 := enters_of Try.func18 rfl rfl
theorem ent21 : Enters Try.prog 21 := enters_of Try.func21 rfl rfl
theorem ent22 : Enters Try.prog 22 := enters_of Try.func22 rfl rfl
theorem ent23 : Enters Try.prog 23 := enters_of Try.func23 rfl rfl
theorem ent24 : Enters Try.prog 24 := enters_of Try.func24 rfl rfl
theorem ent25 : Enters Try.prog 25 := enters_of Try.func25 rfl rfl
theorem ent26 : Enters Try.prog 26 := enters_of Try.func26 rfl rfl
theorem ent27 : Enters Try.prog 27 := enters_of Try.func27 rfl rfl
theorem ent28 : Enters Try.prog 28 := enters_of Try.func28 rfl rfl
theorem ent29 : Enters Try.prog 29 := enters_of Try.func29 rfl rfl
theorem ent30 : Enters Try.prog 30 := enters_of Try.func30 rfl rfl
theorem ent31 : Enters Try.prog 31 := enters_of Try.func31 rfl rfl
theorem ent32 : Enters Try.prog 32 := enters_of Try.func32 rfl rfl
theorem ent35 : Enters Try.prog 35 := enters_of Try.func35 rfl rfl
theorem ent36 : Enters Try.prog 36 := enters_of Try.func36 rfl rfl
theorem ent37 : Enters Try.prog 37 := enters_of Try.func37 rfl rfl
theorem ent38 : Enters Try.prog 38 := enters_of Try.func38 rfl rfl
theorem ent39 : Enters Try.prog 39 := enters_of Try.func39 rfl rfl
theorem ent40 : Enters Try.prog 40 := enters_of Try.func40 rfl rfl
theorem ent41 : Enters Try.prog 41 := enters_of Try.func41 rfl rfl
theorem ent42 : Enters Try.prog 42 := enters_of Try.func42 rfl rfl
theorem ent43 : Enters Try.prog 43 := enters_of Try.func43 rfl rfl
theorem ent44 : Enters Try.prog 44 := enters_of Try.func44 rfl rfl
theorem ent45 : Enters Try.prog 45 := enters_of Try.func45 rfl rfl
theorem ent46 : Enters Try.prog 46 := enters_of Try.func46 rfl rfl
theorem ent47 : Enters Try.prog 47 := enters_of Try.func47 rfl rfl
theorem ent48 : Enters Try.prog 48 := enters_of Try.func48 rfl rfl
theorem ent49 : Enters Try.prog 49 := enters_of Try.func49 rfl rfl
theorem ent50 : Enters Try.prog 50 := enters_of Try.func50 rfl rfl
theorem ent51 : Enters Try.prog 51 := enters_of Try.func51 rfl rfl
theorem ent52 : Enters Try.prog 52 := enters_of Try.func52 rfl rfl
theorem ent54 : Enters Try.prog 54 := enters_of Try.func54 rfl rfl
theorem ent55 : Enters Try.prog 55 := enters_of Try.func55 rfl rfl
theorem ent56 : Enters Try.prog 56 := enters_of Try.func56 rfl rfl
theorem ent57 : Enters Try.prog 57 := enters_of Try.func57 rfl rfl
theorem ent58 : Enters Try.prog 58 := enters_of Try.func58 rfl rfl
theorem ent62 : Enters Try.prog 62 := enters_of Try.func62 rfl rfl
theorem ent63 : Enters Try.prog 63 := enters_of Try.func63 rfl rfl
theorem ent65 : Enters Try.prog 65 := enters_of Try.func65 rfl rfl
theorem ent66 : Enters Try.prog 66 := enters_of Try.func66 rfl rfl
theorem sby46_44 (cb : Array Value) : SortsBy Try.prog 46 44 2 (fun l => .agg l.toArray) cb :=
  sortsBy_K fun _ _ enc hk h1 cf hO blk cap d w hc hH hb hsz hT => Go.Proofs.AnyQ.slices_SortFunc_total Try.sortf46 2 tf44.run_isAgg tf44.run_size enc hk h1 cf hO 44 cb blk 0 cap d w ent44 hc hH hb hsz hT

set_option maxHeartbeats 4000000 in
theorem C_graph_Check (F : Nat) (x1 : List (List Int)) (a2 : Option Addr) (c3 : (Nat × List (Option Addr × Nat))) (r : Int) (hm : M_graph_Check F x1 = some r) :
    Pure Try.prog 25 [.agg #[.slice a2 x1.length c3.1]] [SlN eN25 iN25 1 (.slice a2 x1.length c3.1) x1 c3.2] Unit (fun _ => .int .i64 r) (fun _ => []) (fun _ => []) := by
  refine pure_of Try.func25 rfl Try.ntmps25 rfl hm (fun w => ?_)
  refine sxc_env (l' := [(0, .agg #[.slice a2 x1.length c3.1])]) rfl ?_
  refine sxc_seq ?_
  refine sxc_region ?_
  refine sxo_box rfl rfl rfl (fun g4 => ?_)
  refine sxo_assign rfl rfl rfl ?_
  refine sxo_nil ?_
  refine sxq_next ?_
  refine sxc_seq ?_
  refine sxc_region ?_
  refine sxo_fieldAddr rfl rfl ff24_0 rfl ?_
  refine sxo_loadB (i := 0) rfl rfl tf22 rfl rfl (fun _ => rfl) rfl rfl ?_
  refine sxo_len rfl Try.underlying22 rfl rfl ?_
  refine sxo_assign rfl rfl rfl ?_
  refine sxo_nil ?_
  refine sxq_next ?_
  refine sxc_seq ?_
  refine sxc_seq ?_
  refine sxc_region ?_
  refine sxo_move rfl rfl rfl ?_
  refine sxo_gtr rfl rfl rfl rfl ?_
  refine sxo_nil ?_
  refine sxq_next ?_
  refine sxc_if rfl (fun h1593 => ?_) (fun h1593 => ?_)
  · refine sxc_seq ?_
    refine sxc_region ?_
    refine sxo_assign rfl rfl rfl ?_
    refine sxo_nil ?_
    refine sxq_next ?_
    refine sxc_ret ?_
    refine sxq_thenR ?_
    exact sxq_doneP () (.inl rfl) (res1 rfl rfl) (fun h => by subst h; rfl) (fun h => by subst h; exact .nil)
  · refine sxc_skip ?_
    refine sxq_next ?_
    refine sxc_seq ?_
    refine sxc_region ?_
    refine sxo_assign rfl rfl rfl ?_
    refine sxo_nil ?_
    refine sxq_next ?_
    refine sxc_join (fun ((x798, _) : (Int × Unit)) => [(4, .int .i64 x798)]) (fun ((x798, _) : (Int × Unit)) => []) (fun ((x798, _) : (Int × Unit)) => []) (fun ((x798, _) : (Int × Unit)) => []) (fun ((x798, _) : (Int × Unit)) => M_graph_Check_j23 F x798) ?_ ?_
    · refine sxc_seq ?_
      refine sxc_region ?_
      refine sxo_fieldAddr rfl rfl ff24_0 rfl ?_
      refine sxo_loadB (i := 0) rfl rfl tf22 rfl rfl (fun _ => rfl) rfl rfl ?_
      refine sxo_len rfl Try.underlying22 rfl rfl ?_
      refine sxo_move rfl rfl rfl ?_
      refine sxo_nil ?_
      refine sxq_next ?_
      refine sxc_block ?_
      refine sxc_loopP (fun (((x1064, x1065), _) : ((Int × Int) × Unit)) => [(3, .int .i64 (x1.length : Int)), (4, .int .i64 x1064), (16, .slice a2 x1.length c3.1), (17, .int .i64 (x1.length : Int)), (18, .int .i64 x1065)]) (fun (((x1064, x1065), _) : ((Int × Int) × Unit)) => []) (fun (((x1064, x1065), _) : ((Int × Int) × Unit)) => []) (fun (((x1064, x1065), _) : ((Int × Int) × Unit)) => [SlN eN25 iN25 1 (.slice a2 x1.length c3.1) x1 c3.2]) (fun k (s : ((Int × Int) × Unit)) => M_graph_Check_l38 F x1 k s.1) ((0, 0), ()) F (lk_cons rfl (lk_cons rfl (lk_cons rfl (lk_cons rfl (lk_cons rfl lk_nil))))) .nil .nil (fk_cons 0 rfl fk_nil) (fun _ => rfl) ?_
      intro k1329
      rintro ⟨⟨x1064, x1065⟩, _⟩
      try dsimp only
      refine sxc_meq (m' := M_graph_Check_b38 F x1 (M_graph_Check_l38 F x1 k1329) x1064 x1065) rfl ?_
      refine sxc_seq ?_
      refine sxc_region ?_
      refine sxo_lss rfl rfl rfl rfl ?_
      refine sxo_nil ?_
      refine sxq_next ?_
      refine sxc_seq ?_
      refine sxc_if rfl (fun h1592 => ?_) (fun h1592 => ?_)
      · refine sxc_skip ?_
        refine sxq_next ?_
        refine sxc_join (fun ((x1461, _) : (Int × Unit)) => [(3, .int .i64 (x1.length : Int)), (4, .int .i64 x1461), (16, .slice a2 x1.length c3.1), (17, .int .i64 (x1.length : Int)), (18, .int .i64 x1065)]) (fun ((x1461, _) : (Int × Unit)) => []) (fun ((x1461, _) : (Int × Unit)) => []) (fun ((x1461, _) : (Int × Unit)) => [SlN eN25 iN25 1 (.slice a2 x1.length c3.1) x1 c3.2]) (fun ((x1461, _) : (Int × Unit)) => M_graph_Check_j42 F (M_graph_Check_l38 F x1 k1329) x1065 x1461) ?_ ?_
        · refine sxc_block ?_
          refine sxc_seq ?_
          refine sxc_region ?_
          refine sxo_indexN (j := 0) eN25_ok (by decide) rfl Try.underlying22 tf25 rfl rfl rfl rfl (fun x1462 e1462 g1465 b1463 o1464 => ?_)
          refine sxo_loadF (j := 0) rfl rfl tf25 rfl rfl (fun _ => rfl) rfl rfl ?_
          refine sxo_assign rfl rfl rfl ?_
          refine sxo_nil ?_
          refine sxq_next ?_
          refine sxc_seq ?_
          refine sxc_region ?_
          refine sxo_assign rfl rfl rfl ?_
          refine sxo_nil ?_
          refine sxq_next ?_
          refine sxc_join (fun ((_, _) : (Unit × Unit)) => [(3, .int .i64 (x1.length : Int)), (4, .int .i64 x1064), (6, .slice g1465.1 x1462.length g1465.2), (16, .slice a2 x1.length c3.1), (17, .int .i64 (x1.length : Int)), (18, .int .i64 x1065)]) (fun ((_, _) : (Unit × Unit)) => []) (fun ((_, _) : (Unit × Unit)) => []) (fun ((_, _) : (Unit × Unit)) => [Sl (eI .i64) 1 (.slice g1465.1 x1462.length g1465.2) x1462, SlN eN25 iN25 1 (.slice a2 x1.length c3.1) x1 c3.2]) (fun ((_, _) : (Unit × Unit)) => M_graph_Check_j44 F (M_graph_Check_l38 F x1 k1329) x1064 x1065 x1462) ?_ ?_
          · refine sxc_seq ?_
            refine sxc_region ?_
            refine sxo_move rfl rfl rfl ?_
            refine sxo_len rfl Try.underlying25 rfl rfl ?_
            refine sxo_move rfl rfl rfl ?_
            refine sxo_nil ?_
            refine sxq_next ?_
            refine sxc_block ?_
            refine sxc_loopP (fun (((x1549, x1550), _) : ((Int × Int) × Unit)) => [(3, .int .i64 (x1.length : Int)), (4, .int .i64 x1064), (6, .slice g1465.1 x1462.length g1465.2), (7, .int .i64 x1549), (16, .slice a2 x1.length c3.1), (17, .int .i64 (x1.length : Int)), (18, .int .i64 x1065), (22, .slice g1465.1 x1462.length g1465.2), (23, .int .i64 (x1462.length : Int)), (24, .int .i64 x1550)]) (fun (((x1549, x1550), _) : ((Int × Int) × Unit)) => []) (fun (((x1549, x1550), _) : ((Int × Int) × Unit)) => []) (fun (((x1549, x1550), _) : ((Int × Int) × Unit)) => [Sl (eI .i64) 1 (.slice g1465.1 x1462.length g1465.2) x1462, SlN eN25 iN25 1 (.slice a2 x1.length c3.1) x1 c3.2]) (fun k (s : ((Int × Int) × Unit)) => M_graph_Check_l45 F (M_graph_Check_l38 F x1 k1329) x1 x1064 x1065 x1462 k s.1) ((-1, 0), ()) F (lk_cons rfl (lk_cons rfl (lk_cons rfl (lk_cons rfl (lk_cons rfl (lk_cons rfl (lk_cons rfl (lk_cons rfl (lk_cons rfl (lk_cons rfl lk_nil)))))))))) .nil .nil (fk_cons 1 rfl (fk_cons 2 rfl fk_nil)) (fun _ => rfl) ?_
            intro k1571
            rintro ⟨⟨x1549, x1550⟩, _⟩
            try dsimp only
            refine sxc_meq (m' := M_graph_Check_b45 F (M_graph_Check_l38 F x1 k1329) x1 x1064 x1065 x1462 (M_graph_Check_l45 F (M_graph_Check_l38 F x1 k1329) x1 x1064 x1065 x1462 k1571) x1549 x1550) rfl ?_
            refine sxc_seq ?_
            refine sxc_region ?_
            refine sxo_lss rfl rfl rfl rfl ?_
            refine sxo_nil ?_
            refine sxq_next ?_
            refine sxc_seq ?_
            refine sxc_if rfl (fun h1591 => ?_) (fun h1591 => ?_)
            · refine sxc_skip ?_
              refine sxq_next ?_
              refine sxc_seq ?_
              refine sxc_block ?_
              refine sxc_seq ?_
              refine sxc_region ?_
              refine sxo_indexF (j := 0) (eI_ok .i64) (by decide) rfl Try.underlying25 tf3 rfl rfl rfl rfl (fun x1582 e1582 b1583 o1584 => ?_)
              refine sxo_loadF (j := 0) rfl rfl tf3 rfl rfl (fun _ => rfl) rfl rfl ?_
              refine sxo_assign rfl rfl rfl ?_
              refine sxo_nil ?_
              refine sxq_next ?_
              refine sxc_seq ?_
              refine sxc_block ?_
              refine sxc_seq ?_
              refine sxc_region ?_
              refine sxo_move rfl rfl rfl ?_
              refine sxo_lss rfl rfl rfl rfl ?_
              refine sxo_move rfl rfl rfl ?_
              refine sxo_case 4 (decide (x1582 < 0)) [(3, .int .i64 (x1.length : Int)), (4, .int .i64 x1064), (6, .slice g1465.1 x1462.length g1465.2), (7, .int .i64 x1549), (16, .slice a2 x1.length c3.1), (17, .int .i64 (x1.length : Int)), (18, .int .i64 x1065), (22, .slice g1465.1 x1462.length g1465.2), (23, .int .i64 (x1462.length : Int)), (24, .int .i64 x1550), (9, .int .i64 x1582), (35, .bool ((decide (x1582 < 0)) || (decide ((x1.length : Int) ≤ x1582))))] (fun h1588 => ?_) (fun h1588 => ?_) ?_
              · refine sxo_take (os := _) rfl ?_
                refine sxo_isT (k := 31) rfl h1588 ?_
                refine sxo_skip rfl rfl rfl ?_
                refine sxo_skip rfl rfl rfl ?_
                refine sxo_skip rfl rfl rfl ?_
                refine sxo_pick (b := true) rfl rfl rfl rfl ?_
                refine sxo_again (d := 35) (v := .bool ((decide (x1582 < 0)) || (decide ((x1.length : Int) ≤ x1582)))) rfl (by rw [h1588]; simp only [Bool.true_or]) ?_
                refine sxo_nil ?_
                exact sxq_case (lk_cons rfl (lk_cons rfl (lk_cons rfl (lk_cons rfl (lk_cons rfl (lk_cons rfl (lk_cons rfl (lk_cons rfl (lk_cons rfl (lk_cons rfl (lk_cons rfl (lk_cons rfl lk_nil))))))))))))
              · refine sxo_take (os := _) rfl ?_
                refine sxo_isF (k := 31) rfl h1588 ?_
                refine sxo_move rfl rfl rfl ?_
                refine sxo_move rfl rfl rfl ?_
                refine sxo_geq rfl rfl rfl rfl ?_
                refine sxo_pick (b := false) rfl rfl rfl rfl ?_
                refine sxo_again (d := 35) (v := .bool ((decide (x1582 < 0)) || (decide ((x1.length : Int) ≤ x1582)))) rfl (by rw [h1588]; simp only [Bool.false_or]) ?_
                refine sxo_nil ?_
                exact sxq_case (lk_cons rfl (lk_cons rfl (lk_cons rfl (lk_cons rfl (lk_cons rfl (lk_cons rfl (lk_cons rfl (lk_cons rfl (lk_cons rfl (lk_cons rfl (lk_cons rfl (lk_cons rfl lk_nil))))))))))))
              refine sxo_take (os := _) rfl ?_
              refine sxo_assign rfl rfl rfl ?_
              refine sxo_nil ?_
              refine sxq_next ?_
              refine sxc_if rfl (fun h1590 => ?_) (fun h1590 => ?_)
              · refine sxc_seq ?_
                refine sxc_region ?_
                refine sxo_assign rfl rfl rfl ?_
                refine sxo_nil ?_
                refine sxq_next ?_
                refine sxc_ret ?_
                refine sxq_blkR ?_
                refine sxq_thenR ?_
                refine sxq_blkR ?_
                refine sxq_thenR ?_
                refine sxq_thenR ?_
                refine sxq_blkR ?_
                refine sxq_thenR ?_
                refine sxq_blkR ?_
                refine sxq_thenR ?_
                refine sxq_thenR ?_
                refine sxq_blkR ?_
                refine sxq_thenR ?_
                exact sxq_doneP () (.inl rfl) (res1 rfl rfl) (fun h => by subst h; rfl) (fun h => by subst h; exact .nil)
              · refine sxc_seq ?_
                refine sxc_region ?_
                refine sxo_move rfl rfl rfl ?_
                refine sxo_move rfl rfl rfl ?_
                refine sxo_leq rfl rfl rfl rfl ?_
                refine sxo_assign rfl rfl rfl ?_
                refine sxo_nil ?_
                refine sxq_next ?_
                refine sxc_if rfl (fun h1589 => ?_) (fun h1589 => ?_)
                · refine sxc_seq ?_
                  refine sxc_region ?_
                  refine sxo_assign rfl rfl rfl ?_
                  refine sxo_nil ?_
                  refine sxq_next ?_
                  refine sxc_ret ?_
                  refine sxq_blkR ?_
                  refine sxq_thenR ?_
                  refine sxq_blkR ?_
                  refine sxq_thenR ?_
                  refine sxq_thenR ?_
                  refine sxq_blkR ?_
                  refine sxq_thenR ?_
                  refine sxq_blkR ?_
                  refine sxq_thenR ?_
                  refine sxq_thenR ?_
                  refine sxq_blkR ?_
                  refine sxq_thenR ?_
                  exact sxq_doneP () (.inl rfl) (res1 rfl rfl) (fun h => by subst h; rfl) (fun h => by subst h; exact .nil)
                · refine sxc_skip ?_
                  refine sxq_blkN ?_
                  refine sxq_next ?_
                  refine sxc_region ?_
                  refine sxo_move rfl rfl rfl ?_
                  refine sxo_assign rfl rfl rfl ?_
                  refine sxo_nil ?_
                  refine sxq_blkN ?_
                  refine sxq_next ?_
                  refine sxc_region ?_
                  refine sxo_add rfl rfl rfl rfl ?_
                  refine sxo_move rfl rfl rfl ?_
                  refine sxo_nil ?_
                  exact sxq_againP ((x1582, iadd .i64 x1550 1), ()) (lk_cons rfl (lk_cons rfl (lk_cons rfl (lk_cons rfl (lk_cons rfl (lk_cons rfl (lk_cons rfl (lk_cons rfl (lk_cons rfl (lk_cons rfl lk_nil)))))))))) .nil .nil (fk_cons 1 rfl (fk_cons 2 rfl fk_nil))
            · refine sxc_exit ?_
              refine sxq_thenX ?_
              refine sxq_thenX ?_
              refine sxq_blkX ?_
              exact sxq_meetP ((), ()) (lk_cons rfl (lk_cons rfl (lk_cons rfl (lk_cons rfl (lk_cons rfl (lk_cons rfl lk_nil)))))) .nil .nil (fk_cons 0 rfl (fk_cons 1 rfl fk_nil))
          · rintro ⟨_, _⟩
            try dsimp only
            refine sxc_region ?_
            refine sxo_move rfl rfl rfl ?_
            refine sxo_move rfl rfl rfl ?_
            refine sxo_len rfl Try.underlying25 rfl rfl ?_
            refine sxo_add rfl rfl rfl rfl ?_
            refine sxo_assign rfl rfl rfl ?_
            refine sxo_nil ?_
            refine sxq_blkN ?_
            exact sxq_meetP (iadd .i64 x1064 (x1462.length : Int), ()) (lk_cons rfl (lk_cons rfl (lk_cons rfl (lk_cons rfl (lk_cons rfl lk_nil))))) .nil .nil (fk_cons 1 rfl fk_nil)
        · rintro ⟨x1461, _⟩
          try dsimp only
          refine sxc_region ?_
          refine sxo_add rfl rfl rfl rfl ?_
          refine sxo_move rfl rfl rfl ?_
          refine sxo_nil ?_
          exact sxq_againP ((x1461, iadd .i64 x1065 1), ()) (lk_cons rfl (lk_cons rfl (lk_cons rfl (lk_cons rfl (lk_cons rfl lk_nil))))) .nil .nil (fk_cons 0 rfl fk_nil)
      · refine sxc_exit ?_
        refine sxq_thenX ?_
        refine sxq_thenX ?_
        refine sxq_blkX ?_
        exact sxq_meetP (x1064, ()) (lk_cons rfl lk_nil) .nil .nil fk_nil
    · rintro ⟨x798, _⟩
      try dsimp only
      refine sxc_seq ?_
      refine sxc_seq ?_
      refine sxc_region ?_
      refine sxo_move rfl rfl rfl ?_
      refine sxo_gtr rfl rfl rfl rfl ?_
      refine sxo_nil ?_
      refine sxq_next ?_
      refine sxc_if rfl (fun h800 => ?_) (fun h800 => ?_)
      · refine sxc_seq ?_
        refine sxc_region ?_
        refine sxo_assign rfl rfl rfl ?_
        refine sxo_nil ?_
        refine sxq_next ?_
        refine sxc_ret ?_
        refine sxq_thenR ?_
        exact sxq_doneP () (.inl rfl) (res1 rfl rfl) (fun h => by subst h; rfl) (fun h => by subst h; exact .nil)
      · refine sxc_skip ?_
        refine sxq_next ?_
        refine sxc_seq ?_
        refine sxc_region ?_
        refine sxo_assign rfl rfl rfl ?_
        refine sxo_nil ?_
        refine sxq_next ?_
        refine sxc_ret ?_
        exact sxq_doneP () (.inl rfl) (res1 rfl rfl) (fun h => by subst h; rfl) (fun h => by subst h; exact .nil)

theorem C_graph_All (F : Nat) (x1 : List (List Int)) (a2 : Option Addr) (c3 : (Nat × List (Option Addr × Nat))) (r : Unit) (hm : M_graph_All F x1 = some r) :
    PureM Try.prog 36 [.agg #[.slice a2 x1.length c3.1]] [] [] [SlN eN25 iN25 1 (.slice a2 x1.length c3.1) x1 c3.2] Nat (fun g => .func (.func 55) #[] #[.pointer (some ⟨g, 0, none⟩)]) (fun g => [⟨g, 24, [.slice a2 x1.length c3.1]⟩]) (fun _ => []) := by
  refine pureM_of Try.func36 rfl Try.ntmps36 rfl hm (fun w => ?_)
  refine sxc_env (l' := [(0, .agg #[.slice a2 x1.length c3.1])]) rfl ?_
  refine sxc_seq ?_
  refine sxc_region ?_
  refine sxo_box rfl rfl rfl (fun g4 => ?_)
  refine sxo_assign rfl rfl rfl ?_
  refine sxo_nil ?_
  refine sxq_next ?_
  refine sxc_seq ?_
  refine sxc_region ?_
  refine sxo_makeFunc rfl rfl rfl ?_
  refine sxo_assign rfl rfl rfl ?_
  refine sxo_nil ?_
  refine sxq_next ?_
  refine sxc_ret ?_
  exact sxq_doneM g4 (.inl rfl) (res1 rfl rfl) (fun h => by subst h; rfl) (fun h => by subst h; exact (.cons 0 rfl .nil)) (fun h => by subst h; exact .nil)

theorem C_slices_Sort_int_int (F : Nat) (x1 : List Int) (a2 : Option Addr) (c3 : Nat) (r : List Int) (hm : M_slices_Sort_int_int F x1 = some r) :
    PureM Try.prog 48 [.slice a2 x1.length c3] [] [Ro (eI .i64) 3 1 (.slice a2 x1.length c3) x1] [] Unit (fun _ => .tuple #[]) (fun _ => []) (fun _ => [Ro (eI .i64) 3 1 (.slice a2 r.length c3) r]) := by
  unfold M_slices_Sort_int_int at hm
  split at hm
  · cases hm
    exact sort_pureM Try.slices_Sort_int Try.slices_Sort_int_none (by assumption)
  · simp at hm

theorem C_slices_Compact_int_int (F : Nat) (x1 : List Int) (a2 : Option Addr) (c3 : Nat) (r : List Int) (hm : M_slices_Compact_int_int F x1 = some r) :
    PureM Try.prog 49 [.slice a2 x1.length c3] [] [Ro (eI .i64) 3 1 (.slice a2 x1.length c3) x1] [] (Option Addr × Nat) (fun g => .slice g.1 r.length g.2) (fun _ => []) (fun g => [Ro (eI .i64) 3 1 (.slice g.1 r.length g.2) r]) := by
  unfold M_slices_Compact_int_int at hm
  split at hm
  · cases hm
    exact compact_pureM Try.slices_Compact_int Try.slices_Compact_int_empty (by assumption)
  · simp at hm

theorem C_graph_All_1 (F : Nat) {σ τ : Type} {J : Rounds σ τ} {yy : σ → (Int × Int) → Option (σ ⊕ τ)} {L : Nat} (hY : YieldC Try.prog L (fun (p : (Int × Int)) => [.agg #[.int .i64 p.1, .int .i64 p.2]]) J yy) (s0 : σ) (gs0 : J.γ) (g1 : Nat) (x2 : List (List Int)) (a3 : Option Addr) (c4 : (Nat × List (Option Addr × Nat))) (r : σ ⊕ τ) (hm : M_graph_All_1 F yy x2 s0 = some r) :
    PureM Try.prog 55 ([.func (.yield L) #[] #[], .pointer (some ⟨g1, 0, none⟩)]) ([⟨g1, 24, [.slice a3 x2.length c4.1]⟩] ++ J.IB s0 gs0) (J.IR s0 gs0) [J.F, SlN eN25 iN25 1 (.slice a3 x2.length c4.1) x2 c4.2] (J.G r) (fun _ => .tuple #[]) (fun g => [⟨g1, 24, [.slice a3 x2.length c4.1]⟩] ++ J.bs r g) (fun g => J.rs r g) := by
  refine pureM_of Try.func55 rfl Try.ntmps55 rfl hm (fun w => ?_)
  refine sxc_env (l' := [(0, .func (.yield L) #[] #[]), (1, .pointer (some ⟨g1, 0, none⟩))]) rfl ?_
  refine sxc_seq ?_
  refine sxc_region ?_
  refine sxo_fieldAddr rfl rfl ff24_0 rfl ?_
  refine sxo_loadB (i := 0) rfl rfl tf22 rfl rfl (fun _ => rfl) rfl rfl ?_
  refine sxo_len rfl Try.underlying22 rfl rfl ?_
  refine sxo_move rfl rfl rfl ?_
  refine sxo_nil ?_
  refine sxq_next ?_
  refine sxc_block ?_
  refine sxc_loopP (fun (((x121, x122), g123) : ((Int × σ) × J.γ)) => [(0, .func (.yield L) #[] #[]), (8, .slice a3 x2.length c4.1), (9, .int .i64 (x2.length : Int)), (10, .int .i64 x121)]) (fun (((x121, x122), g123) : ((Int × σ) × J.γ)) => [⟨g1, 24, [.slice a3 x2.length c4.1]⟩] ++ J.IB x122 g123) (fun (((x121, x122), g123) : ((Int × σ) × J.γ)) => [] ++ J.IR x122 g123) (fun (((x121, x122), g123) : ((Int × σ) × J.γ)) => [SlN eN25 iN25 1 (.slice a3 x2.length c4.1) x2 c4.2, J.F]) (fun k (s : ((Int × σ) × J.γ)) => M_graph_All_1_l7 F yy x2 k s.1) ((0, s0), gs0) F (lk_cons rfl (lk_cons rfl (lk_cons rfl (lk_cons rfl lk_nil)))) (.cons 0 rfl (pick_rest 0 rfl)) (pick_rest 0 rfl) (fk_cons 1 rfl (fk_cons 0 rfl fk_nil)) (fun _ => rfl) ?_
  intro k240
  rintro ⟨⟨x121, x122⟩, g123⟩
  try dsimp only
  refine sxc_meq (m' := M_graph_All_1_b7 F yy x2 (M_graph_All_1_l7 F yy x2 k240) x121 x122) rfl ?_
  refine sxc_seq ?_
  refine sxc_region ?_
  refine sxo_lss rfl rfl rfl rfl ?_
  refine sxo_nil ?_
  refine sxq_next ?_
  refine sxc_seq ?_
  refine sxc_if rfl (fun h356 => ?_) (fun h356 => ?_)
  · refine sxc_skip ?_
    refine sxq_next ?_
    refine sxc_join (fun ((x298, g299) : (σ × J.γ)) => [(0, .func (.yield L) #[] #[]), (8, .slice a3 x2.length c4.1), (9, .int .i64 (x2.length : Int)), (10, .int .i64 x121)]) (fun ((x298, g299) : (σ × J.γ)) => [⟨g1, 24, [.slice a3 x2.length c4.1]⟩] ++ J.IB x298 g299) (fun ((x298, g299) : (σ × J.γ)) => [] ++ J.IR x298 g299) (fun ((x298, g299) : (σ × J.γ)) => [SlN eN25 iN25 1 (.slice a3 x2.length c4.1) x2 c4.2, J.F]) (fun ((x298, _) : (σ × J.γ)) => M_graph_All_1_j9 F yy (M_graph_All_1_l7 F yy x2 k240) x121 x298) ?_ ?_
    · refine sxc_block ?_
      refine sxc_seq ?_
      refine sxc_region ?_
      refine sxo_move rfl rfl rfl ?_
      refine sxo_indexN (j := 0) eN25_ok (by decide) rfl Try.underlying22 tf25 rfl rfl rfl rfl (fun x300 e300 g303 b301 o302 => ?_)
      refine sxo_loadF (j := 0) rfl rfl tf25 rfl rfl (fun _ => rfl) rfl rfl ?_
      refine sxo_assign rfl rfl rfl ?_
      refine sxo_assign rfl rfl rfl ?_
      refine sxo_nil ?_
      refine sxq_next ?_
      refine sxc_seq ?_
      refine sxc_region ?_
      refine sxo_move rfl rfl rfl ?_
      refine sxo_len rfl Try.underlying25 rfl rfl ?_
      refine sxo_move rfl rfl rfl ?_
      refine sxo_nil ?_
      refine sxq_next ?_
      refine sxc_block ?_
      refine sxc_loopP (fun (((x320, x321), g322) : ((Int × σ) × J.γ)) => [(0, .func (.yield L) #[] #[]), (3, .int .i64 x121), (8, .slice a3 x2.length c4.1), (9, .int .i64 (x2.length : Int)), (10, .int .i64 x121), (15, .slice g303.1 x300.length g303.2), (16, .int .i64 (x300.length : Int)), (17, .int .i64 x320)]) (fun (((x320, x321), g322) : ((Int × σ) × J.γ)) => [⟨g1, 24, [.slice a3 x2.length c4.1]⟩] ++ J.IB x321 g322) (fun (((x320, x321), g322) : ((Int × σ) × J.γ)) => [] ++ J.IR x321 g322) (fun (((x320, x321), g322) : ((Int × σ) × J.γ)) => [SlN eN25 iN25 1 (.slice a3 x2.length c4.1) x2 c4.2, Sl (eI .i64) 1 (.slice g303.1 x300.length g303.2) x300, J.F]) (fun k (s : ((Int × σ) × J.γ)) => M_graph_All_1_l10 F yy (M_graph_All_1_l7 F yy x2 k240) x121 x300 k s.1) ((0, x122), g123) F (lk_cons rfl (lk_cons rfl (lk_cons rfl (lk_cons rfl (lk_cons rfl (lk_cons rfl (lk_cons rfl (lk_cons rfl lk_nil)))))))) (.cons 0 rfl (pick_rest 0 rfl)) (pick_rest 0 rfl) (fk_cons 2 rfl (fk_cons 1 rfl (fk_cons 3 rfl fk_nil))) (fun _ => rfl) ?_
      intro k339
      rintro ⟨⟨x320, x321⟩, g322⟩
      try dsimp only
      refine sxc_meq (m' := M_graph_All_1_b10 F yy (M_graph_All_1_l7 F yy x2 k240) x121 x300 (M_graph_All_1_l10 F yy (M_graph_All_1_l7 F yy x2 k240) x121 x300 k339) x320 x321) rfl ?_
      refine sxc_seq ?_
      refine sxc_region ?_
      refine sxo_lss rfl rfl rfl rfl ?_
      refine sxo_nil ?_
      refine sxq_next ?_
      refine sxc_seq ?_
      refine sxc_if rfl (fun h355 => ?_) (fun h355 => ?_)
      · refine sxc_skip ?_
        refine sxq_next ?_
        refine sxc_seq ?_
        refine sxc_block ?_
        refine sxc_seq ?_
        refine sxc_region ?_
        refine sxo_indexF (j := 1) (eI_ok .i64) (by decide) rfl Try.underlying25 tf3 rfl rfl rfl rfl (fun x348 e348 b349 o350 => ?_)
        refine sxo_loadF (j := 0) rfl rfl tf3 rfl rfl (fun _ => rfl) rfl rfl ?_
        refine sxo_assign rfl rfl rfl ?_
        refine sxo_nil ?_
        refine sxq_next ?_
        refine sxc_seq ?_
        refine sxc_region ?_
        refine sxo_move rfl rfl rfl ?_
        refine sxo_move rfl rfl rfl ?_
        refine sxo_move rfl rfl rfl ?_
        refine sxo_build (cells := [.int .i64 x121, .int .i64 x348]) rfl st44 rfl (by kernel_rfl) rfl ?_
        refine sxo_yield hY x321 (x121, x348) g322 (B1 := [⟨g1, 24, [.slice a3 x2.length c4.1]⟩]) (R1 := []) (j := 3) rfl rfl rfl rfl rfl rfl rfl (fun x351 _ g353 => ?_) (fun x352 _ g353 => ?_)
        · refine sxo_not rfl rfl rfl ?_
          refine sxo_nil ?_
          refine sxq_next ?_
          refine sxc_cond (b := false) rfl (fun h => by cases h) (fun _ => ?_)
          refine sxc_skip ?_
          refine sxq_blkN ?_
          refine sxq_next ?_
          refine sxc_region ?_
          refine sxo_add rfl rfl rfl rfl ?_
          refine sxo_move rfl rfl rfl ?_
          refine sxo_nil ?_
          exact sxq_againP ((iadd .i64 x320 1, x351), g353) (lk_cons rfl (lk_cons rfl (lk_cons rfl (lk_cons rfl (lk_cons rfl (lk_cons rfl (lk_cons rfl (lk_cons rfl lk_nil)))))))) (.cons 0 rfl (pick_rest 0 rfl)) (pick_rest 0 rfl) (fk_cons 1 rfl (fk_cons 2 rfl (fk_cons 3 rfl fk_nil)))
        · refine sxo_not rfl rfl rfl ?_
          refine sxo_nil ?_
          refine sxq_next ?_
          refine sxc_cond (b := true) rfl (fun _ => ?_) (fun h => by cases h)
          refine sxc_ret ?_
          refine sxq_blkR ?_
          refine sxq_thenR ?_
          refine sxq_thenR ?_
          refine sxq_blkR ?_
          refine sxq_blkR ?_
          refine sxq_thenR ?_
          refine sxq_thenR ?_
          refine sxq_blkR ?_
          exact sxq_doneI (B0 := [⟨g1, 24, [.slice a3 x2.length c4.1]⟩]) (x := .inr x352) g353 (.inl rfl) (res0 rfl) (.cons 0 rfl (pick_rest 0 rfl)) (pick_rest 0 rfl)
      · refine sxc_exit ?_
        refine sxq_thenX ?_
        refine sxq_thenX ?_
        refine sxq_blkX ?_
        refine sxq_blkN ?_
        exact sxq_meetP (x321, g322) (lk_cons rfl (lk_cons rfl (lk_cons rfl (lk_cons rfl lk_nil)))) (.cons 0 rfl (pick_rest 0 rfl)) (pick_rest 0 rfl) (fk_cons 0 rfl (fk_cons 2 rfl fk_nil))
    · rintro ⟨x298, g299⟩
      try dsimp only
      refine sxc_region ?_
      refine sxo_add rfl rfl rfl rfl ?_
      refine sxo_move rfl rfl rfl ?_
      refine sxo_nil ?_
      exact sxq_againP ((iadd .i64 x121 1, x298), g299) (lk_cons rfl (lk_cons rfl (lk_cons rfl (lk_cons rfl lk_nil)))) (.cons 0 rfl (pick_rest 0 rfl)) (pick_rest 0 rfl) (fk_cons 0 rfl (fk_cons 1 rfl fk_nil))
  · refine sxc_exit ?_
    refine sxq_thenX ?_
    refine sxq_thenX ?_
    refine sxq_blkX ?_
    exact sxq_doneI (B0 := [⟨g1, 24, [.slice a3 x2.length c4.1]⟩]) (x := .inl x122) g123 (.inr rfl) (res0 rfl) (.cons 0 rfl (pick_rest 0 rfl)) (pick_rest 0 rfl)

set_option maxHeartbeats 4000000 in
theorem C_core_near (F : Nat) (x1 : List (List Int)) (a2 : Option Addr) (c3 : (Nat × List (Option Addr × Nat))) (r : List (List Int)) (hm : M_core_near F x1 = some r) :
    PureM Try.prog 26 [.agg #[.slice a2 x1.length c3.1]] [] [] [SlN eN25 iN25 1 (.slice a2 x1.length c3.1) x1 c3.2] (Option Addr × (Nat × List (Option Addr × Nat))) (fun g => .slice g.1 r.length g.2.1) (fun _ => []) (fun g => [RoN eN25 rN25 25 1 (.slice g.1 r.length g.2.1) r g.2.2 []]) := by
  refine pureX_of Try.func26 rfl Try.ntmps26 rfl hm (fun w => ?_)
  refine sxc_env (l' := [(0, .agg #[.slice a2 x1.length c3.1])]) rfl ?_
  refine sxc_seq ?_
  refine sxc_region ?_
  refine sxo_box rfl rfl rfl (fun g4 => ?_)
  refine sxo_assign rfl rfl rfl ?_
  refine sxo_nil ?_
  refine sxq_next ?_
  refine sxc_seq ?_
  refine sxc_region ?_
  refine sxo_fieldAddr rfl rfl ff24_0 rfl ?_
  refine sxo_loadB (i := 0) rfl rfl tf22 rfl rfl (fun _ => rfl) rfl rfl ?_
  refine sxo_len rfl Try.underlying22 rfl rfl ?_
  refine sxo_mkN (rin := rN25) (y := ([] : List Int)) (q := ((none, 0) : Option Addr × Nat)) eN25_ok (by decide) rN25_nil rfl Try.underlying22 tf25 rfl rfl rfl rfl rfl rfl (fun x5 e5 a6 c7 => ?_)
  refine sxo_alloc rfl tf22 rfl (fun g8 => ?_)
  refine sxo_storeB (i := 0) rfl rfl rfl tf22 rfl rfl rfl rfl rfl ?_
  refine sxo_nil ?_
  refine sxq_next ?_
  refine sxc_seq ?_
  refine sxc_seq ?_
  refine sxc_region ?_
  refine sxo_loadB (i := 1) rfl rfl tf24 rfl rfl (by simp) rfl rfl ?_
  refine sxo_callM ent36 rfl rfl rfl (fun x256 e256 => C_graph_All F x1 a2 c3 x256 e256) .nil .nil (.consF 0 rfl .nil) (fun x256 e256 => ?_)
  rintro g257
  refine sxo_nil ?_
  refine sxq_next ?_
  refine sxc_block ?_
  refine sxc_range (encs := (fun (p : (Int × Int)) => [.agg #[.int .i64 p.1, .int .i64 p.2]])) (y := (fun (x340 : List (List Int)) ((x422, x423) : (Int × Int)) => M_core_near_r2 F x340 x422 x423)) (lb := [.pointer (some ⟨g257, 0, none⟩)]) (fun (x340 : List (List Int)) (g339 : List (Option Addr × Nat)) => [⟨g8, 22, [.slice a6 x340.length c7]⟩, ⟨g4, 24, [.slice a2 x1.length c3.1]⟩]) (fun (x340 : List (List Int)) (g339 : List (Option Addr × Nat)) => [RoN eN25 rN25 25 1 (.slice a6 x340.length c7) x340 g339 []]) (fun (_ : Empty) (_ : Unit) => []) (fun (_ : Empty) (_ : Unit) => []) (fun _ => .skip) x5 (List.replicate x5.length ((none, 0) : Option Addr × Nat)) rfl ent55 (fun _ => rfl) rfl (.cons 0 rfl .nil) (.cons 0 rfl (.cons 0 rfl .nil)) (.cons 0 rfl .nil) (.consF 0 rfl .nil) (fun z hz _ _ _ hY => C_graph_All_1 F hY x5 (List.replicate x5.length ((none, 0) : Option Addr × Nat)) g257 x1 a2 c3 z hz) ?_ ?_ ?_
  · rintro rc1 L1 D1 x340 g339 ⟨x422, x423⟩ z w M _
    try dsimp only
    refine sxc_less [(0, .agg #[.slice a2 x1.length c3.1]), (1, .pointer (some ⟨g4, 0, none⟩)), (2, .slice none 0 0), (3, .pointer (some ⟨g8, 0, none⟩)), (6, .pointer (some ⟨g4, 0, none⟩)), (7, .slice a2 x1.length c3.1), (8, .int .i64 (x1.length : Int)), (9, .slice a6 x5.length c7), (10, .agg #[.slice a2 x1.length c3.1]), (11, .func (.func 55) #[] #[.pointer (some ⟨g257, 0, none⟩)]), (12, .agg #[.int .i64 x422, .int .i64 x423])] (lk_cons rfl (lk_cons rfl (lk_cons rfl (lk_cons rfl (lk_cons rfl (lk_cons rfl (lk_cons rfl (lk_cons rfl (lk_cons rfl (lk_cons rfl (lk_cons rfl lk_nil))))))))))) ?_
    refine sxc_region ?_
    refine sxo_alloc rfl tf44 rfl (fun g424 => ?_)
    refine sxo_storeB (i := 0) rfl rfl rfl tf44 rfl rfl rfl rfl rfl ?_
    refine sxo_nil ?_
    refine sxq_begin (i := 3) rfl ?_
    refine sxc_block ?_
    refine sxc_seq ?_
    refine sxc_region ?_
    refine sxo_fieldAddr rfl rfl ff44_0 rfl ?_
    refine sxo_loadB (i := 0) rfl rfl tf3 rfl rfl (fun _ => rfl) rfl rfl ?_
    refine sxo_fieldAddr rfl rfl ff44_1 rfl ?_
    refine sxo_loadB (i := 0) rfl rfl tf3 rfl rfl (fun _ => rfl) rfl rfl ?_
    refine sxo_neq rfl rfl rfl rfl ?_
    refine sxo_nil ?_
    refine sxq_next ?_
    refine sxc_if rfl (fun h502 => ?_) (fun h502 => ?_)
    · refine sxc_idxP (j := 0) rfl (fun x425 e425 g426 h427 g428 h429 => ?_)
      replace h429 : a6 = some ⟨g428, 0, none⟩ := h429
      have h430 := own_of (k := x340.length) (c := c7) h429
      refine sxc_openN (i := 0) rfl h427 (List.not_mem_nil) ?_
      refine sxc_idxP (j := 1) rfl (fun x431 e431 g432 h433 g434 h435 => ?_)
      replace h435 : a6 = some ⟨g434, 0, none⟩ := h435
      have h436 := own_of (k := x340.length) (c := c7) h435
      refine sxc_chk (fun h437 => ?_)
      refine sxc_openN (i := 1) rfl h433 (by simp only [decide_eq_true_eq] at h437; simp only [List.mem_cons, List.not_mem_nil, or_false]; exact h437) ?_
      refine sxc_idxP (j := 1) rfl (fun x438 e438 g439 h440 g441 h442 => ?_)
      replace h442 : a6 = some ⟨g441, 0, none⟩ := h442
      have h443 := own_of (k := x340.length) (c := c7) h442
      refine sxc_idxP (j := 1) rfl (fun x444 e444 g445 h446 g447 h448 => ?_)
      replace h448 : a6 = some ⟨g447, 0, none⟩ := h448
      have h449 := own_of (k := x340.length) (c := c7) h448
      refine sxb_draw mixed [25, 27] [⟨g424, 44, [.int .i64 x422, .int .i64 x423]⟩, ⟨g8, 22, [.slice a6 x340.length c7]⟩, ⟨g4, 24, [.slice a2 x1.length c3.1]⟩, (blkO L1 (.loop (bsy rc1))), (dblk D1)] [SlN eN25 iN25 1 (.slice a2 x1.length c3.1) x1 c3.2, CellsAt g428 (x422.toNat * 1) (eN25 (x425, g426)), CellsAt g434 (x423.toNat * 1) (eN25 (x431, g432)), CellsAt g441 (x422.toNat * 1) (eN25 (x438, g439)), CellsAt g447 (x423.toNat * 1) (eN25 (x444, g445))] (.cons 0 rfl (.cons 0 rfl (.cons 0 rfl (.cons 0 rfl (.cons 0 rfl .nil))))) (gk_F 0 rfl (gk_R 1 rfl (at_rowN eN25_ok h427 h429) (gk_R 1 rfl (at_rowN eN25_ok h433 h435) (gk_R 1 rfl (at_rowN eN25_ok h440 h442) (gk_R 1 rfl (at_rowN eN25_ok h446 h448) gk_nil))))) 28 rfl ?_
      refine sxb_takeB 0 (.slice a6 x340.length c7) rfl rfl rfl rfl (by kernel_rfl) (by kernel_rfl) (by kernel_rfl) (by kernel_rfl) (by kernel_rfl) rfl (show _ = #[true, false, false, false, false, false, false, false, false, false, false, false, false, false, false, false, false, false, false, false, false, false, false, false, false, false, false, false] from rfl) (yv_loadB (i := 1) rfl tf22 rfl rfl (fun _ => rfl) rfl) ?_
      refine sxb_takeP 1 (.pointer (some ⟨g424, 0, none⟩)) rfl rfl rfl rfl (by kernel_rfl) (by kernel_rfl) (by kernel_rfl) (by kernel_rfl) (by kernel_rfl) rfl (show _ = #[true, true, false, false, false, false, false, false, false, false, false, false, false, false, false, false, false, false, false, false, false, false, false, false, false, false, false, false] from rfl) (yv_fieldAddr rfl ff44_0) ?_
      refine sxb_takeB 2 (.int .i64 x422) rfl rfl rfl rfl (by kernel_rfl) (by kernel_rfl) (by kernel_rfl) (by kernel_rfl) (by kernel_rfl) rfl (show _ = #[true, true, true, false, false, false, false, false, false, false, false, false, false, false, false, false, false, false, false, false, false, false, false, false, false, false, false, false] from rfl) (yv_loadB (i := 0) rfl tf3 rfl rfl (fun _ => rfl) rfl) ?_
      refine sxb_takeB 3 (.slice a6 x340.length c7) rfl rfl rfl rfl (by kernel_rfl) (by kernel_rfl) (by kernel_rfl) (by kernel_rfl) (by kernel_rfl) rfl (show _ = #[true, true, true, true, false, false, false, false, false, false, false, false, false, false, false, false, false, false, false, false, false, false, false, false, false, false, false, false] from rfl) (yv_loadB (i := 1) rfl tf22 rfl rfl (fun _ => rfl) rfl) ?_
      refine sxb_takeP 4 (.pointer (some ⟨g424, 1, none⟩)) rfl rfl rfl rfl (by kernel_rfl) (by kernel_rfl) (by kernel_rfl) (by kernel_rfl) (by kernel_rfl) rfl (show _ = #[true, true, true, true, true, false, false, false, false, false, false, false, false, false, false, false, false, false, false, false, false, false, false, false, false, false, false, false] from rfl) (yv_fieldAddr rfl ff44_1) ?_
      refine sxb_takeB 5 (.int .i64 x423) rfl rfl rfl rfl (by kernel_rfl) (by kernel_rfl) (by kernel_rfl) (by kernel_rfl) (by kernel_rfl) rfl (show _ = #[true, true, true, true, true, true, false, false, false, false, false, false, false, false, false, false, false, false, false, false, false, false, false, false, false, false, false, false] from rfl) (yv_loadB (i := 0) rfl tf3 rfl rfl (fun _ => rfl) rfl) ?_
      refine sxb_takeB 6 (.slice a6 x340.length c7) rfl rfl rfl rfl (by kernel_rfl) (by kernel_rfl) (by kernel_rfl) (by kernel_rfl) (by kernel_rfl) rfl (show _ = #[true, true, true, true, true, true, true, false, false, false, false, false, false, false, false, false, false, false, false, false, false, false, false, false, false, false, false, false] from rfl) (yv_loadB (i := 1) rfl tf22 rfl rfl (fun _ => rfl) rfl) ?_
      refine sxb_takeP 7 (.pointer (some ⟨g424, 0, none⟩)) rfl rfl rfl rfl (by kernel_rfl) (by kernel_rfl) (by kernel_rfl) (by kernel_rfl) (by kernel_rfl) rfl (show _ = #[true, true, true, true, true, true, true, true, false, false, false, false, false, false, false, false, false, false, false, false, false, false, false, false, false, false, false, false] from rfl) (yv_fieldAddr rfl ff44_0) ?_
      refine sxb_takeB 8 (.int .i64 x422) rfl rfl rfl rfl (by kernel_rfl) (by kernel_rfl) (by kernel_rfl) (by kernel_rfl) (by kernel_rfl) rfl (show _ = #[true, true, true, true, true, true, true, true, true, false, false, false, false, false, false, false, false, false, false, false, false, false, false, false, false, false, false, false] from rfl) (yv_loadB (i := 0) rfl tf3 rfl rfl (fun _ => rfl) rfl) ?_
      refine sxb_again (d := 24) (v := .slice (some ⟨g428, 0, none⟩) x340.length c7) rfl (by rw [h429] <;> rfl) ?_
      refine sxb_takeP 9 (.pointer (some ⟨g428, x422.toNat * 1, none⟩)) rfl rfl rfl rfl (by kernel_rfl) (by kernel_rfl) (by kernel_rfl) (by kernel_rfl) (by kernel_rfl) rfl (show _ = #[true, true, true, true, true, true, true, true, true, true, false, false, false, false, false, false, false, false, false, false, false, false, false, false, false, false, false, false] from rfl) (yv_idxO Try.underlying22 tf25 rfl rfl (idx_get e425).1 (idx_lt e425)) ?_
      refine sxb_again (d := 24) (v := .slice a6 x340.length c7) rfl (by rw [h429] <;> rfl) ?_
      refine sxb_take 10 (.slice g426.1 x425.length g426.2) [[25], [27]] rfl rfl rfl rfl (by kernel_rfl) (by kernel_rfl) (by kernel_rfl) (by kernel_rfl) (by kernel_rfl) (by kernel_rfl) rfl (show _ = #[true, true, true, true, true, true, true, true, true, true, true, false, false, false, false, false, false, false, false, false, false, false, false, false, false, false, false, false] from rfl) (yv_loadF (j := 1) rfl tf25 rfl rfl (fun _ => rfl) rfl) ?_
      refine sxb_takeP 11 (.pointer (some ⟨g424, 1, none⟩)) rfl rfl rfl rfl (by kernel_rfl) (by kernel_rfl) (by kernel_rfl) (by kernel_rfl) (by kernel_rfl) rfl (show _ = #[true, true, true, true, true, true, true, true, true, true, true, true, false, false, false, false, false, false, false, false, false, false, false, false, false, false, false, false] from rfl) (yv_fieldAddr rfl ff44_1) ?_
      refine sxb_takeB 12 (.int .i64 x423) rfl rfl rfl rfl (by kernel_rfl) (by kernel_rfl) (by kernel_rfl) (by kernel_rfl) (by kernel_rfl) rfl (show _ = #[true, true, true, true, true, true, true, true, true, true, true, true, true, false, false, false, false, false, false, false, false, false, false, false, false, false, false, false] from rfl) (yv_loadB (i := 0) rfl tf3 rfl rfl (fun _ => rfl) rfl) ?_
      refine sxb_takeB 15 (.slice a6 x340.length c7) rfl rfl rfl rfl (by kernel_rfl) (by kernel_rfl) (by kernel_rfl) (by kernel_rfl) (by kernel_rfl) rfl (show _ = #[true, true, true, true, true, true, true, true, true, true, true, true, true, false, false, true, false, false, false, false, false, false, false, false, false, false, false, false] from rfl) (yv_loadB (i := 1) rfl tf22 rfl rfl (fun _ => rfl) rfl) ?_
      refine sxb_takeP 16 (.pointer (some ⟨g424, 1, none⟩)) rfl rfl rfl rfl (by kernel_rfl) (by kernel_rfl) (by kernel_rfl) (by kernel_rfl) (by kernel_rfl) rfl (show _ = #[true, true, true, true, true, true, true, true, true, true, true, true, true, false, false, true, true, false, false, false, false, false, false, false, false, false, false, false] from rfl) (yv_fieldAddr rfl ff44_1) ?_
      refine sxb_takeB 17 (.int .i64 x423) rfl rfl rfl rfl (by kernel_rfl) (by kernel_rfl) (by kernel_rfl) (by kernel_rfl) (by kernel_rfl) rfl (show _ = #[true, true, true, true, true, true, true, true, true, true, true, true, true, false, false, true, true, true, false, false, false, false, false, false, false, false, false, false] from rfl) (yv_loadB (i := 0) rfl tf3 rfl rfl (fun _ => rfl) rfl) ?_
      refine sxb_again (d := 33) (v := .slice (some ⟨g434, 0, none⟩) x340.length c7) rfl (by rw [h435] <;> rfl) ?_
      refine sxb_takeP 18 (.pointer (some ⟨g434, x423.toNat * 1, none⟩)) rfl rfl rfl rfl (by kernel_rfl) (by kernel_rfl) (by kernel_rfl) (by kernel_rfl) (by kernel_rfl) rfl (show _ = #[true, true, true, true, true, true, true, true, true, true, true, true, true, false, false, true, true, true, true, false, false, false, false, false, false, false, false, false] from rfl) (yv_idxO Try.underlying22 tf25 rfl rfl (idx_get e431).1 (idx_lt e431)) ?_
      refine sxb_again (d := 33) (v := .slice a6 x340.length c7) rfl (by rw [h435] <;> rfl) ?_
      refine sxb_take 19 (.slice g432.1 x431.length g432.2) [[25], [27]] rfl rfl rfl rfl (by kernel_rfl) (by kernel_rfl) (by kernel_rfl) (by kernel_rfl) (by kernel_rfl) (by kernel_rfl) rfl (show _ = #[true, true, true, true, true, true, true, true, true, true, true, true, true, false, false, true, true, true, true, true, false, false, false, false, false, false, false, false] from rfl) (yv_loadF (j := 2) rfl tf25 rfl rfl (fun _ => rfl) rfl) ?_
      refine sxb_takeP 20 (.pointer (some ⟨g424, 0, none⟩)) rfl rfl rfl rfl (by kernel_rfl) (by kernel_rfl) (by kernel_rfl) (by kernel_rfl) (by kernel_rfl) rfl (show _ = #[true, true, true, true, true, true, true, true, true, true, true, true, true, false, false, true, true, true, true, true, true, false, false, false, false, false, false, false] from rfl) (yv_fieldAddr rfl ff44_0) ?_
      refine sxb_takeB 21 (.int .i64 x422) rfl rfl rfl rfl (by kernel_rfl) (by kernel_rfl) (by kernel_rfl) (by kernel_rfl) (by kernel_rfl) rfl (show _ = #[true, true, true, true, true, true, true, true, true, true, true, true, true, false, false, true, true, true, true, true, true, true, false, false, false, false, false, false] from rfl) (yv_loadB (i := 0) rfl tf3 rfl rfl (fun _ => rfl) rfl) ?_
      refine sxb_two 13 22 rfl rfl (by kernel_rfl) (show _ = #[true, true, true, true, true, true, true, true, true, true, true, true, true, true, false, true, true, true, true, true, true, true, false, false, false, false, false, false] from rfl) (show _ = #[true, true, true, true, true, true, true, true, true, true, true, true, true, false, false, true, true, true, true, true, true, true, true, false, false, false, false, false] from rfl) ?_ ?_
      · refine sxo_slit (vs := [.int .i64 x423]) (ys := ([x423] : List Int)) (eI_ok .i64) (by decide) rfl Try.underlying25 tf3 rfl rfl rfl rfl rfl (by decide) (fun a450 c451 => ?_)
        refine sxo_nil ?_
        refine sxq_anyB (.cons 0 rfl (.cons 0 rfl (.cons 0 rfl (.cons 0 rfl (.cons 0 rfl .nil))))) (gk_F 0 rfl (gk_R 2 rfl (at_rowN eN25_ok h427 h429) (gk_R 2 rfl (at_rowN eN25_ok h433 h435) (gk_R 2 rfl (at_rowN eN25_ok h440 h442) (gk_R 2 rfl (at_rowN eN25_ok h446 h448) gk_nil))))) ?_
        refine sxb_two 14 22 rfl rfl (by kernel_rfl) (show _ = #[true, true, true, true, true, true, true, true, true, true, true, true, true, true, true, true, true, true, true, true, true, true, false, false, false, false, false, false] from rfl) (show _ = #[true, true, true, true, true, true, true, true, true, true, true, true, true, true, false, true, true, true, true, true, true, true, true, false, false, false, false, false] from rfl) ?_ ?_
        · refine sxo_app 3 (eI_ok .i64) rfl Try.underlying25 tf3 rfl rfl rfl rfl rfl (.inl ⟨0, _, rfl⟩) rfl rfl (fun x452 e452 a453 c454 => ?_)
          refine sxo_nil ?_
          refine sxq_anyB (.cons 0 rfl (.cons 0 rfl (.cons 0 rfl (.cons 0 rfl (.cons 0 rfl .nil))))) (gk_F 0 rfl (gk_R 3 rfl (at_rowN eN25_ok h427 h429) (gk_R 3 rfl (at_rowN eN25_ok h433 h435) (gk_R 3 rfl (at_rowN eN25_ok h440 h442) (gk_R 3 rfl (at_rowN eN25_ok h446 h448) gk_nil))))) ?_
          refine sxb_step 22 rfl (by kernel_rfl) (show _ = #[true, true, true, true, true, true, true, true, true, true, true, true, true, true, true, true, true, true, true, true, true, true, true, false, false, false, false, false] from rfl) ?_
          refine sxo_slit (vs := [.int .i64 x422]) (ys := ([x422] : List Int)) (eI_ok .i64) (by decide) rfl Try.underlying25 tf3 rfl rfl rfl rfl rfl (by decide) (fun a455 c456 => ?_)
          refine sxo_nil ?_
          refine sxq_anyB (.cons 0 rfl (.cons 0 rfl (.cons 0 rfl (.cons 0 rfl (.cons 0 rfl .nil))))) (gk_F 0 rfl (gk_R 4 rfl (at_rowN eN25_ok h427 h429) (gk_R 4 rfl (at_rowN eN25_ok h433 h435) (gk_R 4 rfl (at_rowN eN25_ok h440 h442) (gk_R 4 rfl (at_rowN eN25_ok h446 h448) gk_nil))))) ?_
          refine sxb_step 23 rfl (by kernel_rfl) (show _ = #[true, true, true, true, true, true, true, true, true, true, true, true, true, true, true, true, true, true, true, true, true, true, true, true, false, false, false, false] from rfl) ?_
          refine sxo_app 3 (eI_ok .i64) rfl Try.underlying25 tf3 rfl rfl rfl rfl rfl (.inl ⟨0, _, rfl⟩) rfl rfl (fun x457 e457 a458 c459 => ?_)
          refine sxo_nil ?_
          refine sxq_anyB (.cons 0 rfl (.cons 0 rfl (.cons 0 rfl (.cons 0 rfl (.cons 0 rfl .nil))))) (gk_F 0 rfl (gk_R 4 rfl (at_rowN eN25_ok h427 h429) (gk_R 4 rfl (at_rowN eN25_ok h433 h435) (gk_R 4 rfl (at_rowN eN25_ok h440 h442) (gk_R 4 rfl (at_rowN eN25_ok h446 h448) gk_nil))))) ?_
          refine sxb_again (d := 18) (v := .slice (some ⟨g441, 0, none⟩) x340.length c7) rfl (by rw [h442] <;> rfl) ?_
          refine sxb_takeP 24 (.pointer (some ⟨g441, x422.toNat * 1, none⟩)) rfl rfl rfl rfl (by kernel_rfl) (by kernel_rfl) (by kernel_rfl) (by kernel_rfl) (by kernel_rfl) rfl (show _ = #[true, true, true, true, true, true, true, true, true, true, true, true, true, true, true, true, true, true, true, true, true, true, true, true, true, false, false, false] from rfl) (yv_idxO Try.underlying22 tf25 rfl rfl (idx_get e438).1 (idx_lt e438)) ?_
          refine sxb_again (d := 18) (v := .slice a6 x340.length c7) rfl (by rw [h442] <;> rfl) ?_
          refine sxb_step 25 rfl (by kernel_rfl) (show _ = #[true, true, true, true, true, true, true, true, true, true, true, true, true, true, true, true, true, true, true, true, true, true, true, true, true, true, false, false] from rfl) ?_
          refine sxo_storeC (j := 4) (kh := 1) (y' := x452) (q' := (a453, c454)) eN25_ok rfl rfl rfl tf25 rfl (own_of h442) rfl (idx_get e438).2.1 rfl (.cons 2 rfl .nil) (fun x460 e460 h461 g463 => ?_)
          have h462 : x460.length = x340.length := by rw [← e460, List.length_set]
          refine sxo_again (d := 18) (v := .slice a6 x460.length c7) rfl (by rw [h461] <;> rfl) ?_
          refine sxo_again (d := 21) (v := .slice a6 x460.length c7) rfl (by rw [h461] <;> rfl) ?_
          refine sxo_again (d := 24) (v := .slice a6 x460.length c7) rfl (by rw [h461] <;> rfl) ?_
          refine sxo_again (d := 33) (v := .slice a6 x460.length c7) rfl (by rw [h461] <;> rfl) ?_
          refine sxo_blkAgain (i := 1) (cs' := [.slice a6 x460.length c7]) rfl (by rw [h461] <;> rfl) ?_
          refine sxo_nil ?_
          refine sxq_anyW 25 rfl rfl (.cons 0 rfl (.cons 0 (by rw [h462]; rfl) (.cons 0 rfl (.cons 0 rfl (.cons 0 rfl .nil))))) ?_
          refine sxb_again (d := 21) (v := .slice (some ⟨g447, 0, none⟩) x460.length c7) rfl (by rw [h448] <;> rfl) ?_
          refine sxb_takeP 26 (.pointer (some ⟨g447, x423.toNat * 1, none⟩)) rfl rfl rfl rfl (by kernel_rfl) (by kernel_rfl) (by kernel_rfl) (by kernel_rfl) (by kernel_rfl) rfl (show _ = #[true, true, true, true, true, true, true, true, true, true, true, true, true, true, true, true, true, true, true, true, true, true, true, true, true, true, true, false] from rfl) (yv_idxO Try.underlying22 tf25 rfl rfl (idx_get e444).1 (by rw [h462]; exact (idx_lt e444))) ?_
          refine sxb_again (d := 21) (v := .slice a6 x460.length c7) rfl (by rw [h448] <;> rfl) ?_
          refine sxb_step 27 rfl (by kernel_rfl) (show _ = #[true, true, true, true, true, true, true, true, true, true, true, true, true, true, true, true, true, true, true, true, true, true, true, true, true, true, true, true] from rfl) ?_
          refine sxo_storeC (j := 0) (kh := 0) (y' := x457) (q' := (a458, c459)) eN25_ok rfl rfl rfl tf25 rfl (own_of h448) rfl (by rw [h462]; exact (idx_get e444).2.1) rfl (.cons 0 rfl .nil) (fun x464 e464 h465 g467 => ?_)
          have h466 : x464.length = x460.length := by rw [← e464, List.length_set]
          refine sxo_again (d := 18) (v := .slice a6 x464.length c7) rfl (by rw [h465] <;> rfl) ?_
          refine sxo_again (d := 21) (v := .slice a6 x464.length c7) rfl (by rw [h465] <;> rfl) ?_
          refine sxo_again (d := 24) (v := .slice a6 x464.length c7) rfl (by rw [h465] <;> rfl) ?_
          refine sxo_again (d := 33) (v := .slice a6 x464.length c7) rfl (by rw [h465] <;> rfl) ?_
          refine sxo_blkAgain (i := 1) (cs' := [.slice a6 x464.length c7]) rfl (by rw [h465] <;> rfl) ?_
          refine sxo_nil ?_
          refine sxq_anyW 25 rfl rfl (.cons 0 rfl (.cons 0 (by rw [h466, h462]; rfl) (.cons 0 rfl (.cons 0 rfl (.cons 0 rfl .nil))))) ?_
          refine sxb_done (by kernel_rfl) ?_
          refine sxq_np ?_ (by intro c h; cases h)
          refine sxq_blkN ?_
          exact sxq_round (rc := rc1) rfl (.cons 3 rfl .nil) rfl g467 (.cons 2 rfl (.cons 2 rfl (.cons 0 rfl (.cons 1 rfl .nil)))) (.cons 0 rfl .nil)
        · refine sxo_meq (m' := ((app 8796093022208 x425 ([x423] : List Int)).bind fun x470 => ((app 8796093022208 x431 ([x422] : List Int)).bind fun x473 => (lett (x340.set x422.toNat x470) fun x476 => (lett (x476.set x423.toNat x473) fun x480 => some (.inl x480)))))) (rfl) ?_
          refine sxo_slit (vs := [.int .i64 x422]) (ys := ([x422] : List Int)) (eI_ok .i64) (by decide) rfl Try.underlying25 tf3 rfl rfl rfl rfl rfl (by decide) (fun a468 c469 => ?_)
          refine sxo_nil ?_
          refine sxq_anyB (.cons 0 rfl (.cons 0 rfl (.cons 0 rfl (.cons 0 rfl (.cons 0 rfl .nil))))) (gk_F 0 rfl (gk_R 3 rfl (at_rowN eN25_ok h427 h429) (gk_R 3 rfl (at_rowN eN25_ok h433 h435) (gk_R 3 rfl (at_rowN eN25_ok h440 h442) (gk_R 3 rfl (at_rowN eN25_ok h446 h448) gk_nil))))) ?_
          refine sxb_step 14 rfl (by kernel_rfl) (show _ = #[true, true, true, true, true, true, true, true, true, true, true, true, true, true, true, true, true, true, true, true, true, true, true, false, false, false, false, false] from rfl) ?_
          refine sxo_app 4 (eI_ok .i64) rfl Try.underlying25 tf3 rfl rfl rfl rfl rfl (.inl ⟨1, _, rfl⟩) rfl rfl (fun x470 e470 a471 c472 => ?_)
          refine sxo_nil ?_
          refine sxq_anyB (.cons 0 rfl (.cons 0 rfl (.cons 0 rfl (.cons 0 rfl (.cons 0 rfl .nil))))) (gk_F 0 rfl (gk_R 4 rfl (at_rowN eN25_ok h427 h429) (gk_R 4 rfl (at_rowN eN25_ok h433 h435) (gk_R 4 rfl (at_rowN eN25_ok h440 h442) (gk_R 4 rfl (at_rowN eN25_ok h446 h448) gk_nil))))) ?_
          refine sxb_step 23 rfl (by kernel_rfl) (show _ = #[true, true, true, true, true, true, true, true, true, true, true, true, true, true, true, true, true, true, true, true, true, true, true, true, false, false, false, false] from rfl) ?_
          refine sxo_app 3 (eI_ok .i64) rfl Try.underlying25 tf3 rfl rfl rfl rfl rfl (.inl ⟨1, _, rfl⟩) rfl rfl (fun x473 e473 a474 c475 => ?_)
          refine sxo_nil ?_
          refine sxq_anyB (.cons 0 rfl (.cons 0 rfl (.cons 0 rfl (.cons 0 rfl (.cons 0 rfl .nil))))) (gk_F 0 rfl (gk_R 4 rfl (at_rowN eN25_ok h427 h429) (gk_R 4 rfl (at_rowN eN25_ok h433 h435) (gk_R 4 rfl (at_rowN eN25_ok h440 h442) (gk_R 4 rfl (at_rowN eN25_ok h446 h448) gk_nil))))) ?_
          refine sxb_again (d := 18) (v := .slice (some ⟨g441, 0, none⟩) x340.length c7) rfl (by rw [h442] <;> rfl) ?_
          refine sxb_takeP 24 (.pointer (some ⟨g441, x422.toNat * 1, none⟩)) rfl rfl rfl rfl (by kernel_rfl) (by kernel_rfl) (by kernel_rfl) (by kernel_rfl) (by kernel_rfl) rfl (show _ = #[true, true, true, true, true, true, true, true, true, true, true, true, true, true, true, true, true, true, true, true, true, true, true, true, true, false, false, false] from rfl) (yv_idxO Try.underlying22 tf25 rfl rfl (idx_get e438).1 (idx_lt e438)) ?_
          refine sxb_again (d := 18) (v := .slice a6 x340.length c7) rfl (by rw [h442] <;> rfl) ?_
          refine sxb_step 25 rfl (by kernel_rfl) (show _ = #[true, true, true, true, true, true, true, true, true, true, true, true, true, true, true, true, true, true, true, true, true, true, true, true, true, true, false, false] from rfl) ?_
          refine sxo_storeC (j := 4) (kh := 1) (y' := x470) (q' := (a471, c472)) eN25_ok rfl rfl rfl tf25 rfl (own_of h442) rfl (idx_get e438).2.1 rfl (.cons 1 rfl .nil) (fun x476 e476 h477 g479 => ?_)
          have h478 : x476.length = x340.length := by rw [← e476, List.length_set]
          refine sxo_again (d := 18) (v := .slice a6 x476.length c7) rfl (by rw [h477] <;> rfl) ?_
          refine sxo_again (d := 21) (v := .slice a6 x476.length c7) rfl (by rw [h477] <;> rfl) ?_
          refine sxo_again (d := 24) (v := .slice a6 x476.length c7) rfl (by rw [h477] <;> rfl) ?_
          refine sxo_again (d := 33) (v := .slice a6 x476.length c7) rfl (by rw [h477] <;> rfl) ?_
          refine sxo_blkAgain (i := 1) (cs' := [.slice a6 x476.length c7]) rfl (by rw [h477] <;> rfl) ?_
          refine sxo_nil ?_
          refine sxq_anyW 25 rfl rfl (.cons 0 rfl (.cons 0 (by rw [h478]; rfl) (.cons 0 rfl (.cons 0 rfl (.cons 0 rfl .nil))))) ?_
          refine sxb_again (d := 21) (v := .slice (some ⟨g447, 0, none⟩) x476.length c7) rfl (by rw [h448] <;> rfl) ?_
          refine sxb_takeP 26 (.pointer (some ⟨g447, x423.toNat * 1, none⟩)) rfl rfl rfl rfl (by kernel_rfl) (by kernel_rfl) (by kernel_rfl) (by kernel_rfl) (by kernel_rfl) rfl (show _ = #[true, true, true, true, true, true, true, true, true, true, true, true, true, true, true, true, true, true, true, true, true, true, true, true, true, true, true, false] from rfl) (yv_idxO Try.underlying22 tf25 rfl rfl (idx_get e444).1 (by rw [h478]; exact (idx_lt e444))) ?_
          refine sxb_again (d := 21) (v := .slice a6 x476.length c7) rfl (by rw [h448] <;> rfl) ?_
          refine sxb_step 27 rfl (by kernel_rfl) (show _ = #[true, true, true, true, true, true, true, true, true, true, true, true, true, true, true, true, true, true, true, true, true, true, true, true, true, true, true, true] from rfl) ?_
          refine sxo_storeC (j := 0) (kh := 0) (y' := x473) (q' := (a474, c475)) eN25_ok rfl rfl rfl tf25 rfl (own_of h448) rfl (by rw [h478]; exact (idx_get e444).2.1) rfl (.cons 0 rfl .nil) (fun x480 e480 h481 g483 => ?_)
          have h482 : x480.length = x476.length := by rw [← e480, List.length_set]
          refine sxo_again (d := 18) (v := .slice a6 x480.length c7) rfl (by rw [h481] <;> rfl) ?_
          refine sxo_again (d := 21) (v := .slice a6 x480.length c7) rfl (by rw [h481] <;> rfl) ?_
          refine sxo_again (d := 24) (v := .slice a6 x480.length c7) rfl (by rw [h481] <;> rfl) ?_
          refine sxo_again (d := 33) (v := .slice a6 x480.length c7) rfl (by rw [h481] <;> rfl) ?_
          refine sxo_blkAgain (i := 1) (cs' := [.slice a6 x480.length c7]) rfl (by rw [h481] <;> rfl) ?_
          refine sxo_nil ?_
          refine sxq_anyW 25 rfl rfl (.cons 0 rfl (.cons 0 (by rw [h482, h478]; rfl) (.cons 0 rfl (.cons 0 rfl (.cons 0 rfl .nil))))) ?_
          refine sxb_done (by kernel_rfl) ?_
          refine sxq_np ?_ (by intro c h; cases h)
          refine sxq_blkN ?_
          exact sxq_round (rc := rc1) rfl (.cons 3 rfl .nil) rfl g483 (.cons 2 rfl (.cons 2 rfl (.cons 0 rfl (.cons 1 rfl .nil)))) (.cons 0 rfl .nil)
      · refine sxo_meq (m' := ((app 8796093022208 x425 ([x423] : List Int)).bind fun x488 => ((app 8796093022208 x431 ([x422] : List Int)).bind fun x491 => (lett (x340.set x422.toNat x488) fun x494 => (lett (x494.set x423.toNat x491) fun x498 => some (.inl x498)))))) (rfl) ?_
        refine sxo_slit (vs := [.int .i64 x422]) (ys := ([x422] : List Int)) (eI_ok .i64) (by decide) rfl Try.underlying25 tf3 rfl rfl rfl rfl rfl (by decide) (fun a484 c485 => ?_)
        refine sxo_nil ?_
        refine sxq_anyB (.cons 0 rfl (.cons 0 rfl (.cons 0 rfl (.cons 0 rfl (.cons 0 rfl .nil))))) (gk_F 0 rfl (gk_R 2 rfl (at_rowN eN25_ok h427 h429) (gk_R 2 rfl (at_rowN eN25_ok h433 h435) (gk_R 2 rfl (at_rowN eN25_ok h440 h442) (gk_R 2 rfl (at_rowN eN25_ok h446 h448) gk_nil))))) ?_
        refine sxb_step 13 rfl (by kernel_rfl) (show _ = #[true, true, true, true, true, true, true, true, true, true, true, true, true, true, false, true, true, true, true, true, true, true, true, false, false, false, false, false] from rfl) ?_
        refine sxo_slit (vs := [.int .i64 x423]) (ys := ([x423] : List Int)) (eI_ok .i64) (by decide) rfl Try.underlying25 tf3 rfl rfl rfl rfl rfl (by decide) (fun a486 c487 => ?_)
        refine sxo_nil ?_
        refine sxq_anyB (.cons 0 rfl (.cons 0 rfl (.cons 0 rfl (.cons 0 rfl (.cons 0 rfl .nil))))) (gk_F 0 rfl (gk_R 3 rfl (at_rowN eN25_ok h427 h429) (gk_R 3 rfl (at_rowN eN25_ok h433 h435) (gk_R 3 rfl (at_rowN eN25_ok h440 h442) (gk_R 3 rfl (at_rowN eN25_ok h446 h448) gk_nil))))) ?_
        refine sxb_step 14 rfl (by kernel_rfl) (show _ = #[true, true, true, true, true, true, true, true, true, true, true, true, true, true, true, true, true, true, true, true, true, true, true, false, false, false, false, false] from rfl) ?_
        refine sxo_app 4 (eI_ok .i64) rfl Try.underlying25 tf3 rfl rfl rfl rfl rfl (.inl ⟨0, _, rfl⟩) rfl rfl (fun x488 e488 a489 c490 => ?_)
        refine sxo_nil ?_
        refine sxq_anyB (.cons 0 rfl (.cons 0 rfl (.cons 0 rfl (.cons 0 rfl (.cons 0 rfl .nil))))) (gk_F 0 rfl (gk_R 4 rfl (at_rowN eN25_ok h427 h429) (gk_R 4 rfl (at_rowN eN25_ok h433 h435) (gk_R 4 rfl (at_rowN eN25_ok h440 h442) (gk_R 4 rfl (at_rowN eN25_ok h446 h448) gk_nil))))) ?_
        refine sxb_step 23 rfl (by kernel_rfl) (show _ = #[true, true, true, true, true, true, true, true, true, true, true, true, true, true, true, true, true, true, true, true, true, true, true, true, false, false, false, false] from rfl) ?_
        refine sxo_app 3 (eI_ok .i64) rfl Try.underlying25 tf3 rfl rfl rfl rfl rfl (.inl ⟨2, _, rfl⟩) rfl rfl (fun x491 e491 a492 c493 => ?_)
        refine sxo_nil ?_
        refine sxq_anyB (.cons 0 rfl (.cons 0 rfl (.cons 0 rfl (.cons 0 rfl (.cons 0 rfl .nil))))) (gk_F 0 rfl (gk_R 4 rfl (at_rowN eN25_ok h427 h429) (gk_R 4 rfl (at_rowN eN25_ok h433 h435) (gk_R 4 rfl (at_rowN eN25_ok h440 h442) (gk_R 4 rfl (at_rowN eN25_ok h446 h448) gk_nil))))) ?_
        refine sxb_again (d := 18) (v := .slice (some ⟨g441, 0, none⟩) x340.length c7) rfl (by rw [h442] <;> rfl) ?_
        refine sxb_takeP 24 (.pointer (some ⟨g441, x422.toNat * 1, none⟩)) rfl rfl rfl rfl (by kernel_rfl) (by kernel_rfl) (by kernel_rfl) (by kernel_rfl) (by kernel_rfl) rfl (show _ = #[true, true, true, true, true, true, true, true, true, true, true, true, true, true, true, true, true, true, true, true, true, true, true, true, true, false, false, false] from rfl) (yv_idxO Try.underlying22 tf25 rfl rfl (idx_get e438).1 (idx_lt e438)) ?_
        refine sxb_again (d := 18) (v := .slice a6 x340.length c7) rfl (by rw [h442] <;> rfl) ?_
        refine sxb_step 25 rfl (by kernel_rfl) (show _ = #[true, true, true, true, true, true, true, true, true, true, true, true, true, true, true, true, true, true, true, true, true, true, true, true, true, true, false, false] from rfl) ?_
        refine sxo_storeC (j := 4) (kh := 1) (y' := x488) (q' := (a489, c490)) eN25_ok rfl rfl rfl tf25 rfl (own_of h442) rfl (idx_get e438).2.1 rfl (.cons 1 rfl .nil) (fun x494 e494 h495 g497 => ?_)
        have h496 : x494.length = x340.length := by rw [← e494, List.length_set]
        refine sxo_again (d := 18) (v := .slice a6 x494.length c7) rfl (by rw [h495] <;> rfl) ?_
        refine sxo_again (d := 21) (v := .slice a6 x494.length c7) rfl (by rw [h495] <;> rfl) ?_
        refine sxo_again (d := 24) (v := .slice a6 x494.length c7) rfl (by rw [h495] <;> rfl) ?_
        refine sxo_again (d := 33) (v := .slice a6 x494.length c7) rfl (by rw [h495] <;> rfl) ?_
        refine sxo_blkAgain (i := 1) (cs' := [.slice a6 x494.length c7]) rfl (by rw [h495] <;> rfl) ?_
        refine sxo_nil ?_
        refine sxq_anyW 25 rfl rfl (.cons 0 rfl (.cons 0 (by rw [h496]; rfl) (.cons 0 rfl (.cons 0 rfl (.cons 0 rfl .nil))))) ?_
        refine sxb_again (d := 21) (v := .slice (some ⟨g447, 0, none⟩) x494.length c7) rfl (by rw [h448] <;> rfl) ?_
        refine sxb_takeP 26 (.pointer (some ⟨g447, x423.toNat * 1, none⟩)) rfl rfl rfl rfl (by kernel_rfl) (by kernel_rfl) (by kernel_rfl) (by kernel_rfl) (by kernel_rfl) rfl (show _ = #[true, true, true, true, true, true, true, true, true, true, true, true, true, true, true, true, true, true, true, true, true, true, true, true, true, true, true, false] from rfl) (yv_idxO Try.underlying22 tf25 rfl rfl (idx_get e444).1 (by rw [h496]; exact (idx_lt e444))) ?_
        refine sxb_again (d := 21) (v := .slice a6 x494.length c7) rfl (by rw [h448] <;> rfl) ?_
        refine sxb_step 27 rfl (by kernel_rfl) (show _ = #[true, true, true, true, true, true, true, true, true, true, true, true, true, true, true, true, true, true, true, true, true, true, true, true, true, true, true, true] from rfl) ?_
        refine sxo_storeC (j := 0) (kh := 0) (y' := x491) (q' := (a492, c493)) eN25_ok rfl rfl rfl tf25 rfl (own_of h448) rfl (by rw [h496]; exact (idx_get e444).2.1) rfl (.cons 0 rfl .nil) (fun x498 e498 h499 g501 => ?_)
        have h500 : x498.length = x494.length := by rw [← e498, List.length_set]
        refine sxo_again (d := 18) (v := .slice a6 x498.length c7) rfl (by rw [h499] <;> rfl) ?_
        refine sxo_again (d := 21) (v := .slice a6 x498.length c7) rfl (by rw [h499] <;> rfl) ?_
        refine sxo_again (d := 24) (v := .slice a6 x498.length c7) rfl (by rw [h499] <;> rfl) ?_
        refine sxo_again (d := 33) (v := .slice a6 x498.length c7) rfl (by rw [h499] <;> rfl) ?_
        refine sxo_blkAgain (i := 1) (cs' := [.slice a6 x498.length c7]) rfl (by rw [h499] <;> rfl) ?_
        refine sxo_nil ?_
        refine sxq_anyW 25 rfl rfl (.cons 0 rfl (.cons 0 (by rw [h500, h496]; rfl) (.cons 0 rfl (.cons 0 rfl (.cons 0 rfl .nil))))) ?_
        refine sxb_done (by kernel_rfl) ?_
        refine sxq_np ?_ (by intro c h; cases h)
        refine sxq_blkN ?_
        exact sxq_round (rc := rc1) rfl (.cons 3 rfl .nil) rfl g501 (.cons 2 rfl (.cons 2 rfl (.cons 0 rfl (.cons 1 rfl .nil)))) (.cons 0 rfl .nil)
    · refine sxc_skip ?_
      refine sxq_blkN ?_
      exact sxq_round (rc := rc1) rfl (.cons 3 rfl .nil) rfl g339 (.cons 2 rfl (.cons 2 rfl (.cons 0 rfl (.cons 1 rfl .nil)))) (.cons 0 rfl .nil)
  · rintro x340 _ g339 D1
    try dsimp only
    refine sxq_blkN ?_
    refine sxq_next ?_
    refine sxc_join (fun ((x694, g693) : (List (List Int) × List (Option Addr × Nat))) => [(3, .pointer (some ⟨g8, 0, none⟩))]) (fun ((x694, g693) : (List (List Int) × List (Option Addr × Nat))) => [(dblk D1), ⟨g8, 22, [.slice a6 x694.length c7]⟩]) (fun ((x694, g693) : (List (List Int) × List (Option Addr × Nat))) => [RoN eN25 rN25 25 1 (.slice a6 x694.length c7) x694 g693 []]) (fun ((x694, g693) : (List (List Int) × List (Option Addr × Nat))) => []) (fun ((x694, _) : (List (List Int) × List (Option Addr × Nat))) => M_core_near_j4 F x694) ?_ ?_
    · refine sxc_seq ?_
      refine sxc_region ?_
      refine sxo_loadB (i := 2) rfl rfl tf22 rfl rfl (fun _ => rfl) rfl rfl ?_
      refine sxo_len rfl Try.underlying22 rfl rfl ?_
      refine sxo_move rfl rfl rfl ?_
      refine sxo_nil ?_
      refine sxq_next ?_
      refine sxc_block ?_
      refine sxc_loopP (fun (((x757, x759), g758) : ((Int × List (List Int)) × List (Option Addr × Nat))) => [(3, .pointer (some ⟨g8, 0, none⟩)), (45, .int .i64 (x340.length : Int)), (46, .int .i64 x757)]) (fun (((x757, x759), g758) : ((Int × List (List Int)) × List (Option Addr × Nat))) => [(dblk D1), ⟨g8, 22, [.slice a6 x759.length c7]⟩]) (fun (((x757, x759), g758) : ((Int × List (List Int)) × List (Option Addr × Nat))) => [RoN eN25 rN25 25 1 (.slice a6 x759.length c7) x759 g758 []]) (fun (((x757, x759), g758) : ((Int × List (List Int)) × List (Option Addr × Nat))) => []) (fun k (s : ((Int × List (List Int)) × List (Option Addr × Nat))) => M_core_near_l5 F x340 k s.1) ((0, x340), g339) F (lk_cons rfl (lk_cons rfl (lk_cons rfl lk_nil))) (.cons 0 rfl (.cons 1 rfl .nil)) (.cons 0 rfl .nil) fk_nil (fun _ => rfl) ?_
      intro k822
      rintro ⟨⟨x757, x759⟩, g758⟩
      try dsimp only
      refine sxc_meq (m' := M_core_near_b5 F x340 (M_core_near_l5 F x340 k822) x757 x759) rfl ?_
      refine sxc_seq ?_
      refine sxc_region ?_
      refine sxo_lss rfl rfl rfl rfl ?_
      refine sxo_nil ?_
      refine sxq_next ?_
      refine sxc_seq ?_
      refine sxc_if rfl (fun h884 => ?_) (fun h884 => ?_)
      · refine sxc_skip ?_
        refine sxq_next ?_
        refine sxc_seq ?_
        refine sxc_block ?_
        refine sxc_seq ?_
        refine sxc_region ?_
        refine sxo_move rfl rfl rfl ?_
        refine sxo_assign rfl rfl rfl ?_
        refine sxo_nil ?_
        refine sxq_next ?_
        refine sxc_seq ?_
        refine sxc_region ?_
        refine sxo_loadB (i := 1) rfl rfl tf22 rfl rfl (fun _ => rfl) rfl rfl ?_
        refine sxo_move rfl rfl rfl ?_
        refine sxo_idxP (j := 0) rfl Try.underlying22 tf25 rfl rfl rfl rfl (fun x854 e854 g855 h856 g857 h858 => ?_)
        refine sxo_openN (i := 0) rfl h856 (List.not_mem_nil) ?_
        refine sxo_loadN0 (j := 1) (p := (x854, g855)) eN25_ok rfl rfl tf25 rfl h858 h856 rfl (fun _ => rfl) rfl rfl ?_
        refine sxo_callM ent48 rfl rfl rfl (fun x859 e859 => C_slices_Sort_int_int F x854 g855.1 g855.2 x859 e859) .nil (.cons 0 rfl .nil) .nil (fun x859 e859 => ?_)
        intro _
        refine sxo_chk (fun h860 => ?_)
        replace h860 := of_decide_eq_true h860
        refine sxo_again (d := 52) (v := .slice g855.1 x859.length g855.2) rfl (by rw [h860] <;> rfl) ?_
        refine sxo_nil ?_
        refine sxq_next ?_
        refine sxc_closeT (rin := rN25) (i := 0) (kh := 0) (y := x859) (q := g855) (.cons 0 rfl .nil) rfl rfl h856 (by simp only [eN25, h860]) (fun x861 e861 h862 g864 => ?_)
        have h863 : x861.length = x759.length := by rw [← e861, List.length_set]
        refine sxc_look (d := 49) (v := .slice a6 x861.length c7) rfl (by rw [h862] <;> rfl) ?_
        refine sxc_blkAgain (i := 1) (cs' := [.slice a6 x861.length c7]) rfl (by rw [h862] <;> rfl) ?_
        refine sxc_idxP (j := 0) rfl (fun x865 e865 g866 h867 g868 h869 => ?_)
        replace h869 : a6 = some ⟨g868, 0, none⟩ := h869
        have h870 := own_of (k := x861.length) (c := c7) h869
        refine sxc_openN (i := 0) rfl h867 (List.not_mem_nil) ?_
        refine sxc_idxP (j := 1) rfl (fun x871 e871 g872 h873 g874 h875 => ?_)
        replace h875 : a6 = some ⟨g874, 0, none⟩ := h875
        have h876 := own_of (k := x861.length) (c := c7) h875
        refine sxb_draw mixed [8] [(dblk D1), ⟨g8, 22, [.slice a6 x861.length c7]⟩] [CellsAt g868 (x757.toNat * 1) (eN25 (x865, g866)), CellsAt g874 (x757.toNat * 1) (eN25 (x871, g872))] (.cons 0 rfl (.cons 0 rfl .nil)) (gk_R 1 rfl (at_rowN eN25_ok h867 h869) (gk_R 1 rfl (at_rowN eN25_ok h873 h875) gk_nil)) 9 rfl ?_
        refine sxb_takeB 0 (.slice a6 x861.length c7) rfl rfl rfl rfl (by kernel_rfl) (by kernel_rfl) (by kernel_rfl) (by kernel_rfl) (by kernel_rfl) rfl (show _ = #[true, false, false, false, false, false, false, false, false] from rfl) (yv_loadB (i := 1) rfl tf22 rfl rfl (fun _ => rfl) rfl) ?_
        refine sxb_takeP 1 (.int .i64 x757) rfl rfl rfl rfl (by kernel_rfl) (by kernel_rfl) (by kernel_rfl) (by kernel_rfl) (by kernel_rfl) rfl (show _ = #[true, true, false, false, false, false, false, false, false] from rfl) (yv_pv rfl) ?_
        refine sxb_takeB 2 (.slice a6 x861.length c7) rfl rfl rfl rfl (by kernel_rfl) (by kernel_rfl) (by kernel_rfl) (by kernel_rfl) (by kernel_rfl) rfl (show _ = #[true, true, true, false, false, false, false, false, false] from rfl) (yv_loadB (i := 1) rfl tf22 rfl rfl (fun _ => rfl) rfl) ?_
        refine sxb_takeP 3 (.int .i64 x757) rfl rfl rfl rfl (by kernel_rfl) (by kernel_rfl) (by kernel_rfl) (by kernel_rfl) (by kernel_rfl) rfl (show _ = #[true, true, true, true, false, false, false, false, false] from rfl) (yv_pv rfl) ?_
        refine sxb_again (d := 56) (v := .slice (some ⟨g868, 0, none⟩) x861.length c7) rfl (by rw [h869] <;> rfl) ?_
        refine sxb_takeP 4 (.pointer (some ⟨g868, x757.toNat * 1, none⟩)) rfl rfl rfl rfl (by kernel_rfl) (by kernel_rfl) (by kernel_rfl) (by kernel_rfl) (by kernel_rfl) rfl (show _ = #[true, true, true, true, true, false, false, false, false] from rfl) (yv_idxO Try.underlying22 tf25 rfl rfl (idx_get e865).1 (idx_lt e865)) ?_
        refine sxb_again (d := 56) (v := .slice a6 x861.length c7) rfl (by rw [h869] <;> rfl) ?_
        refine sxb_take 5 (.slice g866.1 x865.length g866.2) [[8]] rfl rfl rfl rfl (by kernel_rfl) (by kernel_rfl) (by kernel_rfl) (by kernel_rfl) (by kernel_rfl) (by kernel_rfl) rfl (show _ = #[true, true, true, true, true, true, false, false, false] from rfl) (yv_loadF (j := 0) rfl tf25 rfl rfl (fun _ => rfl) rfl) ?_
        refine sxb_step 6 rfl (by kernel_rfl) (show _ = #[true, true, true, true, true, true, true, false, false] from rfl) ?_
        refine sxo_callM ent49 rfl rfl rfl (fun x877 e877 => C_slices_Compact_int_int F x865 g866.1 g866.2 x877 e877) .nil (.cons 0 rfl .nil) .nil (fun x877 e877 => ?_)
        rintro ⟨a878, c879⟩
        refine sxo_nil ?_
        refine sxq_anyB (.cons 0 rfl (.cons 0 rfl .nil)) (gk_R 1 rfl (at_rowN eN25_ok h867 h869) (gk_R 1 rfl (at_rowN eN25_ok h873 h875) gk_nil)) ?_
        refine sxb_again (d := 54) (v := .slice (some ⟨g874, 0, none⟩) x861.length c7) rfl (by rw [h875] <;> rfl) ?_
        refine sxb_takeP 7 (.pointer (some ⟨g874, x757.toNat * 1, none⟩)) rfl rfl rfl rfl (by kernel_rfl) (by kernel_rfl) (by kernel_rfl) (by kernel_rfl) (by kernel_rfl) rfl (show _ = #[true, true, true, true, true, true, true, true, false] from rfl) (yv_idxO Try.underlying22 tf25 rfl rfl (idx_get e871).1 (idx_lt e871)) ?_
        refine sxb_again (d := 54) (v := .slice a6 x861.length c7) rfl (by rw [h875] <;> rfl) ?_
        refine sxb_step 8 rfl (by kernel_rfl) (show _ = #[true, true, true, true, true, true, true, true, true] from rfl) ?_
        refine sxo_storeC (j := 1) (kh := 0) (y' := x877) (q' := (a878, c879)) eN25_ok rfl rfl rfl tf25 rfl (own_of h875) rfl (idx_get e871).2.1 rfl (.cons 0 rfl .nil) (fun x880 e880 h881 g883 => ?_)
        have h882 : x880.length = x861.length := by rw [← e880, List.length_set]
        refine sxo_again (d := 49) (v := .slice a6 x880.length c7) rfl (by rw [h881] <;> rfl) ?_
        refine sxo_again (d := 54) (v := .slice a6 x880.length c7) rfl (by rw [h881] <;> rfl) ?_
        refine sxo_again (d := 56) (v := .slice a6 x880.length c7) rfl (by rw [h881] <;> rfl) ?_
        refine sxo_blkAgain (i := 1) (cs' := [.slice a6 x880.length c7]) rfl (by rw [h881] <;> rfl) ?_
        refine sxo_nil ?_
        refine sxq_anyW 8 rfl rfl (.cons 0 rfl (.cons 0 (by rw [h882]; rfl) .nil)) ?_
        refine sxb_done (by kernel_rfl) ?_
        refine sxq_np ?_ (by intro c h; cases h)
        refine sxq_blkN ?_
        refine sxq_next ?_
        refine sxc_region ?_
        refine sxo_add rfl rfl rfl rfl ?_
        refine sxo_move rfl rfl rfl ?_
        refine sxo_nil ?_
        exact sxq_againP ((iadd .i64 x757 1, x880), g883) (lk_cons rfl (lk_cons rfl (lk_cons rfl lk_nil))) (.cons 0 rfl (.cons 0 rfl .nil)) (.cons 0 rfl .nil) fk_nil
      · refine sxc_exit ?_
        refine sxq_thenX ?_
        refine sxq_thenX ?_
        refine sxq_blkX ?_
        exact sxq_meetP (x759, g758) (lk_cons rfl lk_nil) (.cons 0 rfl (.cons 0 rfl .nil)) (.cons 0 rfl .nil) fk_nil
    · rintro ⟨x694, g693⟩
      try dsimp only
      refine sxc_seq ?_
      refine sxc_region ?_
      refine sxo_loadB (i := 1) rfl rfl tf22 rfl rfl (fun _ => rfl) rfl rfl ?_
      refine sxo_assign rfl rfl rfl ?_
      refine sxo_nil ?_
      refine sxq_next ?_
      refine sxc_ret ?_
      exact sxq_doneX [D1] (a6, (c7, g693)) (.inl rfl) rfl (.cons 0 rfl .nil) (res1 rfl rfl) (fun h => by subst h; rfl) (fun h => by subst h; exact .nil) (fun h => by subst h; exact (.cons 0 rfl .nil))
  · intro t; exact t.elim

theorem C_core_peeler_least (F : Nat) (g1 : Nat) (x2 : List (List Int)) (a3 : Option Addr) (c4 : (Nat × List (Option Addr × Nat))) (x5 : List Int) (a6 : Option Addr) (c7 : Nat) (r : (Int × List (List Int) × List Int)) (hm : M_core_peeler_least F x2 x5 = some r) :
    PureM Try.prog 27 [.pointer (some ⟨g1, 0, none⟩)] [⟨g1, 55, [.slice a3 x2.length c4.1, .slice a6 x5.length c7]⟩] [RoN eN25 rN25 25 1 (.slice a3 x2.length c4.1) x2 c4.2 [], Ro (eI .i64) 3 1 (.slice a6 x5.length c7) x5] [] ((Option Addr × (Nat × List (Option Addr × Nat))) × (Option Addr × Nat)) (fun _ => .int .i64 r.1) (fun g => [⟨g1, 55, [.slice g.1.1 r.2.1.length g.1.2.1, .slice g.2.1 r.2.2.length g.2.2]⟩]) (fun g => [RoN eN25 rN25 25 1 (.slice g.1.1 r.2.1.length g.1.2.1) r.2.1 g.1.2.2 [], Ro (eI .i64) 3 1 (.slice g.2.1 r.2.2.length g.2.2) r.2.2]) := by
  refine pureM_of Try.func27 rfl Try.ntmps27 rfl hm (fun w => ?_)
  refine sxc_env (l' := [(0, .pointer (some ⟨g1, 0, none⟩))]) rfl ?_
  refine sxc_seq ?_
  refine sxc_region ?_
  refine sxo_assign rfl rfl rfl ?_
  refine sxo_nil ?_
  refine sxq_next ?_
  refine sxc_seq ?_
  refine sxc_region ?_
  refine sxo_assign rfl rfl rfl ?_
  refine sxo_nil ?_
  refine sxq_next ?_
  refine sxc_join (fun ((x164, _) : (Int × Unit)) => [(3, .int .i64 x164)]) (fun ((x164, _) : (Int × Unit)) => [⟨g1, 55, [.slice a3 x2.length c4.1, .slice a6 x5.length c7]⟩]) (fun ((x164, _) : (Int × Unit)) => [RoN eN25 rN25 25 1 (.slice a3 x2.length c4.1) x2 c4.2 [], Ro (eI .i64) 3 1 (.slice a6 x5.length c7) x5]) (fun ((x164, _) : (Int × Unit)) => []) (fun ((x164, _) : (Int × Unit)) => M_core_peeler_least_j23 F x2 x5 x164) ?_ ?_
  · refine sxc_seq ?_
    refine sxc_region ?_
    refine sxo_move rfl rfl rfl ?_
    refine sxo_nilCheck rfl rfl rfl ?_
    refine sxo_fieldAddr rfl rfl ff55_1 rfl ?_
    refine sxo_loadB (i := 0) rfl rfl tf25 rfl rfl (fun _ => rfl) rfl rfl ?_
    refine sxo_len rfl Try.underlying25 rfl rfl ?_
    refine sxo_move rfl rfl rfl ?_
    refine sxo_nil ?_
    refine sxq_next ?_
    refine sxc_block ?_
    refine sxc_loopP (fun (((x216, x217), _) : ((Int × Int) × Unit)) => [(0, .pointer (some ⟨g1, 0, none⟩)), (3, .int .i64 x216), (9, .slice a6 x5.length c7), (10, .int .i64 (x5.length : Int)), (11, .int .i64 x217)]) (fun (((x216, x217), _) : ((Int × Int) × Unit)) => [⟨g1, 55, [.slice a3 x2.length c4.1, .slice a6 x5.length c7]⟩]) (fun (((x216, x217), _) : ((Int × Int) × Unit)) => [Ro (eI .i64) 3 1 (.slice a6 x5.length c7) x5, RoN eN25 rN25 25 1 (.slice a3 x2.length c4.1) x2 c4.2 []]) (fun (((x216, x217), _) : ((Int × Int) × Unit)) => []) (fun k (s : ((Int × Int) × Unit)) => M_core_peeler_least_l38 F x2 x5 k s.1) ((-1, 0), ()) F (lk_cons rfl (lk_cons rfl (lk_cons rfl (lk_cons rfl (lk_cons rfl lk_nil))))) (.cons 0 rfl .nil) (.cons 1 rfl (.cons 0 rfl .nil)) fk_nil (fun _ => rfl) ?_
    intro k269
    rintro ⟨⟨x216, x217⟩, _⟩
    try dsimp only
    refine sxc_meq (m' := M_core_peeler_least_b38 F x2 x5 (M_core_peeler_least_l38 F x2 x5 k269) x216 x217) rfl ?_
    refine sxc_seq ?_
    refine sxc_region ?_
    refine sxo_lss rfl rfl rfl rfl ?_
    refine sxo_nil ?_
    refine sxq_next ?_
    refine sxc_seq ?_
    refine sxc_if rfl (fun h320 => ?_) (fun h320 => ?_)
    · refine sxc_skip ?_
      refine sxq_next ?_
      refine sxc_join (fun ((x295, _) : (Int × Unit)) => [(0, .pointer (some ⟨g1, 0, none⟩)), (3, .int .i64 x295), (9, .slice a6 x5.length c7), (10, .int .i64 (x5.length : Int)), (11, .int .i64 x217)]) (fun ((x295, _) : (Int × Unit)) => [⟨g1, 55, [.slice a3 x2.length c4.1, .slice a6 x5.length c7]⟩]) (fun ((x295, _) : (Int × Unit)) => [Ro (eI .i64) 3 1 (.slice a6 x5.length c7) x5, RoN eN25 rN25 25 1 (.slice a3 x2.length c4.1) x2 c4.2 []]) (fun ((x295, _) : (Int × Unit)) => []) (fun ((x295, _) : (Int × Unit)) => M_core_peeler_least_j42 F (M_core_peeler_least_l38 F x2 x5 k269) x217 x295) ?_ ?_
      · refine sxc_block ?_
        refine sxc_seq ?_
        refine sxc_region ?_
        refine sxo_move rfl rfl rfl ?_
        refine sxo_indexR (j := 0) rfl Try.underlying25 tf3 rfl rfl rfl rfl (fun x296 e296 g297 h298 => ?_)
        refine sxo_loadR (j := 0) (y := x296) (eI_ok .i64) rfl rfl tf3 rfl h298 (idx_get e296).2.2 (fun _ => rfl) rfl rfl ?_
        refine sxo_assign rfl rfl rfl ?_
        refine sxo_assign rfl rfl rfl ?_
        refine sxo_nil ?_
        refine sxq_next ?_
        refine sxc_seq ?_
        refine sxc_region ?_
        refine sxo_move rfl rfl rfl ?_
        refine sxo_geq rfl rfl rfl rfl ?_
        refine sxo_move rfl rfl rfl ?_
        refine sxo_join 14 (fun ((x309, _) : (Bool × Unit)) => [(0, .pointer (some ⟨g1, 0, none⟩)), (3, .int .i64 x216), (4, .int .i64 x217), (9, .slice a6 x5.length c7), (10, .int .i64 (x5.length : Int)), (11, .int .i64 x217), (32, .bool x309)]) (fun ((x309, _) : (Bool × Unit)) => [⟨g1, 55, [.slice a3 x2.length c4.1, .slice a6 x5.length c7]⟩]) (fun ((x309, _) : (Bool × Unit)) => [Ro (eI .i64) 3 1 (.slice a6 x5.length c7) x5, RoN eN25 rN25 25 1 (.slice a3 x2.length c4.1) x2 c4.2 []]) (fun ((x309, _) : (Bool × Unit)) => []) (fun ((x309, _) : (Bool × Unit)) => M_core_peeler_least_j44 F (M_core_peeler_least_l38 F x2 x5 k269) x216 x217 x309) ?_ ?_
        · refine sxo_take (os := _) rfl ?_
          refine sxo_if (fun h299 => ?_) (fun h299 => ?_)
          · refine sxo_isT (k := 18) rfl h299 ?_
            refine sxo_move rfl rfl rfl ?_
            refine sxo_lss rfl rfl rfl rfl ?_
            refine sxo_move rfl rfl rfl ?_
            refine sxo_join 10 (fun (((x315, x316), _) : ((Bool × Bool) × Unit)) => [(0, .pointer (some ⟨g1, 0, none⟩)), (3, .int .i64 x216), (4, .int .i64 x217), (9, .slice a6 x5.length c7), (10, .int .i64 (x5.length : Int)), (11, .int .i64 x217), (18, .bool true), (19, .int .i64 x216), (20, .bool (decide (x216 < 0))), (21, .bool x315), (31, .bool x316)]) (fun (((x315, x316), _) : ((Bool × Bool) × Unit)) => [⟨g1, 55, [.slice a3 x2.length c4.1, .slice a6 x5.length c7]⟩]) (fun (((x315, x316), _) : ((Bool × Bool) × Unit)) => [Ro (eI .i64) 3 1 (.slice a6 x5.length c7) x5, RoN eN25 rN25 25 1 (.slice a3 x2.length c4.1) x2 c4.2 []]) (fun (((x315, x316), _) : ((Bool × Bool) × Unit)) => []) (fun (((x315, x316), _) : ((Bool × Bool) × Unit)) => M_core_peeler_least_j45 F (M_core_peeler_least_l38 F x2 x5 k269) x216 x217 x315 x316) ?_ ?_
            · refine sxo_take (os := _) rfl ?_
              refine sxo_if (fun h311 => ?_) (fun h311 => ?_)
              · refine sxo_isT (k := 21) rfl h311 ?_
                refine sxo_skip rfl rfl rfl ?_
                refine sxo_skip rfl rfl rfl ?_
                refine sxo_skip rfl rfl rfl ?_
                refine sxo_skip rfl rfl rfl ?_
                refine sxo_skip rfl rfl rfl ?_
                refine sxo_skip rfl rfl rfl ?_
                refine sxo_skip rfl rfl rfl ?_
                refine sxo_skip rfl rfl rfl ?_
                refine sxo_skip rfl rfl rfl ?_
                refine sxo_pick (b := true) rfl rfl rfl rfl ?_
                refine sxo_nil ?_
                exact sxq_meetP ((true, true), ()) (lk_cons rfl (lk_cons rfl (lk_cons rfl (lk_cons rfl (lk_cons rfl (lk_cons rfl (lk_cons rfl (lk_cons rfl (lk_cons rfl (lk_cons rfl (lk_cons rfl lk_nil))))))))))) (.cons 0 rfl .nil) (.cons 0 rfl (.cons 0 rfl .nil)) fk_nil
              · refine sxo_isF (k := 21) rfl h311 ?_
                refine sxo_move rfl rfl rfl ?_
                refine sxo_move rfl rfl rfl ?_
                refine sxo_nilCheck rfl rfl rfl ?_
                refine sxo_fieldAddr rfl rfl ff55_1 rfl ?_
                refine sxo_loadB (i := 0) rfl rfl tf25 rfl rfl (fun _ => rfl) rfl rfl ?_
                refine sxo_move rfl rfl rfl ?_
                refine sxo_indexR (j := 0) rfl Try.underlying25 tf3 rfl rfl rfl rfl (fun x317 e317 g318 h319 => ?_)
                refine sxo_loadR (j := 0) (y := x317) (eI_ok .i64) rfl rfl tf3 rfl h319 (idx_get e317).2.2 (fun _ => rfl) rfl rfl ?_
                refine sxo_lss rfl rfl rfl rfl ?_
                refine sxo_pick (b := false) rfl rfl rfl rfl ?_
                refine sxo_nil ?_
                exact sxq_meetP ((false, (decide (x296 < x317))), ()) (lk_cons rfl (lk_cons rfl (lk_cons rfl (lk_cons rfl (lk_cons rfl (lk_cons rfl (lk_cons rfl (lk_cons rfl (lk_cons rfl (lk_cons rfl (lk_cons rfl lk_nil))))))))))) (.cons 0 rfl .nil) (.cons 0 rfl (.cons 0 rfl .nil)) fk_nil
            · rintro ⟨⟨x315, x316⟩, _⟩
              try dsimp only
              refine sxo_take (os := _) rfl ?_
              refine sxo_pick (b := true) rfl rfl rfl rfl ?_
              refine sxo_nil ?_
              exact sxq_meetP (x316, ()) (lk_cons rfl (lk_cons rfl (lk_cons rfl (lk_cons rfl (lk_cons rfl (lk_cons rfl (lk_cons rfl lk_nil))))))) (.cons 0 rfl .nil) (.cons 0 rfl (.cons 0 rfl .nil)) fk_nil
          · refine sxo_isF (k := 18) rfl h299 ?_
            refine sxo_skip rfl rfl rfl ?_
            refine sxo_skip rfl rfl rfl ?_
            refine sxo_skip rfl rfl rfl ?_
            refine sxo_skip rfl rfl rfl ?_
            refine sxo_skip rfl rfl rfl ?_
            refine sxo_skip rfl rfl rfl ?_
            refine sxo_skip rfl rfl rfl ?_
            refine sxo_skip rfl rfl rfl ?_
            refine sxo_skip rfl rfl rfl ?_
            refine sxo_skip rfl rfl rfl ?_
            refine sxo_skip rfl rfl rfl ?_
            refine sxo_skip rfl rfl rfl ?_
            refine sxo_skip rfl rfl rfl ?_
            refine sxo_pick (b := false) rfl rfl rfl rfl ?_
            refine sxo_nil ?_
            exact sxq_meetP (false, ()) (lk_cons rfl (lk_cons rfl (lk_cons rfl (lk_cons rfl (lk_cons rfl (lk_cons rfl (lk_cons rfl lk_nil))))))) (.cons 0 rfl .nil) (.cons 0 rfl (.cons 0 rfl .nil)) fk_nil
        · rintro ⟨x309, _⟩
          try dsimp only
          refine sxo_take (os := _) rfl ?_
          refine sxo_nil ?_
          refine sxq_next ?_
          refine sxc_if rfl (fun h310 => ?_) (fun h310 => ?_)
          · refine sxc_region ?_
            refine sxo_move rfl rfl rfl ?_
            refine sxo_assign rfl rfl rfl ?_
            refine sxo_nil ?_
            refine sxq_blkN ?_
            exact sxq_meetP (x217, ()) (lk_cons rfl (lk_cons rfl (lk_cons rfl (lk_cons rfl (lk_cons rfl lk_nil))))) (.cons 0 rfl .nil) (.cons 0 rfl (.cons 0 rfl .nil)) fk_nil
          · refine sxc_skip ?_
            refine sxq_blkN ?_
            exact sxq_meetP (x216, ()) (lk_cons rfl (lk_cons rfl (lk_cons rfl (lk_cons rfl (lk_cons rfl lk_nil))))) (.cons 0 rfl .nil) (.cons 0 rfl (.cons 0 rfl .nil)) fk_nil
      · rintro ⟨x295, _⟩
        try dsimp only
        refine sxc_region ?_
        refine sxo_add rfl rfl rfl rfl ?_
        refine sxo_move rfl rfl rfl ?_
        refine sxo_nil ?_
        exact sxq_againP ((x295, iadd .i64 x217 1), ()) (lk_cons rfl (lk_cons rfl (lk_cons rfl (lk_cons rfl (lk_cons rfl lk_nil))))) (.cons 0 rfl .nil) (.cons 0 rfl (.cons 0 rfl .nil)) fk_nil
    · refine sxc_exit ?_
      refine sxq_thenX ?_
      refine sxq_thenX ?_
      refine sxq_blkX ?_
      exact sxq_meetP (x216, ()) (lk_cons rfl lk_nil) (.cons 0 rfl .nil) (.cons 1 rfl (.cons 0 rfl .nil)) fk_nil
  · rintro ⟨x164, _⟩
    try dsimp only
    refine sxc_seq ?_
    refine sxc_region ?_
    refine sxo_move rfl rfl rfl ?_
    refine sxo_assign rfl rfl rfl ?_
    refine sxo_nil ?_
    refine sxq_next ?_
    refine sxc_ret ?_
    exact sxq_doneM ((a3, c4), (a6, c7)) (.inl rfl) (res1 rfl rfl) (fun h => by subst h; rfl) (fun h => by subst h; exact (.cons 0 rfl .nil)) (fun h => by subst h; exact (.cons 0 rfl (.cons 0 rfl .nil)))

theorem C_core_peeler_drop (F : Nat) (g1 : Nat) (x2 : List (List Int)) (a3 : Option Addr) (c4 : (Nat × List (Option Addr × Nat))) (x5 : List Int) (a6 : Option Addr) (c7 : Nat) (x8 : Int) (r : (List (List Int) × List Int)) (hm : M_core_peeler_drop F x2 x5 x8 = some r) :
    PureM Try.prog 28 [.pointer (some ⟨g1, 0, none⟩), .int .i64 x8] [⟨g1, 55, [.slice a3 x2.length c4.1, .slice a6 x5.length c7]⟩] [RoN eN25 rN25 25 1 (.slice a3 x2.length c4.1) x2 c4.2 [], Ro (eI .i64) 3 1 (.slice a6 x5.length c7) x5] [] ((Option Addr × (Nat × List (Option Addr × Nat))) × (Option Addr × Nat)) (fun _ => .tuple #[]) (fun g => [⟨g1, 55, [.slice g.1.1 r.1.length g.1.2.1, .slice g.2.1 r.2.length g.2.2]⟩]) (fun g => [RoN eN25 rN25 25 1 (.slice g.1.1 r.1.length g.1.2.1) r.1 g.1.2.2 [], Ro (eI .i64) 3 1 (.slice g.2.1 r.2.length g.2.2) r.2]) := by
  refine pureM_of Try.func28 rfl Try.ntmps28 rfl hm (fun w => ?_)
  refine sxc_env (l' := [(0, .pointer (some ⟨g1, 0, none⟩)), (1, .int .i64 x8)]) rfl ?_
  refine sxc_seq ?_
  refine sxc_region ?_
  refine sxo_move rfl rfl rfl ?_
  refine sxo_nilCheck rfl rfl rfl ?_
  refine sxo_fieldAddr rfl rfl ff55_1 rfl ?_
  refine sxo_loadB (i := 0) rfl rfl tf25 rfl rfl (fun _ => rfl) rfl rfl ?_
  refine sxo_move rfl rfl rfl ?_
  refine sxo_indexR (j := 1) rfl Try.underlying25 tf3 rfl rfl rfl rfl (fun x9 e9 g10 h11 => ?_)
  refine sxo_storeL (j := 1) (y' := -1) (eI_ok .i64) rfl rfl rfl tf3 rfl h11 (idx_get e9).2.1 rfl (fun x12 e12 h13 => ?_)
  have h14 : x12.length = x5.length := by rw [← e12, List.length_set]
  refine sxo_again (d := 9) (v := .slice a6 x12.length c7) rfl h13 ?_
  refine sxo_blkAgain (i := 0) (cs' := [.slice a3 x2.length c4.1, .slice a6 x12.length c7]) rfl (by rw [h13] <;> rfl) ?_
  refine sxo_nil ?_
  refine sxq_next ?_
  refine sxc_seq ?_
  refine sxc_region ?_
  refine sxo_move rfl rfl rfl ?_
  refine sxo_nilCheck rfl rfl rfl ?_
  refine sxo_fieldAddr rfl rfl ff55_0 rfl ?_
  refine sxo_loadB (i := 0) rfl rfl tf22 rfl rfl (fun _ => rfl) rfl rfl ?_
  refine sxo_move rfl rfl rfl ?_
  refine sxo_idxP (j := 1) rfl Try.underlying22 tf25 rfl rfl rfl rfl (fun x15 e15 g16 h17 g18 h19 => ?_)
  refine sxo_openN (i := 1) rfl h17 (List.not_mem_nil) ?_
  refine sxo_loadN0 (j := 1) (p := (x15, g16)) eN25_ok rfl rfl tf25 rfl h19 h17 rfl (fun _ => rfl) rfl rfl ?_
  refine sxo_len rfl Try.underlying25 rfl rfl ?_
  refine sxo_move rfl rfl rfl ?_
  refine sxo_nil ?_
  refine sxq_next ?_
  refine sxc_block ?_
  refine sxc_loopP (fun (((x55, x56), _) : ((Int × List Int) × Unit)) => [(0, .pointer (some ⟨g1, 0, none⟩)), (18, .slice g16.1 x15.length g16.2), (19, .int .i64 (x15.length : Int)), (20, .int .i64 x55)]) (fun (((x55, x56), _) : ((Int × List Int) × Unit)) => [⟨g1, 55, [.slice a3 x2.length c4.1, .slice a6 x56.length c7]⟩]) (fun (((x55, x56), _) : ((Int × List Int) × Unit)) => [Ro (eI .i64) 3 1 (.slice g16.1 x15.length g16.2) x15, RoN eN25 rN25 25 1 (.slice a3 x2.length c4.1) x2 c4.2 [x8.toNat], Ro (eI .i64) 3 1 (.slice a6 x56.length c7) x56]) (fun (((x55, x56), _) : ((Int × List Int) × Unit)) => []) (fun k (s : ((Int × List Int) × Unit)) => M_core_peeler_drop_l3 F x2 x15 k s.1) ((0, x12), ()) F (lk_cons rfl (lk_cons rfl (lk_cons rfl (lk_cons rfl lk_nil)))) (.cons 0 rfl .nil) (.cons 0 rfl (.cons 0 rfl (.cons 0 rfl .nil))) fk_nil (fun _ => rfl) ?_
  intro k92
  rintro ⟨⟨x55, x56⟩, _⟩
  try dsimp only
  refine sxc_meq (m' := M_core_peeler_drop_b3 F x2 x15 (M_core_peeler_drop_l3 F x2 x15 k92) x55 x56) rfl ?_
  refine sxc_seq ?_
  refine sxc_region ?_
  refine sxo_lss rfl rfl rfl rfl ?_
  refine sxo_nil ?_
  refine sxq_next ?_
  refine sxc_seq ?_
  refine sxc_if rfl (fun h127 => ?_) (fun h127 => ?_)
  · refine sxc_skip ?_
    refine sxq_next ?_
    refine sxc_join (fun ((x110, _) : (List Int × Unit)) => [(0, .pointer (some ⟨g1, 0, none⟩)), (18, .slice g16.1 x15.length g16.2), (19, .int .i64 (x15.length : Int)), (20, .int .i64 x55)]) (fun ((x110, _) : (List Int × Unit)) => [⟨g1, 55, [.slice a3 x2.length c4.1, .slice a6 x110.length c7]⟩]) (fun ((x110, _) : (List Int × Unit)) => [Ro (eI .i64) 3 1 (.slice g16.1 x15.length g16.2) x15, RoN eN25 rN25 25 1 (.slice a3 x2.length c4.1) x2 c4.2 [x8.toNat], Ro (eI .i64) 3 1 (.slice a6 x110.length c7) x110]) (fun ((x110, _) : (List Int × Unit)) => []) (fun ((x110, _) : (List Int × Unit)) => M_core_peeler_drop_j4 F (M_core_peeler_drop_l3 F x2 x15 k92) x55 x110) ?_ ?_
    · refine sxc_block ?_
      refine sxc_seq ?_
      refine sxc_region ?_
      refine sxo_indexR (j := 0) rfl Try.underlying25 tf3 rfl rfl rfl rfl (fun x111 e111 g112 h113 => ?_)
      refine sxo_loadR (j := 0) (y := x111) (eI_ok .i64) rfl rfl tf3 rfl h113 (idx_get e111).2.2 (fun _ => rfl) rfl rfl ?_
      refine sxo_assign rfl rfl rfl ?_
      refine sxo_nil ?_
      refine sxq_next ?_
      refine sxc_seq ?_
      refine sxc_region ?_
      refine sxo_move rfl rfl rfl ?_
      refine sxo_nilCheck rfl rfl rfl ?_
      refine sxo_fieldAddr rfl rfl ff55_1 rfl ?_
      refine sxo_loadB (i := 0) rfl rfl tf25 rfl rfl (fun _ => rfl) rfl rfl ?_
      refine sxo_move rfl rfl rfl ?_
      refine sxo_indexR (j := 2) rfl Try.underlying25 tf3 rfl rfl rfl rfl (fun x114 e114 g115 h116 => ?_)
      refine sxo_loadR (j := 2) (y := x114) (eI_ok .i64) rfl rfl tf3 rfl h116 (idx_get e114).2.2 (fun _ => rfl) rfl rfl ?_
      refine sxo_geq rfl rfl rfl rfl ?_
      refine sxo_nil ?_
      refine sxq_next ?_
      refine sxc_if rfl (fun h126 => ?_) (fun h126 => ?_)
      · refine sxc_region ?_
        refine sxo_move rfl rfl rfl ?_
        refine sxo_nilCheck rfl rfl rfl ?_
        refine sxo_fieldAddr rfl rfl ff55_1 rfl ?_
        refine sxo_loadB (i := 0) rfl rfl tf25 rfl rfl (fun _ => rfl) rfl rfl ?_
        refine sxo_move rfl rfl rfl ?_
        refine sxo_indexR (j := 2) rfl Try.underlying25 tf3 rfl rfl rfl rfl (fun x117 e117 g118 h119 => ?_)
        refine sxo_loadR (j := 2) (y := x117) (eI_ok .i64) rfl rfl tf3 rfl h119 (idx_get e117).2.2 (fun _ => rfl) rfl rfl ?_
        refine sxo_sub rfl rfl rfl rfl ?_
        refine sxo_indexR (j := 2) rfl Try.underlying25 tf3 rfl rfl rfl rfl (fun x120 e120 g121 h122 => ?_)
        refine sxo_storeL (j := 2) (y' := isub .i64 x117 1) (eI_ok .i64) rfl rfl rfl tf3 rfl h122 (idx_get e120).2.1 rfl (fun x123 e123 h124 => ?_)
        have h125 : x123.length = x56.length := by rw [← e123, List.length_set]
        refine sxo_again (d := 27) (v := .slice a6 x123.length c7) rfl h124 ?_
        refine sxo_again (d := 35) (v := .slice a6 x123.length c7) rfl h124 ?_
        refine sxo_blkAgain (i := 0) (cs' := [.slice a3 x2.length c4.1, .slice a6 x123.length c7]) rfl (by rw [h124] <;> rfl) ?_
        refine sxo_nil ?_
        refine sxq_blkN ?_
        exact sxq_meetP (x123, ()) (lk_cons rfl (lk_cons rfl (lk_cons rfl (lk_cons rfl lk_nil)))) (.cons 0 rfl .nil) (.cons 1 rfl (.cons 1 rfl (.cons 0 rfl .nil))) fk_nil
      · refine sxc_skip ?_
        refine sxq_blkN ?_
        exact sxq_meetP (x56, ()) (lk_cons rfl (lk_cons rfl (lk_cons rfl (lk_cons rfl lk_nil)))) (.cons 0 rfl .nil) (.cons 0 rfl (.cons 0 rfl (.cons 0 rfl .nil))) fk_nil
    · rintro ⟨x110, _⟩
      try dsimp only
      refine sxc_region ?_
      refine sxo_add rfl rfl rfl rfl ?_
      refine sxo_move rfl rfl rfl ?_
      refine sxo_nil ?_
      exact sxq_againP ((iadd .i64 x55 1, x110), ()) (lk_cons rfl (lk_cons rfl (lk_cons rfl (lk_cons rfl lk_nil)))) (.cons 0 rfl .nil) (.cons 0 rfl (.cons 0 rfl (.cons 0 rfl .nil))) fk_nil
  · refine sxc_exit ?_
    refine sxq_thenX ?_
    refine sxq_thenX ?_
    refine sxq_blkX ?_
    refine sxq_closeN (rin := rN25) (p := (x15, g16)) (i := 0) (k := 0) (.cons 0 rfl .nil) rfl rfl h17 ?_
    exact sxq_doneM ((a3, c4), (a6, c7)) (.inr rfl) (res0 rfl) (fun h => by subst h; rfl) (fun h => by subst h; exact (.cons 0 rfl .nil)) (fun h => by subst h; exact (.cons 0 rfl (.cons 0 rfl .nil)))

set_option maxHeartbeats 4000000 in
theorem C_core_Numbers (F : Nat) (x1 : List (List Int)) (a2 : Option Addr) (c3 : (Nat × List (Option Addr × Nat))) (r : (List Int × Int)) (hm : M_core_Numbers F x1 = some r) :
    Pure Try.prog 10 [.agg #[.slice a2 x1.length c3.1]] [SlN eN25 iN25 1 (.slice a2 x1.length c3.1) x1 c3.2] (Option Addr × Nat) (fun g => .tuple #[.slice g.1 r.1.length g.2, .int .i64 r.2]) (fun g => [Ro (eI .i64) 3 1 (.slice g.1 r.1.length g.2) r.1]) (fun _ => []) := by
  refine pure_of Try.func10 rfl Try.ntmps10 rfl hm (fun w => ?_)
  refine sxc_env (l' := [(0, .agg #[.slice a2 x1.length c3.1])]) rfl ?_
  refine sxc_seq ?_
  refine sxc_region ?_
  refine sxo_box rfl rfl rfl (fun g4 => ?_)
  refine sxo_assign rfl rfl rfl ?_
  refine sxo_assign rfl rfl rfl ?_
  refine sxo_nil ?_
  refine sxq_next ?_
  refine sxc_seq ?_
  refine sxc_seq ?_
  refine sxc_region ?_
  refine sxo_loadB (i := 0) rfl rfl tf24 rfl rfl (by simp) rfl rfl ?_
  refine sxo_call ent25 rfl rfl rfl (fun x7 e7 => C_graph_Check F x1 a2 c3 x7 e7) (.consF 0 rfl .nil) (fun x7 e7 => ?_)
  intro _
  refine sxo_assign rfl rfl rfl ?_
  refine sxo_nil ?_
  refine sxq_next ?_
  refine sxc_seq ?_
  refine sxc_region ?_
  refine sxo_move rfl rfl rfl ?_
  refine sxo_neq rfl rfl rfl rfl ?_
  refine sxo_nil ?_
  refine sxq_next ?_
  refine sxc_if rfl (fun h403 => ?_) (fun h403 => ?_)
  · refine sxc_seq ?_
    refine sxc_region ?_
    refine sxo_move rfl rfl rfl ?_
    refine sxo_assign rfl rfl rfl ?_
    refine sxo_assign rfl rfl rfl ?_
    refine sxo_nil ?_
    refine sxq_next ?_
    refine sxc_ret ?_
    refine sxq_thenR ?_
    refine sxq_nilrow Int (eI .i64) 3 1 ?_
    exact sxq_doneP (none, 0) (.inl rfl) (res2 rfl rfl rfl) (fun h => by subst h; rfl) (fun h => by subst h; exact (.cons 0 rfl .nil))
  · refine sxc_skip ?_
    refine sxq_next ?_
    refine sxc_seq ?_
    refine sxc_region ?_
    refine sxo_loadB (i := 0) rfl rfl tf24 rfl rfl (by simp) rfl rfl ?_
    refine sxo_callM ent26 rfl rfl rfl (fun x8 e8 => C_core_near F x1 a2 c3 x8 e8) .nil .nil (.consF 0 rfl .nil) (fun x8 e8 => ?_)
    rintro ⟨a9, c10⟩
    refine sxo_build (cells := [.slice a9 x8.length c10.1, .slice none 0 0]) rfl st55 rfl (by kernel_rfl) rfl ?_
    refine sxo_box rfl rfl rfl (fun g11 => ?_)
    refine sxo_assign rfl rfl rfl ?_
    refine sxo_nil ?_
    refine sxq_next ?_
    refine sxc_join (fun ((x86, (a84, c85)) : (List Int × (Option Addr × Nat))) => [(5, .pointer (some ⟨g11, 0, none⟩))]) (fun ((x86, (a84, c85)) : (List Int × (Option Addr × Nat))) => [⟨g11, 55, [.slice a9 x8.length c10.1, .slice a84 x86.length c85]⟩]) (fun ((x86, (a84, c85)) : (List Int × (Option Addr × Nat))) => [RoN eN25 rN25 25 1 (.slice a9 x8.length c10.1) x8 c10.2 [], Ro (eI .i64) 3 1 (.slice a84 x86.length c85) x86]) (fun ((x86, (a84, c85)) : (List Int × (Option Addr × Nat))) => []) (fun ((x86, _) : (List Int × (Option Addr × Nat))) => M_core_Numbers_j2 F x8 x86) ?_ ?_
    · refine sxc_seq ?_
      refine sxc_region ?_
      refine sxo_move rfl rfl rfl ?_
      refine sxo_nilCheck rfl rfl rfl ?_
      refine sxo_fieldAddr rfl rfl ff55_0 rfl ?_
      refine sxo_loadB (i := 0) rfl rfl tf22 rfl rfl (fun _ => rfl) rfl rfl ?_
      refine sxo_len rfl Try.underlying22 rfl rfl ?_
      refine sxo_move rfl rfl rfl ?_
      refine sxo_nil ?_
      refine sxq_next ?_
      refine sxc_block ?_
      refine sxc_nilrow Int (eI .i64) 3 1 ?_
      refine sxc_loopP (fun (((x354, x357), (a355, c356)) : ((Int × List Int) × (Option Addr × Nat))) => [(5, .pointer (some ⟨g11, 0, none⟩)), (23, .slice a9 x8.length c10.1), (24, .int .i64 (x8.length : Int)), (25, .int .i64 x354)]) (fun (((x354, x357), (a355, c356)) : ((Int × List Int) × (Option Addr × Nat))) => [⟨g11, 55, [.slice a9 x8.length c10.1, .slice a355 x357.length c356]⟩]) (fun (((x354, x357), (a355, c356)) : ((Int × List Int) × (Option Addr × Nat))) => [RoN eN25 rN25 25 1 (.slice a9 x8.length c10.1) x8 c10.2 [], Ro (eI .i64) 3 1 (.slice a355 x357.length c356) x357]) (fun (((x354, x357), (a355, c356)) : ((Int × List Int) × (Option Addr × Nat))) => []) (fun k (s : ((Int × List Int) × (Option Addr × Nat))) => M_core_Numbers_l6 F x8 k s.1) ((0, ([] : List Int)), (none, 0)) F (lk_cons rfl (lk_cons rfl (lk_cons rfl (lk_cons rfl lk_nil)))) (.cons 0 rfl .nil) (.cons 1 rfl (.cons 0 rfl .nil)) fk_nil (fun _ => rfl) ?_
      intro k380
      rintro ⟨⟨x354, x357⟩, ⟨a355, c356⟩⟩
      try dsimp only
      refine sxc_meq (m' := M_core_Numbers_b6 F x8 (M_core_Numbers_l6 F x8 k380) x354 x357) rfl ?_
      refine sxc_seq ?_
      refine sxc_region ?_
      refine sxo_lss rfl rfl rfl rfl ?_
      refine sxo_nil ?_
      refine sxq_next ?_
      refine sxc_seq ?_
      refine sxc_if rfl (fun h402 => ?_) (fun h402 => ?_)
      · refine sxc_skip ?_
        refine sxq_next ?_
        refine sxc_seq ?_
        refine sxc_block ?_
        refine sxc_seq ?_
        refine sxc_region ?_
        refine sxo_idxP (j := 0) rfl Try.underlying22 tf25 rfl rfl rfl rfl (fun x392 e392 g393 h394 g395 h396 => ?_)
        refine sxo_openN (i := 0) rfl h394 (List.not_mem_nil) ?_
        refine sxo_loadN0 (j := 1) (p := (x392, g393)) eN25_ok rfl rfl tf25 rfl h396 h394 rfl (fun _ => rfl) rfl rfl ?_
        refine sxo_assign rfl rfl rfl ?_
        refine sxo_nil ?_
        refine sxq_next ?_
        refine sxc_region ?_
        refine sxo_move rfl rfl rfl ?_
        refine sxo_move rfl rfl rfl ?_
        refine sxo_nilCheck rfl rfl rfl ?_
        refine sxo_fieldAddr rfl rfl ff55_1 rfl ?_
        refine sxo_loadB (i := 0) rfl rfl tf25 rfl rfl (fun _ => rfl) rfl rfl ?_
        refine sxo_move rfl rfl rfl ?_
        refine sxo_len rfl Try.underlying25 rfl rfl ?_
        refine sxo_slit (vs := [.int .i64 (x392.length : Int)]) (ys := ([(x392.length : Int)] : List Int)) (eI_ok .i64) (by decide) rfl Try.underlying25 tf3 rfl rfl rfl rfl rfl (by decide) (fun a397 c398 => ?_)
        refine sxo_app 3 (eI_ok .i64) rfl Try.underlying25 tf3 rfl rfl rfl rfl rfl (.inl ⟨0, _, rfl⟩) rfl rfl (fun x399 e399 a400 c401 => ?_)
        refine sxo_nilCheck rfl rfl rfl ?_
        refine sxo_fieldAddr rfl rfl ff55_1 rfl ?_
        refine sxo_storeB (i := 0) rfl rfl rfl tf25 rfl rfl rfl rfl rfl ?_
        refine sxo_nil ?_
        refine sxq_blkN ?_
        refine sxq_next ?_
        refine sxc_closeN (rin := rN25) (p := (x392, g393)) (i := 2) (k := 0) (.cons 2 rfl .nil) rfl rfl h394 ?_
        refine sxc_region ?_
        refine sxo_add rfl rfl rfl rfl ?_
        refine sxo_move rfl rfl rfl ?_
        refine sxo_nil ?_
        exact sxq_againP ((iadd .i64 x354 1, x399), (a400, c401)) (lk_cons rfl (lk_cons rfl (lk_cons rfl (lk_cons rfl lk_nil)))) (.cons 0 rfl .nil) (.cons 0 rfl (.cons 0 rfl .nil)) fk_nil
      · refine sxc_exit ?_
        refine sxq_thenX ?_
        refine sxq_thenX ?_
        refine sxq_blkX ?_
        exact sxq_meetP (x357, (a355, c356)) (lk_cons rfl lk_nil) (.cons 0 rfl .nil) (.cons 0 rfl (.cons 0 rfl .nil)) fk_nil
    · rintro ⟨x86, ⟨a84, c85⟩⟩
      try dsimp only
      refine sxc_seq ?_
      refine sxc_region ?_
      refine sxo_move rfl rfl rfl ?_
      refine sxo_nilCheck rfl rfl rfl ?_
      refine sxo_fieldAddr rfl rfl ff55_0 rfl ?_
      refine sxo_loadB (i := 0) rfl rfl tf22 rfl rfl (fun _ => rfl) rfl rfl ?_
      refine sxo_len rfl Try.underlying22 rfl rfl ?_
      refine sxo_mk (eI_ok .i64) rfl Try.underlying25 tf3 rfl rfl rfl rfl rfl rfl rfl (fun x87 e87 a88 c89 => ?_)
      refine sxo_assign rfl rfl rfl ?_
      refine sxo_nil ?_
      refine sxq_next ?_
      refine sxc_seq ?_
      refine sxc_region ?_
      refine sxo_assign rfl rfl rfl ?_
      refine sxo_nil ?_
      refine sxq_next ?_
      refine sxc_join (fun ((x210, _) : (List Int × Unit)) => [(8, .slice a88 x210.length c89)]) (fun ((x210, _) : (List Int × Unit)) => []) (fun ((x210, _) : (List Int × Unit)) => [Ro (eI .i64) 3 1 (.slice a88 x210.length c89) x210]) (fun ((x210, _) : (List Int × Unit)) => []) (fun ((x210, _) : (List Int × Unit)) => M_core_Numbers_j4 F x210) ?_ ?_
      · refine sxc_seq ?_
        refine sxc_region ?_
        refine sxo_move rfl rfl rfl ?_
        refine sxo_callM ent27 rfl rfl rfl (fun x211 e211 => C_core_peeler_least F g11 x8 a9 c10 x86 a84 c85 x211 e211) (.cons 0 rfl .nil) (.cons 1 rfl (.cons 1 rfl .nil)) .nil (fun x211 e211 => ?_)
        rintro ⟨⟨a212, c213⟩, ⟨a214, c215⟩⟩
        refine sxo_assign rfl rfl rfl ?_
        refine sxo_nil ?_
        refine sxq_next ?_
        refine sxc_block ?_
        refine sxc_loopP (fun (((x251, x252, x253, x256, x259), (a254, c255, a257, c258)) : ((List Int × Int × Int × List (List Int) × List Int) × (Option Addr × (Nat × List (Option Addr × Nat)) × Option Addr × Nat))) => [(5, .pointer (some ⟨g11, 0, none⟩)), (8, .slice a88 x251.length c89), (9, .int .i64 x252), (10, .int .i64 x253)]) (fun (((x251, x252, x253, x256, x259), (a254, c255, a257, c258)) : ((List Int × Int × Int × List (List Int) × List Int) × (Option Addr × (Nat × List (Option Addr × Nat)) × Option Addr × Nat))) => [⟨g11, 55, [.slice a254 x256.length c255.1, .slice a257 x259.length c258]⟩]) (fun (((x251, x252, x253, x256, x259), (a254, c255, a257, c258)) : ((List Int × Int × Int × List (List Int) × List Int) × (Option Addr × (Nat × List (Option Addr × Nat)) × Option Addr × Nat))) => [Ro (eI .i64) 3 1 (.slice a88 x251.length c89) x251, RoN eN25 rN25 25 1 (.slice a254 x256.length c255.1) x256 c255.2 [], Ro (eI .i64) 3 1 (.slice a257 x259.length c258) x259]) (fun (((x251, x252, x253, x256, x259), (a254, c255, a257, c258)) : ((List Int × Int × Int × List (List Int) × List Int) × (Option Addr × (Nat × List (Option Addr × Nat)) × Option Addr × Nat))) => []) (fun k (s : ((List Int × Int × Int × List (List Int) × List Int) × (Option Addr × (Nat × List (Option Addr × Nat)) × Option Addr × Nat))) => M_core_Numbers_l5 F k s.1) ((x87, 0, x211.1, x211.2.1, x211.2.2), (a212, c213, a214, c215)) F (lk_cons rfl (lk_cons rfl (lk_cons rfl (lk_cons rfl lk_nil)))) (.cons 0 rfl .nil) (.cons 2 rfl (.cons 0 rfl (.cons 0 rfl .nil))) fk_nil (fun _ => rfl) ?_
        intro k295
        rintro ⟨⟨x251, x252, x253, x256, x259⟩, ⟨a254, c255, a257, c258⟩⟩
        try dsimp only
        refine sxc_meq (m' := M_core_Numbers_b5 F (M_core_Numbers_l5 F k295) x251 x252 x253 x256 x259) rfl ?_
        refine sxc_seq ?_
        refine sxc_seq ?_
        refine sxc_region ?_
        refine sxo_move rfl rfl rfl ?_
        refine sxo_geq rfl rfl rfl rfl ?_
        refine sxo_nil ?_
        refine sxq_next ?_
        refine sxc_if rfl (fun h330 => ?_) (fun h330 => ?_)
        · refine sxc_skip ?_
          refine sxq_next ?_
          refine sxc_seq ?_
          refine sxc_block ?_
          refine sxc_seq ?_
          refine sxc_region ?_
          refine sxo_move rfl rfl rfl ?_
          refine sxo_move rfl rfl rfl ?_
          refine sxo_nilCheck rfl rfl rfl ?_
          refine sxo_fieldAddr rfl rfl ff55_1 rfl ?_
          refine sxo_loadB (i := 0) rfl rfl tf25 rfl rfl (fun _ => rfl) rfl rfl ?_
          refine sxo_move rfl rfl rfl ?_
          refine sxo_indexR (j := 2) rfl Try.underlying25 tf3 rfl rfl rfl rfl (fun x311 e311 g312 h313 => ?_)
          refine sxo_loadR (j := 2) (y := x311) (eI_ok .i64) rfl rfl tf3 rfl h313 (idx_get e311).2.2 (fun _ => rfl) rfl rfl ?_
          refine sxo_max rfl rfl rfl rfl ?_
          refine sxo_assign rfl rfl rfl ?_
          refine sxo_nil ?_
          refine sxq_next ?_
          refine sxc_seq ?_
          refine sxc_region ?_
          refine sxo_move rfl rfl rfl ?_
          refine sxo_move rfl rfl rfl ?_
          refine sxo_move rfl rfl rfl ?_
          refine sxo_indexR (j := 0) rfl Try.underlying25 tf3 rfl rfl rfl rfl (fun x314 e314 g315 h316 => ?_)
          refine sxo_storeL (j := 0) (y' := imax x252 x311) (eI_ok .i64) rfl rfl rfl tf3 rfl h316 (idx_get e314).2.1 rfl (fun x317 e317 h318 => ?_)
          have h319 : x317.length = x251.length := by rw [← e317, List.length_set]
          refine sxo_again (d := 8) (v := .slice a88 x317.length c89) rfl h318 ?_
          refine sxo_again (d := 62) (v := .slice a88 x317.length c89) rfl h318 ?_
          refine sxo_nil ?_
          refine sxq_next ?_
          refine sxc_region ?_
          refine sxo_move rfl rfl rfl ?_
          refine sxo_move rfl rfl rfl ?_
          refine sxo_callM ent28 rfl rfl rfl (fun x320 e320 => C_core_peeler_drop F g11 x256 a254 c255 x259 a257 c258 x253 x320 e320) (.cons 0 rfl .nil) (.cons 1 rfl (.cons 1 rfl .nil)) .nil (fun x320 e320 => ?_)
          rintro ⟨⟨a321, c322⟩, ⟨a323, c324⟩⟩
          refine sxo_nil ?_
          refine sxq_blkN ?_
          refine sxq_next ?_
          refine sxc_region ?_
          refine sxo_move rfl rfl rfl ?_
          refine sxo_callM ent27 rfl rfl rfl (fun x325 e325 => C_core_peeler_least F g11 x320.1 a321 c322 x320.2 a323 c324 x325 e325) (.cons 0 rfl .nil) (.cons 0 rfl (.cons 0 rfl .nil)) .nil (fun x325 e325 => ?_)
          rintro ⟨⟨a326, c327⟩, ⟨a328, c329⟩⟩
          refine sxo_assign rfl rfl rfl ?_
          refine sxo_nil ?_
          exact sxq_againP ((x317, imax x252 x311, x325.1, x325.2.1, x325.2.2), (a326, c327, a328, c329)) (lk_cons rfl (lk_cons rfl (lk_cons rfl (lk_cons rfl lk_nil)))) (.cons 0 rfl .nil) (.cons 2 rfl (.cons 0 rfl (.cons 0 rfl .nil))) fk_nil
        · refine sxc_exit ?_
          refine sxq_thenX ?_
          refine sxq_thenX ?_
          refine sxq_blkX ?_
          exact sxq_meetP (x251, ()) (lk_cons rfl lk_nil) .nil (.cons 0 rfl .nil) fk_nil
      · rintro ⟨x210, _⟩
        try dsimp only
        refine sxc_seq ?_
        refine sxc_region ?_
        refine sxo_move rfl rfl rfl ?_
        refine sxo_assign rfl rfl rfl ?_
        refine sxo_assign rfl rfl rfl ?_
        refine sxo_nil ?_
        refine sxq_next ?_
        refine sxc_ret ?_
        exact sxq_doneP (a88, c89) (.inl rfl) (res2 rfl rfl rfl) (fun h => by subst h; rfl) (fun h => by subst h; exact (.cons 0 rfl .nil))

theorem C_core_threes (F : Nat) (x1 : List (List Int)) (a2 : Option Addr) (c3 : (Nat × List (Option Addr × Nat))) (r : Unit) (hm : M_core_threes F x1 = some r) :
    PureM Try.prog 29 [.slice a2 x1.length c3.1] [] [] [SlN eN25 iN25 1 (.slice a2 x1.length c3.1) x1 c3.2] Nat (fun g => .func (.func 50) #[] #[.pointer (some ⟨g, 0, none⟩)]) (fun g => [⟨g, 22, [.slice a2 x1.length c3.1]⟩]) (fun _ => []) := by
  refine pureM_of Try.func29 rfl Try.ntmps29 rfl hm (fun w => ?_)
  refine sxc_env (l' := [(0, .slice a2 x1.length c3.1)]) rfl ?_
  refine sxc_seq ?_
  refine sxc_region ?_
  refine sxo_box rfl rfl rfl (fun g4 => ?_)
  refine sxo_assign rfl rfl rfl ?_
  refine sxo_nil ?_
  refine sxq_next ?_
  refine sxc_seq ?_
  refine sxc_region ?_
  refine sxo_makeFunc rfl rfl rfl ?_
  refine sxo_assign rfl rfl rfl ?_
  refine sxo_nil ?_
  refine sxq_next ?_
  refine sxc_ret ?_
  exact sxq_doneM g4 (.inl rfl) (res1 rfl rfl) (fun h => by subst h; rfl) (fun h => by subst h; exact (.cons 0 rfl .nil)) (fun h => by subst h; exact .nil)

theorem C_cmp_isNaN_int (F : Nat) (x1 : Int) (r : Bool) (hm : M_cmp_isNaN_int F x1 = some r) :
    Pure Try.prog 66 [.int .i64 x1] [] Unit (fun _ => .bool r) (fun _ => []) (fun _ => []) := by
  refine pure_of Try.func66 rfl Try.ntmps66 rfl hm (fun w => ?_)
  refine sxc_env (l' := [(0, .int .i64 x1)]) rfl ?_
  refine sxc_seq ?_
  refine sxc_region ?_
  refine sxo_assign rfl rfl rfl ?_
  refine sxo_nil ?_
  refine sxq_next ?_
  refine sxc_seq ?_
  refine sxc_region ?_
  refine sxo_move rfl rfl rfl ?_
  refine sxo_move rfl rfl rfl ?_
  refine sxo_neq rfl rfl rfl rfl ?_
  refine sxo_assign rfl rfl rfl ?_
  refine sxo_nil ?_
  refine sxq_next ?_
  refine sxc_ret ?_
  exact sxq_doneP () (.inl rfl) (res1 rfl rfl) (fun h => by subst h; rfl) (fun h => by subst h; exact .nil)

theorem C_cmp_Less_int (F : Nat) (x1 : Int) (x2 : Int) (r : Bool) (hm : M_cmp_Less_int F x1 x2 = some r) :
    Pure Try.prog 62 [.int .i64 x1, .int .i64 x2] [] Unit (fun _ => .bool r) (fun _ => []) (fun _ => []) := by
  refine pure_of Try.func62 rfl Try.ntmps62 rfl hm (fun w => ?_)
  refine sxc_env (l' := [(0, .int .i64 x1), (1, .int .i64 x2)]) rfl ?_
  refine sxc_seq ?_
  refine sxc_region ?_
  refine sxo_assign rfl rfl rfl ?_
  refine sxo_nil ?_
  refine sxq_next ?_
  refine sxc_seq ?_
  refine sxc_region ?_
  refine sxo_move rfl rfl rfl ?_
  refine sxo_call ent66 rfl rfl rfl (fun x3 e3 => C_cmp_isNaN_int F x1 x3 e3) .nil (fun x3 e3 => ?_)
  intro _
  refine sxo_move rfl rfl rfl ?_
  refine sxo_join 4 (fun ((x6, _) : (Bool × Unit)) => [(0, .int .i64 x1), (1, .int .i64 x2), (11, .bool x6)]) (fun ((x6, _) : (Bool × Unit)) => []) (fun ((x6, _) : (Bool × Unit)) => []) (fun ((x6, _) : (Bool × Unit)) => []) (fun ((x6, _) : (Bool × Unit)) => M_cmp_Less_int_j1 F x1 x2 x6) ?_ ?_
  · refine sxo_take (os := _) rfl ?_
    refine sxo_if (fun h4 => ?_) (fun h4 => ?_)
    · refine sxo_isT (k := 7) rfl h4 ?_
      refine sxo_move rfl rfl rfl ?_
      refine sxo_call ent66 rfl rfl rfl (fun x8 e8 => C_cmp_isNaN_int F x2 x8 e8) .nil (fun x8 e8 => ?_)
      intro _
      refine sxo_not rfl rfl rfl ?_
      refine sxo_pick (b := true) rfl rfl rfl rfl ?_
      refine sxo_nil ?_
      exact sxq_meetP ((!x8), ()) (lk_cons rfl (lk_cons rfl (lk_cons rfl lk_nil))) .nil .nil fk_nil
    · refine sxo_isF (k := 7) rfl h4 ?_
      refine sxo_skip rfl rfl rfl ?_
      refine sxo_skip rfl rfl rfl ?_
      refine sxo_skip rfl rfl rfl ?_
      refine sxo_pick (b := false) rfl rfl rfl rfl ?_
      refine sxo_nil ?_
      exact sxq_meetP (false, ()) (lk_cons rfl (lk_cons rfl (lk_cons rfl lk_nil))) .nil .nil fk_nil
  · rintro ⟨x6, _⟩
    try dsimp only
    refine sxo_take (os := _) rfl ?_
    refine sxo_move rfl rfl rfl ?_
    refine sxo_case 4 x6 [(16, .bool (x6 || (decide (x1 < x2))))] (fun h7 => ?_) (fun h7 => ?_) ?_
    · refine sxo_take (os := _) rfl ?_
      refine sxo_isT (k := 12) rfl h7 ?_
      refine sxo_skip rfl rfl rfl ?_
      refine sxo_skip rfl rfl rfl ?_
      refine sxo_skip rfl rfl rfl ?_
      refine sxo_pick (b := true) rfl rfl rfl rfl ?_
      refine sxo_again (d := 16) (v := .bool (x6 || (decide (x1 < x2)))) rfl (by rw [h7]; simp only [Bool.true_or]) ?_
      refine sxo_nil ?_
      exact sxq_case (lk_cons rfl lk_nil)
    · refine sxo_take (os := _) rfl ?_
      refine sxo_isF (k := 12) rfl h7 ?_
      refine sxo_move rfl rfl rfl ?_
      refine sxo_move rfl rfl rfl ?_
      refine sxo_lss rfl rfl rfl rfl ?_
      refine sxo_pick (b := false) rfl rfl rfl rfl ?_
      refine sxo_again (d := 16) (v := .bool (x6 || (decide (x1 < x2)))) rfl (by rw [h7]; simp only [Bool.false_or]) ?_
      refine sxo_nil ?_
      exact sxq_case (lk_cons rfl lk_nil)
    refine sxo_take (os := _) rfl ?_
    refine sxo_assign rfl rfl rfl ?_
    refine sxo_nil ?_
    refine sxq_next ?_
    refine sxc_ret ?_
    exact sxq_doneP () (.inl rfl) (res1 rfl rfl) (fun h => by subst h; rfl) (fun h => by subst h; exact .nil)

theorem C_slices_isNaN_int (F : Nat) (x1 : Int) (r : Bool) (hm : M_slices_isNaN_int F x1 = some r) :
    Pure Try.prog 63 [.int .i64 x1] [] Unit (fun _ => .bool r) (fun _ => []) (fun _ => []) := by
  refine pure_of Try.func63 rfl Try.ntmps63 rfl hm (fun w => ?_)
  refine sxc_env (l' := [(0, .int .i64 x1)]) rfl ?_
  refine sxc_seq ?_
  refine sxc_region ?_
  refine sxo_assign rfl rfl rfl ?_
  refine sxo_nil ?_
  refine sxq_next ?_
  refine sxc_seq ?_
  refine sxc_region ?_
  refine sxo_move rfl rfl rfl ?_
  refine sxo_move rfl rfl rfl ?_
  refine sxo_neq rfl rfl rfl rfl ?_
  refine sxo_assign rfl rfl rfl ?_
  refine sxo_nil ?_
  refine sxq_next ?_
  refine sxc_ret ?_
  exact sxq_doneP () (.inl rfl) (res1 rfl rfl) (fun h => by subst h; rfl) (fun h => by subst h; exact .nil)

theorem C_slices_BinarySearch_int_int (F : Nat) (x1 : List Int) (a2 : Option Addr) (c3 : Nat) (x4 : Int) (r : (Int × Bool)) (hm : M_slices_BinarySearch_int_int F x1 x4 = some r) :
    Pure Try.prog 51 [.slice a2 x1.length c3, .int .i64 x4] [Sl (eI .i64) 1 (.slice a2 x1.length c3) x1] Unit (fun _ => .tuple #[.int .i64 r.1, .bool r.2]) (fun _ => []) (fun _ => []) := by
  refine pure_of Try.func51 rfl Try.ntmps51 rfl hm (fun w => ?_)
  refine sxc_env (l' := [(0, .slice a2 x1.length c3), (1, .int .i64 x4)]) rfl ?_
  refine sxc_seq ?_
  refine sxc_region ?_
  refine sxo_assign rfl rfl rfl ?_
  refine sxo_assign rfl rfl rfl ?_
  refine sxo_nil ?_
  refine sxq_next ?_
  refine sxc_seq ?_
  refine sxc_region ?_
  refine sxo_move rfl rfl rfl ?_
  refine sxo_len rfl Try.underlying25 rfl rfl ?_
  refine sxo_assign rfl rfl rfl ?_
  refine sxo_nil ?_
  refine sxq_next ?_
  refine sxc_seq ?_
  refine sxc_region ?_
  refine sxo_move rfl rfl rfl ?_
  refine sxo_assign rfl rfl rfl ?_
  refine sxo_assign rfl rfl rfl ?_
  refine sxo_nil ?_
  refine sxq_next ?_
  refine sxc_join (fun ((x32, _) : (Int × Unit)) => [(0, .slice a2 x1.length c3), (1, .int .i64 x4), (6, .int .i64 (x1.length : Int)), (7, .int .i64 x32)]) (fun ((x32, _) : (Int × Unit)) => []) (fun ((x32, _) : (Int × Unit)) => []) (fun ((x32, _) : (Int × Unit)) => [Sl (eI .i64) 1 (.slice a2 x1.length c3) x1]) (fun ((x32, _) : (Int × Unit)) => M_slices_BinarySearch_int_int_j2 F x1 x4 x32) ?_ ?_
  · refine sxc_block ?_
    refine sxc_loopP (fun (((x85, x86), _) : ((Int × Int) × Unit)) => [(0, .slice a2 x1.length c3), (1, .int .i64 x4), (6, .int .i64 (x1.length : Int)), (7, .int .i64 x85), (8, .int .i64 x86)]) (fun (((x85, x86), _) : ((Int × Int) × Unit)) => []) (fun (((x85, x86), _) : ((Int × Int) × Unit)) => []) (fun (((x85, x86), _) : ((Int × Int) × Unit)) => [Sl (eI .i64) 1 (.slice a2 x1.length c3) x1]) (fun k (s : ((Int × Int) × Unit)) => M_slices_BinarySearch_int_int_l10 F x1 x4 k s.1) ((0, (x1.length : Int)), ()) F (lk_cons rfl (lk_cons rfl (lk_cons rfl (lk_cons rfl (lk_cons rfl lk_nil))))) .nil .nil (fk_cons 0 rfl fk_nil) (fun _ => rfl) ?_
    intro k95
    rintro ⟨⟨x85, x86⟩, _⟩
    try dsimp only
    refine sxc_meq (m' := M_slices_BinarySearch_int_int_b10 F x1 x4 (M_slices_BinarySearch_int_int_l10 F x1 x4 k95) x85 x86) rfl ?_
    refine sxc_seq ?_
    refine sxc_seq ?_
    refine sxc_region ?_
    refine sxo_move rfl rfl rfl ?_
    refine sxo_move rfl rfl rfl ?_
    refine sxo_lss rfl rfl rfl rfl ?_
    refine sxo_nil ?_
    refine sxq_next ?_
    refine sxc_if rfl (fun h103 => ?_) (fun h103 => ?_)
    · refine sxc_skip ?_
      refine sxq_next ?_
      refine sxc_block ?_
      refine sxc_seq ?_
      refine sxc_region ?_
      refine sxo_move rfl rfl rfl ?_
      refine sxo_move rfl rfl rfl ?_
      refine sxo_add rfl rfl rfl rfl ?_
      refine sxo_conv rfl Try.underlying3 Try.underlying88 rfl rfl ?_
      refine sxo_shr rfl rfl rfl rfl rfl ?_
      refine sxo_conv rfl Try.underlying88 Try.underlying3 rfl rfl ?_
      refine sxo_assign rfl rfl rfl ?_
      refine sxo_lett (fun x97 e97 => ?_)
      refine sxo_again (d := 9) (v := .int .i64 x97) rfl (by rw [e97] <;> rfl) ?_
      refine sxo_nil ?_
      refine sxq_next ?_
      refine sxc_seq ?_
      refine sxc_region ?_
      refine sxo_move rfl rfl rfl ?_
      refine sxo_move rfl rfl rfl ?_
      refine sxo_indexF (j := 0) (eI_ok .i64) (by decide) rfl Try.underlying25 tf3 rfl rfl rfl rfl (fun x98 e98 b99 o100 => ?_)
      refine sxo_loadF (j := 0) rfl rfl tf3 rfl rfl (fun _ => rfl) rfl rfl ?_
      refine sxo_move rfl rfl rfl ?_
      refine sxo_call ent62 rfl rfl rfl (fun x101 e101 => C_cmp_Less_int F x98 x4 x101 e101) .nil (fun x101 e101 => ?_)
      intro _
      refine sxo_nil ?_
      refine sxq_next ?_
      refine sxc_if rfl (fun h102 => ?_) (fun h102 => ?_)
      · refine sxc_region ?_
        refine sxo_move rfl rfl rfl ?_
        refine sxo_add rfl rfl rfl rfl ?_
        refine sxo_assign rfl rfl rfl ?_
        refine sxo_nil ?_
        refine sxq_blkN ?_
        exact sxq_againP ((iadd .i64 x97 1, x86), ()) (lk_cons rfl (lk_cons rfl (lk_cons rfl (lk_cons rfl (lk_cons rfl lk_nil))))) .nil .nil (fk_cons 1 rfl fk_nil)
      · refine sxc_region ?_
        refine sxo_move rfl rfl rfl ?_
        refine sxo_assign rfl rfl rfl ?_
        refine sxo_nil ?_
        refine sxq_blkN ?_
        exact sxq_againP ((x85, x97), ()) (lk_cons rfl (lk_cons rfl (lk_cons rfl (lk_cons rfl (lk_cons rfl lk_nil))))) .nil .nil (fk_cons 1 rfl fk_nil)
    · refine sxc_exit ?_
      refine sxq_thenX ?_
      refine sxq_thenX ?_
      refine sxq_blkX ?_
      exact sxq_meetP (x85, ()) (lk_cons rfl (lk_cons rfl (lk_cons rfl (lk_cons rfl lk_nil)))) .nil .nil (fk_cons 0 rfl fk_nil)
  · rintro ⟨x32, _⟩
    try dsimp only
    refine sxc_seq ?_
    refine sxc_region ?_
    refine sxo_move rfl rfl rfl ?_
    refine sxo_move rfl rfl rfl ?_
    refine sxo_move rfl rfl rfl ?_
    refine sxo_lss rfl rfl rfl rfl ?_
    refine sxo_move rfl rfl rfl ?_
    refine sxo_join 18 (fun ((x55, _) : (Bool × Unit)) => [(31, .int .i64 x32), (53, .bool x55)]) (fun ((x55, _) : (Bool × Unit)) => []) (fun ((x55, _) : (Bool × Unit)) => []) (fun ((x55, _) : (Bool × Unit)) => []) (fun ((x55, _) : (Bool × Unit)) => M_slices_BinarySearch_int_int_j6 F x32 x55) ?_ ?_
    · refine sxo_take (os := _) rfl ?_
      refine sxo_if (fun h33 => ?_) (fun h33 => ?_)
      · refine sxo_isT (k := 35) rfl h33 ?_
        refine sxo_move rfl rfl rfl ?_
        refine sxo_move rfl rfl rfl ?_
        refine sxo_indexF (j := 0) (eI_ok .i64) (by decide) rfl Try.underlying25 tf3 rfl rfl rfl rfl (fun x56 e56 b57 o58 => ?_)
        refine sxo_loadF (j := 0) rfl rfl tf3 rfl rfl (fun _ => rfl) rfl rfl ?_
        refine sxo_move rfl rfl rfl ?_
        refine sxo_eql rfl rfl rfl rfl ?_
        refine sxo_move rfl rfl rfl ?_
        refine sxo_join 10 (fun ((x68, _) : (Bool × Unit)) => [(31, .int .i64 x32), (35, .bool true), (52, .bool x68)]) (fun ((x68, _) : (Bool × Unit)) => []) (fun ((x68, _) : (Bool × Unit)) => []) (fun ((x68, _) : (Bool × Unit)) => []) (fun ((x68, _) : (Bool × Unit)) => M_slices_BinarySearch_int_int_j8 F x32 x68) ?_ ?_
        · refine sxo_take (os := _) rfl ?_
          refine sxo_if (fun h59 => ?_) (fun h59 => ?_)
          · refine sxo_isT (k := 42) rfl h59 ?_
            refine sxo_skip rfl rfl rfl ?_
            refine sxo_skip rfl rfl rfl ?_
            refine sxo_skip rfl rfl rfl ?_
            refine sxo_skip rfl rfl rfl ?_
            refine sxo_skip rfl rfl rfl ?_
            refine sxo_skip rfl rfl rfl ?_
            refine sxo_skip rfl rfl rfl ?_
            refine sxo_skip rfl rfl rfl ?_
            refine sxo_skip rfl rfl rfl ?_
            refine sxo_pick (b := true) rfl rfl rfl rfl ?_
            refine sxo_nil ?_
            exact sxq_meetP (true, ()) (lk_cons rfl (lk_cons rfl (lk_cons rfl lk_nil))) .nil .nil fk_nil
          · refine sxo_isF (k := 42) rfl h59 ?_
            refine sxo_move rfl rfl rfl ?_
            refine sxo_move rfl rfl rfl ?_
            refine sxo_indexF (j := 1) (eI_ok .i64) (by decide) rfl Try.underlying25 tf3 rfl rfl rfl rfl (fun x69 e69 b70 o71 => ?_)
            refine sxo_loadF (j := 0) rfl rfl tf3 rfl rfl (fun _ => rfl) rfl rfl ?_
            refine sxo_call ent63 rfl rfl rfl (fun x72 e72 => C_slices_isNaN_int F x69 x72 e72) .nil (fun x72 e72 => ?_)
            intro _
            refine sxo_move rfl rfl rfl ?_
            refine sxo_join 3 (fun ((x75, _) : (Bool × Unit)) => [(31, .int .i64 x32), (35, .bool true), (42, .bool false), (51, .bool x75)]) (fun ((x75, _) : (Bool × Unit)) => []) (fun ((x75, _) : (Bool × Unit)) => []) (fun ((x75, _) : (Bool × Unit)) => []) (fun ((x75, _) : (Bool × Unit)) => M_slices_BinarySearch_int_int_j9 F x32 x75) ?_ ?_
            · refine sxo_take (os := _) rfl ?_
              refine sxo_if (fun h73 => ?_) (fun h73 => ?_)
              · refine sxo_isT (k := 48) rfl h73 ?_
                refine sxo_move rfl rfl rfl ?_
                refine sxo_call ent63 rfl rfl rfl (fun x76 e76 => C_slices_isNaN_int F x4 x76 e76) .nil (fun x76 e76 => ?_)
                intro _
                refine sxo_pick (b := true) rfl rfl rfl rfl ?_
                refine sxo_nil ?_
                exact sxq_meetP (x76, ()) (lk_cons rfl (lk_cons rfl (lk_cons rfl (lk_cons rfl lk_nil)))) .nil .nil fk_nil
              · refine sxo_isF (k := 48) rfl h73 ?_
                refine sxo_skip rfl rfl rfl ?_
                refine sxo_skip rfl rfl rfl ?_
                refine sxo_pick (b := false) rfl rfl rfl rfl ?_
                refine sxo_nil ?_
                exact sxq_meetP (false, ()) (lk_cons rfl (lk_cons rfl (lk_cons rfl (lk_cons rfl lk_nil)))) .nil .nil fk_nil
            · rintro ⟨x75, _⟩
              try dsimp only
              refine sxo_take (os := _) rfl ?_
              refine sxo_pick (b := false) rfl rfl rfl rfl ?_
              refine sxo_nil ?_
              exact sxq_meetP (x75, ()) (lk_cons rfl (lk_cons rfl (lk_cons rfl lk_nil))) .nil .nil fk_nil
        · rintro ⟨x68, _⟩
          try dsimp only
          refine sxo_take (os := _) rfl ?_
          refine sxo_pick (b := true) rfl rfl rfl rfl ?_
          refine sxo_nil ?_
          exact sxq_meetP (x68, ()) (lk_cons rfl (lk_cons rfl lk_nil)) .nil .nil fk_nil
      · refine sxo_isF (k := 35) rfl h33 ?_
        refine sxo_skip rfl rfl rfl ?_
        refine sxo_skip rfl rfl rfl ?_
        refine sxo_skip rfl rfl rfl ?_
        refine sxo_skip rfl rfl rfl ?_
        refine sxo_skip rfl rfl rfl ?_
        refine sxo_skip rfl rfl rfl ?_
        refine sxo_skip rfl rfl rfl ?_
        refine sxo_skip rfl rfl rfl ?_
        refine sxo_skip rfl rfl rfl ?_
        refine sxo_skip rfl rfl rfl ?_
        refine sxo_skip rfl rfl rfl ?_
        refine sxo_skip rfl rfl rfl ?_
        refine sxo_skip rfl rfl rfl ?_
        refine sxo_skip rfl rfl rfl ?_
        refine sxo_skip rfl rfl rfl ?_
        refine sxo_skip rfl rfl rfl ?_
        refine sxo_skip rfl rfl rfl ?_
        refine sxo_pick (b := false) rfl rfl rfl rfl ?_
        refine sxo_nil ?_
        exact sxq_meetP (false, ()) (lk_cons rfl (lk_cons rfl lk_nil)) .nil .nil fk_nil
    · rintro ⟨x55, _⟩
      try dsimp only
      refine sxo_take (os := _) rfl ?_
      refine sxo_assign rfl rfl rfl ?_
      refine sxo_assign rfl rfl rfl ?_
      refine sxo_nil ?_
      refine sxq_next ?_
      refine sxc_ret ?_
      exact sxq_doneP () (.inl rfl) (res2 rfl rfl rfl) (fun h => by subst h; rfl) (fun h => by subst h; exact .nil)

set_option maxHeartbeats 4000000 in
theorem C_core_threes_1 (F : Nat) {σ τ : Type} {J : Rounds σ τ} {yy : σ → List Int → Option (σ ⊕ τ)} {L : Nat} (hY : YieldC Try.prog L (fun (p : List Int) => [.agg (p.flatMap (eI .i64)).toArray]) J yy) (s0 : σ) (gs0 : J.γ) (g1 : Nat) (x2 : List (List Int)) (a3 : Option Addr) (c4 : (Nat × List (Option Addr × Nat))) (r : σ ⊕ τ) (hm : M_core_threes_1 F yy x2 s0 = some r) :
    PureM Try.prog 50 ([.func (.yield L) #[] #[], .pointer (some ⟨g1, 0, none⟩)]) ([⟨g1, 22, [.slice a3 x2.length c4.1]⟩] ++ J.IB s0 gs0) (J.IR s0 gs0) [J.F, SlN eN25 iN25 1 (.slice a3 x2.length c4.1) x2 c4.2] (J.G r) (fun _ => .tuple #[]) (fun g => [⟨g1, 22, [.slice a3 x2.length c4.1]⟩] ++ J.bs r g) (fun g => J.rs r g) := by
  refine pureM_of Try.func50 rfl Try.ntmps50 rfl hm (fun w => ?_)
  refine sxc_env (l' := [(0, .func (.yield L) #[] #[]), (1, .pointer (some ⟨g1, 0, none⟩))]) rfl ?_
  refine sxc_seq ?_
  refine sxc_region ?_
  refine sxo_loadB (i := 0) rfl rfl tf22 rfl rfl (fun _ => rfl) rfl rfl ?_
  refine sxo_len rfl Try.underlying22 rfl rfl ?_
  refine sxo_move rfl rfl rfl ?_
  refine sxo_nil ?_
  refine sxq_next ?_
  refine sxc_block ?_
  refine sxc_loopP (fun (((x1609, x1610), g1611) : ((Int × σ) × J.γ)) => [(0, .func (.yield L) #[] #[]), (1, .pointer (some ⟨g1, 0, none⟩)), (11, .slice a3 x2.length c4.1), (12, .int .i64 (x2.length : Int)), (13, .int .i64 x1609)]) (fun (((x1609, x1610), g1611) : ((Int × σ) × J.γ)) => [⟨g1, 22, [.slice a3 x2.length c4.1]⟩] ++ J.IB x1610 g1611) (fun (((x1609, x1610), g1611) : ((Int × σ) × J.γ)) => [] ++ J.IR x1610 g1611) (fun (((x1609, x1610), g1611) : ((Int × σ) × J.γ)) => [SlN eN25 iN25 1 (.slice a3 x2.length c4.1) x2 c4.2, J.F]) (fun k (s : ((Int × σ) × J.γ)) => M_core_threes_1_l115 F yy x2 k s.1) ((0, s0), gs0) F (lk_cons rfl (lk_cons rfl (lk_cons rfl (lk_cons rfl (lk_cons rfl lk_nil))))) (.cons 0 rfl (pick_rest 0 rfl)) (pick_rest 0 rfl) (fk_cons 1 rfl (fk_cons 0 rfl fk_nil)) (fun _ => rfl) ?_
  intro k3216
  rintro ⟨⟨x1609, x1610⟩, g1611⟩
  try dsimp only
  refine sxc_meq (m' := M_core_threes_1_b115 F yy x2 (M_core_threes_1_l115 F yy x2 k3216) x1609 x1610) rfl ?_
  refine sxc_seq ?_
  refine sxc_region ?_
  refine sxo_lss rfl rfl rfl rfl ?_
  refine sxo_nil ?_
  refine sxq_next ?_
  refine sxc_seq ?_
  refine sxc_if rfl (fun h4820 => ?_) (fun h4820 => ?_)
  · refine sxc_skip ?_
    refine sxq_next ?_
    refine sxc_join (fun ((x4018, g4019) : (σ × J.γ)) => [(0, .func (.yield L) #[] #[]), (1, .pointer (some ⟨g1, 0, none⟩)), (11, .slice a3 x2.length c4.1), (12, .int .i64 (x2.length : Int)), (13, .int .i64 x1609)]) (fun ((x4018, g4019) : (σ × J.γ)) => [⟨g1, 22, [.slice a3 x2.length c4.1]⟩] ++ J.IB x4018 g4019) (fun ((x4018, g4019) : (σ × J.γ)) => [] ++ J.IR x4018 g4019) (fun ((x4018, g4019) : (σ × J.γ)) => [SlN eN25 iN25 1 (.slice a3 x2.length c4.1) x2 c4.2, J.F]) (fun ((x4018, _) : (σ × J.γ)) => M_core_threes_1_j144 F yy (M_core_threes_1_l115 F yy x2 k3216) x1609 x4018) ?_ ?_
    · refine sxc_block ?_
      refine sxc_seq ?_
      refine sxc_region ?_
      refine sxo_move rfl rfl rfl ?_
      refine sxo_indexN (j := 0) eN25_ok (by decide) rfl Try.underlying22 tf25 rfl rfl rfl rfl (fun x4020 e4020 g4023 b4021 o4022 => ?_)
      refine sxo_loadF (j := 0) rfl rfl tf25 rfl rfl (fun _ => rfl) rfl rfl ?_
      refine sxo_assign rfl rfl rfl ?_
      refine sxo_assign rfl rfl rfl ?_
      refine sxo_nil ?_
      refine sxq_next ?_
      refine sxc_seq ?_
      refine sxc_region ?_
      refine sxo_move rfl rfl rfl ?_
      refine sxo_len rfl Try.underlying25 rfl rfl ?_
      refine sxo_move rfl rfl rfl ?_
      refine sxo_nil ?_
      refine sxq_next ?_
      refine sxc_block ?_
      refine sxc_loopP (fun (((x4288, x4289), g4290) : ((Int × σ) × J.γ)) => [(0, .func (.yield L) #[] #[]), (1, .pointer (some ⟨g1, 0, none⟩)), (3, .int .i64 x1609), (4, .slice g4023.1 x4020.length g4023.2), (11, .slice a3 x2.length c4.1), (12, .int .i64 (x2.length : Int)), (13, .int .i64 x1609), (18, .slice g4023.1 x4020.length g4023.2), (19, .int .i64 (x4020.length : Int)), (20, .int .i64 x4288)]) (fun (((x4288, x4289), g4290) : ((Int × σ) × J.γ)) => [⟨g1, 22, [.slice a3 x2.length c4.1]⟩] ++ J.IB x4289 g4290) (fun (((x4288, x4289), g4290) : ((Int × σ) × J.γ)) => [] ++ J.IR x4289 g4290) (fun (((x4288, x4289), g4290) : ((Int × σ) × J.γ)) => [Sl (eI .i64) 1 (.slice g4023.1 x4020.length g4023.2) x4020, SlN eN25 iN25 1 (.slice a3 x2.length c4.1) x2 c4.2, J.F]) (fun k (s : ((Int × σ) × J.γ)) => M_core_threes_1_l163 F yy (M_core_threes_1_l115 F yy x2 k3216) x2 x1609 x4020 k s.1) ((0, x1610), g1611) F (lk_cons rfl (lk_cons rfl (lk_cons rfl (lk_cons rfl (lk_cons rfl (lk_cons rfl (lk_cons rfl (lk_cons rfl (lk_cons rfl (lk_cons rfl lk_nil)))))))))) (.cons 0 rfl (pick_rest 0 rfl)) (pick_rest 0 rfl) (fk_cons 1 rfl (fk_cons 2 rfl (fk_cons 3 rfl fk_nil))) (fun _ => rfl) ?_
      intro k4555
      rintro ⟨⟨x4288, x4289⟩, g4290⟩
      try dsimp only
      refine sxc_meq (m' := M_core_threes_1_b163 F yy (M_core_threes_1_l115 F yy x2 k3216) x2 x1609 x4020 (M_core_threes_1_l163 F yy (M_core_threes_1_l115 F yy x2 k3216) x2 x1609 x4020 k4555) x4288 x4289) rfl ?_
      refine sxc_seq ?_
      refine sxc_region ?_
      refine sxo_lss rfl rfl rfl rfl ?_
      refine sxo_nil ?_
      refine sxq_next ?_
      refine sxc_seq ?_
      refine sxc_if rfl (fun h4819 => ?_) (fun h4819 => ?_)
      · refine sxc_skip ?_
        refine sxq_next ?_
        refine sxc_join (fun ((x4687, g4688) : (σ × J.γ)) => [(0, .func (.yield L) #[] #[]), (1, .pointer (some ⟨g1, 0, none⟩)), (3, .int .i64 x1609), (4, .slice g4023.1 x4020.length g4023.2), (11, .slice a3 x2.length c4.1), (12, .int .i64 (x2.length : Int)), (13, .int .i64 x1609), (18, .slice g4023.1 x4020.length g4023.2), (19, .int .i64 (x4020.length : Int)), (20, .int .i64 x4288)]) (fun ((x4687, g4688) : (σ × J.γ)) => [⟨g1, 22, [.slice a3 x2.length c4.1]⟩] ++ J.IB x4687 g4688) (fun ((x4687, g4688) : (σ × J.γ)) => [] ++ J.IR x4687 g4688) (fun ((x4687, g4688) : (σ × J.γ)) => [Sl (eI .i64) 1 (.slice g4023.1 x4020.length g4023.2) x4020, SlN eN25 iN25 1 (.slice a3 x2.length c4.1) x2 c4.2, J.F]) (fun ((x4687, _) : (σ × J.γ)) => M_core_threes_1_j168 F yy (M_core_threes_1_l163 F yy (M_core_threes_1_l115 F yy x2 k3216) x2 x1609 x4020 k4555) x4288 x4687) ?_ ?_
        · refine sxc_block ?_
          refine sxc_seq ?_
          refine sxc_region ?_
          refine sxo_move rfl rfl rfl ?_
          refine sxo_indexF (j := 0) (eI_ok .i64) (by decide) rfl Try.underlying25 tf3 rfl rfl rfl rfl (fun x4689 e4689 b4690 o4691 => ?_)
          refine sxo_loadF (j := 0) rfl rfl tf3 rfl rfl (fun _ => rfl) rfl rfl ?_
          refine sxo_assign rfl rfl rfl ?_
          refine sxo_assign rfl rfl rfl ?_
          refine sxo_nil ?_
          refine sxq_next ?_
          refine sxc_seq ?_
          refine sxc_region ?_
          refine sxo_move rfl rfl rfl ?_
          refine sxo_move rfl rfl rfl ?_
          refine sxo_add rfl rfl rfl rfl ?_
          refine sxo_cut (j := 1) (eI_ok .i64) rfl Try.underlying25 tf3 rfl rfl rfl rfl rfl (fun x4692 e4692 a4693 c4694 => ?_)
          refine sxo_len rfl Try.underlying25 rfl rfl ?_
          refine sxo_move rfl rfl rfl ?_
          refine sxo_nil ?_
          refine sxq_next ?_
          refine sxc_block ?_
          refine sxc_loopP (fun (((x4735, x4736), g4737) : ((Int × σ) × J.γ)) => [(0, .func (.yield L) #[] #[]), (1, .pointer (some ⟨g1, 0, none⟩)), (3, .int .i64 x1609), (4, .slice g4023.1 x4020.length g4023.2), (6, .int .i64 x4689), (11, .slice a3 x2.length c4.1), (12, .int .i64 (x2.length : Int)), (13, .int .i64 x1609), (18, .slice g4023.1 x4020.length g4023.2), (19, .int .i64 (x4020.length : Int)), (20, .int .i64 x4288), (28, .slice a4693 x4692.length c4694), (29, .int .i64 (x4692.length : Int)), (30, .int .i64 x4735)]) (fun (((x4735, x4736), g4737) : ((Int × σ) × J.γ)) => [⟨g1, 22, [.slice a3 x2.length c4.1]⟩] ++ J.IB x4736 g4737) (fun (((x4735, x4736), g4737) : ((Int × σ) × J.γ)) => [] ++ J.IR x4736 g4737) (fun (((x4735, x4736), g4737) : ((Int × σ) × J.γ)) => [Sl (eI .i64) 1 (.slice g4023.1 x4020.length g4023.2) x4020, SlN eN25 iN25 1 (.slice a3 x2.length c4.1) x2 c4.2, Sl (eI .i64) 1 (.slice a4693 x4692.length c4694) x4692, J.F]) (fun k (s : ((Int × σ) × J.γ)) => M_core_threes_1_l171 F yy (M_core_threes_1_l163 F yy (M_core_threes_1_l115 F yy x2 k3216) x2 x1609 x4020 k4555) x2 x1609 x4288 x4689 x4692 k s.1) ((0, x4289), g4290) F (lk_cons rfl (lk_cons rfl (lk_cons rfl (lk_cons rfl (lk_cons rfl (lk_cons rfl (lk_cons rfl (lk_cons rfl (lk_cons rfl (lk_cons rfl (lk_cons rfl (lk_cons rfl (lk_cons rfl (lk_cons rfl lk_nil)))))))))))))) (.cons 0 rfl (pick_rest 0 rfl)) (pick_rest 0 rfl) (fk_cons 2 rfl (fk_cons 3 rfl (fk_cons 0 rfl (fk_cons 4 rfl fk_nil)))) (fun _ => rfl) ?_
          intro k4778
          rintro ⟨⟨x4735, x4736⟩, g4737⟩
          try dsimp only
          refine sxc_meq (m' := M_core_threes_1_b171 F yy (M_core_threes_1_l163 F yy (M_core_threes_1_l115 F yy x2 k3216) x2 x1609 x4020 k4555) x2 x1609 x4288 x4689 x4692 (M_core_threes_1_l171 F yy (M_core_threes_1_l163 F yy (M_core_threes_1_l115 F yy x2 k3216) x2 x1609 x4020 k4555) x2 x1609 x4288 x4689 x4692 k4778) x4735 x4736) rfl ?_
          refine sxc_seq ?_
          refine sxc_region ?_
          refine sxo_lss rfl rfl rfl rfl ?_
          refine sxo_nil ?_
          refine sxq_next ?_
          refine sxc_seq ?_
          refine sxc_if rfl (fun h4818 => ?_) (fun h4818 => ?_)
          · refine sxc_skip ?_
            refine sxq_next ?_
            refine sxc_join (fun ((x4798, g4799) : (σ × J.γ)) => [(0, .func (.yield L) #[] #[]), (1, .pointer (some ⟨g1, 0, none⟩)), (3, .int .i64 x1609), (4, .slice g4023.1 x4020.length g4023.2), (6, .int .i64 x4689), (11, .slice a3 x2.length c4.1), (12, .int .i64 (x2.length : Int)), (13, .int .i64 x1609), (18, .slice g4023.1 x4020.length g4023.2), (19, .int .i64 (x4020.length : Int)), (20, .int .i64 x4288), (28, .slice a4693 x4692.length c4694), (29, .int .i64 (x4692.length : Int)), (30, .int .i64 x4735)]) (fun ((x4798, g4799) : (σ × J.γ)) => [⟨g1, 22, [.slice a3 x2.length c4.1]⟩] ++ J.IB x4798 g4799) (fun ((x4798, g4799) : (σ × J.γ)) => [] ++ J.IR x4798 g4799) (fun ((x4798, g4799) : (σ × J.γ)) => [Sl (eI .i64) 1 (.slice g4023.1 x4020.length g4023.2) x4020, SlN eN25 iN25 1 (.slice a3 x2.length c4.1) x2 c4.2, Sl (eI .i64) 1 (.slice a4693 x4692.length c4694) x4692, J.F]) (fun ((x4798, _) : (σ × J.γ)) => M_core_threes_1_j172 F yy (M_core_threes_1_l171 F yy (M_core_threes_1_l163 F yy (M_core_threes_1_l115 F yy x2 k3216) x2 x1609 x4020 k4555) x2 x1609 x4288 x4689 x4692 k4778) x4735 x4798) ?_ ?_
            · refine sxc_block ?_
              refine sxc_seq ?_
              refine sxc_region ?_
              refine sxo_indexF (j := 2) (eI_ok .i64) (by decide) rfl Try.underlying25 tf3 rfl rfl rfl rfl (fun x4800 e4800 b4801 o4802 => ?_)
              refine sxo_loadF (j := 0) rfl rfl tf3 rfl rfl (fun _ => rfl) rfl rfl ?_
              refine sxo_assign rfl rfl rfl ?_
              refine sxo_nil ?_
              refine sxq_next ?_
              refine sxc_seq ?_
              refine sxc_region ?_
              refine sxo_loadB (i := 0) rfl rfl tf22 rfl rfl (fun _ => rfl) rfl rfl ?_
              refine sxo_move rfl rfl rfl ?_
              refine sxo_indexN (j := 2) eN25_ok (by decide) rfl Try.underlying22 tf25 rfl rfl rfl rfl (fun x4803 e4803 g4806 b4804 o4805 => ?_)
              refine sxo_loadF (j := 0) rfl rfl tf25 rfl rfl (fun _ => rfl) rfl rfl ?_
              refine sxo_move rfl rfl rfl ?_
              refine sxo_call ent51 rfl rfl rfl (fun x4807 e4807 => C_slices_BinarySearch_int_int F x4803 g4806.1 g4806.2 x4800 x4807 e4807) (.consF 1 rfl .nil) (fun x4807 e4807 => ?_)
              intro _
              refine sxo_move rfl rfl rfl ?_
              refine sxo_extract rfl rfl rfl rfl ?_
              refine sxo_extract rfl rfl rfl rfl ?_
              refine sxo_assign rfl rfl rfl ?_
              refine sxo_assign rfl rfl rfl ?_
              refine sxo_nil ?_
              refine sxq_next ?_
              refine sxc_seq ?_
              refine sxc_region ?_
              refine sxo_move rfl rfl rfl ?_
              refine sxo_move rfl rfl rfl ?_
              refine sxo_case 4 x4807.2 [(0, .func (.yield L) #[] #[]), (1, .pointer (some ⟨g1, 0, none⟩)), (3, .int .i64 x1609), (4, .slice g4023.1 x4020.length g4023.2), (6, .int .i64 x4689), (11, .slice a3 x2.length c4.1), (12, .int .i64 (x2.length : Int)), (13, .int .i64 x1609), (18, .slice g4023.1 x4020.length g4023.2), (19, .int .i64 (x4020.length : Int)), (20, .int .i64 x4288), (28, .slice a4693 x4692.length c4694), (29, .int .i64 (x4692.length : Int)), (30, .int .i64 x4735), (8, .int .i64 x4800), (48, .bool (x4807.2 && (decide (x1609 < x4689))))] (fun h4808 => ?_) (fun h4808 => ?_) ?_
              · refine sxo_take (os := _) rfl ?_
                refine sxo_isT (k := 44) rfl h4808 ?_
                refine sxo_move rfl rfl rfl ?_
                refine sxo_move rfl rfl rfl ?_
                refine sxo_lss rfl rfl rfl rfl ?_
                refine sxo_pick (b := true) rfl rfl rfl rfl ?_
                refine sxo_again (d := 48) (v := .bool (x4807.2 && (decide (x1609 < x4689)))) rfl (by rw [h4808]; simp only [Bool.true_and]) ?_
                refine sxo_nil ?_
                exact sxq_case (lk_cons rfl (lk_cons rfl (lk_cons rfl (lk_cons rfl (lk_cons rfl (lk_cons rfl (lk_cons rfl (lk_cons rfl (lk_cons rfl (lk_cons rfl (lk_cons rfl (lk_cons rfl (lk_cons rfl (lk_cons rfl (lk_cons rfl (lk_cons rfl lk_nil))))))))))))))))
              · refine sxo_take (os := _) rfl ?_
                refine sxo_isF (k := 44) rfl h4808 ?_
                refine sxo_skip rfl rfl rfl ?_
                refine sxo_skip rfl rfl rfl ?_
                refine sxo_skip rfl rfl rfl ?_
                refine sxo_pick (b := false) rfl rfl rfl rfl ?_
                refine sxo_again (d := 48) (v := .bool (x4807.2 && (decide (x1609 < x4689)))) rfl (by rw [h4808]; simp only [Bool.false_and]) ?_
                refine sxo_nil ?_
                exact sxq_case (lk_cons rfl (lk_cons rfl (lk_cons rfl (lk_cons rfl (lk_cons rfl (lk_cons rfl (lk_cons rfl (lk_cons rfl (lk_cons rfl (lk_cons rfl (lk_cons rfl (lk_cons rfl (lk_cons rfl (lk_cons rfl (lk_cons rfl (lk_cons rfl lk_nil))))))))))))))))
              refine sxo_take (os := _) rfl ?_
              refine sxo_move rfl rfl rfl ?_
              refine sxo_if (fun h4809 => ?_) (fun h4809 => ?_)
              · refine sxo_isT (k := 49) rfl h4809 ?_
                refine sxo_move rfl rfl rfl ?_
                refine sxo_move rfl rfl rfl ?_
                refine sxo_move rfl rfl rfl ?_
                refine sxo_move rfl rfl rfl ?_
                refine sxo_buildA (cells := ([x1609, x4689, x4800] : List Int).flatMap (eI .i64)) rfl Try.underlying60 tf60 tf3 rfl (by kernel_rfl) rfl ?_
                refine sxo_yield hY x4736 ([x1609, x4689, x4800] : List Int) g4737 (B1 := [⟨g1, 22, [.slice a3 x2.length c4.1]⟩]) (R1 := []) (j := 6) rfl rfl rfl rfl rfl rfl rfl (fun x4814 _ g4816 => ?_) (fun x4815 _ g4816 => ?_)
                · refine sxo_not rfl rfl rfl ?_
                  refine sxo_pick (b := true) rfl rfl rfl rfl ?_
                  refine sxo_nil ?_
                  refine sxq_next ?_
                  refine sxc_cond (b := false) rfl (fun h => by cases h) (fun _ => ?_)
                  refine sxc_skip ?_
                  refine sxq_blkN ?_
                  exact sxq_meetP (x4814, g4816) (lk_cons rfl (lk_cons rfl (lk_cons rfl (lk_cons rfl (lk_cons rfl (lk_cons rfl (lk_cons rfl (lk_cons rfl (lk_cons rfl (lk_cons rfl (lk_cons rfl (lk_cons rfl (lk_cons rfl (lk_cons rfl lk_nil)))))))))))))) (.cons 0 rfl (pick_rest 0 rfl)) (pick_rest 0 rfl) (fk_cons 3 rfl (fk_cons 4 rfl (fk_cons 5 rfl (fk_cons 6 rfl fk_nil))))
                · refine sxo_not rfl rfl rfl ?_
                  refine sxo_pick (b := true) rfl rfl rfl rfl ?_
                  refine sxo_nil ?_
                  refine sxq_next ?_
                  refine sxc_cond (b := true) rfl (fun _ => ?_) (fun h => by cases h)
                  refine sxc_ret ?_
                  refine sxq_blkR ?_
                  refine sxq_thenR ?_
                  refine sxq_thenR ?_
                  refine sxq_blkR ?_
                  refine sxq_blkR ?_
                  refine sxq_thenR ?_
                  refine sxq_thenR ?_
                  refine sxq_blkR ?_
                  refine sxq_blkR ?_
                  refine sxq_thenR ?_
                  refine sxq_thenR ?_
                  refine sxq_blkR ?_
                  exact sxq_doneI (B0 := [⟨g1, 22, [.slice a3 x2.length c4.1]⟩]) (x := .inr x4815) g4816 (.inl rfl) (res0 rfl) (.cons 0 rfl (pick_rest 0 rfl)) (pick_rest 0 rfl)
              · refine sxo_isF (k := 49) rfl h4809 ?_
                refine sxo_skip rfl rfl rfl ?_
                refine sxo_skip rfl rfl rfl ?_
                refine sxo_skip rfl rfl rfl ?_
                refine sxo_skip rfl rfl rfl ?_
                refine sxo_skip rfl rfl rfl ?_
                refine sxo_skip rfl rfl rfl ?_
                refine sxo_skip rfl rfl rfl ?_
                refine sxo_pick (b := false) rfl rfl rfl rfl ?_
                refine sxo_nil ?_
                refine sxq_next ?_
                refine sxc_cond (b := false) rfl (fun h => by cases h) (fun _ => ?_)
                refine sxc_skip ?_
                refine sxq_blkN ?_
                exact sxq_meetP (x4736, g4737) (lk_cons rfl (lk_cons rfl (lk_cons rfl (lk_cons rfl (lk_cons rfl (lk_cons rfl (lk_cons rfl (lk_cons rfl (lk_cons rfl (lk_cons rfl (lk_cons rfl (lk_cons rfl (lk_cons rfl (lk_cons rfl lk_nil)))))))))))))) (.cons 0 rfl (pick_rest 0 rfl)) (pick_rest 0 rfl) (fk_cons 3 rfl (fk_cons 4 rfl (fk_cons 5 rfl (fk_cons 6 rfl fk_nil))))
            · rintro ⟨x4798, g4799⟩
              try dsimp only
              refine sxc_region ?_
              refine sxo_add rfl rfl rfl rfl ?_
              refine sxo_move rfl rfl rfl ?_
              refine sxo_nil ?_
              exact sxq_againP ((iadd .i64 x4735 1, x4798), g4799) (lk_cons rfl (lk_cons rfl (lk_cons rfl (lk_cons rfl (lk_cons rfl (lk_cons rfl (lk_cons rfl (lk_cons rfl (lk_cons rfl (lk_cons rfl (lk_cons rfl (lk_cons rfl (lk_cons rfl (lk_cons rfl lk_nil)))))))))))))) (.cons 0 rfl (pick_rest 0 rfl)) (pick_rest 0 rfl) (fk_cons 0 rfl (fk_cons 1 rfl (fk_cons 2 rfl (fk_cons 3 rfl fk_nil))))
          · refine sxc_exit ?_
            refine sxq_thenX ?_
            refine sxq_thenX ?_
            refine sxq_blkX ?_
            refine sxq_blkN ?_
            exact sxq_meetP (x4736, g4737) (lk_cons rfl (lk_cons rfl (lk_cons rfl (lk_cons rfl (lk_cons rfl (lk_cons rfl (lk_cons rfl (lk_cons rfl (lk_cons rfl (lk_cons rfl lk_nil)))))))))) (.cons 0 rfl (pick_rest 0 rfl)) (pick_rest 0 rfl) (fk_cons 0 rfl (fk_cons 1 rfl (fk_cons 3 rfl fk_nil)))
        · rintro ⟨x4687, g4688⟩
          try dsimp only
          refine sxc_region ?_
          refine sxo_add rfl rfl rfl rfl ?_
          refine sxo_move rfl rfl rfl ?_
          refine sxo_nil ?_
          exact sxq_againP ((iadd .i64 x4288 1, x4687), g4688) (lk_cons rfl (lk_cons rfl (lk_cons rfl (lk_cons rfl (lk_cons rfl (lk_cons rfl (lk_cons rfl (lk_cons rfl (lk_cons rfl (lk_cons rfl lk_nil)))))))))) (.cons 0 rfl (pick_rest 0 rfl)) (pick_rest 0 rfl) (fk_cons 0 rfl (fk_cons 1 rfl (fk_cons 2 rfl fk_nil)))
      · refine sxc_exit ?_
        refine sxq_thenX ?_
        refine sxq_thenX ?_
        refine sxq_blkX ?_
        refine sxq_blkN ?_
        exact sxq_meetP (x4289, g4290) (lk_cons rfl (lk_cons rfl (lk_cons rfl (lk_cons rfl (lk_cons rfl lk_nil))))) (.cons 0 rfl (pick_rest 0 rfl)) (pick_rest 0 rfl) (fk_cons 1 rfl (fk_cons 2 rfl fk_nil))
    · rintro ⟨x4018, g4019⟩
      try dsimp only
      refine sxc_region ?_
      refine sxo_add rfl rfl rfl rfl ?_
      refine sxo_move rfl rfl rfl ?_
      refine sxo_nil ?_
      exact sxq_againP ((iadd .i64 x1609 1, x4018), g4019) (lk_cons rfl (lk_cons rfl (lk_cons rfl (lk_cons rfl (lk_cons rfl lk_nil))))) (.cons 0 rfl (pick_rest 0 rfl)) (pick_rest 0 rfl) (fk_cons 0 rfl (fk_cons 1 rfl fk_nil))
  · refine sxc_exit ?_
    refine sxq_thenX ?_
    refine sxq_thenX ?_
    refine sxq_blkX ?_
    exact sxq_doneI (B0 := [⟨g1, 22, [.slice a3 x2.length c4.1]⟩]) (x := .inl x1610) g1611 (.inr rfl) (res0 rfl) (.cons 0 rfl (pick_rest 0 rfl)) (pick_rest 0 rfl)

theorem C_core_Threes (F : Nat) (x1 : List (List Int)) (a2 : Option Addr) (c3 : (Nat × List (Option Addr × Nat))) (r : (List Int × Int × Int)) (hm : M_core_Threes F x1 = some r) :
    PureM Try.prog 11 [.agg #[.slice a2 x1.length c3.1]] [] [] [SlN eN25 iN25 1 (.slice a2 x1.length c3.1) x1 c3.2] (Option Addr × Nat) (fun g => .tuple #[.slice g.1 r.1.length g.2, .int .i64 r.2.1, .int .i64 r.2.2]) (fun _ => []) (fun g => [Ro (eI .i64) 3 1 (.slice g.1 r.1.length g.2) r.1]) := by
  refine pureX_of Try.func11 rfl Try.ntmps11 rfl hm (fun w => ?_)
  refine sxc_env (l' := [(0, .agg #[.slice a2 x1.length c3.1])]) rfl ?_
  refine sxc_seq ?_
  refine sxc_region ?_
  refine sxo_box rfl rfl rfl (fun g4 => ?_)
  refine sxo_alloc rfl tf25 rfl (fun g5 => ?_)
  refine sxo_alloc rfl tf3 rfl (fun g6 => ?_)
  refine sxo_assign rfl rfl rfl ?_
  refine sxo_nil ?_
  refine sxq_next ?_
  refine sxc_seq ?_
  refine sxc_seq ?_
  refine sxc_region ?_
  refine sxo_loadB (i := 2) rfl rfl tf24 rfl rfl (by simp) rfl rfl ?_
  refine sxo_call ent25 rfl rfl rfl (fun x9 e9 => C_graph_Check F x1 a2 c3 x9 e9) (.consF 0 rfl .nil) (fun x9 e9 => ?_)
  intro _
  refine sxo_assign rfl rfl rfl ?_
  refine sxo_nil ?_
  refine sxq_next ?_
  refine sxc_seq ?_
  refine sxc_region ?_
  refine sxo_move rfl rfl rfl ?_
  refine sxo_neq rfl rfl rfl rfl ?_
  refine sxo_nil ?_
  refine sxq_next ?_
  refine sxc_if rfl (fun h501 => ?_) (fun h501 => ?_)
  · refine sxc_seq ?_
    refine sxc_region ?_
    refine sxo_move rfl rfl rfl ?_
    refine sxo_storeB (i := 1) rfl rfl rfl tf25 rfl rfl rfl rfl rfl ?_
    refine sxo_storeB (i := 0) rfl rfl rfl tf3 rfl rfl rfl rfl rfl ?_
    refine sxo_assign rfl rfl rfl ?_
    refine sxo_nil ?_
    refine sxq_next ?_
    refine sxc_ret ?_
    refine sxq_thenR ?_
    refine sxq_nilrow Int (eI .i64) 3 1 ?_
    exact sxq_doneX [] (none, 0) (.inl rfl) rfl .nil (resL (rs := [.cell 2 25, .cell 3 3, .tmp 4]) rfl (.cell (i := 1) rfl tf25 rfl rfl (fun _ => rfl) rfl (.cell (i := 0) rfl tf3 rfl rfl (fun _ => rfl) rfl (.tmp rfl ResOk.nil))) rfl) (fun h => by subst h; rfl) (fun h => by subst h; exact .nil) (fun h => by subst h; exact (.cons 0 rfl .nil))
  · refine sxc_skip ?_
    refine sxq_next ?_
    refine sxc_seq ?_
    refine sxc_region ?_
    refine sxo_fieldAddr rfl rfl ff24_0 rfl ?_
    refine sxo_loadB (i := 2) rfl rfl tf22 rfl rfl (fun _ => rfl) rfl rfl ?_
    refine sxo_len rfl Try.underlying22 rfl rfl ?_
    refine sxo_mk (eI_ok .i64) rfl Try.underlying25 tf3 rfl rfl rfl rfl rfl rfl rfl (fun x10 e10 a11 c12 => ?_)
    refine sxo_storeB (i := 1) rfl rfl rfl tf25 rfl rfl rfl rfl rfl ?_
    refine sxo_nil ?_
    refine sxq_next ?_
    refine sxc_seq ?_
    refine sxc_seq ?_
    refine sxc_region ?_
    refine sxo_loadB (i := 2) rfl rfl tf24 rfl rfl (by simp) rfl rfl ?_
    refine sxo_callM ent26 rfl rfl rfl (fun x257 e257 => C_core_near F x1 a2 c3 x257 e257) .nil .nil (.consF 0 rfl .nil) (fun x257 e257 => ?_)
    rintro ⟨a258, c259⟩
    refine sxo_callM ent29 rfl rfl rfl (fun x260 e260 => C_core_threes F x257 a258 c259 x260 e260) .nil .nil (.consG 0 rfl (nest_sl rN25_in) .nil) (fun x260 e260 => ?_)
    rintro g261
    refine sxo_nil ?_
    refine sxq_next ?_
    refine sxc_block ?_
    refine sxc_range (encs := (fun (p : List Int) => [.agg (p.flatMap (eI .i64)).toArray])) (y := (fun ((x341, x342) : (Int × List Int)) (x422 : List Int) => M_core_Threes_r5 F x341 x342 x422)) (lb := [.pointer (some ⟨g261, 0, none⟩)]) (fun ((x341, x342) : (Int × List Int)) (_ : Unit) => [⟨g6, 3, [.int .i64 x341]⟩, ⟨g5, 25, [.slice a11 x342.length c12]⟩, ⟨g4, 24, [.slice a2 x1.length c3.1]⟩]) (fun ((x341, x342) : (Int × List Int)) (_ : Unit) => [Ro (eI .i64) 3 1 (.slice a11 x342.length c12) x342]) (fun (_ : Empty) (_ : Unit) => []) (fun (_ : Empty) (_ : Unit) => []) (fun _ => .skip) (0, x10) () rfl ent50 (fun _ => rfl) rfl (.cons 0 rfl .nil) (.cons 0 rfl (.cons 0 rfl (.cons 0 rfl .nil))) (.cons 1 rfl .nil) (.consG 0 rfl (nest_sl rN25_in) .nil) (fun z hz _ _ _ hY => C_core_threes_1 F hY (0, x10) () g261 x257 a258 c259 z hz) ?_ ?_ ?_
    · rintro rc1 L1 D1 ⟨x341, x342⟩ _ x422 z w M _
      try dsimp only
      refine sxc_less [(0, .agg #[.slice a2 x1.length c3.1]), (1, .pointer (some ⟨g4, 0, none⟩)), (2, .pointer (some ⟨g5, 0, none⟩)), (3, .pointer (some ⟨g6, 0, none⟩)), (4, .int .i64 0), (5, .int .i64 x9), (9, .agg #[.slice a2 x1.length c3.1]), (10, .int .i64 x9), (11, .int .i64 x9), (12, .bool ((x9 : Int) != 0)), (14, .pointer (some ⟨g4, 0, none⟩)), (15, .slice a2 x1.length c3.1), (16, .int .i64 (x1.length : Int)), (17, .slice a11 x10.length c12), (18, .agg #[.slice a2 x1.length c3.1]), (19, .slice a258 x257.length c259.1), (20, .func (.func 50) #[] #[.pointer (some ⟨g261, 0, none⟩)]), (21, .agg (x422.flatMap (eI .i64)).toArray)] (lk_cons rfl (lk_cons rfl (lk_cons rfl (lk_cons rfl (lk_cons rfl (lk_cons rfl (lk_cons rfl (lk_cons rfl (lk_cons rfl (lk_cons rfl (lk_cons rfl (lk_cons rfl (lk_cons rfl (lk_cons rfl (lk_cons rfl (lk_cons rfl (lk_cons rfl (lk_cons rfl lk_nil)))))))))))))))))) ?_
      refine sxc_region ?_
      refine sxo_alloc rfl tf60 rfl (fun g423 => ?_)
      refine sxo_blkAgain (i := 0) (cs' := (List.replicate 3 (0 : Int)).flatMap (eI .i64)) rfl rfl ?_
      refine sxo_b2r (i := 0) (xs := (List.replicate 3 (0 : Int))) (k := 3) (eI_ok .i64) rfl List.length_replicate rfl ?_
      refine sxo_chk (fun h424 => ?_)
      replace h424 := of_decide_eq_true h424
      refine sxo_r2b (j := 0) rfl (List.length_replicate) ?_
      refine sxo_storeB (i := 0) rfl rfl rfl tf60 rfl (arr_sz h424) (arr_le (List.length_replicate) h424) arr_ok (arr_st (arr_len (List.length_replicate)) h424) ?_
      refine sxo_b2r (i := 0) (xs := x422) (k := 3) (eI_ok .i64) rfl h424 rfl ?_
      refine sxo_nil ?_
      refine sxq_begin (i := 3) rfl ?_
      refine sxc_block ?_
      refine sxc_seq ?_
      refine sxc_region ?_
      refine sxo_loadB (i := 0) rfl rfl tf3 rfl rfl (fun _ => rfl) rfl rfl ?_
      refine sxo_add rfl rfl rfl rfl ?_
      refine sxo_storeB (i := 0) rfl rfl rfl tf3 rfl rfl rfl rfl rfl ?_
      refine sxo_nil ?_
      refine sxq_next ?_
      refine sxc_seq ?_
      refine sxc_region ?_
      refine sxo_chk (fun h425 => ?_)
      replace h425 := of_decide_eq_true h425
      refine sxo_r2b (j := 0) rfl h425 ?_
      refine sxo_loadB (i := 0) rfl rfl tf60 rfl (arr_hl (arr_len h425)) (by simp) (arr_hV (arr_len h425)) rfl ?_
      refine sxo_b2r (i := 0) (xs := x422) (k := 3) (eI_ok .i64) rfl h425 rfl ?_
      refine sxo_move rfl rfl rfl ?_
      refine sxo_nil ?_
      refine sxq_next ?_
      refine sxc_block ?_
      refine sxc_loopP (fun (((x450, x451), _) : ((Int × List Int) × Unit)) => [(1, .pointer (some ⟨g4, 0, none⟩)), (2, .pointer (some ⟨g5, 0, none⟩)), (3, .pointer (some ⟨g6, 0, none⟩)), (14, .pointer (some ⟨g4, 0, none⟩)), (24, .agg (x422.flatMap (eI .i64)).toArray), (25, .int .i64 x450)]) (fun (((x450, x451), _) : ((Int × List Int) × Unit)) => [⟨g6, 3, [.int .i64 (iadd .i64 x341 1)]⟩, ⟨g5, 25, [.slice a11 x451.length c12]⟩, ⟨g4, 24, [.slice a2 x1.length c3.1]⟩, (blkO L1 (.loop (bsy rc1))), (dblk D1)]) (fun (((x450, x451), _) : ((Int × List Int) × Unit)) => [Ro (eI .i64) 3 1 (.slice a11 x451.length c12) x451]) (fun (((x450, x451), _) : ((Int × List Int) × Unit)) => [SlN eN25 iN25 1 (.slice a2 x1.length c3.1) x1 c3.2]) (fun k (s : ((Int × List Int) × Unit)) => M_core_Threes_l8 F x341 x422 k s.1) ((0, x342), ()) F (lk_cons rfl (lk_cons rfl (lk_cons rfl (lk_cons rfl (lk_cons rfl (lk_cons rfl lk_nil)))))) (.cons 0 rfl (.cons 0 rfl (.cons 0 rfl (.cons 0 rfl (.cons 0 rfl .nil))))) (.cons 1 rfl .nil) (fk_cons 0 rfl fk_nil) (fun _ => rfl) ?_
      intro k476
      rintro ⟨⟨x450, x451⟩, _⟩
      try dsimp only
      refine sxc_meq (m' := M_core_Threes_b8 F x341 x422 (M_core_Threes_l8 F x341 x422 k476) x450 x451) rfl ?_
      refine sxc_seq ?_
      refine sxc_region ?_
      refine sxo_lss rfl rfl rfl rfl ?_
      refine sxo_nil ?_
      refine sxq_next ?_
      refine sxc_seq ?_
      refine sxc_if rfl (fun h500 => ?_) (fun h500 => ?_)
      · refine sxc_skip ?_
        refine sxq_next ?_
        refine sxc_seq ?_
        refine sxc_block ?_
        refine sxc_seq ?_
        refine sxc_region ?_
        refine sxo_chk (fun h489 => ?_)
        replace h489 := of_decide_eq_true h489
        refine sxo_indexV rfl Try.underlying60 tf3 rfl rfl h489 rfl (fun x490 e490 => ?_)
        refine sxo_assign rfl rfl rfl ?_
        refine sxo_nil ?_
        refine sxq_next ?_
        refine sxc_region ?_
        refine sxo_loadB (i := 1) rfl rfl tf25 rfl rfl (fun _ => rfl) rfl rfl ?_
        refine sxo_move rfl rfl rfl ?_
        refine sxo_indexR (j := 0) rfl Try.underlying25 tf3 rfl rfl rfl rfl (fun x491 e491 g492 h493 => ?_)
        refine sxo_loadR (j := 0) (y := x491) (eI_ok .i64) rfl rfl tf3 rfl h493 (idx_get e491).2.2 (fun _ => rfl) rfl rfl ?_
        refine sxo_add rfl rfl rfl rfl ?_
        refine sxo_indexR (j := 0) rfl Try.underlying25 tf3 rfl rfl rfl rfl (fun x494 e494 g495 h496 => ?_)
        refine sxo_storeL (j := 0) (y' := iadd .i64 x491 1) (eI_ok .i64) rfl rfl rfl tf3 rfl h496 (idx_get e494).2.1 rfl (fun x497 e497 h498 => ?_)
        have h499 : x497.length = x451.length := by rw [← e497, List.length_set]
        refine sxo_again (d := 28) (v := .slice a11 x497.length c12) rfl h498 ?_
        refine sxo_blkAgain (i := 1) (cs' := [.slice a11 x497.length c12]) rfl (by rw [h498] <;> rfl) ?_
        refine sxo_nil ?_
        refine sxq_blkN ?_
        refine sxq_next ?_
        refine sxc_region ?_
        refine sxo_add rfl rfl rfl rfl ?_
        refine sxo_move rfl rfl rfl ?_
        refine sxo_nil ?_
        exact sxq_againP ((iadd .i64 x450 1, x497), ()) (lk_cons rfl (lk_cons rfl (lk_cons rfl (lk_cons rfl (lk_cons rfl (lk_cons rfl lk_nil)))))) (.cons 0 rfl (.cons 0 rfl (.cons 0 rfl (.cons 0 rfl (.cons 0 rfl .nil))))) (.cons 0 rfl .nil) (fk_cons 0 rfl fk_nil)
      · refine sxc_exit ?_
        refine sxq_thenX ?_
        refine sxq_thenX ?_
        refine sxq_blkX ?_
        refine sxq_blkN ?_
        exact sxq_round (rc := rc1) rfl (.cons 3 rfl .nil) rfl () (.cons 1 rfl (.cons 1 rfl (.cons 1 rfl (.cons 0 rfl (.cons 0 rfl .nil))))) (.cons 0 rfl .nil)
    · rintro ⟨x341, x342⟩ _ _ D1
      try dsimp only
      refine sxq_blkN ?_
      refine sxq_next ?_
      refine sxc_seq ?_
      refine sxb_draw mixed [] [(dblk D1), ⟨g261, 22, [.slice a258 x257.length c259.1]⟩, ⟨g6, 3, [.int .i64 x341]⟩, ⟨g5, 25, [.slice a11 x342.length c12]⟩, ⟨g4, 24, [.slice a2 x1.length c3.1]⟩] [SlN eN25 iN25 1 (.slice a2 x1.length c3.1) x1 c3.2] (.cons 0 rfl (.cons 0 rfl (.cons 0 rfl (.cons 0 rfl (.cons 0 rfl .nil))))) (gk_F 0 rfl gk_nil) 5 rfl ?_
      refine sxb_takeB 0 (.slice a11 x342.length c12) rfl rfl rfl rfl (by kernel_rfl) (by kernel_rfl) (by kernel_rfl) (by kernel_rfl) (by kernel_rfl) rfl (show _ = #[true, false, false, false, false] from rfl) (yv_loadB (i := 3) rfl tf25 rfl rfl (fun _ => rfl) rfl) ?_
      refine sxb_takeB 1 (.int .i64 x341) rfl rfl rfl rfl (by kernel_rfl) (by kernel_rfl) (by kernel_rfl) (by kernel_rfl) (by kernel_rfl) rfl (show _ = #[true, true, false, false, false] from rfl) (yv_loadB (i := 2) rfl tf3 rfl rfl (fun _ => rfl) rfl) ?_
      refine sxb_step 2 rfl (by kernel_rfl) (show _ = #[true, true, true, false, false] from rfl) ?_
      refine sxo_storeB (i := 3) rfl rfl rfl tf25 rfl rfl rfl rfl rfl ?_
      refine sxo_nil ?_
      refine sxq_anyB (.cons 0 rfl (.cons 0 rfl (.cons 0 rfl (.cons 0 rfl (.cons 0 rfl .nil))))) (gk_F 0 rfl gk_nil) ?_
      refine sxb_step 3 rfl (by kernel_rfl) (show _ = #[true, true, true, true, false] from rfl) ?_
      refine sxo_storeB (i := 2) rfl rfl rfl tf3 rfl rfl rfl rfl rfl ?_
      refine sxo_nil ?_
      refine sxq_anyB (.cons 0 rfl (.cons 0 rfl (.cons 0 rfl (.cons 0 rfl (.cons 0 rfl .nil))))) (gk_F 0 rfl gk_nil) ?_
      refine sxb_takeP 4 (.int .i64 0) rfl rfl rfl rfl (by kernel_rfl) (by kernel_rfl) (by kernel_rfl) (by kernel_rfl) (by kernel_rfl) rfl (show _ = #[true, true, true, true, true] from rfl) (yv_pv rfl) ?_
      refine sxb_done (by kernel_rfl) ?_
      refine sxq_np ?_ (by intro c h; cases h)
      refine sxq_next ?_
      refine sxc_ret ?_
      exact sxq_doneX [D1] (a11, c12) (.inl rfl) rfl (.cons 0 rfl .nil) (resL (rs := [.cell 2 25, .cell 3 3, .tmp 4]) rfl (.cell (i := 2) rfl tf25 rfl rfl (fun _ => rfl) rfl (.cell (i := 1) rfl tf3 rfl rfl (fun _ => rfl) rfl (.tmp rfl ResOk.nil))) rfl) (fun h => by subst h; rfl) (fun h => by subst h; exact .nil) (fun h => by subst h; exact (.cons 0 rfl .nil))
    · intro t; exact t.elim

theorem C_math_bits_Mul32 (F : Nat) (x1 : Int) (x2 : Int) (r : (Int × Int)) (hm : M_math_bits_Mul32 F x1 x2 = some r) :
    Pure Try.prog 64 [.int .u32 x1, .int .u32 x2] [] Unit (fun _ => .tuple #[.int .u32 r.1, .int .u32 r.2]) (fun _ => []) (fun _ => []) := by
  refine pure_of Try.func64 rfl Try.ntmps64 rfl hm (fun w => ?_)
  refine sxc_env (l' := [(0, .int .u32 x1), (1, .int .u32 x2)]) rfl ?_
  refine sxc_seq ?_
  refine sxc_region ?_
  refine sxo_assign rfl rfl rfl ?_
  refine sxo_assign rfl rfl rfl ?_
  refine sxo_nil ?_
  refine sxq_next ?_
  refine sxc_seq ?_
  refine sxc_region ?_
  refine sxo_move rfl rfl rfl ?_
  refine sxo_conv rfl Try.underlying100 Try.underlying38 rfl rfl ?_
  refine sxo_move rfl rfl rfl ?_
  refine sxo_conv rfl Try.underlying100 Try.underlying38 rfl rfl ?_
  refine sxo_mul rfl rfl rfl rfl ?_
  refine sxo_assign rfl rfl rfl ?_
  refine sxo_lett (fun x3 e3 => ?_)
  refine sxo_again (d := 6) (v := .int .u64 x3) rfl (by rw [e3] <;> rfl) ?_
  refine sxo_nil ?_
  refine sxq_next ?_
  refine sxc_seq ?_
  refine sxc_region ?_
  refine sxo_move rfl rfl rfl ?_
  refine sxo_shr rfl rfl rfl rfl rfl ?_
  refine sxo_conv rfl Try.underlying38 Try.underlying100 rfl rfl ?_
  refine sxo_move rfl rfl rfl ?_
  refine sxo_conv rfl Try.underlying38 Try.underlying100 rfl rfl ?_
  refine sxo_assign rfl rfl rfl ?_
  refine sxo_assign rfl rfl rfl ?_
  refine sxo_nil ?_
  refine sxq_next ?_
  refine sxc_ret ?_
  exact sxq_doneP () (.inl rfl) (res2 rfl rfl rfl) (fun h => by subst h; rfl) (fun h => by subst h; exact .nil)

theorem C_math_bits_Mul64 (F : Nat) (x1 : Int) (x2 : Int) (r : (Int × Int)) (hm : M_math_bits_Mul64 F x1 x2 = some r) :
    Pure Try.prog 65 [.int .u64 x1, .int .u64 x2] [] Unit (fun _ => .tuple #[.int .u64 r.1, .int .u64 r.2]) (fun _ => []) (fun _ => []) := by
  refine pure_of Try.func65 rfl Try.ntmps65 rfl hm (fun w => ?_)
  refine sxc_env (l' := [(0, .int .u64 x1), (1, .int .u64 x2)]) rfl ?_
  refine sxc_seq ?_
  refine sxc_region ?_
  refine sxo_assign rfl rfl rfl ?_
  refine sxo_assign rfl rfl rfl ?_
  refine sxo_nil ?_
  refine sxq_next ?_
  refine sxc_seq ?_
  refine sxc_region ?_
  refine sxo_move rfl rfl rfl ?_
  refine sxo_and rfl rfl rfl rfl ?_
  refine sxo_assign rfl rfl rfl ?_
  refine sxo_nil ?_
  refine sxq_next ?_
  refine sxc_seq ?_
  refine sxc_region ?_
  refine sxo_move rfl rfl rfl ?_
  refine sxo_shr rfl rfl rfl rfl rfl ?_
  refine sxo_assign rfl rfl rfl ?_
  refine sxo_nil ?_
  refine sxq_next ?_
  refine sxc_seq ?_
  refine sxc_region ?_
  refine sxo_move rfl rfl rfl ?_
  refine sxo_and rfl rfl rfl rfl ?_
  refine sxo_assign rfl rfl rfl ?_
  refine sxo_nil ?_
  refine sxq_next ?_
  refine sxc_seq ?_
  refine sxc_region ?_
  refine sxo_move rfl rfl rfl ?_
  refine sxo_shr rfl rfl rfl rfl rfl ?_
  refine sxo_assign rfl rfl rfl ?_
  refine sxo_nil ?_
  refine sxq_next ?_
  refine sxc_seq ?_
  refine sxc_region ?_
  refine sxo_move rfl rfl rfl ?_
  refine sxo_move rfl rfl rfl ?_
  refine sxo_mul rfl rfl rfl rfl ?_
  refine sxo_assign rfl rfl rfl ?_
  refine sxo_lett (fun x3 e3 => ?_)
  refine sxo_again (d := 10) (v := .int .u64 x3) rfl (by rw [e3] <;> rfl) ?_
  refine sxo_nil ?_
  refine sxq_next ?_
  refine sxc_seq ?_
  refine sxc_region ?_
  refine sxo_move rfl rfl rfl ?_
  refine sxo_move rfl rfl rfl ?_
  refine sxo_mul rfl rfl rfl rfl ?_
  refine sxo_move rfl rfl rfl ?_
  refine sxo_shr rfl rfl rfl rfl rfl ?_
  refine sxo_add rfl rfl rfl rfl ?_
  refine sxo_assign rfl rfl rfl ?_
  refine sxo_lett (fun x4 e4 => ?_)
  refine sxo_again (d := 11) (v := .int .u64 x4) rfl (by rw [e4] <;> rfl) ?_
  refine sxo_nil ?_
  refine sxq_next ?_
  refine sxc_seq ?_
  refine sxc_region ?_
  refine sxo_move rfl rfl rfl ?_
  refine sxo_and rfl rfl rfl rfl ?_
  refine sxo_assign rfl rfl rfl ?_
  refine sxo_nil ?_
  refine sxq_next ?_
  refine sxc_seq ?_
  refine sxc_region ?_
  refine sxo_move rfl rfl rfl ?_
  refine sxo_shr rfl rfl rfl rfl rfl ?_
  refine sxo_assign rfl rfl rfl ?_
  refine sxo_nil ?_
  refine sxq_next ?_
  refine sxc_seq ?_
  refine sxc_region ?_
  refine sxo_move rfl rfl rfl ?_
  refine sxo_move rfl rfl rfl ?_
  refine sxo_move rfl rfl rfl ?_
  refine sxo_mul rfl rfl rfl rfl ?_
  refine sxo_add rfl rfl rfl rfl ?_
  refine sxo_assign rfl rfl rfl ?_
  refine sxo_lett (fun x5 e5 => ?_)
  refine sxo_again (d := 12) (v := .int .u64 x5) rfl (by rw [e5] <;> rfl) ?_
  refine sxo_nil ?_
  refine sxq_next ?_
  refine sxc_seq ?_
  refine sxc_region ?_
  refine sxo_move rfl rfl rfl ?_
  refine sxo_move rfl rfl rfl ?_
  refine sxo_mul rfl rfl rfl rfl ?_
  refine sxo_move rfl rfl rfl ?_
  refine sxo_add rfl rfl rfl rfl ?_
  refine sxo_move rfl rfl rfl ?_
  refine sxo_shr rfl rfl rfl rfl rfl ?_
  refine sxo_add rfl rfl rfl rfl ?_
  refine sxo_assign rfl rfl rfl ?_
  refine sxo_lett (fun x6 e6 => ?_)
  refine sxo_again (d := 4) (v := .int .u64 x6) rfl (by rw [e6] <;> rfl) ?_
  refine sxo_nil ?_
  refine sxq_next ?_
  refine sxc_seq ?_
  refine sxc_region ?_
  refine sxo_move rfl rfl rfl ?_
  refine sxo_move rfl rfl rfl ?_
  refine sxo_mul rfl rfl rfl rfl ?_
  refine sxo_assign rfl rfl rfl ?_
  refine sxo_nil ?_
  refine sxq_next ?_
  refine sxc_ret ?_
  exact sxq_doneP () (.inl rfl) (res2 rfl rfl rfl) (fun h => by subst h; rfl) (fun h => by subst h; exact .nil)

theorem C_math_bits_Mul (F : Nat) (x1 : Int) (x2 : Int) (r : (Int × Int)) (hm : M_math_bits_Mul F x1 x2 = some r) :
    Pure Try.prog 52 [.int .u64 x1, .int .u64 x2] [] Unit (fun _ => .tuple #[.int .u64 r.1, .int .u64 r.2]) (fun _ => []) (fun _ => []) := by
  refine pure_of Try.func52 rfl Try.ntmps52 rfl hm (fun w => ?_)
  refine sxc_env (l' := [(0, .int .u64 x1), (1, .int .u64 x2)]) rfl ?_
  refine sxc_seq ?_
  refine sxc_region ?_
  refine sxo_assign rfl rfl rfl ?_
  refine sxo_assign rfl rfl rfl ?_
  refine sxo_nil ?_
  refine sxq_next ?_
  refine sxc_seq ?_
  refine sxc_cond (b := false) rfl (fun h => by cases h) (fun _ => ?_)
  refine sxc_skip ?_
  refine sxq_next ?_
  refine sxc_seq ?_
  refine sxc_region ?_
  refine sxo_move rfl rfl rfl ?_
  refine sxo_move rfl rfl rfl ?_
  refine sxo_call ent65 rfl rfl rfl (fun x3 e3 => C_math_bits_Mul64 F x1 x2 x3 e3) .nil (fun x3 e3 => ?_)
  intro _
  refine sxo_move rfl rfl rfl ?_
  refine sxo_extract rfl rfl rfl rfl ?_
  refine sxo_extract rfl rfl rfl rfl ?_
  refine sxo_assign rfl rfl rfl ?_
  refine sxo_assign rfl rfl rfl ?_
  refine sxo_nil ?_
  refine sxq_next ?_
  refine sxc_seq ?_
  refine sxc_region ?_
  refine sxo_move rfl rfl rfl ?_
  refine sxo_move rfl rfl rfl ?_
  refine sxo_assign rfl rfl rfl ?_
  refine sxo_assign rfl rfl rfl ?_
  refine sxo_nil ?_
  refine sxq_next ?_
  refine sxc_ret ?_
  exact sxq_doneP () (.inl rfl) (res2 rfl rfl rfl) (fun h => by subst h; rfl) (fun h => by subst h; exact .nil)

theorem C_slices_Repeat_int_int (F : Nat) (x1 : List Int) (a2 : Option Addr) (c3 : Nat) (x4 : Int) (r : List Int) (hm : M_slices_Repeat_int_int F x1 x4 = some r) :
    Pure Try.prog 30 [.slice a2 x1.length c3, .int .i64 x4] [Sl (eI .i64) 1 (.slice a2 x1.length c3) x1] (Option Addr × Nat) (fun g => .slice g.1 r.length g.2) (fun g => [Ro (eI .i64) 3 1 (.slice g.1 r.length g.2) r]) (fun _ => []) := by
  refine pure_of Try.func30 rfl Try.ntmps30 rfl hm (fun w => ?_)
  refine sxc_env (l' := [(0, .slice a2 x1.length c3), (1, .int .i64 x4)]) rfl ?_
  refine sxc_seq ?_
  refine sxc_region ?_
  refine sxo_assign rfl rfl rfl ?_
  refine sxo_nil ?_
  refine sxq_next ?_
  refine sxc_seq ?_
  refine sxc_seq ?_
  refine sxc_region ?_
  refine sxo_move rfl rfl rfl ?_
  refine sxo_lss rfl rfl rfl rfl ?_
  refine sxo_nil ?_
  refine sxq_next ?_
  refine sxc_if rfl (fun h114 => ?_) (fun h114 => ?_)
  · exact sxc_none
  · refine sxc_skip ?_
    refine sxq_next ?_
    refine sxc_seq ?_
    refine sxc_region ?_
    refine sxo_move rfl rfl rfl ?_
    refine sxo_len rfl Try.underlying25 rfl rfl ?_
    refine sxo_conv rfl Try.underlying3 Try.underlying88 rfl rfl ?_
    refine sxo_move rfl rfl rfl ?_
    refine sxo_conv rfl Try.underlying3 Try.underlying88 rfl rfl ?_
    refine sxo_call ent52 rfl rfl rfl (fun x6 e6 => C_math_bits_Mul F (iconv .u64 (x1.length : Int)) (iconv .u64 x4) x6 e6) .nil (fun x6 e6 => ?_)
    intro _
    refine sxo_move rfl rfl rfl ?_
    refine sxo_extract rfl rfl rfl rfl ?_
    refine sxo_extract rfl rfl rfl rfl ?_
    refine sxo_assign rfl rfl rfl ?_
    refine sxo_assign rfl rfl rfl ?_
    refine sxo_nil ?_
    refine sxq_next ?_
    refine sxc_seq ?_
    refine sxc_seq ?_
    refine sxc_region ?_
    refine sxo_move rfl rfl rfl ?_
    refine sxo_gtr rfl rfl rfl rfl ?_
    refine sxo_move rfl rfl rfl ?_
    refine sxo_case 3 (decide (0 < x6.1)) [(0, .slice a2 x1.length c3), (6, .int .u64 x6.2), (26, .bool ((decide (0 < x6.1)) || (decide (9223372036854775807 < x6.2))))] (fun h9 => ?_) (fun h9 => ?_) ?_
    · refine sxo_take (os := _) rfl ?_
      refine sxo_isT (k := 23) rfl h9 ?_
      refine sxo_skip rfl rfl rfl ?_
      refine sxo_skip rfl rfl rfl ?_
      refine sxo_pick (b := true) rfl rfl rfl rfl ?_
      refine sxo_again (d := 26) (v := .bool ((decide (0 < x6.1)) || (decide (9223372036854775807 < x6.2)))) rfl (by rw [h9]; simp only [Bool.true_or]) ?_
      refine sxo_nil ?_
      exact sxq_case (lk_cons rfl (lk_cons rfl (lk_cons rfl lk_nil)))
    · refine sxo_take (os := _) rfl ?_
      refine sxo_isF (k := 23) rfl h9 ?_
      refine sxo_move rfl rfl rfl ?_
      refine sxo_gtr rfl rfl rfl rfl ?_
      refine sxo_pick (b := false) rfl rfl rfl rfl ?_
      refine sxo_again (d := 26) (v := .bool ((decide (0 < x6.1)) || (decide (9223372036854775807 < x6.2)))) rfl (by rw [h9]; simp only [Bool.false_or]) ?_
      refine sxo_nil ?_
      exact sxq_case (lk_cons rfl (lk_cons rfl (lk_cons rfl lk_nil)))
    refine sxo_take (os := _) rfl ?_
    refine sxo_nil ?_
    refine sxq_next ?_
    refine sxc_if rfl (fun h113 => ?_) (fun h113 => ?_)
    · exact sxc_none
    · refine sxc_skip ?_
      refine sxq_next ?_
      refine sxc_seq ?_
      refine sxc_region ?_
      refine sxo_move rfl rfl rfl ?_
      refine sxo_conv rfl Try.underlying88 Try.underlying3 rfl rfl ?_
      refine sxo_mk (eI_ok .i64) rfl Try.underlying25 tf3 rfl rfl rfl rfl rfl rfl rfl (fun x10 e10 a11 c12 => ?_)
      refine sxo_assign rfl rfl rfl ?_
      refine sxo_nil ?_
      refine sxq_next ?_
      refine sxc_seq ?_
      refine sxc_region ?_
      refine sxo_move rfl rfl rfl ?_
      refine sxo_move rfl rfl rfl ?_
      refine sxo_copyF (j := 0) (i := 0) (eI_ok .i64) rfl Try.underlying25 tf3 rfl rfl rfl rfl rfl (fun x13 e13 h14 => ?_)
      have h15 : x13.length = x10.length := by rw [← e13]; exact overlay_len (Nat.zero_le _)
      refine sxo_again (d := 7) (v := .slice a11 x13.length c12) rfl (by rw [h14] <;> rfl) ?_
      refine sxo_again (d := 30) (v := .slice a11 x13.length c12) rfl (by rw [h14] <;> rfl) ?_
      refine sxo_again (d := 31) (v := .slice a11 x13.length c12) rfl (by rw [h14] <;> rfl) ?_
      refine sxo_assign rfl rfl rfl ?_
      refine sxo_nil ?_
      refine sxq_next ?_
      refine sxc_join (fun ((x64, _) : (List Int × Unit)) => [(7, .slice a11 x64.length c12)]) (fun ((x64, _) : (List Int × Unit)) => []) (fun ((x64, _) : (List Int × Unit)) => [Ro (eI .i64) 3 1 (.slice a11 x64.length c12) x64]) (fun ((x64, _) : (List Int × Unit)) => []) (fun ((x64, _) : (List Int × Unit)) => M_slices_Repeat_int_int_j2 F x64) ?_ ?_
      · refine sxc_block ?_
        refine sxc_loopP (fun (((x80, x81), _) : ((List Int × Int) × Unit)) => [(7, .slice a11 x80.length c12), (8, .int .i64 x81)]) (fun (((x80, x81), _) : ((List Int × Int) × Unit)) => []) (fun (((x80, x81), _) : ((List Int × Int) × Unit)) => [Ro (eI .i64) 3 1 (.slice a11 x80.length c12) x80]) (fun (((x80, x81), _) : ((List Int × Int) × Unit)) => []) (fun k (s : ((List Int × Int) × Unit)) => M_slices_Repeat_int_int_l3 F k s.1) ((x13, ((min x1.length x10.length : Nat) : Int)), ()) F (lk_cons rfl (lk_cons rfl lk_nil)) .nil (.cons 0 rfl .nil) fk_nil (fun _ => rfl) ?_
        intro k97
        rintro ⟨⟨x80, x81⟩, _⟩
        try dsimp only
        refine sxc_meq (m' := M_slices_Repeat_int_int_b3 F (M_slices_Repeat_int_int_l3 F k97) x80 x81) rfl ?_
        refine sxc_seq ?_
        refine sxc_seq ?_
        refine sxc_region ?_
        refine sxo_move rfl rfl rfl ?_
        refine sxo_move rfl rfl rfl ?_
        refine sxo_len rfl Try.underlying25 rfl rfl ?_
        refine sxo_lss rfl rfl rfl rfl ?_
        refine sxo_nil ?_
        refine sxq_next ?_
        refine sxc_if rfl (fun h112 => ?_) (fun h112 => ?_)
        · refine sxc_skip ?_
          refine sxq_next ?_
          refine sxc_block ?_
          refine sxc_cutHR 0 rfl (fun x99 e99 a100 c101 h102 h103 => ?_)
          refine sxc_cutHR 0 rfl (fun x104 e104 a105 c106 h107 h108 => ?_)
          refine sxb_draw mixed [] [] [] .nil gk_nil 10 rfl ?_
          refine sxb_takeP 0 (.int .i64 x81) rfl rfl rfl rfl (by kernel_rfl) (by kernel_rfl) (by kernel_rfl) (by kernel_rfl) (by kernel_rfl) rfl (show _ = #[true, false, false, false, false, false, false, false, false, false] from rfl) (yv_pv rfl) ?_
          refine sxb_takeP 1 (.slice a11 x80.length c12) rfl rfl rfl rfl (by kernel_rfl) (by kernel_rfl) (by kernel_rfl) (by kernel_rfl) (by kernel_rfl) rfl (show _ = #[true, true, false, false, false, false, false, false, false, false] from rfl) (yv_pv rfl) ?_
          refine sxb_takeP 2 (.int .i64 x81) rfl rfl rfl rfl (by kernel_rfl) (by kernel_rfl) (by kernel_rfl) (by kernel_rfl) (by kernel_rfl) rfl (show _ = #[true, true, true, false, false, false, false, false, false, false] from rfl) (yv_pv rfl) ?_
          refine sxb_takeP 3 (.slice a100 x99.length c101) rfl rfl rfl rfl (by kernel_rfl) (by kernel_rfl) (by kernel_rfl) (by kernel_rfl) (by kernel_rfl) rfl (show _ = #[true, true, true, true, false, false, false, false, false, false] from rfl) (yv_cut Try.underlying25 tf3 rfl rfl rfl e99 h103 h102) ?_
          refine sxb_takeP 4 (.slice a11 x80.length c12) rfl rfl rfl rfl (by kernel_rfl) (by kernel_rfl) (by kernel_rfl) (by kernel_rfl) (by kernel_rfl) rfl (show _ = #[true, true, true, true, true, false, false, false, false, false] from rfl) (yv_pv rfl) ?_
          refine sxb_takeP 5 (.int .i64 x81) rfl rfl rfl rfl (by kernel_rfl) (by kernel_rfl) (by kernel_rfl) (by kernel_rfl) (by kernel_rfl) rfl (show _ = #[true, true, true, true, true, true, false, false, false, false] from rfl) (yv_pv rfl) ?_
          refine sxb_takeP 6 (.slice a105 x104.length c106) rfl rfl rfl rfl (by kernel_rfl) (by kernel_rfl) (by kernel_rfl) (by kernel_rfl) (by kernel_rfl) rfl (show _ = #[true, true, true, true, true, true, true, false, false, false] from rfl) (yv_cut Try.underlying25 tf3 rfl rfl rfl e104 h108 h107) ?_
          refine sxb_step 7 rfl (by kernel_rfl) (show _ = #[true, true, true, true, true, true, true, true, false, false] from rfl) ?_
          refine sxo_copyS (j := 0) (eI_ok .i64) rfl Try.underlying25 tf3 e99 h102 e104 h107 rfl rfl rfl rfl (fun x109 e109 h110 => ?_)
          have h111 : x109.length = x80.length := by rw [← e109]; exact overlay_len (by have := sub_spec e99; omega)
          refine sxo_again (d := 7) (v := .slice a11 x109.length c12) rfl (by rw [h110] <;> rfl) ?_
          refine sxo_again (d := 35) (v := .slice a11 x109.length c12) rfl (by rw [h110] <;> rfl) ?_
          refine sxo_again (d := 39) (v := .slice a11 x109.length c12) rfl (by rw [h110] <;> rfl) ?_
          refine sxo_again (d := 42) (v := .slice a11 x109.length c12) rfl (by rw [h110] <;> rfl) ?_
          refine sxo_nil ?_
          refine sxq_anyB .nil gk_nil ?_
          refine sxb_takeP 8 (.int .i64 (iadd .i64 x81 ((min x104.length x99.length : Nat) : Int))) rfl rfl rfl rfl (by kernel_rfl) (by kernel_rfl) (by kernel_rfl) (by kernel_rfl) (by kernel_rfl) rfl (show _ = #[true, true, true, true, true, true, true, true, true, false] from rfl) (yv_pv rfl) ?_
          refine sxb_takeP 9 (.int .i64 (iadd .i64 x81 ((min x104.length x99.length : Nat) : Int))) rfl rfl rfl rfl (by kernel_rfl) (by kernel_rfl) (by kernel_rfl) (by kernel_rfl) (by kernel_rfl) rfl (show _ = #[true, true, true, true, true, true, true, true, true, true] from rfl) (yv_pv rfl) ?_
          refine sxb_done (by kernel_rfl) ?_
          refine sxq_np ?_ (by intro c h; cases h)
          refine sxq_blkN ?_
          exact sxq_againP ((x109, iadd .i64 x81 ((min x104.length x99.length : Nat) : Int)), ()) (lk_cons rfl (lk_cons rfl lk_nil)) .nil (.cons 0 rfl .nil) fk_nil
        · refine sxc_exit ?_
          refine sxq_thenX ?_
          refine sxq_thenX ?_
          refine sxq_blkX ?_
          exact sxq_meetP (x80, ()) (lk_cons rfl lk_nil) .nil (.cons 0 rfl .nil) fk_nil
      · rintro ⟨x64, _⟩
        try dsimp only
        refine sxc_seq ?_
        refine sxc_region ?_
        refine sxo_move rfl rfl rfl ?_
        refine sxo_assign rfl rfl rfl ?_
        refine sxo_nil ?_
        refine sxq_next ?_
        refine sxc_ret ?_
        exact sxq_doneP (a11, c12) (.inl rfl) (res1 rfl rfl) (fun h => by subst h; rfl) (fun h => by subst h; exact (.cons 0 rfl .nil))

theorem C_core_Pairs_1 (F : Nat) (x1 : Int) (g2 : Nat) (x3 : Int) (g4 : Nat) (x5 : List Int) (a6 : Option Addr) (c7 : Nat) (r : Bool) (hm : M_core_Pairs_1 F x1 x3 x5 = some r) :
    PureM Try.prog 32 [.int .i64 x1, .pointer (some ⟨g2, 0, none⟩), .pointer (some ⟨g4, 0, none⟩)] [⟨g2, 3, [.int .i64 x3]⟩, ⟨g4, 25, [.slice a6 x5.length c7]⟩] [] [Sl (eI .i64) 1 (.slice a6 x5.length c7) x5] Unit (fun _ => .bool r) (fun _ => [⟨g2, 3, [.int .i64 x3]⟩, ⟨g4, 25, [.slice a6 x5.length c7]⟩]) (fun _ => []) := by
  refine pureM_of Try.func32 rfl Try.ntmps32 rfl hm (fun w => ?_)
  refine sxc_env (l' := [(0, .int .i64 x1), (1, .pointer (some ⟨g2, 0, none⟩)), (2, .pointer (some ⟨g4, 0, none⟩))]) rfl ?_
  refine sxc_seq ?_
  refine sxc_region ?_
  refine sxo_assign rfl rfl rfl ?_
  refine sxo_nil ?_
  refine sxq_next ?_
  refine sxc_seq ?_
  refine sxc_region ?_
  refine sxo_move rfl rfl rfl ?_
  refine sxo_loadB (i := 0) rfl rfl tf3 rfl rfl (fun _ => rfl) rfl rfl ?_
  refine sxo_gtr rfl rfl rfl rfl ?_
  refine sxo_move rfl rfl rfl ?_
  refine sxo_join 6 (fun ((x12, _) : (Bool × Unit)) => [(14, .bool x12)]) (fun ((x12, _) : (Bool × Unit)) => [⟨g2, 3, [.int .i64 x3]⟩, ⟨g4, 25, [.slice a6 x5.length c7]⟩]) (fun ((x12, _) : (Bool × Unit)) => []) (fun ((x12, _) : (Bool × Unit)) => [Sl (eI .i64) 1 (.slice a6 x5.length c7) x5]) (fun ((x12, _) : (Bool × Unit)) => M_core_Pairs_1_j1 F x12) ?_ ?_
  · refine sxo_take (os := _) rfl ?_
    refine sxo_if (fun h8 => ?_) (fun h8 => ?_)
    · refine sxo_isT (k := 8) rfl h8 ?_
      refine sxo_loadB (i := 1) rfl rfl tf25 rfl rfl (fun _ => rfl) rfl rfl ?_
      refine sxo_move rfl rfl rfl ?_
      refine sxo_indexF (j := 0) (eI_ok .i64) (by decide) rfl Try.underlying25 tf3 rfl rfl rfl rfl (fun x13 e13 b14 o15 => ?_)
      refine sxo_loadF (j := 0) rfl rfl tf3 rfl rfl (fun _ => rfl) rfl rfl ?_
      refine sxo_lss rfl rfl rfl rfl ?_
      refine sxo_pick (b := true) rfl rfl rfl rfl ?_
      refine sxo_nil ?_
      exact sxq_meetP ((decide (x13 < 0)), ()) (lk_cons rfl lk_nil) (.cons 0 rfl (.cons 0 rfl .nil)) .nil (fk_cons 1 rfl fk_nil)
    · refine sxo_isF (k := 8) rfl h8 ?_
      refine sxo_skip rfl rfl rfl ?_
      refine sxo_skip rfl rfl rfl ?_
      refine sxo_skip rfl rfl rfl ?_
      refine sxo_skip rfl rfl rfl ?_
      refine sxo_skip rfl rfl rfl ?_
      refine sxo_pick (b := false) rfl rfl rfl rfl ?_
      refine sxo_nil ?_
      exact sxq_meetP (false, ()) (lk_cons rfl lk_nil) (.cons 0 rfl (.cons 0 rfl .nil)) .nil (fk_cons 0 rfl fk_nil)
  · rintro ⟨x12, _⟩
    try dsimp only
    refine sxo_take (os := _) rfl ?_
    refine sxo_assign rfl rfl rfl ?_
    refine sxo_nil ?_
    refine sxq_next ?_
    refine sxc_ret ?_
    exact sxq_doneM () (.inl rfl) (res1 rfl rfl) (fun h => by subst h; rfl) (fun h => by subst h; exact (.cons 0 rfl (.cons 0 rfl .nil))) (fun h => by subst h; exact .nil)

theorem C_slices_IndexFunc_int_int_core_Pairs_1 (F : Nat) (x1 : List Int) (a2 : Option Addr) (c3 : Nat) (g4 : Nat) (x5 : Int) (g6 : Nat) (x7 : List Int) (a8 : Option Addr) (c9 : Nat) (r : Int) (hm : M_slices_IndexFunc_int_int_core_Pairs_1 F x1 x5 x7 = some r) :
    PureM Try.prog 31 [.slice a2 x1.length c3, .func (.func 32) #[] #[.pointer (some ⟨g4, 0, none⟩), .pointer (some ⟨g6, 0, none⟩)]] [⟨g4, 3, [.int .i64 x5]⟩, ⟨g6, 25, [.slice a8 x7.length c9]⟩] [] [Sl (eI .i64) 1 (.slice a2 x1.length c3) x1, Sl (eI .i64) 1 (.slice a8 x7.length c9) x7] Unit (fun _ => .int .i64 r) (fun _ => [⟨g4, 3, [.int .i64 x5]⟩, ⟨g6, 25, [.slice a8 x7.length c9]⟩]) (fun _ => []) := by
  refine pureM_of Try.func31 rfl Try.ntmps31 rfl hm (fun w => ?_)
  refine sxc_env (l' := [(0, .slice a2 x1.length c3), (1, .func (.func 32) #[] #[.pointer (some ⟨g4, 0, none⟩), .pointer (some ⟨g6, 0, none⟩)])]) rfl ?_
  refine sxc_seq ?_
  refine sxc_region ?_
  refine sxo_assign rfl rfl rfl ?_
  refine sxo_nil ?_
  refine sxq_next ?_
  refine sxc_join (fun ((_, _) : (Unit × Unit)) => []) (fun ((_, _) : (Unit × Unit)) => [⟨g4, 3, [.int .i64 x5]⟩, ⟨g6, 25, [.slice a8 x7.length c9]⟩]) (fun ((_, _) : (Unit × Unit)) => []) (fun ((_, _) : (Unit × Unit)) => [Sl (eI .i64) 1 (.slice a8 x7.length c9) x7]) (fun ((_, _) : (Unit × Unit)) => M_slices_IndexFunc_int_int_core_Pairs_1_j2 F) ?_ ?_
  · refine sxc_seq ?_
    refine sxc_region ?_
    refine sxo_move rfl rfl rfl ?_
    refine sxo_len rfl Try.underlying25 rfl rfl ?_
    refine sxo_move rfl rfl rfl ?_
    refine sxo_nil ?_
    refine sxq_next ?_
    refine sxc_block ?_
    refine sxc_loopP (fun ((x60, _) : (Int × Unit)) => [(0, .slice a2 x1.length c3), (1, .func (.func 32) #[] #[.pointer (some ⟨g4, 0, none⟩), .pointer (some ⟨g6, 0, none⟩)]), (7, .int .i64 (x1.length : Int)), (8, .int .i64 x60)]) (fun ((x60, _) : (Int × Unit)) => [⟨g4, 3, [.int .i64 x5]⟩, ⟨g6, 25, [.slice a8 x7.length c9]⟩]) (fun ((x60, _) : (Int × Unit)) => []) (fun ((x60, _) : (Int × Unit)) => [Sl (eI .i64) 1 (.slice a2 x1.length c3) x1, Sl (eI .i64) 1 (.slice a8 x7.length c9) x7]) (fun k (s : (Int × Unit)) => M_slices_IndexFunc_int_int_core_Pairs_1_l3 F x1 x5 x7 k s.1) (0, ()) F (lk_cons rfl (lk_cons rfl (lk_cons rfl (lk_cons rfl lk_nil)))) (.cons 0 rfl (.cons 0 rfl .nil)) .nil (fk_cons 0 rfl (fk_cons 1 rfl fk_nil)) (fun _ => rfl) ?_
    intro k73
    rintro ⟨x60, _⟩
    try dsimp only
    refine sxc_meq (m' := M_slices_IndexFunc_int_int_core_Pairs_1_b3 F x1 x5 x7 (M_slices_IndexFunc_int_int_core_Pairs_1_l3 F x1 x5 x7 k73) x60) rfl ?_
    refine sxc_seq ?_
    refine sxc_region ?_
    refine sxo_lss rfl rfl rfl rfl ?_
    refine sxo_nil ?_
    refine sxq_next ?_
    refine sxc_seq ?_
    refine sxc_if rfl (fun h85 => ?_) (fun h85 => ?_)
    · refine sxc_skip ?_
      refine sxq_next ?_
      refine sxc_seq ?_
      refine sxc_block ?_
      refine sxc_seq ?_
      refine sxc_region ?_
      refine sxo_move rfl rfl rfl ?_
      refine sxo_assign rfl rfl rfl ?_
      refine sxo_nil ?_
      refine sxq_next ?_
      refine sxc_seq ?_
      refine sxc_region ?_
      refine sxo_move rfl rfl rfl ?_
      refine sxo_move rfl rfl rfl ?_
      refine sxo_move rfl rfl rfl ?_
      refine sxo_indexF (j := 0) (eI_ok .i64) (by decide) rfl Try.underlying25 tf3 rfl rfl rfl rfl (fun x80 e80 b81 o82 => ?_)
      refine sxo_loadF (j := 0) rfl rfl tf3 rfl rfl (fun _ => rfl) rfl rfl ?_
      refine sxo_callMV ent32 rfl rfl rfl rfl (fun x83 e83 => C_core_Pairs_1 F x80 g4 x5 g6 x7 a8 c9 x83 e83) (.cons 0 rfl (.cons 0 rfl .nil)) .nil (.consF 2 rfl .nil) (fun x83 e83 => ?_)
      intro _
      refine sxo_nil ?_
      refine sxq_next ?_
      refine sxc_if rfl (fun h84 => ?_) (fun h84 => ?_)
      · refine sxc_seq ?_
        refine sxc_region ?_
        refine sxo_move rfl rfl rfl ?_
        refine sxo_assign rfl rfl rfl ?_
        refine sxo_nil ?_
        refine sxq_next ?_
        refine sxc_ret ?_
        refine sxq_blkR ?_
        refine sxq_thenR ?_
        refine sxq_thenR ?_
        refine sxq_blkR ?_
        refine sxq_thenR ?_
        exact sxq_doneM () (.inl rfl) (res1 rfl rfl) (fun h => by subst h; rfl) (fun h => by subst h; exact (.cons 0 rfl (.cons 0 rfl .nil))) (fun h => by subst h; exact .nil)
      · refine sxc_skip ?_
        refine sxq_blkN ?_
        refine sxq_next ?_
        refine sxc_region ?_
        refine sxo_add rfl rfl rfl rfl ?_
        refine sxo_move rfl rfl rfl ?_
        refine sxo_nil ?_
        exact sxq_againP (iadd .i64 x60 1, ()) (lk_cons rfl (lk_cons rfl (lk_cons rfl (lk_cons rfl lk_nil)))) (.cons 0 rfl (.cons 0 rfl .nil)) .nil (fk_cons 1 rfl (fk_cons 2 rfl fk_nil))
    · refine sxc_exit ?_
      refine sxq_thenX ?_
      refine sxq_thenX ?_
      refine sxq_blkX ?_
      exact sxq_meetP ((), ()) lk_nil (.cons 0 rfl (.cons 0 rfl .nil)) .nil (fk_cons 1 rfl fk_nil)
  · rintro ⟨_, _⟩
    try dsimp only
    refine sxc_seq ?_
    refine sxc_region ?_
    refine sxo_assign rfl rfl rfl ?_
    refine sxo_nil ?_
    refine sxq_next ?_
    refine sxc_ret ?_
    exact sxq_doneM () (.inl rfl) (res1 rfl rfl) (fun h => by subst h; rfl) (fun h => by subst h; exact (.cons 0 rfl (.cons 0 rfl .nil))) (fun h => by subst h; exact .nil)

set_option maxHeartbeats 4000000 in
theorem C_core_Pairs (F : Nat) (x1 : List (List Int)) (a2 : Option Addr) (c3 : (Nat × List (Option Addr × Nat))) (r : (List Int × Int)) (hm : M_core_Pairs F x1 = some r) :
    Pure Try.prog 12 [.agg #[.slice a2 x1.length c3.1]] [SlN eN25 iN25 1 (.slice a2 x1.length c3.1) x1 c3.2] (Option Addr × Nat) (fun g => .tuple #[.slice g.1 r.1.length g.2, .int .i64 r.2]) (fun g => [Ro (eI .i64) 3 1 (.slice g.1 r.1.length g.2) r.1]) (fun _ => []) := by
  refine pure_of Try.func12 rfl Try.ntmps12 rfl hm (fun w => ?_)
  refine sxc_env (l' := [(0, .agg #[.slice a2 x1.length c3.1])]) rfl ?_
  refine sxc_seq ?_
  refine sxc_region ?_
  refine sxo_box rfl rfl rfl (fun g4 => ?_)
  refine sxo_assign rfl rfl rfl ?_
  refine sxo_assign rfl rfl rfl ?_
  refine sxo_nil ?_
  refine sxq_next ?_
  refine sxc_seq ?_
  refine sxc_seq ?_
  refine sxc_region ?_
  refine sxo_loadB (i := 0) rfl rfl tf24 rfl rfl (by simp) rfl rfl ?_
  refine sxo_call ent25 rfl rfl rfl (fun x7 e7 => C_graph_Check F x1 a2 c3 x7 e7) (.consF 0 rfl .nil) (fun x7 e7 => ?_)
  intro _
  refine sxo_assign rfl rfl rfl ?_
  refine sxo_nil ?_
  refine sxq_next ?_
  refine sxc_seq ?_
  refine sxc_region ?_
  refine sxo_move rfl rfl rfl ?_
  refine sxo_neq rfl rfl rfl rfl ?_
  refine sxo_nil ?_
  refine sxq_next ?_
  refine sxc_if rfl (fun h453 => ?_) (fun h453 => ?_)
  · refine sxc_seq ?_
    refine sxc_region ?_
    refine sxo_move rfl rfl rfl ?_
    refine sxo_assign rfl rfl rfl ?_
    refine sxo_assign rfl rfl rfl ?_
    refine sxo_nil ?_
    refine sxq_next ?_
    refine sxc_ret ?_
    refine sxq_thenR ?_
    refine sxq_nilrow Int (eI .i64) 3 1 ?_
    exact sxq_doneP (none, 0) (.inl rfl) (res2 rfl rfl rfl) (fun h => by subst h; rfl) (fun h => by subst h; exact (.cons 0 rfl .nil))
  · refine sxc_skip ?_
    refine sxq_next ?_
    refine sxc_seq ?_
    refine sxc_region ?_
    refine sxo_slit (vs := [.int .i64 (-1)]) (ys := ([-1] : List Int)) (eI_ok .i64) (by decide) rfl Try.underlying25 tf3 rfl rfl rfl rfl rfl (by decide) (fun a8 c9 => ?_)
    refine sxo_fieldAddr rfl rfl ff24_0 rfl ?_
    refine sxo_loadB (i := 0) rfl rfl tf22 rfl rfl (fun _ => rfl) rfl rfl ?_
    refine sxo_len rfl Try.underlying22 rfl rfl ?_
    refine sxo_call ent30 rfl rfl rfl (fun x10 e10 => C_slices_Repeat_int_int F ([-1] : List Int) a8 c9 (x1.length : Int) x10 e10) (.consR 0 (Ro (eI .i64) 3 1 (.slice a8 ([-1] : List Int).length c9) ([-1] : List Int)) rfl .nil) (fun x10 e10 => ?_)
    rintro ⟨a11, c12⟩
    refine sxo_alloc rfl tf25 rfl (fun g13 => ?_)
    refine sxo_storeB (i := 0) rfl rfl rfl tf25 rfl rfl rfl rfl rfl ?_
    refine sxo_nil ?_
    refine sxq_next ?_
    refine sxc_join (fun ((x233, _) : (List Int × Unit)) => [(5, .pointer (some ⟨g13, 0, none⟩))]) (fun ((x233, _) : (List Int × Unit)) => [⟨g13, 25, [.slice a11 x233.length c12]⟩]) (fun ((x233, _) : (List Int × Unit)) => [Ro (eI .i64) 3 1 (.slice a11 x233.length c12) x233]) (fun ((x233, _) : (List Int × Unit)) => []) (fun ((x233, _) : (List Int × Unit)) => M_core_Pairs_j5 F x233) ?_ ?_
    · refine sxc_seq ?_
      refine sxc_region ?_
      refine sxo_loadB (i := 1) rfl rfl tf24 rfl rfl (by simp) rfl rfl ?_
      refine sxo_callM ent26 rfl rfl rfl (fun x234 e234 => C_core_near F x1 a2 c3 x234 e234) .nil .nil (.consF 0 rfl .nil) (fun x234 e234 => ?_)
      rintro ⟨a235, c236⟩
      refine sxo_len rfl Try.underlying22 rfl rfl ?_
      refine sxo_move rfl rfl rfl ?_
      refine sxo_nil ?_
      refine sxq_next ?_
      refine sxc_block ?_
      refine sxc_loopP (fun (((x308, x309), _) : ((Int × List Int) × Unit)) => [(5, .pointer (some ⟨g13, 0, none⟩)), (20, .slice a235 x234.length c236.1), (21, .int .i64 (x234.length : Int)), (22, .int .i64 x308)]) (fun (((x308, x309), _) : ((Int × List Int) × Unit)) => [⟨g13, 25, [.slice a11 x309.length c12]⟩]) (fun (((x308, x309), _) : ((Int × List Int) × Unit)) => [RoN eN25 rN25 25 1 (.slice a235 x234.length c236.1) x234 c236.2 [], Ro (eI .i64) 3 1 (.slice a11 x309.length c12) x309]) (fun (((x308, x309), _) : ((Int × List Int) × Unit)) => []) (fun k (s : ((Int × List Int) × Unit)) => M_core_Pairs_l8 F x234 k s.1) ((0, x10), ()) F (lk_cons rfl (lk_cons rfl (lk_cons rfl (lk_cons rfl lk_nil)))) (.cons 0 rfl .nil) (.cons 0 rfl (.cons 0 rfl .nil)) fk_nil (fun _ => rfl) ?_
      intro k381
      rintro ⟨⟨x308, x309⟩, _⟩
      try dsimp only
      refine sxc_meq (m' := M_core_Pairs_b8 F x234 (M_core_Pairs_l8 F x234 k381) x308 x309) rfl ?_
      refine sxc_seq ?_
      refine sxc_region ?_
      refine sxo_lss rfl rfl rfl rfl ?_
      refine sxo_nil ?_
      refine sxq_next ?_
      refine sxc_seq ?_
      refine sxc_if rfl (fun h452 => ?_) (fun h452 => ?_)
      · refine sxc_skip ?_
        refine sxq_next ?_
        refine sxc_join (fun ((x417, _) : (List Int × Unit)) => [(5, .pointer (some ⟨g13, 0, none⟩)), (20, .slice a235 x234.length c236.1), (21, .int .i64 (x234.length : Int)), (22, .int .i64 x308)]) (fun ((x417, _) : (List Int × Unit)) => [⟨g13, 25, [.slice a11 x417.length c12]⟩]) (fun ((x417, _) : (List Int × Unit)) => [RoN eN25 rN25 25 1 (.slice a235 x234.length c236.1) x234 c236.2 [], Ro (eI .i64) 3 1 (.slice a11 x417.length c12) x417]) (fun ((x417, _) : (List Int × Unit)) => []) (fun ((x417, _) : (List Int × Unit)) => M_core_Pairs_j9 F (M_core_Pairs_l8 F x234 k381) x308 x417) ?_ ?_
        · refine sxc_block ?_
          refine sxc_seq ?_
          refine sxc_region ?_
          refine sxo_move rfl rfl rfl ?_
          refine sxo_idxP (j := 0) rfl Try.underlying22 tf25 rfl rfl rfl rfl (fun x418 e418 g419 h420 g421 h422 => ?_)
          refine sxo_openN (i := 0) rfl h420 (List.not_mem_nil) ?_
          refine sxo_loadN0 (j := 1) (p := (x418, g419)) eN25_ok rfl rfl tf25 rfl h422 h420 rfl (fun _ => rfl) rfl rfl ?_
          refine sxo_alloc rfl tf3 rfl (fun g423 => ?_)
          refine sxo_storeB (i := 0) rfl rfl rfl tf3 rfl rfl rfl rfl rfl ?_
          refine sxo_assign rfl rfl rfl ?_
          refine sxo_nil ?_
          refine sxq_next ?_
          refine sxc_seq ?_
          refine sxc_region ?_
          refine sxo_move rfl rfl rfl ?_
          refine sxo_makeFunc rfl rfl rfl ?_
          refine sxo_callM ent31 rfl rfl rfl (fun x424 e424 => C_slices_IndexFunc_int_int_core_Pairs_1 F x418 g419.1 g419.2 g423 x308 g13 x309 a11 c12 x424 e424) (.cons 0 rfl (.cons 0 rfl .nil)) .nil (.consR 0 (Ro (eI .i64) 3 1 (.slice g419.1 x418.length g419.2) x418) rfl (.consR 2 (Ro (eI .i64) 3 1 (.slice a11 x309.length c12) x309) rfl .nil)) (fun x424 e424 => ?_)
          intro _
          refine sxo_assign rfl rfl rfl ?_
          refine sxo_nil ?_
          refine sxq_next ?_
          refine sxc_seq ?_
          refine sxc_region ?_
          refine sxo_loadB (i := 1) rfl rfl tf25 rfl rfl (fun _ => rfl) rfl rfl ?_
          refine sxo_loadB (i := 0) rfl rfl tf3 rfl rfl (fun _ => rfl) rfl rfl ?_
          refine sxo_indexR (j := 2) rfl Try.underlying25 tf3 rfl rfl rfl rfl (fun x425 e425 g426 h427 => ?_)
          refine sxo_loadR (j := 2) (y := x425) (eI_ok .i64) rfl rfl tf3 rfl h427 (idx_get e425).2.2 (fun _ => rfl) rfl rfl ?_
          refine sxo_lss rfl rfl rfl rfl ?_
          refine sxo_move rfl rfl rfl ?_
          refine sxo_case 3 (decide (x425 < 0)) [(5, .pointer (some ⟨g13, 0, none⟩)), (20, .slice a235 x234.length c236.1), (21, .int .i64 (x234.length : Int)), (22, .int .i64 x308), (6, .pointer (some ⟨g423, 0, none⟩)), (7, .slice g419.1 x418.length g419.2), (8, .int .i64 x424), (38, .bool ((decide (x425 < 0)) && (decide (0 ≤ x424))))] (fun h428 => ?_) (fun h428 => ?_) ?_
          · refine sxo_take (os := _) rfl ?_
            refine sxo_isT (k := 35) rfl h428 ?_
            refine sxo_move rfl rfl rfl ?_
            refine sxo_geq rfl rfl rfl rfl ?_
            refine sxo_pick (b := true) rfl rfl rfl rfl ?_
            refine sxo_again (d := 38) (v := .bool ((decide (x425 < 0)) && (decide (0 ≤ x424)))) rfl (by rw [h428]; simp only [Bool.true_and]) ?_
            refine sxo_nil ?_
            exact sxq_case (lk_cons rfl (lk_cons rfl (lk_cons rfl (lk_cons rfl (lk_cons rfl (lk_cons rfl (lk_cons rfl (lk_cons rfl lk_nil))))))))
          · refine sxo_take (os := _) rfl ?_
            refine sxo_isF (k := 35) rfl h428 ?_
            refine sxo_skip rfl rfl rfl ?_
            refine sxo_skip rfl rfl rfl ?_
            refine sxo_pick (b := false) rfl rfl rfl rfl ?_
            refine sxo_again (d := 38) (v := .bool ((decide (x425 < 0)) && (decide (0 ≤ x424)))) rfl (by rw [h428]; simp only [Bool.false_and]) ?_
            refine sxo_nil ?_
            exact sxq_case (lk_cons rfl (lk_cons rfl (lk_cons rfl (lk_cons rfl (lk_cons rfl (lk_cons rfl (lk_cons rfl (lk_cons rfl lk_nil))))))))
          refine sxo_take (os := _) rfl ?_
          refine sxo_nil ?_
          refine sxq_next ?_
          refine sxc_if rfl (fun h451 => ?_) (fun h451 => ?_)
          · refine sxc_idxO (j := 0) rfl (fun x429 e429 g430 h431 => ?_)
            replace h431 : g419.1 = some ⟨g430, 0, none⟩ := h431
            have h432 := own_of (k := x418.length) (c := g419.2) h431
            refine sxc_idxO (j := 0) rfl (fun x433 e433 g434 h435 => ?_)
            replace h435 : g419.1 = some ⟨g434, 0, none⟩ := h435
            have h436 := own_of (k := x418.length) (c := g419.2) h435
            refine sxc_idxO (j := 2) rfl (fun x437 e437 g438 h439 => ?_)
            replace h439 : a11 = some ⟨g438, 0, none⟩ := h439
            have h440 := own_of (k := x309.length) (c := c12) h439
            refine sxc_idxO (j := 2) rfl (fun x441 e441 g442 h443 => ?_)
            replace h443 : a11 = some ⟨g442, 0, none⟩ := h443
            have h444 := own_of (k := x309.length) (c := c12) h443
            refine sxb_draw mixed [] [⟨g423, 3, [.int .i64 x308]⟩, ⟨g13, 25, [.slice a11 x309.length c12]⟩] [CellsAt g430 (x424.toNat * 1) ((eI .i64) x429), CellsAt g434 (x424.toNat * 1) ((eI .i64) x433)] (.cons 0 rfl (.cons 0 rfl .nil)) (gk_R 0 rfl (at_row (eI_ok .i64) e429 h431) (gk_R 0 rfl (at_row (eI_ok .i64) e433 h435) gk_nil)) 16 rfl ?_
            refine sxb_takeB 0 (.slice a11 x309.length c12) rfl rfl rfl rfl (by kernel_rfl) (by kernel_rfl) (by kernel_rfl) (by kernel_rfl) (by kernel_rfl) rfl (show _ = #[true, false, false, false, false, false, false, false, false, false, false, false, false, false, false, false] from rfl) (yv_loadB (i := 1) rfl tf25 rfl rfl (fun _ => rfl) rfl) ?_
            refine sxb_takeB 1 (.int .i64 x308) rfl rfl rfl rfl (by kernel_rfl) (by kernel_rfl) (by kernel_rfl) (by kernel_rfl) (by kernel_rfl) rfl (show _ = #[true, true, false, false, false, false, false, false, false, false, false, false, false, false, false, false] from rfl) (yv_loadB (i := 0) rfl tf3 rfl rfl (fun _ => rfl) rfl) ?_
            refine sxb_takeB 2 (.slice a11 x309.length c12) rfl rfl rfl rfl (by kernel_rfl) (by kernel_rfl) (by kernel_rfl) (by kernel_rfl) (by kernel_rfl) rfl (show _ = #[true, true, true, false, false, false, false, false, false, false, false, false, false, false, false, false] from rfl) (yv_loadB (i := 1) rfl tf25 rfl rfl (fun _ => rfl) rfl) ?_
            refine sxb_takeP 3 (.slice g419.1 x418.length g419.2) rfl rfl rfl rfl (by kernel_rfl) (by kernel_rfl) (by kernel_rfl) (by kernel_rfl) (by kernel_rfl) rfl (show _ = #[true, true, true, true, false, false, false, false, false, false, false, false, false, false, false, false] from rfl) (yv_pv rfl) ?_
            refine sxb_takeP 4 (.int .i64 x424) rfl rfl rfl rfl (by kernel_rfl) (by kernel_rfl) (by kernel_rfl) (by kernel_rfl) (by kernel_rfl) rfl (show _ = #[true, true, true, true, true, false, false, false, false, false, false, false, false, false, false, false] from rfl) (yv_pv rfl) ?_
            refine sxb_again (d := 42) (v := .slice (some ⟨g430, 0, none⟩) x418.length g419.2) rfl (by rw [h431] <;> rfl) ?_
            refine sxb_takeP 5 (.pointer (some ⟨g430, x424.toNat * 1, none⟩)) rfl rfl rfl rfl (by kernel_rfl) (by kernel_rfl) (by kernel_rfl) (by kernel_rfl) (by kernel_rfl) rfl (show _ = #[true, true, true, true, true, true, false, false, false, false, false, false, false, false, false, false] from rfl) (yv_idxO Try.underlying25 tf3 rfl rfl (idx_get e429).1 (idx_lt e429)) ?_
            refine sxb_again (d := 42) (v := .slice g419.1 x418.length g419.2) rfl (by rw [h431] <;> rfl) ?_
            refine sxb_take 6 (.int .i64 x429) [] rfl rfl rfl rfl (by kernel_rfl) (by kernel_rfl) (by kernel_rfl) (by kernel_rfl) (by kernel_rfl) (by kernel_rfl) rfl (show _ = #[true, true, true, true, true, true, true, false, false, false, false, false, false, false, false, false] from rfl) (yv_loadF (j := 0) rfl tf3 rfl rfl (fun _ => rfl) rfl) ?_
            refine sxb_takeP 7 (.slice g419.1 x418.length g419.2) rfl rfl rfl rfl (by kernel_rfl) (by kernel_rfl) (by kernel_rfl) (by kernel_rfl) (by kernel_rfl) rfl (show _ = #[true, true, true, true, true, true, true, true, false, false, false, false, false, false, false, false] from rfl) (yv_pv rfl) ?_
            refine sxb_takeP 8 (.int .i64 x424) rfl rfl rfl rfl (by kernel_rfl) (by kernel_rfl) (by kernel_rfl) (by kernel_rfl) (by kernel_rfl) rfl (show _ = #[true, true, true, true, true, true, true, true, true, false, false, false, false, false, false, false] from rfl) (yv_pv rfl) ?_
            refine sxb_again (d := 46) (v := .slice (some ⟨g434, 0, none⟩) x418.length g419.2) rfl (by rw [h435] <;> rfl) ?_
            refine sxb_takeP 9 (.pointer (some ⟨g434, x424.toNat * 1, none⟩)) rfl rfl rfl rfl (by kernel_rfl) (by kernel_rfl) (by kernel_rfl) (by kernel_rfl) (by kernel_rfl) rfl (show _ = #[true, true, true, true, true, true, true, true, true, true, false, false, false, false, false, false] from rfl) (yv_idxO Try.underlying25 tf3 rfl rfl (idx_get e433).1 (idx_lt e433)) ?_
            refine sxb_again (d := 46) (v := .slice g419.1 x418.length g419.2) rfl (by rw [h435] <;> rfl) ?_
            refine sxb_take 10 (.int .i64 x433) [] rfl rfl rfl rfl (by kernel_rfl) (by kernel_rfl) (by kernel_rfl) (by kernel_rfl) (by kernel_rfl) (by kernel_rfl) rfl (show _ = #[true, true, true, true, true, true, true, true, true, true, true, false, false, false, false, false] from rfl) (yv_loadF (j := 1) rfl tf3 rfl rfl (fun _ => rfl) rfl) ?_
            refine sxb_takeB 11 (.int .i64 x308) rfl rfl rfl rfl (by kernel_rfl) (by kernel_rfl) (by kernel_rfl) (by kernel_rfl) (by kernel_rfl) rfl (show _ = #[true, true, true, true, true, true, true, true, true, true, true, true, false, false, false, false] from rfl) (yv_loadB (i := 0) rfl tf3 rfl rfl (fun _ => rfl) rfl) ?_
            refine sxb_again (d := 39) (v := .slice (some ⟨g438, 0, none⟩) x309.length c12) rfl (by rw [h439] <;> rfl) ?_
            refine sxb_takeP 12 (.pointer (some ⟨g438, x308.toNat * 1, none⟩)) rfl rfl rfl rfl (by kernel_rfl) (by kernel_rfl) (by kernel_rfl) (by kernel_rfl) (by kernel_rfl) rfl (show _ = #[true, true, true, true, true, true, true, true, true, true, true, true, true, false, false, false] from rfl) (yv_idxO Try.underlying25 tf3 rfl rfl (idx_get e437).1 (idx_lt e437)) ?_
            refine sxb_again (d := 39) (v := .slice a11 x309.length c12) rfl (by rw [h439] <;> rfl) ?_
            refine sxb_step 13 rfl (by kernel_rfl) (show _ = #[true, true, true, true, true, true, true, true, true, true, true, true, true, true, false, false] from rfl) ?_
            refine sxo_storeL (j := 2) (y' := x433) (eI_ok .i64) rfl rfl rfl tf3 rfl (own_of h439) (idx_get e437).2.1 rfl (fun x445 e445 h446 => ?_)
            have h447 : x445.length = x309.length := by rw [← e445, List.length_set]
            refine sxo_again (d := 39) (v := .slice a11 x445.length c12) rfl h446 ?_
            refine sxo_again (d := 41) (v := .slice a11 x445.length c12) rfl h446 ?_
            refine sxo_blkAgain (i := 1) (cs' := [.slice a11 x445.length c12]) rfl (by rw [h446] <;> rfl) ?_
            refine sxo_nil ?_
            refine sxq_anyB (.cons 0 rfl (.cons 0 (by rw [h447]; rfl) .nil)) (gk_R 1 rfl (at_row (eI_ok .i64) e429 h431) (gk_R 1 rfl (at_row (eI_ok .i64) e433 h435) gk_nil)) ?_
            refine sxb_again (d := 41) (v := .slice (some ⟨g442, 0, none⟩) x445.length c12) rfl (by rw [h443] <;> rfl) ?_
            refine sxb_takeP 14 (.pointer (some ⟨g442, x429.toNat * 1, none⟩)) rfl rfl rfl rfl (by kernel_rfl) (by kernel_rfl) (by kernel_rfl) (by kernel_rfl) (by kernel_rfl) rfl (show _ = #[true, true, true, true, true, true, true, true, true, true, true, true, true, true, true, false] from rfl) (yv_idxO Try.underlying25 tf3 rfl rfl (idx_get e441).1 (by rw [h447]; exact (idx_lt e441))) ?_
            refine sxb_again (d := 41) (v := .slice a11 x445.length c12) rfl (by rw [h443] <;> rfl) ?_
            refine sxb_step 15 rfl (by kernel_rfl) (show _ = #[true, true, true, true, true, true, true, true, true, true, true, true, true, true, true, true] from rfl) ?_
            refine sxo_storeL (j := 0) (y' := x308) (eI_ok .i64) rfl rfl rfl tf3 rfl (own_of h443) (by rw [h447]; exact (idx_get e441).2.1) rfl (fun x448 e448 h449 => ?_)
            have h450 : x448.length = x445.length := by rw [← e448, List.length_set]
            refine sxo_again (d := 39) (v := .slice a11 x448.length c12) rfl h449 ?_
            refine sxo_again (d := 41) (v := .slice a11 x448.length c12) rfl h449 ?_
            refine sxo_blkAgain (i := 1) (cs' := [.slice a11 x448.length c12]) rfl (by rw [h449] <;> rfl) ?_
            refine sxo_nil ?_
            refine sxq_anyB (.cons 0 rfl (.cons 0 (by rw [h450, h447]; rfl) .nil)) (gk_R 1 rfl (at_row (eI_ok .i64) e429 h431) (gk_R 1 rfl (at_row (eI_ok .i64) e433 h435) gk_nil)) ?_
            refine sxb_done (by kernel_rfl) ?_
            refine sxq_np ?_ (by intro c h; cases h)
            refine sxq_blkN ?_
            refine sxq_closeN (rin := rN25) (p := (x418, g419)) (i := 1) (k := 0) (.cons 1 rfl .nil) rfl rfl h420 ?_
            exact sxq_meetP (x448, ()) (lk_cons rfl (lk_cons rfl (lk_cons rfl (lk_cons rfl lk_nil)))) (.cons 1 rfl .nil) (.cons 0 rfl (.cons 0 rfl .nil)) fk_nil
          · refine sxc_skip ?_
            refine sxq_blkN ?_
            refine sxq_closeN (rin := rN25) (p := (x418, g419)) (i := 0) (k := 0) (.cons 0 rfl .nil) rfl rfl h420 ?_
            exact sxq_meetP (x309, ()) (lk_cons rfl (lk_cons rfl (lk_cons rfl (lk_cons rfl lk_nil)))) (.cons 1 rfl .nil) (.cons 0 rfl (.cons 0 rfl .nil)) fk_nil
        · rintro ⟨x417, _⟩
          try dsimp only
          refine sxc_region ?_
          refine sxo_add rfl rfl rfl rfl ?_
          refine sxo_move rfl rfl rfl ?_
          refine sxo_nil ?_
          exact sxq_againP ((iadd .i64 x308 1, x417), ()) (lk_cons rfl (lk_cons rfl (lk_cons rfl (lk_cons rfl lk_nil)))) (.cons 0 rfl .nil) (.cons 0 rfl (.cons 0 rfl .nil)) fk_nil
      · refine sxc_exit ?_
        refine sxq_thenX ?_
        refine sxq_thenX ?_
        refine sxq_blkX ?_
        exact sxq_meetP (x309, ()) (lk_cons rfl lk_nil) (.cons 0 rfl .nil) (.cons 1 rfl .nil) fk_nil
    · rintro ⟨x233, _⟩
      try dsimp only
      refine sxc_seq ?_
      refine sxc_region ?_
      refine sxo_loadB (i := 0) rfl rfl tf25 rfl rfl (fun _ => rfl) rfl rfl ?_
      refine sxo_assign rfl rfl rfl ?_
      refine sxo_assign rfl rfl rfl ?_
      refine sxo_nil ?_
      refine sxq_next ?_
      refine sxc_ret ?_
      exact sxq_doneP (a11, c12) (.inl rfl) (res2 rfl rfl rfl) (fun h => by subst h; rfl) (fun h => by subst h; exact (.cons 0 rfl .nil))

theorem C_R_SameInts (F : Nat) (x1 : List Int) (a2 : Option Addr) (c3 : Nat) (x4 : List Int) (a5 : Option Addr) (c6 : Nat) (r : Bool) (hm : M_R_SameInts F x1 x4 = some r) :
    Pure Try.prog 18 [.slice a2 x1.length c3, .slice a5 x4.length c6] [Sl (eI .i64) 1 (.slice a2 x1.length c3) x1, Sl (eI .i64) 1 (.slice a5 x4.length c6) x4] Unit (fun _ => .bool r) (fun _ => []) (fun _ => []) := by
  refine pure_of Try.func18 rfl Try.ntmps18 rfl hm (fun w => ?_)
  refine sxc_env (l' := [(0, .slice a2 x1.length c3), (1, .slice a5 x4.length c6)]) rfl ?_
  refine sxc_seq ?_
  refine sxc_region ?_
  refine sxo_assign rfl rfl rfl ?_
  refine sxo_nil ?_
  refine sxq_next ?_
  refine sxc_seq ?_
  refine sxc_seq ?_
  refine sxc_region ?_
  refine sxo_move rfl rfl rfl ?_
  refine sxo_len rfl Try.underlying25 rfl rfl ?_
  refine sxo_move rfl rfl rfl ?_
  refine sxo_len rfl Try.underlying25 rfl rfl ?_
  refine sxo_neq rfl rfl rfl rfl ?_
  refine sxo_nil ?_
  refine sxq_next ?_
  refine sxc_if rfl (fun h228 => ?_) (fun h228 => ?_)
  · refine sxc_seq ?_
    refine sxc_region ?_
    refine sxo_assign rfl rfl rfl ?_
    refine sxo_nil ?_
    refine sxq_next ?_
    refine sxc_ret ?_
    refine sxq_thenR ?_
    exact sxq_doneP () (.inl rfl) (res1 rfl rfl) (fun h => by subst h; rfl) (fun h => by subst h; exact .nil)
  · refine sxc_skip ?_
    refine sxq_next ?_
    refine sxc_join (fun ((_, _) : (Unit × Unit)) => []) (fun ((_, _) : (Unit × Unit)) => []) (fun ((_, _) : (Unit × Unit)) => []) (fun ((_, _) : (Unit × Unit)) => []) (fun ((_, _) : (Unit × Unit)) => M_R_SameInts_j2 F) ?_ ?_
    · refine sxc_seq ?_
      refine sxc_region ?_
      refine sxo_assign rfl rfl rfl ?_
      refine sxo_nil ?_
      refine sxq_next ?_
      refine sxc_block ?_
      refine sxc_loopP (fun ((x154, _) : (Int × Unit)) => [(0, .slice a2 x1.length c3), (1, .slice a5 x4.length c6), (5, .int .i64 x154)]) (fun ((x154, _) : (Int × Unit)) => []) (fun ((x154, _) : (Int × Unit)) => []) (fun ((x154, _) : (Int × Unit)) => [Sl (eI .i64) 1 (.slice a2 x1.length c3) x1, Sl (eI .i64) 1 (.slice a5 x4.length c6) x4]) (fun k (s : (Int × Unit)) => M_R_SameInts_l3 F x1 x4 k s.1) (0, ()) F (lk_cons rfl (lk_cons rfl (lk_cons rfl lk_nil))) .nil .nil (fk_cons 0 rfl (fk_cons 1 rfl fk_nil)) (fun _ => rfl) ?_
      intro k191
      rintro ⟨x154, _⟩
      try dsimp only
      refine sxc_meq (m' := M_R_SameInts_b3 F x1 x4 (M_R_SameInts_l3 F x1 x4 k191) x154) rfl ?_
      refine sxc_seq ?_
      refine sxc_seq ?_
      refine sxc_region ?_
      refine sxo_move rfl rfl rfl ?_
      refine sxo_move rfl rfl rfl ?_
      refine sxo_len rfl Try.underlying25 rfl rfl ?_
      refine sxo_lss rfl rfl rfl rfl ?_
      refine sxo_nil ?_
      refine sxq_next ?_
      refine sxc_if rfl (fun h227 => ?_) (fun h227 => ?_)
      · refine sxc_skip ?_
        refine sxq_next ?_
        refine sxc_seq ?_
        refine sxc_block ?_
        refine sxc_seq ?_
        refine sxc_idxF (j := 0) (eI_ok .i64) (by decide) rfl (fun x218 e218 b219 o220 h221 => ?_)
        replace h221 : a2 = some ⟨b219, o220, none⟩ := h221
        refine sxc_idxF (j := 2) (eI_ok .i64) (by decide) rfl (fun x222 e222 b223 o224 h225 => ?_)
        replace h225 : a5 = some ⟨b223, o224, none⟩ := h225
        refine sxb_draw mixed [] [] [CellsAt b223 (o224 + x154.toNat * 1) ((eI .i64) x222), CellsAt b219 (o220 + x154.toNat * 1) ((eI .i64) x218), Sl (eI .i64) 1 (.slice a2 x1.length c3) x1, Sl (eI .i64) 1 (.slice a5 x4.length c6) x4] .nil (gk_F 0 rfl (gk_F 1 rfl (gk_F 2 rfl (gk_F 3 rfl gk_nil)))) 9 rfl ?_
        refine sxb_takeP 0 (.slice a2 x1.length c3) rfl rfl rfl rfl (by kernel_rfl) (by kernel_rfl) (by kernel_rfl) (by kernel_rfl) (by kernel_rfl) rfl (show _ = #[true, false, false, false, false, false, false, false, false] from rfl) (yv_pv rfl) ?_
        refine sxb_takeP 1 (.int .i64 x154) rfl rfl rfl rfl (by kernel_rfl) (by kernel_rfl) (by kernel_rfl) (by kernel_rfl) (by kernel_rfl) rfl (show _ = #[true, true, false, false, false, false, false, false, false] from rfl) (yv_pv rfl) ?_
        refine sxb_again (d := 17) (v := .slice (some ⟨b219, o220, none⟩) x1.length c3) rfl (by rw [h221] <;> rfl) ?_
        refine sxb_takeP 2 (.pointer (some ⟨b219, (o220 + x154.toNat * 1), none⟩)) rfl rfl rfl rfl (by kernel_rfl) (by kernel_rfl) (by kernel_rfl) (by kernel_rfl) (by kernel_rfl) rfl (show _ = #[true, true, true, false, false, false, false, false, false] from rfl) (yv_idx Try.underlying25 tf3 rfl rfl (idx_get e218).1 (idx_lt e218)) ?_
        refine sxb_again (d := 17) (v := .slice a2 x1.length c3) rfl (by rw [h221] <;> rfl) ?_
        refine sxb_take 3 (.int .i64 x218) [] rfl rfl rfl rfl (by kernel_rfl) (by kernel_rfl) (by kernel_rfl) (by kernel_rfl) (by kernel_rfl) (by kernel_rfl) rfl (show _ = #[true, true, true, true, false, false, false, false, false] from rfl) (yv_loadF (j := 1) rfl tf3 rfl rfl (fun _ => rfl) rfl) ?_
        refine sxb_takeP 4 (.slice a5 x4.length c6) rfl rfl rfl rfl (by kernel_rfl) (by kernel_rfl) (by kernel_rfl) (by kernel_rfl) (by kernel_rfl) rfl (show _ = #[true, true, true, true, true, false, false, false, false] from rfl) (yv_pv rfl) ?_
        refine sxb_takeP 5 (.int .i64 x154) rfl rfl rfl rfl (by kernel_rfl) (by kernel_rfl) (by kernel_rfl) (by kernel_rfl) (by kernel_rfl) rfl (show _ = #[true, true, true, true, true, true, false, false, false] from rfl) (yv_pv rfl) ?_
        refine sxb_again (d := 21) (v := .slice (some ⟨b223, o224, none⟩) x4.length c6) rfl (by rw [h225] <;> rfl) ?_
        refine sxb_takeP 6 (.pointer (some ⟨b223, (o224 + x154.toNat * 1), none⟩)) rfl rfl rfl rfl (by kernel_rfl) (by kernel_rfl) (by kernel_rfl) (by kernel_rfl) (by kernel_rfl) rfl (show _ = #[true, true, true, true, true, true, true, false, false] from rfl) (yv_idx Try.underlying25 tf3 rfl rfl (idx_get e222).1 (idx_lt e222)) ?_
        refine sxb_again (d := 21) (v := .slice a5 x4.length c6) rfl (by rw [h225] <;> rfl) ?_
        refine sxb_take 7 (.int .i64 x222) [] rfl rfl rfl rfl (by kernel_rfl) (by kernel_rfl) (by kernel_rfl) (by kernel_rfl) (by kernel_rfl) (by kernel_rfl) rfl (show _ = #[true, true, true, true, true, true, true, true, false] from rfl) (yv_loadF (j := 0) rfl tf3 rfl rfl (fun _ => rfl) rfl) ?_
        refine sxb_takeP 8 (.bool ((x218 : Int) != x222)) rfl rfl rfl rfl (by kernel_rfl) (by kernel_rfl) (by kernel_rfl) (by kernel_rfl) (by kernel_rfl) rfl (show _ = #[true, true, true, true, true, true, true, true, true] from rfl) (yv_pv rfl) ?_
        refine sxb_done (by kernel_rfl) ?_
        refine sxq_np ?_ (by intro c h; cases h)
        refine sxq_next ?_
        refine sxc_if rfl (fun h226 => ?_) (fun h226 => ?_)
        · refine sxc_seq ?_
          refine sxc_region ?_
          refine sxo_assign rfl rfl rfl ?_
          refine sxo_nil ?_
          refine sxq_next ?_
          refine sxc_ret ?_
          refine sxq_blkR ?_
          refine sxq_thenR ?_
          refine sxq_thenR ?_
          refine sxq_blkR ?_
          refine sxq_thenR ?_
          exact sxq_doneP () (.inl rfl) (res1 rfl rfl) (fun h => by subst h; rfl) (fun h => by subst h; exact .nil)
        · refine sxc_skip ?_
          refine sxq_blkN ?_
          refine sxq_next ?_
          refine sxc_region ?_
          refine sxo_move rfl rfl rfl ?_
          refine sxo_add rfl rfl rfl rfl ?_
          refine sxo_assign rfl rfl rfl ?_
          refine sxo_nil ?_
          exact sxq_againP (iadd .i64 x154 1, ()) (lk_cons rfl (lk_cons rfl (lk_cons rfl lk_nil))) .nil .nil (fk_cons 2 rfl (fk_cons 3 rfl fk_nil))
      · refine sxc_exit ?_
        refine sxq_thenX ?_
        refine sxq_thenX ?_
        refine sxq_blkX ?_
        exact sxq_meetP ((), ()) lk_nil .nil .nil fk_nil
    · rintro ⟨_, _⟩
      try dsimp only
      refine sxc_seq ?_
      refine sxc_region ?_
      refine sxo_assign rfl rfl rfl ?_
      refine sxo_nil ?_
      refine sxq_next ?_
      refine sxc_ret ?_
      exact sxq_doneP () (.inl rfl) (res1 rfl rfl) (fun h => by subst h; rfl) (fun h => by subst h; exact .nil)

theorem C_L_coreBegun (F : Nat)  (r : Bool) (hm : M_L_coreBegun F  = some r) :
    Pure Try.prog 17 [] [] Unit (fun _ => .bool r) (fun _ => []) (fun _ => []) := by
  refine pure_of Try.func17 rfl Try.ntmps17 rfl hm (fun w => ?_)
  refine sxc_env (l' := []) rfl ?_
  refine sxc_seq ?_
  refine sxc_region ?_
  refine sxo_assign rfl rfl rfl ?_
  refine sxo_nil ?_
  refine sxq_next ?_
  refine sxc_seq ?_
  refine sxc_region ?_
  refine sxo_slit (vs := [.int .i64 0, .int .i64 1, .int .i64 2]) (ys := ([0, 1, 2] : List Int)) (eI_ok .i64) (by decide) rfl Try.underlying25 tf3 rfl rfl rfl rfl rfl (by decide) (fun a1 c2 => ?_)
  refine sxo_slit (vs := [.int .i64 2]) (ys := ([2] : List Int)) (eI_ok .i64) (by decide) rfl Try.underlying25 tf3 rfl rfl rfl rfl rfl (by decide) (fun a3 c4 => ?_)
  refine sxo_slit (vs := [.int .i64 0]) (ys := ([0] : List Int)) (eI_ok .i64) (by decide) rfl Try.underlying25 tf3 rfl rfl rfl rfl rfl (by decide) (fun a5 c6 => ?_)
  refine sxo_slit (vs := [.int .i64 2]) (ys := ([2] : List Int)) (eI_ok .i64) (by decide) rfl Try.underlying25 tf3 rfl rfl rfl rfl rfl (by decide) (fun a7 c8 => ?_)
  refine sxo_freeze 3 rfl ?_
  refine sxo_freeze 2 rfl ?_
  refine sxo_freeze 1 rfl ?_
  refine sxo_freeze 0 rfl ?_
  refine sxo_nilrow' Int (eI .i64) 3 1 ?_
  refine sxo_freeze 0 rfl ?_
  refine sxo_slit (vs := [.slice a1 ([0, 1, 2] : List Int).length c2, .slice a3 ([2] : List Int).length c4, .slice a5 ([0] : List Int).length c6, .slice a7 ([2] : List Int).length c8, .slice none 0 0]) (ys := ([(([0, 1, 2] : List Int), (a1, c2)), (([2] : List Int), (a3, c4)), (([0] : List Int), (a5, c6)), (([2] : List Int), (a7, c8)), (([] : List Int), (none, 0))] : List (List Int × (Option Addr × Nat)))) eN25_ok (by decide) rfl Try.underlying22 tf25 rfl rfl rfl rfl rfl (by decide) (fun a9 c10 => ?_)
  refine sxo_nestF (inn := iN25) ([([0, 1, 2] : List Int), ([2] : List Int), ([0] : List Int), ([2] : List Int), ([] : List Int)] : List (List Int)) ([(a1, c2), (a3, c4), (a5, c6), (a7, c8), (none, 0)] : List (Option Addr × Nat)) 0 rfl rfl (fk_cons 4 rfl (fk_cons 3 rfl (fk_cons 2 rfl (fk_cons 1 rfl (fk_cons 0 rfl fk_nil))))) ?_
  refine sxo_build (cells := [.slice a9 ([([0, 1, 2] : List Int), ([2] : List Int), ([0] : List Int), ([2] : List Int), ([] : List Int)] : List (List Int)).length c10]) rfl st24 rfl (by kernel_rfl) rfl ?_
  refine sxo_alloc rfl tf24 rfl (fun g11 => ?_)
  refine sxo_storeB (i := 0) rfl rfl rfl tf24 rfl rfl rfl rfl rfl ?_
  refine sxo_nil ?_
  refine sxq_next ?_
  refine sxc_seq ?_
  refine sxc_region ?_
  refine sxo_loadB (i := 0) rfl rfl tf24 rfl rfl (by simp) rfl rfl ?_
  refine sxo_call ent10 rfl rfl rfl (fun x12 e12 => C_core_Numbers F ([([0, 1, 2] : List Int), ([2] : List Int), ([0] : List Int), ([2] : List Int), ([] : List Int)] : List (List Int)) a9 (c10, ([(a1, c2), (a3, c4), (a5, c6), (a7, c8), (none, 0)] : List (Option Addr × Nat))) x12 e12) (.consF 0 rfl .nil) (fun x12 e12 => ?_)
  rintro ⟨a13, c14⟩
  refine sxo_move rfl rfl rfl ?_
  refine sxo_extract rfl rfl rfl rfl ?_
  refine sxo_extract rfl rfl rfl rfl ?_
  refine sxo_assign rfl rfl rfl ?_
  refine sxo_assign rfl rfl rfl ?_
  refine sxo_nil ?_
  refine sxq_next ?_
  refine sxc_seq ?_
  refine sxc_region ?_
  refine sxo_loadB (i := 0) rfl rfl tf24 rfl rfl (by simp) rfl rfl ?_
  refine sxo_callM ent11 rfl rfl rfl (fun x15 e15 => C_core_Threes F ([([0, 1, 2] : List Int), ([2] : List Int), ([0] : List Int), ([2] : List Int), ([] : List Int)] : List (List Int)) a9 (c10, ([(a1, c2), (a3, c4), (a5, c6), (a7, c8), (none, 0)] : List (Option Addr × Nat))) x15 e15) .nil .nil (.consF 0 rfl .nil) (fun x15 e15 => ?_)
  rintro ⟨a16, c17⟩
  refine sxo_move rfl rfl rfl ?_
  refine sxo_extract rfl rfl rfl rfl ?_
  refine sxo_extract rfl rfl rfl rfl ?_
  refine sxo_extract rfl rfl rfl rfl ?_
  refine sxo_assign rfl rfl rfl ?_
  refine sxo_assign rfl rfl rfl ?_
  refine sxo_assign rfl rfl rfl ?_
  refine sxo_nil ?_
  refine sxq_next ?_
  refine sxc_seq ?_
  refine sxc_region ?_
  refine sxo_loadB (i := 0) rfl rfl tf24 rfl rfl (by simp) rfl rfl ?_
  refine sxo_call ent12 rfl rfl rfl (fun x18 e18 => C_core_Pairs F ([([0, 1, 2] : List Int), ([2] : List Int), ([0] : List Int), ([2] : List Int), ([] : List Int)] : List (List Int)) a9 (c10, ([(a1, c2), (a3, c4), (a5, c6), (a7, c8), (none, 0)] : List (Option Addr × Nat))) x18 e18) (.consF 0 rfl .nil) (fun x18 e18 => ?_)
  rintro ⟨a19, c20⟩
  refine sxo_move rfl rfl rfl ?_
  refine sxo_extract rfl rfl rfl rfl ?_
  refine sxo_extract rfl rfl rfl rfl ?_
  refine sxo_assign rfl rfl rfl ?_
  refine sxo_assign rfl rfl rfl ?_
  refine sxo_nil ?_
  refine sxq_next ?_
  refine sxc_seq ?_
  refine sxc_region ?_
  refine sxo_move rfl rfl rfl ?_
  refine sxo_slit (vs := [.int .i64 2, .int .i64 2, .int .i64 2, .int .i64 1, .int .i64 0]) (ys := ([2, 2, 2, 1, 0] : List Int)) (eI_ok .i64) (by decide) rfl Try.underlying25 tf3 rfl rfl rfl rfl rfl (by decide) (fun a21 c22 => ?_)
  refine sxo_call ent18 rfl rfl rfl (fun x23 e23 => C_R_SameInts F x12.1 a13 c14 ([2, 2, 2, 1, 0] : List Int) a21 c22 x23 e23) (.consR 3 (Ro (eI .i64) 3 1 (.slice a13 x12.1.length c14) x12.1) rfl (.consR 0 (Ro (eI .i64) 3 1 (.slice a21 ([2, 2, 2, 1, 0] : List Int).length c22) ([2, 2, 2, 1, 0] : List Int)) rfl .nil)) (fun x23 e23 => ?_)
  intro _
  refine sxo_move rfl rfl rfl ?_
  refine sxo_case 3 x23 [(4, .slice a16 x15.1.length c17), (5, .int .i64 x15.2.1), (6, .int .i64 x15.2.2), (7, .slice a19 x18.1.length c20), (8, .int .i64 x18.2), (37, .bool (x23 && ((x12.2 : Int) == 0)))] (fun h24 => ?_) (fun h24 => ?_) ?_
  · refine sxo_take (os := _) rfl ?_
    refine sxo_isT (k := 34) rfl h24 ?_
    refine sxo_move rfl rfl rfl ?_
    refine sxo_eql rfl rfl rfl rfl ?_
    refine sxo_pick (b := true) rfl rfl rfl rfl ?_
    refine sxo_again (d := 37) (v := .bool (x23 && ((x12.2 : Int) == 0))) rfl (by rw [h24]; simp only [Bool.true_and]) ?_
    refine sxo_nil ?_
    exact sxq_case (lk_cons rfl (lk_cons rfl (lk_cons rfl (lk_cons rfl (lk_cons rfl (lk_cons rfl lk_nil))))))
  · refine sxo_take (os := _) rfl ?_
    refine sxo_isF (k := 34) rfl h24 ?_
    refine sxo_skip rfl rfl rfl ?_
    refine sxo_skip rfl rfl rfl ?_
    refine sxo_pick (b := false) rfl rfl rfl rfl ?_
    refine sxo_again (d := 37) (v := .bool (x23 && ((x12.2 : Int) == 0))) rfl (by rw [h24]; simp only [Bool.false_and]) ?_
    refine sxo_nil ?_
    exact sxq_case (lk_cons rfl (lk_cons rfl (lk_cons rfl (lk_cons rfl (lk_cons rfl (lk_cons rfl lk_nil))))))
  refine sxo_take (os := _) rfl ?_
  refine sxo_move rfl rfl rfl ?_
  refine sxo_join 4 (fun ((x29, _) : (Bool × Unit)) => [(5, .int .i64 x15.2.1), (6, .int .i64 x15.2.2), (7, .slice a19 x18.1.length c20), (8, .int .i64 x18.2), (42, .bool x29)]) (fun ((x29, _) : (Bool × Unit)) => []) (fun ((x29, _) : (Bool × Unit)) => [Ro (eI .i64) 3 1 (.slice a19 x18.1.length c20) x18.1]) (fun ((x29, _) : (Bool × Unit)) => []) (fun ((x29, _) : (Bool × Unit)) => M_L_coreBegun_j1 F x15 x18 x29) ?_ ?_
  · refine sxo_take (os := _) rfl ?_
    refine sxo_if (fun h25 => ?_) (fun h25 => ?_)
    · refine sxo_isT (k := 38) rfl h25 ?_
      refine sxo_move rfl rfl rfl ?_
      refine sxo_slit (vs := [.int .i64 1, .int .i64 1, .int .i64 1, .int .i64 0, .int .i64 0]) (ys := ([1, 1, 1, 0, 0] : List Int)) (eI_ok .i64) (by decide) rfl Try.underlying25 tf3 rfl rfl rfl rfl rfl (by decide) (fun a41 c42 => ?_)
      refine sxo_call ent18 rfl rfl rfl (fun x43 e43 => C_R_SameInts F x15.1 a16 c17 ([1, 1, 1, 0, 0] : List Int) a41 c42 x43 e43) (.consR 3 (Ro (eI .i64) 3 1 (.slice a16 x15.1.length c17) x15.1) rfl (.consR 0 (Ro (eI .i64) 3 1 (.slice a41 ([1, 1, 1, 0, 0] : List Int).length c42) ([1, 1, 1, 0, 0] : List Int)) rfl .nil)) (fun x43 e43 => ?_)
      intro _
      refine sxo_pick (b := true) rfl rfl rfl rfl ?_
      refine sxo_nil ?_
      exact sxq_meetP (x43, ()) (lk_cons rfl (lk_cons rfl (lk_cons rfl (lk_cons rfl (lk_cons rfl lk_nil))))) .nil (.cons 2 rfl .nil) fk_nil
    · refine sxo_isF (k := 38) rfl h25 ?_
      refine sxo_skip rfl rfl rfl ?_
      refine sxo_skip rfl rfl rfl ?_
      refine sxo_skip rfl rfl rfl ?_
      refine sxo_pick (b := false) rfl rfl rfl rfl ?_
      refine sxo_nil ?_
      exact sxq_meetP (false, ()) (lk_cons rfl (lk_cons rfl (lk_cons rfl (lk_cons rfl (lk_cons rfl lk_nil))))) .nil (.cons 1 rfl .nil) fk_nil
  · rintro ⟨x29, _⟩
    try dsimp only
    refine sxo_take (os := _) rfl ?_
    refine sxo_move rfl rfl rfl ?_
    refine sxo_case 3 x29 [(6, .int .i64 x15.2.2), (7, .slice a19 x18.1.length c20), (8, .int .i64 x18.2), (46, .bool (x29 && ((x15.2.1 : Int) == 1)))] (fun h30 => ?_) (fun h30 => ?_) ?_
    · refine sxo_take (os := _) rfl ?_
      refine sxo_isT (k := 43) rfl h30 ?_
      refine sxo_move rfl rfl rfl ?_
      refine sxo_eql rfl rfl rfl rfl ?_
      refine sxo_pick (b := true) rfl rfl rfl rfl ?_
      refine sxo_again (d := 46) (v := .bool (x29 && ((x15.2.1 : Int) == 1))) rfl (by rw [h30]; simp only [Bool.true_and]) ?_
      refine sxo_nil ?_
      exact sxq_case (lk_cons rfl (lk_cons rfl (lk_cons rfl (lk_cons rfl lk_nil))))
    · refine sxo_take (os := _) rfl ?_
      refine sxo_isF (k := 43) rfl h30 ?_
      refine sxo_skip rfl rfl rfl ?_
      refine sxo_skip rfl rfl rfl ?_
      refine sxo_pick (b := false) rfl rfl rfl rfl ?_
      refine sxo_again (d := 46) (v := .bool (x29 && ((x15.2.1 : Int) == 1))) rfl (by rw [h30]; simp only [Bool.false_and]) ?_
      refine sxo_nil ?_
      exact sxq_case (lk_cons rfl (lk_cons rfl (lk_cons rfl (lk_cons rfl lk_nil))))
    refine sxo_take (os := _) rfl ?_
    refine sxo_move rfl rfl rfl ?_
    refine sxo_case 3 (x29 && ((x15.2.1 : Int) == 1)) [(7, .slice a19 x18.1.length c20), (8, .int .i64 x18.2), (50, .bool ((x29 && ((x15.2.1 : Int) == 1)) && ((x15.2.2 : Int) == 0)))] (fun h31 => ?_) (fun h31 => ?_) ?_
    · refine sxo_take (os := _) rfl ?_
      refine sxo_isT (k := 47) rfl h31 ?_
      refine sxo_move rfl rfl rfl ?_
      refine sxo_eql rfl rfl rfl rfl ?_
      refine sxo_pick (b := true) rfl rfl rfl rfl ?_
      refine sxo_again (d := 50) (v := .bool ((x29 && ((x15.2.1 : Int) == 1)) && ((x15.2.2 : Int) == 0))) rfl (by rw [h31]; simp only [Bool.true_and]) ?_
      refine sxo_nil ?_
      exact sxq_case (lk_cons rfl (lk_cons rfl (lk_cons rfl lk_nil)))
    · refine sxo_take (os := _) rfl ?_
      refine sxo_isF (k := 47) rfl h31 ?_
      refine sxo_skip rfl rfl rfl ?_
      refine sxo_skip rfl rfl rfl ?_
      refine sxo_pick (b := false) rfl rfl rfl rfl ?_
      refine sxo_again (d := 50) (v := .bool ((x29 && ((x15.2.1 : Int) == 1)) && ((x15.2.2 : Int) == 0))) rfl (by rw [h31]; simp only [Bool.false_and]) ?_
      refine sxo_nil ?_
      exact sxq_case (lk_cons rfl (lk_cons rfl (lk_cons rfl lk_nil)))
    refine sxo_take (os := _) rfl ?_
    refine sxo_move rfl rfl rfl ?_
    refine sxo_join 4 (fun ((x36, _) : (Bool × Unit)) => [(8, .int .i64 x18.2), (55, .bool x36)]) (fun ((x36, _) : (Bool × Unit)) => []) (fun ((x36, _) : (Bool × Unit)) => []) (fun ((x36, _) : (Bool × Unit)) => []) (fun ((x36, _) : (Bool × Unit)) => M_L_coreBegun_j2 F x18 x36) ?_ ?_
    · refine sxo_take (os := _) rfl ?_
      refine sxo_if (fun h32 => ?_) (fun h32 => ?_)
      · refine sxo_isT (k := 51) rfl h32 ?_
        refine sxo_move rfl rfl rfl ?_
        refine sxo_slit (vs := [.int .i64 1, .int .i64 0, .int .i64 3, .int .i64 2, .int .i64 (-1)]) (ys := ([1, 0, 3, 2, -1] : List Int)) (eI_ok .i64) (by decide) rfl Try.underlying25 tf3 rfl rfl rfl rfl rfl (by decide) (fun a38 c39 => ?_)
        refine sxo_call ent18 rfl rfl rfl (fun x40 e40 => C_R_SameInts F x18.1 a19 c20 ([1, 0, 3, 2, -1] : List Int) a38 c39 x40 e40) (.consR 1 (Ro (eI .i64) 3 1 (.slice a19 x18.1.length c20) x18.1) rfl (.consR 0 (Ro (eI .i64) 3 1 (.slice a38 ([1, 0, 3, 2, -1] : List Int).length c39) ([1, 0, 3, 2, -1] : List Int)) rfl .nil)) (fun x40 e40 => ?_)
        intro _
        refine sxo_pick (b := true) rfl rfl rfl rfl ?_
        refine sxo_nil ?_
        exact sxq_meetP (x40, ()) (lk_cons rfl (lk_cons rfl lk_nil)) .nil .nil fk_nil
      · refine sxo_isF (k := 51) rfl h32 ?_
        refine sxo_skip rfl rfl rfl ?_
        refine sxo_skip rfl rfl rfl ?_
        refine sxo_skip rfl rfl rfl ?_
        refine sxo_pick (b := false) rfl rfl rfl rfl ?_
        refine sxo_nil ?_
        exact sxq_meetP (false, ()) (lk_cons rfl (lk_cons rfl lk_nil)) .nil .nil fk_nil
    · rintro ⟨x36, _⟩
      try dsimp only
      refine sxo_take (os := _) rfl ?_
      refine sxo_move rfl rfl rfl ?_
      refine sxo_case 3 x36 [(59, .bool (x36 && ((x18.2 : Int) == 0)))] (fun h37 => ?_) (fun h37 => ?_) ?_
      · refine sxo_take (os := _) rfl ?_
        refine sxo_isT (k := 56) rfl h37 ?_
        refine sxo_move rfl rfl rfl ?_
        refine sxo_eql rfl rfl rfl rfl ?_
        refine sxo_pick (b := true) rfl rfl rfl rfl ?_
        refine sxo_again (d := 59) (v := .bool (x36 && ((x18.2 : Int) == 0))) rfl (by rw [h37]; simp only [Bool.true_and]) ?_
        refine sxo_nil ?_
        exact sxq_case (lk_cons rfl lk_nil)
      · refine sxo_take (os := _) rfl ?_
        refine sxo_isF (k := 56) rfl h37 ?_
        refine sxo_skip rfl rfl rfl ?_
        refine sxo_skip rfl rfl rfl ?_
        refine sxo_pick (b := false) rfl rfl rfl rfl ?_
        refine sxo_again (d := 59) (v := .bool (x36 && ((x18.2 : Int) == 0))) rfl (by rw [h37]; simp only [Bool.false_and]) ?_
        refine sxo_nil ?_
        exact sxq_case (lk_cons rfl lk_nil)
      refine sxo_take (os := _) rfl ?_
      refine sxo_assign rfl rfl rfl ?_
      refine sxo_nil ?_
      refine sxq_next ?_
      refine sxc_ret ?_
      exact sxq_doneP () (.inl rfl) (res1 rfl rfl) (fun h => by subst h; rfl) (fun h => by subst h; exact .nil)

theorem C_slices_AppendSeq_api_Arc_api_Arc_graph_All_1 (F : Nat) (x1 : List (Int × Int)) (a2 : Option Addr) (c3 : Nat) (g4 : Nat) (x5 : List (List Int)) (a6 : Option Addr) (c7 : (Nat × List (Option Addr × Nat))) (r : List (Int × Int)) (hm : M_slices_AppendSeq_api_Arc_api_Arc_graph_All_1 F x1 x5 = some r) :
    PureM Try.prog 54 [.slice a2 x1.length c3, .func (.func 55) #[] #[.pointer (some ⟨g4, 0, none⟩)]] [⟨g4, 24, [.slice a6 x5.length c7.1]⟩] [Ro eS44 44 2 (.slice a2 x1.length c3) x1] [SlN eN25 iN25 1 (.slice a6 x5.length c7.1) x5 c7.2] (Option Addr × Nat) (fun g => .slice g.1 r.length g.2) (fun _ => [⟨g4, 24, [.slice a6 x5.length c7.1]⟩]) (fun g => [Ro eS44 44 2 (.slice g.1 r.length g.2) r]) := by
  refine pureX_of Try.func54 rfl Try.ntmps54 rfl hm (fun w => ?_)
  refine sxc_env (l' := [(0, .slice a2 x1.length c3), (1, .func (.func 55) #[] #[.pointer (some ⟨g4, 0, none⟩)])]) rfl ?_
  refine sxc_seq ?_
  refine sxc_region ?_
  refine sxo_box rfl rfl rfl (fun g8 => ?_)
  refine sxo_assign rfl rfl rfl ?_
  refine sxo_nil ?_
  refine sxq_next ?_
  refine sxc_seq ?_
  refine sxc_seq ?_
  refine sxc_region ?_
  refine sxo_move rfl rfl rfl ?_
  refine sxo_nil ?_
  refine sxq_next ?_
  refine sxc_block ?_
  refine sxc_range (encs := (fun (p : (Int × Int)) => [.agg #[.int .i64 p.1, .int .i64 p.2]])) (y := (fun (x46 : List (Int × Int)) ((x55, x56) : (Int × Int)) => M_slices_AppendSeq_api_Arc_api_Arc_graph_All_1_r2 F x46 x55 x56)) (lb := [.pointer (some ⟨g4, 0, none⟩)]) (fun (x46 : List (Int × Int)) ((a44, c45) : (Option Addr × Nat)) => [⟨g8, 45, [.slice a44 x46.length c45]⟩]) (fun (x46 : List (Int × Int)) ((a44, c45) : (Option Addr × Nat)) => [Ro eS44 44 2 (.slice a44 x46.length c45) x46]) (fun (_ : Empty) (_ : Unit) => []) (fun (_ : Empty) (_ : Unit) => []) (fun _ => .skip) x1 (a2, c3) rfl ent55 (fun _ => rfl) rfl (.cons 1 rfl .nil) (.cons 0 rfl .nil) (.cons 0 rfl .nil) (.consF 0 rfl .nil) (fun z hz _ _ _ hY => C_graph_All_1 F hY x1 (a2, c3) g4 x5 a6 c7 z hz) ?_ ?_ ?_
  · rintro rc1 L1 D1 x46 ⟨a44, c45⟩ ⟨x55, x56⟩ z w M _
    try dsimp only
    refine sxc_less [(0, .slice a2 x1.length c3), (1, .func (.func 55) #[] #[.pointer (some ⟨g4, 0, none⟩)]), (2, .pointer (some ⟨g8, 0, none⟩)), (4, .slice none 0 0), (6, .func (.func 55) #[] #[.pointer (some ⟨g4, 0, none⟩)]), (7, .agg #[.int .i64 x55, .int .i64 x56])] (lk_cons rfl (lk_cons rfl (lk_cons rfl (lk_cons rfl (lk_cons rfl (lk_cons rfl lk_nil)))))) ?_
    refine sxc_region ?_
    refine sxo_alloc rfl tf44 rfl (fun g57 => ?_)
    refine sxo_storeB (i := 0) rfl rfl rfl tf44 rfl rfl rfl rfl rfl ?_
    refine sxo_nil ?_
    refine sxq_begin (i := 2) rfl ?_
    refine sxc_block ?_
    refine sxc_region ?_
    refine sxo_loadB (i := 1) rfl rfl tf45 rfl rfl (fun _ => rfl) rfl rfl ?_
    refine sxo_loadB (i := 0) rfl rfl tf44 rfl rfl (by simp) rfl rfl ?_
    refine sxo_slit (vs := [.agg #[.int .i64 x55, .int .i64 x56]]) (ys := ([(x55, x56)] : List (Int × Int))) eS44_ok (by decide) rfl Try.underlying45 tf44 rfl rfl rfl rfl rfl (by decide) (fun a58 c59 => ?_)
    refine sxo_app 1 eS44_ok rfl Try.underlying45 tf44 rfl rfl rfl rfl rfl (.inl ⟨0, _, rfl⟩) rfl rfl (fun x60 e60 a61 c62 => ?_)
    refine sxo_storeB (i := 1) rfl rfl rfl tf45 rfl rfl rfl rfl rfl ?_
    refine sxo_nil ?_
    refine sxq_blkN ?_
    exact sxq_round (rc := rc1) rfl (.cons 2 rfl .nil) rfl (a61, c62) (.cons 2 rfl (.cons 0 rfl (.cons 1 rfl .nil))) (.cons 0 rfl .nil)
  · rintro x46 _ ⟨a44, c45⟩ D1
    try dsimp only
    refine sxq_blkN ?_
    refine sxq_next ?_
    refine sxc_seq ?_
    refine sxc_region ?_
    refine sxo_loadB (i := 2) rfl rfl tf45 rfl rfl (fun _ => rfl) rfl rfl ?_
    refine sxo_assign rfl rfl rfl ?_
    refine sxo_nil ?_
    refine sxq_next ?_
    refine sxc_ret ?_
    exact sxq_doneX [D1] (a44, c45) (.inl rfl) rfl (.cons 0 rfl .nil) (res1 rfl rfl) (fun h => by subst h; rfl) (fun h => by subst h; exact (.cons 0 rfl .nil)) (fun h => by subst h; exact (.cons 0 rfl .nil))
  · intro t; exact t.elim

theorem C_slices_Collect_api_Arc_graph_All_1 (F : Nat) (g1 : Nat) (x2 : List (List Int)) (a3 : Option Addr) (c4 : (Nat × List (Option Addr × Nat))) (r : List (Int × Int)) (hm : M_slices_Collect_api_Arc_graph_All_1 F x2 = some r) :
    PureM Try.prog 35 [.func (.func 55) #[] #[.pointer (some ⟨g1, 0, none⟩)]] [⟨g1, 24, [.slice a3 x2.length c4.1]⟩] [] [SlN eN25 iN25 1 (.slice a3 x2.length c4.1) x2 c4.2] (Option Addr × Nat) (fun g => .slice g.1 r.length g.2) (fun _ => [⟨g1, 24, [.slice a3 x2.length c4.1]⟩]) (fun g => [Ro eS44 44 2 (.slice g.1 r.length g.2) r]) := by
  refine pureM_of Try.func35 rfl Try.ntmps35 rfl hm (fun w => ?_)
  refine sxc_env (l' := [(0, .func (.func 55) #[] #[.pointer (some ⟨g1, 0, none⟩)])]) rfl ?_
  refine sxc_seq ?_
  refine sxc_region ?_
  refine sxo_assign rfl rfl rfl ?_
  refine sxo_nil ?_
  refine sxq_next ?_
  refine sxc_seq ?_
  refine sxc_region ?_
  refine sxo_move rfl rfl rfl ?_
  refine sxo_nilrow' (Int × Int) eS44 44 2 ?_
  refine sxo_callM ent54 rfl rfl rfl (fun x5 e5 => C_slices_AppendSeq_api_Arc_api_Arc_graph_All_1 F ([] : List (Int × Int)) none 0 g1 x2 a3 c4 x5 e5) (.cons 0 rfl .nil) (.cons 0 rfl .nil) (.consF 0 rfl .nil) (fun x5 e5 => ?_)
  rintro ⟨a6, c7⟩
  refine sxo_assign rfl rfl rfl ?_
  refine sxo_nil ?_
  refine sxq_next ?_
  refine sxc_ret ?_
  exact sxq_doneM (a6, c7) (.inl rfl) (res1 rfl rfl) (fun h => by subst h; rfl) (fun h => by subst h; exact (.cons 0 rfl .nil)) (fun h => by subst h; exact (.cons 0 rfl .nil))

theorem C_graph_Arcs (F : Nat) (x1 : List (List Int)) (a2 : Option Addr) (c3 : (Nat × List (Option Addr × Nat))) (r : (List (Int × Int) × Int)) (hm : M_graph_Arcs F x1 = some r) :
    Pure Try.prog 21 [.agg #[.slice a2 x1.length c3.1]] [SlN eN25 iN25 1 (.slice a2 x1.length c3.1) x1 c3.2] (Option Addr × Nat) (fun g => .tuple #[.slice g.1 r.1.length g.2, .int .i64 r.2]) (fun g => [Ro eS44 44 2 (.slice g.1 r.1.length g.2) r.1]) (fun _ => []) := by
  refine pure_of Try.func21 rfl Try.ntmps21 rfl hm (fun w => ?_)
  refine sxc_env (l' := [(0, .agg #[.slice a2 x1.length c3.1])]) rfl ?_
  refine sxc_seq ?_
  refine sxc_region ?_
  refine sxo_box rfl rfl rfl (fun g4 => ?_)
  refine sxo_assign rfl rfl rfl ?_
  refine sxo_assign rfl rfl rfl ?_
  refine sxo_nil ?_
  refine sxq_next ?_
  refine sxc_seq ?_
  refine sxc_seq ?_
  refine sxc_region ?_
  refine sxo_loadB (i := 0) rfl rfl tf24 rfl rfl (by simp) rfl rfl ?_
  refine sxo_call ent25 rfl rfl rfl (fun x7 e7 => C_graph_Check F x1 a2 c3 x7 e7) (.consF 0 rfl .nil) (fun x7 e7 => ?_)
  intro _
  refine sxo_assign rfl rfl rfl ?_
  refine sxo_nil ?_
  refine sxq_next ?_
  refine sxc_seq ?_
  refine sxc_region ?_
  refine sxo_move rfl rfl rfl ?_
  refine sxo_neq rfl rfl rfl rfl ?_
  refine sxo_nil ?_
  refine sxq_next ?_
  refine sxc_if rfl (fun h13 => ?_) (fun h13 => ?_)
  · refine sxc_seq ?_
    refine sxc_region ?_
    refine sxo_move rfl rfl rfl ?_
    refine sxo_assign rfl rfl rfl ?_
    refine sxo_assign rfl rfl rfl ?_
    refine sxo_nil ?_
    refine sxq_next ?_
    refine sxc_ret ?_
    refine sxq_thenR ?_
    refine sxq_nilrow (Int × Int) eS44 44 2 ?_
    exact sxq_doneP (none, 0) (.inl rfl) (res2 rfl rfl rfl) (fun h => by subst h; rfl) (fun h => by subst h; exact (.cons 0 rfl .nil))
  · refine sxc_skip ?_
    refine sxq_next ?_
    refine sxc_seq ?_
    refine sxc_region ?_
    refine sxo_loadB (i := 0) rfl rfl tf24 rfl rfl (by simp) rfl rfl ?_
    refine sxo_callM ent36 rfl rfl rfl (fun x8 e8 => C_graph_All F x1 a2 c3 x8 e8) .nil .nil (.consF 0 rfl .nil) (fun x8 e8 => ?_)
    rintro g9
    refine sxo_callM ent35 rfl rfl rfl (fun x10 e10 => C_slices_Collect_api_Arc_graph_All_1 F g9 x1 a2 c3 x10 e10) (.cons 0 rfl .nil) .nil (.consF 0 rfl .nil) (fun x10 e10 => ?_)
    rintro ⟨a11, c12⟩
    refine sxo_assign rfl rfl rfl ?_
    refine sxo_assign rfl rfl rfl ?_
    refine sxo_nil ?_
    refine sxq_next ?_
    refine sxc_ret ?_
    exact sxq_doneP (a11, c12) (.inl rfl) (res2 rfl rfl rfl) (fun h => by subst h; rfl) (fun h => by subst h; exact (.cons 0 rfl .nil))

theorem C_graph_Built (F : Nat) (x1 : Int) (x2 : List (Int × Int)) (a3 : Option Addr) (c4 : Nat) (r : List (List Int)) (hm : M_graph_Built F x1 x2 = some r) :
    Pure Try.prog 41 [.int .i64 x1, .slice a3 x2.length c4] [Sl eS44 2 (.slice a3 x2.length c4) x2] (Option Addr × (Nat × List (Option Addr × Nat))) (fun g => .agg #[.slice g.1 r.length g.2.1]) (fun g => [RoN eN25 rN25 25 1 (.slice g.1 r.length g.2.1) r g.2.2 []]) (fun _ => []) := by
  refine pure_of Try.func41 rfl Try.ntmps41 rfl hm (fun w => ?_)
  refine sxc_env (l' := [(0, .int .i64 x1), (1, .slice a3 x2.length c4)]) rfl ?_
  refine sxc_seq ?_
  refine sxc_region ?_
  refine sxo_alloc rfl tf24 rfl (fun g5 => ?_)
  refine sxo_nil ?_
  refine sxq_next ?_
  refine sxc_seq ?_
  refine sxc_region ?_
  refine sxo_move rfl rfl rfl ?_
  refine sxo_mkN (rin := rN25) (y := ([] : List Int)) (q := ((none, 0) : Option Addr × Nat)) eN25_ok (by decide) rN25_nil rfl Try.underlying22 tf25 rfl rfl rfl rfl rfl rfl (fun x6 e6 a7 c8 => ?_)
  refine sxo_build (cells := [.slice a7 x6.length c8]) rfl st24 rfl (by kernel_rfl) rfl ?_
  refine sxo_alloc rfl tf24 rfl (fun g9 => ?_)
  refine sxo_storeB (i := 0) rfl rfl rfl tf24 rfl rfl rfl rfl rfl ?_
  refine sxo_nil ?_
  refine sxq_next ?_
  refine sxc_join (fun ((x171, g170) : (List (List Int) × List (Option Addr × Nat))) => [(4, .pointer (some ⟨g5, 0, none⟩)), (5, .pointer (some ⟨g9, 0, none⟩))]) (fun ((x171, g170) : (List (List Int) × List (Option Addr × Nat))) => [⟨g9, 24, [.slice a7 x171.length c8]⟩, ⟨g5, 24, [.slice none 0 0]⟩]) (fun ((x171, g170) : (List (List Int) × List (Option Addr × Nat))) => [RoN eN25 rN25 25 1 (.slice a7 x171.length c8) x171 g170 []]) (fun ((x171, g170) : (List (List Int) × List (Option Addr × Nat))) => []) (fun ((x171, _) : (List (List Int) × List (Option Addr × Nat))) => M_graph_Built_j2 F x171) ?_ ?_
  · refine sxc_seq ?_
    refine sxc_region ?_
    refine sxo_move rfl rfl rfl ?_
    refine sxo_len rfl Try.underlying45 rfl rfl ?_
    refine sxo_move rfl rfl rfl ?_
    refine sxo_nil ?_
    refine sxq_next ?_
    refine sxc_block ?_
    refine sxc_loopP (fun (((x224, x226), g225) : ((Int × List (List Int)) × List (Option Addr × Nat))) => [(4, .pointer (some ⟨g5, 0, none⟩)), (5, .pointer (some ⟨g9, 0, none⟩)), (11, .slice a3 x2.length c4), (12, .int .i64 (x2.length : Int)), (13, .int .i64 x224)]) (fun (((x224, x226), g225) : ((Int × List (List Int)) × List (Option Addr × Nat))) => [⟨g9, 24, [.slice a7 x226.length c8]⟩, ⟨g5, 24, [.slice none 0 0]⟩]) (fun (((x224, x226), g225) : ((Int × List (List Int)) × List (Option Addr × Nat))) => [RoN eN25 rN25 25 1 (.slice a7 x226.length c8) x226 g225 []]) (fun (((x224, x226), g225) : ((Int × List (List Int)) × List (Option Addr × Nat))) => [Sl eS44 2 (.slice a3 x2.length c4) x2]) (fun k (s : ((Int × List (List Int)) × List (Option Addr × Nat))) => M_graph_Built_l3 F x2 k s.1) ((0, x6), (List.replicate x6.length ((none, 0) : Option Addr × Nat))) F (lk_cons rfl (lk_cons rfl (lk_cons rfl (lk_cons rfl (lk_cons rfl lk_nil))))) (.cons 0 rfl (.cons 0 rfl .nil)) (.cons 0 rfl .nil) (fk_cons 0 rfl fk_nil) (fun _ => rfl) ?_
    intro k279
    rintro ⟨⟨x224, x226⟩, g225⟩
    try dsimp only
    refine sxc_meq (m' := M_graph_Built_b3 F x2 (M_graph_Built_l3 F x2 k279) x224 x226) rfl ?_
    refine sxc_seq ?_
    refine sxc_region ?_
    refine sxo_lss rfl rfl rfl rfl ?_
    refine sxo_nil ?_
    refine sxq_next ?_
    refine sxc_seq ?_
    refine sxc_if rfl (fun h331 => ?_) (fun h331 => ?_)
    · refine sxc_skip ?_
      refine sxq_next ?_
      refine sxc_seq ?_
      refine sxc_block ?_
      refine sxc_seq ?_
      refine sxc_region ?_
      refine sxo_indexF (j := 0) eS44_ok (by decide) rfl Try.underlying45 tf44 rfl rfl rfl rfl (fun x306 e306 b307 o308 => ?_)
      refine sxo_loadF (j := 0) rfl rfl tf44 rfl rfl (by simp) rfl rfl ?_
      refine sxo_alloc rfl tf44 rfl (fun g309 => ?_)
      refine sxo_storeB (i := 0) rfl rfl rfl tf44 rfl rfl rfl rfl rfl ?_
      refine sxo_nil ?_
      refine sxq_next ?_
      refine sxc_idxP (j := 0) rfl (fun x310 e310 g311 h312 g313 h314 => ?_)
      replace h314 : a7 = some ⟨g313, 0, none⟩ := h314
      have h315 := own_of (k := x226.length) (c := c8) h314
      refine sxc_openN (i := 0) rfl h312 (List.not_mem_nil) ?_
      refine sxc_idxP (j := 1) rfl (fun x316 e316 g317 h318 g319 h320 => ?_)
      replace h320 : a7 = some ⟨g319, 0, none⟩ := h320
      have h321 := own_of (k := x226.length) (c := c8) h320
      refine sxb_draw mixed [15] [⟨g309, 44, [.int .i64 x306.1, .int .i64 x306.2]⟩, ⟨g9, 24, [.slice a7 x226.length c8]⟩, ⟨g5, 24, [.slice none 0 0]⟩] [CellsAt b307 o308 (eS44 x306), Sl eS44 2 (.slice a3 x2.length c4) x2, CellsAt g313 (x306.1.toNat * 1) (eN25 (x310, g311)), CellsAt g319 (x306.1.toNat * 1) (eN25 (x316, g317))] (.cons 0 rfl (.cons 0 rfl (.cons 0 rfl .nil))) (gk_F 0 rfl (gk_F 1 rfl (gk_R 1 rfl (at_rowN eN25_ok h312 h314) (gk_R 1 rfl (at_rowN eN25_ok h318 h320) gk_nil)))) 16 rfl ?_
      refine sxb_takeP 0 (.pointer (some ⟨g9, 0, none⟩)) rfl rfl rfl rfl (by kernel_rfl) (by kernel_rfl) (by kernel_rfl) (by kernel_rfl) (by kernel_rfl) rfl (show _ = #[true, false, false, false, false, false, false, false, false, false, false, false, false, false, false, false] from rfl) (yv_fieldAddr rfl ff24_0) ?_
      refine sxb_takeB 1 (.slice a7 x226.length c8) rfl rfl rfl rfl (by kernel_rfl) (by kernel_rfl) (by kernel_rfl) (by kernel_rfl) (by kernel_rfl) rfl (show _ = #[true, true, false, false, false, false, false, false, false, false, false, false, false, false, false, false] from rfl) (yv_loadB (i := 1) rfl tf22 rfl rfl (fun _ => rfl) rfl) ?_
      refine sxb_takeP 2 (.pointer (some ⟨g309, 0, none⟩)) rfl rfl rfl rfl (by kernel_rfl) (by kernel_rfl) (by kernel_rfl) (by kernel_rfl) (by kernel_rfl) rfl (show _ = #[true, true, true, false, false, false, false, false, false, false, false, false, false, false, false, false] from rfl) (yv_fieldAddr rfl ff44_0) ?_
      refine sxb_takeB 3 (.int .i64 x306.1) rfl rfl rfl rfl (by kernel_rfl) (by kernel_rfl) (by kernel_rfl) (by kernel_rfl) (by kernel_rfl) rfl (show _ = #[true, true, true, true, false, false, false, false, false, false, false, false, false, false, false, false] from rfl) (yv_loadB (i := 0) rfl tf3 rfl rfl (fun _ => rfl) rfl) ?_
      refine sxb_takeP 4 (.pointer (some ⟨g9, 0, none⟩)) rfl rfl rfl rfl (by kernel_rfl) (by kernel_rfl) (by kernel_rfl) (by kernel_rfl) (by kernel_rfl) rfl (show _ = #[true, true, true, true, true, false, false, false, false, false, false, false, false, false, false, false] from rfl) (yv_fieldAddr rfl ff24_0) ?_
      refine sxb_takeB 5 (.slice a7 x226.length c8) rfl rfl rfl rfl (by kernel_rfl) (by kernel_rfl) (by kernel_rfl) (by kernel_rfl) (by kernel_rfl) rfl (show _ = #[true, true, true, true, true, true, false, false, false, false, false, false, false, false, false, false] from rfl) (yv_loadB (i := 1) rfl tf22 rfl rfl (fun _ => rfl) rfl) ?_
      refine sxb_takeP 6 (.pointer (some ⟨g309, 0, none⟩)) rfl rfl rfl rfl (by kernel_rfl) (by kernel_rfl) (by kernel_rfl) (by kernel_rfl) (by kernel_rfl) rfl (show _ = #[true, true, true, true, true, true, true, false, false, false, false, false, false, false, false, false] from rfl) (yv_fieldAddr rfl ff44_0) ?_
      refine sxb_takeB 7 (.int .i64 x306.1) rfl rfl rfl rfl (by kernel_rfl) (by kernel_rfl) (by kernel_rfl) (by kernel_rfl) (by kernel_rfl) rfl (show _ = #[true, true, true, true, true, true, true, true, false, false, false, false, false, false, false, false] from rfl) (yv_loadB (i := 0) rfl tf3 rfl rfl (fun _ => rfl) rfl) ?_
      refine sxb_again (d := 22) (v := .slice (some ⟨g313, 0, none⟩) x226.length c8) rfl (by rw [h314] <;> rfl) ?_
      refine sxb_takeP 8 (.pointer (some ⟨g313, x306.1.toNat * 1, none⟩)) rfl rfl rfl rfl (by kernel_rfl) (by kernel_rfl) (by kernel_rfl) (by kernel_rfl) (by kernel_rfl) rfl (show _ = #[true, true, true, true, true, true, true, true, true, false, false, false, false, false, false, false] from rfl) (yv_idxO Try.underlying22 tf25 rfl rfl (idx_get e310).1 (idx_lt e310)) ?_
      refine sxb_again (d := 22) (v := .slice a7 x226.length c8) rfl (by rw [h314] <;> rfl) ?_
      refine sxb_take 9 (.slice g311.1 x310.length g311.2) [[15]] rfl rfl rfl rfl (by kernel_rfl) (by kernel_rfl) (by kernel_rfl) (by kernel_rfl) (by kernel_rfl) (by kernel_rfl) rfl (show _ = #[true, true, true, true, true, true, true, true, true, true, false, false, false, false, false, false] from rfl) (yv_loadF (j := 2) rfl tf25 rfl rfl (fun _ => rfl) rfl) ?_
      refine sxb_takeP 10 (.pointer (some ⟨g309, 1, none⟩)) rfl rfl rfl rfl (by kernel_rfl) (by kernel_rfl) (by kernel_rfl) (by kernel_rfl) (by kernel_rfl) rfl (show _ = #[true, true, true, true, true, true, true, true, true, true, true, false, false, false, false, false] from rfl) (yv_fieldAddr rfl ff44_1) ?_
      refine sxb_takeB 11 (.int .i64 x306.2) rfl rfl rfl rfl (by kernel_rfl) (by kernel_rfl) (by kernel_rfl) (by kernel_rfl) (by kernel_rfl) rfl (show _ = #[true, true, true, true, true, true, true, true, true, true, true, true, false, false, false, false] from rfl) (yv_loadB (i := 0) rfl tf3 rfl rfl (fun _ => rfl) rfl) ?_
      refine sxb_step 12 rfl (by kernel_rfl) (show _ = #[true, true, true, true, true, true, true, true, true, true, true, true, true, false, false, false] from rfl) ?_
      refine sxo_slit (vs := [.int .i64 x306.2]) (ys := ([x306.2] : List Int)) (eI_ok .i64) (by decide) rfl Try.underlying25 tf3 rfl rfl rfl rfl rfl (by decide) (fun a322 c323 => ?_)
      refine sxo_nil ?_
      refine sxq_anyB (.cons 0 rfl (.cons 0 rfl (.cons 0 rfl .nil))) (gk_F 0 rfl (gk_F 1 rfl (gk_R 2 rfl (at_rowN eN25_ok h312 h314) (gk_R 2 rfl (at_rowN eN25_ok h318 h320) gk_nil)))) ?_
      refine sxb_step 13 rfl (by kernel_rfl) (show _ = #[true, true, true, true, true, true, true, true, true, true, true, true, true, true, false, false] from rfl) ?_
      refine sxo_app 1 (eI_ok .i64) rfl Try.underlying25 tf3 rfl rfl rfl rfl rfl (.inl ⟨0, _, rfl⟩) rfl rfl (fun x324 e324 a325 c326 => ?_)
      refine sxo_nil ?_
      refine sxq_anyB (.cons 0 rfl (.cons 0 rfl (.cons 0 rfl .nil))) (gk_F 0 rfl (gk_F 1 rfl (gk_R 2 rfl (at_rowN eN25_ok h312 h314) (gk_R 2 rfl (at_rowN eN25_ok h318 h320) gk_nil)))) ?_
      refine sxb_again (d := 18) (v := .slice (some ⟨g319, 0, none⟩) x226.length c8) rfl (by rw [h320] <;> rfl) ?_
      refine sxb_takeP 14 (.pointer (some ⟨g319, x306.1.toNat * 1, none⟩)) rfl rfl rfl rfl (by kernel_rfl) (by kernel_rfl) (by kernel_rfl) (by kernel_rfl) (by kernel_rfl) rfl (show _ = #[true, true, true, true, true, true, true, true, true, true, true, true, true, true, true, false] from rfl) (yv_idxO Try.underlying22 tf25 rfl rfl (idx_get e316).1 (idx_lt e316)) ?_
      refine sxb_again (d := 18) (v := .slice a7 x226.length c8) rfl (by rw [h320] <;> rfl) ?_
      refine sxb_step 15 rfl (by kernel_rfl) (show _ = #[true, true, true, true, true, true, true, true, true, true, true, true, true, true, true, true] from rfl) ?_
      refine sxo_storeC (j := 2) (kh := 0) (y' := x324) (q' := (a325, c326)) eN25_ok rfl rfl rfl tf25 rfl (own_of h320) rfl (idx_get e316).2.1 rfl (.cons 0 rfl .nil) (fun x327 e327 h328 g330 => ?_)
      have h329 : x327.length = x226.length := by rw [← e327, List.length_set]
      refine sxo_again (d := 18) (v := .slice a7 x327.length c8) rfl (by rw [h328] <;> rfl) ?_
      refine sxo_again (d := 22) (v := .slice a7 x327.length c8) rfl (by rw [h328] <;> rfl) ?_
      refine sxo_blkAgain (i := 1) (cs' := [.slice a7 x327.length c8]) rfl (by rw [h328] <;> rfl) ?_
      refine sxo_nil ?_
      refine sxq_anyW 15 rfl rfl (.cons 0 rfl (.cons 0 (by rw [h329]; rfl) (.cons 0 rfl .nil))) ?_
      refine sxb_done (by kernel_rfl) ?_
      refine sxq_np ?_ (by intro c h; cases h)
      refine sxq_blkN ?_
      refine sxq_next ?_
      refine sxc_region ?_
      refine sxo_add rfl rfl rfl rfl ?_
      refine sxo_move rfl rfl rfl ?_
      refine sxo_nil ?_
      exact sxq_againP ((iadd .i64 x224 1, x327), g330) (lk_cons rfl (lk_cons rfl (lk_cons rfl (lk_cons rfl (lk_cons rfl lk_nil))))) (.cons 1 rfl (.cons 1 rfl .nil)) (.cons 0 rfl .nil) (fk_cons 1 rfl fk_nil)
    · refine sxc_exit ?_
      refine sxq_thenX ?_
      refine sxq_thenX ?_
      refine sxq_blkX ?_
      exact sxq_meetP (x226, g225) (lk_cons rfl (lk_cons rfl lk_nil)) (.cons 0 rfl (.cons 0 rfl .nil)) (.cons 0 rfl .nil) fk_nil
  · rintro ⟨x171, g170⟩
    try dsimp only
    refine sxc_seq ?_
    refine sxc_region ?_
    refine sxo_loadB (i := 0) rfl rfl tf24 rfl rfl (by simp) rfl rfl ?_
    refine sxo_storeB (i := 1) rfl rfl rfl tf24 rfl rfl rfl rfl rfl ?_
    refine sxo_nil ?_
    refine sxq_next ?_
    refine sxc_ret ?_
    exact sxq_doneP (a7, (c8, g170)) (.inl rfl) (resL (rs := [.cell 4 24]) rfl (.cell (i := 1) rfl tf24 rfl rfl (by simp) rfl ResOk.nil) rfl) (fun h => by subst h; rfl) (fun h => by subst h; exact (.cons 0 rfl .nil))

theorem C_slices_Values_api_Arc_api_Arc (F : Nat) (x1 : List (Int × Int)) (a2 : Option Addr) (c3 : Nat) (r : Unit) (hm : M_slices_Values_api_Arc_api_Arc F x1 = some r) :
    PureM Try.prog 43 [.slice a2 x1.length c3] [] [] [Sl eS44 2 (.slice a2 x1.length c3) x1] Nat (fun g => .func (.func 56) #[] #[.pointer (some ⟨g, 0, none⟩)]) (fun g => [⟨g, 45, [.slice a2 x1.length c3]⟩]) (fun _ => []) := by
  refine pureM_of Try.func43 rfl Try.ntmps43 rfl hm (fun w => ?_)
  refine sxc_env (l' := [(0, .slice a2 x1.length c3)]) rfl ?_
  refine sxc_seq ?_
  refine sxc_region ?_
  refine sxo_box rfl rfl rfl (fun g4 => ?_)
  refine sxo_assign rfl rfl rfl ?_
  refine sxo_nil ?_
  refine sxq_next ?_
  refine sxc_seq ?_
  refine sxc_region ?_
  refine sxo_makeFunc rfl rfl rfl ?_
  refine sxo_assign rfl rfl rfl ?_
  refine sxo_nil ?_
  refine sxq_next ?_
  refine sxc_ret ?_
  exact sxq_doneM g4 (.inl rfl) (res1 rfl rfl) (fun h => by subst h; rfl) (fun h => by subst h; exact (.cons 0 rfl .nil)) (fun h => by subst h; exact .nil)

theorem C_cmp_Or_int (F : Nat) (x1 : List Int) (a2 : Option Addr) (c3 : Nat) (r : Int) (hm : M_cmp_Or_int F x1 = some r) :
    Pure Try.prog 57 [.slice a2 x1.length c3] [Sl (eI .i64) 1 (.slice a2 x1.length c3) x1] Unit (fun _ => .int .i64 r) (fun _ => []) (fun _ => []) := by
  refine pure_of Try.func57 rfl Try.ntmps57 rfl hm (fun w => ?_)
  refine sxc_env (l' := [(0, .slice a2 x1.length c3)]) rfl ?_
  refine sxc_seq ?_
  refine sxc_region ?_
  refine sxo_assign rfl rfl rfl ?_
  refine sxo_nil ?_
  refine sxq_next ?_
  refine sxc_seq ?_
  refine sxc_region ?_
  refine sxo_assign rfl rfl rfl ?_
  refine sxo_nil ?_
  refine sxq_next ?_
  refine sxc_join (fun ((_, _) : (Unit × Unit)) => [(3, .int .i64 0)]) (fun ((_, _) : (Unit × Unit)) => []) (fun ((_, _) : (Unit × Unit)) => []) (fun ((_, _) : (Unit × Unit)) => []) (fun ((_, _) : (Unit × Unit)) => M_cmp_Or_int_j2 F) ?_ ?_
  · refine sxc_seq ?_
    refine sxc_region ?_
    refine sxo_move rfl rfl rfl ?_
    refine sxo_len rfl Try.underlying25 rfl rfl ?_
    refine sxo_move rfl rfl rfl ?_
    refine sxo_nil ?_
    refine sxq_next ?_
    refine sxc_block ?_
    refine sxc_loopP (fun ((x46, _) : (Int × Unit)) => [(3, .int .i64 0), (6, .slice a2 x1.length c3), (7, .int .i64 (x1.length : Int)), (8, .int .i64 x46)]) (fun ((x46, _) : (Int × Unit)) => []) (fun ((x46, _) : (Int × Unit)) => []) (fun ((x46, _) : (Int × Unit)) => [Sl (eI .i64) 1 (.slice a2 x1.length c3) x1]) (fun k (s : (Int × Unit)) => M_cmp_Or_int_l3 F x1 k s.1) (0, ()) F (lk_cons rfl (lk_cons rfl (lk_cons rfl (lk_cons rfl lk_nil)))) .nil .nil (fk_cons 0 rfl fk_nil) (fun _ => rfl) ?_
    intro k57
    rintro ⟨x46, _⟩
    try dsimp only
    refine sxc_meq (m' := M_cmp_Or_int_b3 F x1 (M_cmp_Or_int_l3 F x1 k57) x46) rfl ?_
    refine sxc_seq ?_
    refine sxc_region ?_
    refine sxo_lss rfl rfl rfl rfl ?_
    refine sxo_nil ?_
    refine sxq_next ?_
    refine sxc_seq ?_
    refine sxc_if rfl (fun h67 => ?_) (fun h67 => ?_)
    · refine sxc_skip ?_
      refine sxq_next ?_
      refine sxc_seq ?_
      refine sxc_block ?_
      refine sxc_seq ?_
      refine sxc_region ?_
      refine sxo_indexF (j := 0) (eI_ok .i64) (by decide) rfl Try.underlying25 tf3 rfl rfl rfl rfl (fun x63 e63 b64 o65 => ?_)
      refine sxo_loadF (j := 0) rfl rfl tf3 rfl rfl (fun _ => rfl) rfl rfl ?_
      refine sxo_assign rfl rfl rfl ?_
      refine sxo_nil ?_
      refine sxq_next ?_
      refine sxc_seq ?_
      refine sxc_region ?_
      refine sxo_move rfl rfl rfl ?_
      refine sxo_move rfl rfl rfl ?_
      refine sxo_neq rfl rfl rfl rfl ?_
      refine sxo_nil ?_
      refine sxq_next ?_
      refine sxc_if rfl (fun h66 => ?_) (fun h66 => ?_)
      · refine sxc_seq ?_
        refine sxc_region ?_
        refine sxo_move rfl rfl rfl ?_
        refine sxo_assign rfl rfl rfl ?_
        refine sxo_nil ?_
        refine sxq_next ?_
        refine sxc_ret ?_
        refine sxq_blkR ?_
        refine sxq_thenR ?_
        refine sxq_thenR ?_
        refine sxq_blkR ?_
        refine sxq_thenR ?_
        exact sxq_doneP () (.inl rfl) (res1 rfl rfl) (fun h => by subst h; rfl) (fun h => by subst h; exact .nil)
      · refine sxc_skip ?_
        refine sxq_blkN ?_
        refine sxq_next ?_
        refine sxc_region ?_
        refine sxo_add rfl rfl rfl rfl ?_
        refine sxo_move rfl rfl rfl ?_
        refine sxo_nil ?_
        exact sxq_againP (iadd .i64 x46 1, ()) (lk_cons rfl (lk_cons rfl (lk_cons rfl (lk_cons rfl lk_nil)))) .nil .nil (fk_cons 1 rfl fk_nil)
    · refine sxc_exit ?_
      refine sxq_thenX ?_
      refine sxq_thenX ?_
      refine sxq_blkX ?_
      exact sxq_meetP ((), ()) (lk_cons rfl lk_nil) .nil .nil fk_nil
  · rintro ⟨_, _⟩
    try dsimp only
    refine sxc_seq ?_
    refine sxc_region ?_
    refine sxo_move rfl rfl rfl ?_
    refine sxo_assign rfl rfl rfl ?_
    refine sxo_nil ?_
    refine sxq_next ?_
    refine sxc_ret ?_
    exact sxq_doneP () (.inl rfl) (res1 rfl rfl) (fun h => by subst h; rfl) (fun h => by subst h; exact .nil)

theorem C_cmp_Compare_int (F : Nat) (x1 : Int) (x2 : Int) (r : Int) (hm : M_cmp_Compare_int F x1 x2 = some r) :
    Pure Try.prog 58 [.int .i64 x1, .int .i64 x2] [] Unit (fun _ => .int .i64 r) (fun _ => []) (fun _ => []) := by
  refine pure_of Try.func58 rfl Try.ntmps58 rfl hm (fun w => ?_)
  refine sxc_env (l' := [(0, .int .i64 x1), (1, .int .i64 x2)]) rfl ?_
  refine sxc_seq ?_
  refine sxc_region ?_
  refine sxo_assign rfl rfl rfl ?_
  refine sxo_nil ?_
  refine sxq_next ?_
  refine sxc_seq ?_
  refine sxc_region ?_
  refine sxo_move rfl rfl rfl ?_
  refine sxo_call ent66 rfl rfl rfl (fun x3 e3 => C_cmp_isNaN_int F x1 x3 e3) .nil (fun x3 e3 => ?_)
  intro _
  refine sxo_assign rfl rfl rfl ?_
  refine sxo_nil ?_
  refine sxq_next ?_
  refine sxc_seq ?_
  refine sxc_region ?_
  refine sxo_move rfl rfl rfl ?_
  refine sxo_call ent66 rfl rfl rfl (fun x4 e4 => C_cmp_isNaN_int F x2 x4 e4) .nil (fun x4 e4 => ?_)
  intro _
  refine sxo_assign rfl rfl rfl ?_
  refine sxo_nil ?_
  refine sxq_next ?_
  refine sxc_seq ?_
  refine sxc_seq ?_
  refine sxc_region ?_
  refine sxo_move rfl rfl rfl ?_
  refine sxo_nil ?_
  refine sxq_next ?_
  refine sxc_if rfl (fun h16 => ?_) (fun h16 => ?_)
  · refine sxc_seq ?_
    refine sxc_seq ?_
    refine sxc_region ?_
    refine sxo_move rfl rfl rfl ?_
    refine sxo_nil ?_
    refine sxq_next ?_
    refine sxc_if rfl (fun h9 => ?_) (fun h9 => ?_)
    · refine sxc_seq ?_
      refine sxc_region ?_
      refine sxo_assign rfl rfl rfl ?_
      refine sxo_nil ?_
      refine sxq_next ?_
      refine sxc_ret ?_
      refine sxq_thenR ?_
      refine sxq_thenR ?_
      exact sxq_doneP () (.inl rfl) (res1 rfl rfl) (fun h => by subst h; rfl) (fun h => by subst h; exact .nil)
    · refine sxc_skip ?_
      refine sxq_next ?_
      refine sxc_seq ?_
      refine sxc_region ?_
      refine sxo_assign rfl rfl rfl ?_
      refine sxo_nil ?_
      refine sxq_next ?_
      refine sxc_ret ?_
      refine sxq_thenR ?_
      exact sxq_doneP () (.inl rfl) (res1 rfl rfl) (fun h => by subst h; rfl) (fun h => by subst h; exact .nil)
  · refine sxc_skip ?_
    refine sxq_next ?_
    refine sxc_seq ?_
    refine sxc_seq ?_
    refine sxc_region ?_
    refine sxo_move rfl rfl rfl ?_
    refine sxo_nil ?_
    refine sxq_next ?_
    refine sxc_if rfl (fun h15 => ?_) (fun h15 => ?_)
    · refine sxc_seq ?_
      refine sxc_region ?_
      refine sxo_assign rfl rfl rfl ?_
      refine sxo_nil ?_
      refine sxq_next ?_
      refine sxc_ret ?_
      refine sxq_thenR ?_
      exact sxq_doneP () (.inl rfl) (res1 rfl rfl) (fun h => by subst h; rfl) (fun h => by subst h; exact .nil)
    · refine sxc_skip ?_
      refine sxq_next ?_
      refine sxc_seq ?_
      refine sxc_seq ?_
      refine sxc_region ?_
      refine sxo_move rfl rfl rfl ?_
      refine sxo_move rfl rfl rfl ?_
      refine sxo_lss rfl rfl rfl rfl ?_
      refine sxo_nil ?_
      refine sxq_next ?_
      refine sxc_if rfl (fun h14 => ?_) (fun h14 => ?_)
      · refine sxc_seq ?_
        refine sxc_region ?_
        refine sxo_assign rfl rfl rfl ?_
        refine sxo_nil ?_
        refine sxq_next ?_
        refine sxc_ret ?_
        refine sxq_thenR ?_
        exact sxq_doneP () (.inl rfl) (res1 rfl rfl) (fun h => by subst h; rfl) (fun h => by subst h; exact .nil)
      · refine sxc_skip ?_
        refine sxq_next ?_
        refine sxc_seq ?_
        refine sxc_seq ?_
        refine sxc_region ?_
        refine sxo_move rfl rfl rfl ?_
        refine sxo_move rfl rfl rfl ?_
        refine sxo_gtr rfl rfl rfl rfl ?_
        refine sxo_nil ?_
        refine sxq_next ?_
        refine sxc_if rfl (fun h13 => ?_) (fun h13 => ?_)
        · refine sxc_seq ?_
          refine sxc_region ?_
          refine sxo_assign rfl rfl rfl ?_
          refine sxo_nil ?_
          refine sxq_next ?_
          refine sxc_ret ?_
          refine sxq_thenR ?_
          exact sxq_doneP () (.inl rfl) (res1 rfl rfl) (fun h => by subst h; rfl) (fun h => by subst h; exact .nil)
        · refine sxc_skip ?_
          refine sxq_next ?_
          refine sxc_seq ?_
          refine sxc_region ?_
          refine sxo_assign rfl rfl rfl ?_
          refine sxo_nil ?_
          refine sxq_next ?_
          refine sxc_ret ?_
          exact sxq_doneP () (.inl rfl) (res1 rfl rfl) (fun h => by subst h; rfl) (fun h => by subst h; exact .nil)

theorem C_graph_order (F : Nat) (x1 : Int) (x2 : Int) (x3 : Int) (x4 : Int) (r : Int) (hm : M_graph_order F x1 x2 x3 x4 = some r) :
    Pure Try.prog 44 [.agg #[.int .i64 x1, .int .i64 x2], .agg #[.int .i64 x3, .int .i64 x4]] [] Unit (fun _ => .int .i64 r) (fun _ => []) (fun _ => []) := by
  refine pure_of Try.func44 rfl Try.ntmps44 rfl hm (fun w => ?_)
  refine sxc_env (l' := [(0, .agg #[.int .i64 x1, .int .i64 x2]), (1, .agg #[.int .i64 x3, .int .i64 x4])]) rfl ?_
  refine sxc_seq ?_
  refine sxc_region ?_
  refine sxo_box rfl rfl rfl (fun g5 => ?_)
  refine sxo_box rfl rfl rfl (fun g6 => ?_)
  refine sxo_assign rfl rfl rfl ?_
  refine sxo_nil ?_
  refine sxq_next ?_
  refine sxc_seq ?_
  refine sxb_draw mixed [] [⟨g6, 44, [.int .i64 x3, .int .i64 x4]⟩, ⟨g5, 44, [.int .i64 x1, .int .i64 x2]⟩] [] (.cons 0 rfl (.cons 0 rfl .nil)) gk_nil 13 rfl ?_
  refine sxb_takeP 0 (.pointer (some ⟨g5, 0, none⟩)) rfl rfl rfl rfl (by kernel_rfl) (by kernel_rfl) (by kernel_rfl) (by kernel_rfl) (by kernel_rfl) rfl (show _ = #[true, false, false, false, false, false, false, false, false, false, false, false, false] from rfl) (yv_fieldAddr rfl ff44_0) ?_
  refine sxb_takeB 1 (.int .i64 x1) rfl rfl rfl rfl (by kernel_rfl) (by kernel_rfl) (by kernel_rfl) (by kernel_rfl) (by kernel_rfl) rfl (show _ = #[true, true, false, false, false, false, false, false, false, false, false, false, false] from rfl) (yv_loadB (i := 1) rfl tf3 rfl rfl (fun _ => rfl) rfl) ?_
  refine sxb_takeP 2 (.pointer (some ⟨g6, 0, none⟩)) rfl rfl rfl rfl (by kernel_rfl) (by kernel_rfl) (by kernel_rfl) (by kernel_rfl) (by kernel_rfl) rfl (show _ = #[true, true, true, false, false, false, false, false, false, false, false, false, false] from rfl) (yv_fieldAddr rfl ff44_0) ?_
  refine sxb_takeB 3 (.int .i64 x3) rfl rfl rfl rfl (by kernel_rfl) (by kernel_rfl) (by kernel_rfl) (by kernel_rfl) (by kernel_rfl) rfl (show _ = #[true, true, true, true, false, false, false, false, false, false, false, false, false] from rfl) (yv_loadB (i := 0) rfl tf3 rfl rfl (fun _ => rfl) rfl) ?_
  refine sxb_takeP 5 (.pointer (some ⟨g5, 1, none⟩)) rfl rfl rfl rfl (by kernel_rfl) (by kernel_rfl) (by kernel_rfl) (by kernel_rfl) (by kernel_rfl) rfl (show _ = #[true, true, true, true, false, true, false, false, false, false, false, false, false] from rfl) (yv_fieldAddr rfl ff44_1) ?_
  refine sxb_takeB 6 (.int .i64 x2) rfl rfl rfl rfl (by kernel_rfl) (by kernel_rfl) (by kernel_rfl) (by kernel_rfl) (by kernel_rfl) rfl (show _ = #[true, true, true, true, false, true, true, false, false, false, false, false, false] from rfl) (yv_loadB (i := 1) rfl tf3 rfl rfl (fun _ => rfl) rfl) ?_
  refine sxb_takeP 7 (.pointer (some ⟨g6, 1, none⟩)) rfl rfl rfl rfl (by kernel_rfl) (by kernel_rfl) (by kernel_rfl) (by kernel_rfl) (by kernel_rfl) rfl (show _ = #[true, true, true, true, false, true, true, true, false, false, false, false, false] from rfl) (yv_fieldAddr rfl ff44_1) ?_
  refine sxb_takeB 8 (.int .i64 x4) rfl rfl rfl rfl (by kernel_rfl) (by kernel_rfl) (by kernel_rfl) (by kernel_rfl) (by kernel_rfl) rfl (show _ = #[true, true, true, true, false, true, true, true, true, false, false, false, false] from rfl) (yv_loadB (i := 0) rfl tf3 rfl rfl (fun _ => rfl) rfl) ?_
  refine sxb_step 4 rfl (by kernel_rfl) (show _ = #[true, true, true, true, true, true, true, true, true, false, false, false, false] from rfl) ?_
  refine sxo_call ent58 rfl rfl rfl (fun x12 e12 => C_cmp_Compare_int F x1 x3 x12 e12) .nil (fun x12 e12 => ?_)
  intro _
  refine sxo_nil ?_
  refine sxq_anyB (.cons 0 rfl (.cons 0 rfl .nil)) gk_nil ?_
  refine sxb_step 9 rfl (by kernel_rfl) (show _ = #[true, true, true, true, true, true, true, true, true, true, false, false, false] from rfl) ?_
  refine sxo_call ent58 rfl rfl rfl (fun x13 e13 => C_cmp_Compare_int F x2 x4 x13 e13) .nil (fun x13 e13 => ?_)
  intro _
  refine sxo_nil ?_
  refine sxq_anyB (.cons 0 rfl (.cons 0 rfl .nil)) gk_nil ?_
  refine sxb_step 10 rfl (by kernel_rfl) (show _ = #[true, true, true, true, true, true, true, true, true, true, true, false, false] from rfl) ?_
  refine sxo_slit (vs := [.int .i64 x12, .int .i64 x13]) (ys := ([x12, x13] : List Int)) (eI_ok .i64) (by decide) rfl Try.underlying25 tf3 rfl rfl rfl rfl rfl (by decide) (fun a14 c15 => ?_)
  refine sxo_nil ?_
  refine sxq_anyB (.cons 0 rfl (.cons 0 rfl .nil)) gk_nil ?_
  refine sxb_step 11 rfl (by kernel_rfl) (show _ = #[true, true, true, true, true, true, true, true, true, true, true, true, false] from rfl) ?_
  refine sxo_call ent57 rfl rfl rfl (fun x16 e16 => C_cmp_Or_int F ([x12, x13] : List Int) a14 c15 x16 e16) (.consR 0 (Ro (eI .i64) 3 1 (.slice a14 ([x12, x13] : List Int).length c15) ([x12, x13] : List Int)) rfl .nil) (fun x16 e16 => ?_)
  intro _
  refine sxo_nil ?_
  refine sxq_anyB (.cons 0 rfl (.cons 0 rfl .nil)) gk_nil ?_
  refine sxb_takeP 12 (.int .i64 x16) rfl rfl rfl rfl (by kernel_rfl) (by kernel_rfl) (by kernel_rfl) (by kernel_rfl) (by kernel_rfl) rfl (show _ = #[true, true, true, true, true, true, true, true, true, true, true, true, true] from rfl) (yv_pv rfl) ?_
  refine sxb_done (by kernel_rfl) ?_
  refine sxq_np ?_ (by intro c h; cases h)
  refine sxq_next ?_
  refine sxc_ret ?_
  exact sxq_doneP () (.inl rfl) (res1 rfl rfl) (fun h => by subst h; rfl) (fun h => by subst h; exact .nil)

theorem C_slices_Values_api_Arc_api_Arc_1 (F : Nat) {σ τ : Type} {J : Rounds σ τ} {yy : σ → (Int × Int) → Option (σ ⊕ τ)} {L : Nat} (hY : YieldC Try.prog L (fun (p : (Int × Int)) => [.agg #[.int .i64 p.1, .int .i64 p.2]]) J yy) (s0 : σ) (gs0 : J.γ) (g1 : Nat) (x2 : List (Int × Int)) (a3 : Option Addr) (c4 : Nat) (r : σ ⊕ τ) (hm : M_slices_Values_api_Arc_api_Arc_1 F yy x2 s0 = some r) :
    PureM Try.prog 56 ([.func (.yield L) #[] #[], .pointer (some ⟨g1, 0, none⟩)]) ([⟨g1, 45, [.slice a3 x2.length c4]⟩] ++ J.IB s0 gs0) (J.IR s0 gs0) [J.F, Sl eS44 2 (.slice a3 x2.length c4) x2] (J.G r) (fun _ => .tuple #[]) (fun g => [⟨g1, 45, [.slice a3 x2.length c4]⟩] ++ J.bs r g) (fun g => J.rs r g) := by
  refine pureM_of Try.func56 rfl Try.ntmps56 rfl hm (fun w => ?_)
  refine sxc_env (l' := [(0, .func (.yield L) #[] #[]), (1, .pointer (some ⟨g1, 0, none⟩))]) rfl ?_
  refine sxc_seq ?_
  refine sxc_region ?_
  refine sxo_loadB (i := 0) rfl rfl tf45 rfl rfl (fun _ => rfl) rfl rfl ?_
  refine sxo_len rfl Try.underlying45 rfl rfl ?_
  refine sxo_move rfl rfl rfl ?_
  refine sxo_nil ?_
  refine sxq_next ?_
  refine sxc_block ?_
  refine sxc_loopP (fun (((x23, x24), g25) : ((Int × σ) × J.γ)) => [(0, .func (.yield L) #[] #[]), (5, .slice a3 x2.length c4), (6, .int .i64 (x2.length : Int)), (7, .int .i64 x23)]) (fun (((x23, x24), g25) : ((Int × σ) × J.γ)) => [⟨g1, 45, [.slice a3 x2.length c4]⟩] ++ J.IB x24 g25) (fun (((x23, x24), g25) : ((Int × σ) × J.γ)) => [] ++ J.IR x24 g25) (fun (((x23, x24), g25) : ((Int × σ) × J.γ)) => [Sl eS44 2 (.slice a3 x2.length c4) x2, J.F]) (fun k (s : ((Int × σ) × J.γ)) => M_slices_Values_api_Arc_api_Arc_1_l1 F yy x2 k s.1) ((0, s0), gs0) F (lk_cons rfl (lk_cons rfl (lk_cons rfl (lk_cons rfl lk_nil)))) (.cons 0 rfl (pick_rest 0 rfl)) (pick_rest 0 rfl) (fk_cons 1 rfl (fk_cons 0 rfl fk_nil)) (fun _ => rfl) ?_
  intro k44
  rintro ⟨⟨x23, x24⟩, g25⟩
  try dsimp only
  refine sxc_meq (m' := M_slices_Values_api_Arc_api_Arc_1_b1 F yy x2 (M_slices_Values_api_Arc_api_Arc_1_l1 F yy x2 k44) x23 x24) rfl ?_
  refine sxc_seq ?_
  refine sxc_region ?_
  refine sxo_lss rfl rfl rfl rfl ?_
  refine sxo_nil ?_
  refine sxq_next ?_
  refine sxc_seq ?_
  refine sxc_if rfl (fun h62 => ?_) (fun h62 => ?_)
  · refine sxc_skip ?_
    refine sxq_next ?_
    refine sxc_seq ?_
    refine sxc_block ?_
    refine sxc_seq ?_
    refine sxc_region ?_
    refine sxo_indexF (j := 0) eS44_ok (by decide) rfl Try.underlying45 tf44 rfl rfl rfl rfl (fun x54 e54 b55 o56 => ?_)
    refine sxo_loadF (j := 0) rfl rfl tf44 rfl rfl (by simp) rfl rfl ?_
    refine sxo_alloc rfl tf44 rfl (fun g57 => ?_)
    refine sxo_storeB (i := 0) rfl rfl rfl tf44 rfl rfl rfl rfl rfl ?_
    refine sxo_nil ?_
    refine sxq_next ?_
    refine sxc_seq ?_
    refine sxc_region ?_
    refine sxo_move rfl rfl rfl ?_
    refine sxo_loadB (i := 0) rfl rfl tf44 rfl rfl (by simp) rfl rfl ?_
    refine sxo_yield hY x24 (x54.1, x54.2) g25 (B1 := [⟨g57, 44, [.int .i64 x54.1, .int .i64 x54.2]⟩, ⟨g1, 45, [.slice a3 x2.length c4]⟩]) (R1 := []) (j := 2) rfl rfl rfl rfl rfl rfl rfl (fun x58 _ g60 => ?_) (fun x59 _ g60 => ?_)
    · refine sxo_not rfl rfl rfl ?_
      refine sxo_nil ?_
      refine sxq_next ?_
      refine sxc_cond (b := false) rfl (fun h => by cases h) (fun _ => ?_)
      refine sxc_skip ?_
      refine sxq_blkN ?_
      refine sxq_next ?_
      refine sxc_region ?_
      refine sxo_add rfl rfl rfl rfl ?_
      refine sxo_move rfl rfl rfl ?_
      refine sxo_nil ?_
      exact sxq_againP ((iadd .i64 x23 1, x58), g60) (lk_cons rfl (lk_cons rfl (lk_cons rfl (lk_cons rfl lk_nil)))) (.cons 1 rfl (pick_rest 1 rfl)) (pick_rest 0 rfl) (fk_cons 1 rfl (fk_cons 2 rfl fk_nil))
    · refine sxo_not rfl rfl rfl ?_
      refine sxo_nil ?_
      refine sxq_next ?_
      refine sxc_cond (b := true) rfl (fun _ => ?_) (fun h => by cases h)
      refine sxc_ret ?_
      refine sxq_blkR ?_
      refine sxq_thenR ?_
      refine sxq_thenR ?_
      refine sxq_blkR ?_
      exact sxq_doneI (B0 := [⟨g1, 45, [.slice a3 x2.length c4]⟩]) (x := .inr x59) g60 (.inl rfl) (res0 rfl) (.cons 1 rfl (pick_rest 1 rfl)) (pick_rest 0 rfl)
  · refine sxc_exit ?_
    refine sxq_thenX ?_
    refine sxq_thenX ?_
    refine sxq_blkX ?_
    exact sxq_doneI (B0 := [⟨g1, 45, [.slice a3 x2.length c4]⟩]) (x := .inl x24) g25 (.inr rfl) (res0 rfl) (.cons 0 rfl (pick_rest 0 rfl)) (pick_rest 0 rfl)

theorem C_slices_AppendSeq_api_Arc_api_Arc_slices_Values_api_Arc_api_Arc_1 (F : Nat) (x1 : List (Int × Int)) (a2 : Option Addr) (c3 : Nat) (g4 : Nat) (x5 : List (Int × Int)) (a6 : Option Addr) (c7 : Nat) (r : List (Int × Int)) (hm : M_slices_AppendSeq_api_Arc_api_Arc_slices_Values_api_Arc_api_Arc_1 F x1 x5 = some r) :
    PureM Try.prog 54 [.slice a2 x1.length c3, .func (.func 56) #[] #[.pointer (some ⟨g4, 0, none⟩)]] [⟨g4, 45, [.slice a6 x5.length c7]⟩] [Ro eS44 44 2 (.slice a2 x1.length c3) x1] [Sl eS44 2 (.slice a6 x5.length c7) x5] (Option Addr × Nat) (fun g => .slice g.1 r.length g.2) (fun _ => [⟨g4, 45, [.slice a6 x5.length c7]⟩]) (fun g => [Ro eS44 44 2 (.slice g.1 r.length g.2) r]) := by
  refine pureX_of Try.func54 rfl Try.ntmps54 rfl hm (fun w => ?_)
  refine sxc_env (l' := [(0, .slice a2 x1.length c3), (1, .func (.func 56) #[] #[.pointer (some ⟨g4, 0, none⟩)])]) rfl ?_
  refine sxc_seq ?_
  refine sxc_region ?_
  refine sxo_box rfl rfl rfl (fun g8 => ?_)
  refine sxo_assign rfl rfl rfl ?_
  refine sxo_nil ?_
  refine sxq_next ?_
  refine sxc_seq ?_
  refine sxc_seq ?_
  refine sxc_region ?_
  refine sxo_move rfl rfl rfl ?_
  refine sxo_nil ?_
  refine sxq_next ?_
  refine sxc_block ?_
  refine sxc_range (encs := (fun (p : (Int × Int)) => [.agg #[.int .i64 p.1, .int .i64 p.2]])) (y := (fun (x46 : List (Int × Int)) ((x55, x56) : (Int × Int)) => M_slices_AppendSeq_api_Arc_api_Arc_slices_Values_api_Arc_api_Arc_1_r2 F x46 x55 x56)) (lb := [.pointer (some ⟨g4, 0, none⟩)]) (fun (x46 : List (Int × Int)) ((a44, c45) : (Option Addr × Nat)) => [⟨g8, 45, [.slice a44 x46.length c45]⟩]) (fun (x46 : List (Int × Int)) ((a44, c45) : (Option Addr × Nat)) => [Ro eS44 44 2 (.slice a44 x46.length c45) x46]) (fun (_ : Empty) (_ : Unit) => []) (fun (_ : Empty) (_ : Unit) => []) (fun _ => .skip) x1 (a2, c3) rfl ent56 (fun _ => rfl) rfl (.cons 1 rfl .nil) (.cons 0 rfl .nil) (.cons 0 rfl .nil) (.consF 0 rfl .nil) (fun z hz _ _ _ hY => C_slices_Values_api_Arc_api_Arc_1 F hY x1 (a2, c3) g4 x5 a6 c7 z hz) ?_ ?_ ?_
  · rintro rc1 L1 D1 x46 ⟨a44, c45⟩ ⟨x55, x56⟩ z w M _
    try dsimp only
    refine sxc_less [(0, .slice a2 x1.length c3), (1, .func (.func 56) #[] #[.pointer (some ⟨g4, 0, none⟩)]), (2, .pointer (some ⟨g8, 0, none⟩)), (4, .slice none 0 0), (6, .func (.func 56) #[] #[.pointer (some ⟨g4, 0, none⟩)]), (7, .agg #[.int .i64 x55, .int .i64 x56])] (lk_cons rfl (lk_cons rfl (lk_cons rfl (lk_cons rfl (lk_cons rfl (lk_cons rfl lk_nil)))))) ?_
    refine sxc_region ?_
    refine sxo_alloc rfl tf44 rfl (fun g57 => ?_)
    refine sxo_storeB (i := 0) rfl rfl rfl tf44 rfl rfl rfl rfl rfl ?_
    refine sxo_nil ?_
    refine sxq_begin (i := 2) rfl ?_
    refine sxc_block ?_
    refine sxc_region ?_
    refine sxo_loadB (i := 1) rfl rfl tf45 rfl rfl (fun _ => rfl) rfl rfl ?_
    refine sxo_loadB (i := 0) rfl rfl tf44 rfl rfl (by simp) rfl rfl ?_
    refine sxo_slit (vs := [.agg #[.int .i64 x55, .int .i64 x56]]) (ys := ([(x55, x56)] : List (Int × Int))) eS44_ok (by decide) rfl Try.underlying45 tf44 rfl rfl rfl rfl rfl (by decide) (fun a58 c59 => ?_)
    refine sxo_app 1 eS44_ok rfl Try.underlying45 tf44 rfl rfl rfl rfl rfl (.inl ⟨0, _, rfl⟩) rfl rfl (fun x60 e60 a61 c62 => ?_)
    refine sxo_storeB (i := 1) rfl rfl rfl tf45 rfl rfl rfl rfl rfl ?_
    refine sxo_nil ?_
    refine sxq_blkN ?_
    exact sxq_round (rc := rc1) rfl (.cons 2 rfl .nil) rfl (a61, c62) (.cons 2 rfl (.cons 0 rfl (.cons 1 rfl .nil))) (.cons 0 rfl .nil)
  · rintro x46 _ ⟨a44, c45⟩ D1
    try dsimp only
    refine sxq_blkN ?_
    refine sxq_next ?_
    refine sxc_seq ?_
    refine sxc_region ?_
    refine sxo_loadB (i := 2) rfl rfl tf45 rfl rfl (fun _ => rfl) rfl rfl ?_
    refine sxo_assign rfl rfl rfl ?_
    refine sxo_nil ?_
    refine sxq_next ?_
    refine sxc_ret ?_
    exact sxq_doneX [D1] (a44, c45) (.inl rfl) rfl (.cons 0 rfl .nil) (res1 rfl rfl) (fun h => by subst h; rfl) (fun h => by subst h; exact (.cons 0 rfl .nil)) (fun h => by subst h; exact (.cons 0 rfl .nil))
  · intro t; exact t.elim

theorem C_slices_Collect_api_Arc_slices_Values_api_Arc_api_Arc_1 (F : Nat) (g1 : Nat) (x2 : List (Int × Int)) (a3 : Option Addr) (c4 : Nat) (r : List (Int × Int)) (hm : M_slices_Collect_api_Arc_slices_Values_api_Arc_api_Arc_1 F x2 = some r) :
    PureM Try.prog 35 [.func (.func 56) #[] #[.pointer (some ⟨g1, 0, none⟩)]] [⟨g1, 45, [.slice a3 x2.length c4]⟩] [] [Sl eS44 2 (.slice a3 x2.length c4) x2] (Option Addr × Nat) (fun g => .slice g.1 r.length g.2) (fun _ => [⟨g1, 45, [.slice a3 x2.length c4]⟩]) (fun g => [Ro eS44 44 2 (.slice g.1 r.length g.2) r]) := by
  refine pureM_of Try.func35 rfl Try.ntmps35 rfl hm (fun w => ?_)
  refine sxc_env (l' := [(0, .func (.func 56) #[] #[.pointer (some ⟨g1, 0, none⟩)])]) rfl ?_
  refine sxc_seq ?_
  refine sxc_region ?_
  refine sxo_assign rfl rfl rfl ?_
  refine sxo_nil ?_
  refine sxq_next ?_
  refine sxc_seq ?_
  refine sxc_region ?_
  refine sxo_move rfl rfl rfl ?_
  refine sxo_nilrow' (Int × Int) eS44 44 2 ?_
  refine sxo_callM ent54 rfl rfl rfl (fun x5 e5 => C_slices_AppendSeq_api_Arc_api_Arc_slices_Values_api_Arc_api_Arc_1 F ([] : List (Int × Int)) none 0 g1 x2 a3 c4 x5 e5) (.cons 0 rfl .nil) (.cons 0 rfl .nil) (.consF 0 rfl .nil) (fun x5 e5 => ?_)
  rintro ⟨a6, c7⟩
  refine sxo_assign rfl rfl rfl ?_
  refine sxo_nil ?_
  refine sxq_next ?_
  refine sxc_ret ?_
  exact sxq_doneM (a6, c7) (.inl rfl) (res1 rfl rfl) (fun h => by subst h; rfl) (fun h => by subst h; exact (.cons 0 rfl .nil)) (fun h => by subst h; exact (.cons 0 rfl .nil))

theorem C_slices_SortFunc_api_Arc_api_Arc_graph_order (F : Nat) (x1 : List (Int × Int)) (a2 : Option Addr) (c3 : Nat) (r : List (Int × Int)) (hm : M_slices_SortFunc_api_Arc_api_Arc_graph_order F x1 = some r) :
    PureM Try.prog 46 [.slice a2 x1.length c3, .func (.func 44) #[] #[]] [] [Ro eS44 44 2 (.slice a2 x1.length c3) x1] [] Unit (fun _ => .tuple #[]) (fun _ => []) (fun _ => [Ro eS44 44 2 (.slice a2 r.length c3) r]) :=
  sortf_pureM (cb := []) (BC := []) (Φ := []) eS44_ok (by decide) (sby46_44 _) (fun p cap w => Try.sortn46 p cap _ w) (fun a b z h => (C_graph_order F a.1 a.2 b.1 b.2 z h).toM) hm

theorem C_slices_SortedFunc_api_Arc_slices_Values_api_Arc_api_Arc_1_graph_order (F : Nat) (g1 : Nat) (x2 : List (Int × Int)) (a3 : Option Addr) (c4 : Nat) (r : List (Int × Int)) (hm : M_slices_SortedFunc_api_Arc_slices_Values_api_Arc_api_Arc_1_graph_order F x2 = some r) :
    PureM Try.prog 42 [.func (.func 56) #[] #[.pointer (some ⟨g1, 0, none⟩)], .func (.func 44) #[] #[]] [⟨g1, 45, [.slice a3 x2.length c4]⟩] [] [Sl eS44 2 (.slice a3 x2.length c4) x2] (Option Addr × Nat) (fun g => .slice g.1 r.length g.2) (fun _ => [⟨g1, 45, [.slice a3 x2.length c4]⟩]) (fun g => [Ro eS44 44 2 (.slice g.1 r.length g.2) r]) := by
  refine pureM_of Try.func42 rfl Try.ntmps42 rfl hm (fun w => ?_)
  refine sxc_env (l' := [(0, .func (.func 56) #[] #[.pointer (some ⟨g1, 0, none⟩)]), (1, .func (.func 44) #[] #[])]) rfl ?_
  refine sxc_seq ?_
  refine sxc_region ?_
  refine sxo_assign rfl rfl rfl ?_
  refine sxo_nil ?_
  refine sxq_next ?_
  refine sxc_seq ?_
  refine sxc_region ?_
  refine sxo_move rfl rfl rfl ?_
  refine sxo_callM ent35 rfl rfl rfl (fun x5 e5 => C_slices_Collect_api_Arc_slices_Values_api_Arc_api_Arc_1 F g1 x2 a3 c4 x5 e5) (.cons 0 rfl .nil) .nil (.consF 0 rfl .nil) (fun x5 e5 => ?_)
  rintro ⟨a6, c7⟩
  refine sxo_assign rfl rfl rfl ?_
  refine sxo_nil ?_
  refine sxq_next ?_
  refine sxc_seq ?_
  refine sxc_region ?_
  refine sxo_move rfl rfl rfl ?_
  refine sxo_move rfl rfl rfl ?_
  refine sxo_callM ent46 rfl rfl rfl (fun x8 e8 => C_slices_SortFunc_api_Arc_api_Arc_graph_order F x5 a6 c7 x8 e8) .nil (.cons 0 rfl .nil) .nil (fun x8 e8 => ?_)
  intro _
  refine sxo_chk (fun h9 => ?_)
  replace h9 := of_decide_eq_true h9
  refine sxo_again (d := 5) (v := .slice a6 x8.length c7) rfl (by rw [h9] <;> rfl) ?_
  refine sxo_again (d := 7) (v := .slice a6 x8.length c7) rfl (by rw [h9] <;> rfl) ?_
  refine sxo_again (d := 8) (v := .slice a6 x8.length c7) rfl (by rw [h9] <;> rfl) ?_
  refine sxo_nil ?_
  refine sxq_next ?_
  refine sxc_seq ?_
  refine sxc_region ?_
  refine sxo_move rfl rfl rfl ?_
  refine sxo_assign rfl rfl rfl ?_
  refine sxo_nil ?_
  refine sxq_next ?_
  refine sxc_ret ?_
  exact sxq_doneM (a6, c7) (.inl rfl) (res1 rfl rfl) (fun h => by subst h; rfl) (fun h => by subst h; exact (.cons 0 rfl .nil)) (fun h => by subst h; exact (.cons 0 rfl .nil))
end Go.Proofs.Ytdiabhkbchmpaaa
