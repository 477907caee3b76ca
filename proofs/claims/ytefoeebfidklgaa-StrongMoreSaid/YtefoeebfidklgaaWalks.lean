/- Each Go function of this seat computes what its model says. -/
import Derived.Test.YtefoeebfidklgaaRows
import Derived.Test.YtefoeebfidklgaaModels
import Derived.Test.YtefoeebfidklgaaShelf
namespace Go.Proofs.Ytefoeebfidklgaa
open Go SX
def eN25 (p : List Int × (Option Addr × Nat)) : List Value := [.slice p.2.1 p.1.length p.2.2]
def iN25 (p : List Int × (Option Addr × Nat)) : List (World → Prop) := [Sl (eI .i64) 1 (.slice p.2.1 p.1.length p.2.2) p.1]
theorem eN25_ok : EncOk eN25 1 := ⟨fun _ => rfl, fun _ => rfl⟩
def rN25 (p : List Int × (Option Addr × Nat)) : List RowF := [FoR (eI .i64) 3 1 (.slice p.2.1 p.1.length p.2.2) p.1]
theorem rN25_in : ∀ p, iN25 p = (rN25 p).map RowF.cells := fun _ => rfl
theorem rN25_nil : ∀ f ∈ rN25 (([] : List Int), ((none, 0) : Option Addr × Nat)), f.v = .slice none 0 0 ∧ f.n = 0 ∧ f.cs = [] := by simp [rN25, FoR]
def eS48 (p : (Int × Int)) : List Value := [.int .i64 p.1, .int .i64 p.2]
theorem eS48_ok : EncOk eS48 2 := ⟨fun _ => rfl, fun _ => rfl⟩
theorem tf3 : TyF Try.prog 3 false (.int .i64 0) 1 8 := .of (by kernel_rfl) (by kernel_rfl)
theorem tf22 : TyF Try.prog 22 false (.slice none 0 0) 1 24 := .of (by kernel_rfl) (by kernel_rfl)
theorem tf24 : TyF Try.prog 24 true (.agg #[.slice none 0 0]) 1 24 := .of (by kernel_rfl) (by kernel_rfl)
theorem tf25 : TyF Try.prog 25 false (.slice none 0 0) 1 24 := .of (by kernel_rfl) (by kernel_rfl)
theorem tf48 : TyF Try.prog 48 true (.agg #[.int .i64 0, .int .i64 0]) 2 16 := .of (by kernel_rfl) (by kernel_rfl)
theorem tf51 : TyF Try.prog 51 false (.slice none 0 0) 1 24 := .of (by kernel_rfl) (by kernel_rfl)
theorem tf66 : TyF Try.prog 66 false (.map none) 1 8 := .of (by kernel_rfl) (by kernel_rfl)
theorem tf69 : TyF Try.prog 69 true (.agg #[]) 0 0 := .of (by kernel_rfl) (by kernel_rfl)
theorem tf102 : TyF Try.prog 102 false (.nilFunc) 1 8 := .of (by kernel_rfl) (by kernel_rfl)
theorem ff24_0 : FdF Try.prog 24 0 0 := .of (by kernel_rfl)
theorem ff48_0 : FdF Try.prog 48 0 0 := .of (by kernel_rfl)
theorem ff48_1 : FdF Try.prog 48 1 1 := .of (by kernel_rfl)
theorem ff91_0 : FdF Try.prog 91 0 0 := .of (by kernel_rfl)
theorem ff91_1 : FdF Try.prog 91 1 1 := .of (by kernel_rfl)
theorem ff91_2 : FdF Try.prog 91 2 2 := .of (by kernel_rfl)
theorem ff91_3 : FdF Try.prog 91 3 3 := .of (by kernel_rfl)
theorem ff91_4 : FdF Try.prog 91 4 4 := .of (by kernel_rfl)
theorem ff91_5 : FdF Try.prog 91 5 5 := .of (by kernel_rfl)
theorem st24 : StF Try.prog 24 [(0, 1)] (.agg #[.slice none 0 0]) := .of (by kernel_rfl) (by kernel_rfl)
theorem st48 : StF Try.prog 48 [(0, 1), (1, 1)] (.agg #[.int .i64 0, .int .i64 0]) := .of (by kernel_rfl) (by kernel_rfl)
theorem st69 : StF Try.prog 69 [] (.agg #[]) := .of (by kernel_rfl) (by kernel_rfl)
theorem st91 : StF Try.prog 91 [(0, 1), (1, 1), (2, 1), (3, 1), (4, 1), (5, 1)] (.agg #[.slice none 0 0, .slice none 0 0, .slice none 0 0, .slice none 0 0, .slice none 0 0, .int .i64 0]) := .of (by kernel_rfl) (by kernel_rfl)
theorem se48 : StE2 Try.prog 48 .i64 .i64 := ⟨_, _, Try.underlying48, by kernel_rfl, by kernel_rfl, by decide, by decide, rfl, rfl, Try.underlying3, Try.underlying3⟩
theorem mixed : Try.prog.follows .mixedOrders = true := by kernel_rfl
theorem ent11 : Enters Try.prog 11 := enters_of Try.func11 rfl rfl
theorem ent12 : Enters Try.prog 12 := enters_of Try.func12 rfl rfl
theorem ent13 : Enters Try.prog 13 := enters_of Try.func13 rfl rfl
theorem ent18 : Enters Try.prog 18 := enters_of Try.func18 rfl rfl
theorem ent19 : Enters Try.prog 19 := enters_of Try.func19 rfl rfl
theorem ent24 : Enters Try.prog 24 := enters_of Try.func24 rfl rfl
theorem ent25 : Enters Try.prog 25 := enters_of Try.func25 rfl rfl
theorem ent26 : Enters Try.prog 26 := enters_of Try.func26 rfl rfl
theorem ent27 : Enters Try.prog 27 := enters_of Try.func27 rfl rfl
theorem ent28 : Enters Try.prog 28 := enters_of Try.func28 rfl rfl
theorem ent29 : Enters Try.prog 29 := enters_of Try.func29 rfl rfl
theorem ent30 : Enters Try.prog 30 := enters_of Try.func30 rfl rfl
theorem ent31 : Enters Try.prog 31 := enters_of Try.func31 rfl rfl
theorem ent32 : Enters Try.prog 32 := enters_of Try.func32 rfl rfl
theorem ent33 : Enters Try.prog 33 := enters_of Try.func33 rfl rfl
theorem ent34 : Enters Try.prog 34 := enters_of Try.func34 rfl rfl
theorem ent35 : Enters Try.prog 35 := enters_of Try.func35 rfl rfl
theorem ent36 : Enters Try.prog 36 := enters_of Try.func36 rfl rfl
theorem ent37 : Enters Try.prog 37 := enters_of Try.func37 rfl rfl
theorem ent38 : Enters Try.prog 38 := enters_of Try.func38 rfl rfl
theorem ent39 : Enters Try.prog 39 := enters_of Try.func39 rfl rfl
theorem ent42 : Enters Try.prog 42 := enters_of Try.func42 rfl rfl
theorem ent43 : Enters Try.prog 43 := enters_of Try.func43 rfl rfl
theorem ent44 : Enters Try.prog 44 := enters_of Try.func44 rfl rfl
theorem ent45 : Enters Try.prog 45 := enters_of Try.func45 rfl rfl
theorem ent46 : Enters Try.prog 46 := enters_of Try.func46 rfl rfl
theorem ent47 : Enters Try.prog 47 := enters_of Try.func47 rfl rfl
theorem ent48 : Enters Try.prog 48 := enters_of Try.func48 rfl rfl
theorem ent49 : Enters Try.prog 49 := enters_of Try.func49 rfl rfl
theorem ent50 : Enters Try.prog 50 := enters_of Try.func50 rfl rfl
theorem ent51 : Enters Try.prog 51 := enters_of Try.func51 rfl rfl
theorem ent52 : Enters Try.prog 52 := enters_of Try.func52 rfl rfl
theorem ent53 : Enters Try.prog 53 := enters_of Try.func53 rfl rfl
theorem ent54 : Enters Try.prog 54 := enters_of Try.func54 rfl rfl
theorem ent55 : Enters Try.prog 55 := enters_of Try.func55 rfl rfl
theorem ent56 : Enters Try.prog 56 := enters_of Try.func56 rfl rfl
theorem ent57 : Enters Try.prog 57 := enters_of Try.func57 rfl rfl
theorem ent58 : Enters Try.prog 58 := enters_of Try.func58 rfl rfl
theorem ent59 : Enters Try.prog 59 := enters_of Try.func59 rfl rfl
theorem ent60 : Enters Try.prog 60 := enters_of Try.func60 rfl rfl
theorem ent61 : Enters Try.prog 61 := enters_of Try.func61 rfl rfl
theorem ent62 : Enters Try.prog 62 := enters_of Try.func62 rfl rfl
theorem ent63 : Enters Try.prog 63 := enters_of Try.func63 rfl rfl
theorem ent64 : Enters Try.prog 64 := enters_of Try.func64 rfl rfl
theorem ent65 : Enters Try.prog 65 := enters_of Try.func65 rfl rfl
theorem ent66 : Enters Try.prog 66 := enters_of Try.func66 rfl rfl
theorem ent67 : Enters Try.prog 67 := enters_of Try.func67 rfl rfl
theorem ent68 : Enters Try.prog 68 := enters_of Try.func68 rfl rfl
theorem ent69 : Enters Try.prog 69 := enters_of Try.func69 rfl rfl
theorem ent70 : Enters Try.prog 70 := enters_of Try.func70 rfl rfl
theorem ent71 : Enters Try.prog 71 := enters_of Try.func71 rfl rfl
theorem ent72 : Enters Try.prog 72 := enters_of Try.func72 rfl rfl
theorem ent73 : Enters Try.prog 73 := enters_of Try.func73 rfl rfl
theorem ent74 : Enters Try.prog 74 := enters_of Try.func74 rfl rfl
theorem ent75 : Enters Try.prog 75 := enters_of Try.func75 rfl rfl
theorem ent76 : Enters Try.prog 76 := enters_of Try.func76 rfl rfl
theorem ent77 : Enters Try.prog 77 := enters_of Try.func77 rfl rfl
theorem ent78 : Enters Try.prog 78 := enters_of Try.func78 rfl rfl
theorem ent81 : Enters Try.prog 81 := enters_of Try.func81 rfl rfl
theorem ent84 : Enters Try.prog 84 := enters_of Try.func84 rfl rfl
theorem ent85 : Enters Try.prog 85 := enters_of Try.func85 rfl rfl
theorem sby66_48 (cb : Array Value) : SortsBy Try.prog 66 48 2 (fun l => .agg l.toArray) cb :=
  sortsBy_K fun _ _ enc hk h1 cf hO blk cap d w hc hH hb hsz hT => Go.Proofs.AnyQ.slices_SortFunc_total Try.sortf66 2 tf48.run_isAgg tf48.run_size enc hk h1 cf hO 48 cb blk 0 cap d w ent48 hc hH hb hsz hT

set_option maxHeartbeats 4000000 in
theorem C_graph_Check (F : Nat) (x1 : List (List Int)) (a2 : Option Addr) (c3 : (Nat × List (Option Addr × Nat))) (r : Int) (hm : M_graph_Check F x1 = some r) :
    Pure Try.prog 31 [.agg #[.slice a2 x1.length c3.1]] [SlN eN25 iN25 1 (.slice a2 x1.length c3.1) x1 c3.2] Unit (fun _ => .int .i64 r) (fun _ => []) (fun _ => []) := by
  refine pure_of Try.func31 rfl Try.ntmps31 rfl hm (fun w => ?_)
  refine sxc_env (l' := [(0, .agg #[.slice a2 x1.length c3.1])]) rfl ?_
  refine sxc_seq ?_
  refine sxc_region ?_
  refine sxo_box rfl rfl rfl (fun g4 => ?_)
  refine sxo_assign rfl rfl rfl ?_
  refine sxo_nil ?_
  refine sxq_next ?_
  refine sxc_seq ?_
  refine sxc_region ?_
  refine sxo_fieldAddr rfl rfl ff24_0 rfl ?_
  refine sxo_loadB (i := 0) rfl rfl tf22 rfl rfl (fun _ => rfl) rfl rfl ?_
  refine sxo_len rfl Try.underlying22 rfl rfl ?_
  refine sxo_assign rfl rfl rfl ?_
  refine sxo_nil ?_
  refine sxq_next ?_
  refine sxc_seq ?_
  refine sxc_seq ?_
  refine sxc_region ?_
  refine sxo_move rfl rfl rfl ?_
  refine sxo_gtr rfl rfl rfl rfl ?_
  refine sxo_nil ?_
  refine sxq_next ?_
  refine sxc_if rfl (fun h1593 => ?_) (fun h1593 => ?_)
  · refine sxc_seq ?_
    refine sxc_region ?_
    refine sxo_assign rfl rfl rfl ?_
    refine sxo_nil ?_
    refine sxq_next ?_
    refine sxc_ret ?_
    refine sxq_thenR ?_
    exact sxq_doneP () (res1 rfl rfl)
  · refine sxc_skip ?_
    refine sxq_next ?_
    refine sxc_seq ?_
    refine sxc_region ?_
    refine sxo_assign rfl rfl rfl ?_
    refine sxo_nil ?_
    refine sxq_next ?_
    refine sxc_join (fun ((x798, _) : (Int × Unit)) => [(4, .int .i64 x798)]) (fun ((x798, _) : (Int × Unit)) => []) (fun ((x798, _) : (Int × Unit)) => []) (fun ((x798, _) : (Int × Unit)) => []) (fun ((x798, _) : (Int × Unit)) => M_graph_Check_j23 F x798) ?_ ?_
    · refine sxc_seq ?_
      refine sxc_region ?_
      refine sxo_fieldAddr rfl rfl ff24_0 rfl ?_
      refine sxo_loadB (i := 0) rfl rfl tf22 rfl rfl (fun _ => rfl) rfl rfl ?_
      refine sxo_len rfl Try.underlying22 rfl rfl ?_
      refine sxo_move rfl rfl rfl ?_
      refine sxo_nil ?_
      refine sxq_next ?_
      refine sxc_block ?_
      refine sxc_loopP (fun (((x1064, x1065), _) : ((Int × Int) × Unit)) => [(3, .int .i64 (x1.length : Int)), (4, .int .i64 x1064), (16, .slice a2 x1.length c3.1), (17, .int .i64 (x1.length : Int)), (18, .int .i64 x1065)]) (fun (((x1064, x1065), _) : ((Int × Int) × Unit)) => []) (fun (((x1064, x1065), _) : ((Int × Int) × Unit)) => []) (fun (((x1064, x1065), _) : ((Int × Int) × Unit)) => [SlN eN25 iN25 1 (.slice a2 x1.length c3.1) x1 c3.2]) (fun k (s : ((Int × Int) × Unit)) => M_graph_Check_l38 F x1 k s.1) ((0, 0), ()) F ?_ (hF := (fk_cons 0 rfl fk_nil))
      intro k1329
      rintro ⟨⟨x1064, x1065⟩, _⟩
      try dsimp only
      refine sxc_meq (m' := M_graph_Check_b38 F x1 (M_graph_Check_l38 F x1 k1329) x1064 x1065) rfl ?_
      refine sxc_seq ?_
      refine sxc_region ?_
      refine sxo_lss rfl rfl rfl rfl ?_
      refine sxo_nil ?_
      refine sxq_next ?_
      refine sxc_seq ?_
      refine sxc_if rfl (fun h1592 => ?_) (fun h1592 => ?_)
      · refine sxc_skip ?_
        refine sxq_next ?_
        refine sxc_join (fun ((x1461, _) : (Int × Unit)) => [(3, .int .i64 (x1.length : Int)), (4, .int .i64 x1461), (16, .slice a2 x1.length c3.1), (17, .int .i64 (x1.length : Int)), (18, .int .i64 x1065)]) (fun ((x1461, _) : (Int × Unit)) => []) (fun ((x1461, _) : (Int × Unit)) => []) (fun ((x1461, _) : (Int × Unit)) => [SlN eN25 iN25 1 (.slice a2 x1.length c3.1) x1 c3.2]) (fun ((x1461, _) : (Int × Unit)) => M_graph_Check_j42 F (M_graph_Check_l38 F x1 k1329) x1065 x1461) ?_ ?_
        · refine sxc_block ?_
          refine sxc_seq ?_
          refine sxc_region ?_
          refine sxo_indexN (j := 0) eN25_ok (by decide) rfl Try.underlying22 tf25 rfl rfl rfl rfl (fun x1462 e1462 g1465 b1463 o1464 => ?_)
          refine sxo_loadF (j := 0) rfl rfl tf25 rfl rfl (fun _ => rfl) rfl rfl ?_
          refine sxo_assign rfl rfl rfl ?_
          refine sxo_nil ?_
          refine sxq_next ?_
          refine sxc_seq ?_
          refine sxc_region ?_
          refine sxo_assign rfl rfl rfl ?_
          refine sxo_nil ?_
          refine sxq_next ?_
          refine sxc_join (fun ((_, _) : (Unit × Unit)) => [(3, .int .i64 (x1.length : Int)), (4, .int .i64 x1064), (6, .slice g1465.1 x1462.length g1465.2), (16, .slice a2 x1.length c3.1), (17, .int .i64 (x1.length : Int)), (18, .int .i64 x1065)]) (fun ((_, _) : (Unit × Unit)) => []) (fun ((_, _) : (Unit × Unit)) => []) (fun ((_, _) : (Unit × Unit)) => [Sl (eI .i64) 1 (.slice g1465.1 x1462.length g1465.2) x1462, SlN eN25 iN25 1 (.slice a2 x1.length c3.1) x1 c3.2]) (fun ((_, _) : (Unit × Unit)) => M_graph_Check_j44 F (M_graph_Check_l38 F x1 k1329) x1064 x1065 x1462) ?_ ?_
          · refine sxc_seq ?_
            refine sxc_region ?_
            refine sxo_move rfl rfl rfl ?_
            refine sxo_len rfl Try.underlying25 rfl rfl ?_
            refine sxo_move rfl rfl rfl ?_
            refine sxo_nil ?_
            refine sxq_next ?_
            refine sxc_block ?_
            refine sxc_loopP (fun (((x1549, x1550), _) : ((Int × Int) × Unit)) => [(3, .int .i64 (x1.length : Int)), (4, .int .i64 x1064), (6, .slice g1465.1 x1462.length g1465.2), (7, .int .i64 x1549), (16, .slice a2 x1.length c3.1), (17, .int .i64 (x1.length : Int)), (18, .int .i64 x1065), (22, .slice g1465.1 x1462.length g1465.2), (23, .int .i64 (x1462.length : Int)), (24, .int .i64 x1550)]) (fun (((x1549, x1550), _) : ((Int × Int) × Unit)) => []) (fun (((x1549, x1550), _) : ((Int × Int) × Unit)) => []) (fun (((x1549, x1550), _) : ((Int × Int) × Unit)) => [Sl (eI .i64) 1 (.slice g1465.1 x1462.length g1465.2) x1462, SlN eN25 iN25 1 (.slice a2 x1.length c3.1) x1 c3.2]) (fun k (s : ((Int × Int) × Unit)) => M_graph_Check_l45 F (M_graph_Check_l38 F x1 k1329) x1 x1064 x1065 x1462 k s.1) ((-1, 0), ()) F ?_ (hF := (fk_cons 1 rfl (fk_cons 2 rfl fk_nil)))
            intro k1571
            rintro ⟨⟨x1549, x1550⟩, _⟩
            try dsimp only
            refine sxc_meq (m' := M_graph_Check_b45 F (M_graph_Check_l38 F x1 k1329) x1 x1064 x1065 x1462 (M_graph_Check_l45 F (M_graph_Check_l38 F x1 k1329) x1 x1064 x1065 x1462 k1571) x1549 x1550) rfl ?_
            refine sxc_seq ?_
            refine sxc_region ?_
            refine sxo_lss rfl rfl rfl rfl ?_
            refine sxo_nil ?_
            refine sxq_next ?_
            refine sxc_seq ?_
            refine sxc_if rfl (fun h1591 => ?_) (fun h1591 => ?_)
            · refine sxc_skip ?_
              refine sxq_next ?_
              refine sxc_seq ?_
              refine sxc_block ?_
              refine sxc_seq ?_
              refine sxc_region ?_
              refine sxo_indexF (j := 0) (eI_ok .i64) (by decide) rfl Try.underlying25 tf3 rfl rfl rfl rfl (fun x1582 e1582 b1583 o1584 => ?_)
              refine sxo_loadF (j := 0) rfl rfl tf3 rfl rfl (fun _ => rfl) rfl rfl ?_
              refine sxo_assign rfl rfl rfl ?_
              refine sxo_nil ?_
              refine sxq_next ?_
              refine sxc_seq ?_
              refine sxc_block ?_
              refine sxc_seq ?_
              refine sxc_region ?_
              refine sxo_move rfl rfl rfl ?_
              refine sxo_lss rfl rfl rfl rfl ?_
              refine sxo_move rfl rfl rfl ?_
              refine sxo_case 4 (decide (x1582 < 0)) [(3, .int .i64 (x1.length : Int)), (4, .int .i64 x1064), (6, .slice g1465.1 x1462.length g1465.2), (7, .int .i64 x1549), (16, .slice a2 x1.length c3.1), (17, .int .i64 (x1.length : Int)), (18, .int .i64 x1065), (22, .slice g1465.1 x1462.length g1465.2), (23, .int .i64 (x1462.length : Int)), (24, .int .i64 x1550), (9, .int .i64 x1582), (35, .bool ((decide (x1582 < 0)) || (decide ((x1.length : Int) ≤ x1582))))] (fun h1588 => ?_) (fun h1588 => ?_) ?_
              · refine sxo_take (os := _) rfl ?_
                refine sxo_isT (k := 31) rfl h1588 ?_
                refine sxo_skip rfl rfl rfl ?_
                refine sxo_skip rfl rfl rfl ?_
                refine sxo_skip rfl rfl rfl ?_
                refine sxo_pick (b := true) rfl rfl rfl rfl ?_
                refine sxo_again (d := 35) (v := .bool ((decide (x1582 < 0)) || (decide ((x1.length : Int) ≤ x1582)))) rfl (by rw [h1588]; simp only [Bool.true_or]) ?_
                refine sxo_nil ?_
                exact sxq_case (lk_cons rfl (lk_cons rfl (lk_cons rfl (lk_cons rfl (lk_cons rfl (lk_cons rfl (lk_cons rfl (lk_cons rfl (lk_cons rfl (lk_cons rfl (lk_cons rfl (lk_cons rfl lk_nil))))))))))))
              · refine sxo_take (os := _) rfl ?_
                refine sxo_isF (k := 31) rfl h1588 ?_
                refine sxo_move rfl rfl rfl ?_
                refine sxo_move rfl rfl rfl ?_
                refine sxo_geq rfl rfl rfl rfl ?_
                refine sxo_pick (b := false) rfl rfl rfl rfl ?_
                refine sxo_again (d := 35) (v := .bool ((decide (x1582 < 0)) || (decide ((x1.length : Int) ≤ x1582)))) rfl (by rw [h1588]; simp only [Bool.false_or]) ?_
                refine sxo_nil ?_
                exact sxq_case (lk_cons rfl (lk_cons rfl (lk_cons rfl (lk_cons rfl (lk_cons rfl (lk_cons rfl (lk_cons rfl (lk_cons rfl (lk_cons rfl (lk_cons rfl (lk_cons rfl (lk_cons rfl lk_nil))))))))))))
              refine sxo_take (os := _) rfl ?_
              refine sxo_assign rfl rfl rfl ?_
              refine sxo_nil ?_
              refine sxq_next ?_
              refine sxc_if rfl (fun h1590 => ?_) (fun h1590 => ?_)
              · refine sxc_seq ?_
                refine sxc_region ?_
                refine sxo_assign rfl rfl rfl ?_
                refine sxo_nil ?_
                refine sxq_next ?_
                refine sxc_ret ?_
                refine sxq_blkR ?_
                refine sxq_thenR ?_
                refine sxq_blkR ?_
                refine sxq_thenR ?_
                refine sxq_thenR ?_
                refine sxq_blkR ?_
                refine sxq_thenR ?_
                refine sxq_blkR ?_
                refine sxq_thenR ?_
                refine sxq_thenR ?_
                refine sxq_blkR ?_
                refine sxq_thenR ?_
                exact sxq_doneP () (res1 rfl rfl)
              · refine sxc_seq ?_
                refine sxc_region ?_
                refine sxo_move rfl rfl rfl ?_
                refine sxo_move rfl rfl rfl ?_
                refine sxo_leq rfl rfl rfl rfl ?_
                refine sxo_assign rfl rfl rfl ?_
                refine sxo_nil ?_
                refine sxq_next ?_
                refine sxc_if rfl (fun h1589 => ?_) (fun h1589 => ?_)
                · refine sxc_seq ?_
                  refine sxc_region ?_
                  refine sxo_assign rfl rfl rfl ?_
                  refine sxo_nil ?_
                  refine sxq_next ?_
                  refine sxc_ret ?_
                  refine sxq_blkR ?_
                  refine sxq_thenR ?_
                  refine sxq_blkR ?_
                  refine sxq_thenR ?_
                  refine sxq_thenR ?_
                  refine sxq_blkR ?_
                  refine sxq_thenR ?_
                  refine sxq_blkR ?_
                  refine sxq_thenR ?_
                  refine sxq_thenR ?_
                  refine sxq_blkR ?_
                  refine sxq_thenR ?_
                  exact sxq_doneP () (res1 rfl rfl)
                · refine sxc_skip ?_
                  refine sxq_blkN ?_
                  refine sxq_next ?_
                  refine sxc_region ?_
                  refine sxo_move rfl rfl rfl ?_
                  refine sxo_assign rfl rfl rfl ?_
                  refine sxo_nil ?_
                  refine sxq_blkN ?_
                  refine sxq_next ?_
                  refine sxc_region ?_
                  refine sxo_add rfl rfl rfl rfl ?_
                  refine sxo_move rfl rfl rfl ?_
                  refine sxo_nil ?_
                  exact sxq_againP ((x1582, iadd .i64 x1550 1), ()) (hF := (fk_cons 1 rfl (fk_cons 2 rfl fk_nil)))
            · refine sxc_exit ?_
              refine sxq_thenX ?_
              refine sxq_thenX ?_
              refine sxq_blkX ?_
              exact sxq_meetP ((), ()) (hF := (fk_cons 0 rfl (fk_cons 1 rfl fk_nil)))
          · rintro ⟨_, _⟩
            try dsimp only
            refine sxc_region ?_
            refine sxo_move rfl rfl rfl ?_
            refine sxo_move rfl rfl rfl ?_
            refine sxo_len rfl Try.underlying25 rfl rfl ?_
            refine sxo_add rfl rfl rfl rfl ?_
            refine sxo_assign rfl rfl rfl ?_
            refine sxo_nil ?_
            refine sxq_blkN ?_
            exact sxq_meetP (iadd .i64 x1064 (x1462.length : Int), ()) (hF := (fk_cons 1 rfl fk_nil))
        · rintro ⟨x1461, _⟩
          try dsimp only
          refine sxc_region ?_
          refine sxo_add rfl rfl rfl rfl ?_
          refine sxo_move rfl rfl rfl ?_
          refine sxo_nil ?_
          exact sxq_againP ((x1461, iadd .i64 x1065 1), ()) (hF := (fk_cons 0 rfl fk_nil))
      · refine sxc_exit ?_
        refine sxq_thenX ?_
        refine sxq_thenX ?_
        refine sxq_blkX ?_
        exact sxq_meetP (x1064, ())
    · rintro ⟨x798, _⟩
      try dsimp only
      refine sxc_seq ?_
      refine sxc_seq ?_
      refine sxc_region ?_
      refine sxo_move rfl rfl rfl ?_
      refine sxo_gtr rfl rfl rfl rfl ?_
      refine sxo_nil ?_
      refine sxq_next ?_
      refine sxc_if rfl (fun h800 => ?_) (fun h800 => ?_)
      · refine sxc_seq ?_
        refine sxc_region ?_
        refine sxo_assign rfl rfl rfl ?_
        refine sxo_nil ?_
        refine sxq_next ?_
        refine sxc_ret ?_
        refine sxq_thenR ?_
        exact sxq_doneP () (res1 rfl rfl)
      · refine sxc_skip ?_
        refine sxq_next ?_
        refine sxc_seq ?_
        refine sxc_region ?_
        refine sxo_assign rfl rfl rfl ?_
        refine sxo_nil ?_
        refine sxq_next ?_
        refine sxc_ret ?_
        exact sxq_doneP () (res1 rfl rfl)

theorem C_math_bits_Mul32 (F : Nat) (x1 : Int) (x2 : Int) (r : (Int × Int)) (hm : M_math_bits_Mul32 F x1 x2 = some r) :
    Pure Try.prog 83 [.int .u32 x1, .int .u32 x2] [] Unit (fun _ => .tuple #[.int .u32 r.1, .int .u32 r.2]) (fun _ => []) (fun _ => []) := by
  refine pure_of Try.func83 rfl Try.ntmps83 rfl hm (fun w => ?_)
  refine sxc_env (l' := [(0, .int .u32 x1), (1, .int .u32 x2)]) rfl ?_
  refine sxc_seq ?_
  refine sxc_region ?_
  refine sxo_assign rfl rfl rfl ?_
  refine sxo_assign rfl rfl rfl ?_
  refine sxo_nil ?_
  refine sxq_next ?_
  refine sxc_seq ?_
  refine sxc_region ?_
  refine sxo_move rfl rfl rfl ?_
  refine sxo_conv rfl Try.underlying111 Try.underlying114 rfl rfl ?_
  refine sxo_move rfl rfl rfl ?_
  refine sxo_conv rfl Try.underlying111 Try.underlying114 rfl rfl ?_
  refine sxo_mul rfl rfl rfl rfl ?_
  refine sxo_assign rfl rfl rfl ?_
  refine sxo_lett (fun x3 e3 => ?_)
  refine sxo_again (d := 6) (v := .int .u64 x3) rfl (by rw [e3] <;> rfl) ?_
  refine sxo_nil ?_
  refine sxq_next ?_
  refine sxc_seq ?_
  refine sxc_region ?_
  refine sxo_move rfl rfl rfl ?_
  refine sxo_shr rfl rfl rfl rfl rfl ?_
  refine sxo_conv rfl Try.underlying114 Try.underlying111 rfl rfl ?_
  refine sxo_move rfl rfl rfl ?_
  refine sxo_conv rfl Try.underlying114 Try.underlying111 rfl rfl ?_
  refine sxo_assign rfl rfl rfl ?_
  refine sxo_assign rfl rfl rfl ?_
  refine sxo_nil ?_
  refine sxq_next ?_
  refine sxc_ret ?_
  exact sxq_doneP () (res2 rfl rfl rfl)

theorem C_math_bits_Mul64 (F : Nat) (x1 : Int) (x2 : Int) (r : (Int × Int)) (hm : M_math_bits_Mul64 F x1 x2 = some r) :
    Pure Try.prog 84 [.int .u64 x1, .int .u64 x2] [] Unit (fun _ => .tuple #[.int .u64 r.1, .int .u64 r.2]) (fun _ => []) (fun _ => []) := by
  refine pure_of Try.func84 rfl Try.ntmps84 rfl hm (fun w => ?_)
  refine sxc_env (l' := [(0, .int .u64 x1), (1, .int .u64 x2)]) rfl ?_
  refine sxc_seq ?_
  refine sxc_region ?_
  refine sxo_assign rfl rfl rfl ?_
  refine sxo_assign rfl rfl rfl ?_
  refine sxo_nil ?_
  refine sxq_next ?_
  refine sxc_seq ?_
  refine sxc_region ?_
  refine sxo_move rfl rfl rfl ?_
  refine sxo_and rfl rfl rfl rfl ?_
  refine sxo_assign rfl rfl rfl ?_
  refine sxo_nil ?_
  refine sxq_next ?_
  refine sxc_seq ?_
  refine sxc_region ?_
  refine sxo_move rfl rfl rfl ?_
  refine sxo_shr rfl rfl rfl rfl rfl ?_
  refine sxo_assign rfl rfl rfl ?_
  refine sxo_nil ?_
  refine sxq_next ?_
  refine sxc_seq ?_
  refine sxc_region ?_
  refine sxo_move rfl rfl rfl ?_
  refine sxo_and rfl rfl rfl rfl ?_
  refine sxo_assign rfl rfl rfl ?_
  refine sxo_nil ?_
  refine sxq_next ?_
  refine sxc_seq ?_
  refine sxc_region ?_
  refine sxo_move rfl rfl rfl ?_
  refine sxo_shr rfl rfl rfl rfl rfl ?_
  refine sxo_assign rfl rfl rfl ?_
  refine sxo_nil ?_
  refine sxq_next ?_
  refine sxc_seq ?_
  refine sxc_region ?_
  refine sxo_move rfl rfl rfl ?_
  refine sxo_move rfl rfl rfl ?_
  refine sxo_mul rfl rfl rfl rfl ?_
  refine sxo_assign rfl rfl rfl ?_
  refine sxo_lett (fun x3 e3 => ?_)
  refine sxo_again (d := 10) (v := .int .u64 x3) rfl (by rw [e3] <;> rfl) ?_
  refine sxo_nil ?_
  refine sxq_next ?_
  refine sxc_seq ?_
  refine sxc_region ?_
  refine sxo_move rfl rfl rfl ?_
  refine sxo_move rfl rfl rfl ?_
  refine sxo_mul rfl rfl rfl rfl ?_
  refine sxo_move rfl rfl rfl ?_
  refine sxo_shr rfl rfl rfl rfl rfl ?_
  refine sxo_add rfl rfl rfl rfl ?_
  refine sxo_assign rfl rfl rfl ?_
  refine sxo_lett (fun x4 e4 => ?_)
  refine sxo_again (d := 11) (v := .int .u64 x4) rfl (by rw [e4] <;> rfl) ?_
  refine sxo_nil ?_
  refine sxq_next ?_
  refine sxc_seq ?_
  refine sxc_region ?_
  refine sxo_move rfl rfl rfl ?_
  refine sxo_and rfl rfl rfl rfl ?_
  refine sxo_assign rfl rfl rfl ?_
  refine sxo_nil ?_
  refine sxq_next ?_
  refine sxc_seq ?_
  refine sxc_region ?_
  refine sxo_move rfl rfl rfl ?_
  refine sxo_shr rfl rfl rfl rfl rfl ?_
  refine sxo_assign rfl rfl rfl ?_
  refine sxo_nil ?_
  refine sxq_next ?_
  refine sxc_seq ?_
  refine sxc_region ?_
  refine sxo_move rfl rfl rfl ?_
  refine sxo_move rfl rfl rfl ?_
  refine sxo_move rfl rfl rfl ?_
  refine sxo_mul rfl rfl rfl rfl ?_
  refine sxo_add rfl rfl rfl rfl ?_
  refine sxo_assign rfl rfl rfl ?_
  refine sxo_lett (fun x5 e5 => ?_)
  refine sxo_again (d := 12) (v := .int .u64 x5) rfl (by rw [e5] <;> rfl) ?_
  refine sxo_nil ?_
  refine sxq_next ?_
  refine sxc_seq ?_
  refine sxc_region ?_
  refine sxo_move rfl rfl rfl ?_
  refine sxo_move rfl rfl rfl ?_
  refine sxo_mul rfl rfl rfl rfl ?_
  refine sxo_move rfl rfl rfl ?_
  refine sxo_add rfl rfl rfl rfl ?_
  refine sxo_move rfl rfl rfl ?_
  refine sxo_shr rfl rfl rfl rfl rfl ?_
  refine sxo_add rfl rfl rfl rfl ?_
  refine sxo_assign rfl rfl rfl ?_
  refine sxo_lett (fun x6 e6 => ?_)
  refine sxo_again (d := 4) (v := .int .u64 x6) rfl (by rw [e6] <;> rfl) ?_
  refine sxo_nil ?_
  refine sxq_next ?_
  refine sxc_seq ?_
  refine sxc_region ?_
  refine sxo_move rfl rfl rfl ?_
  refine sxo_move rfl rfl rfl ?_
  refine sxo_mul rfl rfl rfl rfl ?_
  refine sxo_assign rfl rfl rfl ?_
  refine sxo_nil ?_
  refine sxq_next ?_
  refine sxc_ret ?_
  exact sxq_doneP () (res2 rfl rfl rfl)

theorem C_math_bits_Mul (F : Nat) (x1 : Int) (x2 : Int) (r : (Int × Int)) (hm : M_math_bits_Mul F x1 x2 = some r) :
    Pure Try.prog 76 [.int .u64 x1, .int .u64 x2] [] Unit (fun _ => .tuple #[.int .u64 r.1, .int .u64 r.2]) (fun _ => []) (fun _ => []) := by
  refine pure_of Try.func76 rfl Try.ntmps76 rfl hm (fun w => ?_)
  refine sxc_env (l' := [(0, .int .u64 x1), (1, .int .u64 x2)]) rfl ?_
  refine sxc_seq ?_
  refine sxc_region ?_
  refine sxo_assign rfl rfl rfl ?_
  refine sxo_assign rfl rfl rfl ?_
  refine sxo_nil ?_
  refine sxq_next ?_
  refine sxc_seq ?_
  refine sxc_cond (b := false) rfl (fun h => by cases h) (fun _ => ?_)
  refine sxc_skip ?_
  refine sxq_next ?_
  refine sxc_seq ?_
  refine sxc_region ?_
  refine sxo_move rfl rfl rfl ?_
  refine sxo_move rfl rfl rfl ?_
  refine sxo_call ent84 rfl rfl rfl (fun x3 e3 => C_math_bits_Mul64 F x1 x2 x3 e3) .nil (fun x3 e3 => ?_)
  intro _
  refine sxo_move rfl rfl rfl ?_
  refine sxo_extract rfl rfl rfl rfl ?_
  refine sxo_extract rfl rfl rfl rfl ?_
  refine sxo_assign rfl rfl rfl ?_
  refine sxo_assign rfl rfl rfl ?_
  refine sxo_nil ?_
  refine sxq_next ?_
  refine sxc_seq ?_
  refine sxc_region ?_
  refine sxo_move rfl rfl rfl ?_
  refine sxo_move rfl rfl rfl ?_
  refine sxo_assign rfl rfl rfl ?_
  refine sxo_assign rfl rfl rfl ?_
  refine sxo_nil ?_
  refine sxq_next ?_
  refine sxc_ret ?_
  exact sxq_doneP () (res2 rfl rfl rfl)

theorem C_slices_Repeat_int_int (F : Nat) (x1 : List Int) (a2 : Option Addr) (c3 : Nat) (x4 : Int) (r : List Int) (hm : M_slices_Repeat_int_int F x1 x4 = some r) :
    Pure Try.prog 58 [.slice a2 x1.length c3, .int .i64 x4] [Sl (eI .i64) 1 (.slice a2 x1.length c3) x1] (Option Addr × Nat) (fun g => .slice g.1 r.length g.2) (fun g => [Ro (eI .i64) 3 1 (.slice g.1 r.length g.2) r]) (fun _ => []) := by
  refine pure_of Try.func58 rfl Try.ntmps58 rfl hm (fun w => ?_)
  refine sxc_env (l' := [(0, .slice a2 x1.length c3), (1, .int .i64 x4)]) rfl ?_
  refine sxc_seq ?_
  refine sxc_region ?_
  refine sxo_assign rfl rfl rfl ?_
  refine sxo_nil ?_
  refine sxq_next ?_
  refine sxc_seq ?_
  refine sxc_seq ?_
  refine sxc_region ?_
  refine sxo_move rfl rfl rfl ?_
  refine sxo_lss rfl rfl rfl rfl ?_
  refine sxo_nil ?_
  refine sxq_next ?_
  refine sxc_if rfl (fun h114 => ?_) (fun h114 => ?_)
  · exact sxc_none
  · refine sxc_skip ?_
    refine sxq_next ?_
    refine sxc_seq ?_
    refine sxc_region ?_
    refine sxo_move rfl rfl rfl ?_
    refine sxo_len rfl Try.underlying25 rfl rfl ?_
    refine sxo_conv rfl Try.underlying3 Try.underlying94 rfl rfl ?_
    refine sxo_move rfl rfl rfl ?_
    refine sxo_conv rfl Try.underlying3 Try.underlying94 rfl rfl ?_
    refine sxo_call ent76 rfl rfl rfl (fun x6 e6 => C_math_bits_Mul F (iconv .u64 (x1.length : Int)) (iconv .u64 x4) x6 e6) .nil (fun x6 e6 => ?_)
    intro _
    refine sxo_move rfl rfl rfl ?_
    refine sxo_extract rfl rfl rfl rfl ?_
    refine sxo_extract rfl rfl rfl rfl ?_
    refine sxo_assign rfl rfl rfl ?_
    refine sxo_assign rfl rfl rfl ?_
    refine sxo_nil ?_
    refine sxq_next ?_
    refine sxc_seq ?_
    refine sxc_seq ?_
    refine sxc_region ?_
    refine sxo_move rfl rfl rfl ?_
    refine sxo_gtr rfl rfl rfl rfl ?_
    refine sxo_move rfl rfl rfl ?_
    refine sxo_case 3 (decide (0 < x6.1)) [(0, .slice a2 x1.length c3), (6, .int .u64 x6.2), (26, .bool ((decide (0 < x6.1)) || (decide (9223372036854775807 < x6.2))))] (fun h9 => ?_) (fun h9 => ?_) ?_
    · refine sxo_take (os := _) rfl ?_
      refine sxo_isT (k := 23) rfl h9 ?_
      refine sxo_skip rfl rfl rfl ?_
      refine sxo_skip rfl rfl rfl ?_
      refine sxo_pick (b := true) rfl rfl rfl rfl ?_
      refine sxo_again (d := 26) (v := .bool ((decide (0 < x6.1)) || (decide (9223372036854775807 < x6.2)))) rfl (by rw [h9]; simp only [Bool.true_or]) ?_
      refine sxo_nil ?_
      exact sxq_case (lk_cons rfl (lk_cons rfl (lk_cons rfl lk_nil)))
    · refine sxo_take (os := _) rfl ?_
      refine sxo_isF (k := 23) rfl h9 ?_
      refine sxo_move rfl rfl rfl ?_
      refine sxo_gtr rfl rfl rfl rfl ?_
      refine sxo_pick (b := false) rfl rfl rfl rfl ?_
      refine sxo_again (d := 26) (v := .bool ((decide (0 < x6.1)) || (decide (9223372036854775807 < x6.2)))) rfl (by rw [h9]; simp only [Bool.false_or]) ?_
      refine sxo_nil ?_
      exact sxq_case (lk_cons rfl (lk_cons rfl (lk_cons rfl lk_nil)))
    refine sxo_take (os := _) rfl ?_
    refine sxo_nil ?_
    refine sxq_next ?_
    refine sxc_if rfl (fun h113 => ?_) (fun h113 => ?_)
    · exact sxc_none
    · refine sxc_skip ?_
      refine sxq_next ?_
      refine sxc_seq ?_
      refine sxc_region ?_
      refine sxo_move rfl rfl rfl ?_
      refine sxo_conv rfl Try.underlying94 Try.underlying3 rfl rfl ?_
      refine sxo_mk (eI_ok .i64) rfl Try.underlying25 tf3 rfl rfl rfl rfl rfl rfl rfl (fun x10 e10 a11 c12 => ?_)
      refine sxo_assign rfl rfl rfl ?_
      refine sxo_nil ?_
      refine sxq_next ?_
      refine sxc_seq ?_
      refine sxc_region ?_
      refine sxo_move rfl rfl rfl ?_
      refine sxo_move rfl rfl rfl ?_
      refine sxo_copyF (j := 0) (i := 0) (eI_ok .i64) rfl Try.underlying25 tf3 rfl rfl rfl rfl rfl (fun x13 e13 h14 => ?_)
      have h15 : x13.length = x10.length := by rw [← e13]; exact overlay_len (Nat.zero_le _)
      refine sxo_again (d := 7) (v := .slice a11 x13.length c12) rfl (by rw [h14] <;> rfl) ?_
      refine sxo_again (d := 30) (v := .slice a11 x13.length c12) rfl (by rw [h14] <;> rfl) ?_
      refine sxo_again (d := 31) (v := .slice a11 x13.length c12) rfl (by rw [h14] <;> rfl) ?_
      refine sxo_assign rfl rfl rfl ?_
      refine sxo_nil ?_
      refine sxq_next ?_
      refine sxc_join (fun ((x64, _) : (List Int × Unit)) => [(7, .slice a11 x64.length c12)]) (fun ((x64, _) : (List Int × Unit)) => []) (fun ((x64, _) : (List Int × Unit)) => [Ro (eI .i64) 3 1 (.slice a11 x64.length c12) x64]) (fun ((x64, _) : (List Int × Unit)) => []) (fun ((x64, _) : (List Int × Unit)) => M_slices_Repeat_int_int_j2 F x64) ?_ ?_
      · refine sxc_block ?_
        refine sxc_loopP (fun (((x80, x81), _) : ((List Int × Int) × Unit)) => [(7, .slice a11 x80.length c12), (8, .int .i64 x81)]) (fun (((x80, x81), _) : ((List Int × Int) × Unit)) => []) (fun (((x80, x81), _) : ((List Int × Int) × Unit)) => [Ro (eI .i64) 3 1 (.slice a11 x80.length c12) x80]) (fun (((x80, x81), _) : ((List Int × Int) × Unit)) => []) (fun k (s : ((List Int × Int) × Unit)) => M_slices_Repeat_int_int_l3 F k s.1) ((x13, ((min x1.length x10.length : Nat) : Int)), ()) F ?_ (hR := (.cons 0 rfl .nil))
        intro k97
        rintro ⟨⟨x80, x81⟩, _⟩
        try dsimp only
        refine sxc_meq (m' := M_slices_Repeat_int_int_b3 F (M_slices_Repeat_int_int_l3 F k97) x80 x81) rfl ?_
        refine sxc_seq ?_
        refine sxc_seq ?_
        refine sxc_region ?_
        refine sxo_move rfl rfl rfl ?_
        refine sxo_move rfl rfl rfl ?_
        refine sxo_len rfl Try.underlying25 rfl rfl ?_
        refine sxo_lss rfl rfl rfl rfl ?_
        refine sxo_nil ?_
        refine sxq_next ?_
        refine sxc_if rfl (fun h112 => ?_) (fun h112 => ?_)
        · refine sxc_skip ?_
          refine sxq_next ?_
          refine sxc_block ?_
          refine sxc_cutHR 0 rfl (fun x99 e99 a100 c101 h102 h103 => ?_)
          refine sxc_cutHR 0 rfl (fun x104 e104 a105 c106 h107 h108 => ?_)
          refine sxb_draw mixed [] [] [] .nil gk_nil 10 rfl ?_
          refine sxb_takeP 0 (.int .i64 x81) rfl rfl rfl (yv_pv rfl) ?_
          refine sxb_takeP 1 (.slice a11 x80.length c12) rfl rfl rfl (yv_pv rfl) ?_
          refine sxb_takeP 2 (.int .i64 x81) rfl rfl rfl (yv_pv rfl) ?_
          refine sxb_takeP 3 (.slice a100 x99.length c101) rfl rfl rfl (yv_cut Try.underlying25 tf3 rfl rfl rfl e99 h103 h102) ?_
          refine sxb_takeP 4 (.slice a11 x80.length c12) rfl rfl rfl (yv_pv rfl) ?_
          refine sxb_takeP 5 (.int .i64 x81) rfl rfl rfl (yv_pv rfl) ?_
          refine sxb_takeP 6 (.slice a105 x104.length c106) rfl rfl rfl (yv_cut Try.underlying25 tf3 rfl rfl rfl e104 h108 h107) ?_
          refine sxb_step 7 rfl (by kernel_rfl) rfl ?_
          refine sxo_copyS (j := 0) (eI_ok .i64) rfl Try.underlying25 tf3 e99 h102 e104 h107 rfl rfl rfl rfl (fun x109 e109 h110 => ?_)
          have h111 : x109.length = x80.length := by rw [← e109]; exact overlay_len (by have := sub_spec e99; omega)
          refine sxo_again (d := 7) (v := .slice a11 x109.length c12) rfl (by rw [h110] <;> rfl) ?_
          refine sxo_again (d := 35) (v := .slice a11 x109.length c12) rfl (by rw [h110] <;> rfl) ?_
          refine sxo_again (d := 39) (v := .slice a11 x109.length c12) rfl (by rw [h110] <;> rfl) ?_
          refine sxo_again (d := 42) (v := .slice a11 x109.length c12) rfl (by rw [h110] <;> rfl) ?_
          refine sxo_nil ?_
          refine sxq_anyB .nil gk_nil ?_
          refine sxb_takeP 8 (.int .i64 (iadd .i64 x81 ((min x104.length x99.length : Nat) : Int))) rfl rfl rfl (yv_pv rfl) ?_
          refine sxb_takeP 9 (.int .i64 (iadd .i64 x81 ((min x104.length x99.length : Nat) : Int))) rfl rfl rfl (yv_pv rfl) ?_
          refine sxb_done (by kernel_rfl) ?_
          refine sxq_np ?_ (by intro c h; cases h)
          refine sxq_blkN ?_
          exact sxq_againP ((x109, iadd .i64 x81 ((min x104.length x99.length : Nat) : Int)), ()) (hR := (.cons 0 rfl .nil))
        · refine sxc_exit ?_
          refine sxq_thenX ?_
          refine sxq_thenX ?_
          refine sxq_blkX ?_
          exact sxq_meetP (x80, ()) (hR := (.cons 0 rfl .nil))
      · rintro ⟨x64, _⟩
        try dsimp only
        refine sxc_seq ?_
        refine sxc_region ?_
        refine sxo_move rfl rfl rfl ?_
        refine sxo_assign rfl rfl rfl ?_
        refine sxo_nil ?_
        refine sxq_next ?_
        refine sxc_ret ?_
        exact sxq_doneP (a11, c12) (res1 rfl rfl) (fun h => by subst h; exact (.cons 0 rfl .nil))

theorem C_slices_Index_int_int (F : Nat) (x1 : List Int) (a2 : Option Addr) (c3 : Nat) (x4 : Int) (r : Int) (hm : M_slices_Index_int_int F x1 x4 = some r) :
    Pure Try.prog 34 [.slice a2 x1.length c3, .int .i64 x4] [Sl (eI .i64) 1 (.slice a2 x1.length c3) x1] Unit (fun _ => .int .i64 r) (fun _ => []) (fun _ => []) := by
  refine pure_of Try.func34 rfl Try.ntmps34 rfl hm (fun w => ?_)
  refine sxc_env (l' := [(0, .slice a2 x1.length c3), (1, .int .i64 x4)]) rfl ?_
  refine sxc_seq ?_
  refine sxc_region ?_
  refine sxo_assign rfl rfl rfl ?_
  refine sxo_nil ?_
  refine sxq_next ?_
  refine sxc_join (fun ((_, _) : (Unit × Unit)) => []) (fun ((_, _) : (Unit × Unit)) => []) (fun ((_, _) : (Unit × Unit)) => []) (fun ((_, _) : (Unit × Unit)) => []) (fun ((_, _) : (Unit × Unit)) => M_slices_Index_int_int_j2 F) ?_ ?_
  · refine sxc_seq ?_
    refine sxc_region ?_
    refine sxo_move rfl rfl rfl ?_
    refine sxo_len rfl Try.underlying25 rfl rfl ?_
    refine sxo_move rfl rfl rfl ?_
    refine sxo_nil ?_
    refine sxq_next ?_
    refine sxc_block ?_
    refine sxc_loopP (fun ((x47, _) : (Int × Unit)) => [(0, .slice a2 x1.length c3), (1, .int .i64 x4), (7, .int .i64 (x1.length : Int)), (8, .int .i64 x47)]) (fun ((x47, _) : (Int × Unit)) => []) (fun ((x47, _) : (Int × Unit)) => []) (fun ((x47, _) : (Int × Unit)) => [Sl (eI .i64) 1 (.slice a2 x1.length c3) x1]) (fun k (s : (Int × Unit)) => M_slices_Index_int_int_l3 F x1 x4 k s.1) (0, ()) F ?_ (hF := (fk_cons 0 rfl fk_nil))
    intro k58
    rintro ⟨x47, _⟩
    try dsimp only
    refine sxc_meq (m' := M_slices_Index_int_int_b3 F x1 x4 (M_slices_Index_int_int_l3 F x1 x4 k58) x47) rfl ?_
    refine sxc_seq ?_
    refine sxc_region ?_
    refine sxo_lss rfl rfl rfl rfl ?_
    refine sxo_nil ?_
    refine sxq_next ?_
    refine sxc_seq ?_
    refine sxc_if rfl (fun h68 => ?_) (fun h68 => ?_)
    · refine sxc_skip ?_
      refine sxq_next ?_
      refine sxc_seq ?_
      refine sxc_block ?_
      refine sxc_seq ?_
      refine sxc_region ?_
      refine sxo_move rfl rfl rfl ?_
      refine sxo_assign rfl rfl rfl ?_
      refine sxo_nil ?_
      refine sxq_next ?_
      refine sxc_seq ?_
      refine sxc_region ?_
      refine sxo_move rfl rfl rfl ?_
      refine sxo_move rfl rfl rfl ?_
      refine sxo_move rfl rfl rfl ?_
      refine sxo_indexF (j := 0) (eI_ok .i64) (by decide) rfl Try.underlying25 tf3 rfl rfl rfl rfl (fun x64 e64 b65 o66 => ?_)
      refine sxo_loadF (j := 0) rfl rfl tf3 rfl rfl (fun _ => rfl) rfl rfl ?_
      refine sxo_eql rfl rfl rfl rfl ?_
      refine sxo_nil ?_
      refine sxq_next ?_
      refine sxc_if rfl (fun h67 => ?_) (fun h67 => ?_)
      · refine sxc_seq ?_
        refine sxc_region ?_
        refine sxo_move rfl rfl rfl ?_
        refine sxo_assign rfl rfl rfl ?_
        refine sxo_nil ?_
        refine sxq_next ?_
        refine sxc_ret ?_
        refine sxq_blkR ?_
        refine sxq_thenR ?_
        refine sxq_thenR ?_
        refine sxq_blkR ?_
        refine sxq_thenR ?_
        exact sxq_doneP () (res1 rfl rfl)
      · refine sxc_skip ?_
        refine sxq_blkN ?_
        refine sxq_next ?_
        refine sxc_region ?_
        refine sxo_add rfl rfl rfl rfl ?_
        refine sxo_move rfl rfl rfl ?_
        refine sxo_nil ?_
        exact sxq_againP (iadd .i64 x47 1, ()) (hF := (fk_cons 1 rfl fk_nil))
    · refine sxc_exit ?_
      refine sxq_thenX ?_
      refine sxq_thenX ?_
      refine sxq_blkX ?_
      exact sxq_meetP ((), ())
  · rintro ⟨_, _⟩
    try dsimp only
    refine sxc_seq ?_
    refine sxc_region ?_
    refine sxo_assign rfl rfl rfl ?_
    refine sxo_nil ?_
    refine sxq_next ?_
    refine sxc_ret ?_
    exact sxq_doneP () (res1 rfl rfl)

theorem C_slices_Min_int_int (F : Nat) (x1 : List Int) (a2 : Option Addr) (c3 : Nat) (r : Int) (hm : M_slices_Min_int_int F x1 = some r) :
    Pure Try.prog 85 [.slice a2 x1.length c3] [Sl (eI .i64) 1 (.slice a2 x1.length c3) x1] Unit (fun _ => .int .i64 r) (fun _ => []) (fun _ => []) := by
  refine pure_of Try.func85 rfl Try.ntmps85 rfl hm (fun w => ?_)
  refine sxc_env (l' := [(0, .slice a2 x1.length c3)]) rfl ?_
  refine sxc_seq ?_
  refine sxc_region ?_
  refine sxo_assign rfl rfl rfl ?_
  refine sxo_nil ?_
  refine sxq_next ?_
  refine sxc_seq ?_
  refine sxc_seq ?_
  refine sxc_region ?_
  refine sxo_move rfl rfl rfl ?_
  refine sxo_len rfl Try.underlying25 rfl rfl ?_
  refine sxo_lss rfl rfl rfl rfl ?_
  refine sxo_nil ?_
  refine sxq_next ?_
  refine sxc_if rfl (fun h63 => ?_) (fun h63 => ?_)
  · exact sxc_none
  · refine sxc_skip ?_
    refine sxq_next ?_
    refine sxc_seq ?_
    refine sxc_region ?_
    refine sxo_move rfl rfl rfl ?_
    refine sxo_indexF (j := 0) (eI_ok .i64) (by decide) rfl Try.underlying25 tf3 rfl rfl rfl rfl (fun x5 e5 b6 o7 => ?_)
    refine sxo_loadF (j := 0) rfl rfl tf3 rfl rfl (fun _ => rfl) rfl rfl ?_
    refine sxo_assign rfl rfl rfl ?_
    refine sxo_nil ?_
    refine sxq_next ?_
    refine sxc_join (fun ((x35, _) : (Int × Unit)) => [(3, .int .i64 x35)]) (fun ((x35, _) : (Int × Unit)) => []) (fun ((x35, _) : (Int × Unit)) => []) (fun ((x35, _) : (Int × Unit)) => []) (fun ((x35, _) : (Int × Unit)) => M_slices_Min_int_int_j2 F x35) ?_ ?_
    · refine sxc_seq ?_
      refine sxc_region ?_
      refine sxo_assign rfl rfl rfl ?_
      refine sxo_nil ?_
      refine sxq_next ?_
      refine sxc_block ?_
      refine sxc_loopP (fun (((x44, x45), _) : ((Int × Int) × Unit)) => [(0, .slice a2 x1.length c3), (3, .int .i64 x44), (4, .int .i64 x45)]) (fun (((x44, x45), _) : ((Int × Int) × Unit)) => []) (fun (((x44, x45), _) : ((Int × Int) × Unit)) => []) (fun (((x44, x45), _) : ((Int × Int) × Unit)) => [Sl (eI .i64) 1 (.slice a2 x1.length c3) x1]) (fun k (s : ((Int × Int) × Unit)) => M_slices_Min_int_int_l3 F x1 k s.1) ((x5, 1), ()) F ?_ (hF := (fk_cons 1 rfl fk_nil))
      intro k54
      rintro ⟨⟨x44, x45⟩, _⟩
      try dsimp only
      refine sxc_meq (m' := M_slices_Min_int_int_b3 F x1 (M_slices_Min_int_int_l3 F x1 k54) x44 x45) rfl ?_
      refine sxc_seq ?_
      refine sxc_seq ?_
      refine sxc_region ?_
      refine sxo_move rfl rfl rfl ?_
      refine sxo_move rfl rfl rfl ?_
      refine sxo_len rfl Try.underlying25 rfl rfl ?_
      refine sxo_lss rfl rfl rfl rfl ?_
      refine sxo_nil ?_
      refine sxq_next ?_
      refine sxc_if rfl (fun h62 => ?_) (fun h62 => ?_)
      · refine sxc_skip ?_
        refine sxq_next ?_
        refine sxc_seq ?_
        refine sxc_block ?_
        refine sxc_region ?_
        refine sxo_move rfl rfl rfl ?_
        refine sxo_move rfl rfl rfl ?_
        refine sxo_move rfl rfl rfl ?_
        refine sxo_indexF (j := 0) (eI_ok .i64) (by decide) rfl Try.underlying25 tf3 rfl rfl rfl rfl (fun x59 e59 b60 o61 => ?_)
        refine sxo_loadF (j := 0) rfl rfl tf3 rfl rfl (fun _ => rfl) rfl rfl ?_
        refine sxo_min rfl rfl rfl rfl ?_
        refine sxo_assign rfl rfl rfl ?_
        refine sxo_nil ?_
        refine sxq_blkN ?_
        refine sxq_next ?_
        refine sxc_region ?_
        refine sxo_move rfl rfl rfl ?_
        refine sxo_add rfl rfl rfl rfl ?_
        refine sxo_assign rfl rfl rfl ?_
        refine sxo_nil ?_
        exact sxq_againP ((imin x44 x59, iadd .i64 x45 1), ()) (hF := (fk_cons 1 rfl fk_nil))
      · refine sxc_exit ?_
        refine sxq_thenX ?_
        refine sxq_thenX ?_
        refine sxq_blkX ?_
        exact sxq_meetP (x44, ())
    · rintro ⟨x35, _⟩
      try dsimp only
      refine sxc_seq ?_
      refine sxc_region ?_
      refine sxo_move rfl rfl rfl ?_
      refine sxo_assign rfl rfl rfl ?_
      refine sxo_nil ?_
      refine sxq_next ?_
      refine sxc_ret ?_
      exact sxq_doneP () (res1 rfl rfl)

theorem C_strong_finder_close (F : Nat) (g1 : Nat) (x2 : List (List Int)) (a3 : Option Addr) (c4 : (Nat × List (Option Addr × Nat))) (x5 : List Int) (a6 : Option Addr) (c7 : Nat) (x8 : List Int) (a9 : Option Addr) (c10 : Nat) (x11 : List Int) (a12 : Option Addr) (c13 : Nat) (x14 : List Int) (a15 : Option Addr) (c16 : Nat) (x17 : Int) (x18 : Int) (r : (List Int × List Int × List Int × List Int × Int)) (hm : M_strong_finder_close F x2 x5 x8 x11 x14 x17 x18 = some r) :
    PureM Try.prog 77 [.pointer (some ⟨g1, 0, none⟩), .int .i64 x18] [⟨g1, 91, [.slice a3 x2.length c4.1, .slice a6 x5.length c7, .slice a9 x8.length c10, .slice a12 x11.length c13, .slice a15 x14.length c16, .int .i64 x17]⟩] [Ro (eI .i64) 3 1 (.slice a6 x5.length c7) x5, Ro (eI .i64) 3 1 (.slice a9 x8.length c10) x8, Ro (eI .i64) 3 1 (.slice a12 x11.length c13) x11, Ro (eI .i64) 3 1 (.slice a15 x14.length c16) x14] [SlN eN25 iN25 1 (.slice a3 x2.length c4.1) x2 c4.2] ((Option Addr × Nat) × (Option Addr × Nat) × (Option Addr × Nat) × (Option Addr × Nat)) (fun _ => .tuple #[]) (fun g => [⟨g1, 91, [.slice a3 x2.length c4.1, .slice g.1.1 r.1.length g.1.2, .slice g.2.1.1 r.2.1.length g.2.1.2, .slice g.2.2.1.1 r.2.2.1.length g.2.2.1.2, .slice g.2.2.2.1 r.2.2.2.1.length g.2.2.2.2, .int .i64 r.2.2.2.2]⟩]) (fun g => [Ro (eI .i64) 3 1 (.slice g.1.1 r.1.length g.1.2) r.1, Ro (eI .i64) 3 1 (.slice g.2.1.1 r.2.1.length g.2.1.2) r.2.1, Ro (eI .i64) 3 1 (.slice g.2.2.1.1 r.2.2.1.length g.2.2.1.2) r.2.2.1, Ro (eI .i64) 3 1 (.slice g.2.2.2.1 r.2.2.2.1.length g.2.2.2.2) r.2.2.2.1]) := by
  refine pureM_of Try.func77 rfl Try.ntmps77 rfl hm (fun w => ?_)
  refine sxc_env (l' := [(0, .pointer (some ⟨g1, 0, none⟩)), (1, .int .i64 x18)]) rfl ?_
  refine sxc_seq ?_
  refine sxc_region ?_
  refine sxo_move rfl rfl rfl ?_
  refine sxo_nilCheck rfl rfl rfl ?_
  refine sxo_fieldAddr rfl rfl ff91_3 rfl ?_
  refine sxo_loadB (i := 0) rfl rfl tf25 rfl rfl (fun _ => rfl) rfl rfl ?_
  refine sxo_move rfl rfl rfl ?_
  refine sxo_call ent34 rfl rfl rfl (fun x19 e19 => C_slices_Index_int_int F x11 a12 c13 x18 x19 e19) (.consR 2 (Ro (eI .i64) 3 1 (.slice a12 x11.length c13) x11) rfl .nil) (fun x19 e19 => ?_)
  intro _
  refine sxo_assign rfl rfl rfl ?_
  refine sxo_nil ?_
  refine sxq_next ?_
  refine sxc_seq ?_
  refine sxc_region ?_
  refine sxo_move rfl rfl rfl ?_
  refine sxo_nilCheck rfl rfl rfl ?_
  refine sxo_fieldAddr rfl rfl ff91_3 rfl ?_
  refine sxo_loadB (i := 0) rfl rfl tf25 rfl rfl (fun _ => rfl) rfl rfl ?_
  refine sxo_move rfl rfl rfl ?_
  refine sxo_cutW (j := 2) rfl Try.underlying25 tf3 rfl rfl rfl rfl (fun h20 g21 h22 => ?_)
  refine sxo_assign rfl rfl rfl ?_
  refine sxo_nil ?_
  refine sxq_next ?_
  refine sxc_seq ?_
  refine sxc_region ?_
  refine sxo_move rfl rfl rfl ?_
  refine sxo_again (d := 21) (v := .slice (some ⟨g21, x19.toNat * 1, none⟩) (x11.drop x19.toNat).length (c13 - x19.toNat)) rfl (by rw [List.length_drop]) ?_
  refine sxo_call ent85 rfl rfl rfl (fun x23 e23 => C_slices_Min_int_int F (x11.drop x19.toNat) (some ⟨g21, x19.toNat * 1, none⟩) (c13 - x19.toNat) x23 e23) (.consG 2 rfl (win_sl (eI_ok .i64) h22 (by have := h20; omega)) .nil) (fun x23 e23 => ?_)
  intro _
  refine sxo_assign rfl rfl rfl ?_
  refine sxo_nil ?_
  refine sxq_next ?_
  refine sxc_join (fun ((x75, _) : (List Int × Unit)) => [(0, .pointer (some ⟨g1, 0, none⟩)), (4, .int .i64 x19)]) (fun ((x75, _) : (List Int × Unit)) => [⟨g1, 91, [.slice a3 x2.length c4.1, .slice a6 x5.length c7, .slice a9 x8.length c10, .slice a12 x11.length c13, .slice a15 x75.length c16, .int .i64 x17]⟩]) (fun ((x75, _) : (List Int × Unit)) => [Ro (eI .i64) 3 1 (.slice a6 x5.length c7) x5, Ro (eI .i64) 3 1 (.slice a9 x8.length c10) x8, Ro (eI .i64) 3 1 (.slice a12 x11.length c13) x11, Ro (eI .i64) 3 1 (.slice a15 x75.length c16) x75]) (fun ((x75, _) : (List Int × Unit)) => [SlN eN25 iN25 1 (.slice a3 x2.length c4.1) x2 c4.2]) (fun ((x75, _) : (List Int × Unit)) => M_strong_finder_close_j2 F x5 x8 x11 x17 x19 x75) ?_ ?_
  · refine sxc_seq ?_
    refine sxc_region ?_
    refine sxo_move rfl rfl rfl ?_
    refine sxo_len rfl Try.underlying25 rfl rfl ?_
    refine sxo_move rfl rfl rfl ?_
    refine sxo_nil ?_
    refine sxq_next ?_
    refine sxc_block ?_
    refine sxc_loopP (fun (((x93, x94), _) : ((Int × List Int) × Unit)) => [(0, .pointer (some ⟨g1, 0, none⟩)), (4, .int .i64 x19), (6, .int .i64 x23), (23, .slice (some ⟨g21, x19.toNat * 1, none⟩) (x11.length - x19.toNat) (c13 - x19.toNat)), (24, .int .i64 ((x11.length - x19.toNat : Nat) : Int)), (25, .int .i64 x93)]) (fun (((x93, x94), _) : ((Int × List Int) × Unit)) => [⟨g1, 91, [.slice a3 x2.length c4.1, .slice a6 x5.length c7, .slice a9 x8.length c10, .slice a12 x11.length c13, .slice a15 x94.length c16, .int .i64 x17]⟩]) (fun (((x93, x94), _) : ((Int × List Int) × Unit)) => [Ro (eI .i64) 3 1 (.slice a6 x5.length c7) x5, Ro (eI .i64) 3 1 (.slice a9 x8.length c10) x8, Ro (eI .i64) 3 1 (.slice a12 x11.length c13) x11, Ro (eI .i64) 3 1 (.slice a15 x94.length c16) x94]) (fun (((x93, x94), _) : ((Int × List Int) × Unit)) => [SlN eN25 iN25 1 (.slice a3 x2.length c4.1) x2 c4.2]) (fun k (s : ((Int × List Int) × Unit)) => M_strong_finder_close_l3 F x5 x8 x11 x17 x19 x23 k s.1) ((0, x14), ()) F ?_ (hB := (.cons 0 rfl .nil)) (hR := (.cons 0 rfl (.cons 0 rfl (.cons 0 rfl (.cons 0 rfl .nil))))) (hF := (fk_cons 0 rfl fk_nil))
    intro k111
    rintro ⟨⟨x93, x94⟩, _⟩
    try dsimp only
    refine sxc_meq (m' := M_strong_finder_close_b3 F x5 x8 x11 x17 x19 x23 (M_strong_finder_close_l3 F x5 x8 x11 x17 x19 x23 k111) x93 x94) rfl ?_
    refine sxc_seq ?_
    refine sxc_region ?_
    refine sxo_lss rfl rfl rfl rfl ?_
    refine sxo_nil ?_
    refine sxq_next ?_
    refine sxc_seq ?_
    refine sxc_if rfl (fun h127 => ?_) (fun h127 => ?_)
    · refine sxc_skip ?_
      refine sxq_next ?_
      refine sxc_seq ?_
      refine sxc_block ?_
      refine sxc_seq ?_
      refine sxc_region ?_
      refine sxo_indexW (xs := x11) rfl rfl Try.underlying25 tf3 rfl rfl rfl (fun x120 e120 => ?_)
      refine sxo_loadW (j := 2) (eI_ok .i64) rfl rfl tf3 rfl h22 e120 (fun _ => rfl) rfl rfl ?_
      refine sxo_assign rfl rfl rfl ?_
      refine sxo_nil ?_
      refine sxq_next ?_
      refine sxc_region ?_
      refine sxo_move rfl rfl rfl ?_
      refine sxo_nilCheck rfl rfl rfl ?_
      refine sxo_fieldAddr rfl rfl ff91_4 rfl ?_
      refine sxo_loadB (i := 0) rfl rfl tf25 rfl rfl (fun _ => rfl) rfl rfl ?_
      refine sxo_move rfl rfl rfl ?_
      refine sxo_move rfl rfl rfl ?_
      refine sxo_indexR (j := 3) rfl Try.underlying25 tf3 rfl rfl rfl rfl (fun x121 e121 g122 h123 => ?_)
      refine sxo_storeL (j := 3) (y' := x23) (eI_ok .i64) rfl rfl rfl tf3 rfl h123 (idx_get e121).2.1 rfl (fun x124 e124 h125 => ?_)
      have h126 : x124.length = x94.length := by rw [← e124, List.length_set]
      refine sxo_again (d := 32) (v := .slice a15 x124.length c16) rfl h125 ?_
      refine sxo_blkAgain (i := 0) (cs' := [.slice a3 x2.length c4.1, .slice a6 x5.length c7, .slice a9 x8.length c10, .slice a12 x11.length c13, .slice a15 x124.length c16, .int .i64 x17]) rfl (by rw [h125] <;> rfl) ?_
      refine sxo_nil ?_
      refine sxq_blkN ?_
      refine sxq_next ?_
      refine sxc_region ?_
      refine sxo_add rfl rfl rfl rfl ?_
      refine sxo_move rfl rfl rfl ?_
      refine sxo_nil ?_
      exact sxq_againP ((iadd .i64 x93 1, x124), ()) (hB := (.cons 0 rfl .nil)) (hR := (.cons 1 rfl (.cons 1 rfl (.cons 1 rfl (.cons 0 rfl .nil))))) (hF := (fk_cons 0 rfl fk_nil))
    · refine sxc_exit ?_
      refine sxq_thenX ?_
      refine sxq_thenX ?_
      refine sxq_blkX ?_
      exact sxq_meetP (x94, ()) (hB := (.cons 0 rfl .nil)) (hR := (.cons 0 rfl (.cons 0 rfl (.cons 0 rfl (.cons 0 rfl .nil))))) (hF := (fk_cons 0 rfl fk_nil))
  · rintro ⟨x75, _⟩
    try dsimp only
    refine sxc_region ?_
    refine sxo_move rfl rfl rfl ?_
    refine sxo_move rfl rfl rfl ?_
    refine sxo_nilCheck rfl rfl rfl ?_
    refine sxo_fieldAddr rfl rfl ff91_3 rfl ?_
    refine sxo_loadB (i := 0) rfl rfl tf25 rfl rfl (fun _ => rfl) rfl rfl ?_
    refine sxo_move rfl rfl rfl ?_
    refine sxo_cutR (i := 2) (eI_ok .i64) rfl Try.underlying25 tf3 rfl rfl rfl rfl (fun x76 e76 => ?_)
    refine sxo_nilCheck rfl rfl rfl ?_
    refine sxo_fieldAddr rfl rfl ff91_3 rfl ?_
    refine sxo_storeB (i := 0) rfl rfl rfl tf25 rfl rfl rfl rfl rfl ?_
    refine sxo_nil ?_
    exact sxq_doneM ((a6, c7), (a9, c10), (a12, c13), (a15, c16)) (res0 rfl) (hB := fun h => by subst h; exact (.cons 0 rfl .nil)) (hR := fun h => by subst h; exact (.cons 1 rfl (.cons 1 rfl (.cons 0 rfl (.cons 0 rfl .nil)))))

set_option maxHeartbeats 4000000 in
theorem C_strong_finder_visit : ∀ (F : Nat) (g1 : Nat) (x2 : List (List Int)) (a3 : Option Addr) (c4 : (Nat × List (Option Addr × Nat))) (x5 : List Int) (a6 : Option Addr) (c7 : Nat) (x8 : List Int) (a9 : Option Addr) (c10 : Nat) (x11 : List Int) (a12 : Option Addr) (c13 : Nat) (x14 : List Int) (a15 : Option Addr) (c16 : Nat) (x17 : Int) (x18 : Int) (r : (List Int × List Int × List Int × List Int × Int)), M_strong_finder_visit F x2 x5 x8 x11 x14 x17 x18 = some r → PureM Try.prog 59 [.pointer (some ⟨g1, 0, none⟩), .int .i64 x18] [⟨g1, 91, [.slice a3 x2.length c4.1, .slice a6 x5.length c7, .slice a9 x8.length c10, .slice a12 x11.length c13, .slice a15 x14.length c16, .int .i64 x17]⟩] [Ro (eI .i64) 3 1 (.slice a6 x5.length c7) x5, Ro (eI .i64) 3 1 (.slice a9 x8.length c10) x8, Ro (eI .i64) 3 1 (.slice a12 x11.length c13) x11, Ro (eI .i64) 3 1 (.slice a15 x14.length c16) x14] [SlN eN25 iN25 1 (.slice a3 x2.length c4.1) x2 c4.2] ((Option Addr × Nat) × (Option Addr × Nat) × (Option Addr × Nat) × (Option Addr × Nat)) (fun _ => .tuple #[]) (fun g => [⟨g1, 91, [.slice a3 x2.length c4.1, .slice g.1.1 r.1.length g.1.2, .slice g.2.1.1 r.2.1.length g.2.1.2, .slice g.2.2.1.1 r.2.2.1.length g.2.2.1.2, .slice g.2.2.2.1 r.2.2.2.1.length g.2.2.2.2, .int .i64 r.2.2.2.2]⟩]) (fun g => [Ro (eI .i64) 3 1 (.slice g.1.1 r.1.length g.1.2) r.1, Ro (eI .i64) 3 1 (.slice g.2.1.1 r.2.1.length g.2.1.2) r.2.1, Ro (eI .i64) 3 1 (.slice g.2.2.1.1 r.2.2.1.length g.2.2.1.2) r.2.2.1, Ro (eI .i64) 3 1 (.slice g.2.2.2.1 r.2.2.2.1.length g.2.2.2.2) r.2.2.2.1]) := by
  intro F
  induction F with
  | zero => intro g1 x2 a3 c4 x5 a6 c7 x8 a9 c10 x11 a12 c13 x14 a15 c16 x17 x18 r hm; exact absurd hm (by simp [M_strong_finder_visit])
  | succ F ih =>
    intro g1 x2 a3 c4 x5 a6 c7 x8 a9 c10 x11 a12 c13 x14 a15 c16 x17 x18 r hm
    refine pureM_of Try.func59 rfl Try.ntmps59 rfl hm (fun w => ?_)
    refine sxc_env (l' := [(0, .pointer (some ⟨g1, 0, none⟩)), (1, .int .i64 x18)]) rfl ?_
    refine sxc_seq ?_
    refine sxc_region ?_
    refine sxo_move rfl rfl rfl ?_
    refine sxo_nilCheck rfl rfl rfl ?_
    refine sxo_fieldAddr rfl rfl ff91_5 rfl ?_
    refine sxo_loadB (i := 0) rfl rfl tf3 rfl rfl (fun _ => rfl) rfl rfl ?_
    refine sxo_add rfl rfl rfl rfl ?_
    refine sxo_nilCheck rfl rfl rfl ?_
    refine sxo_fieldAddr rfl rfl ff91_5 rfl ?_
    refine sxo_storeB (i := 0) rfl rfl rfl tf3 rfl rfl rfl rfl rfl ?_
    refine sxo_nil ?_
    refine sxq_next ?_
    refine sxc_seq ?_
    refine sxc_idxO (j := 0) rfl (fun x33 e33 g34 h35 => ?_)
    replace h35 : a6 = some ⟨g34, 0, none⟩ := h35
    have h36 := own_of (k := x5.length) (c := c7) h35
    refine sxc_idxO (j := 1) rfl (fun x37 e37 g38 h39 => ?_)
    replace h39 : a9 = some ⟨g38, 0, none⟩ := h39
    have h40 := own_of (k := x8.length) (c := c10) h39
    refine sxb_draw mixed [] [⟨g1, 91, [.slice a3 x2.length c4.1, .slice a6 x5.length c7, .slice a9 x8.length c10, .slice a12 x11.length c13, .slice a15 x14.length c16, .int .i64 (iadd .i64 x17 1)]⟩] [SlN eN25 iN25 1 (.slice a3 x2.length c4.1) x2 c4.2] (.cons 0 rfl .nil) (gk_F 0 rfl gk_nil) 22 rfl ?_
    refine sxb_takeP 0 (.pointer (some ⟨g1, 0, none⟩)) rfl rfl rfl (yv_pv rfl) ?_
    refine sxb_takeP 1 (.pointer (some ⟨g1, 0, none⟩)) rfl rfl rfl (yv_pv rfl) ?_
    refine sxb_takeP 2 (.pointer (some ⟨g1, 1, none⟩)) rfl rfl rfl (yv_fieldAddr rfl ff91_1) ?_
    refine sxb_takeB 3 (.slice a6 x5.length c7) rfl rfl rfl (yv_loadB (i := 0) rfl tf25 rfl rfl (fun _ => rfl) rfl) ?_
    refine sxb_takeP 4 (.int .i64 x18) rfl rfl rfl (yv_pv rfl) ?_
    refine sxb_takeP 5 (.pointer (some ⟨g1, 0, none⟩)) rfl rfl rfl (yv_pv rfl) ?_
    refine sxb_takeP 6 (.pointer (some ⟨g1, 0, none⟩)) rfl rfl rfl (yv_pv rfl) ?_
    refine sxb_takeP 7 (.pointer (some ⟨g1, 2, none⟩)) rfl rfl rfl (yv_fieldAddr rfl ff91_2) ?_
    refine sxb_takeB 8 (.slice a9 x8.length c10) rfl rfl rfl (yv_loadB (i := 0) rfl tf25 rfl rfl (fun _ => rfl) rfl) ?_
    refine sxb_takeP 9 (.int .i64 x18) rfl rfl rfl (yv_pv rfl) ?_
    refine sxb_takeP 10 (.pointer (some ⟨g1, 0, none⟩)) rfl rfl rfl (yv_pv rfl) ?_
    refine sxb_takeP 11 (.pointer (some ⟨g1, 0, none⟩)) rfl rfl rfl (yv_pv rfl) ?_
    refine sxb_takeP 12 (.pointer (some ⟨g1, 5, none⟩)) rfl rfl rfl (yv_fieldAddr rfl ff91_5) ?_
    refine sxb_takeB 13 (.int .i64 (iadd .i64 x17 1)) rfl rfl rfl (yv_loadB (i := 0) rfl tf3 rfl rfl (fun _ => rfl) rfl) ?_
    refine sxb_takeP 14 (.pointer (some ⟨g1, 0, none⟩)) rfl rfl rfl (yv_pv rfl) ?_
    refine sxb_takeP 15 (.pointer (some ⟨g1, 0, none⟩)) rfl rfl rfl (yv_pv rfl) ?_
    refine sxb_takeP 16 (.pointer (some ⟨g1, 5, none⟩)) rfl rfl rfl (yv_fieldAddr rfl ff91_5) ?_
    refine sxb_takeB 17 (.int .i64 (iadd .i64 x17 1)) rfl rfl rfl (yv_loadB (i := 0) rfl tf3 rfl rfl (fun _ => rfl) rfl) ?_
    refine sxb_again (d := 16) (v := .slice (some ⟨g34, 0, none⟩) x5.length c7) rfl (by rw [h35] <;> rfl) ?_
    refine sxb_takeP 18 (.pointer (some ⟨g34, x18.toNat * 1, none⟩)) rfl rfl rfl (yv_idxO Try.underlying25 tf3 rfl rfl (idx_get e33).1 (idx_lt e33)) ?_
    refine sxb_again (d := 16) (v := .slice a6 x5.length c7) rfl (by rw [h35] <;> rfl) ?_
    refine sxb_step 19 rfl (by kernel_rfl) rfl ?_
    refine sxo_storeL (j := 0) (y' := iadd .i64 x17 1) (eI_ok .i64) rfl rfl rfl tf3 rfl (own_of h35) (idx_get e33).2.1 rfl (fun x41 e41 h42 => ?_)
    have h43 : x41.length = x5.length := by rw [← e41, List.length_set]
    refine sxo_again (d := 16) (v := .slice a6 x41.length c7) rfl h42 ?_
    refine sxo_blkAgain (i := 0) (cs' := [.slice a3 x2.length c4.1, .slice a6 x41.length c7, .slice a9 x8.length c10, .slice a12 x11.length c13, .slice a15 x14.length c16, .int .i64 (iadd .i64 x17 1)]) rfl (by rw [h42] <;> rfl) ?_
    refine sxo_nil ?_
    refine sxq_anyB (.cons 0 (by rw [h43]; rfl) .nil) (gk_F 0 rfl gk_nil) ?_
    refine sxb_again (d := 21) (v := .slice (some ⟨g38, 0, none⟩) x8.length c10) rfl (by rw [h39] <;> rfl) ?_
    refine sxb_takeP 20 (.pointer (some ⟨g38, x18.toNat * 1, none⟩)) rfl rfl rfl (yv_idxO Try.underlying25 tf3 rfl rfl (idx_get e37).1 (idx_lt e37)) ?_
    refine sxb_again (d := 21) (v := .slice a9 x8.length c10) rfl (by rw [h39] <;> rfl) ?_
    refine sxb_step 21 rfl (by kernel_rfl) rfl ?_
    refine sxo_storeL (j := 1) (y' := iadd .i64 x17 1) (eI_ok .i64) rfl rfl rfl tf3 rfl (own_of h39) (idx_get e37).2.1 rfl (fun x44 e44 h45 => ?_)
    have h46 : x44.length = x8.length := by rw [← e44, List.length_set]
    refine sxo_again (d := 21) (v := .slice a9 x44.length c10) rfl h45 ?_
    refine sxo_blkAgain (i := 0) (cs' := [.slice a3 x2.length c4.1, .slice a6 x41.length c7, .slice a9 x44.length c10, .slice a12 x11.length c13, .slice a15 x14.length c16, .int .i64 (iadd .i64 x17 1)]) rfl (by rw [h45] <;> rfl) ?_
    refine sxo_nil ?_
    refine sxq_anyB (.cons 0 (by rw [h43, h46]; rfl) .nil) (gk_F 0 rfl gk_nil) ?_
    refine sxb_done (by kernel_rfl) ?_
    refine sxq_np ?_ (by intro c h; cases h)
    refine sxq_next ?_
    refine sxc_seq ?_
    refine sxc_region ?_
    refine sxo_move rfl rfl rfl ?_
    refine sxo_move rfl rfl rfl ?_
    refine sxo_nilCheck rfl rfl rfl ?_
    refine sxo_fieldAddr rfl rfl ff91_3 rfl ?_
    refine sxo_loadB (i := 0) rfl rfl tf25 rfl rfl (fun _ => rfl) rfl rfl ?_
    refine sxo_move rfl rfl rfl ?_
    refine sxo_slit (vs := [.int .i64 x18]) (ys := ([x18] : List Int)) (eI_ok .i64) (by decide) rfl Try.underlying25 tf3 rfl rfl rfl rfl rfl (by decide) (fun a47 c48 => ?_)
    refine sxo_app 3 (eI_ok .i64) rfl Try.underlying25 tf3 rfl rfl rfl rfl rfl (.inl ⟨0, _, rfl⟩) rfl rfl (fun x49 e49 a50 c51 => ?_)
    refine sxo_nilCheck rfl rfl rfl ?_
    refine sxo_fieldAddr rfl rfl ff91_3 rfl ?_
    refine sxo_storeB (i := 0) rfl rfl rfl tf25 rfl rfl rfl rfl rfl ?_
    refine sxo_nil ?_
    refine sxq_next ?_
    refine sxc_join (fun (((x418, x421, x424, x427, x428), (a416, c417, a419, c420, a422, c423, a425, c426)) : ((List Int × List Int × List Int × List Int × Int) × (Option Addr × Nat × Option Addr × Nat × Option Addr × Nat × Option Addr × Nat))) => [(0, .pointer (some ⟨g1, 0, none⟩)), (1, .int .i64 x18)]) (fun (((x418, x421, x424, x427, x428), (a416, c417, a419, c420, a422, c423, a425, c426)) : ((List Int × List Int × List Int × List Int × Int) × (Option Addr × Nat × Option Addr × Nat × Option Addr × Nat × Option Addr × Nat))) => [⟨g1, 91, [.slice a3 x2.length c4.1, .slice a416 x418.length c417, .slice a419 x421.length c420, .slice a422 x424.length c423, .slice a425 x427.length c426, .int .i64 x428]⟩]) (fun (((x418, x421, x424, x427, x428), (a416, c417, a419, c420, a422, c423, a425, c426)) : ((List Int × List Int × List Int × List Int × Int) × (Option Addr × Nat × Option Addr × Nat × Option Addr × Nat × Option Addr × Nat))) => [Ro (eI .i64) 3 1 (.slice a416 x418.length c417) x418, Ro (eI .i64) 3 1 (.slice a419 x421.length c420) x421, Ro (eI .i64) 3 1 (.slice a422 x424.length c423) x424, Ro (eI .i64) 3 1 (.slice a425 x427.length c426) x427]) (fun (((x418, x421, x424, x427, x428), (a416, c417, a419, c420, a422, c423, a425, c426)) : ((List Int × List Int × List Int × List Int × Int) × (Option Addr × Nat × Option Addr × Nat × Option Addr × Nat × Option Addr × Nat))) => [SlN eN25 iN25 1 (.slice a3 x2.length c4.1) x2 c4.2]) (fun (((x418, x421, x424, x427, x428), _) : ((List Int × List Int × List Int × List Int × Int) × (Option Addr × Nat × Option Addr × Nat × Option Addr × Nat × Option Addr × Nat))) => M_strong_finder_visit_j5 F x2 x18 x418 x421 x424 x427 x428) ?_ ?_
    · refine sxc_seq ?_
      refine sxc_region ?_
      refine sxo_move rfl rfl rfl ?_
      refine sxo_nilCheck rfl rfl rfl ?_
      refine sxo_fieldAddr rfl rfl ff91_0 rfl ?_
      refine sxo_loadB (i := 0) rfl rfl tf22 rfl rfl (fun _ => rfl) rfl rfl ?_
      refine sxo_move rfl rfl rfl ?_
      refine sxo_indexN (j := 0) eN25_ok (by decide) rfl Try.underlying22 tf25 rfl rfl rfl rfl (fun x455 e455 g458 b456 o457 => ?_)
      refine sxo_loadF (j := 0) rfl rfl tf25 rfl rfl (fun _ => rfl) rfl rfl ?_
      refine sxo_len rfl Try.underlying25 rfl rfl ?_
      refine sxo_move rfl rfl rfl ?_
      refine sxo_nil ?_
      refine sxq_next ?_
      refine sxc_block ?_
      refine sxc_loopP (fun (((x574, x577, x580, x583, x586, x587), (a575, c576, a578, c579, a581, c582, a584, c585)) : ((Int × List Int × List Int × List Int × List Int × Int) × (Option Addr × Nat × Option Addr × Nat × Option Addr × Nat × Option Addr × Nat))) => [(0, .pointer (some ⟨g1, 0, none⟩)), (1, .int .i64 x18), (49, .slice g458.1 x455.length g458.2), (50, .int .i64 (x455.length : Int)), (51, .int .i64 x574)]) (fun (((x574, x577, x580, x583, x586, x587), (a575, c576, a578, c579, a581, c582, a584, c585)) : ((Int × List Int × List Int × List Int × List Int × Int) × (Option Addr × Nat × Option Addr × Nat × Option Addr × Nat × Option Addr × Nat))) => [⟨g1, 91, [.slice a3 x2.length c4.1, .slice a575 x577.length c576, .slice a578 x580.length c579, .slice a581 x583.length c582, .slice a584 x586.length c585, .int .i64 x587]⟩]) (fun (((x574, x577, x580, x583, x586, x587), (a575, c576, a578, c579, a581, c582, a584, c585)) : ((Int × List Int × List Int × List Int × List Int × Int) × (Option Addr × Nat × Option Addr × Nat × Option Addr × Nat × Option Addr × Nat))) => [Ro (eI .i64) 3 1 (.slice a575 x577.length c576) x577, Ro (eI .i64) 3 1 (.slice a578 x580.length c579) x580, Ro (eI .i64) 3 1 (.slice a581 x583.length c582) x583, Ro (eI .i64) 3 1 (.slice a584 x586.length c585) x586]) (fun (((x574, x577, x580, x583, x586, x587), (a575, c576, a578, c579, a581, c582, a584, c585)) : ((Int × List Int × List Int × List Int × List Int × Int) × (Option Addr × Nat × Option Addr × Nat × Option Addr × Nat × Option Addr × Nat))) => [Sl (eI .i64) 1 (.slice g458.1 x455.length g458.2) x455, SlN eN25 iN25 1 (.slice a3 x2.length c4.1) x2 c4.2]) (fun k (s : ((Int × List Int × List Int × List Int × List Int × Int) × (Option Addr × Nat × Option Addr × Nat × Option Addr × Nat × Option Addr × Nat))) => M_strong_finder_visit_l8 F (M_strong_finder_visit F) x2 x18 x455 k s.1) ((0, x41, x44, x49, x14, iadd .i64 x17 1), (a6, c7, a9, c10, a50, c51, a15, c16)) F ?_ (hB := (.cons 0 rfl .nil)) (hR := (.cons 3 rfl (.cons 2 rfl (.cons 0 rfl (.cons 1 rfl .nil))))) (hF := (fk_cons 1 rfl (fk_cons 2 rfl fk_nil)))
      intro k703
      rintro ⟨⟨x574, x577, x580, x583, x586, x587⟩, ⟨a575, c576, a578, c579, a581, c582, a584, c585⟩⟩
      try dsimp only
      refine sxc_meq (m' := M_strong_finder_visit_b8 F (M_strong_finder_visit F) x2 x18 x455 (M_strong_finder_visit_l8 F (M_strong_finder_visit F) x2 x18 x455 k703) x574 x577 x580 x583 x586 x587) rfl ?_
      refine sxc_seq ?_
      refine sxc_region ?_
      refine sxo_lss rfl rfl rfl rfl ?_
      refine sxo_nil ?_
      refine sxq_next ?_
      refine sxc_seq ?_
      refine sxc_if rfl (fun h818 => ?_) (fun h818 => ?_)
      · refine sxc_skip ?_
        refine sxq_next ?_
        refine sxc_join (fun (((x757, x760, x763, x766, x767), (a755, c756, a758, c759, a761, c762, a764, c765)) : ((List Int × List Int × List Int × List Int × Int) × (Option Addr × Nat × Option Addr × Nat × Option Addr × Nat × Option Addr × Nat))) => [(0, .pointer (some ⟨g1, 0, none⟩)), (1, .int .i64 x18), (49, .slice g458.1 x455.length g458.2), (50, .int .i64 (x455.length : Int)), (51, .int .i64 x574)]) (fun (((x757, x760, x763, x766, x767), (a755, c756, a758, c759, a761, c762, a764, c765)) : ((List Int × List Int × List Int × List Int × Int) × (Option Addr × Nat × Option Addr × Nat × Option Addr × Nat × Option Addr × Nat))) => [⟨g1, 91, [.slice a3 x2.length c4.1, .slice a755 x757.length c756, .slice a758 x760.length c759, .slice a761 x763.length c762, .slice a764 x766.length c765, .int .i64 x767]⟩]) (fun (((x757, x760, x763, x766, x767), (a755, c756, a758, c759, a761, c762, a764, c765)) : ((List Int × List Int × List Int × List Int × Int) × (Option Addr × Nat × Option Addr × Nat × Option Addr × Nat × Option Addr × Nat))) => [Ro (eI .i64) 3 1 (.slice a755 x757.length c756) x757, Ro (eI .i64) 3 1 (.slice a758 x760.length c759) x760, Ro (eI .i64) 3 1 (.slice a761 x763.length c762) x763, Ro (eI .i64) 3 1 (.slice a764 x766.length c765) x766]) (fun (((x757, x760, x763, x766, x767), (a755, c756, a758, c759, a761, c762, a764, c765)) : ((List Int × List Int × List Int × List Int × Int) × (Option Addr × Nat × Option Addr × Nat × Option Addr × Nat × Option Addr × Nat))) => [Sl (eI .i64) 1 (.slice g458.1 x455.length g458.2) x455, SlN eN25 iN25 1 (.slice a3 x2.length c4.1) x2 c4.2]) (fun (((x757, x760, x763, x766, x767), _) : ((List Int × List Int × List Int × List Int × Int) × (Option Addr × Nat × Option Addr × Nat × Option Addr × Nat × Option Addr × Nat))) => M_strong_finder_visit_j9 F (M_strong_finder_visit_l8 F (M_strong_finder_visit F) x2 x18 x455 k703) x574 x757 x760 x763 x766 x767) ?_ ?_
        · refine sxc_block ?_
          refine sxc_seq ?_
          refine sxc_region ?_
          refine sxo_indexF (j := 0) (eI_ok .i64) (by decide) rfl Try.underlying25 tf3 rfl rfl rfl rfl (fun x768 e768 b769 o770 => ?_)
          refine sxo_loadF (j := 0) rfl rfl tf3 rfl rfl (fun _ => rfl) rfl rfl ?_
          refine sxo_assign rfl rfl rfl ?_
          refine sxo_nil ?_
          refine sxq_next ?_
          refine sxc_block ?_
          refine sxc_seq ?_
          refine sxc_region ?_
          refine sxo_move rfl rfl rfl ?_
          refine sxo_nilCheck rfl rfl rfl ?_
          refine sxo_fieldAddr rfl rfl ff91_1 rfl ?_
          refine sxo_loadB (i := 0) rfl rfl tf25 rfl rfl (fun _ => rfl) rfl rfl ?_
          refine sxo_move rfl rfl rfl ?_
          refine sxo_indexR (j := 0) rfl Try.underlying25 tf3 rfl rfl rfl rfl (fun x771 e771 g772 h773 => ?_)
          refine sxo_loadR (j := 0) (y := x771) (eI_ok .i64) rfl rfl tf3 rfl h773 (idx_get e771).2.2 (fun _ => rfl) rfl rfl ?_
          refine sxo_eql rfl rfl rfl rfl ?_
          refine sxo_assign rfl rfl rfl ?_
          refine sxo_nil ?_
          refine sxq_next ?_
          refine sxc_if rfl (fun h817 => ?_) (fun h817 => ?_)
          · refine sxc_seq ?_
            refine sxc_region ?_
            refine sxo_move rfl rfl rfl ?_
            refine sxo_move rfl rfl rfl ?_
            refine sxo_callM ent59 rfl rfl rfl (fun x774 e774 => ih g1 x2 a3 c4 x577 a575 c576 x580 a578 c579 x583 a581 c582 x586 a584 c585 x587 x768 x774 e774) (.cons 0 rfl .nil) (.cons 0 rfl (.cons 0 rfl (.cons 0 rfl (.cons 0 rfl .nil)))) (.consF 2 rfl .nil) (fun x774 e774 => ?_)
            rintro ⟨⟨a775, c776⟩, ⟨a777, c778⟩, ⟨a779, c780⟩, ⟨a781, c782⟩⟩
            refine sxo_nil ?_
            refine sxq_next ?_
            refine sxc_idxO (j := 1) rfl (fun x783 e783 g784 h785 => ?_)
            replace h785 : a777 = some ⟨g784, 0, none⟩ := h785
            have h786 := own_of (k := x774.2.1.length) (c := c778) h785
            refine sxc_idxO (j := 1) rfl (fun x787 e787 g788 h789 => ?_)
            replace h789 : a777 = some ⟨g788, 0, none⟩ := h789
            have h790 := own_of (k := x774.2.1.length) (c := c778) h789
            refine sxc_idxO (j := 1) rfl (fun x791 e791 g792 h793 => ?_)
            replace h793 : a777 = some ⟨g792, 0, none⟩ := h793
            have h794 := own_of (k := x774.2.1.length) (c := c778) h793
            refine sxb_draw mixed [21] [⟨g1, 91, [.slice a3 x2.length c4.1, .slice a775 x774.1.length c776, .slice a777 x774.2.1.length c778, .slice a779 x774.2.2.1.length c780, .slice a781 x774.2.2.2.1.length c782, .int .i64 x774.2.2.2.2]⟩] [CellsAt b769 o770 ((eI .i64) x768), Sl (eI .i64) 1 (.slice g458.1 x455.length g458.2) x455, SlN eN25 iN25 1 (.slice a3 x2.length c4.1) x2 c4.2, CellsAt g784 (x18.toNat * 1) ((eI .i64) x783), CellsAt g788 (x768.toNat * 1) ((eI .i64) x787), CellsAt g792 (x18.toNat * 1) ((eI .i64) x791)] (.cons 0 rfl .nil) (gk_F 0 rfl (gk_F 1 rfl (gk_F 2 rfl (gk_R 1 rfl (at_row (eI_ok .i64) e783 h785) (gk_R 1 rfl (at_row (eI_ok .i64) e787 h789) (gk_R 1 rfl (at_row (eI_ok .i64) e791 h793) gk_nil)))))) 22 rfl ?_
            refine sxb_takeP 0 (.pointer (some ⟨g1, 0, none⟩)) rfl rfl rfl (yv_pv rfl) ?_
            refine sxb_takeP 1 (.pointer (some ⟨g1, 0, none⟩)) rfl rfl rfl (yv_pv rfl) ?_
            refine sxb_takeP 2 (.pointer (some ⟨g1, 2, none⟩)) rfl rfl rfl (yv_fieldAddr rfl ff91_2) ?_
            refine sxb_takeB 3 (.slice a777 x774.2.1.length c778) rfl rfl rfl (yv_loadB (i := 0) rfl tf25 rfl rfl (fun _ => rfl) rfl) ?_
            refine sxb_takeP 4 (.int .i64 x18) rfl rfl rfl (yv_pv rfl) ?_
            refine sxb_takeP 5 (.pointer (some ⟨g1, 0, none⟩)) rfl rfl rfl (yv_pv rfl) ?_
            refine sxb_takeP 6 (.pointer (some ⟨g1, 0, none⟩)) rfl rfl rfl (yv_pv rfl) ?_
            refine sxb_takeP 7 (.pointer (some ⟨g1, 2, none⟩)) rfl rfl rfl (yv_fieldAddr rfl ff91_2) ?_
            refine sxb_takeB 8 (.slice a777 x774.2.1.length c778) rfl rfl rfl (yv_loadB (i := 0) rfl tf25 rfl rfl (fun _ => rfl) rfl) ?_
            refine sxb_takeP 9 (.int .i64 x18) rfl rfl rfl (yv_pv rfl) ?_
            refine sxb_again (d := 75) (v := .slice (some ⟨g784, 0, none⟩) x774.2.1.length c778) rfl (by rw [h785] <;> rfl) ?_
            refine sxb_takeP 10 (.pointer (some ⟨g784, x18.toNat * 1, none⟩)) rfl rfl rfl (yv_idxO Try.underlying25 tf3 rfl rfl (idx_get e783).1 (idx_lt e783)) ?_
            refine sxb_again (d := 75) (v := .slice a777 x774.2.1.length c778) rfl (by rw [h785] <;> rfl) ?_
            refine sxb_take 11 (.int .i64 x783) [[21]] rfl rfl rfl (yv_loadF (j := 3) rfl tf3 rfl rfl (fun _ => rfl) rfl) ?_
            refine sxb_takeP 12 (.pointer (some ⟨g1, 0, none⟩)) rfl rfl rfl (yv_pv rfl) ?_
            refine sxb_takeP 13 (.pointer (some ⟨g1, 0, none⟩)) rfl rfl rfl (yv_pv rfl) ?_
            refine sxb_takeP 14 (.pointer (some ⟨g1, 2, none⟩)) rfl rfl rfl (yv_fieldAddr rfl ff91_2) ?_
            refine sxb_takeB 15 (.slice a777 x774.2.1.length c778) rfl rfl rfl (yv_loadB (i := 0) rfl tf25 rfl rfl (fun _ => rfl) rfl) ?_
            refine sxb_takeP 16 (.int .i64 x768) rfl rfl rfl (yv_pv rfl) ?_
            refine sxb_again (d := 82) (v := .slice (some ⟨g788, 0, none⟩) x774.2.1.length c778) rfl (by rw [h789] <;> rfl) ?_
            refine sxb_takeP 17 (.pointer (some ⟨g788, x768.toNat * 1, none⟩)) rfl rfl rfl (yv_idxO Try.underlying25 tf3 rfl rfl (idx_get e787).1 (idx_lt e787)) ?_
            refine sxb_again (d := 82) (v := .slice a777 x774.2.1.length c778) rfl (by rw [h789] <;> rfl) ?_
            refine sxb_take 18 (.int .i64 x787) [[21]] rfl rfl rfl (yv_loadF (j := 4) rfl tf3 rfl rfl (fun _ => rfl) rfl) ?_
            refine sxb_takeP 19 (.int .i64 (imin x783 x787)) rfl rfl rfl (yv_min rfl rfl) ?_
            refine sxb_again (d := 70) (v := .slice (some ⟨g792, 0, none⟩) x774.2.1.length c778) rfl (by rw [h793] <;> rfl) ?_
            refine sxb_takeP 20 (.pointer (some ⟨g792, x18.toNat * 1, none⟩)) rfl rfl rfl (yv_idxO Try.underlying25 tf3 rfl rfl (idx_get e791).1 (idx_lt e791)) ?_
            refine sxb_again (d := 70) (v := .slice a777 x774.2.1.length c778) rfl (by rw [h793] <;> rfl) ?_
            refine sxb_step 21 rfl (by kernel_rfl) rfl ?_
            refine sxo_storeL (j := 1) (y' := imin x783 x787) (eI_ok .i64) rfl rfl rfl tf3 rfl (own_of h793) (idx_get e791).2.1 rfl (fun x795 e795 h796 => ?_)
            have h797 : x795.length = x774.2.1.length := by rw [← e795, List.length_set]
            refine sxo_again (d := 70) (v := .slice a777 x795.length c778) rfl h796 ?_
            refine sxo_again (d := 75) (v := .slice a777 x795.length c778) rfl h796 ?_
            refine sxo_again (d := 82) (v := .slice a777 x795.length c778) rfl h796 ?_
            refine sxo_blkAgain (i := 0) (cs' := [.slice a3 x2.length c4.1, .slice a775 x774.1.length c776, .slice a777 x795.length c778, .slice a779 x774.2.2.1.length c780, .slice a781 x774.2.2.2.1.length c782, .int .i64 x774.2.2.2.2]) rfl (by rw [h796] <;> rfl) ?_
            refine sxo_nil ?_
            refine sxq_anyW 21 rfl (by kernel_rfl) (.cons 0 (by rw [h797]; rfl) .nil) ?_
            refine sxb_done (by kernel_rfl) ?_
            refine sxq_np ?_ (by intro c h; cases h)
            refine sxq_blkN ?_
            refine sxq_blkN ?_
            exact sxq_meetP ((x774.1, x795, x774.2.2.1, x774.2.2.2.1, x774.2.2.2.2), (a775, c776, a777, c778, a779, c780, a781, c782)) (hB := (.cons 0 rfl .nil)) (hR := (.cons 1 rfl (.cons 0 rfl (.cons 0 rfl (.cons 0 rfl .nil))))) (hF := (fk_cons 1 rfl (fk_cons 2 rfl fk_nil)))
          · refine sxc_seq ?_
            refine sxc_region ?_
            refine sxo_move rfl rfl rfl ?_
            refine sxo_nilCheck rfl rfl rfl ?_
            refine sxo_fieldAddr rfl rfl ff91_4 rfl ?_
            refine sxo_loadB (i := 0) rfl rfl tf25 rfl rfl (fun _ => rfl) rfl rfl ?_
            refine sxo_move rfl rfl rfl ?_
            refine sxo_indexR (j := 3) rfl Try.underlying25 tf3 rfl rfl rfl rfl (fun x798 e798 g799 h800 => ?_)
            refine sxo_loadR (j := 3) (y := x798) (eI_ok .i64) rfl rfl tf3 rfl h800 (idx_get e798).2.2 (fun _ => rfl) rfl rfl ?_
            refine sxo_lss rfl rfl rfl rfl ?_
            refine sxo_assign rfl rfl rfl ?_
            refine sxo_nil ?_
            refine sxq_next ?_
            refine sxc_if rfl (fun h816 => ?_) (fun h816 => ?_)
            · refine sxc_idxO (j := 1) rfl (fun x801 e801 g802 h803 => ?_)
              replace h803 : a578 = some ⟨g802, 0, none⟩ := h803
              have h804 := own_of (k := x580.length) (c := c579) h803
              refine sxc_idxO (j := 0) rfl (fun x805 e805 g806 h807 => ?_)
              replace h807 : a575 = some ⟨g806, 0, none⟩ := h807
              have h808 := own_of (k := x577.length) (c := c576) h807
              refine sxc_idxO (j := 1) rfl (fun x809 e809 g810 h811 => ?_)
              replace h811 : a578 = some ⟨g810, 0, none⟩ := h811
              have h812 := own_of (k := x580.length) (c := c579) h811
              refine sxb_draw mixed [21] [⟨g1, 91, [.slice a3 x2.length c4.1, .slice a575 x577.length c576, .slice a578 x580.length c579, .slice a581 x583.length c582, .slice a584 x586.length c585, .int .i64 x587]⟩] [CellsAt b769 o770 ((eI .i64) x768), Sl (eI .i64) 1 (.slice g458.1 x455.length g458.2) x455, SlN eN25 iN25 1 (.slice a3 x2.length c4.1) x2 c4.2, CellsAt g802 (x18.toNat * 1) ((eI .i64) x801), CellsAt g806 (x768.toNat * 1) ((eI .i64) x805), CellsAt g810 (x18.toNat * 1) ((eI .i64) x809)] (.cons 0 rfl .nil) (gk_F 0 rfl (gk_F 1 rfl (gk_F 2 rfl (gk_R 1 rfl (at_row (eI_ok .i64) e801 h803) (gk_R 0 rfl (at_row (eI_ok .i64) e805 h807) (gk_R 1 rfl (at_row (eI_ok .i64) e809 h811) gk_nil)))))) 22 rfl ?_
              refine sxb_takeP 0 (.pointer (some ⟨g1, 0, none⟩)) rfl rfl rfl (yv_pv rfl) ?_
              refine sxb_takeP 1 (.pointer (some ⟨g1, 0, none⟩)) rfl rfl rfl (yv_pv rfl) ?_
              refine sxb_takeP 2 (.pointer (some ⟨g1, 2, none⟩)) rfl rfl rfl (yv_fieldAddr rfl ff91_2) ?_
              refine sxb_takeB 3 (.slice a578 x580.length c579) rfl rfl rfl (yv_loadB (i := 0) rfl tf25 rfl rfl (fun _ => rfl) rfl) ?_
              refine sxb_takeP 4 (.int .i64 x18) rfl rfl rfl (yv_pv rfl) ?_
              refine sxb_takeP 5 (.pointer (some ⟨g1, 0, none⟩)) rfl rfl rfl (yv_pv rfl) ?_
              refine sxb_takeP 6 (.pointer (some ⟨g1, 0, none⟩)) rfl rfl rfl (yv_pv rfl) ?_
              refine sxb_takeP 7 (.pointer (some ⟨g1, 2, none⟩)) rfl rfl rfl (yv_fieldAddr rfl ff91_2) ?_
              refine sxb_takeB 8 (.slice a578 x580.length c579) rfl rfl rfl (yv_loadB (i := 0) rfl tf25 rfl rfl (fun _ => rfl) rfl) ?_
              refine sxb_takeP 9 (.int .i64 x18) rfl rfl rfl (yv_pv rfl) ?_
              refine sxb_again (d := 105) (v := .slice (some ⟨g802, 0, none⟩) x580.length c579) rfl (by rw [h803] <;> rfl) ?_
              refine sxb_takeP 10 (.pointer (some ⟨g802, x18.toNat * 1, none⟩)) rfl rfl rfl (yv_idxO Try.underlying25 tf3 rfl rfl (idx_get e801).1 (idx_lt e801)) ?_
              refine sxb_again (d := 105) (v := .slice a578 x580.length c579) rfl (by rw [h803] <;> rfl) ?_
              refine sxb_take 11 (.int .i64 x801) [[21]] rfl rfl rfl (yv_loadF (j := 3) rfl tf3 rfl rfl (fun _ => rfl) rfl) ?_
              refine sxb_takeP 12 (.pointer (some ⟨g1, 0, none⟩)) rfl rfl rfl (yv_pv rfl) ?_
              refine sxb_takeP 13 (.pointer (some ⟨g1, 0, none⟩)) rfl rfl rfl (yv_pv rfl) ?_
              refine sxb_takeP 14 (.pointer (some ⟨g1, 1, none⟩)) rfl rfl rfl (yv_fieldAddr rfl ff91_1) ?_
              refine sxb_takeB 15 (.slice a575 x577.length c576) rfl rfl rfl (yv_loadB (i := 0) rfl tf25 rfl rfl (fun _ => rfl) rfl) ?_
              refine sxb_takeP 16 (.int .i64 x768) rfl rfl rfl (yv_pv rfl) ?_
              refine sxb_again (d := 112) (v := .slice (some ⟨g806, 0, none⟩) x577.length c576) rfl (by rw [h807] <;> rfl) ?_
              refine sxb_takeP 17 (.pointer (some ⟨g806, x768.toNat * 1, none⟩)) rfl rfl rfl (yv_idxO Try.underlying25 tf3 rfl rfl (idx_get e805).1 (idx_lt e805)) ?_
              refine sxb_again (d := 112) (v := .slice a575 x577.length c576) rfl (by rw [h807] <;> rfl) ?_
              refine sxb_take 18 (.int .i64 x805) [[21]] rfl rfl rfl (yv_loadF (j := 4) rfl tf3 rfl rfl (fun _ => rfl) rfl) ?_
              refine sxb_takeP 19 (.int .i64 (imin x801 x805)) rfl rfl rfl (yv_min rfl rfl) ?_
              refine sxb_again (d := 100) (v := .slice (some ⟨g810, 0, none⟩) x580.length c579) rfl (by rw [h811] <;> rfl) ?_
              refine sxb_takeP 20 (.pointer (some ⟨g810, x18.toNat * 1, none⟩)) rfl rfl rfl (yv_idxO Try.underlying25 tf3 rfl rfl (idx_get e809).1 (idx_lt e809)) ?_
              refine sxb_again (d := 100) (v := .slice a578 x580.length c579) rfl (by rw [h811] <;> rfl) ?_
              refine sxb_step 21 rfl (by kernel_rfl) rfl ?_
              refine sxo_storeL (j := 1) (y' := imin x801 x805) (eI_ok .i64) rfl rfl rfl tf3 rfl (own_of h811) (idx_get e809).2.1 rfl (fun x813 e813 h814 => ?_)
              have h815 : x813.length = x580.length := by rw [← e813, List.length_set]
              refine sxo_again (d := 100) (v := .slice a578 x813.length c579) rfl h814 ?_
              refine sxo_again (d := 105) (v := .slice a578 x813.length c579) rfl h814 ?_
              refine sxo_blkAgain (i := 0) (cs' := [.slice a3 x2.length c4.1, .slice a575 x577.length c576, .slice a578 x813.length c579, .slice a581 x583.length c582, .slice a584 x586.length c585, .int .i64 x587]) rfl (by rw [h814] <;> rfl) ?_
              refine sxo_nil ?_
              refine sxq_anyW 21 rfl (by kernel_rfl) (.cons 0 (by rw [h815]; rfl) .nil) ?_
              refine sxb_done (by kernel_rfl) ?_
              refine sxq_np ?_ (by intro c h; cases h)
              refine sxq_blkN ?_
              refine sxq_blkN ?_
              exact sxq_meetP ((x577, x813, x583, x586, x587), (a575, c576, a578, c579, a581, c582, a584, c585)) (hB := (.cons 0 rfl .nil)) (hR := (.cons 1 rfl (.cons 0 rfl (.cons 0 rfl (.cons 0 rfl .nil))))) (hF := (fk_cons 1 rfl (fk_cons 2 rfl fk_nil)))
            · refine sxc_skip ?_
              refine sxq_blkN ?_
              refine sxq_blkN ?_
              exact sxq_meetP ((x577, x580, x583, x586, x587), (a575, c576, a578, c579, a581, c582, a584, c585)) (hB := (.cons 0 rfl .nil)) (hR := (.cons 0 rfl (.cons 0 rfl (.cons 0 rfl (.cons 0 rfl .nil))))) (hF := (fk_cons 1 rfl (fk_cons 2 rfl fk_nil)))
        · rintro ⟨⟨x757, x760, x763, x766, x767⟩, ⟨a755, c756, a758, c759, a761, c762, a764, c765⟩⟩
          try dsimp only
          refine sxc_region ?_
          refine sxo_add rfl rfl rfl rfl ?_
          refine sxo_move rfl rfl rfl ?_
          refine sxo_nil ?_
          exact sxq_againP ((iadd .i64 x574 1, x757, x760, x763, x766, x767), (a755, c756, a758, c759, a761, c762, a764, c765)) (hB := (.cons 0 rfl .nil)) (hR := (.cons 0 rfl (.cons 0 rfl (.cons 0 rfl (.cons 0 rfl .nil))))) (hF := (fk_cons 0 rfl (fk_cons 1 rfl fk_nil)))
      · refine sxc_exit ?_
        refine sxq_thenX ?_
        refine sxq_thenX ?_
        refine sxq_blkX ?_
        exact sxq_meetP ((x577, x580, x583, x586, x587), (a575, c576, a578, c579, a581, c582, a584, c585)) (hB := (.cons 0 rfl .nil)) (hR := (.cons 0 rfl (.cons 0 rfl (.cons 0 rfl (.cons 0 rfl .nil))))) (hF := (fk_cons 1 rfl fk_nil))
    · rintro ⟨⟨x418, x421, x424, x427, x428⟩, ⟨a416, c417, a419, c420, a422, c423, a425, c426⟩⟩
      try dsimp only
      refine sxc_seq ?_
      refine sxc_idxO (j := 1) rfl (fun x437 e437 g438 h439 => ?_)
      replace h439 : a419 = some ⟨g438, 0, none⟩ := h439
      have h440 := own_of (k := x421.length) (c := c420) h439
      refine sxc_idxO (j := 0) rfl (fun x441 e441 g442 h443 => ?_)
      replace h443 : a416 = some ⟨g442, 0, none⟩ := h443
      have h444 := own_of (k := x418.length) (c := c417) h443
      refine sxb_draw mixed [] [⟨g1, 91, [.slice a3 x2.length c4.1, .slice a416 x418.length c417, .slice a419 x421.length c420, .slice a422 x424.length c423, .slice a425 x427.length c426, .int .i64 x428]⟩] [SlN eN25 iN25 1 (.slice a3 x2.length c4.1) x2 c4.2, CellsAt g438 (x18.toNat * 1) ((eI .i64) x437), CellsAt g442 (x18.toNat * 1) ((eI .i64) x441)] (.cons 0 rfl .nil) (gk_F 0 rfl (gk_R 1 rfl (at_row (eI_ok .i64) e437 h439) (gk_R 0 rfl (at_row (eI_ok .i64) e441 h443) gk_nil))) 15 rfl ?_
      refine sxb_takeP 0 (.pointer (some ⟨g1, 0, none⟩)) rfl rfl rfl (yv_pv rfl) ?_
      refine sxb_takeP 1 (.pointer (some ⟨g1, 0, none⟩)) rfl rfl rfl (yv_pv rfl) ?_
      refine sxb_takeP 2 (.pointer (some ⟨g1, 2, none⟩)) rfl rfl rfl (yv_fieldAddr rfl ff91_2) ?_
      refine sxb_takeB 3 (.slice a419 x421.length c420) rfl rfl rfl (yv_loadB (i := 0) rfl tf25 rfl rfl (fun _ => rfl) rfl) ?_
      refine sxb_takeP 4 (.int .i64 x18) rfl rfl rfl (yv_pv rfl) ?_
      refine sxb_again (d := 122) (v := .slice (some ⟨g438, 0, none⟩) x421.length c420) rfl (by rw [h439] <;> rfl) ?_
      refine sxb_takeP 5 (.pointer (some ⟨g438, x18.toNat * 1, none⟩)) rfl rfl rfl (yv_idxO Try.underlying25 tf3 rfl rfl (idx_get e437).1 (idx_lt e437)) ?_
      refine sxb_again (d := 122) (v := .slice a419 x421.length c420) rfl (by rw [h439] <;> rfl) ?_
      refine sxb_take 6 (.int .i64 x437) [] rfl rfl rfl (yv_loadF (j := 1) rfl tf3 rfl rfl (fun _ => rfl) rfl) ?_
      refine sxb_takeP 7 (.pointer (some ⟨g1, 0, none⟩)) rfl rfl rfl (yv_pv rfl) ?_
      refine sxb_takeP 8 (.pointer (some ⟨g1, 0, none⟩)) rfl rfl rfl (yv_pv rfl) ?_
      refine sxb_takeP 9 (.pointer (some ⟨g1, 1, none⟩)) rfl rfl rfl (yv_fieldAddr rfl ff91_1) ?_
      refine sxb_takeB 10 (.slice a416 x418.length c417) rfl rfl rfl (yv_loadB (i := 0) rfl tf25 rfl rfl (fun _ => rfl) rfl) ?_
      refine sxb_takeP 11 (.int .i64 x18) rfl rfl rfl (yv_pv rfl) ?_
      refine sxb_again (d := 129) (v := .slice (some ⟨g442, 0, none⟩) x418.length c417) rfl (by rw [h443] <;> rfl) ?_
      refine sxb_takeP 12 (.pointer (some ⟨g442, x18.toNat * 1, none⟩)) rfl rfl rfl (yv_idxO Try.underlying25 tf3 rfl rfl (idx_get e441).1 (idx_lt e441)) ?_
      refine sxb_again (d := 129) (v := .slice a416 x418.length c417) rfl (by rw [h443] <;> rfl) ?_
      refine sxb_take 13 (.int .i64 x441) [] rfl rfl rfl (yv_loadF (j := 2) rfl tf3 rfl rfl (fun _ => rfl) rfl) ?_
      refine sxb_takeP 14 (.bool ((x437 : Int) == x441)) rfl rfl rfl (yv_pv rfl) ?_
      refine sxb_done (by kernel_rfl) ?_
      refine sxq_np ?_ (by intro c h; cases h)
      refine sxq_next ?_
      refine sxc_if rfl (fun h454 => ?_) (fun h454 => ?_)
      · refine sxc_region ?_
        refine sxo_move rfl rfl rfl ?_
        refine sxo_move rfl rfl rfl ?_
        refine sxo_callM ent77 rfl rfl rfl (fun x445 e445 => C_strong_finder_close F g1 x2 a3 c4 x418 a416 c417 x421 a419 c420 x424 a422 c423 x427 a425 c426 x428 x18 x445 e445) (.cons 0 rfl .nil) (.cons 0 rfl (.cons 0 rfl (.cons 0 rfl (.cons 0 rfl .nil)))) (.consF 0 rfl .nil) (fun x445 e445 => ?_)
        rintro ⟨⟨a446, c447⟩, ⟨a448, c449⟩, ⟨a450, c451⟩, ⟨a452, c453⟩⟩
        refine sxo_nil ?_
        exact sxq_doneM ((a446, c447), (a448, c449), (a450, c451), (a452, c453)) (res0 rfl) (hB := fun h => by subst h; exact (.cons 0 rfl .nil)) (hR := fun h => by subst h; exact (.cons 0 rfl (.cons 0 rfl (.cons 0 rfl (.cons 0 rfl .nil)))))
      · refine sxc_skip ?_
        exact sxq_doneM ((a416, c417), (a419, c420), (a422, c423), (a425, c426)) (res0 rfl) (hB := fun h => by subst h; exact (.cons 0 rfl .nil)) (hR := fun h => by subst h; exact (.cons 0 rfl (.cons 0 rfl (.cons 0 rfl (.cons 0 rfl .nil)))))

set_option maxHeartbeats 4000000 in
theorem C_strong_parts (F : Nat) (x1 : List (List Int)) (a2 : Option Addr) (c3 : (Nat × List (Option Addr × Nat))) (r : List Int) (hm : M_strong_parts F x1 = some r) :
    Pure Try.prog 32 [.agg #[.slice a2 x1.length c3.1]] [SlN eN25 iN25 1 (.slice a2 x1.length c3.1) x1 c3.2] (Option Addr × Nat) (fun g => .slice g.1 r.length g.2) (fun g => [Ro (eI .i64) 3 1 (.slice g.1 r.length g.2) r]) (fun _ => []) := by
  refine pure_of Try.func32 rfl Try.ntmps32 rfl hm (fun w => ?_)
  refine sxc_env (l' := [(0, .agg #[.slice a2 x1.length c3.1])]) rfl ?_
  refine sxc_seq ?_
  refine sxc_region ?_
  refine sxo_box rfl rfl rfl (fun g4 => ?_)
  refine sxo_assign rfl rfl rfl ?_
  refine sxo_nil ?_
  refine sxq_next ?_
  refine sxc_seq ?_
  refine sxc_region ?_
  refine sxo_fieldAddr rfl rfl ff24_0 rfl ?_
  refine sxo_loadB (i := 0) rfl rfl tf22 rfl rfl (fun _ => rfl) rfl rfl ?_
  refine sxo_len rfl Try.underlying22 rfl rfl ?_
  refine sxo_assign rfl rfl rfl ?_
  refine sxo_nil ?_
  refine sxq_next ?_
  refine sxc_join (fun (((x117, x120, x123), (g114, a115, c116, a118, c119, a121, c122)) : ((List Int × List Int × List Int) × (Nat × Option Addr × Nat × Option Addr × Nat × Option Addr × Nat))) => [(3, .int .i64 (x1.length : Int)), (4, .pointer (some ⟨g114, 0, none⟩))]) (fun (((x117, x120, x123), (g114, a115, c116, a118, c119, a121, c122)) : ((List Int × List Int × List Int) × (Nat × Option Addr × Nat × Option Addr × Nat × Option Addr × Nat))) => [⟨g114, 91, [.slice a2 x1.length c3.1, .slice a115 x117.length c116, .slice a118 x120.length c119, .slice none 0 0, .slice a121 x123.length c122, .int .i64 0]⟩]) (fun (((x117, x120, x123), (g114, a115, c116, a118, c119, a121, c122)) : ((List Int × List Int × List Int) × (Nat × Option Addr × Nat × Option Addr × Nat × Option Addr × Nat))) => [Ro (eI .i64) 3 1 (.slice a115 x117.length c116) x117, Ro (eI .i64) 3 1 (.slice a118 x120.length c119) x120, Ro (eI .i64) 3 1 (.slice a121 x123.length c122) x123]) (fun (((x117, x120, x123), (g114, a115, c116, a118, c119, a121, c122)) : ((List Int × List Int × List Int) × (Nat × Option Addr × Nat × Option Addr × Nat × Option Addr × Nat))) => [SlN eN25 iN25 1 (.slice a2 x1.length c3.1) x1 c3.2]) (fun (((x117, x120, x123), _) : ((List Int × List Int × List Int) × (Nat × Option Addr × Nat × Option Addr × Nat × Option Addr × Nat))) => M_strong_parts_j1 F x1 x117 x120 x123) ?_ ?_
  · refine sxb_draw mixed [] [⟨g4, 24, [.slice a2 x1.length c3.1]⟩] [SlN eN25 iN25 1 (.slice a2 x1.length c3.1) x1 c3.2] (.cons 0 rfl .nil) (gk_F 0 rfl gk_nil) 12 rfl ?_
    refine sxb_takeP 0 (.pointer (some ⟨g4, 0, none⟩)) rfl rfl rfl (yv_fieldAddr rfl ff24_0) ?_
    refine sxb_takeB 1 (.slice a2 x1.length c3.1) rfl rfl rfl (yv_loadB (i := 0) rfl tf22 rfl rfl (fun _ => rfl) rfl) ?_
    refine sxb_takeP 2 (.int .i64 (x1.length : Int)) rfl rfl rfl (yv_pv rfl) ?_
    refine sxb_takeP 4 (.int .i64 (x1.length : Int)) rfl rfl rfl (yv_pv rfl) ?_
    refine sxb_takeP 7 (.int .i64 (x1.length : Int)) rfl rfl rfl (yv_pv rfl) ?_
    refine sxb_three 3 5 6 rfl rfl rfl (by kernel_rfl) rfl rfl rfl ?_ ?_ ?_
    · refine sxo_mk (eI_ok .i64) rfl Try.underlying25 tf3 rfl rfl rfl rfl rfl rfl rfl (fun x415 e415 a416 c417 => ?_)
      refine sxo_nil ?_
      refine sxq_anyB (.cons 0 rfl .nil) (gk_F 0 rfl gk_nil) ?_
      refine sxb_two 5 6 rfl rfl (by kernel_rfl) rfl rfl ?_ ?_
      · refine sxo_mk (eI_ok .i64) rfl Try.underlying25 tf3 rfl rfl rfl rfl rfl rfl rfl (fun x418 e418 a419 c420 => ?_)
        refine sxo_nil ?_
        refine sxq_anyB (.cons 0 rfl .nil) (gk_F 0 rfl gk_nil) ?_
        refine sxb_step 6 rfl (by kernel_rfl) rfl ?_
        refine sxo_slit (vs := [.int .i64 (-1)]) (ys := ([-1] : List Int)) (eI_ok .i64) (by decide) rfl Try.underlying25 tf3 rfl rfl rfl rfl rfl (by decide) (fun a421 c422 => ?_)
        refine sxo_nil ?_
        refine sxq_anyB (.cons 0 rfl .nil) (gk_F 0 rfl gk_nil) ?_
        refine sxb_step 8 rfl (by kernel_rfl) rfl ?_
        refine sxo_call ent58 rfl rfl rfl (fun x423 e423 => C_slices_Repeat_int_int F ([-1] : List Int) a421 c422 (x1.length : Int) x423 e423) (.consR 0 (Ro (eI .i64) 3 1 (.slice a421 ([-1] : List Int).length c422) ([-1] : List Int)) rfl .nil) (fun x423 e423 => ?_)
        rintro ⟨a424, c425⟩
        refine sxo_nil ?_
        refine sxq_anyB (.cons 0 rfl .nil) (gk_F 0 rfl gk_nil) ?_
        refine sxb_step 9 rfl (by kernel_rfl) rfl ?_
        refine sxo_build (cells := [.slice a2 x1.length c3.1, .slice a416 x415.length c417, .slice a419 x418.length c420, .slice none 0 0, .slice a424 x423.length c425, .int .i64 0]) rfl st91 rfl (by kernel_rfl) rfl ?_
        refine sxo_nil ?_
        refine sxq_anyB (.cons 0 rfl .nil) (gk_F 0 rfl gk_nil) ?_
        refine sxb_step 10 rfl (by kernel_rfl) rfl ?_
        refine sxo_box rfl rfl rfl (fun g426 => ?_)
        refine sxo_nil ?_
        refine sxq_anyB (.cons 1 rfl .nil) (gk_F 0 rfl gk_nil) ?_
        refine sxb_takeP 11 (.pointer (some ⟨g426, 0, none⟩)) rfl rfl rfl (yv_pv rfl) ?_
        refine sxb_done (by kernel_rfl) ?_
        refine sxq_np ?_ (by intro c h; cases h)
        exact sxq_meetP ((x415, x418, x423), (g426, a416, c417, a419, c420, a424, c425)) (hB := (.cons 0 rfl .nil)) (hR := (.cons 3 rfl (.cons 2 rfl (.cons 0 rfl .nil)))) (hF := (fk_cons 0 rfl fk_nil))
      · refine sxo_meq (m' := ((mk 17592186044416 (0 : Int) (x1.length : Int)).bind fun x429 => ((M_slices_Repeat_int_int F ([-1] : List Int) (x1.length : Int)).bind fun x432 => M_strong_parts_j1 F x1 x415 x429 x432))) (rfl) ?_
        refine sxo_slit (vs := [.int .i64 (-1)]) (ys := ([-1] : List Int)) (eI_ok .i64) (by decide) rfl Try.underlying25 tf3 rfl rfl rfl rfl rfl (by decide) (fun a427 c428 => ?_)
        refine sxo_nil ?_
        refine sxq_anyB (.cons 0 rfl .nil) (gk_F 0 rfl gk_nil) ?_
        refine sxb_two 5 8 rfl rfl (by kernel_rfl) rfl rfl ?_ ?_
        · refine sxo_mk (eI_ok .i64) rfl Try.underlying25 tf3 rfl rfl rfl rfl rfl rfl rfl (fun x429 e429 a430 c431 => ?_)
          refine sxo_nil ?_
          refine sxq_anyB (.cons 0 rfl .nil) (gk_F 0 rfl gk_nil) ?_
          refine sxb_step 8 rfl (by kernel_rfl) rfl ?_
          refine sxo_call ent58 rfl rfl rfl (fun x432 e432 => C_slices_Repeat_int_int F ([-1] : List Int) a427 c428 (x1.length : Int) x432 e432) (.consR 1 (Ro (eI .i64) 3 1 (.slice a427 ([-1] : List Int).length c428) ([-1] : List Int)) rfl .nil) (fun x432 e432 => ?_)
          rintro ⟨a433, c434⟩
          refine sxo_nil ?_
          refine sxq_anyB (.cons 0 rfl .nil) (gk_F 0 rfl gk_nil) ?_
          refine sxb_step 9 rfl (by kernel_rfl) rfl ?_
          refine sxo_build (cells := [.slice a2 x1.length c3.1, .slice a416 x415.length c417, .slice a430 x429.length c431, .slice none 0 0, .slice a433 x432.length c434, .int .i64 0]) rfl st91 rfl (by kernel_rfl) rfl ?_
          refine sxo_nil ?_
          refine sxq_anyB (.cons 0 rfl .nil) (gk_F 0 rfl gk_nil) ?_
          refine sxb_step 10 rfl (by kernel_rfl) rfl ?_
          refine sxo_box rfl rfl rfl (fun g435 => ?_)
          refine sxo_nil ?_
          refine sxq_anyB (.cons 1 rfl .nil) (gk_F 0 rfl gk_nil) ?_
          refine sxb_takeP 11 (.pointer (some ⟨g435, 0, none⟩)) rfl rfl rfl (yv_pv rfl) ?_
          refine sxb_done (by kernel_rfl) ?_
          refine sxq_np ?_ (by intro c h; cases h)
          exact sxq_meetP ((x415, x429, x432), (g435, a416, c417, a430, c431, a433, c434)) (hB := (.cons 0 rfl .nil)) (hR := (.cons 3 rfl (.cons 1 rfl (.cons 0 rfl .nil)))) (hF := (fk_cons 0 rfl fk_nil))
        · refine sxo_meq (m' := ((M_slices_Repeat_int_int F ([-1] : List Int) (x1.length : Int)).bind fun x436 => ((mk 17592186044416 (0 : Int) (x1.length : Int)).bind fun x439 => M_strong_parts_j1 F x1 x415 x439 x436))) (by show ((mk 17592186044416 (0 : Int) (x1.length : Int)).bind fun x429 => ((M_slices_Repeat_int_int F ([-1] : List Int) (x1.length : Int)).bind fun x432 => M_strong_parts_j1 F x1 x415 x429 x432)) = _; generalize (mk 17592186044416 (0 : Int) (x1.length : Int)) = q0; generalize (M_slices_Repeat_int_int F ([-1] : List Int) (x1.length : Int)) = q1; cases q0 <;> cases q1 <;> rfl) ?_
          refine sxo_call ent58 rfl rfl rfl (fun x436 e436 => C_slices_Repeat_int_int F ([-1] : List Int) a427 c428 (x1.length : Int) x436 e436) (.consR 0 (Ro (eI .i64) 3 1 (.slice a427 ([-1] : List Int).length c428) ([-1] : List Int)) rfl .nil) (fun x436 e436 => ?_)
          rintro ⟨a437, c438⟩
          refine sxo_nil ?_
          refine sxq_anyB (.cons 0 rfl .nil) (gk_F 0 rfl gk_nil) ?_
          refine sxb_step 5 rfl (by kernel_rfl) rfl ?_
          refine sxo_mk (eI_ok .i64) rfl Try.underlying25 tf3 rfl rfl rfl rfl rfl rfl rfl (fun x439 e439 a440 c441 => ?_)
          refine sxo_nil ?_
          refine sxq_anyB (.cons 0 rfl .nil) (gk_F 0 rfl gk_nil) ?_
          refine sxb_step 9 rfl (by kernel_rfl) rfl ?_
          refine sxo_build (cells := [.slice a2 x1.length c3.1, .slice a416 x415.length c417, .slice a440 x439.length c441, .slice none 0 0, .slice a437 x436.length c438, .int .i64 0]) rfl st91 rfl (by kernel_rfl) rfl ?_
          refine sxo_nil ?_
          refine sxq_anyB (.cons 0 rfl .nil) (gk_F 0 rfl gk_nil) ?_
          refine sxb_step 10 rfl (by kernel_rfl) rfl ?_
          refine sxo_box rfl rfl rfl (fun g442 => ?_)
          refine sxo_nil ?_
          refine sxq_anyB (.cons 1 rfl .nil) (gk_F 0 rfl gk_nil) ?_
          refine sxb_takeP 11 (.pointer (some ⟨g442, 0, none⟩)) rfl rfl rfl (yv_pv rfl) ?_
          refine sxb_done (by kernel_rfl) ?_
          refine sxq_np ?_ (by intro c h; cases h)
          exact sxq_meetP ((x415, x439, x436), (g442, a416, c417, a440, c441, a437, c438)) (hB := (.cons 0 rfl .nil)) (hR := (.cons 3 rfl (.cons 0 rfl (.cons 0 rfl .nil)))) (hF := (fk_cons 0 rfl fk_nil))
    · refine sxo_meq (m' := ((mk 17592186044416 (0 : Int) (x1.length : Int)).bind fun x443 => ((mk 17592186044416 (0 : Int) (x1.length : Int)).bind fun x446 => ((M_slices_Repeat_int_int F ([-1] : List Int) (x1.length : Int)).bind fun x451 => M_strong_parts_j1 F x1 x446 x443 x451)))) (by show ((mk 17592186044416 (0 : Int) (x1.length : Int)).bind fun x415 => ((mk 17592186044416 (0 : Int) (x1.length : Int)).bind fun x418 => ((M_slices_Repeat_int_int F ([-1] : List Int) (x1.length : Int)).bind fun x423 => M_strong_parts_j1 F x1 x415 x418 x423))) = _; generalize (mk 17592186044416 (0 : Int) (x1.length : Int)) = q0; generalize (M_slices_Repeat_int_int F ([-1] : List Int) (x1.length : Int)) = q1; cases q0 <;> cases q1 <;> rfl) ?_
      refine sxo_mk (eI_ok .i64) rfl Try.underlying25 tf3 rfl rfl rfl rfl rfl rfl rfl (fun x443 e443 a444 c445 => ?_)
      refine sxo_nil ?_
      refine sxq_anyB (.cons 0 rfl .nil) (gk_F 0 rfl gk_nil) ?_
      refine sxb_two 3 6 rfl rfl (by kernel_rfl) rfl rfl ?_ ?_
      · refine sxo_mk (eI_ok .i64) rfl Try.underlying25 tf3 rfl rfl rfl rfl rfl rfl rfl (fun x446 e446 a447 c448 => ?_)
        refine sxo_nil ?_
        refine sxq_anyB (.cons 0 rfl .nil) (gk_F 0 rfl gk_nil) ?_
        refine sxb_step 6 rfl (by kernel_rfl) rfl ?_
        refine sxo_slit (vs := [.int .i64 (-1)]) (ys := ([-1] : List Int)) (eI_ok .i64) (by decide) rfl Try.underlying25 tf3 rfl rfl rfl rfl rfl (by decide) (fun a449 c450 => ?_)
        refine sxo_nil ?_
        refine sxq_anyB (.cons 0 rfl .nil) (gk_F 0 rfl gk_nil) ?_
        refine sxb_step 8 rfl (by kernel_rfl) rfl ?_
        refine sxo_call ent58 rfl rfl rfl (fun x451 e451 => C_slices_Repeat_int_int F ([-1] : List Int) a449 c450 (x1.length : Int) x451 e451) (.consR 0 (Ro (eI .i64) 3 1 (.slice a449 ([-1] : List Int).length c450) ([-1] : List Int)) rfl .nil) (fun x451 e451 => ?_)
        rintro ⟨a452, c453⟩
        refine sxo_nil ?_
        refine sxq_anyB (.cons 0 rfl .nil) (gk_F 0 rfl gk_nil) ?_
        refine sxb_step 9 rfl (by kernel_rfl) rfl ?_
        refine sxo_build (cells := [.slice a2 x1.length c3.1, .slice a447 x446.length c448, .slice a444 x443.length c445, .slice none 0 0, .slice a452 x451.length c453, .int .i64 0]) rfl st91 rfl (by kernel_rfl) rfl ?_
        refine sxo_nil ?_
        refine sxq_anyB (.cons 0 rfl .nil) (gk_F 0 rfl gk_nil) ?_
        refine sxb_step 10 rfl (by kernel_rfl) rfl ?_
        refine sxo_box rfl rfl rfl (fun g454 => ?_)
        refine sxo_nil ?_
        refine sxq_anyB (.cons 1 rfl .nil) (gk_F 0 rfl gk_nil) ?_
        refine sxb_takeP 11 (.pointer (some ⟨g454, 0, none⟩)) rfl rfl rfl (yv_pv rfl) ?_
        refine sxb_done (by kernel_rfl) ?_
        refine sxq_np ?_ (by intro c h; cases h)
        exact sxq_meetP ((x446, x443, x451), (g454, a447, c448, a444, c445, a452, c453)) (hB := (.cons 0 rfl .nil)) (hR := (.cons 2 rfl (.cons 2 rfl (.cons 0 rfl .nil)))) (hF := (fk_cons 0 rfl fk_nil))
      · refine sxo_meq (m' := ((mk 17592186044416 (0 : Int) (x1.length : Int)).bind fun x457 => ((M_slices_Repeat_int_int F ([-1] : List Int) (x1.length : Int)).bind fun x460 => M_strong_parts_j1 F x1 x457 x443 x460))) (rfl) ?_
        refine sxo_slit (vs := [.int .i64 (-1)]) (ys := ([-1] : List Int)) (eI_ok .i64) (by decide) rfl Try.underlying25 tf3 rfl rfl rfl rfl rfl (by decide) (fun a455 c456 => ?_)
        refine sxo_nil ?_
        refine sxq_anyB (.cons 0 rfl .nil) (gk_F 0 rfl gk_nil) ?_
        refine sxb_two 3 8 rfl rfl (by kernel_rfl) rfl rfl ?_ ?_
        · refine sxo_mk (eI_ok .i64) rfl Try.underlying25 tf3 rfl rfl rfl rfl rfl rfl rfl (fun x457 e457 a458 c459 => ?_)
          refine sxo_nil ?_
          refine sxq_anyB (.cons 0 rfl .nil) (gk_F 0 rfl gk_nil) ?_
          refine sxb_step 8 rfl (by kernel_rfl) rfl ?_
          refine sxo_call ent58 rfl rfl rfl (fun x460 e460 => C_slices_Repeat_int_int F ([-1] : List Int) a455 c456 (x1.length : Int) x460 e460) (.consR 1 (Ro (eI .i64) 3 1 (.slice a455 ([-1] : List Int).length c456) ([-1] : List Int)) rfl .nil) (fun x460 e460 => ?_)
          rintro ⟨a461, c462⟩
          refine sxo_nil ?_
          refine sxq_anyB (.cons 0 rfl .nil) (gk_F 0 rfl gk_nil) ?_
          refine sxb_step 9 rfl (by kernel_rfl) rfl ?_
          refine sxo_build (cells := [.slice a2 x1.length c3.1, .slice a458 x457.length c459, .slice a444 x443.length c445, .slice none 0 0, .slice a461 x460.length c462, .int .i64 0]) rfl st91 rfl (by kernel_rfl) rfl ?_
          refine sxo_nil ?_
          refine sxq_anyB (.cons 0 rfl .nil) (gk_F 0 rfl gk_nil) ?_
          refine sxb_step 10 rfl (by kernel_rfl) rfl ?_
          refine sxo_box rfl rfl rfl (fun g463 => ?_)
          refine sxo_nil ?_
          refine sxq_anyB (.cons 1 rfl .nil) (gk_F 0 rfl gk_nil) ?_
          refine sxb_takeP 11 (.pointer (some ⟨g463, 0, none⟩)) rfl rfl rfl (yv_pv rfl) ?_
          refine sxb_done (by kernel_rfl) ?_
          refine sxq_np ?_ (by intro c h; cases h)
          exact sxq_meetP ((x457, x443, x460), (g463, a458, c459, a444, c445, a461, c462)) (hB := (.cons 0 rfl .nil)) (hR := (.cons 1 rfl (.cons 2 rfl (.cons 0 rfl .nil)))) (hF := (fk_cons 0 rfl fk_nil))
        · refine sxo_meq (m' := ((M_slices_Repeat_int_int F ([-1] : List Int) (x1.length : Int)).bind fun x464 => ((mk 17592186044416 (0 : Int) (x1.length : Int)).bind fun x467 => M_strong_parts_j1 F x1 x467 x443 x464))) (by show ((mk 17592186044416 (0 : Int) (x1.length : Int)).bind fun x457 => ((M_slices_Repeat_int_int F ([-1] : List Int) (x1.length : Int)).bind fun x460 => M_strong_parts_j1 F x1 x457 x443 x460)) = _; generalize (mk 17592186044416 (0 : Int) (x1.length : Int)) = q0; generalize (M_slices_Repeat_int_int F ([-1] : List Int) (x1.length : Int)) = q1; cases q0 <;> cases q1 <;> rfl) ?_
          refine sxo_call ent58 rfl rfl rfl (fun x464 e464 => C_slices_Repeat_int_int F ([-1] : List Int) a455 c456 (x1.length : Int) x464 e464) (.consR 0 (Ro (eI .i64) 3 1 (.slice a455 ([-1] : List Int).length c456) ([-1] : List Int)) rfl .nil) (fun x464 e464 => ?_)
          rintro ⟨a465, c466⟩
          refine sxo_nil ?_
          refine sxq_anyB (.cons 0 rfl .nil) (gk_F 0 rfl gk_nil) ?_
          refine sxb_step 3 rfl (by kernel_rfl) rfl ?_
          refine sxo_mk (eI_ok .i64) rfl Try.underlying25 tf3 rfl rfl rfl rfl rfl rfl rfl (fun x467 e467 a468 c469 => ?_)
          refine sxo_nil ?_
          refine sxq_anyB (.cons 0 rfl .nil) (gk_F 0 rfl gk_nil) ?_
          refine sxb_step 9 rfl (by kernel_rfl) rfl ?_
          refine sxo_build (cells := [.slice a2 x1.length c3.1, .slice a468 x467.length c469, .slice a444 x443.length c445, .slice none 0 0, .slice a465 x464.length c466, .int .i64 0]) rfl st91 rfl (by kernel_rfl) rfl ?_
          refine sxo_nil ?_
          refine sxq_anyB (.cons 0 rfl .nil) (gk_F 0 rfl gk_nil) ?_
          refine sxb_step 10 rfl (by kernel_rfl) rfl ?_
          refine sxo_box rfl rfl rfl (fun g470 => ?_)
          refine sxo_nil ?_
          refine sxq_anyB (.cons 1 rfl .nil) (gk_F 0 rfl gk_nil) ?_
          refine sxb_takeP 11 (.pointer (some ⟨g470, 0, none⟩)) rfl rfl rfl (yv_pv rfl) ?_
          refine sxb_done (by kernel_rfl) ?_
          refine sxq_np ?_ (by intro c h; cases h)
          exact sxq_meetP ((x467, x443, x464), (g470, a468, c469, a444, c445, a465, c466)) (hB := (.cons 0 rfl .nil)) (hR := (.cons 0 rfl (.cons 2 rfl (.cons 0 rfl .nil)))) (hF := (fk_cons 0 rfl fk_nil))
    · refine sxo_meq (m' := ((mk 17592186044416 (0 : Int) (x1.length : Int)).bind fun x473 => ((mk 17592186044416 (0 : Int) (x1.length : Int)).bind fun x476 => ((M_slices_Repeat_int_int F ([-1] : List Int) (x1.length : Int)).bind fun x479 => M_strong_parts_j1 F x1 x473 x476 x479)))) (rfl) ?_
      refine sxo_slit (vs := [.int .i64 (-1)]) (ys := ([-1] : List Int)) (eI_ok .i64) (by decide) rfl Try.underlying25 tf3 rfl rfl rfl rfl rfl (by decide) (fun a471 c472 => ?_)
      refine sxo_nil ?_
      refine sxq_anyB (.cons 0 rfl .nil) (gk_F 0 rfl gk_nil) ?_
      refine sxb_three 3 5 8 rfl rfl rfl (by kernel_rfl) rfl rfl rfl ?_ ?_ ?_
      · refine sxo_mk (eI_ok .i64) rfl Try.underlying25 tf3 rfl rfl rfl rfl rfl rfl rfl (fun x473 e473 a474 c475 => ?_)
        refine sxo_nil ?_
        refine sxq_anyB (.cons 0 rfl .nil) (gk_F 0 rfl gk_nil) ?_
        refine sxb_two 5 8 rfl rfl (by kernel_rfl) rfl rfl ?_ ?_
        · refine sxo_mk (eI_ok .i64) rfl Try.underlying25 tf3 rfl rfl rfl rfl rfl rfl rfl (fun x476 e476 a477 c478 => ?_)
          refine sxo_nil ?_
          refine sxq_anyB (.cons 0 rfl .nil) (gk_F 0 rfl gk_nil) ?_
          refine sxb_step 8 rfl (by kernel_rfl) rfl ?_
          refine sxo_call ent58 rfl rfl rfl (fun x479 e479 => C_slices_Repeat_int_int F ([-1] : List Int) a471 c472 (x1.length : Int) x479 e479) (.consR 2 (Ro (eI .i64) 3 1 (.slice a471 ([-1] : List Int).length c472) ([-1] : List Int)) rfl .nil) (fun x479 e479 => ?_)
          rintro ⟨a480, c481⟩
          refine sxo_nil ?_
          refine sxq_anyB (.cons 0 rfl .nil) (gk_F 0 rfl gk_nil) ?_
          refine sxb_step 9 rfl (by kernel_rfl) rfl ?_
          refine sxo_build (cells := [.slice a2 x1.length c3.1, .slice a474 x473.length c475, .slice a477 x476.length c478, .slice none 0 0, .slice a480 x479.length c481, .int .i64 0]) rfl st91 rfl (by kernel_rfl) rfl ?_
          refine sxo_nil ?_
          refine sxq_anyB (.cons 0 rfl .nil) (gk_F 0 rfl gk_nil) ?_
          refine sxb_step 10 rfl (by kernel_rfl) rfl ?_
          refine sxo_box rfl rfl rfl (fun g482 => ?_)
          refine sxo_nil ?_
          refine sxq_anyB (.cons 1 rfl .nil) (gk_F 0 rfl gk_nil) ?_
          refine sxb_takeP 11 (.pointer (some ⟨g482, 0, none⟩)) rfl rfl rfl (yv_pv rfl) ?_
          refine sxb_done (by kernel_rfl) ?_
          refine sxq_np ?_ (by intro c h; cases h)
          exact sxq_meetP ((x473, x476, x479), (g482, a474, c475, a477, c478, a480, c481)) (hB := (.cons 0 rfl .nil)) (hR := (.cons 2 rfl (.cons 1 rfl (.cons 0 rfl .nil)))) (hF := (fk_cons 0 rfl fk_nil))
        · refine sxo_meq (m' := ((M_slices_Repeat_int_int F ([-1] : List Int) (x1.length : Int)).bind fun x483 => ((mk 17592186044416 (0 : Int) (x1.length : Int)).bind fun x486 => M_strong_parts_j1 F x1 x473 x486 x483))) (by show ((mk 17592186044416 (0 : Int) (x1.length : Int)).bind fun x476 => ((M_slices_Repeat_int_int F ([-1] : List Int) (x1.length : Int)).bind fun x479 => M_strong_parts_j1 F x1 x473 x476 x479)) = _; generalize (mk 17592186044416 (0 : Int) (x1.length : Int)) = q0; generalize (M_slices_Repeat_int_int F ([-1] : List Int) (x1.length : Int)) = q1; cases q0 <;> cases q1 <;> rfl) ?_
          refine sxo_call ent58 rfl rfl rfl (fun x483 e483 => C_slices_Repeat_int_int F ([-1] : List Int) a471 c472 (x1.length : Int) x483 e483) (.consR 1 (Ro (eI .i64) 3 1 (.slice a471 ([-1] : List Int).length c472) ([-1] : List Int)) rfl .nil) (fun x483 e483 => ?_)
          rintro ⟨a484, c485⟩
          refine sxo_nil ?_
          refine sxq_anyB (.cons 0 rfl .nil) (gk_F 0 rfl gk_nil) ?_
          refine sxb_step 5 rfl (by kernel_rfl) rfl ?_
          refine sxo_mk (eI_ok .i64) rfl Try.underlying25 tf3 rfl rfl rfl rfl rfl rfl rfl (fun x486 e486 a487 c488 => ?_)
          refine sxo_nil ?_
          refine sxq_anyB (.cons 0 rfl .nil) (gk_F 0 rfl gk_nil) ?_
          refine sxb_step 9 rfl (by kernel_rfl) rfl ?_
          refine sxo_build (cells := [.slice a2 x1.length c3.1, .slice a474 x473.length c475, .slice a487 x486.length c488, .slice none 0 0, .slice a484 x483.length c485, .int .i64 0]) rfl st91 rfl (by kernel_rfl) rfl ?_
          refine sxo_nil ?_
          refine sxq_anyB (.cons 0 rfl .nil) (gk_F 0 rfl gk_nil) ?_
          refine sxb_step 10 rfl (by kernel_rfl) rfl ?_
          refine sxo_box rfl rfl rfl (fun g489 => ?_)
          refine sxo_nil ?_
          refine sxq_anyB (.cons 1 rfl .nil) (gk_F 0 rfl gk_nil) ?_
          refine sxb_takeP 11 (.pointer (some ⟨g489, 0, none⟩)) rfl rfl rfl (yv_pv rfl) ?_
          refine sxb_done (by kernel_rfl) ?_
          refine sxq_np ?_ (by intro c h; cases h)
          exact sxq_meetP ((x473, x486, x483), (g489, a474, c475, a487, c488, a484, c485)) (hB := (.cons 0 rfl .nil)) (hR := (.cons 2 rfl (.cons 0 rfl (.cons 0 rfl .nil)))) (hF := (fk_cons 0 rfl fk_nil))
      · refine sxo_meq (m' := ((mk 17592186044416 (0 : Int) (x1.length : Int)).bind fun x490 => ((mk 17592186044416 (0 : Int) (x1.length : Int)).bind fun x493 => ((M_slices_Repeat_int_int F ([-1] : List Int) (x1.length : Int)).bind fun x496 => M_strong_parts_j1 F x1 x493 x490 x496)))) (by show ((mk 17592186044416 (0 : Int) (x1.length : Int)).bind fun x473 => ((mk 17592186044416 (0 : Int) (x1.length : Int)).bind fun x476 => ((M_slices_Repeat_int_int F ([-1] : List Int) (x1.length : Int)).bind fun x479 => M_strong_parts_j1 F x1 x473 x476 x479))) = _; generalize (mk 17592186044416 (0 : Int) (x1.length : Int)) = q0; generalize (M_slices_Repeat_int_int F ([-1] : List Int) (x1.length : Int)) = q1; cases q0 <;> cases q1 <;> rfl) ?_
        refine sxo_mk (eI_ok .i64) rfl Try.underlying25 tf3 rfl rfl rfl rfl rfl rfl rfl (fun x490 e490 a491 c492 => ?_)
        refine sxo_nil ?_
        refine sxq_anyB (.cons 0 rfl .nil) (gk_F 0 rfl gk_nil) ?_
        refine sxb_two 3 8 rfl rfl (by kernel_rfl) rfl rfl ?_ ?_
        · refine sxo_mk (eI_ok .i64) rfl Try.underlying25 tf3 rfl rfl rfl rfl rfl rfl rfl (fun x493 e493 a494 c495 => ?_)
          refine sxo_nil ?_
          refine sxq_anyB (.cons 0 rfl .nil) (gk_F 0 rfl gk_nil) ?_
          refine sxb_step 8 rfl (by kernel_rfl) rfl ?_
          refine sxo_call ent58 rfl rfl rfl (fun x496 e496 => C_slices_Repeat_int_int F ([-1] : List Int) a471 c472 (x1.length : Int) x496 e496) (.consR 2 (Ro (eI .i64) 3 1 (.slice a471 ([-1] : List Int).length c472) ([-1] : List Int)) rfl .nil) (fun x496 e496 => ?_)
          rintro ⟨a497, c498⟩
          refine sxo_nil ?_
          refine sxq_anyB (.cons 0 rfl .nil) (gk_F 0 rfl gk_nil) ?_
          refine sxb_step 9 rfl (by kernel_rfl) rfl ?_
          refine sxo_build (cells := [.slice a2 x1.length c3.1, .slice a494 x493.length c495, .slice a491 x490.length c492, .slice none 0 0, .slice a497 x496.length c498, .int .i64 0]) rfl st91 rfl (by kernel_rfl) rfl ?_
          refine sxo_nil ?_
          refine sxq_anyB (.cons 0 rfl .nil) (gk_F 0 rfl gk_nil) ?_
          refine sxb_step 10 rfl (by kernel_rfl) rfl ?_
          refine sxo_box rfl rfl rfl (fun g499 => ?_)
          refine sxo_nil ?_
          refine sxq_anyB (.cons 1 rfl .nil) (gk_F 0 rfl gk_nil) ?_
          refine sxb_takeP 11 (.pointer (some ⟨g499, 0, none⟩)) rfl rfl rfl (yv_pv rfl) ?_
          refine sxb_done (by kernel_rfl) ?_
          refine sxq_np ?_ (by intro c h; cases h)
          exact sxq_meetP ((x493, x490, x496), (g499, a494, c495, a491, c492, a497, c498)) (hB := (.cons 0 rfl .nil)) (hR := (.cons 1 rfl (.cons 1 rfl (.cons 0 rfl .nil)))) (hF := (fk_cons 0 rfl fk_nil))
        · refine sxo_meq (m' := ((M_slices_Repeat_int_int F ([-1] : List Int) (x1.length : Int)).bind fun x500 => ((mk 17592186044416 (0 : Int) (x1.length : Int)).bind fun x503 => M_strong_parts_j1 F x1 x503 x490 x500))) (by show ((mk 17592186044416 (0 : Int) (x1.length : Int)).bind fun x493 => ((M_slices_Repeat_int_int F ([-1] : List Int) (x1.length : Int)).bind fun x496 => M_strong_parts_j1 F x1 x493 x490 x496)) = _; generalize (mk 17592186044416 (0 : Int) (x1.length : Int)) = q0; generalize (M_slices_Repeat_int_int F ([-1] : List Int) (x1.length : Int)) = q1; cases q0 <;> cases q1 <;> rfl) ?_
          refine sxo_call ent58 rfl rfl rfl (fun x500 e500 => C_slices_Repeat_int_int F ([-1] : List Int) a471 c472 (x1.length : Int) x500 e500) (.consR 1 (Ro (eI .i64) 3 1 (.slice a471 ([-1] : List Int).length c472) ([-1] : List Int)) rfl .nil) (fun x500 e500 => ?_)
          rintro ⟨a501, c502⟩
          refine sxo_nil ?_
          refine sxq_anyB (.cons 0 rfl .nil) (gk_F 0 rfl gk_nil) ?_
          refine sxb_step 3 rfl (by kernel_rfl) rfl ?_
          refine sxo_mk (eI_ok .i64) rfl Try.underlying25 tf3 rfl rfl rfl rfl rfl rfl rfl (fun x503 e503 a504 c505 => ?_)
          refine sxo_nil ?_
          refine sxq_anyB (.cons 0 rfl .nil) (gk_F 0 rfl gk_nil) ?_
          refine sxb_step 9 rfl (by kernel_rfl) rfl ?_
          refine sxo_build (cells := [.slice a2 x1.length c3.1, .slice a504 x503.length c505, .slice a491 x490.length c492, .slice none 0 0, .slice a501 x500.length c502, .int .i64 0]) rfl st91 rfl (by kernel_rfl) rfl ?_
          refine sxo_nil ?_
          refine sxq_anyB (.cons 0 rfl .nil) (gk_F 0 rfl gk_nil) ?_
          refine sxb_step 10 rfl (by kernel_rfl) rfl ?_
          refine sxo_box rfl rfl rfl (fun g506 => ?_)
          refine sxo_nil ?_
          refine sxq_anyB (.cons 1 rfl .nil) (gk_F 0 rfl gk_nil) ?_
          refine sxb_takeP 11 (.pointer (some ⟨g506, 0, none⟩)) rfl rfl rfl (yv_pv rfl) ?_
          refine sxb_done (by kernel_rfl) ?_
          refine sxq_np ?_ (by intro c h; cases h)
          exact sxq_meetP ((x503, x490, x500), (g506, a504, c505, a491, c492, a501, c502)) (hB := (.cons 0 rfl .nil)) (hR := (.cons 0 rfl (.cons 1 rfl (.cons 0 rfl .nil)))) (hF := (fk_cons 0 rfl fk_nil))
      · refine sxo_meq (m' := ((M_slices_Repeat_int_int F ([-1] : List Int) (x1.length : Int)).bind fun x507 => ((mk 17592186044416 (0 : Int) (x1.length : Int)).bind fun x510 => ((mk 17592186044416 (0 : Int) (x1.length : Int)).bind fun x513 => M_strong_parts_j1 F x1 x510 x513 x507)))) (by show ((mk 17592186044416 (0 : Int) (x1.length : Int)).bind fun x473 => ((mk 17592186044416 (0 : Int) (x1.length : Int)).bind fun x476 => ((M_slices_Repeat_int_int F ([-1] : List Int) (x1.length : Int)).bind fun x479 => M_strong_parts_j1 F x1 x473 x476 x479))) = _; generalize (mk 17592186044416 (0 : Int) (x1.length : Int)) = q0; generalize (M_slices_Repeat_int_int F ([-1] : List Int) (x1.length : Int)) = q1; cases q0 <;> cases q1 <;> rfl) ?_
        refine sxo_call ent58 rfl rfl rfl (fun x507 e507 => C_slices_Repeat_int_int F ([-1] : List Int) a471 c472 (x1.length : Int) x507 e507) (.consR 0 (Ro (eI .i64) 3 1 (.slice a471 ([-1] : List Int).length c472) ([-1] : List Int)) rfl .nil) (fun x507 e507 => ?_)
        rintro ⟨a508, c509⟩
        refine sxo_nil ?_
        refine sxq_anyB (.cons 0 rfl .nil) (gk_F 0 rfl gk_nil) ?_
        refine sxb_two 3 5 rfl rfl (by kernel_rfl) rfl rfl ?_ ?_
        · refine sxo_mk (eI_ok .i64) rfl Try.underlying25 tf3 rfl rfl rfl rfl rfl rfl rfl (fun x510 e510 a511 c512 => ?_)
          refine sxo_nil ?_
          refine sxq_anyB (.cons 0 rfl .nil) (gk_F 0 rfl gk_nil) ?_
          refine sxb_step 5 rfl (by kernel_rfl) rfl ?_
          refine sxo_mk (eI_ok .i64) rfl Try.underlying25 tf3 rfl rfl rfl rfl rfl rfl rfl (fun x513 e513 a514 c515 => ?_)
          refine sxo_nil ?_
          refine sxq_anyB (.cons 0 rfl .nil) (gk_F 0 rfl gk_nil) ?_
          refine sxb_step 9 rfl (by kernel_rfl) rfl ?_
          refine sxo_build (cells := [.slice a2 x1.length c3.1, .slice a511 x510.length c512, .slice a514 x513.length c515, .slice none 0 0, .slice a508 x507.length c509, .int .i64 0]) rfl st91 rfl (by kernel_rfl) rfl ?_
          refine sxo_nil ?_
          refine sxq_anyB (.cons 0 rfl .nil) (gk_F 0 rfl gk_nil) ?_
          refine sxb_step 10 rfl (by kernel_rfl) rfl ?_
          refine sxo_box rfl rfl rfl (fun g516 => ?_)
          refine sxo_nil ?_
          refine sxq_anyB (.cons 1 rfl .nil) (gk_F 0 rfl gk_nil) ?_
          refine sxb_takeP 11 (.pointer (some ⟨g516, 0, none⟩)) rfl rfl rfl (yv_pv rfl) ?_
          refine sxb_done (by kernel_rfl) ?_
          refine sxq_np ?_ (by intro c h; cases h)
          exact sxq_meetP ((x510, x513, x507), (g516, a511, c512, a514, c515, a508, c509)) (hB := (.cons 0 rfl .nil)) (hR := (.cons 1 rfl (.cons 0 rfl (.cons 0 rfl .nil)))) (hF := (fk_cons 0 rfl fk_nil))
        · refine sxo_meq (m' := ((mk 17592186044416 (0 : Int) (x1.length : Int)).bind fun x517 => ((mk 17592186044416 (0 : Int) (x1.length : Int)).bind fun x520 => M_strong_parts_j1 F x1 x520 x517 x507))) (by show ((mk 17592186044416 (0 : Int) (x1.length : Int)).bind fun x510 => ((mk 17592186044416 (0 : Int) (x1.length : Int)).bind fun x513 => M_strong_parts_j1 F x1 x510 x513 x507)) = _; generalize (mk 17592186044416 (0 : Int) (x1.length : Int)) = q0; cases q0 <;> rfl) ?_
          refine sxo_mk (eI_ok .i64) rfl Try.underlying25 tf3 rfl rfl rfl rfl rfl rfl rfl (fun x517 e517 a518 c519 => ?_)
          refine sxo_nil ?_
          refine sxq_anyB (.cons 0 rfl .nil) (gk_F 0 rfl gk_nil) ?_
          refine sxb_step 3 rfl (by kernel_rfl) rfl ?_
          refine sxo_mk (eI_ok .i64) rfl Try.underlying25 tf3 rfl rfl rfl rfl rfl rfl rfl (fun x520 e520 a521 c522 => ?_)
          refine sxo_nil ?_
          refine sxq_anyB (.cons 0 rfl .nil) (gk_F 0 rfl gk_nil) ?_
          refine sxb_step 9 rfl (by kernel_rfl) rfl ?_
          refine sxo_build (cells := [.slice a2 x1.length c3.1, .slice a521 x520.length c522, .slice a518 x517.length c519, .slice none 0 0, .slice a508 x507.length c509, .int .i64 0]) rfl st91 rfl (by kernel_rfl) rfl ?_
          refine sxo_nil ?_
          refine sxq_anyB (.cons 0 rfl .nil) (gk_F 0 rfl gk_nil) ?_
          refine sxb_step 10 rfl (by kernel_rfl) rfl ?_
          refine sxo_box rfl rfl rfl (fun g523 => ?_)
          refine sxo_nil ?_
          refine sxq_anyB (.cons 1 rfl .nil) (gk_F 0 rfl gk_nil) ?_
          refine sxb_takeP 11 (.pointer (some ⟨g523, 0, none⟩)) rfl rfl rfl (yv_pv rfl) ?_
          refine sxb_done (by kernel_rfl) ?_
          refine sxq_np ?_ (by intro c h; cases h)
          exact sxq_meetP ((x520, x517, x507), (g523, a521, c522, a518, c519, a508, c509)) (hB := (.cons 0 rfl .nil)) (hR := (.cons 0 rfl (.cons 0 rfl (.cons 0 rfl .nil)))) (hF := (fk_cons 0 rfl fk_nil))
  · rintro ⟨⟨x117, x120, x123⟩, ⟨g114, a115, c116, a118, c119, a121, c122⟩⟩
    try dsimp only
    refine sxc_join (fun (((x265, x268, x271, x274, x275), (a263, c264, a266, c267, a269, c270, a272, c273)) : ((List Int × List Int × List Int × List Int × Int) × (Option Addr × Nat × Option Addr × Nat × Option Addr × Nat × Option Addr × Nat))) => [(4, .pointer (some ⟨g114, 0, none⟩))]) (fun (((x265, x268, x271, x274, x275), (a263, c264, a266, c267, a269, c270, a272, c273)) : ((List Int × List Int × List Int × List Int × Int) × (Option Addr × Nat × Option Addr × Nat × Option Addr × Nat × Option Addr × Nat))) => [⟨g114, 91, [.slice a2 x1.length c3.1, .slice a263 x265.length c264, .slice a266 x268.length c267, .slice a269 x271.length c270, .slice a272 x274.length c273, .int .i64 x275]⟩]) (fun (((x265, x268, x271, x274, x275), (a263, c264, a266, c267, a269, c270, a272, c273)) : ((List Int × List Int × List Int × List Int × Int) × (Option Addr × Nat × Option Addr × Nat × Option Addr × Nat × Option Addr × Nat))) => [Ro (eI .i64) 3 1 (.slice a263 x265.length c264) x265, Ro (eI .i64) 3 1 (.slice a266 x268.length c267) x268, Ro (eI .i64) 3 1 (.slice a269 x271.length c270) x271, Ro (eI .i64) 3 1 (.slice a272 x274.length c273) x274]) (fun (((x265, x268, x271, x274, x275), (a263, c264, a266, c267, a269, c270, a272, c273)) : ((List Int × List Int × List Int × List Int × Int) × (Option Addr × Nat × Option Addr × Nat × Option Addr × Nat × Option Addr × Nat))) => [SlN eN25 iN25 1 (.slice a2 x1.length c3.1) x1 c3.2]) (fun (((x265, x268, x271, x274, x275), _) : ((List Int × List Int × List Int × List Int × Int) × (Option Addr × Nat × Option Addr × Nat × Option Addr × Nat × Option Addr × Nat))) => M_strong_parts_j6 F x265 x268 x271 x274 x275) ?_ ?_
    · refine sxc_seq ?_
      refine sxc_region ?_
      refine sxo_move rfl rfl rfl ?_
      refine sxo_move rfl rfl rfl ?_
      refine sxo_nil ?_
      refine sxq_next ?_
      refine sxc_block ?_
      refine sxc_nilrow Int (eI .i64) 3 1 ?_
      refine sxc_loopP (fun (((x318, x321, x324, x327, x330, x331), (a319, c320, a322, c323, a325, c326, a328, c329)) : ((Int × List Int × List Int × List Int × List Int × Int) × (Option Addr × Nat × Option Addr × Nat × Option Addr × Nat × Option Addr × Nat))) => [(4, .pointer (some ⟨g114, 0, none⟩)), (20, .int .i64 (x1.length : Int)), (21, .int .i64 x318)]) (fun (((x318, x321, x324, x327, x330, x331), (a319, c320, a322, c323, a325, c326, a328, c329)) : ((Int × List Int × List Int × List Int × List Int × Int) × (Option Addr × Nat × Option Addr × Nat × Option Addr × Nat × Option Addr × Nat))) => [⟨g114, 91, [.slice a2 x1.length c3.1, .slice a319 x321.length c320, .slice a322 x324.length c323, .slice a325 x327.length c326, .slice a328 x330.length c329, .int .i64 x331]⟩]) (fun (((x318, x321, x324, x327, x330, x331), (a319, c320, a322, c323, a325, c326, a328, c329)) : ((Int × List Int × List Int × List Int × List Int × Int) × (Option Addr × Nat × Option Addr × Nat × Option Addr × Nat × Option Addr × Nat))) => [Ro (eI .i64) 3 1 (.slice a319 x321.length c320) x321, Ro (eI .i64) 3 1 (.slice a322 x324.length c323) x324, Ro (eI .i64) 3 1 (.slice a325 x327.length c326) x327, Ro (eI .i64) 3 1 (.slice a328 x330.length c329) x330]) (fun (((x318, x321, x324, x327, x330, x331), (a319, c320, a322, c323, a325, c326, a328, c329)) : ((Int × List Int × List Int × List Int × List Int × Int) × (Option Addr × Nat × Option Addr × Nat × Option Addr × Nat × Option Addr × Nat))) => [SlN eN25 iN25 1 (.slice a2 x1.length c3.1) x1 c3.2]) (fun k (s : ((Int × List Int × List Int × List Int × List Int × Int) × (Option Addr × Nat × Option Addr × Nat × Option Addr × Nat × Option Addr × Nat))) => M_strong_parts_l9 F x1 k s.1) ((0, x117, x120, ([] : List Int), x123, 0), (a115, c116, a118, c119, none, 0, a121, c122)) F ?_ (hB := (.cons 0 rfl .nil)) (hR := (.cons 1 rfl (.cons 1 rfl (.cons 0 rfl (.cons 0 rfl .nil))))) (hF := (fk_cons 0 rfl fk_nil))
      intro k373
      rintro ⟨⟨x318, x321, x324, x327, x330, x331⟩, ⟨a319, c320, a322, c323, a325, c326, a328, c329⟩⟩
      try dsimp only
      refine sxc_meq (m' := M_strong_parts_b9 F x1 (M_strong_parts_l9 F x1 k373) x318 x321 x324 x327 x330 x331) rfl ?_
      refine sxc_seq ?_
      refine sxc_region ?_
      refine sxo_lss rfl rfl rfl rfl ?_
      refine sxo_nil ?_
      refine sxq_next ?_
      refine sxc_seq ?_
      refine sxc_if rfl (fun h414 => ?_) (fun h414 => ?_)
      · refine sxc_skip ?_
        refine sxq_next ?_
        refine sxc_join (fun (((x390, x393, x396, x399, x400), (a388, c389, a391, c392, a394, c395, a397, c398)) : ((List Int × List Int × List Int × List Int × Int) × (Option Addr × Nat × Option Addr × Nat × Option Addr × Nat × Option Addr × Nat))) => [(4, .pointer (some ⟨g114, 0, none⟩)), (20, .int .i64 (x1.length : Int)), (21, .int .i64 x318)]) (fun (((x390, x393, x396, x399, x400), (a388, c389, a391, c392, a394, c395, a397, c398)) : ((List Int × List Int × List Int × List Int × Int) × (Option Addr × Nat × Option Addr × Nat × Option Addr × Nat × Option Addr × Nat))) => [⟨g114, 91, [.slice a2 x1.length c3.1, .slice a388 x390.length c389, .slice a391 x393.length c392, .slice a394 x396.length c395, .slice a397 x399.length c398, .int .i64 x400]⟩]) (fun (((x390, x393, x396, x399, x400), (a388, c389, a391, c392, a394, c395, a397, c398)) : ((List Int × List Int × List Int × List Int × Int) × (Option Addr × Nat × Option Addr × Nat × Option Addr × Nat × Option Addr × Nat))) => [Ro (eI .i64) 3 1 (.slice a388 x390.length c389) x390, Ro (eI .i64) 3 1 (.slice a391 x393.length c392) x393, Ro (eI .i64) 3 1 (.slice a394 x396.length c395) x396, Ro (eI .i64) 3 1 (.slice a397 x399.length c398) x399]) (fun (((x390, x393, x396, x399, x400), (a388, c389, a391, c392, a394, c395, a397, c398)) : ((List Int × List Int × List Int × List Int × Int) × (Option Addr × Nat × Option Addr × Nat × Option Addr × Nat × Option Addr × Nat))) => [SlN eN25 iN25 1 (.slice a2 x1.length c3.1) x1 c3.2]) (fun (((x390, x393, x396, x399, x400), _) : ((List Int × List Int × List Int × List Int × Int) × (Option Addr × Nat × Option Addr × Nat × Option Addr × Nat × Option Addr × Nat))) => M_strong_parts_j10 F (M_strong_parts_l9 F x1 k373) x318 x390 x393 x396 x399 x400) ?_ ?_
        · refine sxc_block ?_
          refine sxc_seq ?_
          refine sxc_region ?_
          refine sxo_move rfl rfl rfl ?_
          refine sxo_assign rfl rfl rfl ?_
          refine sxo_nil ?_
          refine sxq_next ?_
          refine sxc_seq ?_
          refine sxc_region ?_
          refine sxo_move rfl rfl rfl ?_
          refine sxo_nilCheck rfl rfl rfl ?_
          refine sxo_fieldAddr rfl rfl ff91_1 rfl ?_
          refine sxo_loadB (i := 0) rfl rfl tf25 rfl rfl (fun _ => rfl) rfl rfl ?_
          refine sxo_move rfl rfl rfl ?_
          refine sxo_indexR (j := 0) rfl Try.underlying25 tf3 rfl rfl rfl rfl (fun x401 e401 g402 h403 => ?_)
          refine sxo_loadR (j := 0) (y := x401) (eI_ok .i64) rfl rfl tf3 rfl h403 (idx_get e401).2.2 (fun _ => rfl) rfl rfl ?_
          refine sxo_eql rfl rfl rfl rfl ?_
          refine sxo_nil ?_
          refine sxq_next ?_
          refine sxc_if rfl (fun h413 => ?_) (fun h413 => ?_)
          · refine sxc_region ?_
            refine sxo_move rfl rfl rfl ?_
            refine sxo_move rfl rfl rfl ?_
            refine sxo_callM ent59 rfl rfl rfl (fun x404 e404 => C_strong_finder_visit F g114 x1 a2 c3 x321 a319 c320 x324 a322 c323 x327 a325 c326 x330 a328 c329 x331 x318 x404 e404) (.cons 0 rfl .nil) (.cons 0 rfl (.cons 0 rfl (.cons 0 rfl (.cons 0 rfl .nil)))) (.consF 0 rfl .nil) (fun x404 e404 => ?_)
            rintro ⟨⟨a405, c406⟩, ⟨a407, c408⟩, ⟨a409, c410⟩, ⟨a411, c412⟩⟩
            refine sxo_nil ?_
            refine sxq_blkN ?_
            exact sxq_meetP ((x404.1, x404.2.1, x404.2.2.1, x404.2.2.2.1, x404.2.2.2.2), (a405, c406, a407, c408, a409, c410, a411, c412)) (hB := (.cons 0 rfl .nil)) (hR := (.cons 0 rfl (.cons 0 rfl (.cons 0 rfl (.cons 0 rfl .nil))))) (hF := (fk_cons 0 rfl fk_nil))
          · refine sxc_skip ?_
            refine sxq_blkN ?_
            exact sxq_meetP ((x321, x324, x327, x330, x331), (a319, c320, a322, c323, a325, c326, a328, c329)) (hB := (.cons 0 rfl .nil)) (hR := (.cons 0 rfl (.cons 0 rfl (.cons 0 rfl (.cons 0 rfl .nil))))) (hF := (fk_cons 0 rfl fk_nil))
        · rintro ⟨⟨x390, x393, x396, x399, x400⟩, ⟨a388, c389, a391, c392, a394, c395, a397, c398⟩⟩
          try dsimp only
          refine sxc_region ?_
          refine sxo_add rfl rfl rfl rfl ?_
          refine sxo_move rfl rfl rfl ?_
          refine sxo_nil ?_
          exact sxq_againP ((iadd .i64 x318 1, x390, x393, x396, x399, x400), (a388, c389, a391, c392, a394, c395, a397, c398)) (hB := (.cons 0 rfl .nil)) (hR := (.cons 0 rfl (.cons 0 rfl (.cons 0 rfl (.cons 0 rfl .nil))))) (hF := (fk_cons 0 rfl fk_nil))
      · refine sxc_exit ?_
        refine sxq_thenX ?_
        refine sxq_thenX ?_
        refine sxq_blkX ?_
        exact sxq_meetP ((x321, x324, x327, x330, x331), (a319, c320, a322, c323, a325, c326, a328, c329)) (hB := (.cons 0 rfl .nil)) (hR := (.cons 0 rfl (.cons 0 rfl (.cons 0 rfl (.cons 0 rfl .nil))))) (hF := (fk_cons 0 rfl fk_nil))
    · rintro ⟨⟨x265, x268, x271, x274, x275⟩, ⟨a263, c264, a266, c267, a269, c270, a272, c273⟩⟩
      try dsimp only
      refine sxc_seq ?_
      refine sxc_region ?_
      refine sxo_move rfl rfl rfl ?_
      refine sxo_nilCheck rfl rfl rfl ?_
      refine sxo_fieldAddr rfl rfl ff91_4 rfl ?_
      refine sxo_loadB (i := 0) rfl rfl tf25 rfl rfl (fun _ => rfl) rfl rfl ?_
      refine sxo_assign rfl rfl rfl ?_
      refine sxo_nil ?_
      refine sxq_next ?_
      refine sxc_ret ?_
      exact sxq_doneP (a272, c273) (res1 rfl rfl) (fun h => by subst h; exact (.cons 3 rfl .nil))

theorem C_strong_Parts (F : Nat) (x1 : List (List Int)) (a2 : Option Addr) (c3 : (Nat × List (Option Addr × Nat))) (r : (List Int × Int)) (hm : M_strong_Parts F x1 = some r) :
    Pure Try.prog 11 [.agg #[.slice a2 x1.length c3.1]] [SlN eN25 iN25 1 (.slice a2 x1.length c3.1) x1 c3.2] (Option Addr × Nat) (fun g => .tuple #[.slice g.1 r.1.length g.2, .int .i64 r.2]) (fun g => [Ro (eI .i64) 3 1 (.slice g.1 r.1.length g.2) r.1]) (fun _ => []) := by
  refine pure_of Try.func11 rfl Try.ntmps11 rfl hm (fun w => ?_)
  refine sxc_env (l' := [(0, .agg #[.slice a2 x1.length c3.1])]) rfl ?_
  refine sxc_seq ?_
  refine sxc_region ?_
  refine sxo_box rfl rfl rfl (fun g4 => ?_)
  refine sxo_assign rfl rfl rfl ?_
  refine sxo_assign rfl rfl rfl ?_
  refine sxo_nil ?_
  refine sxq_next ?_
  refine sxc_seq ?_
  refine sxc_seq ?_
  refine sxc_region ?_
  refine sxo_loadB (i := 0) rfl rfl tf24 rfl rfl (by simp) rfl rfl ?_
  refine sxo_call ent31 rfl rfl rfl (fun x7 e7 => C_graph_Check F x1 a2 c3 x7 e7) (.consF 0 rfl .nil) (fun x7 e7 => ?_)
  intro _
  refine sxo_assign rfl rfl rfl ?_
  refine sxo_nil ?_
  refine sxq_next ?_
  refine sxc_seq ?_
  refine sxc_region ?_
  refine sxo_move rfl rfl rfl ?_
  refine sxo_neq rfl rfl rfl rfl ?_
  refine sxo_nil ?_
  refine sxq_next ?_
  refine sxc_if rfl (fun h11 => ?_) (fun h11 => ?_)
  · refine sxc_seq ?_
    refine sxc_region ?_
    refine sxo_move rfl rfl rfl ?_
    refine sxo_assign rfl rfl rfl ?_
    refine sxo_assign rfl rfl rfl ?_
    refine sxo_nil ?_
    refine sxq_next ?_
    refine sxc_ret ?_
    refine sxq_thenR ?_
    refine sxq_nilrow Int (eI .i64) 3 1 ?_
    exact sxq_doneP (none, 0) (res2 rfl rfl rfl) (fun h => by subst h; exact (.cons 0 rfl .nil))
  · refine sxc_skip ?_
    refine sxq_next ?_
    refine sxc_seq ?_
    refine sxc_region ?_
    refine sxo_loadB (i := 0) rfl rfl tf24 rfl rfl (by simp) rfl rfl ?_
    refine sxo_call ent32 rfl rfl rfl (fun x8 e8 => C_strong_parts F x1 a2 c3 x8 e8) (.consF 0 rfl .nil) (fun x8 e8 => ?_)
    rintro ⟨a9, c10⟩
    refine sxo_assign rfl rfl rfl ?_
    refine sxo_assign rfl rfl rfl ?_
    refine sxo_nil ?_
    refine sxq_next ?_
    refine sxc_ret ?_
    exact sxq_doneP (a9, c10) (res2 rfl rfl rfl) (fun h => by subst h; exact (.cons 0 rfl .nil))

theorem C_graph_Built (F : Nat) (x1 : Int) (x2 : List (Int × Int)) (a3 : Option Addr) (c4 : Nat) (r : List (List Int)) (hm : M_graph_Built F x1 x2 = some r) :
    Pure Try.prog 44 [.int .i64 x1, .slice a3 x2.length c4] [Sl eS48 2 (.slice a3 x2.length c4) x2] (Option Addr × (Nat × List (Option Addr × Nat))) (fun g => .agg #[.slice g.1 r.length g.2.1]) (fun g => [RoN eN25 rN25 25 1 (.slice g.1 r.length g.2.1) r g.2.2 []]) (fun _ => []) := by
  refine pure_of Try.func44 rfl Try.ntmps44 rfl hm (fun w => ?_)
  refine sxc_env (l' := [(0, .int .i64 x1), (1, .slice a3 x2.length c4)]) rfl ?_
  refine sxc_seq ?_
  refine sxc_region ?_
  refine sxo_alloc rfl tf24 rfl (fun g5 => ?_)
  refine sxo_nil ?_
  refine sxq_next ?_
  refine sxc_seq ?_
  refine sxc_region ?_
  refine sxo_move rfl rfl rfl ?_
  refine sxo_mkN (rin := rN25) (y := ([] : List Int)) (q := ((none, 0) : Option Addr × Nat)) eN25_ok (by decide) rN25_nil rfl Try.underlying22 tf25 rfl rfl rfl rfl rfl rfl (fun x6 e6 a7 c8 => ?_)
  refine sxo_build (cells := [.slice a7 x6.length c8]) rfl st24 rfl (by kernel_rfl) rfl ?_
  refine sxo_alloc rfl tf24 rfl (fun g9 => ?_)
  refine sxo_storeB (i := 0) rfl rfl rfl tf24 rfl rfl rfl rfl rfl ?_
  refine sxo_nil ?_
  refine sxq_next ?_
  refine sxc_join (fun ((x171, g170) : (List (List Int) × List (Option Addr × Nat))) => [(4, .pointer (some ⟨g5, 0, none⟩)), (5, .pointer (some ⟨g9, 0, none⟩))]) (fun ((x171, g170) : (List (List Int) × List (Option Addr × Nat))) => [⟨g9, 24, [.slice a7 x171.length c8]⟩, ⟨g5, 24, [.slice none 0 0]⟩]) (fun ((x171, g170) : (List (List Int) × List (Option Addr × Nat))) => [RoN eN25 rN25 25 1 (.slice a7 x171.length c8) x171 g170 []]) (fun ((x171, g170) : (List (List Int) × List (Option Addr × Nat))) => []) (fun ((x171, _) : (List (List Int) × List (Option Addr × Nat))) => M_graph_Built_j2 F x171) ?_ ?_
  · refine sxc_seq ?_
    refine sxc_region ?_
    refine sxo_move rfl rfl rfl ?_
    refine sxo_len rfl Try.underlying51 rfl rfl ?_
    refine sxo_move rfl rfl rfl ?_
    refine sxo_nil ?_
    refine sxq_next ?_
    refine sxc_block ?_
    refine sxc_loopP (fun (((x224, x226), g225) : ((Int × List (List Int)) × List (Option Addr × Nat))) => [(4, .pointer (some ⟨g5, 0, none⟩)), (5, .pointer (some ⟨g9, 0, none⟩)), (11, .slice a3 x2.length c4), (12, .int .i64 (x2.length : Int)), (13, .int .i64 x224)]) (fun (((x224, x226), g225) : ((Int × List (List Int)) × List (Option Addr × Nat))) => [⟨g9, 24, [.slice a7 x226.length c8]⟩, ⟨g5, 24, [.slice none 0 0]⟩]) (fun (((x224, x226), g225) : ((Int × List (List Int)) × List (Option Addr × Nat))) => [RoN eN25 rN25 25 1 (.slice a7 x226.length c8) x226 g225 []]) (fun (((x224, x226), g225) : ((Int × List (List Int)) × List (Option Addr × Nat))) => [Sl eS48 2 (.slice a3 x2.length c4) x2]) (fun k (s : ((Int × List (List Int)) × List (Option Addr × Nat))) => M_graph_Built_l3 F x2 k s.1) ((0, x6), (List.replicate x6.length ((none, 0) : Option Addr × Nat))) F ?_ (hB := (.cons 0 rfl (.cons 0 rfl .nil))) (hR := (.cons 0 rfl .nil)) (hF := (fk_cons 0 rfl fk_nil))
    intro k279
    rintro ⟨⟨x224, x226⟩, g225⟩
    try dsimp only
    refine sxc_meq (m' := M_graph_Built_b3 F x2 (M_graph_Built_l3 F x2 k279) x224 x226) rfl ?_
    refine sxc_seq ?_
    refine sxc_region ?_
    refine sxo_lss rfl rfl rfl rfl ?_
    refine sxo_nil ?_
    refine sxq_next ?_
    refine sxc_seq ?_
    refine sxc_if rfl (fun h331 => ?_) (fun h331 => ?_)
    · refine sxc_skip ?_
      refine sxq_next ?_
      refine sxc_seq ?_
      refine sxc_block ?_
      refine sxc_seq ?_
      refine sxc_region ?_
      refine sxo_indexF (j := 0) eS48_ok (by decide) rfl Try.underlying51 tf48 rfl rfl rfl rfl (fun x306 e306 b307 o308 => ?_)
      refine sxo_loadF (j := 0) rfl rfl tf48 rfl rfl (by simp) rfl rfl ?_
      refine sxo_alloc rfl tf48 rfl (fun g309 => ?_)
      refine sxo_storeB (i := 0) rfl rfl rfl tf48 rfl rfl rfl rfl rfl ?_
      refine sxo_nil ?_
      refine sxq_next ?_
      refine sxc_idxP (j := 0) rfl (fun x310 e310 g311 h312 g313 h314 => ?_)
      replace h314 : a7 = some ⟨g313, 0, none⟩ := h314
      have h315 := own_of (k := x226.length) (c := c8) h314
      refine sxc_openN (i := 0) rfl h312 (List.not_mem_nil) ?_
      refine sxc_idxP (j := 1) rfl (fun x316 e316 g317 h318 g319 h320 => ?_)
      replace h320 : a7 = some ⟨g319, 0, none⟩ := h320
      have h321 := own_of (k := x226.length) (c := c8) h320
      refine sxb_draw mixed [15] [⟨g309, 48, [.int .i64 x306.1, .int .i64 x306.2]⟩, ⟨g9, 24, [.slice a7 x226.length c8]⟩, ⟨g5, 24, [.slice none 0 0]⟩] [CellsAt b307 o308 (eS48 x306), Sl eS48 2 (.slice a3 x2.length c4) x2, CellsAt g313 (x306.1.toNat * 1) (eN25 (x310, g311)), CellsAt g319 (x306.1.toNat * 1) (eN25 (x316, g317))] (.cons 0 rfl (.cons 0 rfl (.cons 0 rfl .nil))) (gk_F 0 rfl (gk_F 1 rfl (gk_R 1 rfl (at_rowN eN25_ok h312 h314) (gk_R 1 rfl (at_rowN eN25_ok h318 h320) gk_nil)))) 16 rfl ?_
      refine sxb_takeP 0 (.pointer (some ⟨g9, 0, none⟩)) rfl rfl rfl (yv_fieldAddr rfl ff24_0) ?_
      refine sxb_takeB 1 (.slice a7 x226.length c8) rfl rfl rfl (yv_loadB (i := 1) rfl tf22 rfl rfl (fun _ => rfl) rfl) ?_
      refine sxb_takeP 2 (.pointer (some ⟨g309, 0, none⟩)) rfl rfl rfl (yv_fieldAddr rfl ff48_0) ?_
      refine sxb_takeB 3 (.int .i64 x306.1) rfl rfl rfl (yv_loadB (i := 0) rfl tf3 rfl rfl (fun _ => rfl) rfl) ?_
      refine sxb_takeP 4 (.pointer (some ⟨g9, 0, none⟩)) rfl rfl rfl (yv_fieldAddr rfl ff24_0) ?_
      refine sxb_takeB 5 (.slice a7 x226.length c8) rfl rfl rfl (yv_loadB (i := 1) rfl tf22 rfl rfl (fun _ => rfl) rfl) ?_
      refine sxb_takeP 6 (.pointer (some ⟨g309, 0, none⟩)) rfl rfl rfl (yv_fieldAddr rfl ff48_0) ?_
      refine sxb_takeB 7 (.int .i64 x306.1) rfl rfl rfl (yv_loadB (i := 0) rfl tf3 rfl rfl (fun _ => rfl) rfl) ?_
      refine sxb_again (d := 22) (v := .slice (some ⟨g313, 0, none⟩) x226.length c8) rfl (by rw [h314] <;> rfl) ?_
      refine sxb_takeP 8 (.pointer (some ⟨g313, x306.1.toNat * 1, none⟩)) rfl rfl rfl (yv_idxO Try.underlying22 tf25 rfl rfl (idx_get e310).1 (idx_lt e310)) ?_
      refine sxb_again (d := 22) (v := .slice a7 x226.length c8) rfl (by rw [h314] <;> rfl) ?_
      refine sxb_take 9 (.slice g311.1 x310.length g311.2) [[15]] rfl rfl rfl (yv_loadF (j := 2) rfl tf25 rfl rfl (fun _ => rfl) rfl) ?_
      refine sxb_takeP 10 (.pointer (some ⟨g309, 1, none⟩)) rfl rfl rfl (yv_fieldAddr rfl ff48_1) ?_
      refine sxb_takeB 11 (.int .i64 x306.2) rfl rfl rfl (yv_loadB (i := 0) rfl tf3 rfl rfl (fun _ => rfl) rfl) ?_
      refine sxb_step 12 rfl (by kernel_rfl) rfl ?_
      refine sxo_slit (vs := [.int .i64 x306.2]) (ys := ([x306.2] : List Int)) (eI_ok .i64) (by decide) rfl Try.underlying25 tf3 rfl rfl rfl rfl rfl (by decide) (fun a322 c323 => ?_)
      refine sxo_nil ?_
      refine sxq_anyB (.cons 0 rfl (.cons 0 rfl (.cons 0 rfl .nil))) (gk_F 0 rfl (gk_F 1 rfl (gk_R 2 rfl (at_rowN eN25_ok h312 h314) (gk_R 2 rfl (at_rowN eN25_ok h318 h320) gk_nil)))) ?_
      refine sxb_step 13 rfl (by kernel_rfl) rfl ?_
      refine sxo_app 1 (eI_ok .i64) rfl Try.underlying25 tf3 rfl rfl rfl rfl rfl (.inl ⟨0, _, rfl⟩) rfl rfl (fun x324 e324 a325 c326 => ?_)
      refine sxo_nil ?_
      refine sxq_anyB (.cons 0 rfl (.cons 0 rfl (.cons 0 rfl .nil))) (gk_F 0 rfl (gk_F 1 rfl (gk_R 2 rfl (at_rowN eN25_ok h312 h314) (gk_R 2 rfl (at_rowN eN25_ok h318 h320) gk_nil)))) ?_
      refine sxb_again (d := 18) (v := .slice (some ⟨g319, 0, none⟩) x226.length c8) rfl (by rw [h320] <;> rfl) ?_
      refine sxb_takeP 14 (.pointer (some ⟨g319, x306.1.toNat * 1, none⟩)) rfl rfl rfl (yv_idxO Try.underlying22 tf25 rfl rfl (idx_get e316).1 (idx_lt e316)) ?_
      refine sxb_again (d := 18) (v := .slice a7 x226.length c8) rfl (by rw [h320] <;> rfl) ?_
      refine sxb_step 15 rfl (by kernel_rfl) rfl ?_
      refine sxo_storeC (j := 2) (kh := 0) (y' := x324) (q' := (a325, c326)) eN25_ok rfl rfl rfl tf25 rfl (own_of h320) rfl (idx_get e316).2.1 rfl (.cons 0 rfl .nil) (fun x327 e327 h328 g330 => ?_)
      have h329 : x327.length = x226.length := by rw [← e327, List.length_set]
      refine sxo_again (d := 18) (v := .slice a7 x327.length c8) rfl (by rw [h328] <;> rfl) ?_
      refine sxo_again (d := 22) (v := .slice a7 x327.length c8) rfl (by rw [h328] <;> rfl) ?_
      refine sxo_blkAgain (i := 1) (cs' := [.slice a7 x327.length c8]) rfl (by rw [h328] <;> rfl) ?_
      refine sxo_nil ?_
      refine sxq_anyW 15 rfl (by kernel_rfl) (.cons 0 rfl (.cons 0 (by rw [h329]; rfl) (.cons 0 rfl .nil))) ?_
      refine sxb_done (by kernel_rfl) ?_
      refine sxq_np ?_ (by intro c h; cases h)
      refine sxq_blkN ?_
      refine sxq_next ?_
      refine sxc_region ?_
      refine sxo_add rfl rfl rfl rfl ?_
      refine sxo_move rfl rfl rfl ?_
      refine sxo_nil ?_
      exact sxq_againP ((iadd .i64 x224 1, x327), g330) (hB := (.cons 1 rfl (.cons 1 rfl .nil))) (hR := (.cons 0 rfl .nil)) (hF := (fk_cons 1 rfl fk_nil))
    · refine sxc_exit ?_
      refine sxq_thenX ?_
      refine sxq_thenX ?_
      refine sxq_blkX ?_
      exact sxq_meetP (x226, g225) (hB := (.cons 0 rfl (.cons 0 rfl .nil))) (hR := (.cons 0 rfl .nil))
  · rintro ⟨x171, g170⟩
    try dsimp only
    refine sxc_seq ?_
    refine sxc_region ?_
    refine sxo_loadB (i := 0) rfl rfl tf24 rfl rfl (by simp) rfl rfl ?_
    refine sxo_storeB (i := 1) rfl rfl rfl tf24 rfl rfl rfl rfl rfl ?_
    refine sxo_nil ?_
    refine sxq_next ?_
    refine sxc_ret ?_
    exact sxq_doneP (a7, (c8, g170)) (resL (rs := [.cell 4 24]) rfl (.cell (i := 1) rfl tf24 rfl rfl (by simp) rfl ResOk.nil) rfl) (fun h => by subst h; exact (.cons 0 rfl .nil))

theorem C_slices_Values_api_Arc_api_Arc (F : Nat) (x1 : List (Int × Int)) (a2 : Option Addr) (c3 : Nat) (r : Unit) (hm : M_slices_Values_api_Arc_api_Arc F x1 = some r) :
    PureM Try.prog 46 [.slice a2 x1.length c3] [] [] [Sl eS48 2 (.slice a2 x1.length c3) x1] Nat (fun g => .func (.func 67) #[] #[.pointer (some ⟨g, 0, none⟩)]) (fun g => [⟨g, 51, [.slice a2 x1.length c3]⟩]) (fun _ => []) := by
  refine pureM_of Try.func46 rfl Try.ntmps46 rfl hm (fun w => ?_)
  refine sxc_env (l' := [(0, .slice a2 x1.length c3)]) rfl ?_
  refine sxc_seq ?_
  refine sxc_region ?_
  refine sxo_box rfl rfl rfl (fun g4 => ?_)
  refine sxo_assign rfl rfl rfl ?_
  refine sxo_nil ?_
  refine sxq_next ?_
  refine sxc_seq ?_
  refine sxc_region ?_
  refine sxo_makeFunc rfl rfl rfl ?_
  refine sxo_assign rfl rfl rfl ?_
  refine sxo_nil ?_
  refine sxq_next ?_
  refine sxc_ret ?_
  exact sxq_doneM g4 (res1 rfl rfl) (hB := fun h => by subst h; exact (.cons 0 rfl .nil))

theorem C_cmp_Or_int (F : Nat) (x1 : List Int) (a2 : Option Addr) (c3 : Nat) (r : Int) (hm : M_cmp_Or_int F x1 = some r) :
    Pure Try.prog 68 [.slice a2 x1.length c3] [Sl (eI .i64) 1 (.slice a2 x1.length c3) x1] Unit (fun _ => .int .i64 r) (fun _ => []) (fun _ => []) := by
  refine pure_of Try.func68 rfl Try.ntmps68 rfl hm (fun w => ?_)
  refine sxc_env (l' := [(0, .slice a2 x1.length c3)]) rfl ?_
  refine sxc_seq ?_
  refine sxc_region ?_
  refine sxo_assign rfl rfl rfl ?_
  refine sxo_nil ?_
  refine sxq_next ?_
  refine sxc_seq ?_
  refine sxc_region ?_
  refine sxo_assign rfl rfl rfl ?_
  refine sxo_nil ?_
  refine sxq_next ?_
  refine sxc_join (fun ((_, _) : (Unit × Unit)) => [(3, .int .i64 0)]) (fun ((_, _) : (Unit × Unit)) => []) (fun ((_, _) : (Unit × Unit)) => []) (fun ((_, _) : (Unit × Unit)) => []) (fun ((_, _) : (Unit × Unit)) => M_cmp_Or_int_j2 F) ?_ ?_
  · refine sxc_seq ?_
    refine sxc_region ?_
    refine sxo_move rfl rfl rfl ?_
    refine sxo_len rfl Try.underlying25 rfl rfl ?_
    refine sxo_move rfl rfl rfl ?_
    refine sxo_nil ?_
    refine sxq_next ?_
    refine sxc_block ?_
    refine sxc_loopP (fun ((x46, _) : (Int × Unit)) => [(3, .int .i64 0), (6, .slice a2 x1.length c3), (7, .int .i64 (x1.length : Int)), (8, .int .i64 x46)]) (fun ((x46, _) : (Int × Unit)) => []) (fun ((x46, _) : (Int × Unit)) => []) (fun ((x46, _) : (Int × Unit)) => [Sl (eI .i64) 1 (.slice a2 x1.length c3) x1]) (fun k (s : (Int × Unit)) => M_cmp_Or_int_l3 F x1 k s.1) (0, ()) F ?_ (hF := (fk_cons 0 rfl fk_nil))
    intro k57
    rintro ⟨x46, _⟩
    try dsimp only
    refine sxc_meq (m' := M_cmp_Or_int_b3 F x1 (M_cmp_Or_int_l3 F x1 k57) x46) rfl ?_
    refine sxc_seq ?_
    refine sxc_region ?_
    refine sxo_lss rfl rfl rfl rfl ?_
    refine sxo_nil ?_
    refine sxq_next ?_
    refine sxc_seq ?_
    refine sxc_if rfl (fun h67 => ?_) (fun h67 => ?_)
    · refine sxc_skip ?_
      refine sxq_next ?_
      refine sxc_seq ?_
      refine sxc_block ?_
      refine sxc_seq ?_
      refine sxc_region ?_
      refine sxo_indexF (j := 0) (eI_ok .i64) (by decide) rfl Try.underlying25 tf3 rfl rfl rfl rfl (fun x63 e63 b64 o65 => ?_)
      refine sxo_loadF (j := 0) rfl rfl tf3 rfl rfl (fun _ => rfl) rfl rfl ?_
      refine sxo_assign rfl rfl rfl ?_
      refine sxo_nil ?_
      refine sxq_next ?_
      refine sxc_seq ?_
      refine sxc_region ?_
      refine sxo_move rfl rfl rfl ?_
      refine sxo_move rfl rfl rfl ?_
      refine sxo_neq rfl rfl rfl rfl ?_
      refine sxo_nil ?_
      refine sxq_next ?_
      refine sxc_if rfl (fun h66 => ?_) (fun h66 => ?_)
      · refine sxc_seq ?_
        refine sxc_region ?_
        refine sxo_move rfl rfl rfl ?_
        refine sxo_assign rfl rfl rfl ?_
        refine sxo_nil ?_
        refine sxq_next ?_
        refine sxc_ret ?_
        refine sxq_blkR ?_
        refine sxq_thenR ?_
        refine sxq_thenR ?_
        refine sxq_blkR ?_
        refine sxq_thenR ?_
        exact sxq_doneP () (res1 rfl rfl)
      · refine sxc_skip ?_
        refine sxq_blkN ?_
        refine sxq_next ?_
        refine sxc_region ?_
        refine sxo_add rfl rfl rfl rfl ?_
        refine sxo_move rfl rfl rfl ?_
        refine sxo_nil ?_
        exact sxq_againP (iadd .i64 x46 1, ()) (hF := (fk_cons 1 rfl fk_nil))
    · refine sxc_exit ?_
      refine sxq_thenX ?_
      refine sxq_thenX ?_
      refine sxq_blkX ?_
      exact sxq_meetP ((), ())
  · rintro ⟨_, _⟩
    try dsimp only
    refine sxc_seq ?_
    refine sxc_region ?_
    refine sxo_move rfl rfl rfl ?_
    refine sxo_assign rfl rfl rfl ?_
    refine sxo_nil ?_
    refine sxq_next ?_
    refine sxc_ret ?_
    exact sxq_doneP () (res1 rfl rfl)

theorem C_cmp_isNaN_int (F : Nat) (x1 : Int) (r : Bool) (hm : M_cmp_isNaN_int F x1 = some r) :
    Pure Try.prog 81 [.int .i64 x1] [] Unit (fun _ => .bool r) (fun _ => []) (fun _ => []) := by
  refine pure_of Try.func81 rfl Try.ntmps81 rfl hm (fun w => ?_)
  refine sxc_env (l' := [(0, .int .i64 x1)]) rfl ?_
  refine sxc_seq ?_
  refine sxc_region ?_
  refine sxo_assign rfl rfl rfl ?_
  refine sxo_nil ?_
  refine sxq_next ?_
  refine sxc_seq ?_
  refine sxc_region ?_
  refine sxo_move rfl rfl rfl ?_
  refine sxo_move rfl rfl rfl ?_
  refine sxo_neq rfl rfl rfl rfl ?_
  refine sxo_assign rfl rfl rfl ?_
  refine sxo_nil ?_
  refine sxq_next ?_
  refine sxc_ret ?_
  exact sxq_doneP () (res1 rfl rfl)

theorem C_cmp_Compare_int (F : Nat) (x1 : Int) (x2 : Int) (r : Int) (hm : M_cmp_Compare_int F x1 x2 = some r) :
    Pure Try.prog 69 [.int .i64 x1, .int .i64 x2] [] Unit (fun _ => .int .i64 r) (fun _ => []) (fun _ => []) := by
  refine pure_of Try.func69 rfl Try.ntmps69 rfl hm (fun w => ?_)
  refine sxc_env (l' := [(0, .int .i64 x1), (1, .int .i64 x2)]) rfl ?_
  refine sxc_seq ?_
  refine sxc_region ?_
  refine sxo_assign rfl rfl rfl ?_
  refine sxo_nil ?_
  refine sxq_next ?_
  refine sxc_seq ?_
  refine sxc_region ?_
  refine sxo_move rfl rfl rfl ?_
  refine sxo_call ent81 rfl rfl rfl (fun x3 e3 => C_cmp_isNaN_int F x1 x3 e3) .nil (fun x3 e3 => ?_)
  intro _
  refine sxo_assign rfl rfl rfl ?_
  refine sxo_nil ?_
  refine sxq_next ?_
  refine sxc_seq ?_
  refine sxc_region ?_
  refine sxo_move rfl rfl rfl ?_
  refine sxo_call ent81 rfl rfl rfl (fun x4 e4 => C_cmp_isNaN_int F x2 x4 e4) .nil (fun x4 e4 => ?_)
  intro _
  refine sxo_assign rfl rfl rfl ?_
  refine sxo_nil ?_
  refine sxq_next ?_
  refine sxc_seq ?_
  refine sxc_seq ?_
  refine sxc_region ?_
  refine sxo_move rfl rfl rfl ?_
  refine sxo_nil ?_
  refine sxq_next ?_
  refine sxc_if rfl (fun h16 => ?_) (fun h16 => ?_)
  · refine sxc_seq ?_
    refine sxc_seq ?_
    refine sxc_region ?_
    refine sxo_move rfl rfl rfl ?_
    refine sxo_nil ?_
    refine sxq_next ?_
    refine sxc_if rfl (fun h9 => ?_) (fun h9 => ?_)
    · refine sxc_seq ?_
      refine sxc_region ?_
      refine sxo_assign rfl rfl rfl ?_
      refine sxo_nil ?_
      refine sxq_next ?_
      refine sxc_ret ?_
      refine sxq_thenR ?_
      refine sxq_thenR ?_
      exact sxq_doneP () (res1 rfl rfl)
    · refine sxc_skip ?_
      refine sxq_next ?_
      refine sxc_seq ?_
      refine sxc_region ?_
      refine sxo_assign rfl rfl rfl ?_
      refine sxo_nil ?_
      refine sxq_next ?_
      refine sxc_ret ?_
      refine sxq_thenR ?_
      exact sxq_doneP () (res1 rfl rfl)
  · refine sxc_skip ?_
    refine sxq_next ?_
    refine sxc_seq ?_
    refine sxc_seq ?_
    refine sxc_region ?_
    refine sxo_move rfl rfl rfl ?_
    refine sxo_nil ?_
    refine sxq_next ?_
    refine sxc_if rfl (fun h15 => ?_) (fun h15 => ?_)
    · refine sxc_seq ?_
      refine sxc_region ?_
      refine sxo_assign rfl rfl rfl ?_
      refine sxo_nil ?_
      refine sxq_next ?_
      refine sxc_ret ?_
      refine sxq_thenR ?_
      exact sxq_doneP () (res1 rfl rfl)
    · refine sxc_skip ?_
      refine sxq_next ?_
      refine sxc_seq ?_
      refine sxc_seq ?_
      refine sxc_region ?_
      refine sxo_move rfl rfl rfl ?_
      refine sxo_move rfl rfl rfl ?_
      refine sxo_lss rfl rfl rfl rfl ?_
      refine sxo_nil ?_
      refine sxq_next ?_
      refine sxc_if rfl (fun h14 => ?_) (fun h14 => ?_)
      · refine sxc_seq ?_
        refine sxc_region ?_
        refine sxo_assign rfl rfl rfl ?_
        refine sxo_nil ?_
        refine sxq_next ?_
        refine sxc_ret ?_
        refine sxq_thenR ?_
        exact sxq_doneP () (res1 rfl rfl)
      · refine sxc_skip ?_
        refine sxq_next ?_
        refine sxc_seq ?_
        refine sxc_seq ?_
        refine sxc_region ?_
        refine sxo_move rfl rfl rfl ?_
        refine sxo_move rfl rfl rfl ?_
        refine sxo_gtr rfl rfl rfl rfl ?_
        refine sxo_nil ?_
        refine sxq_next ?_
        refine sxc_if rfl (fun h13 => ?_) (fun h13 => ?_)
        · refine sxc_seq ?_
          refine sxc_region ?_
          refine sxo_assign rfl rfl rfl ?_
          refine sxo_nil ?_
          refine sxq_next ?_
          refine sxc_ret ?_
          refine sxq_thenR ?_
          exact sxq_doneP () (res1 rfl rfl)
        · refine sxc_skip ?_
          refine sxq_next ?_
          refine sxc_seq ?_
          refine sxc_region ?_
          refine sxo_assign rfl rfl rfl ?_
          refine sxo_nil ?_
          refine sxq_next ?_
          refine sxc_ret ?_
          exact sxq_doneP () (res1 rfl rfl)

theorem C_graph_order (F : Nat) (x1 : Int) (x2 : Int) (x3 : Int) (x4 : Int) (r : Int) (hm : M_graph_order F x1 x2 x3 x4 = some r) :
    Pure Try.prog 48 [.agg #[.int .i64 x1, .int .i64 x2], .agg #[.int .i64 x3, .int .i64 x4]] [] Unit (fun _ => .int .i64 r) (fun _ => []) (fun _ => []) := by
  refine pure_of Try.func48 rfl Try.ntmps48 rfl hm (fun w => ?_)
  refine sxc_env (l' := [(0, .agg #[.int .i64 x1, .int .i64 x2]), (1, .agg #[.int .i64 x3, .int .i64 x4])]) rfl ?_
  refine sxc_seq ?_
  refine sxc_region ?_
  refine sxo_box rfl rfl rfl (fun g5 => ?_)
  refine sxo_box rfl rfl rfl (fun g6 => ?_)
  refine sxo_assign rfl rfl rfl ?_
  refine sxo_nil ?_
  refine sxq_next ?_
  refine sxc_seq ?_
  refine sxb_draw mixed [] [⟨g6, 48, [.int .i64 x3, .int .i64 x4]⟩, ⟨g5, 48, [.int .i64 x1, .int .i64 x2]⟩] [] (.cons 0 rfl (.cons 0 rfl .nil)) gk_nil 13 rfl ?_
  refine sxb_takeP 0 (.pointer (some ⟨g5, 0, none⟩)) rfl rfl rfl (yv_fieldAddr rfl ff48_0) ?_
  refine sxb_takeB 1 (.int .i64 x1) rfl rfl rfl (yv_loadB (i := 1) rfl tf3 rfl rfl (fun _ => rfl) rfl) ?_
  refine sxb_takeP 2 (.pointer (some ⟨g6, 0, none⟩)) rfl rfl rfl (yv_fieldAddr rfl ff48_0) ?_
  refine sxb_takeB 3 (.int .i64 x3) rfl rfl rfl (yv_loadB (i := 0) rfl tf3 rfl rfl (fun _ => rfl) rfl) ?_
  refine sxb_takeP 5 (.pointer (some ⟨g5, 1, none⟩)) rfl rfl rfl (yv_fieldAddr rfl ff48_1) ?_
  refine sxb_takeB 6 (.int .i64 x2) rfl rfl rfl (yv_loadB (i := 1) rfl tf3 rfl rfl (fun _ => rfl) rfl) ?_
  refine sxb_takeP 7 (.pointer (some ⟨g6, 1, none⟩)) rfl rfl rfl (yv_fieldAddr rfl ff48_1) ?_
  refine sxb_takeB 8 (.int .i64 x4) rfl rfl rfl (yv_loadB (i := 0) rfl tf3 rfl rfl (fun _ => rfl) rfl) ?_
  refine sxb_step 4 rfl (by kernel_rfl) rfl ?_
  refine sxo_call ent69 rfl rfl rfl (fun x12 e12 => C_cmp_Compare_int F x1 x3 x12 e12) .nil (fun x12 e12 => ?_)
  intro _
  refine sxo_nil ?_
  refine sxq_anyB (.cons 0 rfl (.cons 0 rfl .nil)) gk_nil ?_
  refine sxb_step 9 rfl (by kernel_rfl) rfl ?_
  refine sxo_call ent69 rfl rfl rfl (fun x13 e13 => C_cmp_Compare_int F x2 x4 x13 e13) .nil (fun x13 e13 => ?_)
  intro _
  refine sxo_nil ?_
  refine sxq_anyB (.cons 0 rfl (.cons 0 rfl .nil)) gk_nil ?_
  refine sxb_step 10 rfl (by kernel_rfl) rfl ?_
  refine sxo_slit (vs := [.int .i64 x12, .int .i64 x13]) (ys := ([x12, x13] : List Int)) (eI_ok .i64) (by decide) rfl Try.underlying25 tf3 rfl rfl rfl rfl rfl (by decide) (fun a14 c15 => ?_)
  refine sxo_nil ?_
  refine sxq_anyB (.cons 0 rfl (.cons 0 rfl .nil)) gk_nil ?_
  refine sxb_step 11 rfl (by kernel_rfl) rfl ?_
  refine sxo_call ent68 rfl rfl rfl (fun x16 e16 => C_cmp_Or_int F ([x12, x13] : List Int) a14 c15 x16 e16) (.consR 0 (Ro (eI .i64) 3 1 (.slice a14 ([x12, x13] : List Int).length c15) ([x12, x13] : List Int)) rfl .nil) (fun x16 e16 => ?_)
  intro _
  refine sxo_nil ?_
  refine sxq_anyB (.cons 0 rfl (.cons 0 rfl .nil)) gk_nil ?_
  refine sxb_takeP 12 (.int .i64 x16) rfl rfl rfl (yv_pv rfl) ?_
  refine sxb_done (by kernel_rfl) ?_
  refine sxq_np ?_ (by intro c h; cases h)
  refine sxq_next ?_
  refine sxc_ret ?_
  exact sxq_doneP () (res1 rfl rfl)

theorem C_slices_Values_api_Arc_api_Arc_1 (F : Nat) {σ τ : Type} {J : Rounds σ τ} {yy : σ → (Int × Int) → Option (σ ⊕ τ)} {L : Nat} (hY : YieldC Try.prog L (fun (p : (Int × Int)) => [.agg #[.int .i64 p.1, .int .i64 p.2]]) J yy) (s0 : σ) (gs0 : J.γ) (g1 : Nat) (x2 : List (Int × Int)) (a3 : Option Addr) (c4 : Nat) (r : σ ⊕ τ) (hm : M_slices_Values_api_Arc_api_Arc_1 F yy x2 s0 = some r) :
    PureM Try.prog 67 ([.func (.yield L) #[] #[], .pointer (some ⟨g1, 0, none⟩)]) ([⟨g1, 51, [.slice a3 x2.length c4]⟩] ++ J.IB s0 gs0) (J.IR s0 gs0) [J.F, Sl eS48 2 (.slice a3 x2.length c4) x2] (J.G r) (fun _ => .tuple #[]) (fun g => [⟨g1, 51, [.slice a3 x2.length c4]⟩] ++ J.bs r g) (fun g => J.rs r g) := by
  refine pureM_of Try.func67 rfl Try.ntmps67 rfl hm (fun w => ?_)
  refine sxc_env (l' := [(0, .func (.yield L) #[] #[]), (1, .pointer (some ⟨g1, 0, none⟩))]) rfl ?_
  refine sxc_seq ?_
  refine sxc_region ?_
  refine sxo_loadB (i := 0) rfl rfl tf51 rfl rfl (fun _ => rfl) rfl rfl ?_
  refine sxo_len rfl Try.underlying51 rfl rfl ?_
  refine sxo_move rfl rfl rfl ?_
  refine sxo_nil ?_
  refine sxq_next ?_
  refine sxc_block ?_
  refine sxc_loopP (fun (((x23, x24), g25) : ((Int × σ) × J.γ)) => [(0, .func (.yield L) #[] #[]), (5, .slice a3 x2.length c4), (6, .int .i64 (x2.length : Int)), (7, .int .i64 x23)]) (fun (((x23, x24), g25) : ((Int × σ) × J.γ)) => [⟨g1, 51, [.slice a3 x2.length c4]⟩] ++ J.IB x24 g25) (fun (((x23, x24), g25) : ((Int × σ) × J.γ)) => [] ++ J.IR x24 g25) (fun (((x23, x24), g25) : ((Int × σ) × J.γ)) => [Sl eS48 2 (.slice a3 x2.length c4) x2, J.F]) (fun k (s : ((Int × σ) × J.γ)) => M_slices_Values_api_Arc_api_Arc_1_l1 F yy x2 k s.1) ((0, s0), gs0) F ?_ (hB := (.cons 0 rfl (pick_rest 0 rfl))) (hR := (pick_rest 0 rfl)) (hF := (fk_cons 1 rfl (fk_cons 0 rfl fk_nil)))
  intro k44
  rintro ⟨⟨x23, x24⟩, g25⟩
  try dsimp only
  refine sxc_meq (m' := M_slices_Values_api_Arc_api_Arc_1_b1 F yy x2 (M_slices_Values_api_Arc_api_Arc_1_l1 F yy x2 k44) x23 x24) rfl ?_
  refine sxc_seq ?_
  refine sxc_region ?_
  refine sxo_lss rfl rfl rfl rfl ?_
  refine sxo_nil ?_
  refine sxq_next ?_
  refine sxc_seq ?_
  refine sxc_if rfl (fun h62 => ?_) (fun h62 => ?_)
  · refine sxc_skip ?_
    refine sxq_next ?_
    refine sxc_seq ?_
    refine sxc_block ?_
    refine sxc_seq ?_
    refine sxc_region ?_
    refine sxo_indexF (j := 0) eS48_ok (by decide) rfl Try.underlying51 tf48 rfl rfl rfl rfl (fun x54 e54 b55 o56 => ?_)
    refine sxo_loadF (j := 0) rfl rfl tf48 rfl rfl (by simp) rfl rfl ?_
    refine sxo_alloc rfl tf48 rfl (fun g57 => ?_)
    refine sxo_storeB (i := 0) rfl rfl rfl tf48 rfl rfl rfl rfl rfl ?_
    refine sxo_nil ?_
    refine sxq_next ?_
    refine sxc_seq ?_
    refine sxc_region ?_
    refine sxo_move rfl rfl rfl ?_
    refine sxo_loadB (i := 0) rfl rfl tf48 rfl rfl (by simp) rfl rfl ?_
    refine sxo_yield hY x24 (x54.1, x54.2) g25 (B1 := [⟨g57, 48, [.int .i64 x54.1, .int .i64 x54.2]⟩, ⟨g1, 51, [.slice a3 x2.length c4]⟩]) (R1 := []) (j := 2) rfl rfl rfl rfl rfl rfl rfl (fun x58 _ g60 => ?_) (fun x59 _ g60 => ?_)
    · refine sxo_not rfl rfl rfl ?_
      refine sxo_nil ?_
      refine sxq_next ?_
      refine sxc_cond (b := false) rfl (fun h => by cases h) (fun _ => ?_)
      refine sxc_skip ?_
      refine sxq_blkN ?_
      refine sxq_next ?_
      refine sxc_region ?_
      refine sxo_add rfl rfl rfl rfl ?_
      refine sxo_move rfl rfl rfl ?_
      refine sxo_nil ?_
      exact sxq_againP ((iadd .i64 x23 1, x58), g60) (hB := (.cons 1 rfl (pick_rest 1 rfl))) (hR := (pick_rest 0 rfl)) (hF := (fk_cons 1 rfl (fk_cons 2 rfl fk_nil)))
    · refine sxo_not rfl rfl rfl ?_
      refine sxo_nil ?_
      refine sxq_next ?_
      refine sxc_cond (b := true) rfl (fun _ => ?_) (fun h => by cases h)
      refine sxc_ret ?_
      refine sxq_blkR ?_
      refine sxq_thenR ?_
      refine sxq_thenR ?_
      refine sxq_blkR ?_
      exact sxq_doneI (B0 := [⟨g1, 51, [.slice a3 x2.length c4]⟩]) (x := .inr x59) g60 (.inl rfl) (res0 rfl) (.cons 1 rfl (pick_rest 1 rfl)) (pick_rest 0 rfl)
  · refine sxc_exit ?_
    refine sxq_thenX ?_
    refine sxq_thenX ?_
    refine sxq_blkX ?_
    exact sxq_doneI (B0 := [⟨g1, 51, [.slice a3 x2.length c4]⟩]) (x := .inl x24) g25 (.inr rfl) (res0 rfl) (.cons 0 rfl (pick_rest 0 rfl)) (pick_rest 0 rfl)

theorem C_slices_AppendSeq_api_Arc_api_Arc_slices_Values_api_Arc_api_Arc_1 (F : Nat) (x1 : List (Int × Int)) (a2 : Option Addr) (c3 : Nat) (g4 : Nat) (x5 : List (Int × Int)) (a6 : Option Addr) (c7 : Nat) (r : List (Int × Int)) (hm : M_slices_AppendSeq_api_Arc_api_Arc_slices_Values_api_Arc_api_Arc_1 F x1 x5 = some r) :
    PureM Try.prog 75 [.slice a2 x1.length c3, .func (.func 67) #[] #[.pointer (some ⟨g4, 0, none⟩)]] [⟨g4, 51, [.slice a6 x5.length c7]⟩] [Ro eS48 48 2 (.slice a2 x1.length c3) x1] [Sl eS48 2 (.slice a6 x5.length c7) x5] (Option Addr × Nat) (fun g => .slice g.1 r.length g.2) (fun _ => [⟨g4, 51, [.slice a6 x5.length c7]⟩]) (fun g => [Ro eS48 48 2 (.slice g.1 r.length g.2) r]) := by
  refine pureX_of Try.func75 rfl Try.ntmps75 rfl hm (fun w => ?_)
  refine sxc_env (l' := [(0, .slice a2 x1.length c3), (1, .func (.func 67) #[] #[.pointer (some ⟨g4, 0, none⟩)])]) rfl ?_
  refine sxc_seq ?_
  refine sxc_region ?_
  refine sxo_box rfl rfl rfl (fun g8 => ?_)
  refine sxo_assign rfl rfl rfl ?_
  refine sxo_nil ?_
  refine sxq_next ?_
  refine sxc_seq ?_
  refine sxc_seq ?_
  refine sxc_region ?_
  refine sxo_move rfl rfl rfl ?_
  refine sxo_nil ?_
  refine sxq_next ?_
  refine sxc_block ?_
  refine sxc_range (encs := (fun (p : (Int × Int)) => [.agg #[.int .i64 p.1, .int .i64 p.2]])) (y := (fun (x46 : List (Int × Int)) ((x55, x56) : (Int × Int)) => M_slices_AppendSeq_api_Arc_api_Arc_slices_Values_api_Arc_api_Arc_1_r2 F x46 x55 x56)) (lb := [.pointer (some ⟨g4, 0, none⟩)]) (fun (x46 : List (Int × Int)) ((a44, c45) : (Option Addr × Nat)) => [⟨g8, 51, [.slice a44 x46.length c45]⟩]) (fun (x46 : List (Int × Int)) ((a44, c45) : (Option Addr × Nat)) => [Ro eS48 48 2 (.slice a44 x46.length c45) x46]) (fun (_ : Empty) (_ : Unit) => []) (fun (_ : Empty) (_ : Unit) => []) (fun _ => .skip) x1 (a2, c3) rfl ent67 (fun _ => rfl) rfl (.cons 1 rfl .nil) (.cons 0 rfl .nil) (.cons 0 rfl .nil) (.consF 0 rfl .nil) (fun z hz _ _ _ hY => C_slices_Values_api_Arc_api_Arc_1 F hY x1 (a2, c3) g4 x5 a6 c7 z hz) ?_ ?_ ?_
  · rintro rc1 L1 D1 x46 ⟨a44, c45⟩ ⟨x55, x56⟩ z w M _
    try dsimp only
    refine sxc_less [(0, .slice a2 x1.length c3), (1, .func (.func 67) #[] #[.pointer (some ⟨g4, 0, none⟩)]), (2, .pointer (some ⟨g8, 0, none⟩)), (4, .slice none 0 0), (6, .func (.func 67) #[] #[.pointer (some ⟨g4, 0, none⟩)]), (7, .agg #[.int .i64 x55, .int .i64 x56])] (lk_cons rfl (lk_cons rfl (lk_cons rfl (lk_cons rfl (lk_cons rfl (lk_cons rfl lk_nil)))))) ?_
    refine sxc_region ?_
    refine sxo_alloc rfl tf48 rfl (fun g57 => ?_)
    refine sxo_storeB (i := 0) rfl rfl rfl tf48 rfl rfl rfl rfl rfl ?_
    refine sxo_nil ?_
    refine sxq_begin (i := 2) rfl ?_
    refine sxc_block ?_
    refine sxc_region ?_
    refine sxo_loadB (i := 1) rfl rfl tf51 rfl rfl (fun _ => rfl) rfl rfl ?_
    refine sxo_loadB (i := 0) rfl rfl tf48 rfl rfl (by simp) rfl rfl ?_
    refine sxo_slit (vs := [.agg #[.int .i64 x55, .int .i64 x56]]) (ys := ([(x55, x56)] : List (Int × Int))) eS48_ok (by decide) rfl Try.underlying51 tf48 rfl rfl rfl rfl rfl (by decide) (fun a58 c59 => ?_)
    refine sxo_app 1 eS48_ok rfl Try.underlying51 tf48 rfl rfl rfl rfl rfl (.inl ⟨0, _, rfl⟩) rfl rfl (fun x60 e60 a61 c62 => ?_)
    refine sxo_storeB (i := 1) rfl rfl rfl tf51 rfl rfl rfl rfl rfl ?_
    refine sxo_nil ?_
    refine sxq_blkN ?_
    exact sxq_round (rc := rc1) rfl (.cons 2 rfl .nil) rfl (a61, c62) (.cons 2 rfl (.cons 0 rfl (.cons 1 rfl .nil))) (.cons 0 rfl .nil)
  · rintro x46 _ ⟨a44, c45⟩ D1
    try dsimp only
    refine sxq_blkN ?_
    refine sxq_next ?_
    refine sxc_seq ?_
    refine sxc_region ?_
    refine sxo_loadB (i := 2) rfl rfl tf51 rfl rfl (fun _ => rfl) rfl rfl ?_
    refine sxo_assign rfl rfl rfl ?_
    refine sxo_nil ?_
    refine sxq_next ?_
    refine sxc_ret ?_
    exact sxq_doneX [D1] (a44, c45) (.inl rfl) rfl (.cons 0 rfl .nil) (res1 rfl rfl) (fun h => by subst h; rfl) (fun h => by subst h; exact (.cons 0 rfl .nil)) (fun h => by subst h; exact (.cons 0 rfl .nil))
  · intro t; exact t.elim

theorem C_slices_Collect_api_Arc_slices_Values_api_Arc_api_Arc_1 (F : Nat) (g1 : Nat) (x2 : List (Int × Int)) (a3 : Option Addr) (c4 : Nat) (r : List (Int × Int)) (hm : M_slices_Collect_api_Arc_slices_Values_api_Arc_api_Arc_1 F x2 = some r) :
    PureM Try.prog 55 [.func (.func 67) #[] #[.pointer (some ⟨g1, 0, none⟩)]] [⟨g1, 51, [.slice a3 x2.length c4]⟩] [] [Sl eS48 2 (.slice a3 x2.length c4) x2] (Option Addr × Nat) (fun g => .slice g.1 r.length g.2) (fun _ => [⟨g1, 51, [.slice a3 x2.length c4]⟩]) (fun g => [Ro eS48 48 2 (.slice g.1 r.length g.2) r]) := by
  refine pureM_of Try.func55 rfl Try.ntmps55 rfl hm (fun w => ?_)
  refine sxc_env (l' := [(0, .func (.func 67) #[] #[.pointer (some ⟨g1, 0, none⟩)])]) rfl ?_
  refine sxc_seq ?_
  refine sxc_region ?_
  refine sxo_assign rfl rfl rfl ?_
  refine sxo_nil ?_
  refine sxq_next ?_
  refine sxc_seq ?_
  refine sxc_region ?_
  refine sxo_move rfl rfl rfl ?_
  refine sxo_nilrow' (Int × Int) eS48 48 2 ?_
  refine sxo_callM ent75 rfl rfl rfl (fun x5 e5 => C_slices_AppendSeq_api_Arc_api_Arc_slices_Values_api_Arc_api_Arc_1 F ([] : List (Int × Int)) none 0 g1 x2 a3 c4 x5 e5) (.cons 0 rfl .nil) (.cons 0 rfl .nil) (.consF 0 rfl .nil) (fun x5 e5 => ?_)
  rintro ⟨a6, c7⟩
  refine sxo_assign rfl rfl rfl ?_
  refine sxo_nil ?_
  refine sxq_next ?_
  refine sxc_ret ?_
  exact sxq_doneM (a6, c7) (res1 rfl rfl) (hB := fun h => by subst h; exact (.cons 0 rfl .nil)) (hR := fun h => by subst h; exact (.cons 0 rfl .nil))

theorem C_slices_SortFunc_api_Arc_api_Arc_graph_order (F : Nat) (x1 : List (Int × Int)) (a2 : Option Addr) (c3 : Nat) (r : List (Int × Int)) (hm : M_slices_SortFunc_api_Arc_api_Arc_graph_order F x1 = some r) :
    PureM Try.prog 66 [.slice a2 x1.length c3, .func (.func 48) #[] #[]] [] [Ro eS48 48 2 (.slice a2 x1.length c3) x1] [] Unit (fun _ => .tuple #[]) (fun _ => []) (fun _ => [Ro eS48 48 2 (.slice a2 r.length c3) r]) :=
  sortf_pureM (cb := []) (BC := []) (Φ := []) eS48_ok (by decide) (sby66_48 _) (fun p cap w => Try.sortn66 p cap _ w) (fun a b z h => (C_graph_order F a.1 a.2 b.1 b.2 z h).toM) hm

theorem C_slices_SortedFunc_api_Arc_slices_Values_api_Arc_api_Arc_1_graph_order (F : Nat) (g1 : Nat) (x2 : List (Int × Int)) (a3 : Option Addr) (c4 : Nat) (r : List (Int × Int)) (hm : M_slices_SortedFunc_api_Arc_slices_Values_api_Arc_api_Arc_1_graph_order F x2 = some r) :
    PureM Try.prog 45 [.func (.func 67) #[] #[.pointer (some ⟨g1, 0, none⟩)], .func (.func 48) #[] #[]] [⟨g1, 51, [.slice a3 x2.length c4]⟩] [] [Sl eS48 2 (.slice a3 x2.length c4) x2] (Option Addr × Nat) (fun g => .slice g.1 r.length g.2) (fun _ => [⟨g1, 51, [.slice a3 x2.length c4]⟩]) (fun g => [Ro eS48 48 2 (.slice g.1 r.length g.2) r]) := by
  refine pureM_of Try.func45 rfl Try.ntmps45 rfl hm (fun w => ?_)
  refine sxc_env (l' := [(0, .func (.func 67) #[] #[.pointer (some ⟨g1, 0, none⟩)]), (1, .func (.func 48) #[] #[])]) rfl ?_
  refine sxc_seq ?_
  refine sxc_region ?_
  refine sxo_assign rfl rfl rfl ?_
  refine sxo_nil ?_
  refine sxq_next ?_
  refine sxc_seq ?_
  refine sxc_region ?_
  refine sxo_move rfl rfl rfl ?_
  refine sxo_callM ent55 rfl rfl rfl (fun x5 e5 => C_slices_Collect_api_Arc_slices_Values_api_Arc_api_Arc_1 F g1 x2 a3 c4 x5 e5) (.cons 0 rfl .nil) .nil (.consF 0 rfl .nil) (fun x5 e5 => ?_)
  rintro ⟨a6, c7⟩
  refine sxo_assign rfl rfl rfl ?_
  refine sxo_nil ?_
  refine sxq_next ?_
  refine sxc_seq ?_
  refine sxc_region ?_
  refine sxo_move rfl rfl rfl ?_
  refine sxo_move rfl rfl rfl ?_
  refine sxo_callM ent66 rfl rfl rfl (fun x8 e8 => C_slices_SortFunc_api_Arc_api_Arc_graph_order F x5 a6 c7 x8 e8) .nil (.cons 0 rfl .nil) .nil (fun x8 e8 => ?_)
  intro _
  refine sxo_chk (fun h9 => ?_)
  replace h9 := of_decide_eq_true h9
  refine sxo_again (d := 5) (v := .slice a6 x8.length c7) rfl (by rw [h9] <;> rfl) ?_
  refine sxo_again (d := 7) (v := .slice a6 x8.length c7) rfl (by rw [h9] <;> rfl) ?_
  refine sxo_again (d := 8) (v := .slice a6 x8.length c7) rfl (by rw [h9] <;> rfl) ?_
  refine sxo_nil ?_
  refine sxq_next ?_
  refine sxc_seq ?_
  refine sxc_region ?_
  refine sxo_move rfl rfl rfl ?_
  refine sxo_assign rfl rfl rfl ?_
  refine sxo_nil ?_
  refine sxq_next ?_
  refine sxc_ret ?_
  exact sxq_doneM (a6, c7) (res1 rfl rfl) (hB := fun h => by subst h; exact (.cons 0 rfl .nil)) (hR := fun h => by subst h; exact (.cons 0 rfl .nil))

set_option maxHeartbeats 4000000 in
theorem C_graph_Of (F : Nat) (x1 : Int) (x2 : List (Int × Int)) (a3 : Option Addr) (c4 : Nat) (r : (List (List Int) × Int)) (hm : M_graph_Of F x1 x2 = some r) :
    Pure Try.prog 30 [.int .i64 x1, .slice a3 x2.length c4] [Sl eS48 2 (.slice a3 x2.length c4) x2] (Option Addr × (Nat × List (Option Addr × Nat))) (fun g => .tuple #[.agg #[.slice g.1 r.1.length g.2.1], .int .i64 r.2]) (fun g => [RoN eN25 rN25 25 1 (.slice g.1 r.1.length g.2.1) r.1 g.2.2 []]) (fun _ => []) := by
  refine pure_of Try.func30 rfl Try.ntmps30 rfl hm (fun w => ?_)
  refine sxc_env (l' := [(0, .int .i64 x1), (1, .slice a3 x2.length c4)]) rfl ?_
  refine sxc_seq ?_
  refine sxc_region ?_
  refine sxo_alloc rfl tf24 rfl (fun g5 => ?_)
  refine sxo_assign rfl rfl rfl ?_
  refine sxo_nil ?_
  refine sxq_next ?_
  refine sxc_seq ?_
  refine sxc_block ?_
  refine sxc_seq ?_
  refine sxc_region ?_
  refine sxo_move rfl rfl rfl ?_
  refine sxo_lss rfl rfl rfl rfl ?_
  refine sxo_move rfl rfl rfl ?_
  refine sxo_case 3 (decide (x1 < 0)) [(0, .int .i64 x1), (1, .slice a3 x2.length c4), (4, .pointer (some ⟨g5, 0, none⟩)), (17, .bool ((decide (x1 < 0)) || (decide (100 < x1))))] (fun h9 => ?_) (fun h9 => ?_) ?_
  · refine sxo_take (os := _) rfl ?_
    refine sxo_isT (k := 14) rfl h9 ?_
    refine sxo_skip rfl rfl rfl ?_
    refine sxo_skip rfl rfl rfl ?_
    refine sxo_pick (b := true) rfl rfl rfl rfl ?_
    refine sxo_again (d := 17) (v := .bool ((decide (x1 < 0)) || (decide (100 < x1)))) rfl (by rw [h9]; simp only [Bool.true_or]) ?_
    refine sxo_nil ?_
    exact sxq_case (lk_cons rfl (lk_cons rfl (lk_cons rfl (lk_cons rfl lk_nil))))
  · refine sxo_take (os := _) rfl ?_
    refine sxo_isF (k := 14) rfl h9 ?_
    refine sxo_move rfl rfl rfl ?_
    refine sxo_gtr rfl rfl rfl rfl ?_
    refine sxo_pick (b := false) rfl rfl rfl rfl ?_
    refine sxo_again (d := 17) (v := .bool ((decide (x1 < 0)) || (decide (100 < x1)))) rfl (by rw [h9]; simp only [Bool.false_or]) ?_
    refine sxo_nil ?_
    exact sxq_case (lk_cons rfl (lk_cons rfl (lk_cons rfl (lk_cons rfl lk_nil))))
  refine sxo_take (os := _) rfl ?_
  refine sxo_assign rfl rfl rfl ?_
  refine sxo_nil ?_
  refine sxq_next ?_
  refine sxc_if rfl (fun h242 => ?_) (fun h242 => ?_)
  · refine sxc_seq ?_
    refine sxc_region ?_
    refine sxo_build (cells := [.slice none 0 0]) rfl st24 rfl (by kernel_rfl) rfl ?_
    refine sxo_storeB (i := 0) rfl rfl rfl tf24 rfl rfl rfl rfl rfl ?_
    refine sxo_assign rfl rfl rfl ?_
    refine sxo_nil ?_
    refine sxq_next ?_
    refine sxc_ret ?_
    refine sxq_blkR ?_
    refine sxq_thenR ?_
    refine sxq_nilN (List Int) (Option Addr × Nat) eN25 rN25 25 1 ?_
    exact sxq_doneP (none, (0, ([] : List (Option Addr × Nat)))) (resL (rs := [.cell 4 24, .tmp 5]) rfl (.cell (i := 0) rfl tf24 rfl rfl (by simp) rfl (.tmp rfl ResOk.nil)) rfl) (fun h => by subst h; exact (.cons 0 rfl .nil))
  · refine sxc_seq ?_
    refine sxc_region ?_
    refine sxo_move rfl rfl rfl ?_
    refine sxo_len rfl Try.underlying51 rfl rfl ?_
    refine sxo_gtr rfl rfl rfl rfl ?_
    refine sxo_assign rfl rfl rfl ?_
    refine sxo_nil ?_
    refine sxq_next ?_
    refine sxc_if rfl (fun h241 => ?_) (fun h241 => ?_)
    · refine sxc_seq ?_
      refine sxc_region ?_
      refine sxo_build (cells := [.slice none 0 0]) rfl st24 rfl (by kernel_rfl) rfl ?_
      refine sxo_storeB (i := 0) rfl rfl rfl tf24 rfl rfl rfl rfl rfl ?_
      refine sxo_assign rfl rfl rfl ?_
      refine sxo_nil ?_
      refine sxq_next ?_
      refine sxc_ret ?_
      refine sxq_blkR ?_
      refine sxq_thenR ?_
      refine sxq_nilN (List Int) (Option Addr × Nat) eN25 rN25 25 1 ?_
      exact sxq_doneP (none, (0, ([] : List (Option Addr × Nat)))) (resL (rs := [.cell 4 24, .tmp 5]) rfl (.cell (i := 0) rfl tf24 rfl rfl (by simp) rfl (.tmp rfl ResOk.nil)) rfl) (fun h => by subst h; exact (.cons 0 rfl .nil))
    · refine sxc_skip ?_
      refine sxq_blkN ?_
      refine sxq_next ?_
      refine sxc_seq ?_
      refine sxc_region ?_
      refine sxo_makeMap (k0 := .i64) (k1 := .i64) rfl rfl (fun g10 => ?_)
      refine sxo_assign rfl rfl rfl ?_
      refine sxo_nil ?_
      refine sxq_next ?_
      refine sxc_join (fun ((_, _) : (Unit × Unit)) => [(0, .int .i64 x1), (1, .slice a3 x2.length c4), (4, .pointer (some ⟨g5, 0, none⟩))]) (fun ((_, _) : (Unit × Unit)) => [⟨g5, 24, [.slice none 0 0]⟩]) (fun ((_, _) : (Unit × Unit)) => []) (fun ((_, _) : (Unit × Unit)) => [Sl eS48 2 (.slice a3 x2.length c4) x2]) (fun ((_, _) : (Unit × Unit)) => M_graph_Of_j2 F x1 x2) ?_ ?_
      · refine sxc_seq ?_
        refine sxc_region ?_
        refine sxo_move rfl rfl rfl ?_
        refine sxo_len rfl Try.underlying51 rfl rfl ?_
        refine sxo_move rfl rfl rfl ?_
        refine sxo_nil ?_
        refine sxq_next ?_
        refine sxc_block ?_
        refine sxc_loopP (fun (((x166, x167), _) : ((Int × List (Int × Int)) × Unit)) => [(0, .int .i64 x1), (1, .slice a3 x2.length c4), (4, .pointer (some ⟨g5, 0, none⟩)), (6, .map (some g10)), (25, .slice a3 x2.length c4), (26, .int .i64 (x2.length : Int)), (27, .int .i64 x166)]) (fun (((x166, x167), _) : ((Int × List (Int × Int)) × Unit)) => [(blkO g10 (mapO .i64 .i64 x167)), ⟨g5, 24, [.slice none 0 0]⟩]) (fun (((x166, x167), _) : ((Int × List (Int × Int)) × Unit)) => []) (fun (((x166, x167), _) : ((Int × List (Int × Int)) × Unit)) => [Sl eS48 2 (.slice a3 x2.length c4) x2]) (fun k (s : ((Int × List (Int × Int)) × Unit)) => M_graph_Of_l3 F x1 x2 k s.1) ((0, ([] : List (Int × Int))), ()) F ?_ (hB := (.cons 0 rfl (.cons 0 rfl .nil))) (hF := (fk_cons 0 rfl fk_nil))
        intro k204
        rintro ⟨⟨x166, x167⟩, _⟩
        try dsimp only
        refine sxc_meq (m' := M_graph_Of_b3 F x1 x2 (M_graph_Of_l3 F x1 x2 k204) x166 x167) rfl ?_
        refine sxc_seq ?_
        refine sxc_region ?_
        refine sxo_lss rfl rfl rfl rfl ?_
        refine sxo_nil ?_
        refine sxq_next ?_
        refine sxc_seq ?_
        refine sxc_if rfl (fun h240 => ?_) (fun h240 => ?_)
        · refine sxc_skip ?_
          refine sxq_next ?_
          refine sxc_seq ?_
          refine sxc_block ?_
          refine sxc_seq ?_
          refine sxc_region ?_
          refine sxo_indexF (j := 0) eS48_ok (by decide) rfl Try.underlying51 tf48 rfl rfl rfl rfl (fun x223 e223 b224 o225 => ?_)
          refine sxo_loadF (j := 0) rfl rfl tf48 rfl rfl (by simp) rfl rfl ?_
          refine sxo_alloc rfl tf48 rfl (fun g226 => ?_)
          refine sxo_storeB (i := 0) rfl rfl rfl tf48 rfl rfl rfl rfl rfl ?_
          refine sxo_nil ?_
          refine sxq_next ?_
          refine sxc_seq ?_
          refine sxc_seq ?_
          refine sxc_region ?_
          refine sxo_fieldAddr rfl rfl ff48_0 rfl ?_
          refine sxo_loadB (i := 0) rfl rfl tf3 rfl rfl (fun _ => rfl) rfl rfl ?_
          refine sxo_lss rfl rfl rfl rfl ?_
          refine sxo_move rfl rfl rfl ?_
          refine sxo_case 5 (decide (x223.1 < 0)) [(0, .int .i64 x1), (1, .slice a3 x2.length c4), (4, .pointer (some ⟨g5, 0, none⟩)), (6, .map (some g10)), (25, .slice a3 x2.length c4), (26, .int .i64 (x2.length : Int)), (27, .int .i64 x166), (8, .pointer (some ⟨g226, 0, none⟩)), (39, .bool ((decide (x223.1 < 0)) || (decide (x1 ≤ x223.1))))] (fun h231 => ?_) (fun h231 => ?_) ?_
          · refine sxo_take (os := _) rfl ?_
            refine sxo_isT (k := 34) rfl h231 ?_
            refine sxo_skip rfl rfl rfl ?_
            refine sxo_skip rfl rfl rfl ?_
            refine sxo_skip rfl rfl rfl ?_
            refine sxo_skip rfl rfl rfl ?_
            refine sxo_pick (b := true) rfl rfl rfl rfl ?_
            refine sxo_again (d := 39) (v := .bool ((decide (x223.1 < 0)) || (decide (x1 ≤ x223.1)))) rfl (by rw [h231]; simp only [Bool.true_or]) ?_
            refine sxo_nil ?_
            exact sxq_case (lk_cons rfl (lk_cons rfl (lk_cons rfl (lk_cons rfl (lk_cons rfl (lk_cons rfl (lk_cons rfl (lk_cons rfl (lk_cons rfl lk_nil)))))))))
          · refine sxo_take (os := _) rfl ?_
            refine sxo_isF (k := 34) rfl h231 ?_
            refine sxo_fieldAddr rfl rfl ff48_0 rfl ?_
            refine sxo_loadB (i := 0) rfl rfl tf3 rfl rfl (fun _ => rfl) rfl rfl ?_
            refine sxo_move rfl rfl rfl ?_
            refine sxo_geq rfl rfl rfl rfl ?_
            refine sxo_pick (b := false) rfl rfl rfl rfl ?_
            refine sxo_again (d := 39) (v := .bool ((decide (x223.1 < 0)) || (decide (x1 ≤ x223.1)))) rfl (by rw [h231]; simp only [Bool.false_or]) ?_
            refine sxo_nil ?_
            exact sxq_case (lk_cons rfl (lk_cons rfl (lk_cons rfl (lk_cons rfl (lk_cons rfl (lk_cons rfl (lk_cons rfl (lk_cons rfl (lk_cons rfl lk_nil)))))))))
          refine sxo_take (os := _) rfl ?_
          refine sxo_move rfl rfl rfl ?_
          refine sxo_case 4 ((decide (x223.1 < 0)) || (decide (x1 ≤ x223.1))) [(0, .int .i64 x1), (1, .slice a3 x2.length c4), (4, .pointer (some ⟨g5, 0, none⟩)), (6, .map (some g10)), (25, .slice a3 x2.length c4), (26, .int .i64 (x2.length : Int)), (27, .int .i64 x166), (8, .pointer (some ⟨g226, 0, none⟩)), (44, .bool (((decide (x223.1 < 0)) || (decide (x1 ≤ x223.1))) || (decide (x223.2 < 0))))] (fun h232 => ?_) (fun h232 => ?_) ?_
          · refine sxo_take (os := _) rfl ?_
            refine sxo_isT (k := 40) rfl h232 ?_
            refine sxo_skip rfl rfl rfl ?_
            refine sxo_skip rfl rfl rfl ?_
            refine sxo_skip rfl rfl rfl ?_
            refine sxo_pick (b := true) rfl rfl rfl rfl ?_
            refine sxo_again (d := 44) (v := .bool (((decide (x223.1 < 0)) || (decide (x1 ≤ x223.1))) || (decide (x223.2 < 0)))) rfl (by rw [h232]; simp only [Bool.true_or]) ?_
            refine sxo_nil ?_
            exact sxq_case (lk_cons rfl (lk_cons rfl (lk_cons rfl (lk_cons rfl (lk_cons rfl (lk_cons rfl (lk_cons rfl (lk_cons rfl (lk_cons rfl lk_nil)))))))))
          · refine sxo_take (os := _) rfl ?_
            refine sxo_isF (k := 40) rfl h232 ?_
            refine sxo_fieldAddr rfl rfl ff48_1 rfl ?_
            refine sxo_loadB (i := 0) rfl rfl tf3 rfl rfl (fun _ => rfl) rfl rfl ?_
            refine sxo_lss rfl rfl rfl rfl ?_
            refine sxo_pick (b := false) rfl rfl rfl rfl ?_
            refine sxo_again (d := 44) (v := .bool (((decide (x223.1 < 0)) || (decide (x1 ≤ x223.1))) || (decide (x223.2 < 0)))) rfl (by rw [h232]; simp only [Bool.false_or]) ?_
            refine sxo_nil ?_
            exact sxq_case (lk_cons rfl (lk_cons rfl (lk_cons rfl (lk_cons rfl (lk_cons rfl (lk_cons rfl (lk_cons rfl (lk_cons rfl (lk_cons rfl lk_nil)))))))))
          refine sxo_take (os := _) rfl ?_
          refine sxo_move rfl rfl rfl ?_
          refine sxo_case 5 (((decide (x223.1 < 0)) || (decide (x1 ≤ x223.1))) || (decide (x223.2 < 0))) [(0, .int .i64 x1), (1, .slice a3 x2.length c4), (4, .pointer (some ⟨g5, 0, none⟩)), (6, .map (some g10)), (25, .slice a3 x2.length c4), (26, .int .i64 (x2.length : Int)), (27, .int .i64 x166), (8, .pointer (some ⟨g226, 0, none⟩)), (50, .bool ((((decide (x223.1 < 0)) || (decide (x1 ≤ x223.1))) || (decide (x223.2 < 0))) || (decide (x1 ≤ x223.2))))] (fun h233 => ?_) (fun h233 => ?_) ?_
          · refine sxo_take (os := _) rfl ?_
            refine sxo_isT (k := 45) rfl h233 ?_
            refine sxo_skip rfl rfl rfl ?_
            refine sxo_skip rfl rfl rfl ?_
            refine sxo_skip rfl rfl rfl ?_
            refine sxo_skip rfl rfl rfl ?_
            refine sxo_pick (b := true) rfl rfl rfl rfl ?_
            refine sxo_again (d := 50) (v := .bool ((((decide (x223.1 < 0)) || (decide (x1 ≤ x223.1))) || (decide (x223.2 < 0))) || (decide (x1 ≤ x223.2)))) rfl (by rw [h233]; simp only [Bool.true_or]) ?_
            refine sxo_nil ?_
            exact sxq_case (lk_cons rfl (lk_cons rfl (lk_cons rfl (lk_cons rfl (lk_cons rfl (lk_cons rfl (lk_cons rfl (lk_cons rfl (lk_cons rfl lk_nil)))))))))
          · refine sxo_take (os := _) rfl ?_
            refine sxo_isF (k := 45) rfl h233 ?_
            refine sxo_fieldAddr rfl rfl ff48_1 rfl ?_
            refine sxo_loadB (i := 0) rfl rfl tf3 rfl rfl (fun _ => rfl) rfl rfl ?_
            refine sxo_move rfl rfl rfl ?_
            refine sxo_geq rfl rfl rfl rfl ?_
            refine sxo_pick (b := false) rfl rfl rfl rfl ?_
            refine sxo_again (d := 50) (v := .bool ((((decide (x223.1 < 0)) || (decide (x1 ≤ x223.1))) || (decide (x223.2 < 0))) || (decide (x1 ≤ x223.2)))) rfl (by rw [h233]; simp only [Bool.false_or]) ?_
            refine sxo_nil ?_
            exact sxq_case (lk_cons rfl (lk_cons rfl (lk_cons rfl (lk_cons rfl (lk_cons rfl (lk_cons rfl (lk_cons rfl (lk_cons rfl (lk_cons rfl lk_nil)))))))))
          refine sxo_take (os := _) rfl ?_
          refine sxo_nil ?_
          refine sxq_next ?_
          refine sxc_if rfl (fun h239 => ?_) (fun h239 => ?_)
          · refine sxc_seq ?_
            refine sxc_region ?_
            refine sxo_build (cells := [.slice none 0 0]) rfl st24 rfl (by kernel_rfl) rfl ?_
            refine sxo_storeB (i := 2) rfl rfl rfl tf24 rfl rfl rfl rfl rfl ?_
            refine sxo_assign rfl rfl rfl ?_
            refine sxo_nil ?_
            refine sxq_next ?_
            refine sxc_ret ?_
            refine sxq_thenR ?_
            refine sxq_blkR ?_
            refine sxq_thenR ?_
            refine sxq_thenR ?_
            refine sxq_blkR ?_
            refine sxq_thenR ?_
            refine sxq_nilN (List Int) (Option Addr × Nat) eN25 rN25 25 1 ?_
            exact sxq_doneP (none, (0, ([] : List (Option Addr × Nat)))) (resL (rs := [.cell 4 24, .tmp 5]) rfl (.cell (i := 2) rfl tf24 rfl rfl (by simp) rfl (.tmp rfl ResOk.nil)) rfl) (fun h => by subst h; exact (.cons 0 rfl .nil))
          · refine sxc_skip ?_
            refine sxq_next ?_
            refine sxc_seq ?_
            refine sxc_seq ?_
            refine sxc_region ?_
            refine sxo_move rfl rfl rfl ?_
            refine sxo_loadB (i := 0) rfl rfl tf48 rfl rfl (by simp) rfl rfl ?_
            refine sxo_lookupS (i := 1) (p := (x223.1, x223.2)) rfl Try.underlying66 se48 tf69 rfl rfl rfl rfl ?_
            refine sxo_move rfl rfl rfl ?_
            refine sxo_extract rfl rfl rfl rfl ?_
            refine sxo_extract rfl rfl rfl rfl ?_
            refine sxo_alloc rfl tf69 rfl (fun g236 => ?_)
            refine sxo_storeB (i := 0) rfl rfl rfl tf69 rfl rfl rfl rfl rfl ?_
            refine sxo_assign rfl rfl rfl ?_
            refine sxo_nil ?_
            refine sxq_next ?_
            refine sxc_seq ?_
            refine sxc_region ?_
            refine sxo_move rfl rfl rfl ?_
            refine sxo_nil ?_
            refine sxq_next ?_
            refine sxc_if rfl (fun h238 => ?_) (fun h238 => ?_)
            · refine sxc_seq ?_
              refine sxc_region ?_
              refine sxo_build (cells := [.slice none 0 0]) rfl st24 rfl (by kernel_rfl) rfl ?_
              refine sxo_storeB (i := 3) rfl rfl rfl tf24 rfl rfl rfl rfl rfl ?_
              refine sxo_assign rfl rfl rfl ?_
              refine sxo_nil ?_
              refine sxq_next ?_
              refine sxc_ret ?_
              refine sxq_thenR ?_
              refine sxq_blkR ?_
              refine sxq_thenR ?_
              refine sxq_thenR ?_
              refine sxq_blkR ?_
              refine sxq_thenR ?_
              refine sxq_nilN (List Int) (Option Addr × Nat) eN25 rN25 25 1 ?_
              exact sxq_doneP (none, (0, ([] : List (Option Addr × Nat)))) (resL (rs := [.cell 4 24, .tmp 5]) rfl (.cell (i := 3) rfl tf24 rfl rfl (by simp) rfl (.tmp rfl ResOk.nil)) rfl) (fun h => by subst h; exact (.cons 0 rfl .nil))
            · refine sxc_skip ?_
              refine sxq_next ?_
              refine sxc_region ?_
              refine sxo_move rfl rfl rfl ?_
              refine sxo_loadB (i := 1) rfl rfl tf48 rfl rfl (by simp) rfl rfl ?_
              refine sxo_build (cells := []) rfl st69 rfl (by kernel_rfl) rfl ?_
              refine sxo_mapPut (i := 2) (p := (x223.1, x223.2)) rfl Try.underlying66 se48 rfl rfl rfl rfl (fun x237 e237 => ?_)
              refine sxo_nil ?_
              refine sxq_blkN ?_
              refine sxq_next ?_
              refine sxc_region ?_
              refine sxo_add rfl rfl rfl rfl ?_
              refine sxo_move rfl rfl rfl ?_
              refine sxo_nil ?_
              exact sxq_againP ((iadd .i64 x166 1, x237), ()) (hB := (.cons 2 rfl (.cons 2 rfl .nil))) (hF := (fk_cons 1 rfl fk_nil))
        · refine sxc_exit ?_
          refine sxq_thenX ?_
          refine sxq_thenX ?_
          refine sxq_blkX ?_
          exact sxq_meetP ((), ()) (hB := (.cons 1 rfl .nil)) (hF := (fk_cons 0 rfl fk_nil))
      · rintro ⟨_, _⟩
        try dsimp only
        refine sxc_seq ?_
        refine sxc_region ?_
        refine sxo_move rfl rfl rfl ?_
        refine sxo_move rfl rfl rfl ?_
        refine sxo_callM ent46 rfl rfl rfl (fun x122 e122 => C_slices_Values_api_Arc_api_Arc F x2 a3 c4 x122 e122) .nil .nil (.consF 0 rfl .nil) (fun x122 e122 => ?_)
        rintro g123
        refine sxo_callM ent45 rfl rfl rfl (fun x124 e124 => C_slices_SortedFunc_api_Arc_slices_Values_api_Arc_api_Arc_1_graph_order F g123 x2 a3 c4 x124 e124) (.cons 0 rfl .nil) .nil (.consF 0 rfl .nil) (fun x124 e124 => ?_)
        rintro ⟨a125, c126⟩
        refine sxo_call ent44 rfl rfl rfl (fun x127 e127 => C_graph_Built F x1 x124 a125 c126 x127 e127) (.consR 0 (Ro eS48 48 2 (.slice a125 x124.length c126) x124) rfl .nil) (fun x127 e127 => ?_)
        rintro ⟨a128, c129⟩
        refine sxo_storeB (i := 1) rfl rfl rfl tf24 rfl rfl rfl rfl rfl ?_
        refine sxo_assign rfl rfl rfl ?_
        refine sxo_nil ?_
        refine sxq_next ?_
        refine sxc_ret ?_
        exact sxq_doneP (a128, c129) (resL (rs := [.cell 4 24, .tmp 5]) rfl (.cell (i := 1) rfl tf24 rfl rfl (by simp) rfl (.tmp rfl ResOk.nil)) rfl) (fun h => by subst h; exact (.cons 0 rfl .nil))

theorem C_slices_Compact_int_int (F : Nat) (x1 : List Int) (a2 : Option Addr) (c3 : Nat) (r : List Int) (hm : M_slices_Compact_int_int F x1 = some r) :
    PureM Try.prog 35 [.slice a2 x1.length c3] [] [Ro (eI .i64) 3 1 (.slice a2 x1.length c3) x1] [] (Option Addr × Nat) (fun g => .slice g.1 r.length g.2) (fun _ => []) (fun g => [Ro (eI .i64) 3 1 (.slice g.1 r.length g.2) r]) := by
  unfold M_slices_Compact_int_int at hm
  split at hm
  · cases hm
    exact compact_pureM Try.slices_Compact_int Try.slices_Compact_int_empty (by assumption)
  · simp at hm

theorem C_slices_Values_int_int (F : Nat) (x1 : List Int) (a2 : Option Addr) (c3 : Nat) (r : Unit) (hm : M_slices_Values_int_int F x1 = some r) :
    PureM Try.prog 37 [.slice a2 x1.length c3] [] [] [Sl (eI .i64) 1 (.slice a2 x1.length c3) x1] Nat (fun g => .func (.func 62) #[] #[.pointer (some ⟨g, 0, none⟩)]) (fun g => [⟨g, 25, [.slice a2 x1.length c3]⟩]) (fun _ => []) := by
  refine pureM_of Try.func37 rfl Try.ntmps37 rfl hm (fun w => ?_)
  refine sxc_env (l' := [(0, .slice a2 x1.length c3)]) rfl ?_
  refine sxc_seq ?_
  refine sxc_region ?_
  refine sxo_box rfl rfl rfl (fun g4 => ?_)
  refine sxo_assign rfl rfl rfl ?_
  refine sxo_nil ?_
  refine sxq_next ?_
  refine sxc_seq ?_
  refine sxc_region ?_
  refine sxo_makeFunc rfl rfl rfl ?_
  refine sxo_assign rfl rfl rfl ?_
  refine sxo_nil ?_
  refine sxq_next ?_
  refine sxc_ret ?_
  exact sxq_doneM g4 (res1 rfl rfl) (hB := fun h => by subst h; exact (.cons 0 rfl .nil))

theorem C_cmp_Less_int (F : Nat) (x1 : Int) (x2 : Int) (r : Bool) (hm : M_cmp_Less_int F x1 x2 = some r) :
    Pure Try.prog 63 [.int .i64 x1, .int .i64 x2] [] Unit (fun _ => .bool r) (fun _ => []) (fun _ => []) := by
  refine pure_of Try.func63 rfl Try.ntmps63 rfl hm (fun w => ?_)
  refine sxc_env (l' := [(0, .int .i64 x1), (1, .int .i64 x2)]) rfl ?_
  refine sxc_seq ?_
  refine sxc_region ?_
  refine sxo_assign rfl rfl rfl ?_
  refine sxo_nil ?_
  refine sxq_next ?_
  refine sxc_seq ?_
  refine sxc_region ?_
  refine sxo_move rfl rfl rfl ?_
  refine sxo_call ent81 rfl rfl rfl (fun x3 e3 => C_cmp_isNaN_int F x1 x3 e3) .nil (fun x3 e3 => ?_)
  intro _
  refine sxo_move rfl rfl rfl ?_
  refine sxo_join 4 (fun ((x6, _) : (Bool × Unit)) => [(0, .int .i64 x1), (1, .int .i64 x2), (11, .bool x6)]) (fun ((x6, _) : (Bool × Unit)) => []) (fun ((x6, _) : (Bool × Unit)) => []) (fun ((x6, _) : (Bool × Unit)) => []) (fun ((x6, _) : (Bool × Unit)) => M_cmp_Less_int_j1 F x1 x2 x6) ?_ ?_
  · refine sxo_take (os := _) rfl ?_
    refine sxo_if (fun h4 => ?_) (fun h4 => ?_)
    · refine sxo_isT (k := 7) rfl h4 ?_
      refine sxo_move rfl rfl rfl ?_
      refine sxo_call ent81 rfl rfl rfl (fun x8 e8 => C_cmp_isNaN_int F x2 x8 e8) .nil (fun x8 e8 => ?_)
      intro _
      refine sxo_not rfl rfl rfl ?_
      refine sxo_pick (b := true) rfl rfl rfl rfl ?_
      refine sxo_nil ?_
      exact sxq_meetP ((!x8), ())
    · refine sxo_isF (k := 7) rfl h4 ?_
      refine sxo_skip rfl rfl rfl ?_
      refine sxo_skip rfl rfl rfl ?_
      refine sxo_skip rfl rfl rfl ?_
      refine sxo_pick (b := false) rfl rfl rfl rfl ?_
      refine sxo_nil ?_
      exact sxq_meetP (false, ())
  · rintro ⟨x6, _⟩
    try dsimp only
    refine sxo_take (os := _) rfl ?_
    refine sxo_move rfl rfl rfl ?_
    refine sxo_case 4 x6 [(16, .bool (x6 || (decide (x1 < x2))))] (fun h7 => ?_) (fun h7 => ?_) ?_
    · refine sxo_take (os := _) rfl ?_
      refine sxo_isT (k := 12) rfl h7 ?_
      refine sxo_skip rfl rfl rfl ?_
      refine sxo_skip rfl rfl rfl ?_
      refine sxo_skip rfl rfl rfl ?_
      refine sxo_pick (b := true) rfl rfl rfl rfl ?_
      refine sxo_again (d := 16) (v := .bool (x6 || (decide (x1 < x2)))) rfl (by rw [h7]; simp only [Bool.true_or]) ?_
      refine sxo_nil ?_
      exact sxq_case (lk_cons rfl lk_nil)
    · refine sxo_take (os := _) rfl ?_
      refine sxo_isF (k := 12) rfl h7 ?_
      refine sxo_move rfl rfl rfl ?_
      refine sxo_move rfl rfl rfl ?_
      refine sxo_lss rfl rfl rfl rfl ?_
      refine sxo_pick (b := false) rfl rfl rfl rfl ?_
      refine sxo_again (d := 16) (v := .bool (x6 || (decide (x1 < x2)))) rfl (by rw [h7]; simp only [Bool.false_or]) ?_
      refine sxo_nil ?_
      exact sxq_case (lk_cons rfl lk_nil)
    refine sxo_take (os := _) rfl ?_
    refine sxo_assign rfl rfl rfl ?_
    refine sxo_nil ?_
    refine sxq_next ?_
    refine sxc_ret ?_
    exact sxq_doneP () (res1 rfl rfl)

theorem C_slices_isNaN_int (F : Nat) (x1 : Int) (r : Bool) (hm : M_slices_isNaN_int F x1 = some r) :
    Pure Try.prog 64 [.int .i64 x1] [] Unit (fun _ => .bool r) (fun _ => []) (fun _ => []) := by
  refine pure_of Try.func64 rfl Try.ntmps64 rfl hm (fun w => ?_)
  refine sxc_env (l' := [(0, .int .i64 x1)]) rfl ?_
  refine sxc_seq ?_
  refine sxc_region ?_
  refine sxo_assign rfl rfl rfl ?_
  refine sxo_nil ?_
  refine sxq_next ?_
  refine sxc_seq ?_
  refine sxc_region ?_
  refine sxo_move rfl rfl rfl ?_
  refine sxo_move rfl rfl rfl ?_
  refine sxo_neq rfl rfl rfl rfl ?_
  refine sxo_assign rfl rfl rfl ?_
  refine sxo_nil ?_
  refine sxq_next ?_
  refine sxc_ret ?_
  exact sxq_doneP () (res1 rfl rfl)

theorem C_slices_BinarySearch_int_int (F : Nat) (x1 : List Int) (a2 : Option Addr) (c3 : Nat) (x4 : Int) (r : (Int × Bool)) (hm : M_slices_BinarySearch_int_int F x1 x4 = some r) :
    Pure Try.prog 38 [.slice a2 x1.length c3, .int .i64 x4] [Sl (eI .i64) 1 (.slice a2 x1.length c3) x1] Unit (fun _ => .tuple #[.int .i64 r.1, .bool r.2]) (fun _ => []) (fun _ => []) := by
  refine pure_of Try.func38 rfl Try.ntmps38 rfl hm (fun w => ?_)
  refine sxc_env (l' := [(0, .slice a2 x1.length c3), (1, .int .i64 x4)]) rfl ?_
  refine sxc_seq ?_
  refine sxc_region ?_
  refine sxo_assign rfl rfl rfl ?_
  refine sxo_assign rfl rfl rfl ?_
  refine sxo_nil ?_
  refine sxq_next ?_
  refine sxc_seq ?_
  refine sxc_region ?_
  refine sxo_move rfl rfl rfl ?_
  refine sxo_len rfl Try.underlying25 rfl rfl ?_
  refine sxo_assign rfl rfl rfl ?_
  refine sxo_nil ?_
  refine sxq_next ?_
  refine sxc_seq ?_
  refine sxc_region ?_
  refine sxo_move rfl rfl rfl ?_
  refine sxo_assign rfl rfl rfl ?_
  refine sxo_assign rfl rfl rfl ?_
  refine sxo_nil ?_
  refine sxq_next ?_
  refine sxc_join (fun ((x32, _) : (Int × Unit)) => [(0, .slice a2 x1.length c3), (1, .int .i64 x4), (6, .int .i64 (x1.length : Int)), (7, .int .i64 x32)]) (fun ((x32, _) : (Int × Unit)) => []) (fun ((x32, _) : (Int × Unit)) => []) (fun ((x32, _) : (Int × Unit)) => [Sl (eI .i64) 1 (.slice a2 x1.length c3) x1]) (fun ((x32, _) : (Int × Unit)) => M_slices_BinarySearch_int_int_j2 F x1 x4 x32) ?_ ?_
  · refine sxc_block ?_
    refine sxc_loopP (fun (((x85, x86), _) : ((Int × Int) × Unit)) => [(0, .slice a2 x1.length c3), (1, .int .i64 x4), (6, .int .i64 (x1.length : Int)), (7, .int .i64 x85), (8, .int .i64 x86)]) (fun (((x85, x86), _) : ((Int × Int) × Unit)) => []) (fun (((x85, x86), _) : ((Int × Int) × Unit)) => []) (fun (((x85, x86), _) : ((Int × Int) × Unit)) => [Sl (eI .i64) 1 (.slice a2 x1.length c3) x1]) (fun k (s : ((Int × Int) × Unit)) => M_slices_BinarySearch_int_int_l10 F x1 x4 k s.1) ((0, (x1.length : Int)), ()) F ?_ (hF := (fk_cons 0 rfl fk_nil))
    intro k95
    rintro ⟨⟨x85, x86⟩, _⟩
    try dsimp only
    refine sxc_meq (m' := M_slices_BinarySearch_int_int_b10 F x1 x4 (M_slices_BinarySearch_int_int_l10 F x1 x4 k95) x85 x86) rfl ?_
    refine sxc_seq ?_
    refine sxc_seq ?_
    refine sxc_region ?_
    refine sxo_move rfl rfl rfl ?_
    refine sxo_move rfl rfl rfl ?_
    refine sxo_lss rfl rfl rfl rfl ?_
    refine sxo_nil ?_
    refine sxq_next ?_
    refine sxc_if rfl (fun h103 => ?_) (fun h103 => ?_)
    · refine sxc_skip ?_
      refine sxq_next ?_
      refine sxc_block ?_
      refine sxc_seq ?_
      refine sxc_region ?_
      refine sxo_move rfl rfl rfl ?_
      refine sxo_move rfl rfl rfl ?_
      refine sxo_add rfl rfl rfl rfl ?_
      refine sxo_conv rfl Try.underlying3 Try.underlying94 rfl rfl ?_
      refine sxo_shr rfl rfl rfl rfl rfl ?_
      refine sxo_conv rfl Try.underlying94 Try.underlying3 rfl rfl ?_
      refine sxo_assign rfl rfl rfl ?_
      refine sxo_lett (fun x97 e97 => ?_)
      refine sxo_again (d := 9) (v := .int .i64 x97) rfl (by rw [e97] <;> rfl) ?_
      refine sxo_nil ?_
      refine sxq_next ?_
      refine sxc_seq ?_
      refine sxc_region ?_
      refine sxo_move rfl rfl rfl ?_
      refine sxo_move rfl rfl rfl ?_
      refine sxo_indexF (j := 0) (eI_ok .i64) (by decide) rfl Try.underlying25 tf3 rfl rfl rfl rfl (fun x98 e98 b99 o100 => ?_)
      refine sxo_loadF (j := 0) rfl rfl tf3 rfl rfl (fun _ => rfl) rfl rfl ?_
      refine sxo_move rfl rfl rfl ?_
      refine sxo_call ent63 rfl rfl rfl (fun x101 e101 => C_cmp_Less_int F x98 x4 x101 e101) .nil (fun x101 e101 => ?_)
      intro _
      refine sxo_nil ?_
      refine sxq_next ?_
      refine sxc_if rfl (fun h102 => ?_) (fun h102 => ?_)
      · refine sxc_region ?_
        refine sxo_move rfl rfl rfl ?_
        refine sxo_add rfl rfl rfl rfl ?_
        refine sxo_assign rfl rfl rfl ?_
        refine sxo_nil ?_
        refine sxq_blkN ?_
        exact sxq_againP ((iadd .i64 x97 1, x86), ()) (hF := (fk_cons 1 rfl fk_nil))
      · refine sxc_region ?_
        refine sxo_move rfl rfl rfl ?_
        refine sxo_assign rfl rfl rfl ?_
        refine sxo_nil ?_
        refine sxq_blkN ?_
        exact sxq_againP ((x85, x97), ()) (hF := (fk_cons 1 rfl fk_nil))
    · refine sxc_exit ?_
      refine sxq_thenX ?_
      refine sxq_thenX ?_
      refine sxq_blkX ?_
      exact sxq_meetP (x85, ()) (hF := (fk_cons 0 rfl fk_nil))
  · rintro ⟨x32, _⟩
    try dsimp only
    refine sxc_seq ?_
    refine sxc_region ?_
    refine sxo_move rfl rfl rfl ?_
    refine sxo_move rfl rfl rfl ?_
    refine sxo_move rfl rfl rfl ?_
    refine sxo_lss rfl rfl rfl rfl ?_
    refine sxo_move rfl rfl rfl ?_
    refine sxo_join 18 (fun ((x55, _) : (Bool × Unit)) => [(31, .int .i64 x32), (53, .bool x55)]) (fun ((x55, _) : (Bool × Unit)) => []) (fun ((x55, _) : (Bool × Unit)) => []) (fun ((x55, _) : (Bool × Unit)) => []) (fun ((x55, _) : (Bool × Unit)) => M_slices_BinarySearch_int_int_j6 F x32 x55) ?_ ?_
    · refine sxo_take (os := _) rfl ?_
      refine sxo_if (fun h33 => ?_) (fun h33 => ?_)
      · refine sxo_isT (k := 35) rfl h33 ?_
        refine sxo_move rfl rfl rfl ?_
        refine sxo_move rfl rfl rfl ?_
        refine sxo_indexF (j := 0) (eI_ok .i64) (by decide) rfl Try.underlying25 tf3 rfl rfl rfl rfl (fun x56 e56 b57 o58 => ?_)
        refine sxo_loadF (j := 0) rfl rfl tf3 rfl rfl (fun _ => rfl) rfl rfl ?_
        refine sxo_move rfl rfl rfl ?_
        refine sxo_eql rfl rfl rfl rfl ?_
        refine sxo_move rfl rfl rfl ?_
        refine sxo_join 10 (fun ((x68, _) : (Bool × Unit)) => [(31, .int .i64 x32), (35, .bool true), (52, .bool x68)]) (fun ((x68, _) : (Bool × Unit)) => []) (fun ((x68, _) : (Bool × Unit)) => []) (fun ((x68, _) : (Bool × Unit)) => []) (fun ((x68, _) : (Bool × Unit)) => M_slices_BinarySearch_int_int_j8 F x32 x68) ?_ ?_
        · refine sxo_take (os := _) rfl ?_
          refine sxo_if (fun h59 => ?_) (fun h59 => ?_)
          · refine sxo_isT (k := 42) rfl h59 ?_
            refine sxo_skip rfl rfl rfl ?_
            refine sxo_skip rfl rfl rfl ?_
            refine sxo_skip rfl rfl rfl ?_
            refine sxo_skip rfl rfl rfl ?_
            refine sxo_skip rfl rfl rfl ?_
            refine sxo_skip rfl rfl rfl ?_
            refine sxo_skip rfl rfl rfl ?_
            refine sxo_skip rfl rfl rfl ?_
            refine sxo_skip rfl rfl rfl ?_
            refine sxo_pick (b := true) rfl rfl rfl rfl ?_
            refine sxo_nil ?_
            exact sxq_meetP (true, ())
          · refine sxo_isF (k := 42) rfl h59 ?_
            refine sxo_move rfl rfl rfl ?_
            refine sxo_move rfl rfl rfl ?_
            refine sxo_indexF (j := 1) (eI_ok .i64) (by decide) rfl Try.underlying25 tf3 rfl rfl rfl rfl (fun x69 e69 b70 o71 => ?_)
            refine sxo_loadF (j := 0) rfl rfl tf3 rfl rfl (fun _ => rfl) rfl rfl ?_
            refine sxo_call ent64 rfl rfl rfl (fun x72 e72 => C_slices_isNaN_int F x69 x72 e72) .nil (fun x72 e72 => ?_)
            intro _
            refine sxo_move rfl rfl rfl ?_
            refine sxo_join 3 (fun ((x75, _) : (Bool × Unit)) => [(31, .int .i64 x32), (35, .bool true), (42, .bool false), (51, .bool x75)]) (fun ((x75, _) : (Bool × Unit)) => []) (fun ((x75, _) : (Bool × Unit)) => []) (fun ((x75, _) : (Bool × Unit)) => []) (fun ((x75, _) : (Bool × Unit)) => M_slices_BinarySearch_int_int_j9 F x32 x75) ?_ ?_
            · refine sxo_take (os := _) rfl ?_
              refine sxo_if (fun h73 => ?_) (fun h73 => ?_)
              · refine sxo_isT (k := 48) rfl h73 ?_
                refine sxo_move rfl rfl rfl ?_
                refine sxo_call ent64 rfl rfl rfl (fun x76 e76 => C_slices_isNaN_int F x4 x76 e76) .nil (fun x76 e76 => ?_)
                intro _
                refine sxo_pick (b := true) rfl rfl rfl rfl ?_
                refine sxo_nil ?_
                exact sxq_meetP (x76, ())
              · refine sxo_isF (k := 48) rfl h73 ?_
                refine sxo_skip rfl rfl rfl ?_
                refine sxo_skip rfl rfl rfl ?_
                refine sxo_pick (b := false) rfl rfl rfl rfl ?_
                refine sxo_nil ?_
                exact sxq_meetP (false, ())
            · rintro ⟨x75, _⟩
              try dsimp only
              refine sxo_take (os := _) rfl ?_
              refine sxo_pick (b := false) rfl rfl rfl rfl ?_
              refine sxo_nil ?_
              exact sxq_meetP (x75, ())
        · rintro ⟨x68, _⟩
          try dsimp only
          refine sxo_take (os := _) rfl ?_
          refine sxo_pick (b := true) rfl rfl rfl rfl ?_
          refine sxo_nil ?_
          exact sxq_meetP (x68, ())
      · refine sxo_isF (k := 35) rfl h33 ?_
        refine sxo_skip rfl rfl rfl ?_
        refine sxo_skip rfl rfl rfl ?_
        refine sxo_skip rfl rfl rfl ?_
        refine sxo_skip rfl rfl rfl ?_
        refine sxo_skip rfl rfl rfl ?_
        refine sxo_skip rfl rfl rfl ?_
        refine sxo_skip rfl rfl rfl ?_
        refine sxo_skip rfl rfl rfl ?_
        refine sxo_skip rfl rfl rfl ?_
        refine sxo_skip rfl rfl rfl ?_
        refine sxo_skip rfl rfl rfl ?_
        refine sxo_skip rfl rfl rfl ?_
        refine sxo_skip rfl rfl rfl ?_
        refine sxo_skip rfl rfl rfl ?_
        refine sxo_skip rfl rfl rfl ?_
        refine sxo_skip rfl rfl rfl ?_
        refine sxo_skip rfl rfl rfl ?_
        refine sxo_pick (b := false) rfl rfl rfl rfl ?_
        refine sxo_nil ?_
        exact sxq_meetP (false, ())
    · rintro ⟨x55, _⟩
      try dsimp only
      refine sxo_take (os := _) rfl ?_
      refine sxo_assign rfl rfl rfl ?_
      refine sxo_assign rfl rfl rfl ?_
      refine sxo_nil ?_
      refine sxq_next ?_
      refine sxc_ret ?_
      exact sxq_doneP () (res2 rfl rfl rfl)

theorem C_graph_All (F : Nat) (x1 : List (List Int)) (a2 : Option Addr) (c3 : (Nat × List (Option Addr × Nat))) (r : Unit) (hm : M_graph_All F x1 = some r) :
    PureM Try.prog 39 [.agg #[.slice a2 x1.length c3.1]] [] [] [SlN eN25 iN25 1 (.slice a2 x1.length c3.1) x1 c3.2] Nat (fun g => .func (.func 65) #[] #[.pointer (some ⟨g, 0, none⟩)]) (fun g => [⟨g, 24, [.slice a2 x1.length c3.1]⟩]) (fun _ => []) := by
  refine pureM_of Try.func39 rfl Try.ntmps39 rfl hm (fun w => ?_)
  refine sxc_env (l' := [(0, .agg #[.slice a2 x1.length c3.1])]) rfl ?_
  refine sxc_seq ?_
  refine sxc_region ?_
  refine sxo_box rfl rfl rfl (fun g4 => ?_)
  refine sxo_assign rfl rfl rfl ?_
  refine sxo_nil ?_
  refine sxq_next ?_
  refine sxc_seq ?_
  refine sxc_region ?_
  refine sxo_makeFunc rfl rfl rfl ?_
  refine sxo_assign rfl rfl rfl ?_
  refine sxo_nil ?_
  refine sxq_next ?_
  refine sxc_ret ?_
  exact sxq_doneM g4 (res1 rfl rfl) (hB := fun h => by subst h; exact (.cons 0 rfl .nil))

theorem C_slices_Sort_int_int (F : Nat) (x1 : List Int) (a2 : Option Addr) (c3 : Nat) (r : List Int) (hm : M_slices_Sort_int_int F x1 = some r) :
    PureM Try.prog 61 [.slice a2 x1.length c3] [] [Ro (eI .i64) 3 1 (.slice a2 x1.length c3) x1] [] Unit (fun _ => .tuple #[]) (fun _ => []) (fun _ => [Ro (eI .i64) 3 1 (.slice a2 r.length c3) r]) := by
  unfold M_slices_Sort_int_int at hm
  split at hm
  · cases hm
    exact sort_pureM Try.slices_Sort_int Try.slices_Sort_int_none (by assumption)
  · simp at hm

theorem C_slices_Values_int_int_1 (F : Nat) {σ τ : Type} {J : Rounds σ τ} {yy : σ → Int → Option (σ ⊕ τ)} {L : Nat} (hY : YieldC Try.prog L (fun (p : Int) => [.int .i64 p]) J yy) (s0 : σ) (gs0 : J.γ) (g1 : Nat) (x2 : List Int) (a3 : Option Addr) (c4 : Nat) (r : σ ⊕ τ) (hm : M_slices_Values_int_int_1 F yy x2 s0 = some r) :
    PureM Try.prog 62 ([.func (.yield L) #[] #[], .pointer (some ⟨g1, 0, none⟩)]) ([⟨g1, 25, [.slice a3 x2.length c4]⟩] ++ J.IB s0 gs0) (J.IR s0 gs0) [J.F, Sl (eI .i64) 1 (.slice a3 x2.length c4) x2] (J.G r) (fun _ => .tuple #[]) (fun g => [⟨g1, 25, [.slice a3 x2.length c4]⟩] ++ J.bs r g) (fun g => J.rs r g) := by
  refine pureM_of Try.func62 rfl Try.ntmps62 rfl hm (fun w => ?_)
  refine sxc_env (l' := [(0, .func (.yield L) #[] #[]), (1, .pointer (some ⟨g1, 0, none⟩))]) rfl ?_
  refine sxc_seq ?_
  refine sxc_region ?_
  refine sxo_loadB (i := 0) rfl rfl tf25 rfl rfl (fun _ => rfl) rfl rfl ?_
  refine sxo_len rfl Try.underlying25 rfl rfl ?_
  refine sxo_move rfl rfl rfl ?_
  refine sxo_nil ?_
  refine sxq_next ?_
  refine sxc_block ?_
  refine sxc_loopP (fun (((x21, x22), g23) : ((Int × σ) × J.γ)) => [(0, .func (.yield L) #[] #[]), (5, .slice a3 x2.length c4), (6, .int .i64 (x2.length : Int)), (7, .int .i64 x21)]) (fun (((x21, x22), g23) : ((Int × σ) × J.γ)) => [⟨g1, 25, [.slice a3 x2.length c4]⟩] ++ J.IB x22 g23) (fun (((x21, x22), g23) : ((Int × σ) × J.γ)) => [] ++ J.IR x22 g23) (fun (((x21, x22), g23) : ((Int × σ) × J.γ)) => [Sl (eI .i64) 1 (.slice a3 x2.length c4) x2, J.F]) (fun k (s : ((Int × σ) × J.γ)) => M_slices_Values_int_int_1_l1 F yy x2 k s.1) ((0, s0), gs0) F ?_ (hB := (.cons 0 rfl (pick_rest 0 rfl))) (hR := (pick_rest 0 rfl)) (hF := (fk_cons 1 rfl (fk_cons 0 rfl fk_nil)))
  intro k40
  rintro ⟨⟨x21, x22⟩, g23⟩
  try dsimp only
  refine sxc_meq (m' := M_slices_Values_int_int_1_b1 F yy x2 (M_slices_Values_int_int_1_l1 F yy x2 k40) x21 x22) rfl ?_
  refine sxc_seq ?_
  refine sxc_region ?_
  refine sxo_lss rfl rfl rfl rfl ?_
  refine sxo_nil ?_
  refine sxq_next ?_
  refine sxc_seq ?_
  refine sxc_if rfl (fun h56 => ?_) (fun h56 => ?_)
  · refine sxc_skip ?_
    refine sxq_next ?_
    refine sxc_seq ?_
    refine sxc_block ?_
    refine sxc_seq ?_
    refine sxc_region ?_
    refine sxo_indexF (j := 0) (eI_ok .i64) (by decide) rfl Try.underlying25 tf3 rfl rfl rfl rfl (fun x49 e49 b50 o51 => ?_)
    refine sxo_loadF (j := 0) rfl rfl tf3 rfl rfl (fun _ => rfl) rfl rfl ?_
    refine sxo_assign rfl rfl rfl ?_
    refine sxo_nil ?_
    refine sxq_next ?_
    refine sxc_seq ?_
    refine sxc_region ?_
    refine sxo_move rfl rfl rfl ?_
    refine sxo_move rfl rfl rfl ?_
    refine sxo_yield hY x22 x49 g23 (B1 := [⟨g1, 25, [.slice a3 x2.length c4]⟩]) (R1 := []) (j := 2) rfl rfl rfl rfl rfl rfl rfl (fun x52 _ g54 => ?_) (fun x53 _ g54 => ?_)
    · refine sxo_not rfl rfl rfl ?_
      refine sxo_nil ?_
      refine sxq_next ?_
      refine sxc_cond (b := false) rfl (fun h => by cases h) (fun _ => ?_)
      refine sxc_skip ?_
      refine sxq_blkN ?_
      refine sxq_next ?_
      refine sxc_region ?_
      refine sxo_add rfl rfl rfl rfl ?_
      refine sxo_move rfl rfl rfl ?_
      refine sxo_nil ?_
      exact sxq_againP ((iadd .i64 x21 1, x52), g54) (hB := (.cons 0 rfl (pick_rest 0 rfl))) (hR := (pick_rest 0 rfl)) (hF := (fk_cons 1 rfl (fk_cons 2 rfl fk_nil)))
    · refine sxo_not rfl rfl rfl ?_
      refine sxo_nil ?_
      refine sxq_next ?_
      refine sxc_cond (b := true) rfl (fun _ => ?_) (fun h => by cases h)
      refine sxc_ret ?_
      refine sxq_blkR ?_
      refine sxq_thenR ?_
      refine sxq_thenR ?_
      refine sxq_blkR ?_
      exact sxq_doneI (B0 := [⟨g1, 25, [.slice a3 x2.length c4]⟩]) (x := .inr x53) g54 (.inl rfl) (res0 rfl) (.cons 0 rfl (pick_rest 0 rfl)) (pick_rest 0 rfl)
  · refine sxc_exit ?_
    refine sxq_thenX ?_
    refine sxq_thenX ?_
    refine sxq_blkX ?_
    exact sxq_doneI (B0 := [⟨g1, 25, [.slice a3 x2.length c4]⟩]) (x := .inl x22) g23 (.inr rfl) (res0 rfl) (.cons 0 rfl (pick_rest 0 rfl)) (pick_rest 0 rfl)

theorem C_slices_AppendSeq_int_int_slices_Values_int_int_1 (F : Nat) (x1 : List Int) (a2 : Option Addr) (c3 : Nat) (g4 : Nat) (x5 : List Int) (a6 : Option Addr) (c7 : Nat) (r : List Int) (hm : M_slices_AppendSeq_int_int_slices_Values_int_int_1 F x1 x5 = some r) :
    PureM Try.prog 78 [.slice a2 x1.length c3, .func (.func 62) #[] #[.pointer (some ⟨g4, 0, none⟩)]] [⟨g4, 25, [.slice a6 x5.length c7]⟩] [Ro (eI .i64) 3 1 (.slice a2 x1.length c3) x1] [Sl (eI .i64) 1 (.slice a6 x5.length c7) x5] (Option Addr × Nat) (fun g => .slice g.1 r.length g.2) (fun _ => [⟨g4, 25, [.slice a6 x5.length c7]⟩]) (fun g => [Ro (eI .i64) 3 1 (.slice g.1 r.length g.2) r]) := by
  refine pureX_of Try.func78 rfl Try.ntmps78 rfl hm (fun w => ?_)
  refine sxc_env (l' := [(0, .slice a2 x1.length c3), (1, .func (.func 62) #[] #[.pointer (some ⟨g4, 0, none⟩)])]) rfl ?_
  refine sxc_seq ?_
  refine sxc_region ?_
  refine sxo_box rfl rfl rfl (fun g8 => ?_)
  refine sxo_assign rfl rfl rfl ?_
  refine sxo_nil ?_
  refine sxq_next ?_
  refine sxc_seq ?_
  refine sxc_seq ?_
  refine sxc_region ?_
  refine sxo_move rfl rfl rfl ?_
  refine sxo_nil ?_
  refine sxq_next ?_
  refine sxc_block ?_
  refine sxc_range (encs := (fun (p : Int) => [.int .i64 p])) (y := (fun (x38 : List Int) (x45 : Int) => M_slices_AppendSeq_int_int_slices_Values_int_int_1_r2 F x38 x45)) (lb := [.pointer (some ⟨g4, 0, none⟩)]) (fun (x38 : List Int) ((a36, c37) : (Option Addr × Nat)) => [⟨g8, 25, [.slice a36 x38.length c37]⟩]) (fun (x38 : List Int) ((a36, c37) : (Option Addr × Nat)) => [Ro (eI .i64) 3 1 (.slice a36 x38.length c37) x38]) (fun (_ : Empty) (_ : Unit) => []) (fun (_ : Empty) (_ : Unit) => []) (fun _ => .skip) x1 (a2, c3) rfl ent62 (fun _ => rfl) rfl (.cons 1 rfl .nil) (.cons 0 rfl .nil) (.cons 0 rfl .nil) (.consF 0 rfl .nil) (fun z hz _ _ _ hY => C_slices_Values_int_int_1 F hY x1 (a2, c3) g4 x5 a6 c7 z hz) ?_ ?_ ?_
  · rintro rc1 L1 D1 x38 ⟨a36, c37⟩ x45 z w M _
    try dsimp only
    refine sxc_less [(0, .slice a2 x1.length c3), (1, .func (.func 62) #[] #[.pointer (some ⟨g4, 0, none⟩)]), (2, .pointer (some ⟨g8, 0, none⟩)), (4, .slice none 0 0), (6, .func (.func 62) #[] #[.pointer (some ⟨g4, 0, none⟩)]), (7, .int .i64 x45)] (lk_cons rfl (lk_cons rfl (lk_cons rfl (lk_cons rfl (lk_cons rfl (lk_cons rfl lk_nil)))))) ?_
    refine sxc_region ?_
    refine sxo_assign rfl rfl rfl ?_
    refine sxo_nil ?_
    refine sxq_begin (i := 1) rfl ?_
    refine sxc_block ?_
    refine sxc_region ?_
    refine sxo_loadB (i := 0) rfl rfl tf25 rfl rfl (fun _ => rfl) rfl rfl ?_
    refine sxo_move rfl rfl rfl ?_
    refine sxo_slit (vs := [.int .i64 x45]) (ys := ([x45] : List Int)) (eI_ok .i64) (by decide) rfl Try.underlying25 tf3 rfl rfl rfl rfl rfl (by decide) (fun a46 c47 => ?_)
    refine sxo_app 1 (eI_ok .i64) rfl Try.underlying25 tf3 rfl rfl rfl rfl rfl (.inl ⟨0, _, rfl⟩) rfl rfl (fun x48 e48 a49 c50 => ?_)
    refine sxo_storeB (i := 0) rfl rfl rfl tf25 rfl rfl rfl rfl rfl ?_
    refine sxo_nil ?_
    refine sxq_blkN ?_
    exact sxq_round (rc := rc1) rfl (.cons 1 rfl .nil) rfl (a49, c50) (.cons 1 rfl (.cons 0 rfl (.cons 0 rfl .nil))) (.cons 0 rfl .nil)
  · rintro x38 _ ⟨a36, c37⟩ D1
    try dsimp only
    refine sxq_blkN ?_
    refine sxq_next ?_
    refine sxc_seq ?_
    refine sxc_region ?_
    refine sxo_loadB (i := 2) rfl rfl tf25 rfl rfl (fun _ => rfl) rfl rfl ?_
    refine sxo_assign rfl rfl rfl ?_
    refine sxo_nil ?_
    refine sxq_next ?_
    refine sxc_ret ?_
    exact sxq_doneX [D1] (a36, c37) (.inl rfl) rfl (.cons 0 rfl .nil) (res1 rfl rfl) (fun h => by subst h; rfl) (fun h => by subst h; exact (.cons 0 rfl .nil)) (fun h => by subst h; exact (.cons 0 rfl .nil))
  · intro t; exact t.elim

theorem C_slices_Collect_int_slices_Values_int_int_1 (F : Nat) (g1 : Nat) (x2 : List Int) (a3 : Option Addr) (c4 : Nat) (r : List Int) (hm : M_slices_Collect_int_slices_Values_int_int_1 F x2 = some r) :
    PureM Try.prog 60 [.func (.func 62) #[] #[.pointer (some ⟨g1, 0, none⟩)]] [⟨g1, 25, [.slice a3 x2.length c4]⟩] [] [Sl (eI .i64) 1 (.slice a3 x2.length c4) x2] (Option Addr × Nat) (fun g => .slice g.1 r.length g.2) (fun _ => [⟨g1, 25, [.slice a3 x2.length c4]⟩]) (fun g => [Ro (eI .i64) 3 1 (.slice g.1 r.length g.2) r]) := by
  refine pureM_of Try.func60 rfl Try.ntmps60 rfl hm (fun w => ?_)
  refine sxc_env (l' := [(0, .func (.func 62) #[] #[.pointer (some ⟨g1, 0, none⟩)])]) rfl ?_
  refine sxc_seq ?_
  refine sxc_region ?_
  refine sxo_assign rfl rfl rfl ?_
  refine sxo_nil ?_
  refine sxq_next ?_
  refine sxc_seq ?_
  refine sxc_region ?_
  refine sxo_move rfl rfl rfl ?_
  refine sxo_nilrow' Int (eI .i64) 3 1 ?_
  refine sxo_callM ent78 rfl rfl rfl (fun x5 e5 => C_slices_AppendSeq_int_int_slices_Values_int_int_1 F ([] : List Int) none 0 g1 x2 a3 c4 x5 e5) (.cons 0 rfl .nil) (.cons 0 rfl .nil) (.consF 0 rfl .nil) (fun x5 e5 => ?_)
  rintro ⟨a6, c7⟩
  refine sxo_assign rfl rfl rfl ?_
  refine sxo_nil ?_
  refine sxq_next ?_
  refine sxc_ret ?_
  exact sxq_doneM (a6, c7) (res1 rfl rfl) (hB := fun h => by subst h; exact (.cons 0 rfl .nil)) (hR := fun h => by subst h; exact (.cons 0 rfl .nil))

theorem C_slices_Sorted_int_slices_Values_int_int_1 (F : Nat) (g1 : Nat) (x2 : List Int) (a3 : Option Addr) (c4 : Nat) (r : List Int) (hm : M_slices_Sorted_int_slices_Values_int_int_1 F x2 = some r) :
    PureM Try.prog 36 [.func (.func 62) #[] #[.pointer (some ⟨g1, 0, none⟩)]] [⟨g1, 25, [.slice a3 x2.length c4]⟩] [] [Sl (eI .i64) 1 (.slice a3 x2.length c4) x2] (Option Addr × Nat) (fun g => .slice g.1 r.length g.2) (fun _ => [⟨g1, 25, [.slice a3 x2.length c4]⟩]) (fun g => [Ro (eI .i64) 3 1 (.slice g.1 r.length g.2) r]) := by
  refine pureM_of Try.func36 rfl Try.ntmps36 rfl hm (fun w => ?_)
  refine sxc_env (l' := [(0, .func (.func 62) #[] #[.pointer (some ⟨g1, 0, none⟩)])]) rfl ?_
  refine sxc_seq ?_
  refine sxc_region ?_
  refine sxo_assign rfl rfl rfl ?_
  refine sxo_nil ?_
  refine sxq_next ?_
  refine sxc_seq ?_
  refine sxc_region ?_
  refine sxo_move rfl rfl rfl ?_
  refine sxo_callM ent60 rfl rfl rfl (fun x5 e5 => C_slices_Collect_int_slices_Values_int_int_1 F g1 x2 a3 c4 x5 e5) (.cons 0 rfl .nil) .nil (.consF 0 rfl .nil) (fun x5 e5 => ?_)
  rintro ⟨a6, c7⟩
  refine sxo_assign rfl rfl rfl ?_
  refine sxo_nil ?_
  refine sxq_next ?_
  refine sxc_seq ?_
  refine sxc_region ?_
  refine sxo_move rfl rfl rfl ?_
  refine sxo_callM ent61 rfl rfl rfl (fun x8 e8 => C_slices_Sort_int_int F x5 a6 c7 x8 e8) .nil (.cons 0 rfl .nil) .nil (fun x8 e8 => ?_)
  intro _
  refine sxo_chk (fun h9 => ?_)
  replace h9 := of_decide_eq_true h9
  refine sxo_again (d := 3) (v := .slice a6 x8.length c7) rfl (by rw [h9] <;> rfl) ?_
  refine sxo_again (d := 5) (v := .slice a6 x8.length c7) rfl (by rw [h9] <;> rfl) ?_
  refine sxo_again (d := 6) (v := .slice a6 x8.length c7) rfl (by rw [h9] <;> rfl) ?_
  refine sxo_nil ?_
  refine sxq_next ?_
  refine sxc_seq ?_
  refine sxc_region ?_
  refine sxo_move rfl rfl rfl ?_
  refine sxo_assign rfl rfl rfl ?_
  refine sxo_nil ?_
  refine sxq_next ?_
  refine sxc_ret ?_
  exact sxq_doneM (a6, c7) (res1 rfl rfl) (hB := fun h => by subst h; exact (.cons 0 rfl .nil)) (hR := fun h => by subst h; exact (.cons 0 rfl .nil))

theorem C_graph_All_1 (F : Nat) {σ τ : Type} {J : Rounds σ τ} {yy : σ → (Int × Int) → Option (σ ⊕ τ)} {L : Nat} (hY : YieldC Try.prog L (fun (p : (Int × Int)) => [.agg #[.int .i64 p.1, .int .i64 p.2]]) J yy) (s0 : σ) (gs0 : J.γ) (g1 : Nat) (x2 : List (List Int)) (a3 : Option Addr) (c4 : (Nat × List (Option Addr × Nat))) (r : σ ⊕ τ) (hm : M_graph_All_1 F yy x2 s0 = some r) :
    PureM Try.prog 65 ([.func (.yield L) #[] #[], .pointer (some ⟨g1, 0, none⟩)]) ([⟨g1, 24, [.slice a3 x2.length c4.1]⟩] ++ J.IB s0 gs0) (J.IR s0 gs0) [J.F, SlN eN25 iN25 1 (.slice a3 x2.length c4.1) x2 c4.2] (J.G r) (fun _ => .tuple #[]) (fun g => [⟨g1, 24, [.slice a3 x2.length c4.1]⟩] ++ J.bs r g) (fun g => J.rs r g) := by
  refine pureM_of Try.func65 rfl Try.ntmps65 rfl hm (fun w => ?_)
  refine sxc_env (l' := [(0, .func (.yield L) #[] #[]), (1, .pointer (some ⟨g1, 0, none⟩))]) rfl ?_
  refine sxc_seq ?_
  refine sxc_region ?_
  refine sxo_fieldAddr rfl rfl ff24_0 rfl ?_
  refine sxo_loadB (i := 0) rfl rfl tf22 rfl rfl (fun _ => rfl) rfl rfl ?_
  refine sxo_len rfl Try.underlying22 rfl rfl ?_
  refine sxo_move rfl rfl rfl ?_
  refine sxo_nil ?_
  refine sxq_next ?_
  refine sxc_block ?_
  refine sxc_loopP (fun (((x121, x122), g123) : ((Int × σ) × J.γ)) => [(0, .func (.yield L) #[] #[]), (8, .slice a3 x2.length c4.1), (9, .int .i64 (x2.length : Int)), (10, .int .i64 x121)]) (fun (((x121, x122), g123) : ((Int × σ) × J.γ)) => [⟨g1, 24, [.slice a3 x2.length c4.1]⟩] ++ J.IB x122 g123) (fun (((x121, x122), g123) : ((Int × σ) × J.γ)) => [] ++ J.IR x122 g123) (fun (((x121, x122), g123) : ((Int × σ) × J.γ)) => [SlN eN25 iN25 1 (.slice a3 x2.length c4.1) x2 c4.2, J.F]) (fun k (s : ((Int × σ) × J.γ)) => M_graph_All_1_l7 F yy x2 k s.1) ((0, s0), gs0) F ?_ (hB := (.cons 0 rfl (pick_rest 0 rfl))) (hR := (pick_rest 0 rfl)) (hF := (fk_cons 1 rfl (fk_cons 0 rfl fk_nil)))
  intro k240
  rintro ⟨⟨x121, x122⟩, g123⟩
  try dsimp only
  refine sxc_meq (m' := M_graph_All_1_b7 F yy x2 (M_graph_All_1_l7 F yy x2 k240) x121 x122) rfl ?_
  refine sxc_seq ?_
  refine sxc_region ?_
  refine sxo_lss rfl rfl rfl rfl ?_
  refine sxo_nil ?_
  refine sxq_next ?_
  refine sxc_seq ?_
  refine sxc_if rfl (fun h356 => ?_) (fun h356 => ?_)
  · refine sxc_skip ?_
    refine sxq_next ?_
    refine sxc_join (fun ((x298, g299) : (σ × J.γ)) => [(0, .func (.yield L) #[] #[]), (8, .slice a3 x2.length c4.1), (9, .int .i64 (x2.length : Int)), (10, .int .i64 x121)]) (fun ((x298, g299) : (σ × J.γ)) => [⟨g1, 24, [.slice a3 x2.length c4.1]⟩] ++ J.IB x298 g299) (fun ((x298, g299) : (σ × J.γ)) => [] ++ J.IR x298 g299) (fun ((x298, g299) : (σ × J.γ)) => [SlN eN25 iN25 1 (.slice a3 x2.length c4.1) x2 c4.2, J.F]) (fun ((x298, _) : (σ × J.γ)) => M_graph_All_1_j9 F yy (M_graph_All_1_l7 F yy x2 k240) x121 x298) ?_ ?_
    · refine sxc_block ?_
      refine sxc_seq ?_
      refine sxc_region ?_
      refine sxo_move rfl rfl rfl ?_
      refine sxo_indexN (j := 0) eN25_ok (by decide) rfl Try.underlying22 tf25 rfl rfl rfl rfl (fun x300 e300 g303 b301 o302 => ?_)
      refine sxo_loadF (j := 0) rfl rfl tf25 rfl rfl (fun _ => rfl) rfl rfl ?_
      refine sxo_assign rfl rfl rfl ?_
      refine sxo_assign rfl rfl rfl ?_
      refine sxo_nil ?_
      refine sxq_next ?_
      refine sxc_seq ?_
      refine sxc_region ?_
      refine sxo_move rfl rfl rfl ?_
      refine sxo_len rfl Try.underlying25 rfl rfl ?_
      refine sxo_move rfl rfl rfl ?_
      refine sxo_nil ?_
      refine sxq_next ?_
      refine sxc_block ?_
      refine sxc_loopP (fun (((x320, x321), g322) : ((Int × σ) × J.γ)) => [(0, .func (.yield L) #[] #[]), (3, .int .i64 x121), (8, .slice a3 x2.length c4.1), (9, .int .i64 (x2.length : Int)), (10, .int .i64 x121), (15, .slice g303.1 x300.length g303.2), (16, .int .i64 (x300.length : Int)), (17, .int .i64 x320)]) (fun (((x320, x321), g322) : ((Int × σ) × J.γ)) => [⟨g1, 24, [.slice a3 x2.length c4.1]⟩] ++ J.IB x321 g322) (fun (((x320, x321), g322) : ((Int × σ) × J.γ)) => [] ++ J.IR x321 g322) (fun (((x320, x321), g322) : ((Int × σ) × J.γ)) => [SlN eN25 iN25 1 (.slice a3 x2.length c4.1) x2 c4.2, Sl (eI .i64) 1 (.slice g303.1 x300.length g303.2) x300, J.F]) (fun k (s : ((Int × σ) × J.γ)) => M_graph_All_1_l10 F yy (M_graph_All_1_l7 F yy x2 k240) x121 x300 k s.1) ((0, x122), g123) F ?_ (hB := (.cons 0 rfl (pick_rest 0 rfl))) (hR := (pick_rest 0 rfl)) (hF := (fk_cons 2 rfl (fk_cons 1 rfl (fk_cons 3 rfl fk_nil))))
      intro k339
      rintro ⟨⟨x320, x321⟩, g322⟩
      try dsimp only
      refine sxc_meq (m' := M_graph_All_1_b10 F yy (M_graph_All_1_l7 F yy x2 k240) x121 x300 (M_graph_All_1_l10 F yy (M_graph_All_1_l7 F yy x2 k240) x121 x300 k339) x320 x321) rfl ?_
      refine sxc_seq ?_
      refine sxc_region ?_
      refine sxo_lss rfl rfl rfl rfl ?_
      refine sxo_nil ?_
      refine sxq_next ?_
      refine sxc_seq ?_
      refine sxc_if rfl (fun h355 => ?_) (fun h355 => ?_)
      · refine sxc_skip ?_
        refine sxq_next ?_
        refine sxc_seq ?_
        refine sxc_block ?_
        refine sxc_seq ?_
        refine sxc_region ?_
        refine sxo_indexF (j := 1) (eI_ok .i64) (by decide) rfl Try.underlying25 tf3 rfl rfl rfl rfl (fun x348 e348 b349 o350 => ?_)
        refine sxo_loadF (j := 0) rfl rfl tf3 rfl rfl (fun _ => rfl) rfl rfl ?_
        refine sxo_assign rfl rfl rfl ?_
        refine sxo_nil ?_
        refine sxq_next ?_
        refine sxc_seq ?_
        refine sxc_region ?_
        refine sxo_move rfl rfl rfl ?_
        refine sxo_move rfl rfl rfl ?_
        refine sxo_move rfl rfl rfl ?_
        refine sxo_build (cells := [.int .i64 x121, .int .i64 x348]) rfl st48 rfl (by kernel_rfl) rfl ?_
        refine sxo_yield hY x321 (x121, x348) g322 (B1 := [⟨g1, 24, [.slice a3 x2.length c4.1]⟩]) (R1 := []) (j := 3) rfl rfl rfl rfl rfl rfl rfl (fun x351 _ g353 => ?_) (fun x352 _ g353 => ?_)
        · refine sxo_not rfl rfl rfl ?_
          refine sxo_nil ?_
          refine sxq_next ?_
          refine sxc_cond (b := false) rfl (fun h => by cases h) (fun _ => ?_)
          refine sxc_skip ?_
          refine sxq_blkN ?_
          refine sxq_next ?_
          refine sxc_region ?_
          refine sxo_add rfl rfl rfl rfl ?_
          refine sxo_move rfl rfl rfl ?_
          refine sxo_nil ?_
          exact sxq_againP ((iadd .i64 x320 1, x351), g353) (hB := (.cons 0 rfl (pick_rest 0 rfl))) (hR := (pick_rest 0 rfl)) (hF := (fk_cons 1 rfl (fk_cons 2 rfl (fk_cons 3 rfl fk_nil))))
        · refine sxo_not rfl rfl rfl ?_
          refine sxo_nil ?_
          refine sxq_next ?_
          refine sxc_cond (b := true) rfl (fun _ => ?_) (fun h => by cases h)
          refine sxc_ret ?_
          refine sxq_blkR ?_
          refine sxq_thenR ?_
          refine sxq_thenR ?_
          refine sxq_blkR ?_
          refine sxq_blkR ?_
          refine sxq_thenR ?_
          refine sxq_thenR ?_
          refine sxq_blkR ?_
          exact sxq_doneI (B0 := [⟨g1, 24, [.slice a3 x2.length c4.1]⟩]) (x := .inr x352) g353 (.inl rfl) (res0 rfl) (.cons 0 rfl (pick_rest 0 rfl)) (pick_rest 0 rfl)
      · refine sxc_exit ?_
        refine sxq_thenX ?_
        refine sxq_thenX ?_
        refine sxq_blkX ?_
        refine sxq_blkN ?_
        exact sxq_meetP (x321, g322) (hB := (.cons 0 rfl (pick_rest 0 rfl))) (hR := (pick_rest 0 rfl)) (hF := (fk_cons 0 rfl (fk_cons 2 rfl fk_nil)))
    · rintro ⟨x298, g299⟩
      try dsimp only
      refine sxc_region ?_
      refine sxo_add rfl rfl rfl rfl ?_
      refine sxo_move rfl rfl rfl ?_
      refine sxo_nil ?_
      exact sxq_againP ((iadd .i64 x121 1, x298), g299) (hB := (.cons 0 rfl (pick_rest 0 rfl))) (hR := (pick_rest 0 rfl)) (hF := (fk_cons 0 rfl (fk_cons 1 rfl fk_nil)))
  · refine sxc_exit ?_
    refine sxq_thenX ?_
    refine sxq_thenX ?_
    refine sxq_blkX ?_
    exact sxq_doneI (B0 := [⟨g1, 24, [.slice a3 x2.length c4.1]⟩]) (x := .inl x122) g123 (.inr rfl) (res0 rfl) (.cons 0 rfl (pick_rest 0 rfl)) (pick_rest 0 rfl)

set_option maxHeartbeats 4000000 in
theorem C_strong_Shrink (F : Nat) (x1 : List (List Int)) (a2 : Option Addr) (c3 : (Nat × List (Option Addr × Nat))) (r : (List (List Int) × List Int × Int)) (hm : M_strong_Shrink F x1 = some r) :
    PureM Try.prog 13 [.agg #[.slice a2 x1.length c3.1]] [] [] [SlN eN25 iN25 1 (.slice a2 x1.length c3.1) x1 c3.2] ((Option Addr × (Nat × List (Option Addr × Nat))) × (Option Addr × Nat)) (fun g => .tuple #[.agg #[.slice g.1.1 r.1.length g.1.2.1], .slice g.2.1 r.2.1.length g.2.2, .int .i64 r.2.2]) (fun _ => []) (fun g => [RoN eN25 rN25 25 1 (.slice g.1.1 r.1.length g.1.2.1) r.1 g.1.2.2 [], Ro (eI .i64) 3 1 (.slice g.2.1 r.2.1.length g.2.2) r.2.1]) := by
  refine pureX_of Try.func13 rfl Try.ntmps13 rfl hm (fun w => ?_)
  refine sxc_env (l' := [(0, .agg #[.slice a2 x1.length c3.1])]) rfl ?_
  refine sxc_seq ?_
  refine sxc_region ?_
  refine sxo_box rfl rfl rfl (fun g4 => ?_)
  refine sxo_alloc rfl tf24 rfl (fun g5 => ?_)
  refine sxo_assign rfl rfl rfl ?_
  refine sxo_assign rfl rfl rfl ?_
  refine sxo_nil ?_
  refine sxq_next ?_
  refine sxc_seq ?_
  refine sxc_seq ?_
  refine sxc_region ?_
  refine sxo_loadB (i := 1) rfl rfl tf24 rfl rfl (by simp) rfl rfl ?_
  refine sxo_call ent31 rfl rfl rfl (fun x8 e8 => C_graph_Check F x1 a2 c3 x8 e8) (.consF 0 rfl .nil) (fun x8 e8 => ?_)
  intro _
  refine sxo_assign rfl rfl rfl ?_
  refine sxo_nil ?_
  refine sxq_next ?_
  refine sxc_seq ?_
  refine sxc_region ?_
  refine sxo_move rfl rfl rfl ?_
  refine sxo_neq rfl rfl rfl rfl ?_
  refine sxo_nil ?_
  refine sxq_next ?_
  refine sxc_if rfl (fun h371 => ?_) (fun h371 => ?_)
  · refine sxc_seq ?_
    refine sxc_region ?_
    refine sxo_build (cells := [.slice none 0 0]) rfl st24 rfl (by kernel_rfl) rfl ?_
    refine sxo_move rfl rfl rfl ?_
    refine sxo_storeB (i := 0) rfl rfl rfl tf24 rfl rfl rfl rfl rfl ?_
    refine sxo_assign rfl rfl rfl ?_
    refine sxo_assign rfl rfl rfl ?_
    refine sxo_nil ?_
    refine sxq_next ?_
    refine sxc_ret ?_
    refine sxq_thenR ?_
    refine sxq_nilN (List Int) (Option Addr × Nat) eN25 rN25 25 1 ?_
    refine sxq_nilrow Int (eI .i64) 3 1 ?_
    exact sxq_doneX [] ((none, (0, ([] : List (Option Addr × Nat)))), (none, 0)) (.inl rfl) rfl .nil (resL (rs := [.cell 2 24, .tmp 3, .tmp 4]) rfl (.cell (i := 0) rfl tf24 rfl rfl (by simp) rfl (.tmp rfl (.tmp rfl ResOk.nil))) rfl) (fun h => by subst h; rfl) (fun h => by subst h; exact .nil) (fun h => by subst h; exact (.cons 1 rfl (.cons 0 rfl .nil)))
  · refine sxc_skip ?_
    refine sxq_next ?_
    refine sxc_seq ?_
    refine sxc_region ?_
    refine sxo_loadB (i := 1) rfl rfl tf24 rfl rfl (by simp) rfl rfl ?_
    refine sxo_call ent32 rfl rfl rfl (fun x9 e9 => C_strong_parts F x1 a2 c3 x9 e9) (.consF 0 rfl .nil) (fun x9 e9 => ?_)
    rintro ⟨a10, c11⟩
    refine sxo_alloc rfl tf25 rfl (fun g12 => ?_)
    refine sxo_storeB (i := 0) rfl rfl rfl tf25 rfl rfl rfl rfl rfl ?_
    refine sxo_nil ?_
    refine sxq_next ?_
    refine sxc_seq ?_
    refine sxc_region ?_
    refine sxo_loadB (i := 0) rfl rfl tf25 rfl rfl (fun _ => rfl) rfl rfl ?_
    refine sxo_callM ent37 rfl rfl rfl (fun x13 e13 => C_slices_Values_int_int F x9 a10 c11 x13 e13) .nil .nil (.consR 0 (Ro (eI .i64) 3 1 (.slice a10 x9.length c11) x9) rfl .nil) (fun x13 e13 => ?_)
    rintro g14
    refine sxo_callM ent36 rfl rfl rfl (fun x15 e15 => C_slices_Sorted_int_slices_Values_int_int_1 F g14 x9 a10 c11 x15 e15) (.cons 0 rfl .nil) .nil (.consR 0 (Ro (eI .i64) 3 1 (.slice a10 x9.length c11) x9) rfl .nil) (fun x15 e15 => ?_)
    rintro ⟨a16, c17⟩
    refine sxo_callM ent35 rfl rfl rfl (fun x18 e18 => C_slices_Compact_int_int F x15 a16 c17 x18 e18) .nil (.cons 0 rfl .nil) .nil (fun x18 e18 => ?_)
    rintro ⟨a19, c20⟩
    refine sxo_assign rfl rfl rfl ?_
    refine sxo_nil ?_
    refine sxq_next ?_
    refine sxc_join (fun ((x96, _) : (List Int × Unit)) => [(1, .pointer (some ⟨g4, 0, none⟩)), (2, .pointer (some ⟨g5, 0, none⟩)), (3, .slice none 0 0), (4, .int .i64 0), (6, .pointer (some ⟨g12, 0, none⟩)), (7, .slice a19 x18.length c20)]) (fun ((x96, _) : (List Int × Unit)) => [⟨g12, 25, [.slice a10 x96.length c11]⟩, ⟨g5, 24, [.slice none 0 0]⟩, ⟨g4, 24, [.slice a2 x1.length c3.1]⟩]) (fun ((x96, _) : (List Int × Unit)) => [Ro (eI .i64) 3 1 (.slice a19 x18.length c20) x18, Ro (eI .i64) 3 1 (.slice a10 x96.length c11) x96]) (fun ((x96, _) : (List Int × Unit)) => [SlN eN25 iN25 1 (.slice a2 x1.length c3.1) x1 c3.2]) (fun ((x96, _) : (List Int × Unit)) => M_strong_Shrink_j2 F x1 x18 x96) ?_ ?_
    · refine sxc_seq ?_
      refine sxc_region ?_
      refine sxo_loadB (i := 1) rfl rfl tf25 rfl rfl (fun _ => rfl) rfl rfl ?_
      refine sxo_len rfl Try.underlying25 rfl rfl ?_
      refine sxo_move rfl rfl rfl ?_
      refine sxo_nil ?_
      refine sxq_next ?_
      refine sxc_block ?_
      refine sxc_loopP (fun (((x320, x321), _) : ((List Int × Int) × Unit)) => [(1, .pointer (some ⟨g4, 0, none⟩)), (2, .pointer (some ⟨g5, 0, none⟩)), (3, .slice none 0 0), (4, .int .i64 0), (6, .pointer (some ⟨g12, 0, none⟩)), (7, .slice a19 x18.length c20), (30, .slice a10 x320.length c11), (31, .int .i64 (x9.length : Int)), (32, .int .i64 x321)]) (fun (((x320, x321), _) : ((List Int × Int) × Unit)) => [⟨g12, 25, [.slice a10 x320.length c11]⟩, ⟨g5, 24, [.slice none 0 0]⟩, ⟨g4, 24, [.slice a2 x1.length c3.1]⟩]) (fun (((x320, x321), _) : ((List Int × Int) × Unit)) => [Ro (eI .i64) 3 1 (.slice a19 x18.length c20) x18, Ro (eI .i64) 3 1 (.slice a10 x320.length c11) x320]) (fun (((x320, x321), _) : ((List Int × Int) × Unit)) => [SlN eN25 iN25 1 (.slice a2 x1.length c3.1) x1 c3.2]) (fun k (s : ((List Int × Int) × Unit)) => M_strong_Shrink_l5 F x1 x9 x18 k s.1) ((x9, 0), ()) F ?_ (hB := (.cons 1 rfl (.cons 1 rfl (.cons 1 rfl .nil)))) (hR := (.cons 0 rfl (.cons 0 rfl .nil))) (hF := (fk_cons 0 rfl fk_nil))
      intro k346
      rintro ⟨⟨x320, x321⟩, _⟩
      try dsimp only
      refine sxc_meq (m' := M_strong_Shrink_b5 F x1 x9 x18 (M_strong_Shrink_l5 F x1 x9 x18 k346) x320 x321) rfl ?_
      refine sxc_seq ?_
      refine sxc_region ?_
      refine sxo_lss rfl rfl rfl rfl ?_
      refine sxo_nil ?_
      refine sxq_next ?_
      refine sxc_seq ?_
      refine sxc_if rfl (fun h370 => ?_) (fun h370 => ?_)
      · refine sxc_skip ?_
        refine sxq_next ?_
        refine sxc_seq ?_
        refine sxc_block ?_
        refine sxc_seq ?_
        refine sxc_region ?_
        refine sxo_move rfl rfl rfl ?_
        refine sxo_indexR (j := 1) rfl Try.underlying25 tf3 rfl rfl rfl rfl (fun x359 e359 g360 h361 => ?_)
        refine sxo_loadR (j := 1) (y := x359) (eI_ok .i64) rfl rfl tf3 rfl h361 (idx_get e359).2.2 (fun _ => rfl) rfl rfl ?_
        refine sxo_assign rfl rfl rfl ?_
        refine sxo_assign rfl rfl rfl ?_
        refine sxo_nil ?_
        refine sxq_next ?_
        refine sxc_idxO (j := 1) rfl (fun x362 e362 g363 h364 => ?_)
        replace h364 : a10 = some ⟨g363, 0, none⟩ := h364
        have h365 := own_of (k := x320.length) (c := c11) h364
        refine sxb_draw mixed [] [⟨g12, 25, [.slice a10 x320.length c11]⟩, ⟨g5, 24, [.slice none 0 0]⟩, ⟨g4, 24, [.slice a2 x1.length c3.1]⟩] [SlN eN25 iN25 1 (.slice a2 x1.length c3.1) x1 c3.2] (.cons 0 rfl (.cons 0 rfl (.cons 0 rfl .nil))) (gk_F 0 rfl gk_nil) 10 rfl ?_
        refine sxb_takeB 0 (.slice a10 x320.length c11) rfl rfl rfl (yv_loadB (i := 0) rfl tf25 rfl rfl (fun _ => rfl) rfl) ?_
        refine sxb_takeP 1 (.int .i64 x321) rfl rfl rfl (yv_pv rfl) ?_
        refine sxb_takeP 2 (.slice a19 x18.length c20) rfl rfl rfl (yv_pv rfl) ?_
        refine sxb_takeP 3 (.int .i64 x359) rfl rfl rfl (yv_pv rfl) ?_
        refine sxb_step 4 rfl (by kernel_rfl) rfl ?_
        refine sxo_call ent38 rfl rfl rfl (fun x366 e366 => C_slices_BinarySearch_int_int F x18 a19 c20 x359 x366 e366) (.consR 0 (Ro (eI .i64) 3 1 (.slice a19 x18.length c20) x18) rfl .nil) (fun x366 e366 => ?_)
        intro _
        refine sxo_nil ?_
        refine sxq_anyB (.cons 0 rfl (.cons 0 rfl (.cons 0 rfl .nil))) (gk_F 0 rfl gk_nil) ?_
        refine sxb_takeP 5 (.tuple #[.int .i64 x366.1, .bool x366.2]) rfl rfl rfl (yv_pv rfl) ?_
        refine sxb_takeP 6 (.int .i64 x366.1) rfl rfl rfl (yv_pv rfl) ?_
        refine sxb_takeP 7 (.bool x366.2) rfl rfl rfl (yv_pv rfl) ?_
        refine sxb_again (d := 38) (v := .slice (some ⟨g363, 0, none⟩) x320.length c11) rfl (by rw [h364] <;> rfl) ?_
        refine sxb_takeP 8 (.pointer (some ⟨g363, x321.toNat * 1, none⟩)) rfl rfl rfl (yv_idxO Try.underlying25 tf3 rfl rfl (idx_get e362).1 (idx_lt e362)) ?_
        refine sxb_again (d := 38) (v := .slice a10 x320.length c11) rfl (by rw [h364] <;> rfl) ?_
        refine sxb_step 9 rfl (by kernel_rfl) rfl ?_
        refine sxo_storeL (j := 1) (y' := x366.1) (eI_ok .i64) rfl rfl rfl tf3 rfl (own_of h364) (idx_get e362).2.1 rfl (fun x367 e367 h368 => ?_)
        have h369 : x367.length = x320.length := by rw [← e367, List.length_set]
        refine sxo_again (d := 30) (v := .slice a10 x367.length c11) rfl h368 ?_
        refine sxo_again (d := 38) (v := .slice a10 x367.length c11) rfl h368 ?_
        refine sxo_blkAgain (i := 0) (cs' := [.slice a10 x367.length c11]) rfl (by rw [h368] <;> rfl) ?_
        refine sxo_nil ?_
        refine sxq_anyB (.cons 0 (by rw [h369]; rfl) (.cons 0 rfl (.cons 0 rfl .nil))) (gk_F 0 rfl gk_nil) ?_
        refine sxb_done (by kernel_rfl) ?_
        refine sxq_np ?_ (by intro c h; cases h)
        refine sxq_blkN ?_
        refine sxq_next ?_
        refine sxc_region ?_
        refine sxo_add rfl rfl rfl rfl ?_
        refine sxo_move rfl rfl rfl ?_
        refine sxo_nil ?_
        exact sxq_againP ((x367, iadd .i64 x321 1), ()) (hB := (.cons 0 rfl (.cons 0 rfl (.cons 0 rfl .nil)))) (hR := (.cons 1 rfl (.cons 0 rfl .nil))) (hF := (fk_cons 0 rfl fk_nil))
      · refine sxc_exit ?_
        refine sxq_thenX ?_
        refine sxq_thenX ?_
        refine sxq_blkX ?_
        exact sxq_meetP (x320, ()) (hB := (.cons 0 rfl (.cons 0 rfl (.cons 0 rfl .nil)))) (hR := (.cons 0 rfl (.cons 0 rfl .nil))) (hF := (fk_cons 0 rfl fk_nil))
    · rintro ⟨x96, _⟩
      try dsimp only
      refine sxc_seq ?_
      refine sxc_region ?_
      refine sxo_makeMap (k0 := .i64) (k1 := .i64) rfl rfl (fun g97 => ?_)
      refine sxo_alloc rfl tf66 rfl (fun g98 => ?_)
      refine sxo_storeB (i := 0) rfl rfl rfl tf66 rfl rfl rfl rfl rfl ?_
      refine sxo_nil ?_
      refine sxq_next ?_
      refine sxc_seq ?_
      refine sxc_region ?_
      refine sxo_alloc rfl tf51 rfl (fun g99 => ?_)
      refine sxo_nil ?_
      refine sxq_next ?_
      refine sxc_seq ?_
      refine sxc_seq ?_
      refine sxc_region ?_
      refine sxo_loadB (i := 5) rfl rfl tf24 rfl rfl (by simp) rfl rfl ?_
      refine sxo_callM ent39 rfl rfl rfl (fun x196 e196 => C_graph_All F x1 a2 c3 x196 e196) .nil .nil (.consF 0 rfl .nil) (fun x196 e196 => ?_)
      rintro g197
      refine sxo_nil ?_
      refine sxq_next ?_
      refine sxc_block ?_
      refine sxc_nilrow (Int × Int) eS48 48 2 ?_
      refine sxc_range (encs := (fun (p : (Int × Int)) => [.agg #[.int .i64 p.1, .int .i64 p.2]])) (y := (fun ((x230, x231) : (List (Int × Int) × List (Int × Int))) ((x262, x263) : (Int × Int)) => M_strong_Shrink_r4 F x96 x230 x231 x262 x263)) (lb := [.pointer (some ⟨g197, 0, none⟩)]) (fun ((x230, x231) : (List (Int × Int) × List (Int × Int))) ((a228, c229) : (Option Addr × Nat)) => [⟨g99, 51, [.slice a228 x230.length c229]⟩, ⟨g98, 66, [.map (some g97)]⟩, (blkO g97 (mapO .i64 .i64 x231)), ⟨g12, 25, [.slice a10 x96.length c11]⟩, ⟨g5, 24, [.slice none 0 0]⟩, ⟨g4, 24, [.slice a2 x1.length c3.1]⟩]) (fun ((x230, x231) : (List (Int × Int) × List (Int × Int))) ((a228, c229) : (Option Addr × Nat)) => [Ro (eI .i64) 3 1 (.slice a19 x18.length c20) x18, Ro eS48 48 2 (.slice a228 x230.length c229) x230, Ro (eI .i64) 3 1 (.slice a10 x96.length c11) x96]) (fun (_ : Empty) (_ : Unit) => []) (fun (_ : Empty) (_ : Unit) => []) (fun _ => .skip) (([] : List (Int × Int)), ([] : List (Int × Int))) (none, 0) rfl ent65 (fun _ => rfl) rfl (.cons 0 rfl .nil) (.cons 0 rfl (.cons 0 rfl (.cons 0 rfl (.cons 0 rfl (.cons 0 rfl (.cons 0 rfl .nil)))))) (.cons 1 rfl (.cons 0 rfl (.cons 0 rfl .nil))) (.consF 0 rfl .nil) (fun z hz _ _ _ hY => C_graph_All_1 F hY (([] : List (Int × Int)), ([] : List (Int × Int))) (none, 0) g197 x1 a2 c3 z hz) ?_ ?_ ?_
      · rintro rc1 L1 D1 ⟨x230, x231⟩ ⟨a228, c229⟩ ⟨x262, x263⟩ z w M _
        try dsimp only
        refine sxc_less [(1, .pointer (some ⟨g4, 0, none⟩)), (2, .pointer (some ⟨g5, 0, none⟩)), (3, .slice none 0 0), (4, .int .i64 0), (6, .pointer (some ⟨g12, 0, none⟩)), (7, .slice a19 x18.length c20), (10, .pointer (some ⟨g98, 0, none⟩)), (11, .pointer (some ⟨g99, 0, none⟩)), (47, .map (some g97)), (48, .agg #[.slice a2 x1.length c3.1]), (49, .func (.func 65) #[] #[.pointer (some ⟨g197, 0, none⟩)]), (50, .agg #[.int .i64 x262, .int .i64 x263])] (lk_cons rfl (lk_cons rfl (lk_cons rfl (lk_cons rfl (lk_cons rfl (lk_cons rfl (lk_cons rfl (lk_cons rfl (lk_cons rfl (lk_cons rfl (lk_cons rfl (lk_cons rfl lk_nil)))))))))))) ?_
        refine sxc_region ?_
        refine sxo_alloc rfl tf48 rfl (fun g264 => ?_)
        refine sxo_storeB (i := 0) rfl rfl rfl tf48 rfl rfl rfl rfl rfl ?_
        refine sxo_nil ?_
        refine sxq_begin (i := 7) rfl ?_
        refine sxc_block ?_
        refine sxc_seq ?_
        refine sxc_idxO (j := 2) rfl (fun x274 e274 g275 h276 => ?_)
        replace h276 : a10 = some ⟨g275, 0, none⟩ := h276
        have h277 := own_of (k := x96.length) (c := c11) h276
        refine sxc_idxO (j := 2) rfl (fun x278 e278 g279 h280 => ?_)
        replace h280 : a10 = some ⟨g279, 0, none⟩ := h280
        have h281 := own_of (k := x96.length) (c := c11) h280
        refine sxb_draw mixed [] [⟨g264, 48, [.int .i64 x262, .int .i64 x263]⟩, ⟨g99, 51, [.slice a228 x230.length c229]⟩, ⟨g98, 66, [.map (some g97)]⟩, (blkO g97 (mapO .i64 .i64 x231)), ⟨g12, 25, [.slice a10 x96.length c11]⟩, ⟨g5, 24, [.slice none 0 0]⟩, ⟨g4, 24, [.slice a2 x1.length c3.1]⟩, (blkO L1 (.loop (bsy rc1))), (dblk D1)] [SlN eN25 iN25 1 (.slice a2 x1.length c3.1) x1 c3.2, CellsAt g275 (x262.toNat * 1) ((eI .i64) x274), CellsAt g279 (x263.toNat * 1) ((eI .i64) x278)] (.cons 0 rfl (.cons 0 rfl (.cons 0 rfl (.cons 0 rfl (.cons 0 rfl (.cons 0 rfl (.cons 0 rfl (.cons 0 rfl (.cons 0 rfl .nil))))))))) (gk_F 0 rfl (gk_R 2 rfl (at_row (eI_ok .i64) e274 h276) (gk_R 2 rfl (at_row (eI_ok .i64) e278 h280) gk_nil))) 13 rfl ?_
        refine sxb_takeB 0 (.slice a10 x96.length c11) rfl rfl rfl (yv_loadB (i := 4) rfl tf25 rfl rfl (fun _ => rfl) rfl) ?_
        refine sxb_takeP 1 (.pointer (some ⟨g264, 0, none⟩)) rfl rfl rfl (yv_fieldAddr rfl ff48_0) ?_
        refine sxb_takeB 2 (.int .i64 x262) rfl rfl rfl (yv_loadB (i := 0) rfl tf3 rfl rfl (fun _ => rfl) rfl) ?_
        refine sxb_again (d := 51) (v := .slice (some ⟨g275, 0, none⟩) x96.length c11) rfl (by rw [h276] <;> rfl) ?_
        refine sxb_takeP 3 (.pointer (some ⟨g275, x262.toNat * 1, none⟩)) rfl rfl rfl (yv_idxO Try.underlying25 tf3 rfl rfl (idx_get e274).1 (idx_lt e274)) ?_
        refine sxb_again (d := 51) (v := .slice a10 x96.length c11) rfl (by rw [h276] <;> rfl) ?_
        refine sxb_take 4 (.int .i64 x274) [] rfl rfl rfl (yv_loadF (j := 1) rfl tf3 rfl rfl (fun _ => rfl) rfl) ?_
        refine sxb_takeB 5 (.slice a10 x96.length c11) rfl rfl rfl (yv_loadB (i := 4) rfl tf25 rfl rfl (fun _ => rfl) rfl) ?_
        refine sxb_takeP 6 (.pointer (some ⟨g264, 1, none⟩)) rfl rfl rfl (yv_fieldAddr rfl ff48_1) ?_
        refine sxb_takeB 7 (.int .i64 x263) rfl rfl rfl (yv_loadB (i := 0) rfl tf3 rfl rfl (fun _ => rfl) rfl) ?_
        refine sxb_again (d := 56) (v := .slice (some ⟨g279, 0, none⟩) x96.length c11) rfl (by rw [h280] <;> rfl) ?_
        refine sxb_takeP 8 (.pointer (some ⟨g279, x263.toNat * 1, none⟩)) rfl rfl rfl (yv_idxO Try.underlying25 tf3 rfl rfl (idx_get e278).1 (idx_lt e278)) ?_
        refine sxb_again (d := 56) (v := .slice a10 x96.length c11) rfl (by rw [h280] <;> rfl) ?_
        refine sxb_take 9 (.int .i64 x278) [] rfl rfl rfl (yv_loadF (j := 2) rfl tf3 rfl rfl (fun _ => rfl) rfl) ?_
        refine sxb_takeP 10 (.agg #[.int .i64 x274, .int .i64 x278]) rfl rfl rfl (yv_build (cells := [.int .i64 x274, .int .i64 x278]) st48 rfl (by kernel_rfl)) ?_
        refine sxb_step 11 rfl (by kernel_rfl) rfl ?_
        refine sxo_alloc rfl tf48 rfl (fun g282 => ?_)
        refine sxo_nil ?_
        refine sxq_anyB (.cons 1 rfl (.cons 1 rfl (.cons 1 rfl (.cons 1 rfl (.cons 1 rfl (.cons 1 rfl (.cons 1 rfl (.cons 1 rfl (.cons 1 rfl .nil))))))))) (gk_F 0 rfl (gk_R 2 rfl (at_row (eI_ok .i64) e274 h276) (gk_R 2 rfl (at_row (eI_ok .i64) e278 h280) gk_nil))) ?_
        refine sxb_step 12 rfl (by kernel_rfl) rfl ?_
        refine sxo_storeB (i := 0) rfl rfl rfl tf48 rfl rfl rfl rfl rfl ?_
        refine sxo_nil ?_
        refine sxq_anyB (.cons 1 rfl (.cons 1 rfl (.cons 1 rfl (.cons 1 rfl (.cons 1 rfl (.cons 1 rfl (.cons 1 rfl (.cons 1 rfl (.cons 1 rfl .nil))))))))) (gk_F 0 rfl (gk_R 2 rfl (at_row (eI_ok .i64) e274 h276) (gk_R 2 rfl (at_row (eI_ok .i64) e278 h280) gk_nil))) ?_
        refine sxb_done (by kernel_rfl) ?_
        refine sxq_np ?_ (by intro c h; cases h)
        refine sxq_next ?_
        refine sxc_seq ?_
        refine sxc_region ?_
        refine sxo_loadB (i := 3) rfl rfl tf66 rfl rfl (fun _ => rfl) rfl rfl ?_
        refine sxo_loadB (i := 0) rfl rfl tf48 rfl rfl (by simp) rfl rfl ?_
        refine sxo_lookupS (i := 4) (p := (x274, x278)) rfl Try.underlying66 se48 tf69 rfl rfl rfl rfl ?_
        refine sxo_move rfl rfl rfl ?_
        refine sxo_extract rfl rfl rfl rfl ?_
        refine sxo_extract rfl rfl rfl rfl ?_
        refine sxo_alloc rfl tf69 rfl (fun g283 => ?_)
        refine sxo_storeB (i := 0) rfl rfl rfl tf69 rfl rfl rfl rfl rfl ?_
        refine sxo_assign rfl rfl rfl ?_
        refine sxo_nil ?_
        refine sxq_next ?_
        refine sxc_seq ?_
        refine sxc_region ?_
        refine sxo_move rfl rfl rfl ?_
        refine sxo_not rfl rfl rfl ?_
        refine sxo_move rfl rfl rfl ?_
        refine sxo_case 6 (!(decide (((x274, x278) : Int × Int) ∈ x231))) [(1, .pointer (some ⟨g4, 0, none⟩)), (2, .pointer (some ⟨g5, 0, none⟩)), (6, .pointer (some ⟨g12, 0, none⟩)), (10, .pointer (some ⟨g98, 0, none⟩)), (11, .pointer (some ⟨g99, 0, none⟩)), (13, .pointer (some ⟨g282, 0, none⟩)), (76, .bool ((!(decide (((x274, x278) : Int × Int) ∈ x231))) && ((x274 : Int) != x278)))] (fun h284 => ?_) (fun h284 => ?_) ?_
        · refine sxo_take (os := _) rfl ?_
          refine sxo_isT (k := 70) rfl h284 ?_
          refine sxo_fieldAddr rfl rfl ff48_0 rfl ?_
          refine sxo_loadB (i := 1) rfl rfl tf3 rfl rfl (fun _ => rfl) rfl rfl ?_
          refine sxo_fieldAddr rfl rfl ff48_1 rfl ?_
          refine sxo_loadB (i := 1) rfl rfl tf3 rfl rfl (fun _ => rfl) rfl rfl ?_
          refine sxo_neq rfl rfl rfl rfl ?_
          refine sxo_pick (b := true) rfl rfl rfl rfl ?_
          refine sxo_again (d := 76) (v := .bool ((!(decide (((x274, x278) : Int × Int) ∈ x231))) && ((x274 : Int) != x278))) rfl (by rw [h284]; simp only [Bool.true_and]) ?_
          refine sxo_nil ?_
          exact sxq_case (lk_cons rfl (lk_cons rfl (lk_cons rfl (lk_cons rfl (lk_cons rfl (lk_cons rfl (lk_cons rfl lk_nil)))))))
        · refine sxo_take (os := _) rfl ?_
          refine sxo_isF (k := 70) rfl h284 ?_
          refine sxo_skip rfl rfl rfl ?_
          refine sxo_skip rfl rfl rfl ?_
          refine sxo_skip rfl rfl rfl ?_
          refine sxo_skip rfl rfl rfl ?_
          refine sxo_skip rfl rfl rfl ?_
          refine sxo_pick (b := false) rfl rfl rfl rfl ?_
          refine sxo_again (d := 76) (v := .bool ((!(decide (((x274, x278) : Int × Int) ∈ x231))) && ((x274 : Int) != x278))) rfl (by rw [h284]; simp only [Bool.false_and]) ?_
          refine sxo_nil ?_
          exact sxq_case (lk_cons rfl (lk_cons rfl (lk_cons rfl (lk_cons rfl (lk_cons rfl (lk_cons rfl (lk_cons rfl lk_nil)))))))
        refine sxo_take (os := _) rfl ?_
        refine sxo_nil ?_
        refine sxq_next ?_
        refine sxc_if rfl (fun h291 => ?_) (fun h291 => ?_)
        · refine sxc_seq ?_
          refine sxc_region ?_
          refine sxo_loadB (i := 4) rfl rfl tf66 rfl rfl (fun _ => rfl) rfl rfl ?_
          refine sxo_loadB (i := 1) rfl rfl tf48 rfl rfl (by simp) rfl rfl ?_
          refine sxo_build (cells := []) rfl st69 rfl (by kernel_rfl) rfl ?_
          refine sxo_mapPut (i := 5) (p := (x274, x278)) rfl Try.underlying66 se48 rfl rfl rfl rfl (fun x285 e285 => ?_)
          refine sxo_nil ?_
          refine sxq_next ?_
          refine sxc_region ?_
          refine sxo_loadB (i := 3) rfl rfl tf51 rfl rfl (fun _ => rfl) rfl rfl ?_
          refine sxo_loadB (i := 1) rfl rfl tf48 rfl rfl (by simp) rfl rfl ?_
          refine sxo_slit (vs := [.agg #[.int .i64 x274, .int .i64 x278]]) (ys := ([(x274, x278)] : List (Int × Int))) eS48_ok (by decide) rfl Try.underlying51 tf48 rfl rfl rfl rfl rfl (by decide) (fun a286 c287 => ?_)
          refine sxo_app 2 eS48_ok rfl Try.underlying51 tf48 rfl rfl rfl rfl rfl (.inl ⟨0, _, rfl⟩) rfl rfl (fun x288 e288 a289 c290 => ?_)
          refine sxo_storeB (i := 3) rfl rfl rfl tf51 rfl rfl rfl rfl rfl ?_
          refine sxo_nil ?_
          refine sxq_blkN ?_
          exact sxq_round (rc := rc1) rfl (.cons 9 rfl .nil) rfl (a289, c290) (.cons 4 rfl (.cons 4 rfl (.cons 4 rfl (.cons 4 rfl (.cons 4 rfl (.cons 4 rfl (.cons 0 rfl (.cons 3 rfl .nil)))))))) (.cons 2 rfl (.cons 0 rfl (.cons 1 rfl .nil)))
        · refine sxc_skip ?_
          refine sxq_blkN ?_
          exact sxq_round (rc := rc1) rfl (.cons 9 rfl .nil) rfl (a228, c229) (.cons 4 rfl (.cons 4 rfl (.cons 4 rfl (.cons 4 rfl (.cons 4 rfl (.cons 4 rfl (.cons 0 rfl (.cons 3 rfl .nil)))))))) (.cons 0 rfl (.cons 0 rfl (.cons 0 rfl .nil)))
      · rintro ⟨x230, x231⟩ _ ⟨a228, c229⟩ D1
        try dsimp only
        refine sxq_blkN ?_
        refine sxq_next ?_
        refine sxc_seq ?_
        refine sxc_region ?_
        refine sxo_move rfl rfl rfl ?_
        refine sxo_len rfl Try.underlying25 rfl rfl ?_
        refine sxo_loadB (i := 2) rfl rfl tf51 rfl rfl (fun _ => rfl) rfl rfl ?_
        refine sxo_call ent30 rfl rfl rfl (fun x292 e292 => C_graph_Of F (x18.length : Int) x230 a228 c229 x292 e292) (.consR 1 (Ro eS48 48 2 (.slice a228 x230.length c229) x230) rfl .nil) (fun x292 e292 => ?_)
        rintro ⟨a293, c294⟩
        refine sxo_move rfl rfl rfl ?_
        refine sxo_extract rfl rfl rfl rfl ?_
        refine sxo_extract rfl rfl rfl rfl ?_
        refine sxo_alloc rfl tf24 rfl (fun g295 => ?_)
        refine sxo_storeB (i := 0) rfl rfl rfl tf24 rfl rfl rfl rfl rfl ?_
        refine sxo_assign rfl rfl rfl ?_
        refine sxo_nil ?_
        refine sxq_next ?_
        refine sxc_seq ?_
        refine sxb_draw mixed [] [⟨g295, 24, [.slice a293 x292.1.length c294.1]⟩, (dblk D1), ⟨g197, 24, [.slice a2 x1.length c3.1]⟩, ⟨g99, 51, [.slice a228 x230.length c229]⟩, ⟨g98, 66, [.map (some g97)]⟩, (blkO g97 (mapO .i64 .i64 x231)), ⟨g12, 25, [.slice a10 x96.length c11]⟩, ⟨g4, 24, [.slice a2 x1.length c3.1]⟩] [SlN eN25 iN25 1 (.slice a2 x1.length c3.1) x1 c3.2] (.cons 0 rfl (.cons 0 rfl (.cons 0 rfl (.cons 0 rfl (.cons 0 rfl (.cons 0 rfl (.cons 0 rfl (.cons 1 rfl .nil)))))))) (gk_F 0 rfl gk_nil) 6 rfl ?_
        refine sxb_takeB 0 (.agg #[.slice a293 x292.1.length c294.1]) rfl rfl rfl (yv_loadB (i := 0) rfl tf24 rfl rfl (by simp) rfl) ?_
        refine sxb_takeB 1 (.slice a10 x96.length c11) rfl rfl rfl (yv_loadB (i := 6) rfl tf25 rfl rfl (fun _ => rfl) rfl) ?_
        refine sxb_takeP 2 (.int .i64 x292.2) rfl rfl rfl (yv_pv rfl) ?_
        refine sxb_step 3 rfl (by kernel_rfl) rfl ?_
        refine sxo_storeB (i := 7) rfl rfl rfl tf24 rfl rfl rfl rfl rfl ?_
        refine sxo_nil ?_
        refine sxq_anyB (.cons 0 rfl (.cons 0 rfl (.cons 0 rfl (.cons 0 rfl (.cons 0 rfl (.cons 0 rfl (.cons 0 rfl (.cons 1 rfl .nil)))))))) (gk_F 0 rfl gk_nil) ?_
        refine sxb_takeP 4 (.slice a10 x96.length c11) rfl rfl rfl (yv_pv rfl) ?_
        refine sxb_takeP 5 (.int .i64 x292.2) rfl rfl rfl (yv_pv rfl) ?_
        refine sxb_done (by kernel_rfl) ?_
        refine sxq_np ?_ (by intro c h; cases h)
        refine sxq_next ?_
        refine sxc_ret ?_
        exact sxq_doneX [D1] ((a293, c294), (a10, c11)) (.inl rfl) rfl (.cons 1 rfl .nil) (resL (rs := [.cell 2 24, .tmp 3, .tmp 4]) rfl (.cell (i := 6) rfl tf24 rfl rfl (by simp) rfl (.tmp rfl (.tmp rfl ResOk.nil))) rfl) (fun h => by subst h; rfl) (fun h => by subst h; exact .nil) (fun h => by subst h; exact (.cons 0 rfl (.cons 2 rfl .nil)))
      · intro t; exact t.elim

theorem C_graph_Degrees (F : Nat) (x1 : List (List Int)) (a2 : Option Addr) (c3 : (Nat × List (Option Addr × Nat))) (r : (List Int × List Int × Int)) (hm : M_graph_Degrees F x1 = some r) :
    PureM Try.prog 33 [.agg #[.slice a2 x1.length c3.1]] [] [] [SlN eN25 iN25 1 (.slice a2 x1.length c3.1) x1 c3.2] ((Option Addr × Nat) × (Option Addr × Nat)) (fun g => .tuple #[.slice g.1.1 r.1.length g.1.2, .slice g.2.1 r.2.1.length g.2.2, .int .i64 r.2.2]) (fun _ => []) (fun g => [Ro (eI .i64) 3 1 (.slice g.1.1 r.1.length g.1.2) r.1, Ro (eI .i64) 3 1 (.slice g.2.1 r.2.1.length g.2.2) r.2.1]) := by
  refine pureX_of Try.func33 rfl Try.ntmps33 rfl hm (fun w => ?_)
  refine sxc_env (l' := [(0, .agg #[.slice a2 x1.length c3.1])]) rfl ?_
  refine sxc_seq ?_
  refine sxc_region ?_
  refine sxo_box rfl rfl rfl (fun g4 => ?_)
  refine sxo_alloc rfl tf25 rfl (fun g5 => ?_)
  refine sxo_alloc rfl tf25 rfl (fun g6 => ?_)
  refine sxo_assign rfl rfl rfl ?_
  refine sxo_nil ?_
  refine sxq_next ?_
  refine sxc_seq ?_
  refine sxc_seq ?_
  refine sxc_region ?_
  refine sxo_loadB (i := 2) rfl rfl tf24 rfl rfl (by simp) rfl rfl ?_
  refine sxo_call ent31 rfl rfl rfl (fun x9 e9 => C_graph_Check F x1 a2 c3 x9 e9) (.consF 0 rfl .nil) (fun x9 e9 => ?_)
  intro _
  refine sxo_assign rfl rfl rfl ?_
  refine sxo_nil ?_
  refine sxq_next ?_
  refine sxc_seq ?_
  refine sxc_region ?_
  refine sxo_move rfl rfl rfl ?_
  refine sxo_neq rfl rfl rfl rfl ?_
  refine sxo_nil ?_
  refine sxq_next ?_
  refine sxc_if rfl (fun h180 => ?_) (fun h180 => ?_)
  · refine sxc_seq ?_
    refine sxc_region ?_
    refine sxo_move rfl rfl rfl ?_
    refine sxo_storeB (i := 1) rfl rfl rfl tf25 rfl rfl rfl rfl rfl ?_
    refine sxo_storeB (i := 0) rfl rfl rfl tf25 rfl rfl rfl rfl rfl ?_
    refine sxo_assign rfl rfl rfl ?_
    refine sxo_nil ?_
    refine sxq_next ?_
    refine sxc_ret ?_
    refine sxq_thenR ?_
    refine sxq_nilrow Int (eI .i64) 3 1 ?_
    refine sxq_nilrow Int (eI .i64) 3 1 ?_
    exact sxq_doneX [] ((none, 0), (none, 0)) (.inl rfl) rfl .nil (resL (rs := [.cell 2 25, .cell 3 25, .tmp 4]) rfl (.cell (i := 1) rfl tf25 rfl rfl (fun _ => rfl) rfl (.cell (i := 0) rfl tf25 rfl rfl (fun _ => rfl) rfl (.tmp rfl ResOk.nil))) rfl) (fun h => by subst h; rfl) (fun h => by subst h; exact .nil) (fun h => by subst h; exact (.cons 0 rfl (.cons 0 rfl .nil)))
  · refine sxc_skip ?_
    refine sxq_next ?_
    refine sxc_join (fun (((x27, x30), (a25, c26, a28, c29)) : ((List Int × List Int) × (Option Addr × Nat × Option Addr × Nat))) => [(1, .pointer (some ⟨g4, 0, none⟩)), (2, .pointer (some ⟨g5, 0, none⟩)), (3, .pointer (some ⟨g6, 0, none⟩)), (4, .int .i64 0)]) (fun (((x27, x30), (a25, c26, a28, c29)) : ((List Int × List Int) × (Option Addr × Nat × Option Addr × Nat))) => [⟨g6, 25, [.slice a25 x27.length c26]⟩, ⟨g5, 25, [.slice a28 x30.length c29]⟩, ⟨g4, 24, [.slice a2 x1.length c3.1]⟩]) (fun (((x27, x30), (a25, c26, a28, c29)) : ((List Int × List Int) × (Option Addr × Nat × Option Addr × Nat))) => [Ro (eI .i64) 3 1 (.slice a25 x27.length c26) x27, Ro (eI .i64) 3 1 (.slice a28 x30.length c29) x30]) (fun (((x27, x30), (a25, c26, a28, c29)) : ((List Int × List Int) × (Option Addr × Nat × Option Addr × Nat))) => [SlN eN25 iN25 1 (.slice a2 x1.length c3.1) x1 c3.2]) (fun (((x27, x30), _) : ((List Int × List Int) × (Option Addr × Nat × Option Addr × Nat))) => M_graph_Degrees_j1 F x1 x27 x30) ?_ ?_
    · refine sxb_draw mixed [] [⟨g4, 24, [.slice a2 x1.length c3.1]⟩] [SlN eN25 iN25 1 (.slice a2 x1.length c3.1) x1 c3.2] (.cons 2 rfl .nil) (gk_F 0 rfl gk_nil) 10 rfl ?_
      refine sxb_takeP 0 (.pointer (some ⟨g4, 0, none⟩)) rfl rfl rfl (yv_fieldAddr rfl ff24_0) ?_
      refine sxb_takeB 1 (.slice a2 x1.length c3.1) rfl rfl rfl (yv_loadB (i := 0) rfl tf22 rfl rfl (fun _ => rfl) rfl) ?_
      refine sxb_takeP 2 (.int .i64 (x1.length : Int)) rfl rfl rfl (yv_len Try.underlying22 rfl) ?_
      refine sxb_takeP 4 (.pointer (some ⟨g4, 0, none⟩)) rfl rfl rfl (yv_fieldAddr rfl ff24_0) ?_
      refine sxb_takeB 5 (.slice a2 x1.length c3.1) rfl rfl rfl (yv_loadB (i := 0) rfl tf22 rfl rfl (fun _ => rfl) rfl) ?_
      refine sxb_takeP 6 (.int .i64 (x1.length : Int)) rfl rfl rfl (yv_len Try.underlying22 rfl) ?_
      refine sxb_two 3 7 rfl rfl (by kernel_rfl) rfl rfl ?_ ?_
      · refine sxo_mk (eI_ok .i64) rfl Try.underlying25 tf3 rfl rfl rfl rfl rfl rfl rfl (fun x165 e165 a166 c167 => ?_)
        refine sxo_nil ?_
        refine sxq_anyB (.cons 2 rfl .nil) (gk_F 0 rfl gk_nil) ?_
        refine sxb_two 7 8 rfl rfl (by kernel_rfl) rfl rfl ?_ ?_
        · refine sxo_mk (eI_ok .i64) rfl Try.underlying25 tf3 rfl rfl rfl rfl rfl rfl rfl (fun x168 e168 a169 c170 => ?_)
          refine sxo_nil ?_
          refine sxq_anyB (.cons 2 rfl .nil) (gk_F 0 rfl gk_nil) ?_
          refine sxb_step 8 rfl (by kernel_rfl) rfl ?_
          refine sxo_storeB (i := 1) rfl rfl rfl tf25 rfl rfl rfl rfl rfl ?_
          refine sxo_nil ?_
          refine sxq_anyB (.cons 2 rfl .nil) (gk_F 0 rfl gk_nil) ?_
          refine sxb_step 9 rfl (by kernel_rfl) rfl ?_
          refine sxo_storeB (i := 0) rfl rfl rfl tf25 rfl rfl rfl rfl rfl ?_
          refine sxo_nil ?_
          refine sxq_anyB (.cons 2 rfl .nil) (gk_F 0 rfl gk_nil) ?_
          refine sxb_done (by kernel_rfl) ?_
          refine sxq_np ?_ (by intro c h; cases h)
          exact sxq_meetP ((x168, x165), (a169, c170, a166, c167)) (hB := (.cons 0 rfl (.cons 0 rfl (.cons 0 rfl .nil)))) (hR := (.cons 0 rfl (.cons 0 rfl .nil))) (hF := (fk_cons 0 rfl fk_nil))
        · refine sxo_meq (m' := ((mk 17592186044416 (0 : Int) (x1.length : Int)).bind fun x171 => M_graph_Degrees_j1 F x1 x171 x165)) (rfl) ?_
          refine sxo_storeB (i := 1) rfl rfl rfl tf25 rfl rfl rfl rfl rfl ?_
          refine sxo_nil ?_
          refine sxq_anyB (.cons 2 rfl .nil) (gk_F 0 rfl gk_nil) ?_
          refine sxb_step 7 rfl (by kernel_rfl) rfl ?_
          refine sxo_mk (eI_ok .i64) rfl Try.underlying25 tf3 rfl rfl rfl rfl rfl rfl rfl (fun x171 e171 a172 c173 => ?_)
          refine sxo_nil ?_
          refine sxq_anyB (.cons 2 rfl .nil) (gk_F 0 rfl gk_nil) ?_
          refine sxb_step 9 rfl (by kernel_rfl) rfl ?_
          refine sxo_storeB (i := 0) rfl rfl rfl tf25 rfl rfl rfl rfl rfl ?_
          refine sxo_nil ?_
          refine sxq_anyB (.cons 2 rfl .nil) (gk_F 0 rfl gk_nil) ?_
          refine sxb_done (by kernel_rfl) ?_
          refine sxq_np ?_ (by intro c h; cases h)
          exact sxq_meetP ((x171, x165), (a172, c173, a166, c167)) (hB := (.cons 0 rfl (.cons 0 rfl (.cons 0 rfl .nil)))) (hR := (.cons 0 rfl (.cons 0 rfl .nil))) (hF := (fk_cons 0 rfl fk_nil))
      · refine sxo_meq (m' := ((mk 17592186044416 (0 : Int) (x1.length : Int)).bind fun x174 => ((mk 17592186044416 (0 : Int) (x1.length : Int)).bind fun x177 => M_graph_Degrees_j1 F x1 x174 x177))) (by show ((mk 17592186044416 (0 : Int) (x1.length : Int)).bind fun x165 => ((mk 17592186044416 (0 : Int) (x1.length : Int)).bind fun x168 => M_graph_Degrees_j1 F x1 x168 x165)) = _; generalize (mk 17592186044416 (0 : Int) (x1.length : Int)) = q0; cases q0 <;> rfl) ?_
        refine sxo_mk (eI_ok .i64) rfl Try.underlying25 tf3 rfl rfl rfl rfl rfl rfl rfl (fun x174 e174 a175 c176 => ?_)
        refine sxo_nil ?_
        refine sxq_anyB (.cons 2 rfl .nil) (gk_F 0 rfl gk_nil) ?_
        refine sxb_step 3 rfl (by kernel_rfl) rfl ?_
        refine sxo_mk (eI_ok .i64) rfl Try.underlying25 tf3 rfl rfl rfl rfl rfl rfl rfl (fun x177 e177 a178 c179 => ?_)
        refine sxo_nil ?_
        refine sxq_anyB (.cons 2 rfl .nil) (gk_F 0 rfl gk_nil) ?_
        refine sxb_step 8 rfl (by kernel_rfl) rfl ?_
        refine sxo_storeB (i := 1) rfl rfl rfl tf25 rfl rfl rfl rfl rfl ?_
        refine sxo_nil ?_
        refine sxq_anyB (.cons 2 rfl .nil) (gk_F 0 rfl gk_nil) ?_
        refine sxb_step 9 rfl (by kernel_rfl) rfl ?_
        refine sxo_storeB (i := 0) rfl rfl rfl tf25 rfl rfl rfl rfl rfl ?_
        refine sxo_nil ?_
        refine sxq_anyB (.cons 2 rfl .nil) (gk_F 0 rfl gk_nil) ?_
        refine sxb_done (by kernel_rfl) ?_
        refine sxq_np ?_ (by intro c h; cases h)
        exact sxq_meetP ((x174, x177), (a175, c176, a178, c179)) (hB := (.cons 0 rfl (.cons 0 rfl (.cons 0 rfl .nil)))) (hR := (.cons 1 rfl (.cons 0 rfl .nil))) (hF := (fk_cons 0 rfl fk_nil))
    · rintro ⟨⟨x27, x30⟩, ⟨a25, c26, a28, c29⟩⟩
      try dsimp only
      refine sxc_seq ?_
      refine sxc_seq ?_
      refine sxc_region ?_
      refine sxo_loadB (i := 2) rfl rfl tf24 rfl rfl (by simp) rfl rfl ?_
      refine sxo_callM ent39 rfl rfl rfl (fun x98 e98 => C_graph_All F x1 a2 c3 x98 e98) .nil .nil (.consF 0 rfl .nil) (fun x98 e98 => ?_)
      rintro g99
      refine sxo_nil ?_
      refine sxq_next ?_
      refine sxc_block ?_
      refine sxc_range (encs := (fun (p : (Int × Int)) => [.agg #[.int .i64 p.1, .int .i64 p.2]])) (y := (fun ((x121, x122) : (List Int × List Int)) ((x144, x145) : (Int × Int)) => M_graph_Degrees_r3 F x121 x122 x144 x145)) (lb := [.pointer (some ⟨g99, 0, none⟩)]) (fun ((x121, x122) : (List Int × List Int)) (_ : Unit) => [⟨g6, 25, [.slice a25 x121.length c26]⟩, ⟨g5, 25, [.slice a28 x122.length c29]⟩, ⟨g4, 24, [.slice a2 x1.length c3.1]⟩]) (fun ((x121, x122) : (List Int × List Int)) (_ : Unit) => [Ro (eI .i64) 3 1 (.slice a25 x121.length c26) x121, Ro (eI .i64) 3 1 (.slice a28 x122.length c29) x122]) (fun (_ : Empty) (_ : Unit) => []) (fun (_ : Empty) (_ : Unit) => []) (fun _ => .skip) (x27, x30) () rfl ent65 (fun _ => rfl) rfl (.cons 0 rfl .nil) (.cons 0 rfl (.cons 0 rfl (.cons 0 rfl .nil))) (.cons 0 rfl (.cons 0 rfl .nil)) (.consF 0 rfl .nil) (fun z hz _ _ _ hY => C_graph_All_1 F hY (x27, x30) () g99 x1 a2 c3 z hz) ?_ ?_ ?_
      · rintro rc1 L1 D1 ⟨x121, x122⟩ _ ⟨x144, x145⟩ z w M _
        try dsimp only
        refine sxc_less [(1, .pointer (some ⟨g4, 0, none⟩)), (2, .pointer (some ⟨g5, 0, none⟩)), (3, .pointer (some ⟨g6, 0, none⟩)), (4, .int .i64 0), (20, .agg #[.slice a2 x1.length c3.1]), (21, .func (.func 65) #[] #[.pointer (some ⟨g99, 0, none⟩)]), (22, .agg #[.int .i64 x144, .int .i64 x145])] (lk_cons rfl (lk_cons rfl (lk_cons rfl (lk_cons rfl (lk_cons rfl (lk_cons rfl (lk_cons rfl lk_nil))))))) ?_
        refine sxc_region ?_
        refine sxo_alloc rfl tf48 rfl (fun g146 => ?_)
        refine sxo_storeB (i := 0) rfl rfl rfl tf48 rfl rfl rfl rfl rfl ?_
        refine sxo_nil ?_
        refine sxq_begin (i := 4) rfl ?_
        refine sxc_block ?_
        refine sxc_seq ?_
        refine sxc_region ?_
        refine sxo_loadB (i := 2) rfl rfl tf25 rfl rfl (fun _ => rfl) rfl rfl ?_
        refine sxo_fieldAddr rfl rfl ff48_0 rfl ?_
        refine sxo_loadB (i := 0) rfl rfl tf3 rfl rfl (fun _ => rfl) rfl rfl ?_
        refine sxo_indexR (j := 1) rfl Try.underlying25 tf3 rfl rfl rfl rfl (fun x147 e147 g148 h149 => ?_)
        refine sxo_loadR (j := 1) (y := x147) (eI_ok .i64) rfl rfl tf3 rfl h149 (idx_get e147).2.2 (fun _ => rfl) rfl rfl ?_
        refine sxo_add rfl rfl rfl rfl ?_
        refine sxo_indexR (j := 1) rfl Try.underlying25 tf3 rfl rfl rfl rfl (fun x150 e150 g151 h152 => ?_)
        refine sxo_storeL (j := 1) (y' := iadd .i64 x147 1) (eI_ok .i64) rfl rfl rfl tf3 rfl h152 (idx_get e150).2.1 rfl (fun x153 e153 h154 => ?_)
        have h155 : x153.length = x122.length := by rw [← e153, List.length_set]
        refine sxo_again (d := 23) (v := .slice a28 x153.length c29) rfl h154 ?_
        refine sxo_blkAgain (i := 2) (cs' := [.slice a28 x153.length c29]) rfl (by rw [h154] <;> rfl) ?_
        refine sxo_nil ?_
        refine sxq_next ?_
        refine sxc_region ?_
        refine sxo_loadB (i := 1) rfl rfl tf25 rfl rfl (fun _ => rfl) rfl rfl ?_
        refine sxo_fieldAddr rfl rfl ff48_1 rfl ?_
        refine sxo_loadB (i := 0) rfl rfl tf3 rfl rfl (fun _ => rfl) rfl rfl ?_
        refine sxo_indexR (j := 1) rfl Try.underlying25 tf3 rfl rfl rfl rfl (fun x156 e156 g157 h158 => ?_)
        refine sxo_loadR (j := 1) (y := x156) (eI_ok .i64) rfl rfl tf3 rfl h158 (idx_get e156).2.2 (fun _ => rfl) rfl rfl ?_
        refine sxo_add rfl rfl rfl rfl ?_
        refine sxo_indexR (j := 1) rfl Try.underlying25 tf3 rfl rfl rfl rfl (fun x159 e159 g160 h161 => ?_)
        refine sxo_storeL (j := 1) (y' := iadd .i64 x156 1) (eI_ok .i64) rfl rfl rfl tf3 rfl h161 (idx_get e159).2.1 rfl (fun x162 e162 h163 => ?_)
        have h164 : x162.length = x121.length := by rw [← e162, List.length_set]
        refine sxo_again (d := 30) (v := .slice a25 x162.length c26) rfl h163 ?_
        refine sxo_blkAgain (i := 1) (cs' := [.slice a25 x162.length c26]) rfl (by rw [h163] <;> rfl) ?_
        refine sxo_nil ?_
        refine sxq_blkN ?_
        exact sxq_round (rc := rc1) rfl (.cons 4 rfl .nil) rfl () (.cons 2 rfl (.cons 2 rfl (.cons 2 rfl (.cons 0 rfl (.cons 1 rfl .nil))))) (.cons 0 rfl (.cons 0 rfl .nil))
      · rintro ⟨x121, x122⟩ _ _ D1
        try dsimp only
        refine sxq_blkN ?_
        refine sxq_next ?_
        refine sxc_seq ?_
        refine sxb_draw mixed [] [(dblk D1), ⟨g99, 24, [.slice a2 x1.length c3.1]⟩, ⟨g6, 25, [.slice a25 x121.length c26]⟩, ⟨g5, 25, [.slice a28 x122.length c29]⟩, ⟨g4, 24, [.slice a2 x1.length c3.1]⟩] [SlN eN25 iN25 1 (.slice a2 x1.length c3.1) x1 c3.2] (.cons 0 rfl (.cons 0 rfl (.cons 0 rfl (.cons 0 rfl (.cons 0 rfl .nil))))) (gk_F 0 rfl gk_nil) 5 rfl ?_
        refine sxb_takeB 0 (.slice a28 x122.length c29) rfl rfl rfl (yv_loadB (i := 3) rfl tf25 rfl rfl (fun _ => rfl) rfl) ?_
        refine sxb_takeB 1 (.slice a25 x121.length c26) rfl rfl rfl (yv_loadB (i := 2) rfl tf25 rfl rfl (fun _ => rfl) rfl) ?_
        refine sxb_step 2 rfl (by kernel_rfl) rfl ?_
        refine sxo_storeB (i := 3) rfl rfl rfl tf25 rfl rfl rfl rfl rfl ?_
        refine sxo_nil ?_
        refine sxq_anyB (.cons 0 rfl (.cons 0 rfl (.cons 0 rfl (.cons 0 rfl (.cons 0 rfl .nil))))) (gk_F 0 rfl gk_nil) ?_
        refine sxb_step 3 rfl (by kernel_rfl) rfl ?_
        refine sxo_storeB (i := 2) rfl rfl rfl tf25 rfl rfl rfl rfl rfl ?_
        refine sxo_nil ?_
        refine sxq_anyB (.cons 0 rfl (.cons 0 rfl (.cons 0 rfl (.cons 0 rfl (.cons 0 rfl .nil))))) (gk_F 0 rfl gk_nil) ?_
        refine sxb_takeP 4 (.int .i64 0) rfl rfl rfl (yv_pv rfl) ?_
        refine sxb_done (by kernel_rfl) ?_
        refine sxq_np ?_ (by intro c h; cases h)
        refine sxq_next ?_
        refine sxc_ret ?_
        exact sxq_doneX [D1] ((a28, c29), (a25, c26)) (.inl rfl) rfl (.cons 0 rfl .nil) (resL (rs := [.cell 2 25, .cell 3 25, .tmp 4]) rfl (.cell (i := 2) rfl tf25 rfl rfl (fun _ => rfl) rfl (.cell (i := 1) rfl tf25 rfl rfl (fun _ => rfl) rfl (.tmp rfl ResOk.nil))) rfl) (fun h => by subst h; rfl) (fun h => by subst h; exact .nil) (fun h => by subst h; exact (.cons 1 rfl (.cons 0 rfl .nil)))
      · intro t; exact t.elim

set_option maxHeartbeats 4000000 in
theorem C_strong_Order (F : Nat) (x1 : List (List Int)) (a2 : Option Addr) (c3 : (Nat × List (Option Addr × Nat))) (r : (List Int × Int)) (hm : M_strong_Order F x1 = some r) :
    Pure Try.prog 12 [.agg #[.slice a2 x1.length c3.1]] [SlN eN25 iN25 1 (.slice a2 x1.length c3.1) x1 c3.2] (Option Addr × Nat) (fun g => .tuple #[.slice g.1 r.1.length g.2, .int .i64 r.2]) (fun g => [Ro (eI .i64) 3 1 (.slice g.1 r.1.length g.2) r.1]) (fun _ => []) := by
  refine pure_of Try.func12 rfl Try.ntmps12 rfl hm (fun w => ?_)
  refine sxc_env (l' := [(0, .agg #[.slice a2 x1.length c3.1])]) rfl ?_
  refine sxc_seq ?_
  refine sxc_region ?_
  refine sxo_box rfl rfl rfl (fun g4 => ?_)
  refine sxo_assign rfl rfl rfl ?_
  refine sxo_assign rfl rfl rfl ?_
  refine sxo_nil ?_
  refine sxq_next ?_
  refine sxc_seq ?_
  refine sxc_region ?_
  refine sxo_loadB (i := 0) rfl rfl tf24 rfl rfl (by simp) rfl rfl ?_
  refine sxo_callM ent33 rfl rfl rfl (fun x5 e5 => C_graph_Degrees F x1 a2 c3 x5 e5) .nil .nil (.consF 0 rfl .nil) (fun x5 e5 => ?_)
  rintro ⟨⟨a6, c7⟩, ⟨a8, c9⟩⟩
  refine sxo_move rfl rfl rfl ?_
  refine sxo_extract rfl rfl rfl rfl ?_
  refine sxo_extract rfl rfl rfl rfl ?_
  refine sxo_extract rfl rfl rfl rfl ?_
  refine sxo_assign rfl rfl rfl ?_
  refine sxo_assign rfl rfl rfl ?_
  refine sxo_assign rfl rfl rfl ?_
  refine sxo_nil ?_
  refine sxq_next ?_
  refine sxc_seq ?_
  refine sxc_seq ?_
  refine sxc_region ?_
  refine sxo_move rfl rfl rfl ?_
  refine sxo_neq rfl rfl rfl rfl ?_
  refine sxo_nil ?_
  refine sxq_next ?_
  refine sxc_if rfl (fun h1148 => ?_) (fun h1148 => ?_)
  · refine sxc_seq ?_
    refine sxc_region ?_
    refine sxo_move rfl rfl rfl ?_
    refine sxo_assign rfl rfl rfl ?_
    refine sxo_assign rfl rfl rfl ?_
    refine sxo_nil ?_
    refine sxq_next ?_
    refine sxc_ret ?_
    refine sxq_thenR ?_
    refine sxq_nilrow Int (eI .i64) 3 1 ?_
    exact sxq_doneP (none, 0) (res2 rfl rfl rfl) (fun h => by subst h; exact (.cons 0 rfl .nil))
  · refine sxc_skip ?_
    refine sxq_next ?_
    refine sxc_seq ?_
    refine sxc_region ?_
    refine sxo_assign rfl rfl rfl ?_
    refine sxo_nil ?_
    refine sxq_next ?_
    refine sxc_join (fun ((x580, (a578, c579)) : (List Int × (Option Addr × Nat))) => [(7, .slice a578 x580.length c579)]) (fun ((x580, (a578, c579)) : (List Int × (Option Addr × Nat))) => []) (fun ((x580, (a578, c579)) : (List Int × (Option Addr × Nat))) => [Ro (eI .i64) 3 1 (.slice a578 x580.length c579) x580]) (fun ((x580, (a578, c579)) : (List Int × (Option Addr × Nat))) => []) (fun ((x580, _) : (List Int × (Option Addr × Nat))) => M_strong_Order_j11 F x580) ?_ ?_
    · refine sxc_block ?_
      refine sxc_nilrow Int (eI .i64) 3 1 ?_
      refine sxc_loopP (fun (((x769, x772), (a770, c771)) : ((List Int × List Int) × (Option Addr × Nat))) => [(1, .pointer (some ⟨g4, 0, none⟩)), (5, .slice a8 x769.length c9), (7, .slice a770 x772.length c771)]) (fun (((x769, x772), (a770, c771)) : ((List Int × List Int) × (Option Addr × Nat))) => [⟨g4, 24, [.slice a2 x1.length c3.1]⟩]) (fun (((x769, x772), (a770, c771)) : ((List Int × List Int) × (Option Addr × Nat))) => [Ro (eI .i64) 3 1 (.slice a8 x769.length c9) x769, Ro (eI .i64) 3 1 (.slice a770 x772.length c771) x772]) (fun (((x769, x772), (a770, c771)) : ((List Int × List Int) × (Option Addr × Nat))) => [SlN eN25 iN25 1 (.slice a2 x1.length c3.1) x1 c3.2]) (fun k (s : ((List Int × List Int) × (Option Addr × Nat))) => M_strong_Order_l18 F x1 k s.1) ((x5.2.1, ([] : List Int)), (none, 0)) F ?_ (hB := (.cons 0 rfl .nil)) (hR := (.cons 2 rfl (.cons 0 rfl .nil))) (hF := (fk_cons 0 rfl fk_nil))
      intro k960
      rintro ⟨⟨x769, x772⟩, ⟨a770, c771⟩⟩
      try dsimp only
      refine sxc_meq (m' := M_strong_Order_b18 F x1 (M_strong_Order_l18 F x1 k960) x769 x772) rfl ?_
      refine sxc_seq ?_
      refine sxc_seq ?_
      refine sxc_region ?_
      refine sxo_move rfl rfl rfl ?_
      refine sxo_len rfl Try.underlying25 rfl rfl ?_
      refine sxo_move rfl rfl rfl ?_
      refine sxo_len rfl Try.underlying25 rfl rfl ?_
      refine sxo_lss rfl rfl rfl rfl ?_
      refine sxo_nil ?_
      refine sxq_next ?_
      refine sxc_if rfl (fun h1147 => ?_) (fun h1147 => ?_)
      · refine sxc_skip ?_
        refine sxq_next ?_
        refine sxc_block ?_
        refine sxc_seq ?_
        refine sxc_region ?_
        refine sxo_move rfl rfl rfl ?_
        refine sxo_call ent34 rfl rfl rfl (fun x962 e962 => C_slices_Index_int_int F x769 a8 c9 0 x962 e962) (.consR 0 (Ro (eI .i64) 3 1 (.slice a8 x769.length c9) x769) rfl .nil) (fun x962 e962 => ?_)
        intro _
        refine sxo_assign rfl rfl rfl ?_
        refine sxo_nil ?_
        refine sxq_next ?_
        refine sxc_seq ?_
        refine sxc_seq ?_
        refine sxc_region ?_
        refine sxo_move rfl rfl rfl ?_
        refine sxo_lss rfl rfl rfl rfl ?_
        refine sxo_nil ?_
        refine sxq_next ?_
        refine sxc_if rfl (fun h1146 => ?_) (fun h1146 => ?_)
        · refine sxc_seq ?_
          refine sxc_region ?_
          refine sxo_assign rfl rfl rfl ?_
          refine sxo_assign rfl rfl rfl ?_
          refine sxo_nil ?_
          refine sxq_next ?_
          refine sxc_ret ?_
          refine sxq_thenR ?_
          refine sxq_blkR ?_
          refine sxq_thenR ?_
          refine sxq_blkR ?_
          refine sxq_thenR ?_
          refine sxq_nilrow Int (eI .i64) 3 1 ?_
          exact sxq_doneP (none, 0) (res2 rfl rfl rfl) (fun h => by subst h; exact (.cons 0 rfl .nil))
        · refine sxc_skip ?_
          refine sxq_next ?_
          refine sxc_seq ?_
          refine sxc_region ?_
          refine sxo_move rfl rfl rfl ?_
          refine sxo_move rfl rfl rfl ?_
          refine sxo_indexR (j := 0) rfl Try.underlying25 tf3 rfl rfl rfl rfl (fun x964 e964 g965 h966 => ?_)
          refine sxo_storeL (j := 0) (y' := -1) (eI_ok .i64) rfl rfl rfl tf3 rfl h966 (idx_get e964).2.1 rfl (fun x967 e967 h968 => ?_)
          have h969 : x967.length = x769.length := by rw [← e967, List.length_set]
          refine sxo_again (d := 5) (v := .slice a8 x967.length c9) rfl h968 ?_
          refine sxo_again (d := 22) (v := .slice a8 x967.length c9) rfl h968 ?_
          refine sxo_again (d := 25) (v := .slice a8 x967.length c9) rfl h968 ?_
          refine sxo_again (d := 29) (v := .slice a8 x967.length c9) rfl h968 ?_
          refine sxo_nil ?_
          refine sxq_next ?_
          refine sxc_join (fun ((x1055, _) : (List Int × Unit)) => [(1, .pointer (some ⟨g4, 0, none⟩)), (5, .slice a8 x1055.length c9), (7, .slice a770 x772.length c771), (8, .int .i64 x962)]) (fun ((x1055, _) : (List Int × Unit)) => [⟨g4, 24, [.slice a2 x1.length c3.1]⟩]) (fun ((x1055, _) : (List Int × Unit)) => [Ro (eI .i64) 3 1 (.slice a8 x1055.length c9) x1055, Ro (eI .i64) 3 1 (.slice a770 x772.length c771) x772]) (fun ((x1055, _) : (List Int × Unit)) => [SlN eN25 iN25 1 (.slice a2 x1.length c3.1) x1 c3.2]) (fun ((x1055, _) : (List Int × Unit)) => M_strong_Order_j20 F (M_strong_Order_l18 F x1 k960) x772 x962 x1055) ?_ ?_
          · refine sxc_seq ?_
            refine sxc_region ?_
            refine sxo_fieldAddr rfl rfl ff24_0 rfl ?_
            refine sxo_loadB (i := 0) rfl rfl tf22 rfl rfl (fun _ => rfl) rfl rfl ?_
            refine sxo_move rfl rfl rfl ?_
            refine sxo_indexN (j := 0) eN25_ok (by decide) rfl Try.underlying22 tf25 rfl rfl rfl rfl (fun x1061 e1061 g1064 b1062 o1063 => ?_)
            refine sxo_loadF (j := 0) rfl rfl tf25 rfl rfl (fun _ => rfl) rfl rfl ?_
            refine sxo_len rfl Try.underlying25 rfl rfl ?_
            refine sxo_move rfl rfl rfl ?_
            refine sxo_nil ?_
            refine sxq_next ?_
            refine sxc_block ?_
            refine sxc_loopP (fun (((x1091, x1092), _) : ((List Int × Int) × Unit)) => [(1, .pointer (some ⟨g4, 0, none⟩)), (5, .slice a8 x1091.length c9), (7, .slice a770 x772.length c771), (8, .int .i64 x962), (36, .slice g1064.1 x1061.length g1064.2), (37, .int .i64 (x1061.length : Int)), (38, .int .i64 x1092)]) (fun (((x1091, x1092), _) : ((List Int × Int) × Unit)) => [⟨g4, 24, [.slice a2 x1.length c3.1]⟩]) (fun (((x1091, x1092), _) : ((List Int × Int) × Unit)) => [Ro (eI .i64) 3 1 (.slice a8 x1091.length c9) x1091, Ro (eI .i64) 3 1 (.slice a770 x772.length c771) x772]) (fun (((x1091, x1092), _) : ((List Int × Int) × Unit)) => [Sl (eI .i64) 1 (.slice g1064.1 x1061.length g1064.2) x1061, SlN eN25 iN25 1 (.slice a2 x1.length c3.1) x1 c3.2]) (fun k (s : ((List Int × Int) × Unit)) => M_strong_Order_l21 F (M_strong_Order_l18 F x1 k960) x772 x962 x1061 k s.1) ((x967, 0), ()) F ?_ (hB := (.cons 0 rfl .nil)) (hR := (.cons 0 rfl (.cons 0 rfl .nil))) (hF := (fk_cons 1 rfl (fk_cons 2 rfl fk_nil)))
            intro k1119
            rintro ⟨⟨x1091, x1092⟩, _⟩
            try dsimp only
            refine sxc_meq (m' := M_strong_Order_b21 F (M_strong_Order_l18 F x1 k960) x772 x962 x1061 (M_strong_Order_l21 F (M_strong_Order_l18 F x1 k960) x772 x962 x1061 k1119) x1091 x1092) rfl ?_
            refine sxc_seq ?_
            refine sxc_region ?_
            refine sxo_lss rfl rfl rfl rfl ?_
            refine sxo_nil ?_
            refine sxq_next ?_
            refine sxc_seq ?_
            refine sxc_if rfl (fun h1145 => ?_) (fun h1145 => ?_)
            · refine sxc_skip ?_
              refine sxq_next ?_
              refine sxc_seq ?_
              refine sxc_block ?_
              refine sxc_seq ?_
              refine sxc_region ?_
              refine sxo_indexF (j := 0) (eI_ok .i64) (by decide) rfl Try.underlying25 tf3 rfl rfl rfl rfl (fun x1133 e1133 b1134 o1135 => ?_)
              refine sxo_loadF (j := 0) rfl rfl tf3 rfl rfl (fun _ => rfl) rfl rfl ?_
              refine sxo_assign rfl rfl rfl ?_
              refine sxo_nil ?_
              refine sxq_next ?_
              refine sxc_region ?_
              refine sxo_move rfl rfl rfl ?_
              refine sxo_move rfl rfl rfl ?_
              refine sxo_indexR (j := 0) rfl Try.underlying25 tf3 rfl rfl rfl rfl (fun x1136 e1136 g1137 h1138 => ?_)
              refine sxo_loadR (j := 0) (y := x1136) (eI_ok .i64) rfl rfl tf3 rfl h1138 (idx_get e1136).2.2 (fun _ => rfl) rfl rfl ?_
              refine sxo_sub rfl rfl rfl rfl ?_
              refine sxo_indexR (j := 0) rfl Try.underlying25 tf3 rfl rfl rfl rfl (fun x1139 e1139 g1140 h1141 => ?_)
              refine sxo_storeL (j := 0) (y' := isub .i64 x1136 1) (eI_ok .i64) rfl rfl rfl tf3 rfl h1141 (idx_get e1139).2.1 rfl (fun x1142 e1142 h1143 => ?_)
              have h1144 : x1142.length = x1091.length := by rw [← e1142, List.length_set]
              refine sxo_again (d := 5) (v := .slice a8 x1142.length c9) rfl h1143 ?_
              refine sxo_again (d := 42) (v := .slice a8 x1142.length c9) rfl h1143 ?_
              refine sxo_nil ?_
              refine sxq_blkN ?_
              refine sxq_next ?_
              refine sxc_region ?_
              refine sxo_add rfl rfl rfl rfl ?_
              refine sxo_move rfl rfl rfl ?_
              refine sxo_nil ?_
              exact sxq_againP ((x1142, iadd .i64 x1092 1), ()) (hB := (.cons 0 rfl .nil)) (hR := (.cons 0 rfl (.cons 0 rfl .nil))) (hF := (fk_cons 1 rfl (fk_cons 2 rfl fk_nil)))
            · refine sxc_exit ?_
              refine sxq_thenX ?_
              refine sxq_thenX ?_
              refine sxq_blkX ?_
              exact sxq_meetP (x1091, ()) (hB := (.cons 0 rfl .nil)) (hR := (.cons 0 rfl (.cons 0 rfl .nil))) (hF := (fk_cons 1 rfl fk_nil))
          · rintro ⟨x1055, _⟩
            try dsimp only
            refine sxc_region ?_
            refine sxo_move rfl rfl rfl ?_
            refine sxo_move rfl rfl rfl ?_
            refine sxo_slit (vs := [.int .i64 x962]) (ys := ([x962] : List Int)) (eI_ok .i64) (by decide) rfl Try.underlying25 tf3 rfl rfl rfl rfl rfl (by decide) (fun a1056 c1057 => ?_)
            refine sxo_app 2 (eI_ok .i64) rfl Try.underlying25 tf3 rfl rfl rfl rfl rfl (.inl ⟨0, _, rfl⟩) rfl rfl (fun x1058 e1058 a1059 c1060 => ?_)
            refine sxo_assign rfl rfl rfl ?_
            refine sxo_nil ?_
            refine sxq_blkN ?_
            exact sxq_againP ((x1055, x1058), (a1059, c1060)) (hB := (.cons 0 rfl .nil)) (hR := (.cons 2 rfl (.cons 0 rfl .nil))) (hF := (fk_cons 0 rfl fk_nil))
      · refine sxc_exit ?_
        refine sxq_thenX ?_
        refine sxq_thenX ?_
        refine sxq_blkX ?_
        exact sxq_meetP (x772, (a770, c771)) (hR := (.cons 1 rfl .nil))
    · rintro ⟨x580, ⟨a578, c579⟩⟩
      try dsimp only
      refine sxc_seq ?_
      refine sxc_region ?_
      refine sxo_move rfl rfl rfl ?_
      refine sxo_assign rfl rfl rfl ?_
      refine sxo_assign rfl rfl rfl ?_
      refine sxo_nil ?_
      refine sxq_next ?_
      refine sxc_ret ?_
      exact sxq_doneP (a578, c579) (res2 rfl rfl rfl) (fun h => by subst h; exact (.cons 0 rfl .nil))

theorem C_R_SameInts (F : Nat) (x1 : List Int) (a2 : Option Addr) (c3 : Nat) (x4 : List Int) (a5 : Option Addr) (c6 : Nat) (r : Bool) (hm : M_R_SameInts F x1 x4 = some r) :
    Pure Try.prog 19 [.slice a2 x1.length c3, .slice a5 x4.length c6] [Sl (eI .i64) 1 (.slice a2 x1.length c3) x1, Sl (eI .i64) 1 (.slice a5 x4.length c6) x4] Unit (fun _ => .bool r) (fun _ => []) (fun _ => []) := by
  refine pure_of Try.func19 rfl Try.ntmps19 rfl hm (fun w => ?_)
  refine sxc_env (l' := [(0, .slice a2 x1.length c3), (1, .slice a5 x4.length c6)]) rfl ?_
  refine sxc_seq ?_
  refine sxc_region ?_
  refine sxo_assign rfl rfl rfl ?_
  refine sxo_nil ?_
  refine sxq_next ?_
  refine sxc_seq ?_
  refine sxc_seq ?_
  refine sxc_region ?_
  refine sxo_move rfl rfl rfl ?_
  refine sxo_len rfl Try.underlying25 rfl rfl ?_
  refine sxo_move rfl rfl rfl ?_
  refine sxo_len rfl Try.underlying25 rfl rfl ?_
  refine sxo_neq rfl rfl rfl rfl ?_
  refine sxo_nil ?_
  refine sxq_next ?_
  refine sxc_if rfl (fun h228 => ?_) (fun h228 => ?_)
  · refine sxc_seq ?_
    refine sxc_region ?_
    refine sxo_assign rfl rfl rfl ?_
    refine sxo_nil ?_
    refine sxq_next ?_
    refine sxc_ret ?_
    refine sxq_thenR ?_
    exact sxq_doneP () (res1 rfl rfl)
  · refine sxc_skip ?_
    refine sxq_next ?_
    refine sxc_join (fun ((_, _) : (Unit × Unit)) => []) (fun ((_, _) : (Unit × Unit)) => []) (fun ((_, _) : (Unit × Unit)) => []) (fun ((_, _) : (Unit × Unit)) => []) (fun ((_, _) : (Unit × Unit)) => M_R_SameInts_j2 F) ?_ ?_
    · refine sxc_seq ?_
      refine sxc_region ?_
      refine sxo_assign rfl rfl rfl ?_
      refine sxo_nil ?_
      refine sxq_next ?_
      refine sxc_block ?_
      refine sxc_loopP (fun ((x154, _) : (Int × Unit)) => [(0, .slice a2 x1.length c3), (1, .slice a5 x4.length c6), (5, .int .i64 x154)]) (fun ((x154, _) : (Int × Unit)) => []) (fun ((x154, _) : (Int × Unit)) => []) (fun ((x154, _) : (Int × Unit)) => [Sl (eI .i64) 1 (.slice a2 x1.length c3) x1, Sl (eI .i64) 1 (.slice a5 x4.length c6) x4]) (fun k (s : (Int × Unit)) => M_R_SameInts_l3 F x1 x4 k s.1) (0, ()) F ?_ (hF := (fk_cons 0 rfl (fk_cons 1 rfl fk_nil)))
      intro k191
      rintro ⟨x154, _⟩
      try dsimp only
      refine sxc_meq (m' := M_R_SameInts_b3 F x1 x4 (M_R_SameInts_l3 F x1 x4 k191) x154) rfl ?_
      refine sxc_seq ?_
      refine sxc_seq ?_
      refine sxc_region ?_
      refine sxo_move rfl rfl rfl ?_
      refine sxo_move rfl rfl rfl ?_
      refine sxo_len rfl Try.underlying25 rfl rfl ?_
      refine sxo_lss rfl rfl rfl rfl ?_
      refine sxo_nil ?_
      refine sxq_next ?_
      refine sxc_if rfl (fun h227 => ?_) (fun h227 => ?_)
      · refine sxc_skip ?_
        refine sxq_next ?_
        refine sxc_seq ?_
        refine sxc_block ?_
        refine sxc_seq ?_
        refine sxc_idxF (j := 0) (eI_ok .i64) (by decide) rfl (fun x218 e218 b219 o220 h221 => ?_)
        replace h221 : a2 = some ⟨b219, o220, none⟩ := h221
        refine sxc_idxF (j := 2) (eI_ok .i64) (by decide) rfl (fun x222 e222 b223 o224 h225 => ?_)
        replace h225 : a5 = some ⟨b223, o224, none⟩ := h225
        refine sxb_draw mixed [] [] [CellsAt b223 (o224 + x154.toNat * 1) ((eI .i64) x222), CellsAt b219 (o220 + x154.toNat * 1) ((eI .i64) x218), Sl (eI .i64) 1 (.slice a2 x1.length c3) x1, Sl (eI .i64) 1 (.slice a5 x4.length c6) x4] .nil (gk_F 0 rfl (gk_F 1 rfl (gk_F 2 rfl (gk_F 3 rfl gk_nil)))) 9 rfl ?_
        refine sxb_takeP 0 (.slice a2 x1.length c3) rfl rfl rfl (yv_pv rfl) ?_
        refine sxb_takeP 1 (.int .i64 x154) rfl rfl rfl (yv_pv rfl) ?_
        refine sxb_again (d := 17) (v := .slice (some ⟨b219, o220, none⟩) x1.length c3) rfl (by rw [h221] <;> rfl) ?_
        refine sxb_takeP 2 (.pointer (some ⟨b219, (o220 + x154.toNat * 1), none⟩)) rfl rfl rfl (yv_idx Try.underlying25 tf3 rfl rfl (idx_get e218).1 (idx_lt e218)) ?_
        refine sxb_again (d := 17) (v := .slice a2 x1.length c3) rfl (by rw [h221] <;> rfl) ?_
        refine sxb_take 3 (.int .i64 x218) [] rfl rfl rfl (yv_loadF (j := 1) rfl tf3 rfl rfl (fun _ => rfl) rfl) ?_
        refine sxb_takeP 4 (.slice a5 x4.length c6) rfl rfl rfl (yv_pv rfl) ?_
        refine sxb_takeP 5 (.int .i64 x154) rfl rfl rfl (yv_pv rfl) ?_
        refine sxb_again (d := 21) (v := .slice (some ⟨b223, o224, none⟩) x4.length c6) rfl (by rw [h225] <;> rfl) ?_
        refine sxb_takeP 6 (.pointer (some ⟨b223, (o224 + x154.toNat * 1), none⟩)) rfl rfl rfl (yv_idx Try.underlying25 tf3 rfl rfl (idx_get e222).1 (idx_lt e222)) ?_
        refine sxb_again (d := 21) (v := .slice a5 x4.length c6) rfl (by rw [h225] <;> rfl) ?_
        refine sxb_take 7 (.int .i64 x222) [] rfl rfl rfl (yv_loadF (j := 0) rfl tf3 rfl rfl (fun _ => rfl) rfl) ?_
        refine sxb_takeP 8 (.bool ((x218 : Int) != x222)) rfl rfl rfl (yv_pv rfl) ?_
        refine sxb_done (by kernel_rfl) ?_
        refine sxq_np ?_ (by intro c h; cases h)
        refine sxq_next ?_
        refine sxc_if rfl (fun h226 => ?_) (fun h226 => ?_)
        · refine sxc_seq ?_
          refine sxc_region ?_
          refine sxo_assign rfl rfl rfl ?_
          refine sxo_nil ?_
          refine sxq_next ?_
          refine sxc_ret ?_
          refine sxq_blkR ?_
          refine sxq_thenR ?_
          refine sxq_thenR ?_
          refine sxq_blkR ?_
          refine sxq_thenR ?_
          exact sxq_doneP () (res1 rfl rfl)
        · refine sxc_skip ?_
          refine sxq_blkN ?_
          refine sxq_next ?_
          refine sxc_region ?_
          refine sxo_move rfl rfl rfl ?_
          refine sxo_add rfl rfl rfl rfl ?_
          refine sxo_assign rfl rfl rfl ?_
          refine sxo_nil ?_
          exact sxq_againP (iadd .i64 x154 1, ()) (hF := (fk_cons 2 rfl (fk_cons 3 rfl fk_nil)))
      · refine sxc_exit ?_
        refine sxq_thenX ?_
        refine sxq_thenX ?_
        refine sxq_blkX ?_
        exact sxq_meetP ((), ())
    · rintro ⟨_, _⟩
      try dsimp only
      refine sxc_seq ?_
      refine sxc_region ?_
      refine sxo_assign rfl rfl rfl ?_
      refine sxo_nil ?_
      refine sxq_next ?_
      refine sxc_ret ?_
      exact sxq_doneP () (res1 rfl rfl)

theorem C_L_someGraph (F : Nat)  (r : List (List Int)) (hm : M_L_someGraph F  = some r) :
    Pure Try.prog 42 [] [] (Option Addr × (Nat × List (Option Addr × Nat))) (fun g => .agg #[.slice g.1 r.length g.2.1]) (fun g => [RoN eN25 rN25 25 1 (.slice g.1 r.length g.2.1) r g.2.2 []]) (fun _ => []) := by
  refine pure_of Try.func42 rfl Try.ntmps42 rfl hm (fun w => ?_)
  refine sxc_env (l' := []) rfl ?_
  refine sxc_seq ?_
  refine sxc_region ?_
  refine sxo_alloc rfl tf24 rfl (fun g1 => ?_)
  refine sxo_nil ?_
  refine sxq_next ?_
  refine sxc_seq ?_
  refine sxc_region ?_
  refine sxo_slit (vs := [.int .i64 1, .int .i64 2, .int .i64 3, .int .i64 5]) (ys := ([1, 2, 3, 5] : List Int)) (eI_ok .i64) (by decide) rfl Try.underlying25 tf3 rfl rfl rfl rfl rfl (by decide) (fun a2 c3 => ?_)
  refine sxo_slit (vs := [.int .i64 1, .int .i64 2, .int .i64 3, .int .i64 5]) (ys := ([1, 2, 3, 5] : List Int)) (eI_ok .i64) (by decide) rfl Try.underlying25 tf3 rfl rfl rfl rfl rfl (by decide) (fun a4 c5 => ?_)
  refine sxo_slit (vs := [.int .i64 0, .int .i64 1, .int .i64 2, .int .i64 3, .int .i64 5]) (ys := ([0, 1, 2, 3, 5] : List Int)) (eI_ok .i64) (by decide) rfl Try.underlying25 tf3 rfl rfl rfl rfl rfl (by decide) (fun a6 c7 => ?_)
  refine sxo_slit (vs := [.int .i64 4]) (ys := ([4] : List Int)) (eI_ok .i64) (by decide) rfl Try.underlying25 tf3 rfl rfl rfl rfl rfl (by decide) (fun a8 c9 => ?_)
  refine sxo_slit (vs := [.int .i64 1, .int .i64 2, .int .i64 3]) (ys := ([1, 2, 3] : List Int)) (eI_ok .i64) (by decide) rfl Try.underlying25 tf3 rfl rfl rfl rfl rfl (by decide) (fun a10 c11 => ?_)
  refine sxo_nilrow' Int (eI .i64) 3 1 ?_
  refine sxo_slit (vs := [.slice a2 ([1, 2, 3, 5] : List Int).length c3, .slice a4 ([1, 2, 3, 5] : List Int).length c5, .slice a6 ([0, 1, 2, 3, 5] : List Int).length c7, .slice none ([] : List Int).length 0, .slice a8 ([4] : List Int).length c9, .slice a10 ([1, 2, 3] : List Int).length c11]) (ys := ([(([1, 2, 3, 5] : List Int), (a2, c3)), (([1, 2, 3, 5] : List Int), (a4, c5)), (([0, 1, 2, 3, 5] : List Int), (a6, c7)), (([] : List Int), (none, 0)), (([4] : List Int), (a8, c9)), (([1, 2, 3] : List Int), (a10, c11))] : List (List Int × (Option Addr × Nat)))) eN25_ok (by decide) rfl Try.underlying22 tf25 rfl rfl rfl rfl rfl (by decide) (fun a12 c13 => ?_)
  refine sxo_nestOf (rin := rN25) (i := 0) ([([1, 2, 3, 5] : List Int), ([1, 2, 3, 5] : List Int), ([0, 1, 2, 3, 5] : List Int), ([] : List Int), ([4] : List Int), ([1, 2, 3] : List Int)] : List (List Int)) ([(a2, c3), (a4, c5), (a6, c7), (none, 0), (a8, c9), (a10, c11)] : List (Option Addr × Nat)) rfl rfl (.cons 5 rfl (.cons 4 rfl (.cons 3 rfl (.cons 0 rfl (.cons 1 rfl (.cons 0 rfl .nil)))))) ?_
  refine sxo_build (cells := [.slice a12 ([([1, 2, 3, 5] : List Int), ([1, 2, 3, 5] : List Int), ([0, 1, 2, 3, 5] : List Int), ([] : List Int), ([4] : List Int), ([1, 2, 3] : List Int)] : List (List Int)).length c13]) rfl st24 rfl (by kernel_rfl) rfl ?_
  refine sxo_storeB (i := 0) rfl rfl rfl tf24 rfl rfl rfl rfl rfl ?_
  refine sxo_nil ?_
  refine sxq_next ?_
  refine sxc_ret ?_
  exact sxq_doneP (a12, (c13, ([(a2, c3), (a4, c5), (a6, c7), (none, 0), (a8, c9), (a10, c11)] : List (Option Addr × Nat)))) (resL (rs := [.cell 0 24]) rfl (.cell (i := 0) rfl tf24 rfl rfl (by simp) rfl ResOk.nil) rfl) (fun h => by subst h; exact (.cons 0 rfl .nil))
end Go.Proofs.Ytefoeebfidklgaa
