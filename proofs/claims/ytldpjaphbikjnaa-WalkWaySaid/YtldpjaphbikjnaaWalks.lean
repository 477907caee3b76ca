/- Each Go function of this seat computes what its model says. -/
import Derived.Test.YtldpjaphbikjnaaRows
import Derived.Test.YtldpjaphbikjnaaModels
import Derived.Test.YtldpjaphbikjnaaShelf
namespace Go.Proofs.Ytldpjaphbikjnaa
open Go SX
def eN25 (p : List Int × (Option Addr × Nat)) : List Value := [.slice p.2.1 p.1.length p.2.2]
def iN25 (p : List Int × (Option Addr × Nat)) : List (World → Prop) := [Sl (eI .i64) 1 (.slice p.2.1 p.1.length p.2.2) p.1]
theorem eN25_ok : EncOk eN25 1 := ⟨fun _ => rfl, fun _ => rfl⟩
def rN25 (p : List Int × (Option Addr × Nat)) : List RowF := [FoR (eI .i64) 3 1 (.slice p.2.1 p.1.length p.2.2) p.1]
theorem rN25_in : ∀ p, iN25 p = (rN25 p).map RowF.cells := fun _ => rfl
theorem rN25_nil : ∀ f ∈ rN25 (([] : List Int), ((none, 0) : Option Addr × Nat)), f.v = .slice none 0 0 ∧ f.n = 0 ∧ f.cs = [] := by simp [rN25, FoR]
def eS51 (p : (Int × Int)) : List Value := [.int .i64 p.1, .int .i64 p.2]
theorem eS51_ok : EncOk eS51 2 := ⟨fun _ => rfl, fun _ => rfl⟩
theorem tf3 : TyF Try.prog 3 false (.int .i64 0) 1 8 := .of (by kernel_rfl) (by kernel_rfl)
theorem tf22 : TyF Try.prog 22 false (.slice none 0 0) 1 24 := .of (by kernel_rfl) (by kernel_rfl)
theorem tf24 : TyF Try.prog 24 true (.agg #[.slice none 0 0]) 1 24 := .of (by kernel_rfl) (by kernel_rfl)
theorem tf25 : TyF Try.prog 25 false (.slice none 0 0) 1 24 := .of (by kernel_rfl) (by kernel_rfl)
theorem tf45 : TyF Try.prog 45 false (.slice none 0 0) 1 24 := .of (by kernel_rfl) (by kernel_rfl)
theorem tf51 : TyF Try.prog 51 true (.agg #[.int .i64 0, .int .i64 0]) 2 16 := .of (by kernel_rfl) (by kernel_rfl)
theorem tf57 : TyF Try.prog 57 false (.nilFunc) 1 8 := .of (by kernel_rfl) (by kernel_rfl)
theorem ff24_0 : FdF Try.prog 24 0 0 := .of (by kernel_rfl)
theorem ff51_0 : FdF Try.prog 51 0 0 := .of (by kernel_rfl)
theorem ff51_1 : FdF Try.prog 51 1 1 := .of (by kernel_rfl)
theorem st24 : StF Try.prog 24 [(0, 1)] (.agg #[.slice none 0 0]) := .of (by kernel_rfl) (by kernel_rfl)
theorem st51 : StF Try.prog 51 [(0, 1), (1, 1)] (.agg #[.int .i64 0, .int .i64 0]) := .of (by kernel_rfl) (by kernel_rfl)
theorem mixed : Try.prog.follows .mixedOrders = true := by kernel_rfl
theorem ent10 : Enters Try.prog 10 := enters_of Try.func10 rfl rfl
theorem ent11 : Enters Try.prog 11 := enters_of Try.func11 rfl rfl
theorem ent12 : Enters Try.prog 12 := enters_of Try.func12 rfl rfl
theorem ent13 : Enters Try.prog 13 := enters_of Try.func13 rfl rfl
theorem ent18 : Enters Try.prog 18 := enters_of Try.func18 rfl rfl
theorem ent19 : Enters Try.prog 19 := enters_of Try.func19 rfl rfl
theorem ent20 : Enters Try.prog 20 := enters_of Try.func20 rfl rfl
theorem ent21 : Enters Try.prog 21 := enters_of Try.func21 rfl rfl
theorem ent24 : Enters Try.prog 24 := enters_of Try.func24 rfl rfl
theorem ent27 : Enters Try.prog 27 := enters_of Try.func27 rfl rfl
theorem ent28 : Enters Try.prog 28 := enters_of Try.func28 rfl rfl
theorem ent29 : Enters Try.prog 29 := enters_of Try.func29 rfl rfl
theorem ent30 : Enters Try.prog 30 := enters_of Try.func30 rfl rfl
theorem ent31 : Enters Try.prog 31 := enters_of Try.func31 rfl rfl
theorem ent32 : Enters Try.prog 32 := enters_of Try.func32 rfl rfl
theorem ent33 : Enters Try.prog 33 := enters_of Try.func33 rfl rfl
theorem ent35 : Enters Try.prog 35 := enters_of Try.func35 rfl rfl
theorem ent36 : Enters Try.prog 36 := enters_of Try.func36 rfl rfl
theorem ent37 : Enters Try.prog 37 := enters_of Try.func37 rfl rfl
theorem ent38 : Enters Try.prog 38 := enters_of Try.func38 rfl rfl
theorem ent39 : Enters Try.prog 39 := enters_of Try.func39 rfl rfl
theorem ent40 : Enters Try.prog 40 := enters_of Try.func40 rfl rfl
theorem ent41 : Enters Try.prog 41 := enters_of Try.func41 rfl rfl
theorem ent42 : Enters Try.prog 42 := enters_of Try.func42 rfl rfl
theorem ent46 : Enters Try.prog 46 := enters_of Try.func46 rfl rfl
theorem ent48 : Enters Try.prog 48 := enters_of Try.func48 rfl rfl
theorem ent49 : Enters Try.prog 49 := enters_of Try.func49 rfl rfl
theorem ent50 : Enters Try.prog 50 := enters_of Try.func50 rfl rfl
theorem ent51 : Enters Try.prog 51 := enters_of Try.func51 rfl rfl
theorem ent52 : Enters Try.prog 52 := enters_of Try.func52 rfl rfl
theorem ent53 : Enters Try.prog 53 := enters_of Try.func53 rfl rfl
theorem ent54 : Enters Try.prog 54 := enters_of Try.func54 rfl rfl
theorem ent55 : Enters Try.prog 55 := enters_of Try.func55 rfl rfl
theorem ent58 : Enters Try.prog 58 := enters_of Try.func58 rfl rfl
theorem ent59 : Enters Try.prog 59 := enters_of Try.func59 rfl rfl
theorem ent71 : Enters Try.prog 71 := enters_of Try.func71 rfl rfl
theorem sby46_41 (cb : Array Value) : SortsBy Try.prog 46 41 2 (fun l => .agg l.toArray) cb :=
  sortsBy_K fun _ _ enc hk h1 cf hO blk cap d w hc hH hb hsz hT => Go.Proofs.AnyQ.slices_SortFunc_total Try.sortf46 2 tf51.run_isAgg tf51.run_size enc hk h1 cf hO 41 cb blk 0 cap d w ent41 hc hH hb hsz hT

set_option maxHeartbeats 4000000 in
theorem C_graph_Check (F : Nat) (x1 : List (List Int)) (a2 : Option Addr) (c3 : (Nat × List (Option Addr × Nat))) (r : Int) (hm : M_graph_Check F x1 = some r) :
    Pure Try.prog 36 [.agg #[.slice a2 x1.length c3.1]] [SlN eN25 iN25 1 (.slice a2 x1.length c3.1) x1 c3.2] Unit (fun _ => .int .i64 r) (fun _ => []) (fun _ => []) := by
  refine pure_of Try.func36 rfl Try.ntmps36 rfl hm (fun w => ?_)
  refine sxc_env (l' := [(0, .agg #[.slice a2 x1.length c3.1])]) rfl ?_
  refine sxc_seq ?_
  refine sxc_region ?_
  refine sxo_box rfl rfl rfl (fun g4 => ?_)
  refine sxo_assign rfl rfl rfl ?_
  refine sxo_nil ?_
  refine sxq_next ?_
  refine sxc_seq ?_
  refine sxc_region ?_
  refine sxo_fieldAddr rfl rfl ff24_0 rfl ?_
  refine sxo_loadB (i := 0) rfl rfl tf22 rfl rfl (fun _ => rfl) rfl rfl ?_
  refine sxo_len rfl Try.underlying22 rfl rfl ?_
  refine sxo_assign rfl rfl rfl ?_
  refine sxo_nil ?_
  refine sxq_next ?_
  refine sxc_seq ?_
  refine sxc_seq ?_
  refine sxc_region ?_
  refine sxo_move rfl rfl rfl ?_
  refine sxo_gtr rfl rfl rfl rfl ?_
  refine sxo_nil ?_
  refine sxq_next ?_
  refine sxc_if rfl (fun h1593 => ?_) (fun h1593 => ?_)
  · refine sxc_seq ?_
    refine sxc_region ?_
    refine sxo_assign rfl rfl rfl ?_
    refine sxo_nil ?_
    refine sxq_next ?_
    refine sxc_ret ?_
    refine sxq_thenR ?_
    exact sxq_doneP () (.inl rfl) (res1 rfl rfl) (fun h => by subst h; rfl) (fun h => by subst h; exact .nil)
  · refine sxc_skip ?_
    refine sxq_next ?_
    refine sxc_seq ?_
    refine sxc_region ?_
    refine sxo_assign rfl rfl rfl ?_
    refine sxo_nil ?_
    refine sxq_next ?_
    refine sxc_join (fun ((x798, _) : (Int × Unit)) => [(4, .int .i64 x798)]) (fun ((x798, _) : (Int × Unit)) => []) (fun ((x798, _) : (Int × Unit)) => []) (fun ((x798, _) : (Int × Unit)) => []) (fun ((x798, _) : (Int × Unit)) => M_graph_Check_j23 F x798) ?_ ?_
    · refine sxc_seq ?_
      refine sxc_region ?_
      refine sxo_fieldAddr rfl rfl ff24_0 rfl ?_
      refine sxo_loadB (i := 0) rfl rfl tf22 rfl rfl (fun _ => rfl) rfl rfl ?_
      refine sxo_len rfl Try.underlying22 rfl rfl ?_
      refine sxo_move rfl rfl rfl ?_
      refine sxo_nil ?_
      refine sxq_next ?_
      refine sxc_block ?_
      refine sxc_loopP (fun (((x1064, x1065), _) : ((Int × Int) × Unit)) => [(3, .int .i64 (x1.length : Int)), (4, .int .i64 x1064), (16, .slice a2 x1.length c3.1), (17, .int .i64 (x1.length : Int)), (18, .int .i64 x1065)]) (fun (((x1064, x1065), _) : ((Int × Int) × Unit)) => []) (fun (((x1064, x1065), _) : ((Int × Int) × Unit)) => []) (fun (((x1064, x1065), _) : ((Int × Int) × Unit)) => [SlN eN25 iN25 1 (.slice a2 x1.length c3.1) x1 c3.2]) (fun k (s : ((Int × Int) × Unit)) => M_graph_Check_l38 F x1 k s.1) ((0, 0), ()) F (lk_cons rfl (lk_cons rfl (lk_cons rfl (lk_cons rfl (lk_cons rfl lk_nil))))) .nil .nil (fk_cons 0 rfl fk_nil) (fun _ => rfl) ?_
      intro k1329
      rintro ⟨⟨x1064, x1065⟩, _⟩
      try dsimp only
      refine sxc_meq (m' := M_graph_Check_b38 F x1 (M_graph_Check_l38 F x1 k1329) x1064 x1065) rfl ?_
      refine sxc_seq ?_
      refine sxc_region ?_
      refine sxo_lss rfl rfl rfl rfl ?_
      refine sxo_nil ?_
      refine sxq_next ?_
      refine sxc_seq ?_
      refine sxc_if rfl (fun h1592 => ?_) (fun h1592 => ?_)
      · refine sxc_skip ?_
        refine sxq_next ?_
        refine sxc_join (fun ((x1461, _) : (Int × Unit)) => [(3, .int .i64 (x1.length : Int)), (4, .int .i64 x1461), (16, .slice a2 x1.length c3.1), (17, .int .i64 (x1.length : Int)), (18, .int .i64 x1065)]) (fun ((x1461, _) : (Int × Unit)) => []) (fun ((x1461, _) : (Int × Unit)) => []) (fun ((x1461, _) : (Int × Unit)) => [SlN eN25 iN25 1 (.slice a2 x1.length c3.1) x1 c3.2]) (fun ((x1461, _) : (Int × Unit)) => M_graph_Check_j42 F (M_graph_Check_l38 F x1 k1329) x1065 x1461) ?_ ?_
        · refine sxc_block ?_
          refine sxc_seq ?_
          refine sxc_region ?_
          refine sxo_indexN (j := 0) eN25_ok (by decide) rfl Try.underlying22 tf25 rfl rfl rfl rfl (fun x1462 e1462 g1465 b1463 o1464 => ?_)
          refine sxo_loadF (j := 0) rfl rfl tf25 rfl rfl (fun _ => rfl) rfl rfl ?_
          refine sxo_assign rfl rfl rfl ?_
          refine sxo_nil ?_
          refine sxq_next ?_
          refine sxc_seq ?_
          refine sxc_region ?_
          refine sxo_assign rfl rfl rfl ?_
          refine sxo_nil ?_
          refine sxq_next ?_
          refine sxc_join (fun ((_, _) : (Unit × Unit)) => [(3, .int .i64 (x1.length : Int)), (4, .int .i64 x1064), (6, .slice g1465.1 x1462.length g1465.2), (16, .slice a2 x1.length c3.1), (17, .int .i64 (x1.length : Int)), (18, .int .i64 x1065)]) (fun ((_, _) : (Unit × Unit)) => []) (fun ((_, _) : (Unit × Unit)) => []) (fun ((_, _) : (Unit × Unit)) => [Sl (eI .i64) 1 (.slice g1465.1 x1462.length g1465.2) x1462, SlN eN25 iN25 1 (.slice a2 x1.length c3.1) x1 c3.2]) (fun ((_, _) : (Unit × Unit)) => M_graph_Check_j44 F (M_graph_Check_l38 F x1 k1329) x1064 x1065 x1462) ?_ ?_
          · refine sxc_seq ?_
            refine sxc_region ?_
            refine sxo_move rfl rfl rfl ?_
            refine sxo_len rfl Try.underlying25 rfl rfl ?_
            refine sxo_move rfl rfl rfl ?_
            refine sxo_nil ?_
            refine sxq_next ?_
            refine sxc_block ?_
            refine sxc_loopP (fun (((x1549, x1550), _) : ((Int × Int) × Unit)) => [(3, .int .i64 (x1.length : Int)), (4, .int .i64 x1064), (6, .slice g1465.1 x1462.length g1465.2), (7, .int .i64 x1549), (16, .slice a2 x1.length c3.1), (17, .int .i64 (x1.length : Int)), (18, .int .i64 x1065), (22, .slice g1465.1 x1462.length g1465.2), (23, .int .i64 (x1462.length : Int)), (24, .int .i64 x1550)]) (fun (((x1549, x1550), _) : ((Int × Int) × Unit)) => []) (fun (((x1549, x1550), _) : ((Int × Int) × Unit)) => []) (fun (((x1549, x1550), _) : ((Int × Int) × Unit)) => [Sl (eI .i64) 1 (.slice g1465.1 x1462.length g1465.2) x1462, SlN eN25 iN25 1 (.slice a2 x1.length c3.1) x1 c3.2]) (fun k (s : ((Int × Int) × Unit)) => M_graph_Check_l45 F (M_graph_Check_l38 F x1 k1329) x1 x1064 x1065 x1462 k s.1) ((-1, 0), ()) F (lk_cons rfl (lk_cons rfl (lk_cons rfl (lk_cons rfl (lk_cons rfl (lk_cons rfl (lk_cons rfl (lk_cons rfl (lk_cons rfl (lk_cons rfl lk_nil)))))))))) .nil .nil (fk_cons 1 rfl (fk_cons 2 rfl fk_nil)) (fun _ => rfl) ?_
            intro k1571
            rintro ⟨⟨x1549, x1550⟩, _⟩
            try dsimp only
            refine sxc_meq (m' := M_graph_Check_b45 F (M_graph_Check_l38 F x1 k1329) x1 x1064 x1065 x1462 (M_graph_Check_l45 F (M_graph_Check_l38 F x1 k1329) x1 x1064 x1065 x1462 k1571) x1549 x1550) rfl ?_
            refine sxc_seq ?_
            refine sxc_region ?_
            refine sxo_lss rfl rfl rfl rfl ?_
            refine sxo_nil ?_
            refine sxq_next ?_
            refine sxc_seq ?_
            refine sxc_if rfl (fun h1591 => ?_) (fun h1591 => ?_)
            · refine sxc_skip ?_
              refine sxq_next ?_
              refine sxc_seq ?_
              refine sxc_block ?_
              refine sxc_seq ?_
              refine sxc_region ?_
              refine sxo_indexF (j := 0) (eI_ok .i64) (by decide) rfl Try.underlying25 tf3 rfl rfl rfl rfl (fun x1582 e1582 b1583 o1584 => ?_)
              refine sxo_loadF (j := 0) rfl rfl tf3 rfl rfl (fun _ => rfl) rfl rfl ?_
              refine sxo_assign rfl rfl rfl ?_
              refine sxo_nil ?_
              refine sxq_next ?_
              refine sxc_seq ?_
              refine sxc_block ?_
              refine sxc_seq ?_
              refine sxc_region ?_
              refine sxo_move rfl rfl rfl ?_
              refine sxo_lss rfl rfl rfl rfl ?_
              refine sxo_move rfl rfl rfl ?_
              refine sxo_case 4 (decide (x1582 < 0)) [(3, .int .i64 (x1.length : Int)), (4, .int .i64 x1064), (6, .slice g1465.1 x1462.length g1465.2), (7, .int .i64 x1549), (16, .slice a2 x1.length c3.1), (17, .int .i64 (x1.length : Int)), (18, .int .i64 x1065), (22, .slice g1465.1 x1462.length g1465.2), (23, .int .i64 (x1462.length : Int)), (24, .int .i64 x1550), (9, .int .i64 x1582), (35, .bool ((decide (x1582 < 0)) || (decide ((x1.length : Int) ≤ x1582))))] (fun h1588 => ?_) (fun h1588 => ?_) ?_
              · refine sxo_take (os := _) rfl ?_
                refine sxo_isT (k := 31) rfl h1588 ?_
                refine sxo_skip rfl rfl rfl ?_
                refine sxo_skip rfl rfl rfl ?_
                refine sxo_skip rfl rfl rfl ?_
                refine sxo_pick (b := true) rfl rfl rfl rfl ?_
                refine sxo_again (d := 35) (v := .bool ((decide (x1582 < 0)) || (decide ((x1.length : Int) ≤ x1582)))) rfl (by rw [h1588]; simp only [Bool.true_or]) ?_
                refine sxo_nil ?_
                exact sxq_case (lk_cons rfl (lk_cons rfl (lk_cons rfl (lk_cons rfl (lk_cons rfl (lk_cons rfl (lk_cons rfl (lk_cons rfl (lk_cons rfl (lk_cons rfl (lk_cons rfl (lk_cons rfl lk_nil))))))))))))
              · refine sxo_take (os := _) rfl ?_
                refine sxo_isF (k := 31) rfl h1588 ?_
                refine sxo_move rfl rfl rfl ?_
                refine sxo_move rfl rfl rfl ?_
                refine sxo_geq rfl rfl rfl rfl ?_
                refine sxo_pick (b := false) rfl rfl rfl rfl ?_
                refine sxo_again (d := 35) (v := .bool ((decide (x1582 < 0)) || (decide ((x1.length : Int) ≤ x1582)))) rfl (by rw [h1588]; simp only [Bool.false_or]) ?_
                refine sxo_nil ?_
                exact sxq_case (lk_cons rfl (lk_cons rfl (lk_cons rfl (lk_cons rfl (lk_cons rfl (lk_cons rfl (lk_cons rfl (lk_cons rfl (lk_cons rfl (lk_cons rfl (lk_cons rfl (lk_cons rfl lk_nil))))))))))))
              refine sxo_take (os := _) rfl ?_
              refine sxo_assign rfl rfl rfl ?_
              refine sxo_nil ?_
              refine sxq_next ?_
              refine sxc_if rfl (fun h1590 => ?_) (fun h1590 => ?_)
              · refine sxc_seq ?_
                refine sxc_region ?_
                refine sxo_assign rfl rfl rfl ?_
                refine sxo_nil ?_
                refine sxq_next ?_
                refine sxc_ret ?_
                refine sxq_blkR ?_
                refine sxq_thenR ?_
                refine sxq_blkR ?_
                refine sxq_thenR ?_
                refine sxq_thenR ?_
                refine sxq_blkR ?_
                refine sxq_thenR ?_
                refine sxq_blkR ?_
                refine sxq_thenR ?_
                refine sxq_thenR ?_
                refine sxq_blkR ?_
                refine sxq_thenR ?_
                exact sxq_doneP () (.inl rfl) (res1 rfl rfl) (fun h => by subst h; rfl) (fun h => by subst h; exact .nil)
              · refine sxc_seq ?_
                refine sxc_region ?_
                refine sxo_move rfl rfl rfl ?_
                refine sxo_move rfl rfl rfl ?_
                refine sxo_leq rfl rfl rfl rfl ?_
                refine sxo_assign rfl rfl rfl ?_
                refine sxo_nil ?_
                refine sxq_next ?_
                refine sxc_if rfl (fun h1589 => ?_) (fun h1589 => ?_)
                · refine sxc_seq ?_
                  refine sxc_region ?_
                  refine sxo_assign rfl rfl rfl ?_
                  refine sxo_nil ?_
                  refine sxq_next ?_
                  refine sxc_ret ?_
                  refine sxq_blkR ?_
                  refine sxq_thenR ?_
                  refine sxq_blkR ?_
                  refine sxq_thenR ?_
                  refine sxq_thenR ?_
                  refine sxq_blkR ?_
                  refine sxq_thenR ?_
                  refine sxq_blkR ?_
                  refine sxq_thenR ?_
                  refine sxq_thenR ?_
                  refine sxq_blkR ?_
                  refine sxq_thenR ?_
                  exact sxq_doneP () (.inl rfl) (res1 rfl rfl) (fun h => by subst h; rfl) (fun h => by subst h; exact .nil)
                · refine sxc_skip ?_
                  refine sxq_blkN ?_
                  refine sxq_next ?_
                  refine sxc_region ?_
                  refine sxo_move rfl rfl rfl ?_
                  refine sxo_assign rfl rfl rfl ?_
                  refine sxo_nil ?_
                  refine sxq_blkN ?_
                  refine sxq_next ?_
                  refine sxc_region ?_
                  refine sxo_add rfl rfl rfl rfl ?_
                  refine sxo_move rfl rfl rfl ?_
                  refine sxo_nil ?_
                  exact sxq_againP ((x1582, iadd .i64 x1550 1), ()) (lk_cons rfl (lk_cons rfl (lk_cons rfl (lk_cons rfl (lk_cons rfl (lk_cons rfl (lk_cons rfl (lk_cons rfl (lk_cons rfl (lk_cons rfl lk_nil)))))))))) .nil .nil (fk_cons 1 rfl (fk_cons 2 rfl fk_nil))
            · refine sxc_exit ?_
              refine sxq_thenX ?_
              refine sxq_thenX ?_
              refine sxq_blkX ?_
              exact sxq_meetP ((), ()) (lk_cons rfl (lk_cons rfl (lk_cons rfl (lk_cons rfl (lk_cons rfl (lk_cons rfl lk_nil)))))) .nil .nil (fk_cons 0 rfl (fk_cons 1 rfl fk_nil))
          · rintro ⟨_, _⟩
            try dsimp only
            refine sxc_region ?_
            refine sxo_move rfl rfl rfl ?_
            refine sxo_move rfl rfl rfl ?_
            refine sxo_len rfl Try.underlying25 rfl rfl ?_
            refine sxo_add rfl rfl rfl rfl ?_
            refine sxo_assign rfl rfl rfl ?_
            refine sxo_nil ?_
            refine sxq_blkN ?_
            exact sxq_meetP (iadd .i64 x1064 (x1462.length : Int), ()) (lk_cons rfl (lk_cons rfl (lk_cons rfl (lk_cons rfl (lk_cons rfl lk_nil))))) .nil .nil (fk_cons 1 rfl fk_nil)
        · rintro ⟨x1461, _⟩
          try dsimp only
          refine sxc_region ?_
          refine sxo_add rfl rfl rfl rfl ?_
          refine sxo_move rfl rfl rfl ?_
          refine sxo_nil ?_
          exact sxq_againP ((x1461, iadd .i64 x1065 1), ()) (lk_cons rfl (lk_cons rfl (lk_cons rfl (lk_cons rfl (lk_cons rfl lk_nil))))) .nil .nil (fk_cons 0 rfl fk_nil)
      · refine sxc_exit ?_
        refine sxq_thenX ?_
        refine sxq_thenX ?_
        refine sxq_blkX ?_
        exact sxq_meetP (x1064, ()) (lk_cons rfl lk_nil) .nil .nil fk_nil
    · rintro ⟨x798, _⟩
      try dsimp only
      refine sxc_seq ?_
      refine sxc_seq ?_
      refine sxc_region ?_
      refine sxo_move rfl rfl rfl ?_
      refine sxo_gtr rfl rfl rfl rfl ?_
      refine sxo_nil ?_
      refine sxq_next ?_
      refine sxc_if rfl (fun h800 => ?_) (fun h800 => ?_)
      · refine sxc_seq ?_
        refine sxc_region ?_
        refine sxo_assign rfl rfl rfl ?_
        refine sxo_nil ?_
        refine sxq_next ?_
        refine sxc_ret ?_
        refine sxq_thenR ?_
        exact sxq_doneP () (.inl rfl) (res1 rfl rfl) (fun h => by subst h; rfl) (fun h => by subst h; exact .nil)
      · refine sxc_skip ?_
        refine sxq_next ?_
        refine sxc_seq ?_
        refine sxc_region ?_
        refine sxo_assign rfl rfl rfl ?_
        refine sxo_nil ?_
        refine sxq_next ?_
        refine sxc_ret ?_
        exact sxq_doneP () (.inl rfl) (res1 rfl rfl) (fun h => by subst h; rfl) (fun h => by subst h; exact .nil)

theorem C_walk_check_1 (F : Nat) (x1 : Int) (g2 : Nat) (x3 : List (List Int)) (a4 : Option Addr) (c5 : (Nat × List (Option Addr × Nat))) (r : Bool) (hm : M_walk_check_1 F x1 x3 = some r) :
    PureM Try.prog 49 [.int .i64 x1, .pointer (some ⟨g2, 0, none⟩)] [⟨g2, 24, [.slice a4 x3.length c5.1]⟩] [] [SlN eN25 iN25 1 (.slice a4 x3.length c5.1) x3 c5.2] Unit (fun _ => .bool r) (fun _ => [⟨g2, 24, [.slice a4 x3.length c5.1]⟩]) (fun _ => []) := by
  refine pureM_of Try.func49 rfl Try.ntmps49 rfl hm (fun w => ?_)
  refine sxc_env (l' := [(0, .int .i64 x1), (1, .pointer (some ⟨g2, 0, none⟩))]) rfl ?_
  refine sxc_seq ?_
  refine sxc_region ?_
  refine sxo_assign rfl rfl rfl ?_
  refine sxo_nil ?_
  refine sxq_next ?_
  refine sxc_seq ?_
  refine sxc_region ?_
  refine sxo_move rfl rfl rfl ?_
  refine sxo_lss rfl rfl rfl rfl ?_
  refine sxo_move rfl rfl rfl ?_
  refine sxo_case 6 (decide (x1 < 0)) [(12, .bool ((decide (x1 < 0)) || (decide ((x3.length : Int) ≤ x1))))] (fun h6 => ?_) (fun h6 => ?_) ?_
  · refine sxo_take (os := _) rfl ?_
    refine sxo_isT (k := 6) rfl h6 ?_
    refine sxo_skip rfl rfl rfl ?_
    refine sxo_skip rfl rfl rfl ?_
    refine sxo_skip rfl rfl rfl ?_
    refine sxo_skip rfl rfl rfl ?_
    refine sxo_skip rfl rfl rfl ?_
    refine sxo_pick (b := true) rfl rfl rfl rfl ?_
    refine sxo_again (d := 12) (v := .bool ((decide (x1 < 0)) || (decide ((x3.length : Int) ≤ x1)))) rfl (by rw [h6]; simp only [Bool.true_or]) ?_
    refine sxo_nil ?_
    exact sxq_case (lk_cons rfl lk_nil)
  · refine sxo_take (os := _) rfl ?_
    refine sxo_isF (k := 6) rfl h6 ?_
    refine sxo_move rfl rfl rfl ?_
    refine sxo_fieldAddr rfl rfl ff24_0 rfl ?_
    refine sxo_loadB (i := 0) rfl rfl tf22 rfl rfl (fun _ => rfl) rfl rfl ?_
    refine sxo_len rfl Try.underlying22 rfl rfl ?_
    refine sxo_geq rfl rfl rfl rfl ?_
    refine sxo_pick (b := false) rfl rfl rfl rfl ?_
    refine sxo_again (d := 12) (v := .bool ((decide (x1 < 0)) || (decide ((x3.length : Int) ≤ x1)))) rfl (by rw [h6]; simp only [Bool.false_or]) ?_
    refine sxo_nil ?_
    exact sxq_case (lk_cons rfl lk_nil)
  refine sxo_take (os := _) rfl ?_
  refine sxo_assign rfl rfl rfl ?_
  refine sxo_nil ?_
  refine sxq_next ?_
  refine sxc_ret ?_
  exact sxq_doneM () (.inl rfl) (res1 rfl rfl) (fun h => by subst h; rfl) (fun h => by subst h; exact (.cons 0 rfl .nil)) (fun h => by subst h; exact .nil)

theorem C_slices_IndexFunc_int_int_walk_check_1 (F : Nat) (x1 : List Int) (a2 : Option Addr) (c3 : Nat) (g4 : Nat) (x5 : List (List Int)) (a6 : Option Addr) (c7 : (Nat × List (Option Addr × Nat))) (r : Int) (hm : M_slices_IndexFunc_int_int_walk_check_1 F x1 x5 = some r) :
    PureM Try.prog 29 [.slice a2 x1.length c3, .func (.func 49) #[] #[.pointer (some ⟨g4, 0, none⟩)]] [⟨g4, 24, [.slice a6 x5.length c7.1]⟩] [] [Sl (eI .i64) 1 (.slice a2 x1.length c3) x1, SlN eN25 iN25 1 (.slice a6 x5.length c7.1) x5 c7.2] Unit (fun _ => .int .i64 r) (fun _ => [⟨g4, 24, [.slice a6 x5.length c7.1]⟩]) (fun _ => []) := by
  refine pureM_of Try.func29 rfl Try.ntmps29 rfl hm (fun w => ?_)
  refine sxc_env (l' := [(0, .slice a2 x1.length c3), (1, .func (.func 49) #[] #[.pointer (some ⟨g4, 0, none⟩)])]) rfl ?_
  refine sxc_seq ?_
  refine sxc_region ?_
  refine sxo_assign rfl rfl rfl ?_
  refine sxo_nil ?_
  refine sxq_next ?_
  refine sxc_join (fun ((_, _) : (Unit × Unit)) => []) (fun ((_, _) : (Unit × Unit)) => [⟨g4, 24, [.slice a6 x5.length c7.1]⟩]) (fun ((_, _) : (Unit × Unit)) => []) (fun ((_, _) : (Unit × Unit)) => [SlN eN25 iN25 1 (.slice a6 x5.length c7.1) x5 c7.2]) (fun ((_, _) : (Unit × Unit)) => M_slices_IndexFunc_int_int_walk_check_1_j2 F) ?_ ?_
  · refine sxc_seq ?_
    refine sxc_region ?_
    refine sxo_move rfl rfl rfl ?_
    refine sxo_len rfl Try.underlying25 rfl rfl ?_
    refine sxo_move rfl rfl rfl ?_
    refine sxo_nil ?_
    refine sxq_next ?_
    refine sxc_block ?_
    refine sxc_loopP (fun ((x58, _) : (Int × Unit)) => [(0, .slice a2 x1.length c3), (1, .func (.func 49) #[] #[.pointer (some ⟨g4, 0, none⟩)]), (7, .int .i64 (x1.length : Int)), (8, .int .i64 x58)]) (fun ((x58, _) : (Int × Unit)) => [⟨g4, 24, [.slice a6 x5.length c7.1]⟩]) (fun ((x58, _) : (Int × Unit)) => []) (fun ((x58, _) : (Int × Unit)) => [Sl (eI .i64) 1 (.slice a2 x1.length c3) x1, SlN eN25 iN25 1 (.slice a6 x5.length c7.1) x5 c7.2]) (fun k (s : (Int × Unit)) => M_slices_IndexFunc_int_int_walk_check_1_l3 F x1 x5 k s.1) (0, ()) F (lk_cons rfl (lk_cons rfl (lk_cons rfl (lk_cons rfl lk_nil)))) (.cons 0 rfl .nil) .nil (fk_cons 0 rfl (fk_cons 1 rfl fk_nil)) (fun _ => rfl) ?_
    intro k71
    rintro ⟨x58, _⟩
    try dsimp only
    refine sxc_meq (m' := M_slices_IndexFunc_int_int_walk_check_1_b3 F x1 x5 (M_slices_IndexFunc_int_int_walk_check_1_l3 F x1 x5 k71) x58) rfl ?_
    refine sxc_seq ?_
    refine sxc_region ?_
    refine sxo_lss rfl rfl rfl rfl ?_
    refine sxo_nil ?_
    refine sxq_next ?_
    refine sxc_seq ?_
    refine sxc_if rfl (fun h83 => ?_) (fun h83 => ?_)
    · refine sxc_skip ?_
      refine sxq_next ?_
      refine sxc_seq ?_
      refine sxc_block ?_
      refine sxc_seq ?_
      refine sxc_region ?_
      refine sxo_move rfl rfl rfl ?_
      refine sxo_assign rfl rfl rfl ?_
      refine sxo_nil ?_
      refine sxq_next ?_
      refine sxc_seq ?_
      refine sxc_region ?_
      refine sxo_move rfl rfl rfl ?_
      refine sxo_move rfl rfl rfl ?_
      refine sxo_move rfl rfl rfl ?_
      refine sxo_indexF (j := 0) (eI_ok .i64) (by decide) rfl Try.underlying25 tf3 rfl rfl rfl rfl (fun x78 e78 b79 o80 => ?_)
      refine sxo_loadF (j := 0) rfl rfl tf3 rfl rfl (fun _ => rfl) rfl rfl ?_
      refine sxo_callMV ent49 rfl rfl rfl rfl (fun x81 e81 => C_walk_check_1 F x78 g4 x5 a6 c7 x81 e81) (.cons 0 rfl .nil) .nil (.consF 2 rfl .nil) (fun x81 e81 => ?_)
      intro _
      refine sxo_nil ?_
      refine sxq_next ?_
      refine sxc_if rfl (fun h82 => ?_) (fun h82 => ?_)
      · refine sxc_seq ?_
        refine sxc_region ?_
        refine sxo_move rfl rfl rfl ?_
        refine sxo_assign rfl rfl rfl ?_
        refine sxo_nil ?_
        refine sxq_next ?_
        refine sxc_ret ?_
        refine sxq_blkR ?_
        refine sxq_thenR ?_
        refine sxq_thenR ?_
        refine sxq_blkR ?_
        refine sxq_thenR ?_
        exact sxq_doneM () (.inl rfl) (res1 rfl rfl) (fun h => by subst h; rfl) (fun h => by subst h; exact (.cons 0 rfl .nil)) (fun h => by subst h; exact .nil)
      · refine sxc_skip ?_
        refine sxq_blkN ?_
        refine sxq_next ?_
        refine sxc_region ?_
        refine sxo_add rfl rfl rfl rfl ?_
        refine sxo_move rfl rfl rfl ?_
        refine sxo_nil ?_
        exact sxq_againP (iadd .i64 x58 1, ()) (lk_cons rfl (lk_cons rfl (lk_cons rfl (lk_cons rfl lk_nil)))) (.cons 0 rfl .nil) .nil (fk_cons 1 rfl (fk_cons 2 rfl fk_nil))
    · refine sxc_exit ?_
      refine sxq_thenX ?_
      refine sxq_thenX ?_
      refine sxq_blkX ?_
      exact sxq_meetP ((), ()) lk_nil (.cons 0 rfl .nil) .nil (fk_cons 1 rfl fk_nil)
  · rintro ⟨_, _⟩
    try dsimp only
    refine sxc_seq ?_
    refine sxc_region ?_
    refine sxo_assign rfl rfl rfl ?_
    refine sxo_nil ?_
    refine sxq_next ?_
    refine sxc_ret ?_
    exact sxq_doneM () (.inl rfl) (res1 rfl rfl) (fun h => by subst h; rfl) (fun h => by subst h; exact (.cons 0 rfl .nil)) (fun h => by subst h; exact .nil)

theorem C_slices_ContainsFunc_int_int_walk_check_1 (F : Nat) (x1 : List Int) (a2 : Option Addr) (c3 : Nat) (g4 : Nat) (x5 : List (List Int)) (a6 : Option Addr) (c7 : (Nat × List (Option Addr × Nat))) (r : Bool) (hm : M_slices_ContainsFunc_int_int_walk_check_1 F x1 x5 = some r) :
    PureM Try.prog 48 [.slice a2 x1.length c3, .func (.func 49) #[] #[.pointer (some ⟨g4, 0, none⟩)]] [⟨g4, 24, [.slice a6 x5.length c7.1]⟩] [] [Sl (eI .i64) 1 (.slice a2 x1.length c3) x1, SlN eN25 iN25 1 (.slice a6 x5.length c7.1) x5 c7.2] Unit (fun _ => .bool r) (fun _ => [⟨g4, 24, [.slice a6 x5.length c7.1]⟩]) (fun _ => []) := by
  refine pureM_of Try.func48 rfl Try.ntmps48 rfl hm (fun w => ?_)
  refine sxc_env (l' := [(0, .slice a2 x1.length c3), (1, .func (.func 49) #[] #[.pointer (some ⟨g4, 0, none⟩)])]) rfl ?_
  refine sxc_seq ?_
  refine sxc_region ?_
  refine sxo_assign rfl rfl rfl ?_
  refine sxo_nil ?_
  refine sxq_next ?_
  refine sxc_seq ?_
  refine sxc_region ?_
  refine sxo_move rfl rfl rfl ?_
  refine sxo_move rfl rfl rfl ?_
  refine sxo_callM ent29 rfl rfl rfl (fun x8 e8 => C_slices_IndexFunc_int_int_walk_check_1 F x1 a2 c3 g4 x5 a6 c7 x8 e8) (.cons 0 rfl .nil) .nil (.consF 0 rfl (.consF 1 rfl .nil)) (fun x8 e8 => ?_)
  intro _
  refine sxo_geq rfl rfl rfl rfl ?_
  refine sxo_assign rfl rfl rfl ?_
  refine sxo_nil ?_
  refine sxq_next ?_
  refine sxc_ret ?_
  exact sxq_doneM () (.inl rfl) (res1 rfl rfl) (fun h => by subst h; rfl) (fun h => by subst h; exact (.cons 0 rfl .nil)) (fun h => by subst h; exact .nil)

theorem C_walk_check (F : Nat) (x1 : List (List Int)) (a2 : Option Addr) (c3 : (Nat × List (Option Addr × Nat))) (x4 : List Int) (a5 : Option Addr) (c6 : Nat) (r : Int) (hm : M_walk_check F x1 x4 = some r) :
    Pure Try.prog 27 [.agg #[.slice a2 x1.length c3.1], .slice a5 x4.length c6] [SlN eN25 iN25 1 (.slice a2 x1.length c3.1) x1 c3.2, Sl (eI .i64) 1 (.slice a5 x4.length c6) x4] Unit (fun _ => .int .i64 r) (fun _ => []) (fun _ => []) := by
  refine pure_of Try.func27 rfl Try.ntmps27 rfl hm (fun w => ?_)
  refine sxc_env (l' := [(0, .agg #[.slice a2 x1.length c3.1]), (1, .slice a5 x4.length c6)]) rfl ?_
  refine sxc_seq ?_
  refine sxc_region ?_
  refine sxo_box rfl rfl rfl (fun g7 => ?_)
  refine sxo_assign rfl rfl rfl ?_
  refine sxo_nil ?_
  refine sxq_next ?_
  refine sxc_seq ?_
  refine sxc_seq ?_
  refine sxc_region ?_
  refine sxo_loadB (i := 0) rfl rfl tf24 rfl rfl (by simp) rfl rfl ?_
  refine sxo_call ent36 rfl rfl rfl (fun x10 e10 => C_graph_Check F x1 a2 c3 x10 e10) (.consF 0 rfl .nil) (fun x10 e10 => ?_)
  intro _
  refine sxo_assign rfl rfl rfl ?_
  refine sxo_nil ?_
  refine sxq_next ?_
  refine sxc_seq ?_
  refine sxc_region ?_
  refine sxo_move rfl rfl rfl ?_
  refine sxo_neq rfl rfl rfl rfl ?_
  refine sxo_nil ?_
  refine sxq_next ?_
  refine sxc_if rfl (fun h15 => ?_) (fun h15 => ?_)
  · refine sxc_seq ?_
    refine sxc_region ?_
    refine sxo_move rfl rfl rfl ?_
    refine sxo_assign rfl rfl rfl ?_
    refine sxo_nil ?_
    refine sxq_next ?_
    refine sxc_ret ?_
    refine sxq_thenR ?_
    exact sxq_doneP () (.inl rfl) (res1 rfl rfl) (fun h => by subst h; rfl) (fun h => by subst h; exact .nil)
  · refine sxc_skip ?_
    refine sxq_next ?_
    refine sxc_seq ?_
    refine sxc_seq ?_
    refine sxc_region ?_
    refine sxo_move rfl rfl rfl ?_
    refine sxo_makeFunc rfl rfl rfl ?_
    refine sxo_callM ent48 rfl rfl rfl (fun x13 e13 => C_slices_ContainsFunc_int_int_walk_check_1 F x4 a5 c6 g7 x1 a2 c3 x13 e13) (.cons 0 rfl .nil) .nil (.consF 1 rfl (.consF 0 rfl .nil)) (fun x13 e13 => ?_)
    intro _
    refine sxo_nil ?_
    refine sxq_next ?_
    refine sxc_if rfl (fun h14 => ?_) (fun h14 => ?_)
    · refine sxc_seq ?_
      refine sxc_region ?_
      refine sxo_assign rfl rfl rfl ?_
      refine sxo_nil ?_
      refine sxq_next ?_
      refine sxc_ret ?_
      refine sxq_thenR ?_
      exact sxq_doneP () (.inl rfl) (res1 rfl rfl) (fun h => by subst h; rfl) (fun h => by subst h; exact .nil)
    · refine sxc_skip ?_
      refine sxq_next ?_
      refine sxc_seq ?_
      refine sxc_region ?_
      refine sxo_assign rfl rfl rfl ?_
      refine sxo_nil ?_
      refine sxq_next ?_
      refine sxc_ret ?_
      exact sxq_doneP () (.inl rfl) (res1 rfl rfl) (fun h => by subst h; rfl) (fun h => by subst h; exact .nil)

theorem C_math_bits_Mul32 (F : Nat) (x1 : Int) (x2 : Int) (r : (Int × Int)) (hm : M_math_bits_Mul32 F x1 x2 = some r) :
    Pure Try.prog 70 [.int .u32 x1, .int .u32 x2] [] Unit (fun _ => .tuple #[.int .u32 r.1, .int .u32 r.2]) (fun _ => []) (fun _ => []) := by
  refine pure_of Try.func70 rfl Try.ntmps70 rfl hm (fun w => ?_)
  refine sxc_env (l' := [(0, .int .u32 x1), (1, .int .u32 x2)]) rfl ?_
  refine sxc_seq ?_
  refine sxc_region ?_
  refine sxo_assign rfl rfl rfl ?_
  refine sxo_assign rfl rfl rfl ?_
  refine sxo_nil ?_
  refine sxq_next ?_
  refine sxc_seq ?_
  refine sxc_region ?_
  refine sxo_move rfl rfl rfl ?_
  refine sxo_conv rfl Try.underlying99 Try.underlying101 rfl rfl ?_
  refine sxo_move rfl rfl rfl ?_
  refine sxo_conv rfl Try.underlying99 Try.underlying101 rfl rfl ?_
  refine sxo_mul rfl rfl rfl rfl ?_
  refine sxo_assign rfl rfl rfl ?_
  refine sxo_lett (fun x3 e3 => ?_)
  refine sxo_again (d := 6) (v := .int .u64 x3) rfl (by rw [e3] <;> rfl) ?_
  refine sxo_nil ?_
  refine sxq_next ?_
  refine sxc_seq ?_
  refine sxc_region ?_
  refine sxo_move rfl rfl rfl ?_
  refine sxo_shr rfl rfl rfl rfl rfl ?_
  refine sxo_conv rfl Try.underlying101 Try.underlying99 rfl rfl ?_
  refine sxo_move rfl rfl rfl ?_
  refine sxo_conv rfl Try.underlying101 Try.underlying99 rfl rfl ?_
  refine sxo_assign rfl rfl rfl ?_
  refine sxo_assign rfl rfl rfl ?_
  refine sxo_nil ?_
  refine sxq_next ?_
  refine sxc_ret ?_
  exact sxq_doneP () (.inl rfl) (res2 rfl rfl rfl) (fun h => by subst h; rfl) (fun h => by subst h; exact .nil)

theorem C_math_bits_Mul64 (F : Nat) (x1 : Int) (x2 : Int) (r : (Int × Int)) (hm : M_math_bits_Mul64 F x1 x2 = some r) :
    Pure Try.prog 71 [.int .u64 x1, .int .u64 x2] [] Unit (fun _ => .tuple #[.int .u64 r.1, .int .u64 r.2]) (fun _ => []) (fun _ => []) := by
  refine pure_of Try.func71 rfl Try.ntmps71 rfl hm (fun w => ?_)
  refine sxc_env (l' := [(0, .int .u64 x1), (1, .int .u64 x2)]) rfl ?_
  refine sxc_seq ?_
  refine sxc_region ?_
  refine sxo_assign rfl rfl rfl ?_
  refine sxo_assign rfl rfl rfl ?_
  refine sxo_nil ?_
  refine sxq_next ?_
  refine sxc_seq ?_
  refine sxc_region ?_
  refine sxo_move rfl rfl rfl ?_
  refine sxo_and rfl rfl rfl rfl ?_
  refine sxo_assign rfl rfl rfl ?_
  refine sxo_nil ?_
  refine sxq_next ?_
  refine sxc_seq ?_
  refine sxc_region ?_
  refine sxo_move rfl rfl rfl ?_
  refine sxo_shr rfl rfl rfl rfl rfl ?_
  refine sxo_assign rfl rfl rfl ?_
  refine sxo_nil ?_
  refine sxq_next ?_
  refine sxc_seq ?_
  refine sxc_region ?_
  refine sxo_move rfl rfl rfl ?_
  refine sxo_and rfl rfl rfl rfl ?_
  refine sxo_assign rfl rfl rfl ?_
  refine sxo_nil ?_
  refine sxq_next ?_
  refine sxc_seq ?_
  refine sxc_region ?_
  refine sxo_move rfl rfl rfl ?_
  refine sxo_shr rfl rfl rfl rfl rfl ?_
  refine sxo_assign rfl rfl rfl ?_
  refine sxo_nil ?_
  refine sxq_next ?_
  refine sxc_seq ?_
  refine sxc_region ?_
  refine sxo_move rfl rfl rfl ?_
  refine sxo_move rfl rfl rfl ?_
  refine sxo_mul rfl rfl rfl rfl ?_
  refine sxo_assign rfl rfl rfl ?_
  refine sxo_lett (fun x3 e3 => ?_)
  refine sxo_again (d := 10) (v := .int .u64 x3) rfl (by rw [e3] <;> rfl) ?_
  refine sxo_nil ?_
  refine sxq_next ?_
  refine sxc_seq ?_
  refine sxc_region ?_
  refine sxo_move rfl rfl rfl ?_
  refine sxo_move rfl rfl rfl ?_
  refine sxo_mul rfl rfl rfl rfl ?_
  refine sxo_move rfl rfl rfl ?_
  refine sxo_shr rfl rfl rfl rfl rfl ?_
  refine sxo_add rfl rfl rfl rfl ?_
  refine sxo_assign rfl rfl rfl ?_
  refine sxo_lett (fun x4 e4 => ?_)
  refine sxo_again (d := 11) (v := .int .u64 x4) rfl (by rw [e4] <;> rfl) ?_
  refine sxo_nil ?_
  refine sxq_next ?_
  refine sxc_seq ?_
  refine sxc_region ?_
  refine sxo_move rfl rfl rfl ?_
  refine sxo_and rfl rfl rfl rfl ?_
  refine sxo_assign rfl rfl rfl ?_
  refine sxo_nil ?_
  refine sxq_next ?_
  refine sxc_seq ?_
  refine sxc_region ?_
  refine sxo_move rfl rfl rfl ?_
  refine sxo_shr rfl rfl rfl rfl rfl ?_
  refine sxo_assign rfl rfl rfl ?_
  refine sxo_nil ?_
  refine sxq_next ?_
  refine sxc_seq ?_
  refine sxc_region ?_
  refine sxo_move rfl rfl rfl ?_
  refine sxo_move rfl rfl rfl ?_
  refine sxo_move rfl rfl rfl ?_
  refine sxo_mul rfl rfl rfl rfl ?_
  refine sxo_add rfl rfl rfl rfl ?_
  refine sxo_assign rfl rfl rfl ?_
  refine sxo_lett (fun x5 e5 => ?_)
  refine sxo_again (d := 12) (v := .int .u64 x5) rfl (by rw [e5] <;> rfl) ?_
  refine sxo_nil ?_
  refine sxq_next ?_
  refine sxc_seq ?_
  refine sxc_region ?_
  refine sxo_move rfl rfl rfl ?_
  refine sxo_move rfl rfl rfl ?_
  refine sxo_mul rfl rfl rfl rfl ?_
  refine sxo_move rfl rfl rfl ?_
  refine sxo_add rfl rfl rfl rfl ?_
  refine sxo_move rfl rfl rfl ?_
  refine sxo_shr rfl rfl rfl rfl rfl ?_
  refine sxo_add rfl rfl rfl rfl ?_
  refine sxo_assign rfl rfl rfl ?_
  refine sxo_lett (fun x6 e6 => ?_)
  refine sxo_again (d := 4) (v := .int .u64 x6) rfl (by rw [e6] <;> rfl) ?_
  refine sxo_nil ?_
  refine sxq_next ?_
  refine sxc_seq ?_
  refine sxc_region ?_
  refine sxo_move rfl rfl rfl ?_
  refine sxo_move rfl rfl rfl ?_
  refine sxo_mul rfl rfl rfl rfl ?_
  refine sxo_assign rfl rfl rfl ?_
  refine sxo_nil ?_
  refine sxq_next ?_
  refine sxc_ret ?_
  exact sxq_doneP () (.inl rfl) (res2 rfl rfl rfl) (fun h => by subst h; rfl) (fun h => by subst h; exact .nil)

theorem C_math_bits_Mul (F : Nat) (x1 : Int) (x2 : Int) (r : (Int × Int)) (hm : M_math_bits_Mul F x1 x2 = some r) :
    Pure Try.prog 58 [.int .u64 x1, .int .u64 x2] [] Unit (fun _ => .tuple #[.int .u64 r.1, .int .u64 r.2]) (fun _ => []) (fun _ => []) := by
  refine pure_of Try.func58 rfl Try.ntmps58 rfl hm (fun w => ?_)
  refine sxc_env (l' := [(0, .int .u64 x1), (1, .int .u64 x2)]) rfl ?_
  refine sxc_seq ?_
  refine sxc_region ?_
  refine sxo_assign rfl rfl rfl ?_
  refine sxo_assign rfl rfl rfl ?_
  refine sxo_nil ?_
  refine sxq_next ?_
  refine sxc_seq ?_
  refine sxc_cond (b := false) rfl (fun h => by cases h) (fun _ => ?_)
  refine sxc_skip ?_
  refine sxq_next ?_
  refine sxc_seq ?_
  refine sxc_region ?_
  refine sxo_move rfl rfl rfl ?_
  refine sxo_move rfl rfl rfl ?_
  refine sxo_call ent71 rfl rfl rfl (fun x3 e3 => C_math_bits_Mul64 F x1 x2 x3 e3) .nil (fun x3 e3 => ?_)
  intro _
  refine sxo_move rfl rfl rfl ?_
  refine sxo_extract rfl rfl rfl rfl ?_
  refine sxo_extract rfl rfl rfl rfl ?_
  refine sxo_assign rfl rfl rfl ?_
  refine sxo_assign rfl rfl rfl ?_
  refine sxo_nil ?_
  refine sxq_next ?_
  refine sxc_seq ?_
  refine sxc_region ?_
  refine sxo_move rfl rfl rfl ?_
  refine sxo_move rfl rfl rfl ?_
  refine sxo_assign rfl rfl rfl ?_
  refine sxo_assign rfl rfl rfl ?_
  refine sxo_nil ?_
  refine sxq_next ?_
  refine sxc_ret ?_
  exact sxq_doneP () (.inl rfl) (res2 rfl rfl rfl) (fun h => by subst h; rfl) (fun h => by subst h; exact .nil)

theorem C_slices_Repeat_int_int (F : Nat) (x1 : List Int) (a2 : Option Addr) (c3 : Nat) (x4 : Int) (r : List Int) (hm : M_slices_Repeat_int_int F x1 x4 = some r) :
    Pure Try.prog 50 [.slice a2 x1.length c3, .int .i64 x4] [Sl (eI .i64) 1 (.slice a2 x1.length c3) x1] (Option Addr × Nat) (fun g => .slice g.1 r.length g.2) (fun g => [Ro (eI .i64) 3 1 (.slice g.1 r.length g.2) r]) (fun _ => []) := by
  refine pure_of Try.func50 rfl Try.ntmps50 rfl hm (fun w => ?_)
  refine sxc_env (l' := [(0, .slice a2 x1.length c3), (1, .int .i64 x4)]) rfl ?_
  refine sxc_seq ?_
  refine sxc_region ?_
  refine sxo_assign rfl rfl rfl ?_
  refine sxo_nil ?_
  refine sxq_next ?_
  refine sxc_seq ?_
  refine sxc_seq ?_
  refine sxc_region ?_
  refine sxo_move rfl rfl rfl ?_
  refine sxo_lss rfl rfl rfl rfl ?_
  refine sxo_nil ?_
  refine sxq_next ?_
  refine sxc_if rfl (fun h114 => ?_) (fun h114 => ?_)
  · exact sxc_none
  · refine sxc_skip ?_
    refine sxq_next ?_
    refine sxc_seq ?_
    refine sxc_region ?_
    refine sxo_move rfl rfl rfl ?_
    refine sxo_len rfl Try.underlying25 rfl rfl ?_
    refine sxo_conv rfl Try.underlying3 Try.underlying87 rfl rfl ?_
    refine sxo_move rfl rfl rfl ?_
    refine sxo_conv rfl Try.underlying3 Try.underlying87 rfl rfl ?_
    refine sxo_call ent58 rfl rfl rfl (fun x6 e6 => C_math_bits_Mul F (iconv .u64 (x1.length : Int)) (iconv .u64 x4) x6 e6) .nil (fun x6 e6 => ?_)
    intro _
    refine sxo_move rfl rfl rfl ?_
    refine sxo_extract rfl rfl rfl rfl ?_
    refine sxo_extract rfl rfl rfl rfl ?_
    refine sxo_assign rfl rfl rfl ?_
    refine sxo_assign rfl rfl rfl ?_
    refine sxo_nil ?_
    refine sxq_next ?_
    refine sxc_seq ?_
    refine sxc_seq ?_
    refine sxc_region ?_
    refine sxo_move rfl rfl rfl ?_
    refine sxo_gtr rfl rfl rfl rfl ?_
    refine sxo_move rfl rfl rfl ?_
    refine sxo_case 3 (decide (0 < x6.1)) [(0, .slice a2 x1.length c3), (6, .int .u64 x6.2), (26, .bool ((decide (0 < x6.1)) || (decide (9223372036854775807 < x6.2))))] (fun h9 => ?_) (fun h9 => ?_) ?_
    · refine sxo_take (os := _) rfl ?_
      refine sxo_isT (k := 23) rfl h9 ?_
      refine sxo_skip rfl rfl rfl ?_
      refine sxo_skip rfl rfl rfl ?_
      refine sxo_pick (b := true) rfl rfl rfl rfl ?_
      refine sxo_again (d := 26) (v := .bool ((decide (0 < x6.1)) || (decide (9223372036854775807 < x6.2)))) rfl (by rw [h9]; simp only [Bool.true_or]) ?_
      refine sxo_nil ?_
      exact sxq_case (lk_cons rfl (lk_cons rfl (lk_cons rfl lk_nil)))
    · refine sxo_take (os := _) rfl ?_
      refine sxo_isF (k := 23) rfl h9 ?_
      refine sxo_move rfl rfl rfl ?_
      refine sxo_gtr rfl rfl rfl rfl ?_
      refine sxo_pick (b := false) rfl rfl rfl rfl ?_
      refine sxo_again (d := 26) (v := .bool ((decide (0 < x6.1)) || (decide (9223372036854775807 < x6.2)))) rfl (by rw [h9]; simp only [Bool.false_or]) ?_
      refine sxo_nil ?_
      exact sxq_case (lk_cons rfl (lk_cons rfl (lk_cons rfl lk_nil)))
    refine sxo_take (os := _) rfl ?_
    refine sxo_nil ?_
    refine sxq_next ?_
    refine sxc_if rfl (fun h113 => ?_) (fun h113 => ?_)
    · exact sxc_none
    · refine sxc_skip ?_
      refine sxq_next ?_
      refine sxc_seq ?_
      refine sxc_region ?_
      refine sxo_move rfl rfl rfl ?_
      refine sxo_conv rfl Try.underlying87 Try.underlying3 rfl rfl ?_
      refine sxo_mk (eI_ok .i64) rfl Try.underlying25 tf3 rfl rfl rfl rfl rfl rfl rfl (fun x10 e10 a11 c12 => ?_)
      refine sxo_assign rfl rfl rfl ?_
      refine sxo_nil ?_
      refine sxq_next ?_
      refine sxc_seq ?_
      refine sxc_region ?_
      refine sxo_move rfl rfl rfl ?_
      refine sxo_move rfl rfl rfl ?_
      refine sxo_copyF (j := 0) (i := 0) (eI_ok .i64) rfl Try.underlying25 tf3 rfl rfl rfl rfl rfl (fun x13 e13 h14 => ?_)
      have h15 : x13.length = x10.length := by rw [← e13]; exact overlay_len (Nat.zero_le _)
      refine sxo_again (d := 7) (v := .slice a11 x13.length c12) rfl (by rw [h14] <;> rfl) ?_
      refine sxo_again (d := 30) (v := .slice a11 x13.length c12) rfl (by rw [h14] <;> rfl) ?_
      refine sxo_again (d := 31) (v := .slice a11 x13.length c12) rfl (by rw [h14] <;> rfl) ?_
      refine sxo_assign rfl rfl rfl ?_
      refine sxo_nil ?_
      refine sxq_next ?_
      refine sxc_join (fun ((x64, _) : (List Int × Unit)) => [(7, .slice a11 x64.length c12)]) (fun ((x64, _) : (List Int × Unit)) => []) (fun ((x64, _) : (List Int × Unit)) => [Ro (eI .i64) 3 1 (.slice a11 x64.length c12) x64]) (fun ((x64, _) : (List Int × Unit)) => []) (fun ((x64, _) : (List Int × Unit)) => M_slices_Repeat_int_int_j2 F x64) ?_ ?_
      · refine sxc_block ?_
        refine sxc_loopP (fun (((x80, x81), _) : ((List Int × Int) × Unit)) => [(7, .slice a11 x80.length c12), (8, .int .i64 x81)]) (fun (((x80, x81), _) : ((List Int × Int) × Unit)) => []) (fun (((x80, x81), _) : ((List Int × Int) × Unit)) => [Ro (eI .i64) 3 1 (.slice a11 x80.length c12) x80]) (fun (((x80, x81), _) : ((List Int × Int) × Unit)) => []) (fun k (s : ((List Int × Int) × Unit)) => M_slices_Repeat_int_int_l3 F k s.1) ((x13, ((min x1.length x10.length : Nat) : Int)), ()) F (lk_cons rfl (lk_cons rfl lk_nil)) .nil (.cons 0 rfl .nil) fk_nil (fun _ => rfl) ?_
        intro k97
        rintro ⟨⟨x80, x81⟩, _⟩
        try dsimp only
        refine sxc_meq (m' := M_slices_Repeat_int_int_b3 F (M_slices_Repeat_int_int_l3 F k97) x80 x81) rfl ?_
        refine sxc_seq ?_
        refine sxc_seq ?_
        refine sxc_region ?_
        refine sxo_move rfl rfl rfl ?_
        refine sxo_move rfl rfl rfl ?_
        refine sxo_len rfl Try.underlying25 rfl rfl ?_
        refine sxo_lss rfl rfl rfl rfl ?_
        refine sxo_nil ?_
        refine sxq_next ?_
        refine sxc_if rfl (fun h112 => ?_) (fun h112 => ?_)
        · refine sxc_skip ?_
          refine sxq_next ?_
          refine sxc_block ?_
          refine sxc_cutHR 0 rfl (fun x99 e99 a100 c101 h102 h103 => ?_)
          refine sxc_cutHR 0 rfl (fun x104 e104 a105 c106 h107 h108 => ?_)
          refine sxb_draw mixed [] [] [] .nil gk_nil 10 rfl ?_
          refine sxb_takeP 0 (.int .i64 x81) rfl rfl rfl rfl (by kernel_rfl) (by kernel_rfl) (by kernel_rfl) (by kernel_rfl) (by kernel_rfl) rfl (show _ = #[true, false, false, false, false, false, false, false, false, false] from rfl) (yv_pv rfl) ?_
          refine sxb_takeP 1 (.slice a11 x80.length c12) rfl rfl rfl rfl (by kernel_rfl) (by kernel_rfl) (by kernel_rfl) (by kernel_rfl) (by kernel_rfl) rfl (show _ = #[true, true, false, false, false, false, false, false, false, false] from rfl) (yv_pv rfl) ?_
          refine sxb_takeP 2 (.int .i64 x81) rfl rfl rfl rfl (by kernel_rfl) (by kernel_rfl) (by kernel_rfl) (by kernel_rfl) (by kernel_rfl) rfl (show _ = #[true, true, true, false, false, false, false, false, false, false] from rfl) (yv_pv rfl) ?_
          refine sxb_takeP 3 (.slice a100 x99.length c101) rfl rfl rfl rfl (by kernel_rfl) (by kernel_rfl) (by kernel_rfl) (by kernel_rfl) (by kernel_rfl) rfl (show _ = #[true, true, true, true, false, false, false, false, false, false] from rfl) (yv_cut Try.underlying25 tf3 rfl rfl rfl e99 h103 h102) ?_
          refine sxb_takeP 4 (.slice a11 x80.length c12) rfl rfl rfl rfl (by kernel_rfl) (by kernel_rfl) (by kernel_rfl) (by kernel_rfl) (by kernel_rfl) rfl (show _ = #[true, true, true, true, true, false, false, false, false, false] from rfl) (yv_pv rfl) ?_
          refine sxb_takeP 5 (.int .i64 x81) rfl rfl rfl rfl (by kernel_rfl) (by kernel_rfl) (by kernel_rfl) (by kernel_rfl) (by kernel_rfl) rfl (show _ = #[true, true, true, true, true, true, false, false, false, false] from rfl) (yv_pv rfl) ?_
          refine sxb_takeP 6 (.slice a105 x104.length c106) rfl rfl rfl rfl (by kernel_rfl) (by kernel_rfl) (by kernel_rfl) (by kernel_rfl) (by kernel_rfl) rfl (show _ = #[true, true, true, true, true, true, true, false, false, false] from rfl) (yv_cut Try.underlying25 tf3 rfl rfl rfl e104 h108 h107) ?_
          refine sxb_step 7 rfl (by kernel_rfl) (show _ = #[true, true, true, true, true, true, true, true, false, false] from rfl) ?_
          refine sxo_copyS (j := 0) (eI_ok .i64) rfl Try.underlying25 tf3 e99 h102 e104 h107 rfl rfl rfl rfl (fun x109 e109 h110 => ?_)
          have h111 : x109.length = x80.length := by rw [← e109]; exact overlay_len (by have := sub_spec e99; omega)
          refine sxo_again (d := 7) (v := .slice a11 x109.length c12) rfl (by rw [h110] <;> rfl) ?_
          refine sxo_again (d := 35) (v := .slice a11 x109.length c12) rfl (by rw [h110] <;> rfl) ?_
          refine sxo_again (d := 39) (v := .slice a11 x109.length c12) rfl (by rw [h110] <;> rfl) ?_
          refine sxo_again (d := 42) (v := .slice a11 x109.length c12) rfl (by rw [h110] <;> rfl) ?_
          refine sxo_nil ?_
          refine sxq_anyB .nil gk_nil ?_
          refine sxb_takeP 8 (.int .i64 (iadd .i64 x81 ((min x104.length x99.length : Nat) : Int))) rfl rfl rfl rfl (by kernel_rfl) (by kernel_rfl) (by kernel_rfl) (by kernel_rfl) (by kernel_rfl) rfl (show _ = #[true, true, true, true, true, true, true, true, true, false] from rfl) (yv_pv rfl) ?_
          refine sxb_takeP 9 (.int .i64 (iadd .i64 x81 ((min x104.length x99.length : Nat) : Int))) rfl rfl rfl rfl (by kernel_rfl) (by kernel_rfl) (by kernel_rfl) (by kernel_rfl) (by kernel_rfl) rfl (show _ = #[true, true, true, true, true, true, true, true, true, true] from rfl) (yv_pv rfl) ?_
          refine sxb_done (by kernel_rfl) ?_
          refine sxq_np ?_ (by intro c h; cases h)
          refine sxq_blkN ?_
          exact sxq_againP ((x109, iadd .i64 x81 ((min x104.length x99.length : Nat) : Int)), ()) (lk_cons rfl (lk_cons rfl lk_nil)) .nil (.cons 0 rfl .nil) fk_nil
        · refine sxc_exit ?_
          refine sxq_thenX ?_
          refine sxq_thenX ?_
          refine sxq_blkX ?_
          exact sxq_meetP (x80, ()) (lk_cons rfl lk_nil) .nil (.cons 0 rfl .nil) fk_nil
      · rintro ⟨x64, _⟩
        try dsimp only
        refine sxc_seq ?_
        refine sxc_region ?_
        refine sxo_move rfl rfl rfl ?_
        refine sxo_assign rfl rfl rfl ?_
        refine sxo_nil ?_
        refine sxq_next ?_
        refine sxc_ret ?_
        exact sxq_doneP (a11, c12) (.inl rfl) (res1 rfl rfl) (fun h => by subst h; rfl) (fun h => by subst h; exact (.cons 0 rfl .nil))

theorem C_walk_far (F : Nat) (x1 : List (List Int)) (a2 : Option Addr) (c3 : (Nat × List (Option Addr × Nat))) (x4 : Int) (r : List Int) (hm : M_walk_far F x1 x4 = some r) :
    Pure Try.prog 28 [.agg #[.slice a2 x1.length c3.1], .int .i64 x4] [SlN eN25 iN25 1 (.slice a2 x1.length c3.1) x1 c3.2] (Option Addr × Nat) (fun g => .slice g.1 r.length g.2) (fun g => [Ro (eI .i64) 3 1 (.slice g.1 r.length g.2) r]) (fun _ => []) := by
  refine pure_of Try.func28 rfl Try.ntmps28 rfl hm (fun w => ?_)
  refine sxc_env (l' := [(0, .agg #[.slice a2 x1.length c3.1]), (1, .int .i64 x4)]) rfl ?_
  refine sxc_seq ?_
  refine sxc_region ?_
  refine sxo_box rfl rfl rfl (fun g5 => ?_)
  refine sxo_assign rfl rfl rfl ?_
  refine sxo_nil ?_
  refine sxq_next ?_
  refine sxc_seq ?_
  refine sxc_region ?_
  refine sxo_slit (vs := [.int .i64 (-1)]) (ys := ([-1] : List Int)) (eI_ok .i64) (by decide) rfl Try.underlying25 tf3 rfl rfl rfl rfl rfl (by decide) (fun a6 c7 => ?_)
  refine sxo_fieldAddr rfl rfl ff24_0 rfl ?_
  refine sxo_loadB (i := 0) rfl rfl tf22 rfl rfl (fun _ => rfl) rfl rfl ?_
  refine sxo_len rfl Try.underlying22 rfl rfl ?_
  refine sxo_call ent50 rfl rfl rfl (fun x8 e8 => C_slices_Repeat_int_int F ([-1] : List Int) a6 c7 (x1.length : Int) x8 e8) (.consR 0 (Ro (eI .i64) 3 1 (.slice a6 ([-1] : List Int).length c7) ([-1] : List Int)) rfl .nil) (fun x8 e8 => ?_)
  rintro ⟨a9, c10⟩
  refine sxo_assign rfl rfl rfl ?_
  refine sxo_nil ?_
  refine sxq_next ?_
  refine sxc_seq ?_
  refine sxc_region ?_
  refine sxo_move rfl rfl rfl ?_
  refine sxo_move rfl rfl rfl ?_
  refine sxo_indexR (j := 0) rfl Try.underlying25 tf3 rfl rfl rfl rfl (fun x11 e11 g12 h13 => ?_)
  refine sxo_storeL (j := 0) (y' := 0) (eI_ok .i64) rfl rfl rfl tf3 rfl h13 (idx_get e11).2.1 rfl (fun x14 e14 h15 => ?_)
  have h16 : x14.length = x8.length := by rw [← e14, List.length_set]
  refine sxo_again (d := 5) (v := .slice a9 x14.length c10) rfl h15 ?_
  refine sxo_again (d := 14) (v := .slice a9 x14.length c10) rfl h15 ?_
  refine sxo_again (d := 15) (v := .slice a9 x14.length c10) rfl h15 ?_
  refine sxo_nil ?_
  refine sxq_next ?_
  refine sxc_join (fun ((x1033, _) : (List Int × Unit)) => [(5, .slice a9 x1033.length c10)]) (fun ((x1033, _) : (List Int × Unit)) => []) (fun ((x1033, _) : (List Int × Unit)) => [Ro (eI .i64) 3 1 (.slice a9 x1033.length c10) x1033]) (fun ((x1033, _) : (List Int × Unit)) => []) (fun ((x1033, _) : (List Int × Unit)) => M_walk_far_j29 F x1033) ?_ ?_
  · refine sxc_seq ?_
    refine sxc_region ?_
    refine sxo_move rfl rfl rfl ?_
    refine sxo_slit (vs := [.int .i64 x4]) (ys := ([x4] : List Int)) (eI_ok .i64) (by decide) rfl Try.underlying25 tf3 rfl rfl rfl rfl rfl (by decide) (fun a1034 c1035 => ?_)
    refine sxo_assign rfl rfl rfl ?_
    refine sxo_nil ?_
    refine sxq_next ?_
    refine sxc_block ?_
    refine sxc_loopP (fun (((x1358, x1362), (a1359, c1360, g1361)) : ((List Int × List Int) × (Option Addr × Nat × List Int))) => [(2, .pointer (some ⟨g5, 0, none⟩)), (5, .slice a9 x1358.length c10), (6, (qv a1359 g1361.length x1362.length c1360 1))]) (fun (((x1358, x1362), (a1359, c1360, g1361)) : ((List Int × List Int) × (Option Addr × Nat × List Int))) => [⟨g5, 24, [.slice a2 x1.length c3.1]⟩]) (fun (((x1358, x1362), (a1359, c1360, g1361)) : ((List Int × List Int) × (Option Addr × Nat × List Int))) => [Ro (eI .i64) 3 1 (.slice a9 x1358.length c10) x1358, Ro (eI .i64) 3 1 (.slice a1359 (g1361 ++ x1362).length c1360) (g1361 ++ x1362)]) (fun (((x1358, x1362), (a1359, c1360, g1361)) : ((List Int × List Int) × (Option Addr × Nat × List Int))) => [SlN eN25 iN25 1 (.slice a2 x1.length c3.1) x1 c3.2]) (fun k (s : ((List Int × List Int) × (Option Addr × Nat × List Int))) => M_walk_far_l48 F x1 k s.1) ((x14, ([x4] : List Int)), (a1034, c1035, ([] : List Int))) F (lk_cons rfl (lk_cons rfl (lk_cons rfl lk_nil))) (.cons 0 rfl .nil) (.cons 1 rfl (.cons 0 rfl .nil)) (fk_cons 0 rfl fk_nil) (fun _ => rfl) ?_
    intro k1706
    rintro ⟨⟨x1358, x1362⟩, ⟨a1359, c1360, g1361⟩⟩
    try dsimp only
    refine sxc_meq (m' := M_walk_far_b48 F x1 (M_walk_far_l48 F x1 k1706) x1358 x1362) rfl ?_
    refine sxc_seq ?_
    refine sxc_seq ?_
    refine sxc_region ?_
    refine sxo_move rfl rfl rfl ?_
    refine sxo_lenQ rfl Try.underlying25 rfl rfl ?_
    refine sxo_gtr rfl rfl rfl rfl ?_
    refine sxo_nil ?_
    refine sxq_next ?_
    refine sxc_if rfl (fun h2049 => ?_) (fun h2049 => ?_)
    · refine sxc_skip ?_
      refine sxq_next ?_
      refine sxc_join (fun (((x1875, x1879), (a1876, c1877, g1878)) : ((List Int × List Int) × (Option Addr × Nat × List Int))) => [(2, .pointer (some ⟨g5, 0, none⟩)), (5, .slice a9 x1875.length c10), (6, (qv a1876 g1878.length x1879.length c1877 1))]) (fun (((x1875, x1879), (a1876, c1877, g1878)) : ((List Int × List Int) × (Option Addr × Nat × List Int))) => [⟨g5, 24, [.slice a2 x1.length c3.1]⟩]) (fun (((x1875, x1879), (a1876, c1877, g1878)) : ((List Int × List Int) × (Option Addr × Nat × List Int))) => [Ro (eI .i64) 3 1 (.slice a9 x1875.length c10) x1875, Ro (eI .i64) 3 1 (.slice a1876 (g1878 ++ x1879).length c1877) (g1878 ++ x1879)]) (fun (((x1875, x1879), (a1876, c1877, g1878)) : ((List Int × List Int) × (Option Addr × Nat × List Int))) => [SlN eN25 iN25 1 (.slice a2 x1.length c3.1) x1 c3.2]) (fun (((x1875, x1879), _) : ((List Int × List Int) × (Option Addr × Nat × List Int))) => M_walk_far_j53 F (M_walk_far_l48 F x1 k1706) x1875 x1879) ?_ ?_
      · refine sxc_block ?_
        refine sxc_seq ?_
        refine sxc_region ?_
        refine sxo_move rfl rfl rfl ?_
        refine sxo_indexQ (hs := g1361) (xs := x1362) (j := 1) rfl Try.underlying25 tf3 rfl rfl rfl rfl (fun x1882 e1882 g1883 h1884 => ?_)
        refine sxo_loadR (j := 1) (y := x1882) (eI_ok .i64) rfl rfl tf3 rfl h1884 (que_get e1882) (fun _ => rfl) rfl rfl ?_
        refine sxo_assign rfl rfl rfl ?_
        refine sxo_nil ?_
        refine sxq_next ?_
        refine sxc_seq ?_
        refine sxc_region ?_
        refine sxo_fieldAddr rfl rfl ff24_0 rfl ?_
        refine sxo_loadB (i := 0) rfl rfl tf22 rfl rfl (fun _ => rfl) rfl rfl ?_
        refine sxo_move rfl rfl rfl ?_
        refine sxo_indexN (j := 0) eN25_ok (by decide) rfl Try.underlying22 tf25 rfl rfl rfl rfl (fun x1885 e1885 g1888 b1886 o1887 => ?_)
        refine sxo_loadF (j := 0) rfl rfl tf25 rfl rfl (fun _ => rfl) rfl rfl ?_
        refine sxo_len rfl Try.underlying25 rfl rfl ?_
        refine sxo_move rfl rfl rfl ?_
        refine sxo_nil ?_
        refine sxq_next ?_
        refine sxc_block ?_
        refine sxc_loopP (fun (((x1940, x1944, x1945), (a1941, c1942, g1943)) : ((List Int × List Int × Int) × (Option Addr × Nat × List Int))) => [(2, .pointer (some ⟨g5, 0, none⟩)), (5, .slice a9 x1940.length c10), (6, (qv a1941 g1943.length x1944.length c1942 1)), (7, .int .i64 x1882), (32, .slice g1888.1 x1885.length g1888.2), (33, .int .i64 (x1885.length : Int)), (34, .int .i64 x1945)]) (fun (((x1940, x1944, x1945), (a1941, c1942, g1943)) : ((List Int × List Int × Int) × (Option Addr × Nat × List Int))) => [⟨g5, 24, [.slice a2 x1.length c3.1]⟩]) (fun (((x1940, x1944, x1945), (a1941, c1942, g1943)) : ((List Int × List Int × Int) × (Option Addr × Nat × List Int))) => [Ro (eI .i64) 3 1 (.slice a9 x1940.length c10) x1940, Ro (eI .i64) 3 1 (.slice a1941 (g1943 ++ x1944).length c1942) (g1943 ++ x1944)]) (fun (((x1940, x1944, x1945), (a1941, c1942, g1943)) : ((List Int × List Int × Int) × (Option Addr × Nat × List Int))) => [Sl (eI .i64) 1 (.slice g1888.1 x1885.length g1888.2) x1885, SlN eN25 iN25 1 (.slice a2 x1.length c3.1) x1 c3.2]) (fun k (s : ((List Int × List Int × Int) × (Option Addr × Nat × List Int))) => M_walk_far_l56 F (M_walk_far_l48 F x1 k1706) x1882 x1885 k s.1) ((x1358, x1362, 0), (a1359, c1360, g1361)) F (lk_cons rfl (lk_cons rfl (lk_cons rfl (lk_cons rfl (lk_cons rfl (lk_cons rfl (lk_cons rfl lk_nil))))))) (.cons 0 rfl .nil) (.cons 0 rfl (.cons 0 rfl .nil)) (fk_cons 1 rfl (fk_cons 2 rfl fk_nil)) (fun _ => rfl) ?_
        intro k1997
        rintro ⟨⟨x1940, x1944, x1945⟩, ⟨a1941, c1942, g1943⟩⟩
        try dsimp only
        refine sxc_meq (m' := M_walk_far_b56 F (M_walk_far_l48 F x1 k1706) x1882 x1885 (M_walk_far_l56 F (M_walk_far_l48 F x1 k1706) x1882 x1885 k1997) x1940 x1944 x1945) rfl ?_
        refine sxc_seq ?_
        refine sxc_region ?_
        refine sxo_lss rfl rfl rfl rfl ?_
        refine sxo_nil ?_
        refine sxq_next ?_
        refine sxc_seq ?_
        refine sxc_if rfl (fun h2048 => ?_) (fun h2048 => ?_)
        · refine sxc_skip ?_
          refine sxq_next ?_
          refine sxc_join (fun (((x2021, x2025), (a2022, c2023, g2024)) : ((List Int × List Int) × (Option Addr × Nat × List Int))) => [(2, .pointer (some ⟨g5, 0, none⟩)), (5, .slice a9 x2021.length c10), (6, (qv a2022 g2024.length x2025.length c2023 1)), (7, .int .i64 x1882), (32, .slice g1888.1 x1885.length g1888.2), (33, .int .i64 (x1885.length : Int)), (34, .int .i64 x1945)]) (fun (((x2021, x2025), (a2022, c2023, g2024)) : ((List Int × List Int) × (Option Addr × Nat × List Int))) => [⟨g5, 24, [.slice a2 x1.length c3.1]⟩]) (fun (((x2021, x2025), (a2022, c2023, g2024)) : ((List Int × List Int) × (Option Addr × Nat × List Int))) => [Ro (eI .i64) 3 1 (.slice a9 x2021.length c10) x2021, Ro (eI .i64) 3 1 (.slice a2022 (g2024 ++ x2025).length c2023) (g2024 ++ x2025)]) (fun (((x2021, x2025), (a2022, c2023, g2024)) : ((List Int × List Int) × (Option Addr × Nat × List Int))) => [Sl (eI .i64) 1 (.slice g1888.1 x1885.length g1888.2) x1885, SlN eN25 iN25 1 (.slice a2 x1.length c3.1) x1 c3.2]) (fun (((x2021, x2025), _) : ((List Int × List Int) × (Option Addr × Nat × List Int))) => M_walk_far_j57 F (M_walk_far_l56 F (M_walk_far_l48 F x1 k1706) x1882 x1885 k1997) x1945 x2021 x2025) ?_ ?_
          · refine sxc_block ?_
            refine sxc_seq ?_
            refine sxc_region ?_
            refine sxo_indexF (j := 0) (eI_ok .i64) (by decide) rfl Try.underlying25 tf3 rfl rfl rfl rfl (fun x2026 e2026 b2027 o2028 => ?_)
            refine sxo_loadF (j := 0) rfl rfl tf3 rfl rfl (fun _ => rfl) rfl rfl ?_
            refine sxo_assign rfl rfl rfl ?_
            refine sxo_nil ?_
            refine sxq_next ?_
            refine sxc_seq ?_
            refine sxc_region ?_
            refine sxo_move rfl rfl rfl ?_
            refine sxo_move rfl rfl rfl ?_
            refine sxo_indexR (j := 0) rfl Try.underlying25 tf3 rfl rfl rfl rfl (fun x2029 e2029 g2030 h2031 => ?_)
            refine sxo_loadR (j := 0) (y := x2029) (eI_ok .i64) rfl rfl tf3 rfl h2031 (idx_get e2029).2.2 (fun _ => rfl) rfl rfl ?_
            refine sxo_lss rfl rfl rfl rfl ?_
            refine sxo_nil ?_
            refine sxq_next ?_
            refine sxc_if rfl (fun h2047 => ?_) (fun h2047 => ?_)
            · refine sxc_seq ?_
              refine sxc_region ?_
              refine sxo_move rfl rfl rfl ?_
              refine sxo_move rfl rfl rfl ?_
              refine sxo_move rfl rfl rfl ?_
              refine sxo_move rfl rfl rfl ?_
              refine sxo_indexR (j := 0) rfl Try.underlying25 tf3 rfl rfl rfl rfl (fun x2032 e2032 g2033 h2034 => ?_)
              refine sxo_loadR (j := 0) (y := x2032) (eI_ok .i64) rfl rfl tf3 rfl h2034 (idx_get e2032).2.2 (fun _ => rfl) rfl rfl ?_
              refine sxo_add rfl rfl rfl rfl ?_
              refine sxo_indexR (j := 0) rfl Try.underlying25 tf3 rfl rfl rfl rfl (fun x2035 e2035 g2036 h2037 => ?_)
              refine sxo_storeL (j := 0) (y' := iadd .i64 x2032 1) (eI_ok .i64) rfl rfl rfl tf3 rfl h2037 (idx_get e2035).2.1 rfl (fun x2038 e2038 h2039 => ?_)
              have h2040 : x2038.length = x1940.length := by rw [← e2038, List.length_set]
              refine sxo_again (d := 5) (v := .slice a9 x2038.length c10) rfl h2039 ?_
              refine sxo_again (d := 38) (v := .slice a9 x2038.length c10) rfl h2039 ?_
              refine sxo_again (d := 43) (v := .slice a9 x2038.length c10) rfl h2039 ?_
              refine sxo_again (d := 45) (v := .slice a9 x2038.length c10) rfl h2039 ?_
              refine sxo_nil ?_
              refine sxq_next ?_
              refine sxc_region ?_
              refine sxo_move rfl rfl rfl ?_
              refine sxo_move rfl rfl rfl ?_
              refine sxo_slit (vs := [.int .i64 x2026]) (ys := ([x2026] : List Int)) (eI_ok .i64) (by decide) rfl Try.underlying25 tf3 rfl rfl rfl rfl rfl (by decide) (fun a2041 c2042 => ?_)
              refine sxo_appQ (hs := g1943) (xs := x1944) 2 (eI_ok .i64) rfl Try.underlying25 tf3 rfl rfl rfl rfl rfl (.inl ⟨0, _, rfl⟩) rfl rfl (fun x2043 e2043 a2044 c2045 g2046 => ?_)
              refine sxo_assign rfl rfl rfl ?_
              refine sxo_nil ?_
              refine sxq_blkN ?_
              exact sxq_meetP ((x2038, x2043), (a2044, c2045, g2046)) (lk_cons rfl (lk_cons rfl (lk_cons rfl (lk_cons rfl (lk_cons rfl (lk_cons rfl (lk_cons rfl lk_nil))))))) (.cons 0 rfl .nil) (.cons 2 rfl (.cons 0 rfl .nil)) (fk_cons 1 rfl (fk_cons 2 rfl fk_nil))
            · refine sxc_skip ?_
              refine sxq_blkN ?_
              exact sxq_meetP ((x1940, x1944), (a1941, c1942, g1943)) (lk_cons rfl (lk_cons rfl (lk_cons rfl (lk_cons rfl (lk_cons rfl (lk_cons rfl (lk_cons rfl lk_nil))))))) (.cons 0 rfl .nil) (.cons 0 rfl (.cons 0 rfl .nil)) (fk_cons 1 rfl (fk_cons 2 rfl fk_nil))
          · rintro ⟨⟨x2021, x2025⟩, ⟨a2022, c2023, g2024⟩⟩
            try dsimp only
            refine sxc_region ?_
            refine sxo_add rfl rfl rfl rfl ?_
            refine sxo_move rfl rfl rfl ?_
            refine sxo_nil ?_
            exact sxq_againP ((x2021, x2025, iadd .i64 x1945 1), (a2022, c2023, g2024)) (lk_cons rfl (lk_cons rfl (lk_cons rfl (lk_cons rfl (lk_cons rfl (lk_cons rfl (lk_cons rfl lk_nil))))))) (.cons 0 rfl .nil) (.cons 0 rfl (.cons 0 rfl .nil)) (fk_cons 0 rfl (fk_cons 1 rfl fk_nil))
        · refine sxc_exit ?_
          refine sxq_thenX ?_
          refine sxq_thenX ?_
          refine sxq_blkX ?_
          refine sxq_blkN ?_
          exact sxq_meetP ((x1940, x1944), (a1941, c1942, g1943)) (lk_cons rfl (lk_cons rfl (lk_cons rfl lk_nil))) (.cons 0 rfl .nil) (.cons 0 rfl (.cons 0 rfl .nil)) (fk_cons 1 rfl fk_nil)
      · rintro ⟨⟨x1875, x1879⟩, ⟨a1876, c1877, g1878⟩⟩
        try dsimp only
        refine sxc_region ?_
        refine sxo_move rfl rfl rfl ?_
        refine sxo_cutQ (hs := g1878) (xs := x1879) (j := 1) rfl Try.underlying25 tf3 rfl rfl rfl rfl (fun x1880 e1880 g1881 => ?_)
        refine sxo_assign rfl rfl rfl ?_
        refine sxo_nil ?_
        exact sxq_againP ((x1875, x1880), (a1876, c1877, g1881)) (lk_cons rfl (lk_cons rfl (lk_cons rfl lk_nil))) (.cons 0 rfl .nil) (.cons 1 rfl (.cons 0 rfl .nil)) (fk_cons 0 rfl fk_nil)
    · refine sxc_exit ?_
      refine sxq_thenX ?_
      refine sxq_thenX ?_
      refine sxq_blkX ?_
      exact sxq_meetP (x1358, ()) (lk_cons rfl lk_nil) .nil (.cons 0 rfl .nil) fk_nil
  · rintro ⟨x1033, _⟩
    try dsimp only
    refine sxc_seq ?_
    refine sxc_region ?_
    refine sxo_move rfl rfl rfl ?_
    refine sxo_assign rfl rfl rfl ?_
    refine sxo_nil ?_
    refine sxq_next ?_
    refine sxc_ret ?_
    exact sxq_doneP (a9, c10) (.inl rfl) (res1 rfl rfl) (fun h => by subst h; rfl) (fun h => by subst h; exact (.cons 0 rfl .nil))

theorem C_walk_Far (F : Nat) (x1 : List (List Int)) (a2 : Option Addr) (c3 : (Nat × List (Option Addr × Nat))) (x4 : Int) (r : (List Int × Int)) (hm : M_walk_Far F x1 x4 = some r) :
    Pure Try.prog 10 [.agg #[.slice a2 x1.length c3.1], .int .i64 x4] [SlN eN25 iN25 1 (.slice a2 x1.length c3.1) x1 c3.2] (Option Addr × Nat) (fun g => .tuple #[.slice g.1 r.1.length g.2, .int .i64 r.2]) (fun g => [Ro (eI .i64) 3 1 (.slice g.1 r.1.length g.2) r.1]) (fun _ => []) := by
  refine pure_of Try.func10 rfl Try.ntmps10 rfl hm (fun w => ?_)
  refine sxc_env (l' := [(0, .agg #[.slice a2 x1.length c3.1]), (1, .int .i64 x4)]) rfl ?_
  refine sxc_seq ?_
  refine sxc_region ?_
  refine sxo_box rfl rfl rfl (fun g5 => ?_)
  refine sxo_assign rfl rfl rfl ?_
  refine sxo_assign rfl rfl rfl ?_
  refine sxo_nil ?_
  refine sxq_next ?_
  refine sxc_seq ?_
  refine sxc_seq ?_
  refine sxc_region ?_
  refine sxo_loadB (i := 0) rfl rfl tf24 rfl rfl (by simp) rfl rfl ?_
  refine sxo_move rfl rfl rfl ?_
  refine sxo_slit (vs := [.int .i64 x4]) (ys := ([x4] : List Int)) (eI_ok .i64) (by decide) rfl Try.underlying25 tf3 rfl rfl rfl rfl rfl (by decide) (fun a10 c11 => ?_)
  refine sxo_call ent27 rfl rfl rfl (fun x12 e12 => C_walk_check F x1 a2 c3 ([x4] : List Int) a10 c11 x12 e12) (.consF 0 rfl (.consR 0 (Ro (eI .i64) 3 1 (.slice a10 ([x4] : List Int).length c11) ([x4] : List Int)) rfl .nil)) (fun x12 e12 => ?_)
  intro _
  refine sxo_assign rfl rfl rfl ?_
  refine sxo_nil ?_
  refine sxq_next ?_
  refine sxc_seq ?_
  refine sxc_region ?_
  refine sxo_move rfl rfl rfl ?_
  refine sxo_neq rfl rfl rfl rfl ?_
  refine sxo_nil ?_
  refine sxq_next ?_
  refine sxc_if rfl (fun h16 => ?_) (fun h16 => ?_)
  · refine sxc_seq ?_
    refine sxc_region ?_
    refine sxo_move rfl rfl rfl ?_
    refine sxo_assign rfl rfl rfl ?_
    refine sxo_assign rfl rfl rfl ?_
    refine sxo_nil ?_
    refine sxq_next ?_
    refine sxc_ret ?_
    refine sxq_thenR ?_
    refine sxq_nilrow Int (eI .i64) 3 1 ?_
    exact sxq_doneP (none, 0) (.inl rfl) (res2 rfl rfl rfl) (fun h => by subst h; rfl) (fun h => by subst h; exact (.cons 0 rfl .nil))
  · refine sxc_skip ?_
    refine sxq_next ?_
    refine sxc_seq ?_
    refine sxc_region ?_
    refine sxo_loadB (i := 0) rfl rfl tf24 rfl rfl (by simp) rfl rfl ?_
    refine sxo_move rfl rfl rfl ?_
    refine sxo_call ent28 rfl rfl rfl (fun x13 e13 => C_walk_far F x1 a2 c3 x4 x13 e13) (.consF 0 rfl .nil) (fun x13 e13 => ?_)
    rintro ⟨a14, c15⟩
    refine sxo_assign rfl rfl rfl ?_
    refine sxo_assign rfl rfl rfl ?_
    refine sxo_nil ?_
    refine sxq_next ?_
    refine sxc_ret ?_
    exact sxq_doneP (a14, c15) (.inl rfl) (res2 rfl rfl rfl) (fun h => by subst h; rfl) (fun h => by subst h; exact (.cons 0 rfl .nil))

theorem C_graph_Built (F : Nat) (x1 : Int) (x2 : List (Int × Int)) (a3 : Option Addr) (c4 : Nat) (r : List (List Int)) (hm : M_graph_Built F x1 x2 = some r) :
    Pure Try.prog 38 [.int .i64 x1, .slice a3 x2.length c4] [Sl eS51 2 (.slice a3 x2.length c4) x2] (Option Addr × (Nat × List (Option Addr × Nat))) (fun g => .agg #[.slice g.1 r.length g.2.1]) (fun g => [RoN eN25 rN25 25 1 (.slice g.1 r.length g.2.1) r g.2.2 []]) (fun _ => []) := by
  refine pure_of Try.func38 rfl Try.ntmps38 rfl hm (fun w => ?_)
  refine sxc_env (l' := [(0, .int .i64 x1), (1, .slice a3 x2.length c4)]) rfl ?_
  refine sxc_seq ?_
  refine sxc_region ?_
  refine sxo_alloc rfl tf24 rfl (fun g5 => ?_)
  refine sxo_nil ?_
  refine sxq_next ?_
  refine sxc_seq ?_
  refine sxc_region ?_
  refine sxo_move rfl rfl rfl ?_
  refine sxo_mkN (rin := rN25) (y := ([] : List Int)) (q := ((none, 0) : Option Addr × Nat)) eN25_ok (by decide) rN25_nil rfl Try.underlying22 tf25 rfl rfl rfl rfl rfl rfl (fun x6 e6 a7 c8 => ?_)
  refine sxo_build (cells := [.slice a7 x6.length c8]) rfl st24 rfl (by kernel_rfl) rfl ?_
  refine sxo_alloc rfl tf24 rfl (fun g9 => ?_)
  refine sxo_storeB (i := 0) rfl rfl rfl tf24 rfl rfl rfl rfl rfl ?_
  refine sxo_nil ?_
  refine sxq_next ?_
  refine sxc_join (fun ((x171, g170) : (List (List Int) × List (Option Addr × Nat))) => [(4, .pointer (some ⟨g5, 0, none⟩)), (5, .pointer (some ⟨g9, 0, none⟩))]) (fun ((x171, g170) : (List (List Int) × List (Option Addr × Nat))) => [⟨g9, 24, [.slice a7 x171.length c8]⟩, ⟨g5, 24, [.slice none 0 0]⟩]) (fun ((x171, g170) : (List (List Int) × List (Option Addr × Nat))) => [RoN eN25 rN25 25 1 (.slice a7 x171.length c8) x171 g170 []]) (fun ((x171, g170) : (List (List Int) × List (Option Addr × Nat))) => []) (fun ((x171, _) : (List (List Int) × List (Option Addr × Nat))) => M_graph_Built_j2 F x171) ?_ ?_
  · refine sxc_seq ?_
    refine sxc_region ?_
    refine sxo_move rfl rfl rfl ?_
    refine sxo_len rfl Try.underlying45 rfl rfl ?_
    refine sxo_move rfl rfl rfl ?_
    refine sxo_nil ?_
    refine sxq_next ?_
    refine sxc_block ?_
    refine sxc_loopP (fun (((x224, x226), g225) : ((Int × List (List Int)) × List (Option Addr × Nat))) => [(4, .pointer (some ⟨g5, 0, none⟩)), (5, .pointer (some ⟨g9, 0, none⟩)), (11, .slice a3 x2.length c4), (12, .int .i64 (x2.length : Int)), (13, .int .i64 x224)]) (fun (((x224, x226), g225) : ((Int × List (List Int)) × List (Option Addr × Nat))) => [⟨g9, 24, [.slice a7 x226.length c8]⟩, ⟨g5, 24, [.slice none 0 0]⟩]) (fun (((x224, x226), g225) : ((Int × List (List Int)) × List (Option Addr × Nat))) => [RoN eN25 rN25 25 1 (.slice a7 x226.length c8) x226 g225 []]) (fun (((x224, x226), g225) : ((Int × List (List Int)) × List (Option Addr × Nat))) => [Sl eS51 2 (.slice a3 x2.length c4) x2]) (fun k (s : ((Int × List (List Int)) × List (Option Addr × Nat))) => M_graph_Built_l3 F x2 k s.1) ((0, x6), (List.replicate x6.length ((none, 0) : Option Addr × Nat))) F (lk_cons rfl (lk_cons rfl (lk_cons rfl (lk_cons rfl (lk_cons rfl lk_nil))))) (.cons 0 rfl (.cons 0 rfl .nil)) (.cons 0 rfl .nil) (fk_cons 0 rfl fk_nil) (fun _ => rfl) ?_
    intro k279
    rintro ⟨⟨x224, x226⟩, g225⟩
    try dsimp only
    refine sxc_meq (m' := M_graph_Built_b3 F x2 (M_graph_Built_l3 F x2 k279) x224 x226) rfl ?_
    refine sxc_seq ?_
    refine sxc_region ?_
    refine sxo_lss rfl rfl rfl rfl ?_
    refine sxo_nil ?_
    refine sxq_next ?_
    refine sxc_seq ?_
    refine sxc_if rfl (fun h331 => ?_) (fun h331 => ?_)
    · refine sxc_skip ?_
      refine sxq_next ?_
      refine sxc_seq ?_
      refine sxc_block ?_
      refine sxc_seq ?_
      refine sxc_region ?_
      refine sxo_indexF (j := 0) eS51_ok (by decide) rfl Try.underlying45 tf51 rfl rfl rfl rfl (fun x306 e306 b307 o308 => ?_)
      refine sxo_loadF (j := 0) rfl rfl tf51 rfl rfl (by simp) rfl rfl ?_
      refine sxo_alloc rfl tf51 rfl (fun g309 => ?_)
      refine sxo_storeB (i := 0) rfl rfl rfl tf51 rfl rfl rfl rfl rfl ?_
      refine sxo_nil ?_
      refine sxq_next ?_
      refine sxc_idxP (j := 0) rfl (fun x310 e310 g311 h312 g313 h314 => ?_)
      replace h314 : a7 = some ⟨g313, 0, none⟩ := h314
      have h315 := own_of (k := x226.length) (c := c8) h314
      refine sxc_openN (i := 0) rfl h312 (List.not_mem_nil) ?_
      refine sxc_idxP (j := 1) rfl (fun x316 e316 g317 h318 g319 h320 => ?_)
      replace h320 : a7 = some ⟨g319, 0, none⟩ := h320
      have h321 := own_of (k := x226.length) (c := c8) h320
      refine sxb_draw mixed [15] [⟨g309, 51, [.int .i64 x306.1, .int .i64 x306.2]⟩, ⟨g9, 24, [.slice a7 x226.length c8]⟩, ⟨g5, 24, [.slice none 0 0]⟩] [CellsAt b307 o308 (eS51 x306), Sl eS51 2 (.slice a3 x2.length c4) x2, CellsAt g313 (x306.1.toNat * 1) (eN25 (x310, g311)), CellsAt g319 (x306.1.toNat * 1) (eN25 (x316, g317))] (.cons 0 rfl (.cons 0 rfl (.cons 0 rfl .nil))) (gk_F 0 rfl (gk_F 1 rfl (gk_R 1 rfl (at_rowN eN25_ok h312 h314) (gk_R 1 rfl (at_rowN eN25_ok h318 h320) gk_nil)))) 16 rfl ?_
      refine sxb_takeP 0 (.pointer (some ⟨g9, 0, none⟩)) rfl rfl rfl rfl (by kernel_rfl) (by kernel_rfl) (by kernel_rfl) (by kernel_rfl) (by kernel_rfl) rfl (show _ = #[true, false, false, false, false, false, false, false, false, false, false, false, false, false, false, false] from rfl) (yv_fieldAddr rfl ff24_0) ?_
      refine sxb_takeB 1 (.slice a7 x226.length c8) rfl rfl rfl rfl (by kernel_rfl) (by kernel_rfl) (by kernel_rfl) (by kernel_rfl) (by kernel_rfl) rfl (show _ = #[true, true, false, false, false, false, false, false, false, false, false, false, false, false, false, false] from rfl) (yv_loadB (i := 1) rfl tf22 rfl rfl (fun _ => rfl) rfl) ?_
      refine sxb_takeP 2 (.pointer (some ⟨g309, 0, none⟩)) rfl rfl rfl rfl (by kernel_rfl) (by kernel_rfl) (by kernel_rfl) (by kernel_rfl) (by kernel_rfl) rfl (show _ = #[true, true, true, false, false, false, false, false, false, false, false, false, false, false, false, false] from rfl) (yv_fieldAddr rfl ff51_0) ?_
      refine sxb_takeB 3 (.int .i64 x306.1) rfl rfl rfl rfl (by kernel_rfl) (by kernel_rfl) (by kernel_rfl) (by kernel_rfl) (by kernel_rfl) rfl (show _ = #[true, true, true, true, false, false, false, false, false, false, false, false, false, false, false, false] from rfl) (yv_loadB (i := 0) rfl tf3 rfl rfl (fun _ => rfl) rfl) ?_
      refine sxb_takeP 4 (.pointer (some ⟨g9, 0, none⟩)) rfl rfl rfl rfl (by kernel_rfl) (by kernel_rfl) (by kernel_rfl) (by kernel_rfl) (by kernel_rfl) rfl (show _ = #[true, true, true, true, true, false, false, false, false, false, false, false, false, false, false, false] from rfl) (yv_fieldAddr rfl ff24_0) ?_
      refine sxb_takeB 5 (.slice a7 x226.length c8) rfl rfl rfl rfl (by kernel_rfl) (by kernel_rfl) (by kernel_rfl) (by kernel_rfl) (by kernel_rfl) rfl (show _ = #[true, true, true, true, true, true, false, false, false, false, false, false, false, false, false, false] from rfl) (yv_loadB (i := 1) rfl tf22 rfl rfl (fun _ => rfl) rfl) ?_
      refine sxb_takeP 6 (.pointer (some ⟨g309, 0, none⟩)) rfl rfl rfl rfl (by kernel_rfl) (by kernel_rfl) (by kernel_rfl) (by kernel_rfl) (by kernel_rfl) rfl (show _ = #[true, true, true, true, true, true, true, false, false, false, false, false, false, false, false, false] from rfl) (yv_fieldAddr rfl ff51_0) ?_
      refine sxb_takeB 7 (.int .i64 x306.1) rfl rfl rfl rfl (by kernel_rfl) (by kernel_rfl) (by kernel_rfl) (by kernel_rfl) (by kernel_rfl) rfl (show _ = #[true, true, true, true, true, true, true, true, false, false, false, false, false, false, false, false] from rfl) (yv_loadB (i := 0) rfl tf3 rfl rfl (fun _ => rfl) rfl) ?_
      refine sxb_again (d := 22) (v := .slice (some ⟨g313, 0, none⟩) x226.length c8) rfl (by rw [h314] <;> rfl) ?_
      refine sxb_takeP 8 (.pointer (some ⟨g313, x306.1.toNat * 1, none⟩)) rfl rfl rfl rfl (by kernel_rfl) (by kernel_rfl) (by kernel_rfl) (by kernel_rfl) (by kernel_rfl) rfl (show _ = #[true, true, true, true, true, true, true, true, true, false, false, false, false, false, false, false] from rfl) (yv_idxO Try.underlying22 tf25 rfl rfl (idx_get e310).1 (idx_lt e310)) ?_
      refine sxb_again (d := 22) (v := .slice a7 x226.length c8) rfl (by rw [h314] <;> rfl) ?_
      refine sxb_take 9 (.slice g311.1 x310.length g311.2) [[15]] rfl rfl rfl rfl (by kernel_rfl) (by kernel_rfl) (by kernel_rfl) (by kernel_rfl) (by kernel_rfl) (by kernel_rfl) rfl (show _ = #[true, true, true, true, true, true, true, true, true, true, false, false, false, false, false, false] from rfl) (yv_loadF (j := 2) rfl tf25 rfl rfl (fun _ => rfl) rfl) ?_
      refine sxb_takeP 10 (.pointer (some ⟨g309, 1, none⟩)) rfl rfl rfl rfl (by kernel_rfl) (by kernel_rfl) (by kernel_rfl) (by kernel_rfl) (by kernel_rfl) rfl (show _ = #[true, true, true, true, true, true, true, true, true, true, true, false, false, false, false, false] from rfl) (yv_fieldAddr rfl ff51_1) ?_
      refine sxb_takeB 11 (.int .i64 x306.2) rfl rfl rfl rfl (by kernel_rfl) (by kernel_rfl) (by kernel_rfl) (by kernel_rfl) (by kernel_rfl) rfl (show _ = #[true, true, true, true, true, true, true, true, true, true, true, true, false, false, false, false] from rfl) (yv_loadB (i := 0) rfl tf3 rfl rfl (fun _ => rfl) rfl) ?_
      refine sxb_step 12 rfl (by kernel_rfl) (show _ = #[true, true, true, true, true, true, true, true, true, true, true, true, true, false, false, false] from rfl) ?_
      refine sxo_slit (vs := [.int .i64 x306.2]) (ys := ([x306.2] : List Int)) (eI_ok .i64) (by decide) rfl Try.underlying25 tf3 rfl rfl rfl rfl rfl (by decide) (fun a322 c323 => ?_)
      refine sxo_nil ?_
      refine sxq_anyB (.cons 0 rfl (.cons 0 rfl (.cons 0 rfl .nil))) (gk_F 0 rfl (gk_F 1 rfl (gk_R 2 rfl (at_rowN eN25_ok h312 h314) (gk_R 2 rfl (at_rowN eN25_ok h318 h320) gk_nil)))) ?_
      refine sxb_step 13 rfl (by kernel_rfl) (show _ = #[true, true, true, true, true, true, true, true, true, true, true, true, true, true, false, false] from rfl) ?_
      refine sxo_app 1 (eI_ok .i64) rfl Try.underlying25 tf3 rfl rfl rfl rfl rfl (.inl ⟨0, _, rfl⟩) rfl rfl (fun x324 e324 a325 c326 => ?_)
      refine sxo_nil ?_
      refine sxq_anyB (.cons 0 rfl (.cons 0 rfl (.cons 0 rfl .nil))) (gk_F 0 rfl (gk_F 1 rfl (gk_R 2 rfl (at_rowN eN25_ok h312 h314) (gk_R 2 rfl (at_rowN eN25_ok h318 h320) gk_nil)))) ?_
      refine sxb_again (d := 18) (v := .slice (some ⟨g319, 0, none⟩) x226.length c8) rfl (by rw [h320] <;> rfl) ?_
      refine sxb_takeP 14 (.pointer (some ⟨g319, x306.1.toNat * 1, none⟩)) rfl rfl rfl rfl (by kernel_rfl) (by kernel_rfl) (by kernel_rfl) (by kernel_rfl) (by kernel_rfl) rfl (show _ = #[true, true, true, true, true, true, true, true, true, true, true, true, true, true, true, false] from rfl) (yv_idxO Try.underlying22 tf25 rfl rfl (idx_get e316).1 (idx_lt e316)) ?_
      refine sxb_again (d := 18) (v := .slice a7 x226.length c8) rfl (by rw [h320] <;> rfl) ?_
      refine sxb_step 15 rfl (by kernel_rfl) (show _ = #[true, true, true, true, true, true, true, true, true, true, true, true, true, true, true, true] from rfl) ?_
      refine sxo_storeC (j := 2) (kh := 0) (y' := x324) (q' := (a325, c326)) eN25_ok rfl rfl rfl tf25 rfl (own_of h320) rfl (idx_get e316).2.1 rfl (.cons 0 rfl .nil) (fun x327 e327 h328 g330 => ?_)
      have h329 : x327.length = x226.length := by rw [← e327, List.length_set]
      refine sxo_again (d := 18) (v := .slice a7 x327.length c8) rfl (by rw [h328] <;> rfl) ?_
      refine sxo_again (d := 22) (v := .slice a7 x327.length c8) rfl (by rw [h328] <;> rfl) ?_
      refine sxo_blkAgain (i := 1) (cs' := [.slice a7 x327.length c8]) rfl (by rw [h328] <;> rfl) ?_
      refine sxo_nil ?_
      refine sxq_anyW 15 rfl rfl (.cons 0 rfl (.cons 0 (by rw [h329]; rfl) (.cons 0 rfl .nil))) ?_
      refine sxb_done (by kernel_rfl) ?_
      refine sxq_np ?_ (by intro c h; cases h)
      refine sxq_blkN ?_
      refine sxq_next ?_
      refine sxc_region ?_
      refine sxo_add rfl rfl rfl rfl ?_
      refine sxo_move rfl rfl rfl ?_
      refine sxo_nil ?_
      exact sxq_againP ((iadd .i64 x224 1, x327), g330) (lk_cons rfl (lk_cons rfl (lk_cons rfl (lk_cons rfl (lk_cons rfl lk_nil))))) (.cons 1 rfl (.cons 1 rfl .nil)) (.cons 0 rfl .nil) (fk_cons 1 rfl fk_nil)
    · refine sxc_exit ?_
      refine sxq_thenX ?_
      refine sxq_thenX ?_
      refine sxq_blkX ?_
      exact sxq_meetP (x226, g225) (lk_cons rfl (lk_cons rfl lk_nil)) (.cons 0 rfl (.cons 0 rfl .nil)) (.cons 0 rfl .nil) fk_nil
  · rintro ⟨x171, g170⟩
    try dsimp only
    refine sxc_seq ?_
    refine sxc_region ?_
    refine sxo_loadB (i := 0) rfl rfl tf24 rfl rfl (by simp) rfl rfl ?_
    refine sxo_storeB (i := 1) rfl rfl rfl tf24 rfl rfl rfl rfl rfl ?_
    refine sxo_nil ?_
    refine sxq_next ?_
    refine sxc_ret ?_
    exact sxq_doneP (a7, (c8, g170)) (.inl rfl) (resL (rs := [.cell 4 24]) rfl (.cell (i := 1) rfl tf24 rfl rfl (by simp) rfl ResOk.nil) rfl) (fun h => by subst h; rfl) (fun h => by subst h; exact (.cons 0 rfl .nil))

theorem C_slices_Values_api_Arc_api_Arc (F : Nat) (x1 : List (Int × Int)) (a2 : Option Addr) (c3 : Nat) (r : Unit) (hm : M_slices_Values_api_Arc_api_Arc F x1 = some r) :
    PureM Try.prog 40 [.slice a2 x1.length c3] [] [] [Sl eS51 2 (.slice a2 x1.length c3) x1] Nat (fun g => .func (.func 53) #[] #[.pointer (some ⟨g, 0, none⟩)]) (fun g => [⟨g, 45, [.slice a2 x1.length c3]⟩]) (fun _ => []) := by
  refine pureM_of Try.func40 rfl Try.ntmps40 rfl hm (fun w => ?_)
  refine sxc_env (l' := [(0, .slice a2 x1.length c3)]) rfl ?_
  refine sxc_seq ?_
  refine sxc_region ?_
  refine sxo_box rfl rfl rfl (fun g4 => ?_)
  refine sxo_assign rfl rfl rfl ?_
  refine sxo_nil ?_
  refine sxq_next ?_
  refine sxc_seq ?_
  refine sxc_region ?_
  refine sxo_makeFunc rfl rfl rfl ?_
  refine sxo_assign rfl rfl rfl ?_
  refine sxo_nil ?_
  refine sxq_next ?_
  refine sxc_ret ?_
  exact sxq_doneM g4 (.inl rfl) (res1 rfl rfl) (fun h => by subst h; rfl) (fun h => by subst h; exact (.cons 0 rfl .nil)) (fun h => by subst h; exact .nil)

theorem C_cmp_Or_int (F : Nat) (x1 : List Int) (a2 : Option Addr) (c3 : Nat) (r : Int) (hm : M_cmp_Or_int F x1 = some r) :
    Pure Try.prog 54 [.slice a2 x1.length c3] [Sl (eI .i64) 1 (.slice a2 x1.length c3) x1] Unit (fun _ => .int .i64 r) (fun _ => []) (fun _ => []) := by
  refine pure_of Try.func54 rfl Try.ntmps54 rfl hm (fun w => ?_)
  refine sxc_env (l' := [(0, .slice a2 x1.length c3)]) rfl ?_
  refine sxc_seq ?_
  refine sxc_region ?_
  refine sxo_assign rfl rfl rfl ?_
  refine sxo_nil ?_
  refine sxq_next ?_
  refine sxc_seq ?_
  refine sxc_region ?_
  refine sxo_assign rfl rfl rfl ?_
  refine sxo_nil ?_
  refine sxq_next ?_
  refine sxc_join (fun ((_, _) : (Unit × Unit)) => [(3, .int .i64 0)]) (fun ((_, _) : (Unit × Unit)) => []) (fun ((_, _) : (Unit × Unit)) => []) (fun ((_, _) : (Unit × Unit)) => []) (fun ((_, _) : (Unit × Unit)) => M_cmp_Or_int_j2 F) ?_ ?_
  · refine sxc_seq ?_
    refine sxc_region ?_
    refine sxo_move rfl rfl rfl ?_
    refine sxo_len rfl Try.underlying25 rfl rfl ?_
    refine sxo_move rfl rfl rfl ?_
    refine sxo_nil ?_
    refine sxq_next ?_
    refine sxc_block ?_
    refine sxc_loopP (fun ((x46, _) : (Int × Unit)) => [(3, .int .i64 0), (6, .slice a2 x1.length c3), (7, .int .i64 (x1.length : Int)), (8, .int .i64 x46)]) (fun ((x46, _) : (Int × Unit)) => []) (fun ((x46, _) : (Int × Unit)) => []) (fun ((x46, _) : (Int × Unit)) => [Sl (eI .i64) 1 (.slice a2 x1.length c3) x1]) (fun k (s : (Int × Unit)) => M_cmp_Or_int_l3 F x1 k s.1) (0, ()) F (lk_cons rfl (lk_cons rfl (lk_cons rfl (lk_cons rfl lk_nil)))) .nil .nil (fk_cons 0 rfl fk_nil) (fun _ => rfl) ?_
    intro k57
    rintro ⟨x46, _⟩
    try dsimp only
    refine sxc_meq (m' := M_cmp_Or_int_b3 F x1 (M_cmp_Or_int_l3 F x1 k57) x46) rfl ?_
    refine sxc_seq ?_
    refine sxc_region ?_
    refine sxo_lss rfl rfl rfl rfl ?_
    refine sxo_nil ?_
    refine sxq_next ?_
    refine sxc_seq ?_
    refine sxc_if rfl (fun h67 => ?_) (fun h67 => ?_)
    · refine sxc_skip ?_
      refine sxq_next ?_
      refine sxc_seq ?_
      refine sxc_block ?_
      refine sxc_seq ?_
      refine sxc_region ?_
      refine sxo_indexF (j := 0) (eI_ok .i64) (by decide) rfl Try.underlying25 tf3 rfl rfl rfl rfl (fun x63 e63 b64 o65 => ?_)
      refine sxo_loadF (j := 0) rfl rfl tf3 rfl rfl (fun _ => rfl) rfl rfl ?_
      refine sxo_assign rfl rfl rfl ?_
      refine sxo_nil ?_
      refine sxq_next ?_
      refine sxc_seq ?_
      refine sxc_region ?_
      refine sxo_move rfl rfl rfl ?_
      refine sxo_move rfl rfl rfl ?_
      refine sxo_neq rfl rfl rfl rfl ?_
      refine sxo_nil ?_
      refine sxq_next ?_
      refine sxc_if rfl (fun h66 => ?_) (fun h66 => ?_)
      · refine sxc_seq ?_
        refine sxc_region ?_
        refine sxo_move rfl rfl rfl ?_
        refine sxo_assign rfl rfl rfl ?_
        refine sxo_nil ?_
        refine sxq_next ?_
        refine sxc_ret ?_
        refine sxq_blkR ?_
        refine sxq_thenR ?_
        refine sxq_thenR ?_
        refine sxq_blkR ?_
        refine sxq_thenR ?_
        exact sxq_doneP () (.inl rfl) (res1 rfl rfl) (fun h => by subst h; rfl) (fun h => by subst h; exact .nil)
      · refine sxc_skip ?_
        refine sxq_blkN ?_
        refine sxq_next ?_
        refine sxc_region ?_
        refine sxo_add rfl rfl rfl rfl ?_
        refine sxo_move rfl rfl rfl ?_
        refine sxo_nil ?_
        exact sxq_againP (iadd .i64 x46 1, ()) (lk_cons rfl (lk_cons rfl (lk_cons rfl (lk_cons rfl lk_nil)))) .nil .nil (fk_cons 1 rfl fk_nil)
    · refine sxc_exit ?_
      refine sxq_thenX ?_
      refine sxq_thenX ?_
      refine sxq_blkX ?_
      exact sxq_meetP ((), ()) (lk_cons rfl lk_nil) .nil .nil fk_nil
  · rintro ⟨_, _⟩
    try dsimp only
    refine sxc_seq ?_
    refine sxc_region ?_
    refine sxo_move rfl rfl rfl ?_
    refine sxo_assign rfl rfl rfl ?_
    refine sxo_nil ?_
    refine sxq_next ?_
    refine sxc_ret ?_
    exact sxq_doneP () (.inl rfl) (res1 rfl rfl) (fun h => by subst h; rfl) (fun h => by subst h; exact .nil)

theorem C_cmp_isNaN_int (F : Nat) (x1 : Int) (r : Bool) (hm : M_cmp_isNaN_int F x1 = some r) :
    Pure Try.prog 59 [.int .i64 x1] [] Unit (fun _ => .bool r) (fun _ => []) (fun _ => []) := by
  refine pure_of Try.func59 rfl Try.ntmps59 rfl hm (fun w => ?_)
  refine sxc_env (l' := [(0, .int .i64 x1)]) rfl ?_
  refine sxc_seq ?_
  refine sxc_region ?_
  refine sxo_assign rfl rfl rfl ?_
  refine sxo_nil ?_
  refine sxq_next ?_
  refine sxc_seq ?_
  refine sxc_region ?_
  refine sxo_move rfl rfl rfl ?_
  refine sxo_move rfl rfl rfl ?_
  refine sxo_neq rfl rfl rfl rfl ?_
  refine sxo_assign rfl rfl rfl ?_
  refine sxo_nil ?_
  refine sxq_next ?_
  refine sxc_ret ?_
  exact sxq_doneP () (.inl rfl) (res1 rfl rfl) (fun h => by subst h; rfl) (fun h => by subst h; exact .nil)

theorem C_cmp_Compare_int (F : Nat) (x1 : Int) (x2 : Int) (r : Int) (hm : M_cmp_Compare_int F x1 x2 = some r) :
    Pure Try.prog 55 [.int .i64 x1, .int .i64 x2] [] Unit (fun _ => .int .i64 r) (fun _ => []) (fun _ => []) := by
  refine pure_of Try.func55 rfl Try.ntmps55 rfl hm (fun w => ?_)
  refine sxc_env (l' := [(0, .int .i64 x1), (1, .int .i64 x2)]) rfl ?_
  refine sxc_seq ?_
  refine sxc_region ?_
  refine sxo_assign rfl rfl rfl ?_
  refine sxo_nil ?_
  refine sxq_next ?_
  refine sxc_seq ?_
  refine sxc_region ?_
  refine sxo_move rfl rfl rfl ?_
  refine sxo_call ent59 rfl rfl rfl (fun x3 e3 => C_cmp_isNaN_int F x1 x3 e3) .nil (fun x3 e3 => ?_)
  intro _
  refine sxo_assign rfl rfl rfl ?_
  refine sxo_nil ?_
  refine sxq_next ?_
  refine sxc_seq ?_
  refine sxc_region ?_
  refine sxo_move rfl rfl rfl ?_
  refine sxo_call ent59 rfl rfl rfl (fun x4 e4 => C_cmp_isNaN_int F x2 x4 e4) .nil (fun x4 e4 => ?_)
  intro _
  refine sxo_assign rfl rfl rfl ?_
  refine sxo_nil ?_
  refine sxq_next ?_
  refine sxc_seq ?_
  refine sxc_seq ?_
  refine sxc_region ?_
  refine sxo_move rfl rfl rfl ?_
  refine sxo_nil ?_
  refine sxq_next ?_
  refine sxc_if rfl (fun h16 => ?_) (fun h16 => ?_)
  · refine sxc_seq ?_
    refine sxc_seq ?_
    refine sxc_region ?_
    refine sxo_move rfl rfl rfl ?_
    refine sxo_nil ?_
    refine sxq_next ?_
    refine sxc_if rfl (fun h9 => ?_) (fun h9 => ?_)
    · refine sxc_seq ?_
      refine sxc_region ?_
      refine sxo_assign rfl rfl rfl ?_
      refine sxo_nil ?_
      refine sxq_next ?_
      refine sxc_ret ?_
      refine sxq_thenR ?_
      refine sxq_thenR ?_
      exact sxq_doneP () (.inl rfl) (res1 rfl rfl) (fun h => by subst h; rfl) (fun h => by subst h; exact .nil)
    · refine sxc_skip ?_
      refine sxq_next ?_
      refine sxc_seq ?_
      refine sxc_region ?_
      refine sxo_assign rfl rfl rfl ?_
      refine sxo_nil ?_
      refine sxq_next ?_
      refine sxc_ret ?_
      refine sxq_thenR ?_
      exact sxq_doneP () (.inl rfl) (res1 rfl rfl) (fun h => by subst h; rfl) (fun h => by subst h; exact .nil)
  · refine sxc_skip ?_
    refine sxq_next ?_
    refine sxc_seq ?_
    refine sxc_seq ?_
    refine sxc_region ?_
    refine sxo_move rfl rfl rfl ?_
    refine sxo_nil ?_
    refine sxq_next ?_
    refine sxc_if rfl (fun h15 => ?_) (fun h15 => ?_)
    · refine sxc_seq ?_
      refine sxc_region ?_
      refine sxo_assign rfl rfl rfl ?_
      refine sxo_nil ?_
      refine sxq_next ?_
      refine sxc_ret ?_
      refine sxq_thenR ?_
      exact sxq_doneP () (.inl rfl) (res1 rfl rfl) (fun h => by subst h; rfl) (fun h => by subst h; exact .nil)
    · refine sxc_skip ?_
      refine sxq_next ?_
      refine sxc_seq ?_
      refine sxc_seq ?_
      refine sxc_region ?_
      refine sxo_move rfl rfl rfl ?_
      refine sxo_move rfl rfl rfl ?_
      refine sxo_lss rfl rfl rfl rfl ?_
      refine sxo_nil ?_
      refine sxq_next ?_
      refine sxc_if rfl (fun h14 => ?_) (fun h14 => ?_)
      · refine sxc_seq ?_
        refine sxc_region ?_
        refine sxo_assign rfl rfl rfl ?_
        refine sxo_nil ?_
        refine sxq_next ?_
        refine sxc_ret ?_
        refine sxq_thenR ?_
        exact sxq_doneP () (.inl rfl) (res1 rfl rfl) (fun h => by subst h; rfl) (fun h => by subst h; exact .nil)
      · refine sxc_skip ?_
        refine sxq_next ?_
        refine sxc_seq ?_
        refine sxc_seq ?_
        refine sxc_region ?_
        refine sxo_move rfl rfl rfl ?_
        refine sxo_move rfl rfl rfl ?_
        refine sxo_gtr rfl rfl rfl rfl ?_
        refine sxo_nil ?_
        refine sxq_next ?_
        refine sxc_if rfl (fun h13 => ?_) (fun h13 => ?_)
        · refine sxc_seq ?_
          refine sxc_region ?_
          refine sxo_assign rfl rfl rfl ?_
          refine sxo_nil ?_
          refine sxq_next ?_
          refine sxc_ret ?_
          refine sxq_thenR ?_
          exact sxq_doneP () (.inl rfl) (res1 rfl rfl) (fun h => by subst h; rfl) (fun h => by subst h; exact .nil)
        · refine sxc_skip ?_
          refine sxq_next ?_
          refine sxc_seq ?_
          refine sxc_region ?_
          refine sxo_assign rfl rfl rfl ?_
          refine sxo_nil ?_
          refine sxq_next ?_
          refine sxc_ret ?_
          exact sxq_doneP () (.inl rfl) (res1 rfl rfl) (fun h => by subst h; rfl) (fun h => by subst h; exact .nil)

theorem C_graph_order (F : Nat) (x1 : Int) (x2 : Int) (x3 : Int) (x4 : Int) (r : Int) (hm : M_graph_order F x1 x2 x3 x4 = some r) :
    Pure Try.prog 41 [.agg #[.int .i64 x1, .int .i64 x2], .agg #[.int .i64 x3, .int .i64 x4]] [] Unit (fun _ => .int .i64 r) (fun _ => []) (fun _ => []) := by
  refine pure_of Try.func41 rfl Try.ntmps41 rfl hm (fun w => ?_)
  refine sxc_env (l' := [(0, .agg #[.int .i64 x1, .int .i64 x2]), (1, .agg #[.int .i64 x3, .int .i64 x4])]) rfl ?_
  refine sxc_seq ?_
  refine sxc_region ?_
  refine sxo_box rfl rfl rfl (fun g5 => ?_)
  refine sxo_box rfl rfl rfl (fun g6 => ?_)
  refine sxo_assign rfl rfl rfl ?_
  refine sxo_nil ?_
  refine sxq_next ?_
  refine sxc_seq ?_
  refine sxb_draw mixed [] [⟨g6, 51, [.int .i64 x3, .int .i64 x4]⟩, ⟨g5, 51, [.int .i64 x1, .int .i64 x2]⟩] [] (.cons 0 rfl (.cons 0 rfl .nil)) gk_nil 13 rfl ?_
  refine sxb_takeP 0 (.pointer (some ⟨g5, 0, none⟩)) rfl rfl rfl rfl (by kernel_rfl) (by kernel_rfl) (by kernel_rfl) (by kernel_rfl) (by kernel_rfl) rfl (show _ = #[true, false, false, false, false, false, false, false, false, false, false, false, false] from rfl) (yv_fieldAddr rfl ff51_0) ?_
  refine sxb_takeB 1 (.int .i64 x1) rfl rfl rfl rfl (by kernel_rfl) (by kernel_rfl) (by kernel_rfl) (by kernel_rfl) (by kernel_rfl) rfl (show _ = #[true, true, false, false, false, false, false, false, false, false, false, false, false] from rfl) (yv_loadB (i := 1) rfl tf3 rfl rfl (fun _ => rfl) rfl) ?_
  refine sxb_takeP 2 (.pointer (some ⟨g6, 0, none⟩)) rfl rfl rfl rfl (by kernel_rfl) (by kernel_rfl) (by kernel_rfl) (by kernel_rfl) (by kernel_rfl) rfl (show _ = #[true, true, true, false, false, false, false, false, false, false, false, false, false] from rfl) (yv_fieldAddr rfl ff51_0) ?_
  refine sxb_takeB 3 (.int .i64 x3) rfl rfl rfl rfl (by kernel_rfl) (by kernel_rfl) (by kernel_rfl) (by kernel_rfl) (by kernel_rfl) rfl (show _ = #[true, true, true, true, false, false, false, false, false, false, false, false, false] from rfl) (yv_loadB (i := 0) rfl tf3 rfl rfl (fun _ => rfl) rfl) ?_
  refine sxb_takeP 5 (.pointer (some ⟨g5, 1, none⟩)) rfl rfl rfl rfl (by kernel_rfl) (by kernel_rfl) (by kernel_rfl) (by kernel_rfl) (by kernel_rfl) rfl (show _ = #[true, true, true, true, false, true, false, false, false, false, false, false, false] from rfl) (yv_fieldAddr rfl ff51_1) ?_
  refine sxb_takeB 6 (.int .i64 x2) rfl rfl rfl rfl (by kernel_rfl) (by kernel_rfl) (by kernel_rfl) (by kernel_rfl) (by kernel_rfl) rfl (show _ = #[true, true, true, true, false, true, true, false, false, false, false, false, false] from rfl) (yv_loadB (i := 1) rfl tf3 rfl rfl (fun _ => rfl) rfl) ?_
  refine sxb_takeP 7 (.pointer (some ⟨g6, 1, none⟩)) rfl rfl rfl rfl (by kernel_rfl) (by kernel_rfl) (by kernel_rfl) (by kernel_rfl) (by kernel_rfl) rfl (show _ = #[true, true, true, true, false, true, true, true, false, false, false, false, false] from rfl) (yv_fieldAddr rfl ff51_1) ?_
  refine sxb_takeB 8 (.int .i64 x4) rfl rfl rfl rfl (by kernel_rfl) (by kernel_rfl) (by kernel_rfl) (by kernel_rfl) (by kernel_rfl) rfl (show _ = #[true, true, true, true, false, true, true, true, true, false, false, false, false] from rfl) (yv_loadB (i := 0) rfl tf3 rfl rfl (fun _ => rfl) rfl) ?_
  refine sxb_step 4 rfl (by kernel_rfl) (show _ = #[true, true, true, true, true, true, true, true, true, false, false, false, false] from rfl) ?_
  refine sxo_call ent55 rfl rfl rfl (fun x12 e12 => C_cmp_Compare_int F x1 x3 x12 e12) .nil (fun x12 e12 => ?_)
  intro _
  refine sxo_nil ?_
  refine sxq_anyB (.cons 0 rfl (.cons 0 rfl .nil)) gk_nil ?_
  refine sxb_step 9 rfl (by kernel_rfl) (show _ = #[true, true, true, true, true, true, true, true, true, true, false, false, false] from rfl) ?_
  refine sxo_call ent55 rfl rfl rfl (fun x13 e13 => C_cmp_Compare_int F x2 x4 x13 e13) .nil (fun x13 e13 => ?_)
  intro _
  refine sxo_nil ?_
  refine sxq_anyB (.cons 0 rfl (.cons 0 rfl .nil)) gk_nil ?_
  refine sxb_step 10 rfl (by kernel_rfl) (show _ = #[true, true, true, true, true, true, true, true, true, true, true, false, false] from rfl) ?_
  refine sxo_slit (vs := [.int .i64 x12, .int .i64 x13]) (ys := ([x12, x13] : List Int)) (eI_ok .i64) (by decide) rfl Try.underlying25 tf3 rfl rfl rfl rfl rfl (by decide) (fun a14 c15 => ?_)
  refine sxo_nil ?_
  refine sxq_anyB (.cons 0 rfl (.cons 0 rfl .nil)) gk_nil ?_
  refine sxb_step 11 rfl (by kernel_rfl) (show _ = #[true, true, true, true, true, true, true, true, true, true, true, true, false] from rfl) ?_
  refine sxo_call ent54 rfl rfl rfl (fun x16 e16 => C_cmp_Or_int F ([x12, x13] : List Int) a14 c15 x16 e16) (.consR 0 (Ro (eI .i64) 3 1 (.slice a14 ([x12, x13] : List Int).length c15) ([x12, x13] : List Int)) rfl .nil) (fun x16 e16 => ?_)
  intro _
  refine sxo_nil ?_
  refine sxq_anyB (.cons 0 rfl (.cons 0 rfl .nil)) gk_nil ?_
  refine sxb_takeP 12 (.int .i64 x16) rfl rfl rfl rfl (by kernel_rfl) (by kernel_rfl) (by kernel_rfl) (by kernel_rfl) (by kernel_rfl) rfl (show _ = #[true, true, true, true, true, true, true, true, true, true, true, true, true] from rfl) (yv_pv rfl) ?_
  refine sxb_done (by kernel_rfl) ?_
  refine sxq_np ?_ (by intro c h; cases h)
  refine sxq_next ?_
  refine sxc_ret ?_
  exact sxq_doneP () (.inl rfl) (res1 rfl rfl) (fun h => by subst h; rfl) (fun h => by subst h; exact .nil)

theorem C_graph_All (F : Nat) (x1 : List (List Int)) (a2 : Option Addr) (c3 : (Nat × List (Option Addr × Nat))) (r : Unit) (hm : M_graph_All F x1 = some r) :
    PureM Try.prog 32 [.agg #[.slice a2 x1.length c3.1]] [] [] [SlN eN25 iN25 1 (.slice a2 x1.length c3.1) x1 c3.2] Nat (fun g => .func (.func 51) #[] #[.pointer (some ⟨g, 0, none⟩)]) (fun g => [⟨g, 24, [.slice a2 x1.length c3.1]⟩]) (fun _ => []) := by
  refine pureM_of Try.func32 rfl Try.ntmps32 rfl hm (fun w => ?_)
  refine sxc_env (l' := [(0, .agg #[.slice a2 x1.length c3.1])]) rfl ?_
  refine sxc_seq ?_
  refine sxc_region ?_
  refine sxo_box rfl rfl rfl (fun g4 => ?_)
  refine sxo_assign rfl rfl rfl ?_
  refine sxo_nil ?_
  refine sxq_next ?_
  refine sxc_seq ?_
  refine sxc_region ?_
  refine sxo_makeFunc rfl rfl rfl ?_
  refine sxo_assign rfl rfl rfl ?_
  refine sxo_nil ?_
  refine sxq_next ?_
  refine sxc_ret ?_
  exact sxq_doneM g4 (.inl rfl) (res1 rfl rfl) (fun h => by subst h; rfl) (fun h => by subst h; exact (.cons 0 rfl .nil)) (fun h => by subst h; exact .nil)

theorem C_graph_All_1 (F : Nat) {σ τ : Type} {J : Rounds σ τ} {yy : σ → (Int × Int) → Option (σ ⊕ τ)} {L : Nat} (hY : YieldC Try.prog L (fun (p : (Int × Int)) => [.agg #[.int .i64 p.1, .int .i64 p.2]]) J yy) (s0 : σ) (gs0 : J.γ) (g1 : Nat) (x2 : List (List Int)) (a3 : Option Addr) (c4 : (Nat × List (Option Addr × Nat))) (r : σ ⊕ τ) (hm : M_graph_All_1 F yy x2 s0 = some r) :
    PureM Try.prog 51 ([.func (.yield L) #[] #[], .pointer (some ⟨g1, 0, none⟩)]) ([⟨g1, 24, [.slice a3 x2.length c4.1]⟩] ++ J.IB s0 gs0) (J.IR s0 gs0) [J.F, SlN eN25 iN25 1 (.slice a3 x2.length c4.1) x2 c4.2] (J.G r) (fun _ => .tuple #[]) (fun g => [⟨g1, 24, [.slice a3 x2.length c4.1]⟩] ++ J.bs r g) (fun g => J.rs r g) := by
  refine pureM_of Try.func51 rfl Try.ntmps51 rfl hm (fun w => ?_)
  refine sxc_env (l' := [(0, .func (.yield L) #[] #[]), (1, .pointer (some ⟨g1, 0, none⟩))]) rfl ?_
  refine sxc_seq ?_
  refine sxc_region ?_
  refine sxo_fieldAddr rfl rfl ff24_0 rfl ?_
  refine sxo_loadB (i := 0) rfl rfl tf22 rfl rfl (fun _ => rfl) rfl rfl ?_
  refine sxo_len rfl Try.underlying22 rfl rfl ?_
  refine sxo_move rfl rfl rfl ?_
  refine sxo_nil ?_
  refine sxq_next ?_
  refine sxc_block ?_
  refine sxc_loopP (fun (((x121, x122), g123) : ((Int × σ) × J.γ)) => [(0, .func (.yield L) #[] #[]), (8, .slice a3 x2.length c4.1), (9, .int .i64 (x2.length : Int)), (10, .int .i64 x121)]) (fun (((x121, x122), g123) : ((Int × σ) × J.γ)) => [⟨g1, 24, [.slice a3 x2.length c4.1]⟩] ++ J.IB x122 g123) (fun (((x121, x122), g123) : ((Int × σ) × J.γ)) => [] ++ J.IR x122 g123) (fun (((x121, x122), g123) : ((Int × σ) × J.γ)) => [SlN eN25 iN25 1 (.slice a3 x2.length c4.1) x2 c4.2, J.F]) (fun k (s : ((Int × σ) × J.γ)) => M_graph_All_1_l7 F yy x2 k s.1) ((0, s0), gs0) F (lk_cons rfl (lk_cons rfl (lk_cons rfl (lk_cons rfl lk_nil)))) (.cons 0 rfl (pick_rest 0 rfl)) (pick_rest 0 rfl) (fk_cons 1 rfl (fk_cons 0 rfl fk_nil)) (fun _ => rfl) ?_
  intro k240
  rintro ⟨⟨x121, x122⟩, g123⟩
  try dsimp only
  refine sxc_meq (m' := M_graph_All_1_b7 F yy x2 (M_graph_All_1_l7 F yy x2 k240) x121 x122) rfl ?_
  refine sxc_seq ?_
  refine sxc_region ?_
  refine sxo_lss rfl rfl rfl rfl ?_
  refine sxo_nil ?_
  refine sxq_next ?_
  refine sxc_seq ?_
  refine sxc_if rfl (fun h356 => ?_) (fun h356 => ?_)
  · refine sxc_skip ?_
    refine sxq_next ?_
    refine sxc_join (fun ((x298, g299) : (σ × J.γ)) => [(0, .func (.yield L) #[] #[]), (8, .slice a3 x2.length c4.1), (9, .int .i64 (x2.length : Int)), (10, .int .i64 x121)]) (fun ((x298, g299) : (σ × J.γ)) => [⟨g1, 24, [.slice a3 x2.length c4.1]⟩] ++ J.IB x298 g299) (fun ((x298, g299) : (σ × J.γ)) => [] ++ J.IR x298 g299) (fun ((x298, g299) : (σ × J.γ)) => [SlN eN25 iN25 1 (.slice a3 x2.length c4.1) x2 c4.2, J.F]) (fun ((x298, _) : (σ × J.γ)) => M_graph_All_1_j9 F yy (M_graph_All_1_l7 F yy x2 k240) x121 x298) ?_ ?_
    · refine sxc_block ?_
      refine sxc_seq ?_
      refine sxc_region ?_
      refine sxo_move rfl rfl rfl ?_
      refine sxo_indexN (j := 0) eN25_ok (by decide) rfl Try.underlying22 tf25 rfl rfl rfl rfl (fun x300 e300 g303 b301 o302 => ?_)
      refine sxo_loadF (j := 0) rfl rfl tf25 rfl rfl (fun _ => rfl) rfl rfl ?_
      refine sxo_assign rfl rfl rfl ?_
      refine sxo_assign rfl rfl rfl ?_
      refine sxo_nil ?_
      refine sxq_next ?_
      refine sxc_seq ?_
      refine sxc_region ?_
      refine sxo_move rfl rfl rfl ?_
      refine sxo_len rfl Try.underlying25 rfl rfl ?_
      refine sxo_move rfl rfl rfl ?_
      refine sxo_nil ?_
      refine sxq_next ?_
      refine sxc_block ?_
      refine sxc_loopP (fun (((x320, x321), g322) : ((Int × σ) × J.γ)) => [(0, .func (.yield L) #[] #[]), (3, .int .i64 x121), (8, .slice a3 x2.length c4.1), (9, .int .i64 (x2.length : Int)), (10, .int .i64 x121), (15, .slice g303.1 x300.length g303.2), (16, .int .i64 (x300.length : Int)), (17, .int .i64 x320)]) (fun (((x320, x321), g322) : ((Int × σ) × J.γ)) => [⟨g1, 24, [.slice a3 x2.length c4.1]⟩] ++ J.IB x321 g322) (fun (((x320, x321), g322) : ((Int × σ) × J.γ)) => [] ++ J.IR x321 g322) (fun (((x320, x321), g322) : ((Int × σ) × J.γ)) => [SlN eN25 iN25 1 (.slice a3 x2.length c4.1) x2 c4.2, Sl (eI .i64) 1 (.slice g303.1 x300.length g303.2) x300, J.F]) (fun k (s : ((Int × σ) × J.γ)) => M_graph_All_1_l10 F yy (M_graph_All_1_l7 F yy x2 k240) x121 x300 k s.1) ((0, x122), g123) F (lk_cons rfl (lk_cons rfl (lk_cons rfl (lk_cons rfl (lk_cons rfl (lk_cons rfl (lk_cons rfl (lk_cons rfl lk_nil)))))))) (.cons 0 rfl (pick_rest 0 rfl)) (pick_rest 0 rfl) (fk_cons 2 rfl (fk_cons 1 rfl (fk_cons 3 rfl fk_nil))) (fun _ => rfl) ?_
      intro k339
      rintro ⟨⟨x320, x321⟩, g322⟩
      try dsimp only
      refine sxc_meq (m' := M_graph_All_1_b10 F yy (M_graph_All_1_l7 F yy x2 k240) x121 x300 (M_graph_All_1_l10 F yy (M_graph_All_1_l7 F yy x2 k240) x121 x300 k339) x320 x321) rfl ?_
      refine sxc_seq ?_
      refine sxc_region ?_
      refine sxo_lss rfl rfl rfl rfl ?_
      refine sxo_nil ?_
      refine sxq_next ?_
      refine sxc_seq ?_
      refine sxc_if rfl (fun h355 => ?_) (fun h355 => ?_)
      · refine sxc_skip ?_
        refine sxq_next ?_
        refine sxc_seq ?_
        refine sxc_block ?_
        refine sxc_seq ?_
        refine sxc_region ?_
        refine sxo_indexF (j := 1) (eI_ok .i64) (by decide) rfl Try.underlying25 tf3 rfl rfl rfl rfl (fun x348 e348 b349 o350 => ?_)
        refine sxo_loadF (j := 0) rfl rfl tf3 rfl rfl (fun _ => rfl) rfl rfl ?_
        refine sxo_assign rfl rfl rfl ?_
        refine sxo_nil ?_
        refine sxq_next ?_
        refine sxc_seq ?_
        refine sxc_region ?_
        refine sxo_move rfl rfl rfl ?_
        refine sxo_move rfl rfl rfl ?_
        refine sxo_move rfl rfl rfl ?_
        refine sxo_build (cells := [.int .i64 x121, .int .i64 x348]) rfl st51 rfl (by kernel_rfl) rfl ?_
        refine sxo_yield hY x321 (x121, x348) g322 (B1 := [⟨g1, 24, [.slice a3 x2.length c4.1]⟩]) (R1 := []) (j := 3) rfl rfl rfl rfl rfl rfl rfl (fun x351 _ g353 => ?_) (fun x352 _ g353 => ?_)
        · refine sxo_not rfl rfl rfl ?_
          refine sxo_nil ?_
          refine sxq_next ?_
          refine sxc_cond (b := false) rfl (fun h => by cases h) (fun _ => ?_)
          refine sxc_skip ?_
          refine sxq_blkN ?_
          refine sxq_next ?_
          refine sxc_region ?_
          refine sxo_add rfl rfl rfl rfl ?_
          refine sxo_move rfl rfl rfl ?_
          refine sxo_nil ?_
          exact sxq_againP ((iadd .i64 x320 1, x351), g353) (lk_cons rfl (lk_cons rfl (lk_cons rfl (lk_cons rfl (lk_cons rfl (lk_cons rfl (lk_cons rfl (lk_cons rfl lk_nil)))))))) (.cons 0 rfl (pick_rest 0 rfl)) (pick_rest 0 rfl) (fk_cons 1 rfl (fk_cons 2 rfl (fk_cons 3 rfl fk_nil)))
        · refine sxo_not rfl rfl rfl ?_
          refine sxo_nil ?_
          refine sxq_next ?_
          refine sxc_cond (b := true) rfl (fun _ => ?_) (fun h => by cases h)
          refine sxc_ret ?_
          refine sxq_blkR ?_
          refine sxq_thenR ?_
          refine sxq_thenR ?_
          refine sxq_blkR ?_
          refine sxq_blkR ?_
          refine sxq_thenR ?_
          refine sxq_thenR ?_
          refine sxq_blkR ?_
          exact sxq_doneI (B0 := [⟨g1, 24, [.slice a3 x2.length c4.1]⟩]) (x := .inr x352) g353 (.inl rfl) (res0 rfl) (.cons 0 rfl (pick_rest 0 rfl)) (pick_rest 0 rfl)
      · refine sxc_exit ?_
        refine sxq_thenX ?_
        refine sxq_thenX ?_
        refine sxq_blkX ?_
        refine sxq_blkN ?_
        exact sxq_meetP (x321, g322) (lk_cons rfl (lk_cons rfl (lk_cons rfl (lk_cons rfl lk_nil)))) (.cons 0 rfl (pick_rest 0 rfl)) (pick_rest 0 rfl) (fk_cons 0 rfl (fk_cons 2 rfl fk_nil))
    · rintro ⟨x298, g299⟩
      try dsimp only
      refine sxc_region ?_
      refine sxo_add rfl rfl rfl rfl ?_
      refine sxo_move rfl rfl rfl ?_
      refine sxo_nil ?_
      exact sxq_againP ((iadd .i64 x121 1, x298), g299) (lk_cons rfl (lk_cons rfl (lk_cons rfl (lk_cons rfl lk_nil)))) (.cons 0 rfl (pick_rest 0 rfl)) (pick_rest 0 rfl) (fk_cons 0 rfl (fk_cons 1 rfl fk_nil))
  · refine sxc_exit ?_
    refine sxq_thenX ?_
    refine sxq_thenX ?_
    refine sxq_blkX ?_
    exact sxq_doneI (B0 := [⟨g1, 24, [.slice a3 x2.length c4.1]⟩]) (x := .inl x122) g123 (.inr rfl) (res0 rfl) (.cons 0 rfl (pick_rest 0 rfl)) (pick_rest 0 rfl)

theorem C_graph_turned (F : Nat) (x1 : List (List Int)) (a2 : Option Addr) (c3 : (Nat × List (Option Addr × Nat))) (r : List (Int × Int)) (hm : M_graph_turned F x1 = some r) :
    PureM Try.prog 42 [.agg #[.slice a2 x1.length c3.1]] [] [] [SlN eN25 iN25 1 (.slice a2 x1.length c3.1) x1 c3.2] (Option Addr × Nat) (fun g => .slice g.1 r.length g.2) (fun _ => []) (fun g => [Ro eS51 51 2 (.slice g.1 r.length g.2) r]) := by
  refine pureX_of Try.func42 rfl Try.ntmps42 rfl hm (fun w => ?_)
  refine sxc_env (l' := [(0, .agg #[.slice a2 x1.length c3.1])]) rfl ?_
  refine sxc_seq ?_
  refine sxc_region ?_
  refine sxo_box rfl rfl rfl (fun g4 => ?_)
  refine sxo_assign rfl rfl rfl ?_
  refine sxo_nil ?_
  refine sxq_next ?_
  refine sxc_seq ?_
  refine sxc_region ?_
  refine sxo_alloc rfl tf45 rfl (fun g5 => ?_)
  refine sxo_nil ?_
  refine sxq_next ?_
  refine sxc_seq ?_
  refine sxc_seq ?_
  refine sxc_region ?_
  refine sxo_loadB (i := 1) rfl rfl tf24 rfl rfl (by simp) rfl rfl ?_
  refine sxo_callM ent32 rfl rfl rfl (fun x35 e35 => C_graph_All F x1 a2 c3 x35 e35) .nil .nil (.consF 0 rfl .nil) (fun x35 e35 => ?_)
  rintro g36
  refine sxo_nil ?_
  refine sxq_next ?_
  refine sxc_block ?_
  refine sxc_nilrow (Int × Int) eS51 51 2 ?_
  refine sxc_range (encs := (fun (p : (Int × Int)) => [.agg #[.int .i64 p.1, .int .i64 p.2]])) (y := (fun (x47 : List (Int × Int)) ((x56, x57) : (Int × Int)) => M_graph_turned_r2 F x47 x56 x57)) (lb := [.pointer (some ⟨g36, 0, none⟩)]) (fun (x47 : List (Int × Int)) ((a45, c46) : (Option Addr × Nat)) => [⟨g5, 45, [.slice a45 x47.length c46]⟩, ⟨g4, 24, [.slice a2 x1.length c3.1]⟩]) (fun (x47 : List (Int × Int)) ((a45, c46) : (Option Addr × Nat)) => [Ro eS51 51 2 (.slice a45 x47.length c46) x47]) (fun (_ : Empty) (_ : Unit) => []) (fun (_ : Empty) (_ : Unit) => []) (fun _ => .skip) ([] : List (Int × Int)) (none, 0) rfl ent51 (fun _ => rfl) rfl (.cons 0 rfl .nil) (.cons 0 rfl (.cons 0 rfl .nil)) (.cons 0 rfl .nil) (.consF 0 rfl .nil) (fun z hz _ _ _ hY => C_graph_All_1 F hY ([] : List (Int × Int)) (none, 0) g36 x1 a2 c3 z hz) ?_ ?_ ?_
  · rintro rc1 L1 D1 x47 ⟨a45, c46⟩ ⟨x56, x57⟩ z w M _
    try dsimp only
    refine sxc_less [(0, .agg #[.slice a2 x1.length c3.1]), (1, .pointer (some ⟨g4, 0, none⟩)), (2, .slice none 0 0), (3, .pointer (some ⟨g5, 0, none⟩)), (5, .agg #[.slice a2 x1.length c3.1]), (6, .func (.func 51) #[] #[.pointer (some ⟨g36, 0, none⟩)]), (7, .agg #[.int .i64 x56, .int .i64 x57])] (lk_cons rfl (lk_cons rfl (lk_cons rfl (lk_cons rfl (lk_cons rfl (lk_cons rfl (lk_cons rfl lk_nil))))))) ?_
    refine sxc_region ?_
    refine sxo_alloc rfl tf51 rfl (fun g58 => ?_)
    refine sxo_storeB (i := 0) rfl rfl rfl tf51 rfl rfl rfl rfl rfl ?_
    refine sxo_nil ?_
    refine sxq_begin (i := 3) rfl ?_
    refine sxc_block ?_
    refine sxc_region ?_
    refine sxo_loadB (i := 1) rfl rfl tf45 rfl rfl (fun _ => rfl) rfl rfl ?_
    refine sxo_fieldAddr rfl rfl ff51_1 rfl ?_
    refine sxo_loadB (i := 0) rfl rfl tf3 rfl rfl (fun _ => rfl) rfl rfl ?_
    refine sxo_fieldAddr rfl rfl ff51_0 rfl ?_
    refine sxo_loadB (i := 0) rfl rfl tf3 rfl rfl (fun _ => rfl) rfl rfl ?_
    refine sxo_build (cells := [.int .i64 x57, .int .i64 x56]) rfl st51 rfl (by kernel_rfl) rfl ?_
    refine sxo_slit (vs := [.agg #[.int .i64 x57, .int .i64 x56]]) (ys := ([(x57, x56)] : List (Int × Int))) eS51_ok (by decide) rfl Try.underlying45 tf51 rfl rfl rfl rfl rfl (by decide) (fun a59 c60 => ?_)
    refine sxo_app 1 eS51_ok rfl Try.underlying45 tf51 rfl rfl rfl rfl rfl (.inl ⟨0, _, rfl⟩) rfl rfl (fun x61 e61 a62 c63 => ?_)
    refine sxo_storeB (i := 1) rfl rfl rfl tf45 rfl rfl rfl rfl rfl ?_
    refine sxo_nil ?_
    refine sxq_blkN ?_
    exact sxq_round (rc := rc1) rfl (.cons 3 rfl .nil) rfl (a62, c63) (.cons 2 rfl (.cons 2 rfl (.cons 0 rfl (.cons 1 rfl .nil)))) (.cons 0 rfl .nil)
  · rintro x47 _ ⟨a45, c46⟩ D1
    try dsimp only
    refine sxq_blkN ?_
    refine sxq_next ?_
    refine sxc_seq ?_
    refine sxc_region ?_
    refine sxo_loadB (i := 2) rfl rfl tf45 rfl rfl (fun _ => rfl) rfl rfl ?_
    refine sxo_assign rfl rfl rfl ?_
    refine sxo_nil ?_
    refine sxq_next ?_
    refine sxc_ret ?_
    exact sxq_doneX [D1] (a45, c46) (.inl rfl) rfl (.cons 0 rfl .nil) (res1 rfl rfl) (fun h => by subst h; rfl) (fun h => by subst h; exact .nil) (fun h => by subst h; exact (.cons 0 rfl .nil))
  · intro t; exact t.elim

theorem C_slices_Values_api_Arc_api_Arc_1 (F : Nat) {σ τ : Type} {J : Rounds σ τ} {yy : σ → (Int × Int) → Option (σ ⊕ τ)} {L : Nat} (hY : YieldC Try.prog L (fun (p : (Int × Int)) => [.agg #[.int .i64 p.1, .int .i64 p.2]]) J yy) (s0 : σ) (gs0 : J.γ) (g1 : Nat) (x2 : List (Int × Int)) (a3 : Option Addr) (c4 : Nat) (r : σ ⊕ τ) (hm : M_slices_Values_api_Arc_api_Arc_1 F yy x2 s0 = some r) :
    PureM Try.prog 53 ([.func (.yield L) #[] #[], .pointer (some ⟨g1, 0, none⟩)]) ([⟨g1, 45, [.slice a3 x2.length c4]⟩] ++ J.IB s0 gs0) (J.IR s0 gs0) [J.F, Sl eS51 2 (.slice a3 x2.length c4) x2] (J.G r) (fun _ => .tuple #[]) (fun g => [⟨g1, 45, [.slice a3 x2.length c4]⟩] ++ J.bs r g) (fun g => J.rs r g) := by
  refine pureM_of Try.func53 rfl Try.ntmps53 rfl hm (fun w => ?_)
  refine sxc_env (l' := [(0, .func (.yield L) #[] #[]), (1, .pointer (some ⟨g1, 0, none⟩))]) rfl ?_
  refine sxc_seq ?_
  refine sxc_region ?_
  refine sxo_loadB (i := 0) rfl rfl tf45 rfl rfl (fun _ => rfl) rfl rfl ?_
  refine sxo_len rfl Try.underlying45 rfl rfl ?_
  refine sxo_move rfl rfl rfl ?_
  refine sxo_nil ?_
  refine sxq_next ?_
  refine sxc_block ?_
  refine sxc_loopP (fun (((x23, x24), g25) : ((Int × σ) × J.γ)) => [(0, .func (.yield L) #[] #[]), (5, .slice a3 x2.length c4), (6, .int .i64 (x2.length : Int)), (7, .int .i64 x23)]) (fun (((x23, x24), g25) : ((Int × σ) × J.γ)) => [⟨g1, 45, [.slice a3 x2.length c4]⟩] ++ J.IB x24 g25) (fun (((x23, x24), g25) : ((Int × σ) × J.γ)) => [] ++ J.IR x24 g25) (fun (((x23, x24), g25) : ((Int × σ) × J.γ)) => [Sl eS51 2 (.slice a3 x2.length c4) x2, J.F]) (fun k (s : ((Int × σ) × J.γ)) => M_slices_Values_api_Arc_api_Arc_1_l1 F yy x2 k s.1) ((0, s0), gs0) F (lk_cons rfl (lk_cons rfl (lk_cons rfl (lk_cons rfl lk_nil)))) (.cons 0 rfl (pick_rest 0 rfl)) (pick_rest 0 rfl) (fk_cons 1 rfl (fk_cons 0 rfl fk_nil)) (fun _ => rfl) ?_
  intro k44
  rintro ⟨⟨x23, x24⟩, g25⟩
  try dsimp only
  refine sxc_meq (m' := M_slices_Values_api_Arc_api_Arc_1_b1 F yy x2 (M_slices_Values_api_Arc_api_Arc_1_l1 F yy x2 k44) x23 x24) rfl ?_
  refine sxc_seq ?_
  refine sxc_region ?_
  refine sxo_lss rfl rfl rfl rfl ?_
  refine sxo_nil ?_
  refine sxq_next ?_
  refine sxc_seq ?_
  refine sxc_if rfl (fun h62 => ?_) (fun h62 => ?_)
  · refine sxc_skip ?_
    refine sxq_next ?_
    refine sxc_seq ?_
    refine sxc_block ?_
    refine sxc_seq ?_
    refine sxc_region ?_
    refine sxo_indexF (j := 0) eS51_ok (by decide) rfl Try.underlying45 tf51 rfl rfl rfl rfl (fun x54 e54 b55 o56 => ?_)
    refine sxo_loadF (j := 0) rfl rfl tf51 rfl rfl (by simp) rfl rfl ?_
    refine sxo_alloc rfl tf51 rfl (fun g57 => ?_)
    refine sxo_storeB (i := 0) rfl rfl rfl tf51 rfl rfl rfl rfl rfl ?_
    refine sxo_nil ?_
    refine sxq_next ?_
    refine sxc_seq ?_
    refine sxc_region ?_
    refine sxo_move rfl rfl rfl ?_
    refine sxo_loadB (i := 0) rfl rfl tf51 rfl rfl (by simp) rfl rfl ?_
    refine sxo_yield hY x24 (x54.1, x54.2) g25 (B1 := [⟨g57, 51, [.int .i64 x54.1, .int .i64 x54.2]⟩, ⟨g1, 45, [.slice a3 x2.length c4]⟩]) (R1 := []) (j := 2) rfl rfl rfl rfl rfl rfl rfl (fun x58 _ g60 => ?_) (fun x59 _ g60 => ?_)
    · refine sxo_not rfl rfl rfl ?_
      refine sxo_nil ?_
      refine sxq_next ?_
      refine sxc_cond (b := false) rfl (fun h => by cases h) (fun _ => ?_)
      refine sxc_skip ?_
      refine sxq_blkN ?_
      refine sxq_next ?_
      refine sxc_region ?_
      refine sxo_add rfl rfl rfl rfl ?_
      refine sxo_move rfl rfl rfl ?_
      refine sxo_nil ?_
      exact sxq_againP ((iadd .i64 x23 1, x58), g60) (lk_cons rfl (lk_cons rfl (lk_cons rfl (lk_cons rfl lk_nil)))) (.cons 1 rfl (pick_rest 1 rfl)) (pick_rest 0 rfl) (fk_cons 1 rfl (fk_cons 2 rfl fk_nil))
    · refine sxo_not rfl rfl rfl ?_
      refine sxo_nil ?_
      refine sxq_next ?_
      refine sxc_cond (b := true) rfl (fun _ => ?_) (fun h => by cases h)
      refine sxc_ret ?_
      refine sxq_blkR ?_
      refine sxq_thenR ?_
      refine sxq_thenR ?_
      refine sxq_blkR ?_
      exact sxq_doneI (B0 := [⟨g1, 45, [.slice a3 x2.length c4]⟩]) (x := .inr x59) g60 (.inl rfl) (res0 rfl) (.cons 1 rfl (pick_rest 1 rfl)) (pick_rest 0 rfl)
  · refine sxc_exit ?_
    refine sxq_thenX ?_
    refine sxq_thenX ?_
    refine sxq_blkX ?_
    exact sxq_doneI (B0 := [⟨g1, 45, [.slice a3 x2.length c4]⟩]) (x := .inl x24) g25 (.inr rfl) (res0 rfl) (.cons 0 rfl (pick_rest 0 rfl)) (pick_rest 0 rfl)

theorem C_slices_AppendSeq_api_Arc_api_Arc_slices_Values_api_Arc_api_Arc_1 (F : Nat) (x1 : List (Int × Int)) (a2 : Option Addr) (c3 : Nat) (g4 : Nat) (x5 : List (Int × Int)) (a6 : Option Addr) (c7 : Nat) (r : List (Int × Int)) (hm : M_slices_AppendSeq_api_Arc_api_Arc_slices_Values_api_Arc_api_Arc_1 F x1 x5 = some r) :
    PureM Try.prog 52 [.slice a2 x1.length c3, .func (.func 53) #[] #[.pointer (some ⟨g4, 0, none⟩)]] [⟨g4, 45, [.slice a6 x5.length c7]⟩] [Ro eS51 51 2 (.slice a2 x1.length c3) x1] [Sl eS51 2 (.slice a6 x5.length c7) x5] (Option Addr × Nat) (fun g => .slice g.1 r.length g.2) (fun _ => [⟨g4, 45, [.slice a6 x5.length c7]⟩]) (fun g => [Ro eS51 51 2 (.slice g.1 r.length g.2) r]) := by
  refine pureX_of Try.func52 rfl Try.ntmps52 rfl hm (fun w => ?_)
  refine sxc_env (l' := [(0, .slice a2 x1.length c3), (1, .func (.func 53) #[] #[.pointer (some ⟨g4, 0, none⟩)])]) rfl ?_
  refine sxc_seq ?_
  refine sxc_region ?_
  refine sxo_box rfl rfl rfl (fun g8 => ?_)
  refine sxo_assign rfl rfl rfl ?_
  refine sxo_nil ?_
  refine sxq_next ?_
  refine sxc_seq ?_
  refine sxc_seq ?_
  refine sxc_region ?_
  refine sxo_move rfl rfl rfl ?_
  refine sxo_nil ?_
  refine sxq_next ?_
  refine sxc_block ?_
  refine sxc_range (encs := (fun (p : (Int × Int)) => [.agg #[.int .i64 p.1, .int .i64 p.2]])) (y := (fun (x46 : List (Int × Int)) ((x55, x56) : (Int × Int)) => M_slices_AppendSeq_api_Arc_api_Arc_slices_Values_api_Arc_api_Arc_1_r2 F x46 x55 x56)) (lb := [.pointer (some ⟨g4, 0, none⟩)]) (fun (x46 : List (Int × Int)) ((a44, c45) : (Option Addr × Nat)) => [⟨g8, 45, [.slice a44 x46.length c45]⟩]) (fun (x46 : List (Int × Int)) ((a44, c45) : (Option Addr × Nat)) => [Ro eS51 51 2 (.slice a44 x46.length c45) x46]) (fun (_ : Empty) (_ : Unit) => []) (fun (_ : Empty) (_ : Unit) => []) (fun _ => .skip) x1 (a2, c3) rfl ent53 (fun _ => rfl) rfl (.cons 1 rfl .nil) (.cons 0 rfl .nil) (.cons 0 rfl .nil) (.consF 0 rfl .nil) (fun z hz _ _ _ hY => C_slices_Values_api_Arc_api_Arc_1 F hY x1 (a2, c3) g4 x5 a6 c7 z hz) ?_ ?_ ?_
  · rintro rc1 L1 D1 x46 ⟨a44, c45⟩ ⟨x55, x56⟩ z w M _
    try dsimp only
    refine sxc_less [(0, .slice a2 x1.length c3), (1, .func (.func 53) #[] #[.pointer (some ⟨g4, 0, none⟩)]), (2, .pointer (some ⟨g8, 0, none⟩)), (4, .slice none 0 0), (6, .func (.func 53) #[] #[.pointer (some ⟨g4, 0, none⟩)]), (7, .agg #[.int .i64 x55, .int .i64 x56])] (lk_cons rfl (lk_cons rfl (lk_cons rfl (lk_cons rfl (lk_cons rfl (lk_cons rfl lk_nil)))))) ?_
    refine sxc_region ?_
    refine sxo_alloc rfl tf51 rfl (fun g57 => ?_)
    refine sxo_storeB (i := 0) rfl rfl rfl tf51 rfl rfl rfl rfl rfl ?_
    refine sxo_nil ?_
    refine sxq_begin (i := 2) rfl ?_
    refine sxc_block ?_
    refine sxc_region ?_
    refine sxo_loadB (i := 1) rfl rfl tf45 rfl rfl (fun _ => rfl) rfl rfl ?_
    refine sxo_loadB (i := 0) rfl rfl tf51 rfl rfl (by simp) rfl rfl ?_
    refine sxo_slit (vs := [.agg #[.int .i64 x55, .int .i64 x56]]) (ys := ([(x55, x56)] : List (Int × Int))) eS51_ok (by decide) rfl Try.underlying45 tf51 rfl rfl rfl rfl rfl (by decide) (fun a58 c59 => ?_)
    refine sxo_app 1 eS51_ok rfl Try.underlying45 tf51 rfl rfl rfl rfl rfl (.inl ⟨0, _, rfl⟩) rfl rfl (fun x60 e60 a61 c62 => ?_)
    refine sxo_storeB (i := 1) rfl rfl rfl tf45 rfl rfl rfl rfl rfl ?_
    refine sxo_nil ?_
    refine sxq_blkN ?_
    exact sxq_round (rc := rc1) rfl (.cons 2 rfl .nil) rfl (a61, c62) (.cons 2 rfl (.cons 0 rfl (.cons 1 rfl .nil))) (.cons 0 rfl .nil)
  · rintro x46 _ ⟨a44, c45⟩ D1
    try dsimp only
    refine sxq_blkN ?_
    refine sxq_next ?_
    refine sxc_seq ?_
    refine sxc_region ?_
    refine sxo_loadB (i := 2) rfl rfl tf45 rfl rfl (fun _ => rfl) rfl rfl ?_
    refine sxo_assign rfl rfl rfl ?_
    refine sxo_nil ?_
    refine sxq_next ?_
    refine sxc_ret ?_
    exact sxq_doneX [D1] (a44, c45) (.inl rfl) rfl (.cons 0 rfl .nil) (res1 rfl rfl) (fun h => by subst h; rfl) (fun h => by subst h; exact (.cons 0 rfl .nil)) (fun h => by subst h; exact (.cons 0 rfl .nil))
  · intro t; exact t.elim

theorem C_slices_Collect_api_Arc_slices_Values_api_Arc_api_Arc_1 (F : Nat) (g1 : Nat) (x2 : List (Int × Int)) (a3 : Option Addr) (c4 : Nat) (r : List (Int × Int)) (hm : M_slices_Collect_api_Arc_slices_Values_api_Arc_api_Arc_1 F x2 = some r) :
    PureM Try.prog 37 [.func (.func 53) #[] #[.pointer (some ⟨g1, 0, none⟩)]] [⟨g1, 45, [.slice a3 x2.length c4]⟩] [] [Sl eS51 2 (.slice a3 x2.length c4) x2] (Option Addr × Nat) (fun g => .slice g.1 r.length g.2) (fun _ => [⟨g1, 45, [.slice a3 x2.length c4]⟩]) (fun g => [Ro eS51 51 2 (.slice g.1 r.length g.2) r]) := by
  refine pureM_of Try.func37 rfl Try.ntmps37 rfl hm (fun w => ?_)
  refine sxc_env (l' := [(0, .func (.func 53) #[] #[.pointer (some ⟨g1, 0, none⟩)])]) rfl ?_
  refine sxc_seq ?_
  refine sxc_region ?_
  refine sxo_assign rfl rfl rfl ?_
  refine sxo_nil ?_
  refine sxq_next ?_
  refine sxc_seq ?_
  refine sxc_region ?_
  refine sxo_move rfl rfl rfl ?_
  refine sxo_nilrow' (Int × Int) eS51 51 2 ?_
  refine sxo_callM ent52 rfl rfl rfl (fun x5 e5 => C_slices_AppendSeq_api_Arc_api_Arc_slices_Values_api_Arc_api_Arc_1 F ([] : List (Int × Int)) none 0 g1 x2 a3 c4 x5 e5) (.cons 0 rfl .nil) (.cons 0 rfl .nil) (.consF 0 rfl .nil) (fun x5 e5 => ?_)
  rintro ⟨a6, c7⟩
  refine sxo_assign rfl rfl rfl ?_
  refine sxo_nil ?_
  refine sxq_next ?_
  refine sxc_ret ?_
  exact sxq_doneM (a6, c7) (.inl rfl) (res1 rfl rfl) (fun h => by subst h; rfl) (fun h => by subst h; exact (.cons 0 rfl .nil)) (fun h => by subst h; exact (.cons 0 rfl .nil))

theorem C_slices_SortFunc_api_Arc_api_Arc_graph_order (F : Nat) (x1 : List (Int × Int)) (a2 : Option Addr) (c3 : Nat) (r : List (Int × Int)) (hm : M_slices_SortFunc_api_Arc_api_Arc_graph_order F x1 = some r) :
    PureM Try.prog 46 [.slice a2 x1.length c3, .func (.func 41) #[] #[]] [] [Ro eS51 51 2 (.slice a2 x1.length c3) x1] [] Unit (fun _ => .tuple #[]) (fun _ => []) (fun _ => [Ro eS51 51 2 (.slice a2 r.length c3) r]) :=
  sortf_pureM (cb := []) (BC := []) (Φ := []) eS51_ok (by decide) (sby46_41 _) (fun p cap w => Try.sortn46 p cap _ w) (fun a b z h => (C_graph_order F a.1 a.2 b.1 b.2 z h).toM) hm

theorem C_slices_SortedFunc_api_Arc_slices_Values_api_Arc_api_Arc_1_graph_order (F : Nat) (g1 : Nat) (x2 : List (Int × Int)) (a3 : Option Addr) (c4 : Nat) (r : List (Int × Int)) (hm : M_slices_SortedFunc_api_Arc_slices_Values_api_Arc_api_Arc_1_graph_order F x2 = some r) :
    PureM Try.prog 39 [.func (.func 53) #[] #[.pointer (some ⟨g1, 0, none⟩)], .func (.func 41) #[] #[]] [⟨g1, 45, [.slice a3 x2.length c4]⟩] [] [Sl eS51 2 (.slice a3 x2.length c4) x2] (Option Addr × Nat) (fun g => .slice g.1 r.length g.2) (fun _ => [⟨g1, 45, [.slice a3 x2.length c4]⟩]) (fun g => [Ro eS51 51 2 (.slice g.1 r.length g.2) r]) := by
  refine pureM_of Try.func39 rfl Try.ntmps39 rfl hm (fun w => ?_)
  refine sxc_env (l' := [(0, .func (.func 53) #[] #[.pointer (some ⟨g1, 0, none⟩)]), (1, .func (.func 41) #[] #[])]) rfl ?_
  refine sxc_seq ?_
  refine sxc_region ?_
  refine sxo_assign rfl rfl rfl ?_
  refine sxo_nil ?_
  refine sxq_next ?_
  refine sxc_seq ?_
  refine sxc_region ?_
  refine sxo_move rfl rfl rfl ?_
  refine sxo_callM ent37 rfl rfl rfl (fun x5 e5 => C_slices_Collect_api_Arc_slices_Values_api_Arc_api_Arc_1 F g1 x2 a3 c4 x5 e5) (.cons 0 rfl .nil) .nil (.consF 0 rfl .nil) (fun x5 e5 => ?_)
  rintro ⟨a6, c7⟩
  refine sxo_assign rfl rfl rfl ?_
  refine sxo_nil ?_
  refine sxq_next ?_
  refine sxc_seq ?_
  refine sxc_region ?_
  refine sxo_move rfl rfl rfl ?_
  refine sxo_move rfl rfl rfl ?_
  refine sxo_callM ent46 rfl rfl rfl (fun x8 e8 => C_slices_SortFunc_api_Arc_api_Arc_graph_order F x5 a6 c7 x8 e8) .nil (.cons 0 rfl .nil) .nil (fun x8 e8 => ?_)
  intro _
  refine sxo_chk (fun h9 => ?_)
  replace h9 := of_decide_eq_true h9
  refine sxo_again (d := 5) (v := .slice a6 x8.length c7) rfl (by rw [h9] <;> rfl) ?_
  refine sxo_again (d := 7) (v := .slice a6 x8.length c7) rfl (by rw [h9] <;> rfl) ?_
  refine sxo_again (d := 8) (v := .slice a6 x8.length c7) rfl (by rw [h9] <;> rfl) ?_
  refine sxo_nil ?_
  refine sxq_next ?_
  refine sxc_seq ?_
  refine sxc_region ?_
  refine sxo_move rfl rfl rfl ?_
  refine sxo_assign rfl rfl rfl ?_
  refine sxo_nil ?_
  refine sxq_next ?_
  refine sxc_ret ?_
  exact sxq_doneM (a6, c7) (.inl rfl) (res1 rfl rfl) (fun h => by subst h; rfl) (fun h => by subst h; exact (.cons 0 rfl .nil)) (fun h => by subst h; exact (.cons 0 rfl .nil))

theorem C_graph_Turn (F : Nat) (x1 : List (List Int)) (a2 : Option Addr) (c3 : (Nat × List (Option Addr × Nat))) (r : (List (List Int) × Int)) (hm : M_graph_Turn F x1 = some r) :
    Pure Try.prog 24 [.agg #[.slice a2 x1.length c3.1]] [SlN eN25 iN25 1 (.slice a2 x1.length c3.1) x1 c3.2] (Option Addr × (Nat × List (Option Addr × Nat))) (fun g => .tuple #[.agg #[.slice g.1 r.1.length g.2.1], .int .i64 r.2]) (fun g => [RoN eN25 rN25 25 1 (.slice g.1 r.1.length g.2.1) r.1 g.2.2 []]) (fun _ => []) := by
  refine pure_of Try.func24 rfl Try.ntmps24 rfl hm (fun w => ?_)
  refine sxc_env (l' := [(0, .agg #[.slice a2 x1.length c3.1])]) rfl ?_
  refine sxc_seq ?_
  refine sxc_region ?_
  refine sxo_box rfl rfl rfl (fun g4 => ?_)
  refine sxo_alloc rfl tf24 rfl (fun g5 => ?_)
  refine sxo_assign rfl rfl rfl ?_
  refine sxo_nil ?_
  refine sxq_next ?_
  refine sxc_seq ?_
  refine sxc_seq ?_
  refine sxc_region ?_
  refine sxo_loadB (i := 1) rfl rfl tf24 rfl rfl (by simp) rfl rfl ?_
  refine sxo_call ent36 rfl rfl rfl (fun x8 e8 => C_graph_Check F x1 a2 c3 x8 e8) (.consF 0 rfl .nil) (fun x8 e8 => ?_)
  intro _
  refine sxo_assign rfl rfl rfl ?_
  refine sxo_nil ?_
  refine sxq_next ?_
  refine sxc_seq ?_
  refine sxc_region ?_
  refine sxo_move rfl rfl rfl ?_
  refine sxo_neq rfl rfl rfl rfl ?_
  refine sxo_nil ?_
  refine sxq_next ?_
  refine sxc_if rfl (fun h31 => ?_) (fun h31 => ?_)
  · refine sxc_seq ?_
    refine sxc_region ?_
    refine sxo_build (cells := [.slice none 0 0]) rfl st24 rfl (by kernel_rfl) rfl ?_
    refine sxo_move rfl rfl rfl ?_
    refine sxo_storeB (i := 0) rfl rfl rfl tf24 rfl rfl rfl rfl rfl ?_
    refine sxo_assign rfl rfl rfl ?_
    refine sxo_nil ?_
    refine sxq_next ?_
    refine sxc_ret ?_
    refine sxq_thenR ?_
    refine sxq_nilN (List Int) (Option Addr × Nat) eN25 rN25 25 1 ?_
    exact sxq_doneP (none, (0, ([] : List (Option Addr × Nat)))) (.inl rfl) (resL (rs := [.cell 2 24, .tmp 3]) rfl (.cell (i := 0) rfl tf24 rfl rfl (by simp) rfl (.tmp rfl ResOk.nil)) rfl) (fun h => by subst h; rfl) (fun h => by subst h; exact (.cons 0 rfl .nil))
  · refine sxc_skip ?_
    refine sxq_next ?_
    refine sxc_seq ?_
    refine sxb_draw mixed [] [⟨g4, 24, [.slice a2 x1.length c3.1]⟩] [SlN eN25 iN25 1 (.slice a2 x1.length c3.1) x1 c3.2] (.cons 1 rfl .nil) (gk_F 0 rfl gk_nil) 10 rfl ?_
    refine sxb_takeP 0 (.pointer (some ⟨g4, 0, none⟩)) rfl rfl rfl rfl (by kernel_rfl) (by kernel_rfl) (by kernel_rfl) (by kernel_rfl) (by kernel_rfl) rfl (show _ = #[true, false, false, false, false, false, false, false, false, false] from rfl) (yv_fieldAddr rfl ff24_0) ?_
    refine sxb_takeB 1 (.slice a2 x1.length c3.1) rfl rfl rfl rfl (by kernel_rfl) (by kernel_rfl) (by kernel_rfl) (by kernel_rfl) (by kernel_rfl) rfl (show _ = #[true, true, false, false, false, false, false, false, false, false] from rfl) (yv_loadB (i := 0) rfl tf22 rfl rfl (fun _ => rfl) rfl) ?_
    refine sxb_takeP 2 (.int .i64 (x1.length : Int)) rfl rfl rfl rfl (by kernel_rfl) (by kernel_rfl) (by kernel_rfl) (by kernel_rfl) (by kernel_rfl) rfl (show _ = #[true, true, true, false, false, false, false, false, false, false] from rfl) (yv_len Try.underlying22 rfl) ?_
    refine sxb_takeB 3 (.agg #[.slice a2 x1.length c3.1]) rfl rfl rfl rfl (by kernel_rfl) (by kernel_rfl) (by kernel_rfl) (by kernel_rfl) (by kernel_rfl) rfl (show _ = #[true, true, true, true, false, false, false, false, false, false] from rfl) (yv_loadB (i := 0) rfl tf24 rfl rfl (by simp) rfl) ?_
    refine sxb_step 4 rfl (by kernel_rfl) (show _ = #[true, true, true, true, true, false, false, false, false, false] from rfl) ?_
    refine sxo_callM ent42 rfl rfl rfl (fun x20 e20 => C_graph_turned F x1 a2 c3 x20 e20) .nil .nil (.consF 0 rfl .nil) (fun x20 e20 => ?_)
    rintro ⟨a21, c22⟩
    refine sxo_nil ?_
    refine sxq_anyB (.cons 1 rfl .nil) (gk_F 0 rfl gk_nil) ?_
    refine sxb_step 5 rfl (by kernel_rfl) (show _ = #[true, true, true, true, true, true, false, false, false, false] from rfl) ?_
    refine sxo_callM ent40 rfl rfl rfl (fun x23 e23 => C_slices_Values_api_Arc_api_Arc F x20 a21 c22 x23 e23) .nil .nil (.consR 0 (Ro eS51 51 2 (.slice a21 x20.length c22) x20) rfl .nil) (fun x23 e23 => ?_)
    rintro g24
    refine sxo_nil ?_
    refine sxq_anyB (.cons 2 rfl .nil) (gk_F 0 rfl gk_nil) ?_
    refine sxb_step 6 rfl (by kernel_rfl) (show _ = #[true, true, true, true, true, true, true, false, false, false] from rfl) ?_
    refine sxo_callM ent39 rfl rfl rfl (fun x25 e25 => C_slices_SortedFunc_api_Arc_slices_Values_api_Arc_api_Arc_1_graph_order F g24 x20 a21 c22 x25 e25) (.cons 0 rfl .nil) .nil (.consR 0 (Ro eS51 51 2 (.slice a21 x20.length c22) x20) rfl .nil) (fun x25 e25 => ?_)
    rintro ⟨a26, c27⟩
    refine sxo_nil ?_
    refine sxq_anyB (.cons 2 rfl .nil) (gk_F 0 rfl gk_nil) ?_
    refine sxb_step 7 rfl (by kernel_rfl) (show _ = #[true, true, true, true, true, true, true, true, false, false] from rfl) ?_
    refine sxo_call ent38 rfl rfl rfl (fun x28 e28 => C_graph_Built F (x1.length : Int) x25 a26 c27 x28 e28) (.consR 0 (Ro eS51 51 2 (.slice a26 x25.length c27) x25) rfl .nil) (fun x28 e28 => ?_)
    rintro ⟨a29, c30⟩
    refine sxo_nil ?_
    refine sxq_anyB (.cons 2 rfl .nil) (gk_F 0 rfl gk_nil) ?_
    refine sxb_step 8 rfl (by kernel_rfl) (show _ = #[true, true, true, true, true, true, true, true, true, false] from rfl) ?_
    refine sxo_storeB (i := 1) rfl rfl rfl tf24 rfl rfl rfl rfl rfl ?_
    refine sxo_nil ?_
    refine sxq_anyB (.cons 2 rfl .nil) (gk_F 0 rfl gk_nil) ?_
    refine sxb_takeP 9 (.int .i64 0) rfl rfl rfl rfl (by kernel_rfl) (by kernel_rfl) (by kernel_rfl) (by kernel_rfl) (by kernel_rfl) rfl (show _ = #[true, true, true, true, true, true, true, true, true, true] from rfl) (yv_pv rfl) ?_
    refine sxb_done (by kernel_rfl) ?_
    refine sxq_np ?_ (by intro c h; cases h)
    refine sxq_next ?_
    refine sxc_ret ?_
    exact sxq_doneP (a29, c30) (.inl rfl) (resL (rs := [.cell 2 24, .tmp 3]) rfl (.cell (i := 1) rfl tf24 rfl rfl (by simp) rfl (.tmp rfl ResOk.nil)) rfl) (fun h => by subst h; rfl) (fun h => by subst h; exact (.cons 0 rfl .nil))

theorem C_walk_Way_1 (F : Nat) (x1 : Int) (g2 : Nat) (x3 : List Int) (a4 : Option Addr) (c5 : Nat) (g6 : Nat) (x7 : Int) (r : Bool) (hm : M_walk_Way_1 F x1 x3 x7 = some r) :
    PureM Try.prog 30 [.int .i64 x1, .pointer (some ⟨g2, 0, none⟩), .pointer (some ⟨g6, 0, none⟩)] [⟨g2, 25, [.slice a4 x3.length c5]⟩, ⟨g6, 3, [.int .i64 x7]⟩] [] [Sl (eI .i64) 1 (.slice a4 x3.length c5) x3] Unit (fun _ => .bool r) (fun _ => [⟨g2, 25, [.slice a4 x3.length c5]⟩, ⟨g6, 3, [.int .i64 x7]⟩]) (fun _ => []) := by
  refine pureM_of Try.func30 rfl Try.ntmps30 rfl hm (fun w => ?_)
  refine sxc_env (l' := [(0, .int .i64 x1), (1, .pointer (some ⟨g2, 0, none⟩)), (2, .pointer (some ⟨g6, 0, none⟩))]) rfl ?_
  refine sxc_seq ?_
  refine sxc_region ?_
  refine sxo_assign rfl rfl rfl ?_
  refine sxo_nil ?_
  refine sxq_next ?_
  refine sxc_seq ?_
  refine sxc_idxF (j := 0) (eI_ok .i64) (by decide) rfl (fun x16 e16 b17 o18 h19 => ?_)
  replace h19 : a4 = some ⟨b17, o18, none⟩ := h19
  refine sxc_idxF (j := 1) (eI_ok .i64) (by decide) rfl (fun x20 e20 b21 o22 h23 => ?_)
  replace h23 : a4 = some ⟨b21, o22, none⟩ := h23
  refine sxb_draw mixed [] [⟨g2, 25, [.slice a4 x3.length c5]⟩, ⟨g6, 3, [.int .i64 x7]⟩] [CellsAt b21 (o22 + x7.toNat * 1) ((eI .i64) x20), CellsAt b17 (o18 + x1.toNat * 1) ((eI .i64) x16), Sl (eI .i64) 1 (.slice a4 x3.length c5) x3] (.cons 0 rfl (.cons 0 rfl .nil)) (gk_F 0 rfl (gk_F 1 rfl (gk_F 2 rfl gk_nil))) 11 rfl ?_
  refine sxb_takeB 0 (.slice a4 x3.length c5) rfl rfl rfl rfl (by kernel_rfl) (by kernel_rfl) (by kernel_rfl) (by kernel_rfl) (by kernel_rfl) rfl (show _ = #[true, false, false, false, false, false, false, false, false, false, false] from rfl) (yv_loadB (i := 0) rfl tf25 rfl rfl (fun _ => rfl) rfl) ?_
  refine sxb_takeP 1 (.int .i64 x1) rfl rfl rfl rfl (by kernel_rfl) (by kernel_rfl) (by kernel_rfl) (by kernel_rfl) (by kernel_rfl) rfl (show _ = #[true, true, false, false, false, false, false, false, false, false, false] from rfl) (yv_pv rfl) ?_
  refine sxb_again (d := 5) (v := .slice (some ⟨b17, o18, none⟩) x3.length c5) rfl (by rw [h19] <;> rfl) ?_
  refine sxb_takeP 2 (.pointer (some ⟨b17, (o18 + x1.toNat * 1), none⟩)) rfl rfl rfl rfl (by kernel_rfl) (by kernel_rfl) (by kernel_rfl) (by kernel_rfl) (by kernel_rfl) rfl (show _ = #[true, true, true, false, false, false, false, false, false, false, false] from rfl) (yv_idx Try.underlying25 tf3 rfl rfl (idx_get e16).1 (idx_lt e16)) ?_
  refine sxb_again (d := 5) (v := .slice a4 x3.length c5) rfl (by rw [h19] <;> rfl) ?_
  refine sxb_take 3 (.int .i64 x16) [] rfl rfl rfl rfl (by kernel_rfl) (by kernel_rfl) (by kernel_rfl) (by kernel_rfl) (by kernel_rfl) (by kernel_rfl) rfl (show _ = #[true, true, true, true, false, false, false, false, false, false, false] from rfl) (yv_loadF (j := 1) rfl tf3 rfl rfl (fun _ => rfl) rfl) ?_
  refine sxb_takeB 4 (.slice a4 x3.length c5) rfl rfl rfl rfl (by kernel_rfl) (by kernel_rfl) (by kernel_rfl) (by kernel_rfl) (by kernel_rfl) rfl (show _ = #[true, true, true, true, true, false, false, false, false, false, false] from rfl) (yv_loadB (i := 0) rfl tf25 rfl rfl (fun _ => rfl) rfl) ?_
  refine sxb_takeB 5 (.int .i64 x7) rfl rfl rfl rfl (by kernel_rfl) (by kernel_rfl) (by kernel_rfl) (by kernel_rfl) (by kernel_rfl) rfl (show _ = #[true, true, true, true, true, true, false, false, false, false, false] from rfl) (yv_loadB (i := 1) rfl tf3 rfl rfl (fun _ => rfl) rfl) ?_
  refine sxb_again (d := 9) (v := .slice (some ⟨b21, o22, none⟩) x3.length c5) rfl (by rw [h23] <;> rfl) ?_
  refine sxb_takeP 6 (.pointer (some ⟨b21, (o22 + x7.toNat * 1), none⟩)) rfl rfl rfl rfl (by kernel_rfl) (by kernel_rfl) (by kernel_rfl) (by kernel_rfl) (by kernel_rfl) rfl (show _ = #[true, true, true, true, true, true, true, false, false, false, false] from rfl) (yv_idx Try.underlying25 tf3 rfl rfl (idx_get e20).1 (idx_lt e20)) ?_
  refine sxb_again (d := 9) (v := .slice a4 x3.length c5) rfl (by rw [h23] <;> rfl) ?_
  refine sxb_take 7 (.int .i64 x20) [] rfl rfl rfl rfl (by kernel_rfl) (by kernel_rfl) (by kernel_rfl) (by kernel_rfl) (by kernel_rfl) (by kernel_rfl) rfl (show _ = #[true, true, true, true, true, true, true, true, false, false, false] from rfl) (yv_loadF (j := 0) rfl tf3 rfl rfl (fun _ => rfl) rfl) ?_
  refine sxb_takeP 8 (.int .i64 (isub .i64 x20 1)) rfl rfl rfl rfl (by kernel_rfl) (by kernel_rfl) (by kernel_rfl) (by kernel_rfl) (by kernel_rfl) rfl (show _ = #[true, true, true, true, true, true, true, true, true, false, false] from rfl) (yv_pv rfl) ?_
  refine sxb_takeP 9 (.bool ((x16 : Int) == (isub .i64 x20 1))) rfl rfl rfl rfl (by kernel_rfl) (by kernel_rfl) (by kernel_rfl) (by kernel_rfl) (by kernel_rfl) rfl (show _ = #[true, true, true, true, true, true, true, true, true, true, false] from rfl) (yv_pv rfl) ?_
  refine sxb_takeP 10 (.bool ((x16 : Int) == (isub .i64 x20 1))) rfl rfl rfl rfl (by kernel_rfl) (by kernel_rfl) (by kernel_rfl) (by kernel_rfl) (by kernel_rfl) rfl (show _ = #[true, true, true, true, true, true, true, true, true, true, true] from rfl) (yv_pv rfl) ?_
  refine sxb_done (by kernel_rfl) ?_
  refine sxq_np ?_ (by intro c h; cases h)
  refine sxq_next ?_
  refine sxc_ret ?_
  exact sxq_doneM () (.inl rfl) (res1 rfl rfl) (fun h => by subst h; rfl) (fun h => by subst h; exact (.cons 0 rfl (.cons 0 rfl .nil))) (fun h => by subst h; exact .nil)

theorem C_slices_IndexFunc_int_int_walk_Way_1 (F : Nat) (x1 : List Int) (a2 : Option Addr) (c3 : Nat) (g4 : Nat) (x5 : List Int) (a6 : Option Addr) (c7 : Nat) (g8 : Nat) (x9 : Int) (r : Int) (hm : M_slices_IndexFunc_int_int_walk_Way_1 F x1 x5 x9 = some r) :
    PureM Try.prog 29 [.slice a2 x1.length c3, .func (.func 30) #[] #[.pointer (some ⟨g4, 0, none⟩), .pointer (some ⟨g8, 0, none⟩)]] [⟨g4, 25, [.slice a6 x5.length c7]⟩, ⟨g8, 3, [.int .i64 x9]⟩] [] [Sl (eI .i64) 1 (.slice a2 x1.length c3) x1, Sl (eI .i64) 1 (.slice a6 x5.length c7) x5] Unit (fun _ => .int .i64 r) (fun _ => [⟨g4, 25, [.slice a6 x5.length c7]⟩, ⟨g8, 3, [.int .i64 x9]⟩]) (fun _ => []) := by
  refine pureM_of Try.func29 rfl Try.ntmps29 rfl hm (fun w => ?_)
  refine sxc_env (l' := [(0, .slice a2 x1.length c3), (1, .func (.func 30) #[] #[.pointer (some ⟨g4, 0, none⟩), .pointer (some ⟨g8, 0, none⟩)])]) rfl ?_
  refine sxc_seq ?_
  refine sxc_region ?_
  refine sxo_assign rfl rfl rfl ?_
  refine sxo_nil ?_
  refine sxq_next ?_
  refine sxc_join (fun ((_, _) : (Unit × Unit)) => []) (fun ((_, _) : (Unit × Unit)) => [⟨g4, 25, [.slice a6 x5.length c7]⟩, ⟨g8, 3, [.int .i64 x9]⟩]) (fun ((_, _) : (Unit × Unit)) => []) (fun ((_, _) : (Unit × Unit)) => [Sl (eI .i64) 1 (.slice a6 x5.length c7) x5]) (fun ((_, _) : (Unit × Unit)) => M_slices_IndexFunc_int_int_walk_Way_1_j2 F) ?_ ?_
  · refine sxc_seq ?_
    refine sxc_region ?_
    refine sxo_move rfl rfl rfl ?_
    refine sxo_len rfl Try.underlying25 rfl rfl ?_
    refine sxo_move rfl rfl rfl ?_
    refine sxo_nil ?_
    refine sxq_next ?_
    refine sxc_block ?_
    refine sxc_loopP (fun ((x60, _) : (Int × Unit)) => [(0, .slice a2 x1.length c3), (1, .func (.func 30) #[] #[.pointer (some ⟨g4, 0, none⟩), .pointer (some ⟨g8, 0, none⟩)]), (7, .int .i64 (x1.length : Int)), (8, .int .i64 x60)]) (fun ((x60, _) : (Int × Unit)) => [⟨g4, 25, [.slice a6 x5.length c7]⟩, ⟨g8, 3, [.int .i64 x9]⟩]) (fun ((x60, _) : (Int × Unit)) => []) (fun ((x60, _) : (Int × Unit)) => [Sl (eI .i64) 1 (.slice a2 x1.length c3) x1, Sl (eI .i64) 1 (.slice a6 x5.length c7) x5]) (fun k (s : (Int × Unit)) => M_slices_IndexFunc_int_int_walk_Way_1_l3 F x1 x5 x9 k s.1) (0, ()) F (lk_cons rfl (lk_cons rfl (lk_cons rfl (lk_cons rfl lk_nil)))) (.cons 0 rfl (.cons 0 rfl .nil)) .nil (fk_cons 0 rfl (fk_cons 1 rfl fk_nil)) (fun _ => rfl) ?_
    intro k73
    rintro ⟨x60, _⟩
    try dsimp only
    refine sxc_meq (m' := M_slices_IndexFunc_int_int_walk_Way_1_b3 F x1 x5 x9 (M_slices_IndexFunc_int_int_walk_Way_1_l3 F x1 x5 x9 k73) x60) rfl ?_
    refine sxc_seq ?_
    refine sxc_region ?_
    refine sxo_lss rfl rfl rfl rfl ?_
    refine sxo_nil ?_
    refine sxq_next ?_
    refine sxc_seq ?_
    refine sxc_if rfl (fun h85 => ?_) (fun h85 => ?_)
    · refine sxc_skip ?_
      refine sxq_next ?_
      refine sxc_seq ?_
      refine sxc_block ?_
      refine sxc_seq ?_
      refine sxc_region ?_
      refine sxo_move rfl rfl rfl ?_
      refine sxo_assign rfl rfl rfl ?_
      refine sxo_nil ?_
      refine sxq_next ?_
      refine sxc_seq ?_
      refine sxc_region ?_
      refine sxo_move rfl rfl rfl ?_
      refine sxo_move rfl rfl rfl ?_
      refine sxo_move rfl rfl rfl ?_
      refine sxo_indexF (j := 0) (eI_ok .i64) (by decide) rfl Try.underlying25 tf3 rfl rfl rfl rfl (fun x80 e80 b81 o82 => ?_)
      refine sxo_loadF (j := 0) rfl rfl tf3 rfl rfl (fun _ => rfl) rfl rfl ?_
      refine sxo_callMV ent30 rfl rfl rfl rfl (fun x83 e83 => C_walk_Way_1 F x80 g4 x5 a6 c7 g8 x9 x83 e83) (.cons 0 rfl (.cons 0 rfl .nil)) .nil (.consF 2 rfl .nil) (fun x83 e83 => ?_)
      intro _
      refine sxo_nil ?_
      refine sxq_next ?_
      refine sxc_if rfl (fun h84 => ?_) (fun h84 => ?_)
      · refine sxc_seq ?_
        refine sxc_region ?_
        refine sxo_move rfl rfl rfl ?_
        refine sxo_assign rfl rfl rfl ?_
        refine sxo_nil ?_
        refine sxq_next ?_
        refine sxc_ret ?_
        refine sxq_blkR ?_
        refine sxq_thenR ?_
        refine sxq_thenR ?_
        refine sxq_blkR ?_
        refine sxq_thenR ?_
        exact sxq_doneM () (.inl rfl) (res1 rfl rfl) (fun h => by subst h; rfl) (fun h => by subst h; exact (.cons 0 rfl (.cons 0 rfl .nil))) (fun h => by subst h; exact .nil)
      · refine sxc_skip ?_
        refine sxq_blkN ?_
        refine sxq_next ?_
        refine sxc_region ?_
        refine sxo_add rfl rfl rfl rfl ?_
        refine sxo_move rfl rfl rfl ?_
        refine sxo_nil ?_
        exact sxq_againP (iadd .i64 x60 1, ()) (lk_cons rfl (lk_cons rfl (lk_cons rfl (lk_cons rfl lk_nil)))) (.cons 0 rfl (.cons 0 rfl .nil)) .nil (fk_cons 1 rfl (fk_cons 2 rfl fk_nil))
    · refine sxc_exit ?_
      refine sxq_thenX ?_
      refine sxq_thenX ?_
      refine sxq_blkX ?_
      exact sxq_meetP ((), ()) lk_nil (.cons 0 rfl (.cons 0 rfl .nil)) .nil (fk_cons 1 rfl fk_nil)
  · rintro ⟨_, _⟩
    try dsimp only
    refine sxc_seq ?_
    refine sxc_region ?_
    refine sxo_assign rfl rfl rfl ?_
    refine sxo_nil ?_
    refine sxq_next ?_
    refine sxc_ret ?_
    exact sxq_doneM () (.inl rfl) (res1 rfl rfl) (fun h => by subst h; rfl) (fun h => by subst h; exact (.cons 0 rfl (.cons 0 rfl .nil))) (fun h => by subst h; exact .nil)

theorem C_walk_Way (F : Nat) (x1 : List (List Int)) (a2 : Option Addr) (c3 : (Nat × List (Option Addr × Nat))) (x4 : Int) (x5 : Int) (r : (List Int × Int)) (hm : M_walk_Way F x1 x4 x5 = some r) :
    Pure Try.prog 11 [.agg #[.slice a2 x1.length c3.1], .int .i64 x4, .int .i64 x5] [SlN eN25 iN25 1 (.slice a2 x1.length c3.1) x1 c3.2] (Option Addr × Nat) (fun g => .tuple #[.slice g.1 r.1.length g.2, .int .i64 r.2]) (fun g => [Ro (eI .i64) 3 1 (.slice g.1 r.1.length g.2) r.1]) (fun _ => []) := by
  refine pure_of Try.func11 rfl Try.ntmps11 rfl hm (fun w => ?_)
  refine sxc_env (l' := [(0, .agg #[.slice a2 x1.length c3.1]), (1, .int .i64 x4), (2, .int .i64 x5)]) rfl ?_
  refine sxc_seq ?_
  refine sxc_region ?_
  refine sxo_box rfl rfl rfl (fun g6 => ?_)
  refine sxo_assign rfl rfl rfl ?_
  refine sxo_assign rfl rfl rfl ?_
  refine sxo_nil ?_
  refine sxq_next ?_
  refine sxc_seq ?_
  refine sxc_seq ?_
  refine sxc_region ?_
  refine sxo_loadB (i := 0) rfl rfl tf24 rfl rfl (by simp) rfl rfl ?_
  refine sxo_move rfl rfl rfl ?_
  refine sxo_move rfl rfl rfl ?_
  refine sxo_slit (vs := [.int .i64 x4, .int .i64 x5]) (ys := ([x4, x5] : List Int)) (eI_ok .i64) (by decide) rfl Try.underlying25 tf3 rfl rfl rfl rfl rfl (by decide) (fun a11 c12 => ?_)
  refine sxo_call ent27 rfl rfl rfl (fun x13 e13 => C_walk_check F x1 a2 c3 ([x4, x5] : List Int) a11 c12 x13 e13) (.consF 0 rfl (.consR 0 (Ro (eI .i64) 3 1 (.slice a11 ([x4, x5] : List Int).length c12) ([x4, x5] : List Int)) rfl .nil)) (fun x13 e13 => ?_)
  intro _
  refine sxo_assign rfl rfl rfl ?_
  refine sxo_nil ?_
  refine sxq_next ?_
  refine sxc_seq ?_
  refine sxc_region ?_
  refine sxo_move rfl rfl rfl ?_
  refine sxo_neq rfl rfl rfl rfl ?_
  refine sxo_nil ?_
  refine sxq_next ?_
  refine sxc_if rfl (fun h247 => ?_) (fun h247 => ?_)
  · refine sxc_seq ?_
    refine sxc_region ?_
    refine sxo_move rfl rfl rfl ?_
    refine sxo_assign rfl rfl rfl ?_
    refine sxo_assign rfl rfl rfl ?_
    refine sxo_nil ?_
    refine sxq_next ?_
    refine sxc_ret ?_
    refine sxq_thenR ?_
    refine sxq_nilrow Int (eI .i64) 3 1 ?_
    exact sxq_doneP (none, 0) (.inl rfl) (res2 rfl rfl rfl) (fun h => by subst h; rfl) (fun h => by subst h; exact (.cons 0 rfl .nil))
  · refine sxc_skip ?_
    refine sxq_next ?_
    refine sxc_seq ?_
    refine sxc_region ?_
    refine sxo_loadB (i := 0) rfl rfl tf24 rfl rfl (by simp) rfl rfl ?_
    refine sxo_call ent24 rfl rfl rfl (fun x14 e14 => C_graph_Turn F x1 a2 c3 x14 e14) (.consF 0 rfl .nil) (fun x14 e14 => ?_)
    rintro ⟨a15, c16⟩
    refine sxo_move rfl rfl rfl ?_
    refine sxo_extract rfl rfl rfl rfl ?_
    refine sxo_extract rfl rfl rfl rfl ?_
    refine sxo_alloc rfl tf24 rfl (fun g17 => ?_)
    refine sxo_storeB (i := 0) rfl rfl rfl tf24 rfl rfl rfl rfl rfl ?_
    refine sxo_assign rfl rfl rfl ?_
    refine sxo_nil ?_
    refine sxq_next ?_
    refine sxc_seq ?_
    refine sxc_region ?_
    refine sxo_loadB (i := 0) rfl rfl tf24 rfl rfl (by simp) rfl rfl ?_
    refine sxo_move rfl rfl rfl ?_
    refine sxo_call ent28 rfl rfl rfl (fun x18 e18 => C_walk_far F x14.1 a15 c16 x5 x18 e18) (.consG 0 rfl (nest_sl rN25_in) .nil) (fun x18 e18 => ?_)
    rintro ⟨a19, c20⟩
    refine sxo_alloc rfl tf25 rfl (fun g21 => ?_)
    refine sxo_storeB (i := 0) rfl rfl rfl tf25 rfl rfl rfl rfl rfl ?_
    refine sxo_nil ?_
    refine sxq_next ?_
    refine sxc_seq ?_
    refine sxc_seq ?_
    refine sxc_region ?_
    refine sxo_loadB (i := 0) rfl rfl tf25 rfl rfl (fun _ => rfl) rfl rfl ?_
    refine sxo_move rfl rfl rfl ?_
    refine sxo_indexR (j := 0) rfl Try.underlying25 tf3 rfl rfl rfl rfl (fun x26 e26 g27 h28 => ?_)
    refine sxo_loadR (j := 0) (y := x26) (eI_ok .i64) rfl rfl tf3 rfl h28 (idx_get e26).2.2 (fun _ => rfl) rfl rfl ?_
    refine sxo_lss rfl rfl rfl rfl ?_
    refine sxo_nil ?_
    refine sxq_next ?_
    refine sxc_if rfl (fun h246 => ?_) (fun h246 => ?_)
    · refine sxc_seq ?_
      refine sxc_region ?_
      refine sxo_assign rfl rfl rfl ?_
      refine sxo_assign rfl rfl rfl ?_
      refine sxo_nil ?_
      refine sxq_next ?_
      refine sxc_ret ?_
      refine sxq_thenR ?_
      refine sxq_nilrow Int (eI .i64) 3 1 ?_
      exact sxq_doneP (none, 0) (.inl rfl) (res2 rfl rfl rfl) (fun h => by subst h; rfl) (fun h => by subst h; exact (.cons 0 rfl .nil))
    · refine sxc_skip ?_
      refine sxq_next ?_
      refine sxc_seq ?_
      refine sxc_region ?_
      refine sxo_move rfl rfl rfl ?_
      refine sxo_slit (vs := [.int .i64 x4]) (ys := ([x4] : List Int)) (eI_ok .i64) (by decide) rfl Try.underlying25 tf3 rfl rfl rfl rfl rfl (by decide) (fun a29 c30 => ?_)
      refine sxo_assign rfl rfl rfl ?_
      refine sxo_nil ?_
      refine sxq_next ?_
      refine sxc_join (fun ((x139, (a137, c138)) : (List Int × (Option Addr × Nat))) => [(12, .slice a137 x139.length c138)]) (fun ((x139, (a137, c138)) : (List Int × (Option Addr × Nat))) => []) (fun ((x139, (a137, c138)) : (List Int × (Option Addr × Nat))) => [Ro (eI .i64) 3 1 (.slice a137 x139.length c138) x139]) (fun ((x139, (a137, c138)) : (List Int × (Option Addr × Nat))) => []) (fun ((x139, _) : (List Int × (Option Addr × Nat))) => M_walk_Way_j2 F x139) ?_ ?_
      · refine sxc_seq ?_
        refine sxc_region ?_
        refine sxo_move rfl rfl rfl ?_
        refine sxo_alloc rfl tf3 rfl (fun g140 => ?_)
        refine sxo_storeB (i := 0) rfl rfl rfl tf3 rfl rfl rfl rfl rfl ?_
        refine sxo_nil ?_
        refine sxq_next ?_
        refine sxc_block ?_
        refine sxc_loopP (fun (((x176, x178), (a174, c175, g177)) : ((List Int × Int) × (Option Addr × Nat × Nat))) => [(2, .int .i64 x5), (3, .pointer (some ⟨g6, 0, none⟩)), (11, .pointer (some ⟨g21, 0, none⟩)), (12, .slice a174 x176.length c175), (13, .pointer (some ⟨g177, 0, none⟩))]) (fun (((x176, x178), (a174, c175, g177)) : ((List Int × Int) × (Option Addr × Nat × Nat))) => [⟨g21, 25, [.slice a19 x18.length c20]⟩, ⟨g6, 24, [.slice a2 x1.length c3.1]⟩, ⟨g177, 3, [.int .i64 x178]⟩]) (fun (((x176, x178), (a174, c175, g177)) : ((List Int × Int) × (Option Addr × Nat × Nat))) => [Ro (eI .i64) 3 1 (.slice a174 x176.length c175) x176, Ro (eI .i64) 3 1 (.slice a19 x18.length c20) x18]) (fun (((x176, x178), (a174, c175, g177)) : ((List Int × Int) × (Option Addr × Nat × Nat))) => [SlN eN25 iN25 1 (.slice a2 x1.length c3.1) x1 c3.2]) (fun k (s : ((List Int × Int) × (Option Addr × Nat × Nat))) => M_walk_Way_l3 F x1 x5 x18 k s.1) ((([x4] : List Int), x4), (a29, c30, g140)) F (lk_cons rfl (lk_cons rfl (lk_cons rfl (lk_cons rfl (lk_cons rfl lk_nil))))) (.cons 1 rfl (.cons 2 rfl (.cons 0 rfl .nil))) (.cons 0 rfl (.cons 0 rfl .nil)) (fk_cons 0 rfl fk_nil) (fun _ => rfl) ?_
        intro k212
        rintro ⟨⟨x176, x178⟩, ⟨a174, c175, g177⟩⟩
        try dsimp only
        refine sxc_meq (m' := M_walk_Way_b3 F x1 x5 x18 (M_walk_Way_l3 F x1 x5 x18 k212) x176 x178) rfl ?_
        refine sxc_seq ?_
        refine sxc_seq ?_
        refine sxc_region ?_
        refine sxo_loadB (i := 2) rfl rfl tf3 rfl rfl (fun _ => rfl) rfl rfl ?_
        refine sxo_move rfl rfl rfl ?_
        refine sxo_neq rfl rfl rfl rfl ?_
        refine sxo_nil ?_
        refine sxq_next ?_
        refine sxc_if rfl (fun h245 => ?_) (fun h245 => ?_)
        · refine sxc_skip ?_
          refine sxq_next ?_
          refine sxc_seq ?_
          refine sxc_block ?_
          refine sxc_seq ?_
          refine sxc_region ?_
          refine sxo_fieldAddr rfl rfl ff24_0 rfl ?_
          refine sxo_loadB (i := 1) rfl rfl tf22 rfl rfl (fun _ => rfl) rfl rfl ?_
          refine sxo_loadB (i := 2) rfl rfl tf3 rfl rfl (fun _ => rfl) rfl rfl ?_
          refine sxo_indexN (j := 0) eN25_ok (by decide) rfl Try.underlying22 tf25 rfl rfl rfl rfl (fun x226 e226 g229 b227 o228 => ?_)
          refine sxo_loadF (j := 0) rfl rfl tf25 rfl rfl (fun _ => rfl) rfl rfl ?_
          refine sxo_makeFunc rfl rfl rfl ?_
          refine sxo_callM ent29 rfl rfl rfl (fun x230 e230 => C_slices_IndexFunc_int_int_walk_Way_1 F x226 g229.1 g229.2 g21 x18 a19 c20 g177 x178 x230 e230) (.cons 0 rfl (.cons 1 rfl .nil)) .nil (.consF 1 rfl (.consR 1 (Ro (eI .i64) 3 1 (.slice a19 x18.length c20) x18) rfl .nil)) (fun x230 e230 => ?_)
          intro _
          refine sxo_assign rfl rfl rfl ?_
          refine sxo_nil ?_
          refine sxq_next ?_
          refine sxc_region ?_
          refine sxo_fieldAddr rfl rfl ff24_0 rfl ?_
          refine sxo_loadB (i := 2) rfl rfl tf22 rfl rfl (fun _ => rfl) rfl rfl ?_
          refine sxo_loadB (i := 1) rfl rfl tf3 rfl rfl (fun _ => rfl) rfl rfl ?_
          refine sxo_indexN (j := 2) eN25_ok (by decide) rfl Try.underlying22 tf25 rfl rfl rfl rfl (fun x231 e231 g234 b232 o233 => ?_)
          refine sxo_loadF (j := 0) rfl rfl tf25 rfl rfl (fun _ => rfl) rfl rfl ?_
          refine sxo_move rfl rfl rfl ?_
          refine sxo_indexF (j := 1) (eI_ok .i64) (by decide) rfl Try.underlying25 tf3 rfl rfl rfl rfl (fun x235 e235 b236 o237 => ?_)
          refine sxo_loadF (j := 0) rfl rfl tf3 rfl rfl (fun _ => rfl) rfl rfl ?_
          refine sxo_storeB (i := 1) rfl rfl rfl tf3 rfl rfl rfl rfl rfl ?_
          refine sxo_nil ?_
          refine sxq_blkN ?_
          refine sxq_next ?_
          refine sxc_seq ?_
          refine sxc_seq ?_
          refine sxc_region ?_
          refine sxo_loadB (i := 1) rfl rfl tf3 rfl rfl (fun _ => rfl) rfl rfl ?_
          refine sxo_nil ?_
          refine sxq_next ?_
          refine sxc_region ?_
          refine sxo_alloc rfl tf3 rfl (fun g239 => ?_)
          refine sxo_storeB (i := 0) rfl rfl rfl tf3 rfl rfl rfl rfl rfl ?_
          refine sxo_nil ?_
          refine sxq_next ?_
          refine sxc_region ?_
          refine sxo_move rfl rfl rfl ?_
          refine sxo_loadB (i := 0) rfl rfl tf3 rfl rfl (fun _ => rfl) rfl rfl ?_
          refine sxo_slit (vs := [.int .i64 x235]) (ys := ([x235] : List Int)) (eI_ok .i64) (by decide) rfl Try.underlying25 tf3 rfl rfl rfl rfl rfl (by decide) (fun a240 c241 => ?_)
          refine sxo_app 1 (eI_ok .i64) rfl Try.underlying25 tf3 rfl rfl rfl rfl rfl (.inl ⟨0, _, rfl⟩) rfl rfl (fun x242 e242 a243 c244 => ?_)
          refine sxo_assign rfl rfl rfl ?_
          refine sxo_nil ?_
          exact sxq_againP ((x242, x235), (a243, c244, g239)) (lk_cons rfl (lk_cons rfl (lk_cons rfl (lk_cons rfl (lk_cons rfl lk_nil))))) (.cons 1 rfl (.cons 2 rfl (.cons 0 rfl .nil))) (.cons 0 rfl (.cons 1 rfl .nil)) (fk_cons 5 rfl fk_nil)
        · refine sxc_exit ?_
          refine sxq_thenX ?_
          refine sxq_thenX ?_
          refine sxq_blkX ?_
          exact sxq_meetP (x176, (a174, c175)) (lk_cons rfl lk_nil) .nil (.cons 0 rfl .nil) fk_nil
      · rintro ⟨x139, ⟨a137, c138⟩⟩
        try dsimp only
        refine sxc_seq ?_
        refine sxc_region ?_
        refine sxo_move rfl rfl rfl ?_
        refine sxo_assign rfl rfl rfl ?_
        refine sxo_assign rfl rfl rfl ?_
        refine sxo_nil ?_
        refine sxq_next ?_
        refine sxc_ret ?_
        exact sxq_doneP (a137, c138) (.inl rfl) (res2 rfl rfl rfl) (fun h => by subst h; rfl) (fun h => by subst h; exact (.cons 0 rfl .nil))

theorem C_walk_Parts_1 (F : Nat) (x1 : Int) (g2 : Nat) (x3 : List Int) (a4 : Option Addr) (c5 : Nat) (r : Int) (hm : M_walk_Parts_1 F x1 x3 = some r) :
    PureM Try.prog 31 [.int .i64 x1, .pointer (some ⟨g2, 0, none⟩)] [⟨g2, 25, [.slice a4 x3.length c5]⟩] [] [Sl (eI .i64) 1 (.slice a4 x3.length c5) x3] Unit (fun _ => .int .i64 r) (fun _ => [⟨g2, 25, [.slice a4 x3.length c5]⟩]) (fun _ => []) := by
  refine pureM_of Try.func31 rfl Try.ntmps31 rfl hm (fun w => ?_)
  refine sxc_env (l' := [(0, .int .i64 x1), (1, .pointer (some ⟨g2, 0, none⟩))]) rfl ?_
  refine sxc_seq ?_
  refine sxc_region ?_
  refine sxo_assign rfl rfl rfl ?_
  refine sxo_nil ?_
  refine sxq_next ?_
  refine sxc_join (fun ((x41, _) : (Int × Unit)) => [(0, .int .i64 x41)]) (fun ((x41, _) : (Int × Unit)) => [⟨g2, 25, [.slice a4 x3.length c5]⟩]) (fun ((x41, _) : (Int × Unit)) => []) (fun ((x41, _) : (Int × Unit)) => [Sl (eI .i64) 1 (.slice a4 x3.length c5) x3]) (fun ((x41, _) : (Int × Unit)) => M_walk_Parts_1_j2 F x41) ?_ ?_
  · refine sxc_block ?_
    refine sxc_loopP (fun ((x53, _) : (Int × Unit)) => [(0, .int .i64 x53), (1, .pointer (some ⟨g2, 0, none⟩))]) (fun ((x53, _) : (Int × Unit)) => [⟨g2, 25, [.slice a4 x3.length c5]⟩]) (fun ((x53, _) : (Int × Unit)) => []) (fun ((x53, _) : (Int × Unit)) => [Sl (eI .i64) 1 (.slice a4 x3.length c5) x3]) (fun k (s : (Int × Unit)) => M_walk_Parts_1_l3 F x3 k s.1) (x1, ()) F (lk_cons rfl (lk_cons rfl lk_nil)) (.cons 0 rfl .nil) .nil (fk_cons 0 rfl fk_nil) (fun _ => rfl) ?_
    intro k65
    rintro ⟨x53, _⟩
    try dsimp only
    refine sxc_meq (m' := M_walk_Parts_1_b3 F x3 (M_walk_Parts_1_l3 F x3 k65) x53) rfl ?_
    refine sxc_seq ?_
    refine sxc_seq ?_
    refine sxc_region ?_
    refine sxo_loadB (i := 0) rfl rfl tf25 rfl rfl (fun _ => rfl) rfl rfl ?_
    refine sxo_move rfl rfl rfl ?_
    refine sxo_indexF (j := 0) (eI_ok .i64) (by decide) rfl Try.underlying25 tf3 rfl rfl rfl rfl (fun x70 e70 b71 o72 => ?_)
    refine sxo_loadF (j := 0) rfl rfl tf3 rfl rfl (fun _ => rfl) rfl rfl ?_
    refine sxo_move rfl rfl rfl ?_
    refine sxo_neq rfl rfl rfl rfl ?_
    refine sxo_nil ?_
    refine sxq_next ?_
    refine sxc_if rfl (fun h76 => ?_) (fun h76 => ?_)
    · refine sxc_skip ?_
      refine sxq_next ?_
      refine sxc_block ?_
      refine sxc_region ?_
      refine sxo_loadB (i := 0) rfl rfl tf25 rfl rfl (fun _ => rfl) rfl rfl ?_
      refine sxo_move rfl rfl rfl ?_
      refine sxo_indexF (j := 1) (eI_ok .i64) (by decide) rfl Try.underlying25 tf3 rfl rfl rfl rfl (fun x73 e73 b74 o75 => ?_)
      refine sxo_loadF (j := 0) rfl rfl tf3 rfl rfl (fun _ => rfl) rfl rfl ?_
      refine sxo_assign rfl rfl rfl ?_
      refine sxo_nil ?_
      refine sxq_blkN ?_
      exact sxq_againP (x73, ()) (lk_cons rfl (lk_cons rfl lk_nil)) (.cons 0 rfl .nil) .nil (fk_cons 2 rfl fk_nil)
    · refine sxc_exit ?_
      refine sxq_thenX ?_
      refine sxq_thenX ?_
      refine sxq_blkX ?_
      exact sxq_meetP (x53, ()) (lk_cons rfl lk_nil) (.cons 0 rfl .nil) .nil (fk_cons 1 rfl fk_nil)
  · rintro ⟨x41, _⟩
    try dsimp only
    refine sxc_seq ?_
    refine sxc_region ?_
    refine sxo_move rfl rfl rfl ?_
    refine sxo_assign rfl rfl rfl ?_
    refine sxo_nil ?_
    refine sxq_next ?_
    refine sxc_ret ?_
    exact sxq_doneM () (.inl rfl) (res1 rfl rfl) (fun h => by subst h; rfl) (fun h => by subst h; exact (.cons 0 rfl .nil)) (fun h => by subst h; exact .nil)

set_option maxHeartbeats 4000000 in
theorem C_walk_Parts (F : Nat) (x1 : List (List Int)) (a2 : Option Addr) (c3 : (Nat × List (Option Addr × Nat))) (r : (List Int × Int)) (hm : M_walk_Parts F x1 = some r) :
    PureM Try.prog 12 [.agg #[.slice a2 x1.length c3.1]] [] [] [SlN eN25 iN25 1 (.slice a2 x1.length c3.1) x1 c3.2] (Option Addr × Nat) (fun g => .tuple #[.slice g.1 r.1.length g.2, .int .i64 r.2]) (fun _ => []) (fun g => [Ro (eI .i64) 3 1 (.slice g.1 r.1.length g.2) r.1]) := by
  refine pureX_of Try.func12 rfl Try.ntmps12 rfl hm (fun w => ?_)
  refine sxc_env (l' := [(0, .agg #[.slice a2 x1.length c3.1])]) rfl ?_
  refine sxc_seq ?_
  refine sxc_region ?_
  refine sxo_box rfl rfl rfl (fun g4 => ?_)
  refine sxo_assign rfl rfl rfl ?_
  refine sxo_assign rfl rfl rfl ?_
  refine sxo_nil ?_
  refine sxq_next ?_
  refine sxc_seq ?_
  refine sxc_seq ?_
  refine sxc_region ?_
  refine sxo_loadB (i := 0) rfl rfl tf24 rfl rfl (by simp) rfl rfl ?_
  refine sxo_nilrow' Int (eI .i64) 3 1 ?_
  refine sxo_call ent27 rfl rfl rfl (fun x7 e7 => C_walk_check F x1 a2 c3 ([] : List Int) none 0 x7 e7) (.consF 0 rfl (.consR 0 (Ro (eI .i64) 3 1 (.slice none ([] : List Int).length 0) ([] : List Int)) rfl .nil)) (fun x7 e7 => ?_)
  intro _
  refine sxo_assign rfl rfl rfl ?_
  refine sxo_nil ?_
  refine sxq_next ?_
  refine sxc_seq ?_
  refine sxc_region ?_
  refine sxo_move rfl rfl rfl ?_
  refine sxo_neq rfl rfl rfl rfl ?_
  refine sxo_nil ?_
  refine sxq_next ?_
  refine sxc_if rfl (fun h303 => ?_) (fun h303 => ?_)
  · refine sxc_seq ?_
    refine sxc_region ?_
    refine sxo_move rfl rfl rfl ?_
    refine sxo_assign rfl rfl rfl ?_
    refine sxo_assign rfl rfl rfl ?_
    refine sxo_nil ?_
    refine sxq_next ?_
    refine sxc_ret ?_
    refine sxq_thenR ?_
    refine sxq_nilrow Int (eI .i64) 3 1 ?_
    exact sxq_doneX [] (none, 0) (.inl rfl) rfl .nil (res2 rfl rfl rfl) (fun h => by subst h; rfl) (fun h => by subst h; exact .nil) (fun h => by subst h; exact (.cons 0 rfl .nil))
  · refine sxc_skip ?_
    refine sxq_next ?_
    refine sxc_seq ?_
    refine sxc_region ?_
    refine sxo_fieldAddr rfl rfl ff24_0 rfl ?_
    refine sxo_loadB (i := 0) rfl rfl tf22 rfl rfl (fun _ => rfl) rfl rfl ?_
    refine sxo_len rfl Try.underlying22 rfl rfl ?_
    refine sxo_mk (eI_ok .i64) rfl Try.underlying25 tf3 rfl rfl rfl rfl rfl rfl rfl (fun x8 e8 a9 c10 => ?_)
    refine sxo_alloc rfl tf25 rfl (fun g11 => ?_)
    refine sxo_storeB (i := 0) rfl rfl rfl tf25 rfl rfl rfl rfl rfl ?_
    refine sxo_nil ?_
    refine sxq_next ?_
    refine sxc_join (fun ((x57, _) : (List Int × Unit)) => [(1, .pointer (some ⟨g4, 0, none⟩)), (2, .slice none 0 0), (3, .int .i64 0), (5, .pointer (some ⟨g11, 0, none⟩))]) (fun ((x57, _) : (List Int × Unit)) => [⟨g11, 25, [.slice a9 x57.length c10]⟩, ⟨g4, 24, [.slice a2 x1.length c3.1]⟩]) (fun ((x57, _) : (List Int × Unit)) => [Ro (eI .i64) 3 1 (.slice a9 x57.length c10) x57]) (fun ((x57, _) : (List Int × Unit)) => [SlN eN25 iN25 1 (.slice a2 x1.length c3.1) x1 c3.2]) (fun ((x57, _) : (List Int × Unit)) => M_walk_Parts_j2 F x1 x57) ?_ ?_
    · refine sxc_seq ?_
      refine sxc_region ?_
      refine sxo_loadB (i := 0) rfl rfl tf25 rfl rfl (fun _ => rfl) rfl rfl ?_
      refine sxo_len rfl Try.underlying25 rfl rfl ?_
      refine sxo_move rfl rfl rfl ?_
      refine sxo_nil ?_
      refine sxq_next ?_
      refine sxc_block ?_
      refine sxc_loopP (fun (((x272, x273), _) : ((Int × List Int) × Unit)) => [(1, .pointer (some ⟨g4, 0, none⟩)), (2, .slice none 0 0), (3, .int .i64 0), (5, .pointer (some ⟨g11, 0, none⟩)), (22, .int .i64 (x8.length : Int)), (23, .int .i64 x272)]) (fun (((x272, x273), _) : ((Int × List Int) × Unit)) => [⟨g11, 25, [.slice a9 x273.length c10]⟩, ⟨g4, 24, [.slice a2 x1.length c3.1]⟩]) (fun (((x272, x273), _) : ((Int × List Int) × Unit)) => [Ro (eI .i64) 3 1 (.slice a9 x273.length c10) x273]) (fun (((x272, x273), _) : ((Int × List Int) × Unit)) => [SlN eN25 iN25 1 (.slice a2 x1.length c3.1) x1 c3.2]) (fun k (s : ((Int × List Int) × Unit)) => M_walk_Parts_l8 F x1 x8 k s.1) ((0, x8), ()) F (lk_cons rfl (lk_cons rfl (lk_cons rfl (lk_cons rfl (lk_cons rfl (lk_cons rfl lk_nil)))))) (.cons 0 rfl (.cons 0 rfl .nil)) (.cons 0 rfl .nil) (fk_cons 0 rfl fk_nil) (fun _ => rfl) ?_
      intro k288
      rintro ⟨⟨x272, x273⟩, _⟩
      try dsimp only
      refine sxc_meq (m' := M_walk_Parts_b8 F x1 x8 (M_walk_Parts_l8 F x1 x8 k288) x272 x273) rfl ?_
      refine sxc_seq ?_
      refine sxc_region ?_
      refine sxo_lss rfl rfl rfl rfl ?_
      refine sxo_nil ?_
      refine sxq_next ?_
      refine sxc_seq ?_
      refine sxc_if rfl (fun h302 => ?_) (fun h302 => ?_)
      · refine sxc_skip ?_
        refine sxq_next ?_
        refine sxc_seq ?_
        refine sxc_block ?_
        refine sxc_seq ?_
        refine sxc_region ?_
        refine sxo_move rfl rfl rfl ?_
        refine sxo_assign rfl rfl rfl ?_
        refine sxo_nil ?_
        refine sxq_next ?_
        refine sxc_region ?_
        refine sxo_loadB (i := 0) rfl rfl tf25 rfl rfl (fun _ => rfl) rfl rfl ?_
        refine sxo_move rfl rfl rfl ?_
        refine sxo_move rfl rfl rfl ?_
        refine sxo_indexR (j := 0) rfl Try.underlying25 tf3 rfl rfl rfl rfl (fun x296 e296 g297 h298 => ?_)
        refine sxo_storeL (j := 0) (y' := x272) (eI_ok .i64) rfl rfl rfl tf3 rfl h298 (idx_get e296).2.1 rfl (fun x299 e299 h300 => ?_)
        have h301 : x299.length = x273.length := by rw [← e299, List.length_set]
        refine sxo_again (d := 26) (v := .slice a9 x299.length c10) rfl h300 ?_
        refine sxo_blkAgain (i := 0) (cs' := [.slice a9 x299.length c10]) rfl (by rw [h300] <;> rfl) ?_
        refine sxo_nil ?_
        refine sxq_blkN ?_
        refine sxq_next ?_
        refine sxc_region ?_
        refine sxo_add rfl rfl rfl rfl ?_
        refine sxo_move rfl rfl rfl ?_
        refine sxo_nil ?_
        exact sxq_againP ((iadd .i64 x272 1, x299), ()) (lk_cons rfl (lk_cons rfl (lk_cons rfl (lk_cons rfl (lk_cons rfl (lk_cons rfl lk_nil)))))) (.cons 0 rfl (.cons 0 rfl .nil)) (.cons 0 rfl .nil) (fk_cons 0 rfl fk_nil)
      · refine sxc_exit ?_
        refine sxq_thenX ?_
        refine sxq_thenX ?_
        refine sxq_blkX ?_
        exact sxq_meetP (x273, ()) (lk_cons rfl (lk_cons rfl (lk_cons rfl (lk_cons rfl lk_nil)))) (.cons 0 rfl (.cons 0 rfl .nil)) (.cons 0 rfl .nil) (fk_cons 0 rfl fk_nil)
    · rintro ⟨x57, _⟩
      try dsimp only
      refine sxc_seq ?_
      refine sxc_region ?_
      refine sxo_makeFunc rfl rfl rfl ?_
      refine sxo_alloc rfl tf57 rfl (fun g58 => ?_)
      refine sxo_storeB (i := 0) rfl rfl rfl tf57 rfl rfl rfl rfl rfl ?_
      refine sxo_nil ?_
      refine sxq_next ?_
      refine sxc_seq ?_
      refine sxc_seq ?_
      refine sxc_region ?_
      refine sxo_loadB (i := 2) rfl rfl tf24 rfl rfl (by simp) rfl rfl ?_
      refine sxo_callM ent32 rfl rfl rfl (fun x101 e101 => C_graph_All F x1 a2 c3 x101 e101) .nil .nil (.consF 0 rfl .nil) (fun x101 e101 => ?_)
      rintro g102
      refine sxo_nil ?_
      refine sxq_next ?_
      refine sxc_block ?_
      refine sxc_range (encs := (fun (p : (Int × Int)) => [.agg #[.int .i64 p.1, .int .i64 p.2]])) (y := (fun (x116 : List Int) ((x130, x131) : (Int × Int)) => M_walk_Parts_r4 F x116 x130 x131)) (lb := [.pointer (some ⟨g102, 0, none⟩)]) (fun (x116 : List Int) (_ : Unit) => [⟨g58, 57, [.func (.func 31) #[] #[.pointer (some ⟨g11, 0, none⟩)]]⟩, ⟨g11, 25, [.slice a9 x116.length c10]⟩, ⟨g4, 24, [.slice a2 x1.length c3.1]⟩]) (fun (x116 : List Int) (_ : Unit) => [Ro (eI .i64) 3 1 (.slice a9 x116.length c10) x116]) (fun (_ : Empty) (_ : Unit) => []) (fun (_ : Empty) (_ : Unit) => []) (fun _ => .skip) x57 () rfl ent51 (fun _ => rfl) rfl (.cons 0 rfl .nil) (.cons 0 rfl (.cons 0 rfl (.cons 0 rfl .nil))) (.cons 0 rfl .nil) (.consF 0 rfl .nil) (fun z hz _ _ _ hY => C_graph_All_1 F hY x57 () g102 x1 a2 c3 z hz) ?_ ?_ ?_
      · rintro rc1 L1 D1 x116 _ ⟨x130, x131⟩ z w M _
        try dsimp only
        refine sxc_less [(1, .pointer (some ⟨g4, 0, none⟩)), (2, .slice none 0 0), (3, .int .i64 0), (5, .pointer (some ⟨g11, 0, none⟩)), (7, .pointer (some ⟨g58, 0, none⟩)), (31, .func (.func 31) #[] #[.pointer (some ⟨g11, 0, none⟩)]), (32, .agg #[.slice a2 x1.length c3.1]), (33, .func (.func 51) #[] #[.pointer (some ⟨g102, 0, none⟩)]), (34, .agg #[.int .i64 x130, .int .i64 x131])] (lk_cons rfl (lk_cons rfl (lk_cons rfl (lk_cons rfl (lk_cons rfl (lk_cons rfl (lk_cons rfl (lk_cons rfl (lk_cons rfl lk_nil))))))))) ?_
        refine sxc_region ?_
        refine sxo_alloc rfl tf51 rfl (fun g132 => ?_)
        refine sxo_storeB (i := 0) rfl rfl rfl tf51 rfl rfl rfl rfl rfl ?_
        refine sxo_nil ?_
        refine sxq_begin (i := 4) rfl ?_
        refine sxc_block ?_
        refine sxc_seq ?_
        refine sxb_draw mixed [] [⟨g132, 51, [.int .i64 x130, .int .i64 x131]⟩, ⟨g58, 57, [.func (.func 31) #[] #[.pointer (some ⟨g11, 0, none⟩)]]⟩, ⟨g11, 25, [.slice a9 x116.length c10]⟩, ⟨g4, 24, [.slice a2 x1.length c3.1]⟩, (blkO L1 (.loop (bsy rc1))), (dblk D1)] [SlN eN25 iN25 1 (.slice a2 x1.length c3.1) x1 c3.2] (.cons 0 rfl (.cons 0 rfl (.cons 0 rfl (.cons 0 rfl (.cons 0 rfl (.cons 0 rfl .nil)))))) (gk_F 0 rfl gk_nil) 10 rfl ?_
        refine sxb_takeB 0 (.func (.func 31) #[] #[.pointer (some ⟨g11, 0, none⟩)]) rfl rfl rfl rfl (by kernel_rfl) (by kernel_rfl) (by kernel_rfl) (by kernel_rfl) (by kernel_rfl) rfl (show _ = #[true, false, false, false, false, false, false, false, false, false] from rfl) (yv_loadB (i := 1) rfl tf57 rfl rfl (fun _ => rfl) rfl) ?_
        refine sxb_takeP 1 (.pointer (some ⟨g132, 0, none⟩)) rfl rfl rfl rfl (by kernel_rfl) (by kernel_rfl) (by kernel_rfl) (by kernel_rfl) (by kernel_rfl) rfl (show _ = #[true, true, false, false, false, false, false, false, false, false] from rfl) (yv_fieldAddr rfl ff51_0) ?_
        refine sxb_takeB 2 (.int .i64 x130) rfl rfl rfl rfl (by kernel_rfl) (by kernel_rfl) (by kernel_rfl) (by kernel_rfl) (by kernel_rfl) rfl (show _ = #[true, true, true, false, false, false, false, false, false, false] from rfl) (yv_loadB (i := 0) rfl tf3 rfl rfl (fun _ => rfl) rfl) ?_
        refine sxb_takeB 4 (.func (.func 31) #[] #[.pointer (some ⟨g11, 0, none⟩)]) rfl rfl rfl rfl (by kernel_rfl) (by kernel_rfl) (by kernel_rfl) (by kernel_rfl) (by kernel_rfl) rfl (show _ = #[true, true, true, false, true, false, false, false, false, false] from rfl) (yv_loadB (i := 1) rfl tf57 rfl rfl (fun _ => rfl) rfl) ?_
        refine sxb_takeP 5 (.pointer (some ⟨g132, 1, none⟩)) rfl rfl rfl rfl (by kernel_rfl) (by kernel_rfl) (by kernel_rfl) (by kernel_rfl) (by kernel_rfl) rfl (show _ = #[true, true, true, false, true, true, false, false, false, false] from rfl) (yv_fieldAddr rfl ff51_1) ?_
        refine sxb_takeB 6 (.int .i64 x131) rfl rfl rfl rfl (by kernel_rfl) (by kernel_rfl) (by kernel_rfl) (by kernel_rfl) (by kernel_rfl) rfl (show _ = #[true, true, true, false, true, true, true, false, false, false] from rfl) (yv_loadB (i := 0) rfl tf3 rfl rfl (fun _ => rfl) rfl) ?_
        refine sxb_step 3 rfl (by kernel_rfl) (show _ = #[true, true, true, true, true, true, true, false, false, false] from rfl) ?_
        refine sxo_callMV ent31 rfl rfl rfl rfl (fun x135 e135 => C_walk_Parts_1 F x130 g11 x116 a9 c10 x135 e135) (.cons 2 rfl .nil) .nil (.consR 0 (Ro (eI .i64) 3 1 (.slice a9 x116.length c10) x116) rfl .nil) (fun x135 e135 => ?_)
        intro _
        refine sxo_nil ?_
        refine sxq_anyB (.cons 1 rfl (.cons 1 rfl (.cons 0 rfl (.cons 0 rfl (.cons 0 rfl (.cons 0 rfl .nil)))))) (gk_F 0 rfl gk_nil) ?_
        refine sxb_step 7 rfl (by kernel_rfl) (show _ = #[true, true, true, true, true, true, true, true, false, false] from rfl) ?_
        refine sxo_callMV ent31 rfl rfl rfl rfl (fun x136 e136 => C_walk_Parts_1 F x131 g11 x116 a9 c10 x136 e136) (.cons 0 rfl .nil) .nil (.consR 0 (Ro (eI .i64) 3 1 (.slice a9 x116.length c10) x116) rfl .nil) (fun x136 e136 => ?_)
        intro _
        refine sxo_nil ?_
        refine sxq_anyB (.cons 1 rfl (.cons 1 rfl (.cons 0 rfl (.cons 0 rfl (.cons 0 rfl (.cons 0 rfl .nil)))))) (gk_F 0 rfl gk_nil) ?_
        refine sxb_takeP 8 (.int .i64 x135) rfl rfl rfl rfl (by kernel_rfl) (by kernel_rfl) (by kernel_rfl) (by kernel_rfl) (by kernel_rfl) rfl (show _ = #[true, true, true, true, true, true, true, true, true, false] from rfl) (yv_pv rfl) ?_
        refine sxb_takeP 9 (.int .i64 x136) rfl rfl rfl rfl (by kernel_rfl) (by kernel_rfl) (by kernel_rfl) (by kernel_rfl) (by kernel_rfl) rfl (show _ = #[true, true, true, true, true, true, true, true, true, true] from rfl) (yv_pv rfl) ?_
        refine sxb_done (by kernel_rfl) ?_
        refine sxq_np ?_ (by intro c h; cases h)
        refine sxq_next ?_
        refine sxc_region ?_
        refine sxo_loadB (i := 0) rfl rfl tf25 rfl rfl (fun _ => rfl) rfl rfl ?_
        refine sxo_move rfl rfl rfl ?_
        refine sxo_move rfl rfl rfl ?_
        refine sxo_max rfl rfl rfl rfl ?_
        refine sxo_move rfl rfl rfl ?_
        refine sxo_move rfl rfl rfl ?_
        refine sxo_min rfl rfl rfl rfl ?_
        refine sxo_indexR (j := 0) rfl Try.underlying25 tf3 rfl rfl rfl rfl (fun x137 e137 g138 h139 => ?_)
        refine sxo_storeL (j := 0) (y' := imin x135 x136) (eI_ok .i64) rfl rfl rfl tf3 rfl h139 (idx_get e137).2.1 rfl (fun x140 e140 h141 => ?_)
        have h142 : x140.length = x116.length := by rw [← e140, List.length_set]
        refine sxo_again (d := 43) (v := .slice a9 x140.length c10) rfl h141 ?_
        refine sxo_blkAgain (i := 0) (cs' := [.slice a9 x140.length c10]) rfl (by rw [h141] <;> rfl) ?_
        refine sxo_nil ?_
        refine sxq_blkN ?_
        exact sxq_round (rc := rc1) rfl (.cons 4 rfl .nil) rfl () (.cons 3 rfl (.cons 1 rfl (.cons 2 rfl (.cons 0 rfl (.cons 1 rfl .nil))))) (.cons 0 rfl .nil)
      · rintro x116 _ _ D1
        try dsimp only
        refine sxq_blkN ?_
        refine sxq_next ?_
        refine sxc_join (fun ((x200, _) : (List Int × Unit)) => [(5, .pointer (some ⟨g11, 0, none⟩))]) (fun ((x200, _) : (List Int × Unit)) => [(dblk D1), ⟨g11, 25, [.slice a9 x200.length c10]⟩]) (fun ((x200, _) : (List Int × Unit)) => [Ro (eI .i64) 3 1 (.slice a9 x200.length c10) x200]) (fun ((x200, _) : (List Int × Unit)) => []) (fun ((x200, _) : (List Int × Unit)) => M_walk_Parts_j6 F x200) ?_ ?_
        · refine sxc_seq ?_
          refine sxc_region ?_
          refine sxo_loadB (i := 3) rfl rfl tf25 rfl rfl (fun _ => rfl) rfl rfl ?_
          refine sxo_len rfl Try.underlying25 rfl rfl ?_
          refine sxo_move rfl rfl rfl ?_
          refine sxo_nil ?_
          refine sxq_next ?_
          refine sxc_block ?_
          refine sxc_loopP (fun (((x219, x220), _) : ((Int × List Int) × Unit)) => [(5, .pointer (some ⟨g11, 0, none⟩)), (7, .pointer (some ⟨g58, 0, none⟩)), (52, .int .i64 (x116.length : Int)), (53, .int .i64 x219)]) (fun (((x219, x220), _) : ((Int × List Int) × Unit)) => [(dblk D1), ⟨g58, 57, [.func (.func 31) #[] #[.pointer (some ⟨g11, 0, none⟩)]]⟩, ⟨g11, 25, [.slice a9 x220.length c10]⟩]) (fun (((x219, x220), _) : ((Int × List Int) × Unit)) => [Ro (eI .i64) 3 1 (.slice a9 x220.length c10) x220]) (fun (((x219, x220), _) : ((Int × List Int) × Unit)) => []) (fun k (s : ((Int × List Int) × Unit)) => M_walk_Parts_l7 F x116 k s.1) ((0, x116), ()) F (lk_cons rfl (lk_cons rfl (lk_cons rfl (lk_cons rfl lk_nil)))) (.cons 0 rfl (.cons 1 rfl (.cons 1 rfl .nil))) (.cons 0 rfl .nil) fk_nil (fun _ => rfl) ?_
          intro k239
          rintro ⟨⟨x219, x220⟩, _⟩
          try dsimp only
          refine sxc_meq (m' := M_walk_Parts_b7 F x116 (M_walk_Parts_l7 F x116 k239) x219 x220) rfl ?_
          refine sxc_seq ?_
          refine sxc_region ?_
          refine sxo_lss rfl rfl rfl rfl ?_
          refine sxo_nil ?_
          refine sxq_next ?_
          refine sxc_seq ?_
          refine sxc_if rfl (fun h257 => ?_) (fun h257 => ?_)
          · refine sxc_skip ?_
            refine sxq_next ?_
            refine sxc_seq ?_
            refine sxc_block ?_
            refine sxc_seq ?_
            refine sxc_region ?_
            refine sxo_move rfl rfl rfl ?_
            refine sxo_assign rfl rfl rfl ?_
            refine sxo_nil ?_
            refine sxq_next ?_
            refine sxc_idxO (j := 0) rfl (fun x249 e249 g250 h251 => ?_)
            replace h251 : a9 = some ⟨g250, 0, none⟩ := h251
            have h252 := own_of (k := x220.length) (c := c10) h251
            refine sxb_draw mixed [] [(dblk D1), ⟨g58, 57, [.func (.func 31) #[] #[.pointer (some ⟨g11, 0, none⟩)]]⟩, ⟨g11, 25, [.slice a9 x220.length c10]⟩] [] (.cons 0 rfl (.cons 0 rfl (.cons 0 rfl .nil))) gk_nil 7 rfl ?_
            refine sxb_takeB 0 (.slice a9 x220.length c10) rfl rfl rfl rfl (by kernel_rfl) (by kernel_rfl) (by kernel_rfl) (by kernel_rfl) (by kernel_rfl) rfl (show _ = #[true, false, false, false, false, false, false] from rfl) (yv_loadB (i := 2) rfl tf25 rfl rfl (fun _ => rfl) rfl) ?_
            refine sxb_takeP 1 (.int .i64 x219) rfl rfl rfl rfl (by kernel_rfl) (by kernel_rfl) (by kernel_rfl) (by kernel_rfl) (by kernel_rfl) rfl (show _ = #[true, true, false, false, false, false, false] from rfl) (yv_pv rfl) ?_
            refine sxb_takeB 2 (.func (.func 31) #[] #[.pointer (some ⟨g11, 0, none⟩)]) rfl rfl rfl rfl (by kernel_rfl) (by kernel_rfl) (by kernel_rfl) (by kernel_rfl) (by kernel_rfl) rfl (show _ = #[true, true, true, false, false, false, false] from rfl) (yv_loadB (i := 1) rfl tf57 rfl rfl (fun _ => rfl) rfl) ?_
            refine sxb_takeP 3 (.int .i64 x219) rfl rfl rfl rfl (by kernel_rfl) (by kernel_rfl) (by kernel_rfl) (by kernel_rfl) (by kernel_rfl) rfl (show _ = #[true, true, true, true, false, false, false] from rfl) (yv_pv rfl) ?_
            refine sxb_step 4 rfl (by kernel_rfl) (show _ = #[true, true, true, true, true, false, false] from rfl) ?_
            refine sxo_callMV ent31 rfl rfl rfl rfl (fun x253 e253 => C_walk_Parts_1 F x219 g11 x220 a9 c10 x253 e253) (.cons 2 rfl .nil) .nil (.consR 0 (Ro (eI .i64) 3 1 (.slice a9 x220.length c10) x220) rfl .nil) (fun x253 e253 => ?_)
            intro _
            refine sxo_nil ?_
            refine sxq_anyB (.cons 1 rfl (.cons 1 rfl (.cons 0 rfl .nil))) gk_nil ?_
            refine sxb_again (d := 56) (v := .slice (some ⟨g250, 0, none⟩) x220.length c10) rfl (by rw [h251] <;> rfl) ?_
            refine sxb_takeP 5 (.pointer (some ⟨g250, x219.toNat * 1, none⟩)) rfl rfl rfl rfl (by kernel_rfl) (by kernel_rfl) (by kernel_rfl) (by kernel_rfl) (by kernel_rfl) rfl (show _ = #[true, true, true, true, true, true, false] from rfl) (yv_idxO Try.underlying25 tf3 rfl rfl (idx_get e249).1 (idx_lt e249)) ?_
            refine sxb_again (d := 56) (v := .slice a9 x220.length c10) rfl (by rw [h251] <;> rfl) ?_
            refine sxb_step 6 rfl (by kernel_rfl) (show _ = #[true, true, true, true, true, true, true] from rfl) ?_
            refine sxo_storeL (j := 0) (y' := x253) (eI_ok .i64) rfl rfl rfl tf3 rfl (own_of h251) (idx_get e249).2.1 rfl (fun x254 e254 h255 => ?_)
            have h256 : x254.length = x220.length := by rw [← e254, List.length_set]
            refine sxo_again (d := 56) (v := .slice a9 x254.length c10) rfl h255 ?_
            refine sxo_blkAgain (i := 0) (cs' := [.slice a9 x254.length c10]) rfl (by rw [h255] <;> rfl) ?_
            refine sxo_nil ?_
            refine sxq_anyB (.cons 1 rfl (.cons 1 rfl (.cons 0 (by rw [h256]; rfl) .nil))) gk_nil ?_
            refine sxb_done (by kernel_rfl) ?_
            refine sxq_np ?_ (by intro c h; cases h)
            refine sxq_blkN ?_
            refine sxq_next ?_
            refine sxc_region ?_
            refine sxo_add rfl rfl rfl rfl ?_
            refine sxo_move rfl rfl rfl ?_
            refine sxo_nil ?_
            exact sxq_againP ((iadd .i64 x219 1, x254), ()) (lk_cons rfl (lk_cons rfl (lk_cons rfl (lk_cons rfl lk_nil)))) (.cons 1 rfl (.cons 1 rfl (.cons 0 rfl .nil))) (.cons 0 rfl .nil) fk_nil
          · refine sxc_exit ?_
            refine sxq_thenX ?_
            refine sxq_thenX ?_
            refine sxq_blkX ?_
            exact sxq_meetP (x220, ()) (lk_cons rfl lk_nil) (.cons 0 rfl (.cons 1 rfl .nil)) (.cons 0 rfl .nil) fk_nil
        · rintro ⟨x200, _⟩
          try dsimp only
          refine sxc_seq ?_
          refine sxc_region ?_
          refine sxo_loadB (i := 1) rfl rfl tf25 rfl rfl (fun _ => rfl) rfl rfl ?_
          refine sxo_assign rfl rfl rfl ?_
          refine sxo_assign rfl rfl rfl ?_
          refine sxo_nil ?_
          refine sxq_next ?_
          refine sxc_ret ?_
          exact sxq_doneX [D1] (a9, c10) (.inl rfl) rfl (.cons 0 rfl .nil) (res2 rfl rfl rfl) (fun h => by subst h; rfl) (fun h => by subst h; exact .nil) (fun h => by subst h; exact (.cons 0 rfl .nil))
      · intro t; exact t.elim

theorem C_slices_Max_int_int (F : Nat) (x1 : List Int) (a2 : Option Addr) (c3 : Nat) (r : Int) (hm : M_slices_Max_int_int F x1 = some r) :
    Pure Try.prog 33 [.slice a2 x1.length c3] [Sl (eI .i64) 1 (.slice a2 x1.length c3) x1] Unit (fun _ => .int .i64 r) (fun _ => []) (fun _ => []) := by
  refine pure_of Try.func33 rfl Try.ntmps33 rfl hm (fun w => ?_)
  refine sxc_env (l' := [(0, .slice a2 x1.length c3)]) rfl ?_
  refine sxc_seq ?_
  refine sxc_region ?_
  refine sxo_assign rfl rfl rfl ?_
  refine sxo_nil ?_
  refine sxq_next ?_
  refine sxc_seq ?_
  refine sxc_seq ?_
  refine sxc_region ?_
  refine sxo_move rfl rfl rfl ?_
  refine sxo_len rfl Try.underlying25 rfl rfl ?_
  refine sxo_lss rfl rfl rfl rfl ?_
  refine sxo_nil ?_
  refine sxq_next ?_
  refine sxc_if rfl (fun h63 => ?_) (fun h63 => ?_)
  · exact sxc_none
  · refine sxc_skip ?_
    refine sxq_next ?_
    refine sxc_seq ?_
    refine sxc_region ?_
    refine sxo_move rfl rfl rfl ?_
    refine sxo_indexF (j := 0) (eI_ok .i64) (by decide) rfl Try.underlying25 tf3 rfl rfl rfl rfl (fun x5 e5 b6 o7 => ?_)
    refine sxo_loadF (j := 0) rfl rfl tf3 rfl rfl (fun _ => rfl) rfl rfl ?_
    refine sxo_assign rfl rfl rfl ?_
    refine sxo_nil ?_
    refine sxq_next ?_
    refine sxc_join (fun ((x35, _) : (Int × Unit)) => [(3, .int .i64 x35)]) (fun ((x35, _) : (Int × Unit)) => []) (fun ((x35, _) : (Int × Unit)) => []) (fun ((x35, _) : (Int × Unit)) => []) (fun ((x35, _) : (Int × Unit)) => M_slices_Max_int_int_j2 F x35) ?_ ?_
    · refine sxc_seq ?_
      refine sxc_region ?_
      refine sxo_assign rfl rfl rfl ?_
      refine sxo_nil ?_
      refine sxq_next ?_
      refine sxc_block ?_
      refine sxc_loopP (fun (((x44, x45), _) : ((Int × Int) × Unit)) => [(0, .slice a2 x1.length c3), (3, .int .i64 x44), (4, .int .i64 x45)]) (fun (((x44, x45), _) : ((Int × Int) × Unit)) => []) (fun (((x44, x45), _) : ((Int × Int) × Unit)) => []) (fun (((x44, x45), _) : ((Int × Int) × Unit)) => [Sl (eI .i64) 1 (.slice a2 x1.length c3) x1]) (fun k (s : ((Int × Int) × Unit)) => M_slices_Max_int_int_l3 F x1 k s.1) ((x5, 1), ()) F (lk_cons rfl (lk_cons rfl (lk_cons rfl lk_nil))) .nil .nil (fk_cons 1 rfl fk_nil) (fun _ => rfl) ?_
      intro k54
      rintro ⟨⟨x44, x45⟩, _⟩
      try dsimp only
      refine sxc_meq (m' := M_slices_Max_int_int_b3 F x1 (M_slices_Max_int_int_l3 F x1 k54) x44 x45) rfl ?_
      refine sxc_seq ?_
      refine sxc_seq ?_
      refine sxc_region ?_
      refine sxo_move rfl rfl rfl ?_
      refine sxo_move rfl rfl rfl ?_
      refine sxo_len rfl Try.underlying25 rfl rfl ?_
      refine sxo_lss rfl rfl rfl rfl ?_
      refine sxo_nil ?_
      refine sxq_next ?_
      refine sxc_if rfl (fun h62 => ?_) (fun h62 => ?_)
      · refine sxc_skip ?_
        refine sxq_next ?_
        refine sxc_seq ?_
        refine sxc_block ?_
        refine sxc_region ?_
        refine sxo_move rfl rfl rfl ?_
        refine sxo_move rfl rfl rfl ?_
        refine sxo_move rfl rfl rfl ?_
        refine sxo_indexF (j := 0) (eI_ok .i64) (by decide) rfl Try.underlying25 tf3 rfl rfl rfl rfl (fun x59 e59 b60 o61 => ?_)
        refine sxo_loadF (j := 0) rfl rfl tf3 rfl rfl (fun _ => rfl) rfl rfl ?_
        refine sxo_max rfl rfl rfl rfl ?_
        refine sxo_assign rfl rfl rfl ?_
        refine sxo_nil ?_
        refine sxq_blkN ?_
        refine sxq_next ?_
        refine sxc_region ?_
        refine sxo_move rfl rfl rfl ?_
        refine sxo_add rfl rfl rfl rfl ?_
        refine sxo_assign rfl rfl rfl ?_
        refine sxo_nil ?_
        exact sxq_againP ((imax x44 x59, iadd .i64 x45 1), ()) (lk_cons rfl (lk_cons rfl (lk_cons rfl lk_nil))) .nil .nil (fk_cons 1 rfl fk_nil)
      · refine sxc_exit ?_
        refine sxq_thenX ?_
        refine sxq_thenX ?_
        refine sxq_blkX ?_
        exact sxq_meetP (x44, ()) (lk_cons rfl lk_nil) .nil .nil fk_nil
    · rintro ⟨x35, _⟩
      try dsimp only
      refine sxc_seq ?_
      refine sxc_region ?_
      refine sxo_move rfl rfl rfl ?_
      refine sxo_assign rfl rfl rfl ?_
      refine sxo_nil ?_
      refine sxq_next ?_
      refine sxc_ret ?_
      exact sxq_doneP () (.inl rfl) (res1 rfl rfl) (fun h => by subst h; rfl) (fun h => by subst h; exact .nil)

theorem C_walk_Most (F : Nat) (x1 : List (List Int)) (a2 : Option Addr) (c3 : (Nat × List (Option Addr × Nat))) (r : (Int × Int)) (hm : M_walk_Most F x1 = some r) :
    Pure Try.prog 13 [.agg #[.slice a2 x1.length c3.1]] [SlN eN25 iN25 1 (.slice a2 x1.length c3.1) x1 c3.2] Unit (fun _ => .tuple #[.int .i64 r.1, .int .i64 r.2]) (fun _ => []) (fun _ => []) := by
  refine pure_of Try.func13 rfl Try.ntmps13 rfl hm (fun w => ?_)
  refine sxc_env (l' := [(0, .agg #[.slice a2 x1.length c3.1])]) rfl ?_
  refine sxc_seq ?_
  refine sxc_region ?_
  refine sxo_box rfl rfl rfl (fun g4 => ?_)
  refine sxo_assign rfl rfl rfl ?_
  refine sxo_assign rfl rfl rfl ?_
  refine sxo_nil ?_
  refine sxq_next ?_
  refine sxc_seq ?_
  refine sxc_seq ?_
  refine sxc_region ?_
  refine sxo_loadB (i := 0) rfl rfl tf24 rfl rfl (by simp) rfl rfl ?_
  refine sxo_nilrow' Int (eI .i64) 3 1 ?_
  refine sxo_call ent27 rfl rfl rfl (fun x7 e7 => C_walk_check F x1 a2 c3 ([] : List Int) none 0 x7 e7) (.consF 0 rfl (.consR 0 (Ro (eI .i64) 3 1 (.slice none ([] : List Int).length 0) ([] : List Int)) rfl .nil)) (fun x7 e7 => ?_)
  intro _
  refine sxo_assign rfl rfl rfl ?_
  refine sxo_nil ?_
  refine sxq_next ?_
  refine sxc_seq ?_
  refine sxc_region ?_
  refine sxo_move rfl rfl rfl ?_
  refine sxo_neq rfl rfl rfl rfl ?_
  refine sxo_nil ?_
  refine sxq_next ?_
  refine sxc_if rfl (fun h75 => ?_) (fun h75 => ?_)
  · refine sxc_seq ?_
    refine sxc_region ?_
    refine sxo_move rfl rfl rfl ?_
    refine sxo_assign rfl rfl rfl ?_
    refine sxo_assign rfl rfl rfl ?_
    refine sxo_nil ?_
    refine sxq_next ?_
    refine sxc_ret ?_
    refine sxq_thenR ?_
    exact sxq_doneP () (.inl rfl) (res2 rfl rfl rfl) (fun h => by subst h; rfl) (fun h => by subst h; exact .nil)
  · refine sxc_skip ?_
    refine sxq_next ?_
    refine sxc_join (fun ((x41, _) : (Int × Unit)) => [(2, .int .i64 x41)]) (fun ((x41, _) : (Int × Unit)) => []) (fun ((x41, _) : (Int × Unit)) => []) (fun ((x41, _) : (Int × Unit)) => []) (fun ((x41, _) : (Int × Unit)) => M_walk_Most_j2 F x41) ?_ ?_
    · refine sxc_seq ?_
      refine sxc_region ?_
      refine sxo_fieldAddr rfl rfl ff24_0 rfl ?_
      refine sxo_loadB (i := 0) rfl rfl tf22 rfl rfl (fun _ => rfl) rfl rfl ?_
      refine sxo_len rfl Try.underlying22 rfl rfl ?_
      refine sxo_move rfl rfl rfl ?_
      refine sxo_nil ?_
      refine sxq_next ?_
      refine sxc_block ?_
      refine sxc_loopP (fun (((x52, x53), _) : ((Int × Int) × Unit)) => [(1, .pointer (some ⟨g4, 0, none⟩)), (2, .int .i64 x52), (13, .int .i64 (x1.length : Int)), (14, .int .i64 x53)]) (fun (((x52, x53), _) : ((Int × Int) × Unit)) => [⟨g4, 24, [.slice a2 x1.length c3.1]⟩]) (fun (((x52, x53), _) : ((Int × Int) × Unit)) => []) (fun (((x52, x53), _) : ((Int × Int) × Unit)) => [SlN eN25 iN25 1 (.slice a2 x1.length c3.1) x1 c3.2]) (fun k (s : ((Int × Int) × Unit)) => M_walk_Most_l3 F x1 k s.1) ((0, 0), ()) F (lk_cons rfl (lk_cons rfl (lk_cons rfl (lk_cons rfl lk_nil)))) (.cons 0 rfl .nil) .nil (fk_cons 0 rfl fk_nil) (fun _ => rfl) ?_
      intro k64
      rintro ⟨⟨x52, x53⟩, _⟩
      try dsimp only
      refine sxc_meq (m' := M_walk_Most_b3 F x1 (M_walk_Most_l3 F x1 k64) x52 x53) rfl ?_
      refine sxc_seq ?_
      refine sxc_region ?_
      refine sxo_lss rfl rfl rfl rfl ?_
      refine sxo_nil ?_
      refine sxq_next ?_
      refine sxc_seq ?_
      refine sxc_if rfl (fun h74 => ?_) (fun h74 => ?_)
      · refine sxc_skip ?_
        refine sxq_next ?_
        refine sxc_seq ?_
        refine sxc_block ?_
        refine sxc_seq ?_
        refine sxc_region ?_
        refine sxo_move rfl rfl rfl ?_
        refine sxo_assign rfl rfl rfl ?_
        refine sxo_nil ?_
        refine sxq_next ?_
        refine sxc_region ?_
        refine sxo_move rfl rfl rfl ?_
        refine sxo_loadB (i := 0) rfl rfl tf24 rfl rfl (by simp) rfl rfl ?_
        refine sxo_move rfl rfl rfl ?_
        refine sxo_call ent28 rfl rfl rfl (fun x70 e70 => C_walk_far F x1 a2 c3 x53 x70 e70) (.consF 0 rfl .nil) (fun x70 e70 => ?_)
        rintro ⟨a71, c72⟩
        refine sxo_call ent33 rfl rfl rfl (fun x73 e73 => C_slices_Max_int_int F x70 a71 c72 x73 e73) (.consR 0 (Ro (eI .i64) 3 1 (.slice a71 x70.length c72) x70) rfl .nil) (fun x73 e73 => ?_)
        intro _
        refine sxo_max rfl rfl rfl rfl ?_
        refine sxo_assign rfl rfl rfl ?_
        refine sxo_nil ?_
        refine sxq_blkN ?_
        refine sxq_next ?_
        refine sxc_region ?_
        refine sxo_add rfl rfl rfl rfl ?_
        refine sxo_move rfl rfl rfl ?_
        refine sxo_nil ?_
        exact sxq_againP ((imax x52 x73, iadd .i64 x53 1), ()) (lk_cons rfl (lk_cons rfl (lk_cons rfl (lk_cons rfl lk_nil)))) (.cons 0 rfl .nil) .nil (fk_cons 0 rfl fk_nil)
      · refine sxc_exit ?_
        refine sxq_thenX ?_
        refine sxq_thenX ?_
        refine sxq_blkX ?_
        exact sxq_meetP (x52, ()) (lk_cons rfl lk_nil) .nil .nil fk_nil
    · rintro ⟨x41, _⟩
      try dsimp only
      refine sxc_seq ?_
      refine sxc_region ?_
      refine sxo_move rfl rfl rfl ?_
      refine sxo_assign rfl rfl rfl ?_
      refine sxo_assign rfl rfl rfl ?_
      refine sxo_nil ?_
      refine sxq_next ?_
      refine sxc_ret ?_
      exact sxq_doneP () (.inl rfl) (res2 rfl rfl rfl) (fun h => by subst h; rfl) (fun h => by subst h; exact .nil)

theorem C_R_SameInts (F : Nat) (x1 : List Int) (a2 : Option Addr) (c3 : Nat) (x4 : List Int) (a5 : Option Addr) (c6 : Nat) (r : Bool) (hm : M_R_SameInts F x1 x4 = some r) :
    Pure Try.prog 19 [.slice a2 x1.length c3, .slice a5 x4.length c6] [Sl (eI .i64) 1 (.slice a2 x1.length c3) x1, Sl (eI .i64) 1 (.slice a5 x4.length c6) x4] Unit (fun _ => .bool r) (fun _ => []) (fun _ => []) := by
  refine pure_of Try.func19 rfl Try.ntmps19 rfl hm (fun w => ?_)
  refine sxc_env (l' := [(0, .slice a2 x1.length c3), (1, .slice a5 x4.length c6)]) rfl ?_
  refine sxc_seq ?_
  refine sxc_region ?_
  refine sxo_assign rfl rfl rfl ?_
  refine sxo_nil ?_
  refine sxq_next ?_
  refine sxc_seq ?_
  refine sxc_seq ?_
  refine sxc_region ?_
  refine sxo_move rfl rfl rfl ?_
  refine sxo_len rfl Try.underlying25 rfl rfl ?_
  refine sxo_move rfl rfl rfl ?_
  refine sxo_len rfl Try.underlying25 rfl rfl ?_
  refine sxo_neq rfl rfl rfl rfl ?_
  refine sxo_nil ?_
  refine sxq_next ?_
  refine sxc_if rfl (fun h228 => ?_) (fun h228 => ?_)
  · refine sxc_seq ?_
    refine sxc_region ?_
    refine sxo_assign rfl rfl rfl ?_
    refine sxo_nil ?_
    refine sxq_next ?_
    refine sxc_ret ?_
    refine sxq_thenR ?_
    exact sxq_doneP () (.inl rfl) (res1 rfl rfl) (fun h => by subst h; rfl) (fun h => by subst h; exact .nil)
  · refine sxc_skip ?_
    refine sxq_next ?_
    refine sxc_join (fun ((_, _) : (Unit × Unit)) => []) (fun ((_, _) : (Unit × Unit)) => []) (fun ((_, _) : (Unit × Unit)) => []) (fun ((_, _) : (Unit × Unit)) => []) (fun ((_, _) : (Unit × Unit)) => M_R_SameInts_j2 F) ?_ ?_
    · refine sxc_seq ?_
      refine sxc_region ?_
      refine sxo_assign rfl rfl rfl ?_
      refine sxo_nil ?_
      refine sxq_next ?_
      refine sxc_block ?_
      refine sxc_loopP (fun ((x154, _) : (Int × Unit)) => [(0, .slice a2 x1.length c3), (1, .slice a5 x4.length c6), (5, .int .i64 x154)]) (fun ((x154, _) : (Int × Unit)) => []) (fun ((x154, _) : (Int × Unit)) => []) (fun ((x154, _) : (Int × Unit)) => [Sl (eI .i64) 1 (.slice a2 x1.length c3) x1, Sl (eI .i64) 1 (.slice a5 x4.length c6) x4]) (fun k (s : (Int × Unit)) => M_R_SameInts_l3 F x1 x4 k s.1) (0, ()) F (lk_cons rfl (lk_cons rfl (lk_cons rfl lk_nil))) .nil .nil (fk_cons 0 rfl (fk_cons 1 rfl fk_nil)) (fun _ => rfl) ?_
      intro k191
      rintro ⟨x154, _⟩
      try dsimp only
      refine sxc_meq (m' := M_R_SameInts_b3 F x1 x4 (M_R_SameInts_l3 F x1 x4 k191) x154) rfl ?_
      refine sxc_seq ?_
      refine sxc_seq ?_
      refine sxc_region ?_
      refine sxo_move rfl rfl rfl ?_
      refine sxo_move rfl rfl rfl ?_
      refine sxo_len rfl Try.underlying25 rfl rfl ?_
      refine sxo_lss rfl rfl rfl rfl ?_
      refine sxo_nil ?_
      refine sxq_next ?_
      refine sxc_if rfl (fun h227 => ?_) (fun h227 => ?_)
      · refine sxc_skip ?_
        refine sxq_next ?_
        refine sxc_seq ?_
        refine sxc_block ?_
        refine sxc_seq ?_
        refine sxc_idxF (j := 0) (eI_ok .i64) (by decide) rfl (fun x218 e218 b219 o220 h221 => ?_)
        replace h221 : a2 = some ⟨b219, o220, none⟩ := h221
        refine sxc_idxF (j := 2) (eI_ok .i64) (by decide) rfl (fun x222 e222 b223 o224 h225 => ?_)
        replace h225 : a5 = some ⟨b223, o224, none⟩ := h225
        refine sxb_draw mixed [] [] [CellsAt b223 (o224 + x154.toNat * 1) ((eI .i64) x222), CellsAt b219 (o220 + x154.toNat * 1) ((eI .i64) x218), Sl (eI .i64) 1 (.slice a2 x1.length c3) x1, Sl (eI .i64) 1 (.slice a5 x4.length c6) x4] .nil (gk_F 0 rfl (gk_F 1 rfl (gk_F 2 rfl (gk_F 3 rfl gk_nil)))) 9 rfl ?_
        refine sxb_takeP 0 (.slice a2 x1.length c3) rfl rfl rfl rfl (by kernel_rfl) (by kernel_rfl) (by kernel_rfl) (by kernel_rfl) (by kernel_rfl) rfl (show _ = #[true, false, false, false, false, false, false, false, false] from rfl) (yv_pv rfl) ?_
        refine sxb_takeP 1 (.int .i64 x154) rfl rfl rfl rfl (by kernel_rfl) (by kernel_rfl) (by kernel_rfl) (by kernel_rfl) (by kernel_rfl) rfl (show _ = #[true, true, false, false, false, false, false, false, false] from rfl) (yv_pv rfl) ?_
        refine sxb_again (d := 17) (v := .slice (some ⟨b219, o220, none⟩) x1.length c3) rfl (by rw [h221] <;> rfl) ?_
        refine sxb_takeP 2 (.pointer (some ⟨b219, (o220 + x154.toNat * 1), none⟩)) rfl rfl rfl rfl (by kernel_rfl) (by kernel_rfl) (by kernel_rfl) (by kernel_rfl) (by kernel_rfl) rfl (show _ = #[true, true, true, false, false, false, false, false, false] from rfl) (yv_idx Try.underlying25 tf3 rfl rfl (idx_get e218).1 (idx_lt e218)) ?_
        refine sxb_again (d := 17) (v := .slice a2 x1.length c3) rfl (by rw [h221] <;> rfl) ?_
        refine sxb_take 3 (.int .i64 x218) [] rfl rfl rfl rfl (by kernel_rfl) (by kernel_rfl) (by kernel_rfl) (by kernel_rfl) (by kernel_rfl) (by kernel_rfl) rfl (show _ = #[true, true, true, true, false, false, false, false, false] from rfl) (yv_loadF (j := 1) rfl tf3 rfl rfl (fun _ => rfl) rfl) ?_
        refine sxb_takeP 4 (.slice a5 x4.length c6) rfl rfl rfl rfl (by kernel_rfl) (by kernel_rfl) (by kernel_rfl) (by kernel_rfl) (by kernel_rfl) rfl (show _ = #[true, true, true, true, true, false, false, false, false] from rfl) (yv_pv rfl) ?_
        refine sxb_takeP 5 (.int .i64 x154) rfl rfl rfl rfl (by kernel_rfl) (by kernel_rfl) (by kernel_rfl) (by kernel_rfl) (by kernel_rfl) rfl (show _ = #[true, true, true, true, true, true, false, false, false] from rfl) (yv_pv rfl) ?_
        refine sxb_again (d := 21) (v := .slice (some ⟨b223, o224, none⟩) x4.length c6) rfl (by rw [h225] <;> rfl) ?_
        refine sxb_takeP 6 (.pointer (some ⟨b223, (o224 + x154.toNat * 1), none⟩)) rfl rfl rfl rfl (by kernel_rfl) (by kernel_rfl) (by kernel_rfl) (by kernel_rfl) (by kernel_rfl) rfl (show _ = #[true, true, true, true, true, true, true, false, false] from rfl) (yv_idx Try.underlying25 tf3 rfl rfl (idx_get e222).1 (idx_lt e222)) ?_
        refine sxb_again (d := 21) (v := .slice a5 x4.length c6) rfl (by rw [h225] <;> rfl) ?_
        refine sxb_take 7 (.int .i64 x222) [] rfl rfl rfl rfl (by kernel_rfl) (by kernel_rfl) (by kernel_rfl) (by kernel_rfl) (by kernel_rfl) (by kernel_rfl) rfl (show _ = #[true, true, true, true, true, true, true, true, false] from rfl) (yv_loadF (j := 0) rfl tf3 rfl rfl (fun _ => rfl) rfl) ?_
        refine sxb_takeP 8 (.bool ((x218 : Int) != x222)) rfl rfl rfl rfl (by kernel_rfl) (by kernel_rfl) (by kernel_rfl) (by kernel_rfl) (by kernel_rfl) rfl (show _ = #[true, true, true, true, true, true, true, true, true] from rfl) (yv_pv rfl) ?_
        refine sxb_done (by kernel_rfl) ?_
        refine sxq_np ?_ (by intro c h; cases h)
        refine sxq_next ?_
        refine sxc_if rfl (fun h226 => ?_) (fun h226 => ?_)
        · refine sxc_seq ?_
          refine sxc_region ?_
          refine sxo_assign rfl rfl rfl ?_
          refine sxo_nil ?_
          refine sxq_next ?_
          refine sxc_ret ?_
          refine sxq_blkR ?_
          refine sxq_thenR ?_
          refine sxq_thenR ?_
          refine sxq_blkR ?_
          refine sxq_thenR ?_
          exact sxq_doneP () (.inl rfl) (res1 rfl rfl) (fun h => by subst h; rfl) (fun h => by subst h; exact .nil)
        · refine sxc_skip ?_
          refine sxq_blkN ?_
          refine sxq_next ?_
          refine sxc_region ?_
          refine sxo_move rfl rfl rfl ?_
          refine sxo_add rfl rfl rfl rfl ?_
          refine sxo_assign rfl rfl rfl ?_
          refine sxo_nil ?_
          exact sxq_againP (iadd .i64 x154 1, ()) (lk_cons rfl (lk_cons rfl (lk_cons rfl lk_nil))) .nil .nil (fk_cons 2 rfl (fk_cons 3 rfl fk_nil))
      · refine sxc_exit ?_
        refine sxq_thenX ?_
        refine sxq_thenX ?_
        refine sxq_blkX ?_
        exact sxq_meetP ((), ()) lk_nil .nil .nil fk_nil
    · rintro ⟨_, _⟩
      try dsimp only
      refine sxc_seq ?_
      refine sxc_region ?_
      refine sxo_assign rfl rfl rfl ?_
      refine sxo_nil ?_
      refine sxq_next ?_
      refine sxc_ret ?_
      exact sxq_doneP () (.inl rfl) (res1 rfl rfl) (fun h => by subst h; rfl) (fun h => by subst h; exact .nil)

theorem C_L_someGraph (F : Nat)  (r : List (List Int)) (hm : M_L_someGraph F  = some r) :
    Pure Try.prog 35 [] [] (Option Addr × (Nat × List (Option Addr × Nat))) (fun g => .agg #[.slice g.1 r.length g.2.1]) (fun g => [RoN eN25 rN25 25 1 (.slice g.1 r.length g.2.1) r g.2.2 []]) (fun _ => []) := by
  refine pure_of Try.func35 rfl Try.ntmps35 rfl hm (fun w => ?_)
  refine sxc_env (l' := []) rfl ?_
  refine sxc_seq ?_
  refine sxc_region ?_
  refine sxo_alloc rfl tf24 rfl (fun g1 => ?_)
  refine sxo_nil ?_
  refine sxq_next ?_
  refine sxc_seq ?_
  refine sxc_region ?_
  refine sxo_slit (vs := [.int .i64 1, .int .i64 2, .int .i64 3, .int .i64 5]) (ys := ([1, 2, 3, 5] : List Int)) (eI_ok .i64) (by decide) rfl Try.underlying25 tf3 rfl rfl rfl rfl rfl (by decide) (fun a2 c3 => ?_)
  refine sxo_slit (vs := [.int .i64 1, .int .i64 2, .int .i64 3, .int .i64 5]) (ys := ([1, 2, 3, 5] : List Int)) (eI_ok .i64) (by decide) rfl Try.underlying25 tf3 rfl rfl rfl rfl rfl (by decide) (fun a4 c5 => ?_)
  refine sxo_slit (vs := [.int .i64 0, .int .i64 1, .int .i64 2, .int .i64 3, .int .i64 5]) (ys := ([0, 1, 2, 3, 5] : List Int)) (eI_ok .i64) (by decide) rfl Try.underlying25 tf3 rfl rfl rfl rfl rfl (by decide) (fun a6 c7 => ?_)
  refine sxo_slit (vs := [.int .i64 4]) (ys := ([4] : List Int)) (eI_ok .i64) (by decide) rfl Try.underlying25 tf3 rfl rfl rfl rfl rfl (by decide) (fun a8 c9 => ?_)
  refine sxo_slit (vs := [.int .i64 1, .int .i64 2, .int .i64 3]) (ys := ([1, 2, 3] : List Int)) (eI_ok .i64) (by decide) rfl Try.underlying25 tf3 rfl rfl rfl rfl rfl (by decide) (fun a10 c11 => ?_)
  refine sxo_nilrow' Int (eI .i64) 3 1 ?_
  refine sxo_slit (vs := [.slice a2 ([1, 2, 3, 5] : List Int).length c3, .slice a4 ([1, 2, 3, 5] : List Int).length c5, .slice a6 ([0, 1, 2, 3, 5] : List Int).length c7, .slice none ([] : List Int).length 0, .slice a8 ([4] : List Int).length c9, .slice a10 ([1, 2, 3] : List Int).length c11]) (ys := ([(([1, 2, 3, 5] : List Int), (a2, c3)), (([1, 2, 3, 5] : List Int), (a4, c5)), (([0, 1, 2, 3, 5] : List Int), (a6, c7)), (([] : List Int), (none, 0)), (([4] : List Int), (a8, c9)), (([1, 2, 3] : List Int), (a10, c11))] : List (List Int × (Option Addr × Nat)))) eN25_ok (by decide) rfl Try.underlying22 tf25 rfl rfl rfl rfl rfl (by decide) (fun a12 c13 => ?_)
  refine sxo_nestOf (rin := rN25) (i := 0) ([([1, 2, 3, 5] : List Int), ([1, 2, 3, 5] : List Int), ([0, 1, 2, 3, 5] : List Int), ([] : List Int), ([4] : List Int), ([1, 2, 3] : List Int)] : List (List Int)) ([(a2, c3), (a4, c5), (a6, c7), (none, 0), (a8, c9), (a10, c11)] : List (Option Addr × Nat)) rfl rfl (.cons 5 rfl (.cons 4 rfl (.cons 3 rfl (.cons 0 rfl (.cons 1 rfl (.cons 0 rfl .nil)))))) ?_
  refine sxo_build (cells := [.slice a12 ([([1, 2, 3, 5] : List Int), ([1, 2, 3, 5] : List Int), ([0, 1, 2, 3, 5] : List Int), ([] : List Int), ([4] : List Int), ([1, 2, 3] : List Int)] : List (List Int)).length c13]) rfl st24 rfl (by kernel_rfl) rfl ?_
  refine sxo_storeB (i := 0) rfl rfl rfl tf24 rfl rfl rfl rfl rfl ?_
  refine sxo_nil ?_
  refine sxq_next ?_
  refine sxc_ret ?_
  exact sxq_doneP (a12, (c13, ([(a2, c3), (a4, c5), (a6, c7), (none, 0), (a8, c9), (a10, c11)] : List (Option Addr × Nat)))) (.inl rfl) (resL (rs := [.cell 0 24]) rfl (.cell (i := 0) rfl tf24 rfl rfl (by simp) rfl ResOk.nil) rfl) (fun h => by subst h; rfl) (fun h => by subst h; exact (.cons 0 rfl .nil))

set_option maxHeartbeats 4000000 in
theorem C_L_walkBegun (F : Nat)  (r : Bool) (hm : M_L_walkBegun F  = some r) :
    Pure Try.prog 18 [] [] Unit (fun _ => .bool r) (fun _ => []) (fun _ => []) := by
  refine pure_of Try.func18 rfl Try.ntmps18 rfl hm (fun w => ?_)
  refine sxc_env (l' := []) rfl ?_
  refine sxc_seq ?_
  refine sxc_region ?_
  refine sxo_assign rfl rfl rfl ?_
  refine sxo_nil ?_
  refine sxq_next ?_
  refine sxc_seq ?_
  refine sxc_region ?_
  refine sxo_call ent35 rfl rfl rfl (fun x1 e1 => C_L_someGraph F  x1 e1) .nil (fun x1 e1 => ?_)
  rintro ⟨a2, c3⟩
  refine sxo_call ent10 rfl rfl rfl (fun x4 e4 => C_walk_Far F x1 a2 c3 4 x4 e4) (.consG 0 rfl (nest_sl rN25_in) .nil) (fun x4 e4 => ?_)
  rintro ⟨a5, c6⟩
  refine sxo_move rfl rfl rfl ?_
  refine sxo_extract rfl rfl rfl rfl ?_
  refine sxo_extract rfl rfl rfl rfl ?_
  refine sxo_assign rfl rfl rfl ?_
  refine sxo_assign rfl rfl rfl ?_
  refine sxo_nil ?_
  refine sxq_next ?_
  refine sxc_seq ?_
  refine sxc_region ?_
  refine sxo_call ent35 rfl rfl rfl (fun x7 e7 => C_L_someGraph F  x7 e7) .nil (fun x7 e7 => ?_)
  rintro ⟨a8, c9⟩
  refine sxo_call ent11 rfl rfl rfl (fun x10 e10 => C_walk_Way F x7 a8 c9 2 3 x10 e10) (.consG 0 rfl (nest_sl rN25_in) .nil) (fun x10 e10 => ?_)
  rintro ⟨a11, c12⟩
  refine sxo_move rfl rfl rfl ?_
  refine sxo_extract rfl rfl rfl rfl ?_
  refine sxo_extract rfl rfl rfl rfl ?_
  refine sxo_assign rfl rfl rfl ?_
  refine sxo_assign rfl rfl rfl ?_
  refine sxo_nil ?_
  refine sxq_next ?_
  refine sxc_seq ?_
  refine sxc_region ?_
  refine sxo_call ent35 rfl rfl rfl (fun x13 e13 => C_L_someGraph F  x13 e13) .nil (fun x13 e13 => ?_)
  rintro ⟨a14, c15⟩
  refine sxo_callM ent12 rfl rfl rfl (fun x16 e16 => C_walk_Parts F x13 a14 c15 x16 e16) .nil .nil (.consG 0 rfl (nest_sl rN25_in) .nil) (fun x16 e16 => ?_)
  rintro ⟨a17, c18⟩
  refine sxo_move rfl rfl rfl ?_
  refine sxo_extract rfl rfl rfl rfl ?_
  refine sxo_extract rfl rfl rfl rfl ?_
  refine sxo_assign rfl rfl rfl ?_
  refine sxo_assign rfl rfl rfl ?_
  refine sxo_nil ?_
  refine sxq_next ?_
  refine sxc_seq ?_
  refine sxc_region ?_
  refine sxo_call ent35 rfl rfl rfl (fun x19 e19 => C_L_someGraph F  x19 e19) .nil (fun x19 e19 => ?_)
  rintro ⟨a20, c21⟩
  refine sxo_call ent13 rfl rfl rfl (fun x22 e22 => C_walk_Most F x19 a20 c21 x22 e22) (.consG 0 rfl (nest_sl rN25_in) .nil) (fun x22 e22 => ?_)
  intro _
  refine sxo_move rfl rfl rfl ?_
  refine sxo_extract rfl rfl rfl rfl ?_
  refine sxo_extract rfl rfl rfl rfl ?_
  refine sxo_assign rfl rfl rfl ?_
  refine sxo_assign rfl rfl rfl ?_
  refine sxo_nil ?_
  refine sxq_next ?_
  refine sxc_seq ?_
  refine sxc_region ?_
  refine sxo_call ent35 rfl rfl rfl (fun x23 e23 => C_L_someGraph F  x23 e23) .nil (fun x23 e23 => ?_)
  rintro ⟨a24, c25⟩
  refine sxo_call ent11 rfl rfl rfl (fun x26 e26 => C_walk_Way F x23 a24 c25 3 0 x26 e26) (.consG 0 rfl (nest_sl rN25_in) .nil) (fun x26 e26 => ?_)
  rintro ⟨a27, c28⟩
  refine sxo_move rfl rfl rfl ?_
  refine sxo_extract rfl rfl rfl rfl ?_
  refine sxo_extract rfl rfl rfl rfl ?_
  refine sxo_assign rfl rfl rfl ?_
  refine sxo_assign rfl rfl rfl ?_
  refine sxo_nil ?_
  refine sxq_next ?_
  refine sxc_seq ?_
  refine sxc_region ?_
  refine sxo_move rfl rfl rfl ?_
  refine sxo_slit (vs := [.int .i64 (-1), .int .i64 (-1), .int .i64 (-1), .int .i64 (-1), .int .i64 0, .int .i64 (-1)]) (ys := ([-1, -1, -1, -1, 0, -1] : List Int)) (eI_ok .i64) (by decide) rfl Try.underlying25 tf3 rfl rfl rfl rfl rfl (by decide) (fun a29 c30 => ?_)
  refine sxo_call ent19 rfl rfl rfl (fun x31 e31 => C_R_SameInts F x4.1 a5 c6 ([-1, -1, -1, -1, 0, -1] : List Int) a29 c30 x31 e31) (.consR 8 (Ro (eI .i64) 3 1 (.slice a5 x4.1.length c6) x4.1) rfl (.consR 0 (Ro (eI .i64) 3 1 (.slice a29 ([-1, -1, -1, -1, 0, -1] : List Int).length c30) ([-1, -1, -1, -1, 0, -1] : List Int)) rfl .nil)) (fun x31 e31 => ?_)
  intro _
  refine sxo_move rfl rfl rfl ?_
  refine sxo_case 3 x31 [(3, .slice a11 x10.1.length c12), (4, .int .i64 x10.2), (5, .slice a17 x16.1.length c18), (6, .int .i64 x16.2), (7, .int .i64 x22.1), (8, .int .i64 x22.2), (10, .int .i64 x26.2), (42, .bool (x31 && ((x4.2 : Int) == 0)))] (fun h32 => ?_) (fun h32 => ?_) ?_
  · refine sxo_take (os := _) rfl ?_
    refine sxo_isT (k := 39) rfl h32 ?_
    refine sxo_move rfl rfl rfl ?_
    refine sxo_eql rfl rfl rfl rfl ?_
    refine sxo_pick (b := true) rfl rfl rfl rfl ?_
    refine sxo_again (d := 42) (v := .bool (x31 && ((x4.2 : Int) == 0))) rfl (by rw [h32]; simp only [Bool.true_and]) ?_
    refine sxo_nil ?_
    exact sxq_case (lk_cons rfl (lk_cons rfl (lk_cons rfl (lk_cons rfl (lk_cons rfl (lk_cons rfl (lk_cons rfl (lk_cons rfl lk_nil))))))))
  · refine sxo_take (os := _) rfl ?_
    refine sxo_isF (k := 39) rfl h32 ?_
    refine sxo_skip rfl rfl rfl ?_
    refine sxo_skip rfl rfl rfl ?_
    refine sxo_pick (b := false) rfl rfl rfl rfl ?_
    refine sxo_again (d := 42) (v := .bool (x31 && ((x4.2 : Int) == 0))) rfl (by rw [h32]; simp only [Bool.false_and]) ?_
    refine sxo_nil ?_
    exact sxq_case (lk_cons rfl (lk_cons rfl (lk_cons rfl (lk_cons rfl (lk_cons rfl (lk_cons rfl (lk_cons rfl (lk_cons rfl lk_nil))))))))
  refine sxo_take (os := _) rfl ?_
  refine sxo_move rfl rfl rfl ?_
  refine sxo_join 4 (fun ((x37, _) : (Bool × Unit)) => [(4, .int .i64 x10.2), (5, .slice a17 x16.1.length c18), (6, .int .i64 x16.2), (7, .int .i64 x22.1), (8, .int .i64 x22.2), (10, .int .i64 x26.2), (47, .bool x37)]) (fun ((x37, _) : (Bool × Unit)) => []) (fun ((x37, _) : (Bool × Unit)) => [Ro (eI .i64) 3 1 (.slice a17 x16.1.length c18) x16.1]) (fun ((x37, _) : (Bool × Unit)) => []) (fun ((x37, _) : (Bool × Unit)) => M_L_walkBegun_j1 F x10 x16 x22 x26 x37) ?_ ?_
  · refine sxo_take (os := _) rfl ?_
    refine sxo_if (fun h33 => ?_) (fun h33 => ?_)
    · refine sxo_isT (k := 43) rfl h33 ?_
      refine sxo_move rfl rfl rfl ?_
      refine sxo_slit (vs := [.int .i64 2, .int .i64 3]) (ys := ([2, 3] : List Int)) (eI_ok .i64) (by decide) rfl Try.underlying25 tf3 rfl rfl rfl rfl rfl (by decide) (fun a51 c52 => ?_)
      refine sxo_call ent19 rfl rfl rfl (fun x53 e53 => C_R_SameInts F x10.1 a11 c12 ([2, 3] : List Int) a51 c52 x53 e53) (.consR 7 (Ro (eI .i64) 3 1 (.slice a11 x10.1.length c12) x10.1) rfl (.consR 0 (Ro (eI .i64) 3 1 (.slice a51 ([2, 3] : List Int).length c52) ([2, 3] : List Int)) rfl .nil)) (fun x53 e53 => ?_)
      intro _
      refine sxo_pick (b := true) rfl rfl rfl rfl ?_
      refine sxo_nil ?_
      exact sxq_meetP (x53, ()) (lk_cons rfl (lk_cons rfl (lk_cons rfl (lk_cons rfl (lk_cons rfl (lk_cons rfl (lk_cons rfl lk_nil))))))) .nil (.cons 5 rfl .nil) fk_nil
    · refine sxo_isF (k := 43) rfl h33 ?_
      refine sxo_skip rfl rfl rfl ?_
      refine sxo_skip rfl rfl rfl ?_
      refine sxo_skip rfl rfl rfl ?_
      refine sxo_pick (b := false) rfl rfl rfl rfl ?_
      refine sxo_nil ?_
      exact sxq_meetP (false, ()) (lk_cons rfl (lk_cons rfl (lk_cons rfl (lk_cons rfl (lk_cons rfl (lk_cons rfl (lk_cons rfl lk_nil))))))) .nil (.cons 4 rfl .nil) fk_nil
  · rintro ⟨x37, _⟩
    try dsimp only
    refine sxo_take (os := _) rfl ?_
    refine sxo_move rfl rfl rfl ?_
    refine sxo_case 3 x37 [(5, .slice a17 x16.1.length c18), (6, .int .i64 x16.2), (7, .int .i64 x22.1), (8, .int .i64 x22.2), (10, .int .i64 x26.2), (51, .bool (x37 && ((x10.2 : Int) == 0)))] (fun h38 => ?_) (fun h38 => ?_) ?_
    · refine sxo_take (os := _) rfl ?_
      refine sxo_isT (k := 48) rfl h38 ?_
      refine sxo_move rfl rfl rfl ?_
      refine sxo_eql rfl rfl rfl rfl ?_
      refine sxo_pick (b := true) rfl rfl rfl rfl ?_
      refine sxo_again (d := 51) (v := .bool (x37 && ((x10.2 : Int) == 0))) rfl (by rw [h38]; simp only [Bool.true_and]) ?_
      refine sxo_nil ?_
      exact sxq_case (lk_cons rfl (lk_cons rfl (lk_cons rfl (lk_cons rfl (lk_cons rfl (lk_cons rfl lk_nil))))))
    · refine sxo_take (os := _) rfl ?_
      refine sxo_isF (k := 48) rfl h38 ?_
      refine sxo_skip rfl rfl rfl ?_
      refine sxo_skip rfl rfl rfl ?_
      refine sxo_pick (b := false) rfl rfl rfl rfl ?_
      refine sxo_again (d := 51) (v := .bool (x37 && ((x10.2 : Int) == 0))) rfl (by rw [h38]; simp only [Bool.false_and]) ?_
      refine sxo_nil ?_
      exact sxq_case (lk_cons rfl (lk_cons rfl (lk_cons rfl (lk_cons rfl (lk_cons rfl (lk_cons rfl lk_nil))))))
    refine sxo_take (os := _) rfl ?_
    refine sxo_move rfl rfl rfl ?_
    refine sxo_join 4 (fun ((x43, _) : (Bool × Unit)) => [(6, .int .i64 x16.2), (7, .int .i64 x22.1), (8, .int .i64 x22.2), (10, .int .i64 x26.2), (56, .bool x43)]) (fun ((x43, _) : (Bool × Unit)) => []) (fun ((x43, _) : (Bool × Unit)) => []) (fun ((x43, _) : (Bool × Unit)) => []) (fun ((x43, _) : (Bool × Unit)) => M_L_walkBegun_j2 F x16 x22 x26 x43) ?_ ?_
    · refine sxo_take (os := _) rfl ?_
      refine sxo_if (fun h39 => ?_) (fun h39 => ?_)
      · refine sxo_isT (k := 52) rfl h39 ?_
        refine sxo_move rfl rfl rfl ?_
        refine sxo_slit (vs := [.int .i64 0, .int .i64 0, .int .i64 0, .int .i64 0, .int .i64 4, .int .i64 0]) (ys := ([0, 0, 0, 0, 4, 0] : List Int)) (eI_ok .i64) (by decide) rfl Try.underlying25 tf3 rfl rfl rfl rfl rfl (by decide) (fun a48 c49 => ?_)
        refine sxo_call ent19 rfl rfl rfl (fun x50 e50 => C_R_SameInts F x16.1 a17 c18 ([0, 0, 0, 0, 4, 0] : List Int) a48 c49 x50 e50) (.consR 1 (Ro (eI .i64) 3 1 (.slice a17 x16.1.length c18) x16.1) rfl (.consR 0 (Ro (eI .i64) 3 1 (.slice a48 ([0, 0, 0, 0, 4, 0] : List Int).length c49) ([0, 0, 0, 0, 4, 0] : List Int)) rfl .nil)) (fun x50 e50 => ?_)
        intro _
        refine sxo_pick (b := true) rfl rfl rfl rfl ?_
        refine sxo_nil ?_
        exact sxq_meetP (x50, ()) (lk_cons rfl (lk_cons rfl (lk_cons rfl (lk_cons rfl (lk_cons rfl lk_nil))))) .nil .nil fk_nil
      · refine sxo_isF (k := 52) rfl h39 ?_
        refine sxo_skip rfl rfl rfl ?_
        refine sxo_skip rfl rfl rfl ?_
        refine sxo_skip rfl rfl rfl ?_
        refine sxo_pick (b := false) rfl rfl rfl rfl ?_
        refine sxo_nil ?_
        exact sxq_meetP (false, ()) (lk_cons rfl (lk_cons rfl (lk_cons rfl (lk_cons rfl (lk_cons rfl lk_nil))))) .nil .nil fk_nil
    · rintro ⟨x43, _⟩
      try dsimp only
      refine sxo_take (os := _) rfl ?_
      refine sxo_move rfl rfl rfl ?_
      refine sxo_case 3 x43 [(7, .int .i64 x22.1), (8, .int .i64 x22.2), (10, .int .i64 x26.2), (60, .bool (x43 && ((x16.2 : Int) == 0)))] (fun h44 => ?_) (fun h44 => ?_) ?_
      · refine sxo_take (os := _) rfl ?_
        refine sxo_isT (k := 57) rfl h44 ?_
        refine sxo_move rfl rfl rfl ?_
        refine sxo_eql rfl rfl rfl rfl ?_
        refine sxo_pick (b := true) rfl rfl rfl rfl ?_
        refine sxo_again (d := 60) (v := .bool (x43 && ((x16.2 : Int) == 0))) rfl (by rw [h44]; simp only [Bool.true_and]) ?_
        refine sxo_nil ?_
        exact sxq_case (lk_cons rfl (lk_cons rfl (lk_cons rfl (lk_cons rfl lk_nil))))
      · refine sxo_take (os := _) rfl ?_
        refine sxo_isF (k := 57) rfl h44 ?_
        refine sxo_skip rfl rfl rfl ?_
        refine sxo_skip rfl rfl rfl ?_
        refine sxo_pick (b := false) rfl rfl rfl rfl ?_
        refine sxo_again (d := 60) (v := .bool (x43 && ((x16.2 : Int) == 0))) rfl (by rw [h44]; simp only [Bool.false_and]) ?_
        refine sxo_nil ?_
        exact sxq_case (lk_cons rfl (lk_cons rfl (lk_cons rfl (lk_cons rfl lk_nil))))
      refine sxo_take (os := _) rfl ?_
      refine sxo_move rfl rfl rfl ?_
      refine sxo_case 3 (x43 && ((x16.2 : Int) == 0)) [(8, .int .i64 x22.2), (10, .int .i64 x26.2), (64, .bool ((x43 && ((x16.2 : Int) == 0)) && ((x22.1 : Int) == 2)))] (fun h45 => ?_) (fun h45 => ?_) ?_
      · refine sxo_take (os := _) rfl ?_
        refine sxo_isT (k := 61) rfl h45 ?_
        refine sxo_move rfl rfl rfl ?_
        refine sxo_eql rfl rfl rfl rfl ?_
        refine sxo_pick (b := true) rfl rfl rfl rfl ?_
        refine sxo_again (d := 64) (v := .bool ((x43 && ((x16.2 : Int) == 0)) && ((x22.1 : Int) == 2))) rfl (by rw [h45]; simp only [Bool.true_and]) ?_
        refine sxo_nil ?_
        exact sxq_case (lk_cons rfl (lk_cons rfl (lk_cons rfl lk_nil)))
      · refine sxo_take (os := _) rfl ?_
        refine sxo_isF (k := 61) rfl h45 ?_
        refine sxo_skip rfl rfl rfl ?_
        refine sxo_skip rfl rfl rfl ?_
        refine sxo_pick (b := false) rfl rfl rfl rfl ?_
        refine sxo_again (d := 64) (v := .bool ((x43 && ((x16.2 : Int) == 0)) && ((x22.1 : Int) == 2))) rfl (by rw [h45]; simp only [Bool.false_and]) ?_
        refine sxo_nil ?_
        exact sxq_case (lk_cons rfl (lk_cons rfl (lk_cons rfl lk_nil)))
      refine sxo_take (os := _) rfl ?_
      refine sxo_move rfl rfl rfl ?_
      refine sxo_case 3 ((x43 && ((x16.2 : Int) == 0)) && ((x22.1 : Int) == 2)) [(10, .int .i64 x26.2), (68, .bool (((x43 && ((x16.2 : Int) == 0)) && ((x22.1 : Int) == 2)) && ((x22.2 : Int) == 0)))] (fun h46 => ?_) (fun h46 => ?_) ?_
      · refine sxo_take (os := _) rfl ?_
        refine sxo_isT (k := 65) rfl h46 ?_
        refine sxo_move rfl rfl rfl ?_
        refine sxo_eql rfl rfl rfl rfl ?_
        refine sxo_pick (b := true) rfl rfl rfl rfl ?_
        refine sxo_again (d := 68) (v := .bool (((x43 && ((x16.2 : Int) == 0)) && ((x22.1 : Int) == 2)) && ((x22.2 : Int) == 0))) rfl (by rw [h46]; simp only [Bool.true_and]) ?_
        refine sxo_nil ?_
        exact sxq_case (lk_cons rfl (lk_cons rfl lk_nil))
      · refine sxo_take (os := _) rfl ?_
        refine sxo_isF (k := 65) rfl h46 ?_
        refine sxo_skip rfl rfl rfl ?_
        refine sxo_skip rfl rfl rfl ?_
        refine sxo_pick (b := false) rfl rfl rfl rfl ?_
        refine sxo_again (d := 68) (v := .bool (((x43 && ((x16.2 : Int) == 0)) && ((x22.1 : Int) == 2)) && ((x22.2 : Int) == 0))) rfl (by rw [h46]; simp only [Bool.false_and]) ?_
        refine sxo_nil ?_
        exact sxq_case (lk_cons rfl (lk_cons rfl lk_nil))
      refine sxo_take (os := _) rfl ?_
      refine sxo_move rfl rfl rfl ?_
      refine sxo_case 3 (((x43 && ((x16.2 : Int) == 0)) && ((x22.1 : Int) == 2)) && ((x22.2 : Int) == 0)) [(72, .bool ((((x43 && ((x16.2 : Int) == 0)) && ((x22.1 : Int) == 2)) && ((x22.2 : Int) == 0)) && ((x26.2 : Int) == 5)))] (fun h47 => ?_) (fun h47 => ?_) ?_
      · refine sxo_take (os := _) rfl ?_
        refine sxo_isT (k := 69) rfl h47 ?_
        refine sxo_move rfl rfl rfl ?_
        refine sxo_eql rfl rfl rfl rfl ?_
        refine sxo_pick (b := true) rfl rfl rfl rfl ?_
        refine sxo_again (d := 72) (v := .bool ((((x43 && ((x16.2 : Int) == 0)) && ((x22.1 : Int) == 2)) && ((x22.2 : Int) == 0)) && ((x26.2 : Int) == 5))) rfl (by rw [h47]; simp only [Bool.true_and]) ?_
        refine sxo_nil ?_
        exact sxq_case (lk_cons rfl lk_nil)
      · refine sxo_take (os := _) rfl ?_
        refine sxo_isF (k := 69) rfl h47 ?_
        refine sxo_skip rfl rfl rfl ?_
        refine sxo_skip rfl rfl rfl ?_
        refine sxo_pick (b := false) rfl rfl rfl rfl ?_
        refine sxo_again (d := 72) (v := .bool ((((x43 && ((x16.2 : Int) == 0)) && ((x22.1 : Int) == 2)) && ((x22.2 : Int) == 0)) && ((x26.2 : Int) == 5))) rfl (by rw [h47]; simp only [Bool.false_and]) ?_
        refine sxo_nil ?_
        exact sxq_case (lk_cons rfl lk_nil)
      refine sxo_take (os := _) rfl ?_
      refine sxo_assign rfl rfl rfl ?_
      refine sxo_nil ?_
      refine sxq_next ?_
      refine sxc_ret ?_
      exact sxq_doneP () (.inl rfl) (res1 rfl rfl) (fun h => by subst h; rfl) (fun h => by subst h; exact .nil)

theorem C_R_HasInt (F : Nat) (x1 : List Int) (a2 : Option Addr) (c3 : Nat) (x4 : Int) (r : Bool) (hm : M_R_HasInt F x1 x4 = some r) :
    Pure Try.prog 21 [.slice a2 x1.length c3, .int .i64 x4] [Sl (eI .i64) 1 (.slice a2 x1.length c3) x1] Unit (fun _ => .bool r) (fun _ => []) (fun _ => []) := by
  refine pure_of Try.func21 rfl Try.ntmps21 rfl hm (fun w => ?_)
  refine sxc_env (l' := [(0, .slice a2 x1.length c3), (1, .int .i64 x4)]) rfl ?_
  refine sxc_seq ?_
  refine sxc_region ?_
  refine sxo_assign rfl rfl rfl ?_
  refine sxo_nil ?_
  refine sxq_next ?_
  refine sxc_join (fun ((_, _) : (Unit × Unit)) => []) (fun ((_, _) : (Unit × Unit)) => []) (fun ((_, _) : (Unit × Unit)) => []) (fun ((_, _) : (Unit × Unit)) => []) (fun ((_, _) : (Unit × Unit)) => M_R_HasInt_j2 F) ?_ ?_
  · refine sxc_seq ?_
    refine sxc_region ?_
    refine sxo_assign rfl rfl rfl ?_
    refine sxo_nil ?_
    refine sxq_next ?_
    refine sxc_block ?_
    refine sxc_loopP (fun ((x47, _) : (Int × Unit)) => [(0, .slice a2 x1.length c3), (1, .int .i64 x4), (5, .int .i64 x47)]) (fun ((x47, _) : (Int × Unit)) => []) (fun ((x47, _) : (Int × Unit)) => []) (fun ((x47, _) : (Int × Unit)) => [Sl (eI .i64) 1 (.slice a2 x1.length c3) x1]) (fun k (s : (Int × Unit)) => M_R_HasInt_l3 F x1 x4 k s.1) (0, ()) F (lk_cons rfl (lk_cons rfl (lk_cons rfl lk_nil))) .nil .nil (fk_cons 0 rfl fk_nil) (fun _ => rfl) ?_
    intro k58
    rintro ⟨x47, _⟩
    try dsimp only
    refine sxc_meq (m' := M_R_HasInt_b3 F x1 x4 (M_R_HasInt_l3 F x1 x4 k58) x47) rfl ?_
    refine sxc_seq ?_
    refine sxc_seq ?_
    refine sxc_region ?_
    refine sxo_move rfl rfl rfl ?_
    refine sxo_move rfl rfl rfl ?_
    refine sxo_len rfl Try.underlying25 rfl rfl ?_
    refine sxo_lss rfl rfl rfl rfl ?_
    refine sxo_nil ?_
    refine sxq_next ?_
    refine sxc_if rfl (fun h68 => ?_) (fun h68 => ?_)
    · refine sxc_skip ?_
      refine sxq_next ?_
      refine sxc_seq ?_
      refine sxc_block ?_
      refine sxc_seq ?_
      refine sxc_region ?_
      refine sxo_move rfl rfl rfl ?_
      refine sxo_move rfl rfl rfl ?_
      refine sxo_indexF (j := 0) (eI_ok .i64) (by decide) rfl Try.underlying25 tf3 rfl rfl rfl rfl (fun x64 e64 b65 o66 => ?_)
      refine sxo_loadF (j := 0) rfl rfl tf3 rfl rfl (fun _ => rfl) rfl rfl ?_
      refine sxo_move rfl rfl rfl ?_
      refine sxo_eql rfl rfl rfl rfl ?_
      refine sxo_nil ?_
      refine sxq_next ?_
      refine sxc_if rfl (fun h67 => ?_) (fun h67 => ?_)
      · refine sxc_seq ?_
        refine sxc_region ?_
        refine sxo_assign rfl rfl rfl ?_
        refine sxo_nil ?_
        refine sxq_next ?_
        refine sxc_ret ?_
        refine sxq_blkR ?_
        refine sxq_thenR ?_
        refine sxq_thenR ?_
        refine sxq_blkR ?_
        refine sxq_thenR ?_
        exact sxq_doneP () (.inl rfl) (res1 rfl rfl) (fun h => by subst h; rfl) (fun h => by subst h; exact .nil)
      · refine sxc_skip ?_
        refine sxq_blkN ?_
        refine sxq_next ?_
        refine sxc_region ?_
        refine sxo_move rfl rfl rfl ?_
        refine sxo_add rfl rfl rfl rfl ?_
        refine sxo_assign rfl rfl rfl ?_
        refine sxo_nil ?_
        exact sxq_againP (iadd .i64 x47 1, ()) (lk_cons rfl (lk_cons rfl (lk_cons rfl lk_nil))) .nil .nil (fk_cons 1 rfl fk_nil)
    · refine sxc_exit ?_
      refine sxq_thenX ?_
      refine sxq_thenX ?_
      refine sxq_blkX ?_
      exact sxq_meetP ((), ()) lk_nil .nil .nil fk_nil
  · rintro ⟨_, _⟩
    try dsimp only
    refine sxc_seq ?_
    refine sxc_region ?_
    refine sxo_assign rfl rfl rfl ?_
    refine sxo_nil ?_
    refine sxq_next ?_
    refine sxc_ret ?_
    exact sxq_doneP () (.inl rfl) (res1 rfl rfl) (fun h => by subst h; rfl) (fun h => by subst h; exact .nil)

theorem C_R_Leads (F : Nat) (x1 : List (List Int)) (a2 : Option Addr) (c3 : (Nat × List (Option Addr × Nat))) (x4 : Int) (x5 : Int) (r : Bool) (hm : M_R_Leads F x1 x4 x5 = some r) :
    Pure Try.prog 20 [.agg #[.slice a2 x1.length c3.1], .int .i64 x4, .int .i64 x5] [SlN eN25 iN25 1 (.slice a2 x1.length c3.1) x1 c3.2] Unit (fun _ => .bool r) (fun _ => []) (fun _ => []) := by
  refine pure_of Try.func20 rfl Try.ntmps20 rfl hm (fun w => ?_)
  refine sxc_env (l' := [(0, .agg #[.slice a2 x1.length c3.1]), (1, .int .i64 x4), (2, .int .i64 x5)]) rfl ?_
  refine sxc_seq ?_
  refine sxc_region ?_
  refine sxo_box rfl rfl rfl (fun g6 => ?_)
  refine sxo_assign rfl rfl rfl ?_
  refine sxo_nil ?_
  refine sxq_next ?_
  refine sxc_seq ?_
  refine sxc_region ?_
  refine sxo_fieldAddr rfl rfl ff24_0 rfl ?_
  refine sxo_loadB (i := 0) rfl rfl tf22 rfl rfl (fun _ => rfl) rfl rfl ?_
  refine sxo_move rfl rfl rfl ?_
  refine sxo_indexN (j := 0) eN25_ok (by decide) rfl Try.underlying22 tf25 rfl rfl rfl rfl (fun x7 e7 g10 b8 o9 => ?_)
  refine sxo_loadF (j := 0) rfl rfl tf25 rfl rfl (fun _ => rfl) rfl rfl ?_
  refine sxo_move rfl rfl rfl ?_
  refine sxo_call ent21 rfl rfl rfl (fun x11 e11 => C_R_HasInt F x7 g10.1 g10.2 x5 x11 e11) (.consF 1 rfl .nil) (fun x11 e11 => ?_)
  intro _
  refine sxo_assign rfl rfl rfl ?_
  refine sxo_nil ?_
  refine sxq_next ?_
  refine sxc_ret ?_
  exact sxq_doneP () (.inl rfl) (res1 rfl rfl) (fun h => by subst h; rfl) (fun h => by subst h; exact .nil)
end Go.Proofs.Ytldpjaphbikjnaa
