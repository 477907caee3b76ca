/- Each Go function of this seat computes what its model says, part 3. -/
import Derived.Test.YtghkjonlhphcjaaWalks2
namespace Go.Proofs.Ytghkjonlhphcjaa
open Go SX
set_option maxHeartbeats 4000000 in
theorem C_L_GraphMore (F : Nat) (x1 : List (List Int)) (a2 : Option Addr) (c3 : (Nat × List (Option Addr × Nat))) (x4 : Int) (x5 : Int) (r : Bool) (hm : M_L_GraphMore F x1 x4 x5 = some r) :
    Pure Try.prog 7 [.agg #[.slice a2 x1.length c3.1], .agg #[.int .i64 x4, .int .i64 x5]] [SlN eN32 iN32 1 (.slice a2 x1.length c3.1) x1 c3.2] Unit (fun _ => .bool r) (fun _ => []) (fun _ => []) := by
  refine pure_of Try.func7 rfl Try.ntmps7 rfl hm (fun w => ?_)
  refine sxc_env (l' := [(0, .agg #[.slice a2 x1.length c3.1]), (1, .agg #[.int .i64 x4, .int .i64 x5])]) rfl ?_
  refine sxc_seq ?_
  refine sxc_region ?_
  refine sxo_box rfl rfl rfl (fun g6 => ?_)
  refine sxo_box rfl rfl rfl (fun g7 => ?_)
  refine sxo_assign rfl rfl rfl ?_
  refine sxo_nil ?_
  refine sxq_next ?_
  refine sxc_seq ?_
  refine sxc_region ?_
  refine sxo_loadB (i := 1) rfl rfl tf24 rfl rfl (by simp) rfl rfl ?_
  refine sxo_call ent15 rfl rfl rfl (fun x8 e8 => C_graph_Arcs F x1 a2 c3 x8 e8) (.consF 0 rfl .nil) (fun x8 e8 => ?_)
  rintro ⟨a9, c10⟩
  refine sxo_move rfl rfl rfl ?_
  refine sxo_extract rfl rfl rfl rfl ?_
  refine sxo_extract rfl rfl rfl rfl ?_
  refine sxo_assign rfl rfl rfl ?_
  refine sxo_assign rfl rfl rfl ?_
  refine sxo_nil ?_
  refine sxq_next ?_
  refine sxc_seq ?_
  refine sxc_seq ?_
  refine sxc_region ?_
  refine sxo_call ent25 rfl rfl rfl (fun x13 e13 => C_L_graphBegun F  x13 e13) .nil (fun x13 e13 => ?_)
  intro _
  refine sxo_not rfl rfl rfl ?_
  refine sxo_nil ?_
  refine sxq_next ?_
  refine sxc_if rfl (fun h933 => ?_) (fun h933 => ?_)
  · refine sxc_seq ?_
    refine sxc_region ?_
    refine sxo_assign rfl rfl rfl ?_
    refine sxo_nil ?_
    refine sxq_next ?_
    refine sxc_ret ?_
    refine sxq_thenR ?_
    exact sxq_doneP () (.inl rfl) (res1 rfl rfl) (fun h => by subst h; rfl) (fun h => by subst h; exact .nil)
  · refine sxc_skip ?_
    refine sxq_next ?_
    refine sxc_seq ?_
    refine sxc_seq ?_
    refine sxc_region ?_
    refine sxo_move rfl rfl rfl ?_
    refine sxo_neq rfl rfl rfl rfl ?_
    refine sxo_nil ?_
    refine sxq_next ?_
    refine sxc_if rfl (fun h932 => ?_) (fun h932 => ?_)
    · refine sxc_seq ?_
      refine sxc_region ?_
      refine sxo_assign rfl rfl rfl ?_
      refine sxo_nil ?_
      refine sxq_next ?_
      refine sxc_ret ?_
      refine sxq_thenR ?_
      exact sxq_doneP () (.inl rfl) (res1 rfl rfl) (fun h => by subst h; rfl) (fun h => by subst h; exact .nil)
    · refine sxc_skip ?_
      refine sxq_next ?_
      refine sxc_join (fun (((x191, x194), (g190, a192, c193)) : ((Int × List (List Int)) × (Nat × Option Addr × (Nat × List (Option Addr × Nat))))) => [(2, .pointer (some ⟨g6, 0, none⟩)), (3, .pointer (some ⟨g7, 0, none⟩)), (5, .slice a9 x8.1.length c10), (7, .pointer (some ⟨g190, 0, none⟩)), (8, .int .i64 x191)]) (fun (((x191, x194), (g190, a192, c193)) : ((Int × List (List Int)) × (Nat × Option Addr × (Nat × List (Option Addr × Nat))))) => [⟨g7, 44, [.int .i64 x4, .int .i64 x5]⟩, ⟨g6, 24, [.slice a2 x1.length c3.1]⟩, ⟨g190, 24, [.slice a192 x194.length c193.1]⟩]) (fun (((x191, x194), (g190, a192, c193)) : ((Int × List (List Int)) × (Nat × Option Addr × (Nat × List (Option Addr × Nat))))) => [Ro eS44 44 2 (.slice a9 x8.1.length c10) x8.1, RoN eN32 rN32 32 1 (.slice a192 x194.length c193.1) x194 c193.2 []]) (fun (((x191, x194), (g190, a192, c193)) : ((Int × List (List Int)) × (Nat × Option Addr × (Nat × List (Option Addr × Nat))))) => [SlN eN32 iN32 1 (.slice a2 x1.length c3.1) x1 c3.2]) (fun (((x191, x194), _) : ((Int × List (List Int)) × (Nat × Option Addr × (Nat × List (Option Addr × Nat))))) => M_L_GraphMore_j1 F x1 x4 x5 x8 x191 x194) ?_ ?_
      · refine sxb_draw mixed [] [⟨g7, 44, [.int .i64 x4, .int .i64 x5]⟩, ⟨g6, 24, [.slice a2 x1.length c3.1]⟩] [SlN eN32 iN32 1 (.slice a2 x1.length c3.1) x1 c3.2] (.cons 0 rfl (.cons 0 rfl .nil)) (gk_F 0 rfl gk_nil) 16 rfl ?_
        refine sxb_takeP 0 (.pointer (some ⟨g6, 0, none⟩)) rfl rfl rfl rfl (by kernel_rfl) (by kernel_rfl) (by kernel_rfl) (by kernel_rfl) (by kernel_rfl) rfl (show _ = #[true, false, false, false, false, false, false, false, false, false, false, false, false, false, false, false] from rfl) (yv_fieldAddr rfl ff24_0) ?_
        refine sxb_take 1 (.slice a2 x1.length c3.1) [] rfl rfl rfl rfl (by kernel_rfl) (by kernel_rfl) (by kernel_rfl) (by kernel_rfl) (by kernel_rfl) (by kernel_rfl) rfl (show _ = #[true, true, false, false, false, false, false, false, false, false, false, false, false, false, false, false] from rfl) (yv_loadB (i := 1) rfl tf22 rfl rfl (fun _ => rfl) rfl) ?_
        refine sxb_takeP 2 (.int .i64 (x1.length : Int)) rfl rfl rfl rfl (by kernel_rfl) (by kernel_rfl) (by kernel_rfl) (by kernel_rfl) (by kernel_rfl) rfl (show _ = #[true, true, true, false, false, false, false, false, false, false, false, false, false, false, false, false] from rfl) (yv_len Try.underlying22 rfl) ?_
        refine sxb_takeP 4 (.slice a9 x8.1.length c10) rfl rfl rfl rfl (by kernel_rfl) (by kernel_rfl) (by kernel_rfl) (by kernel_rfl) (by kernel_rfl) rfl (show _ = #[true, true, true, false, true, false, false, false, false, false, false, false, false, false, false, false] from rfl) (yv_pv rfl) ?_
        refine sxb_take 6 (.agg #[.int .i64 x4, .int .i64 x5]) [] rfl rfl rfl rfl (by kernel_rfl) (by kernel_rfl) (by kernel_rfl) (by kernel_rfl) (by kernel_rfl) (by kernel_rfl) rfl (show _ = #[true, true, true, false, true, false, true, false, false, false, false, false, false, false, false, false] from rfl) (yv_loadB (i := 0) rfl tf44 rfl rfl (by simp) rfl) ?_
        refine sxb_three 3 7 13 rfl rfl rfl (by kernel_rfl) (show _ = #[true, true, true, true, true, false, true, false, false, false, false, false, false, false, false, false] from rfl) (show _ = #[true, true, true, false, true, false, true, true, false, false, false, false, false, false, false, false] from rfl) (show _ = #[true, true, true, false, true, false, true, false, false, false, false, false, false, true, false, false] from rfl) ?_ ?_ ?_
        · refine sxo_slit (vs := []) (ys := ([] : List (Int × Int))) eS44_ok (by decide) rfl Try.underlying25 tf44 rfl rfl rfl rfl rfl (by decide) (fun a757 c758 => ?_)
          refine sxo_nil ?_
          refine sxq_anyB (.cons 0 rfl (.cons 0 rfl .nil)) (gk_F 0 rfl gk_nil) ?_
          refine sxb_three 5 7 13 rfl rfl rfl (by kernel_rfl) (show _ = #[true, true, true, true, true, true, true, false, false, false, false, false, false, false, false, false] from rfl) (show _ = #[true, true, true, true, true, false, true, true, false, false, false, false, false, false, false, false] from rfl) (show _ = #[true, true, true, true, true, false, true, false, false, false, false, false, false, true, false, false] from rfl) ?_ ?_ ?_
          · refine sxo_app 0 eS44_ok rfl Try.underlying25 tf44 rfl rfl rfl rfl rfl (.inl ⟨1, _, rfl⟩) rfl rfl (fun x759 e759 a760 c761 => ?_)
            refine sxo_nil ?_
            refine sxq_anyB (.cons 0 rfl (.cons 0 rfl .nil)) (gk_F 0 rfl gk_nil) ?_
            refine sxb_two 7 13 rfl rfl (by kernel_rfl) (show _ = #[true, true, true, true, true, true, true, true, false, false, false, false, false, false, false, false] from rfl) (show _ = #[true, true, true, true, true, true, true, false, false, false, false, false, false, true, false, false] from rfl) ?_ ?_
            · refine sxo_slit (vs := [.agg #[.int .i64 x4, .int .i64 x5]]) (ys := ([(x4, x5)] : List (Int × Int))) eS44_ok (by decide) rfl Try.underlying25 tf44 rfl rfl rfl rfl rfl (by decide) (fun a762 c763 => ?_)
              refine sxo_nil ?_
              refine sxq_anyB (.cons 0 rfl (.cons 0 rfl .nil)) (gk_F 0 rfl gk_nil) ?_
              refine sxb_two 8 13 rfl rfl (by kernel_rfl) (show _ = #[true, true, true, true, true, true, true, true, true, false, false, false, false, false, false, false] from rfl) (show _ = #[true, true, true, true, true, true, true, true, false, false, false, false, false, true, false, false] from rfl) ?_ ?_
              · refine sxo_app 1 eS44_ok rfl Try.underlying25 tf44 rfl rfl rfl rfl rfl (.inl ⟨0, _, rfl⟩) rfl rfl (fun x764 e764 a765 c766 => ?_)
                refine sxo_nil ?_
                refine sxq_anyB (.cons 0 rfl (.cons 0 rfl .nil)) (gk_F 0 rfl gk_nil) ?_
                refine sxb_two 9 13 rfl rfl (by kernel_rfl) (show _ = #[true, true, true, true, true, true, true, true, true, true, false, false, false, false, false, false] from rfl) (show _ = #[true, true, true, true, true, true, true, true, true, false, false, false, false, true, false, false] from rfl) ?_ ?_
                · refine sxo_call ent16 rfl rfl rfl (fun x767 e767 => C_graph_Of F (x1.length : Int) x764 a765 c766 x767 e767) (.consR 0 (Ro eS44 44 2 (.slice a765 x764.length c766) x764) rfl .nil) (fun x767 e767 => ?_)
                  rintro ⟨a768, c769⟩
                  refine sxo_nil ?_
                  refine sxq_anyB (.cons 0 rfl (.cons 0 rfl .nil)) (gk_F 0 rfl gk_nil) ?_
                  refine sxb_takeP 10 (.tuple #[.agg #[.slice a768 x767.1.length c769.1], .int .i64 x767.2]) rfl rfl rfl rfl (by kernel_rfl) (by kernel_rfl) (by kernel_rfl) (by kernel_rfl) (by kernel_rfl) rfl (show _ = #[true, true, true, true, true, true, true, true, true, true, true, false, false, false, false, false] from rfl) (yv_pv rfl) ?_
                  refine sxb_takeP 11 (.agg #[.slice a768 x767.1.length c769.1]) rfl rfl rfl rfl (by kernel_rfl) (by kernel_rfl) (by kernel_rfl) (by kernel_rfl) (by kernel_rfl) rfl (show _ = #[true, true, true, true, true, true, true, true, true, true, true, true, false, false, false, false] from rfl) (yv_pv rfl) ?_
                  refine sxb_takeP 12 (.int .i64 x767.2) rfl rfl rfl rfl (by kernel_rfl) (by kernel_rfl) (by kernel_rfl) (by kernel_rfl) (by kernel_rfl) rfl (show _ = #[true, true, true, true, true, true, true, true, true, true, true, true, true, false, false, false] from rfl) (yv_pv rfl) ?_
                  refine sxb_step 13 rfl (by kernel_rfl) (show _ = #[true, true, true, true, true, true, true, true, true, true, true, true, true, true, false, false] from rfl) ?_
                  refine sxo_alloc rfl tf24 rfl (fun g770 => ?_)
                  refine sxo_nil ?_
                  refine sxq_anyB (.cons 1 rfl (.cons 1 rfl .nil)) (gk_F 0 rfl gk_nil) ?_
                  refine sxb_step 14 rfl (by kernel_rfl) (show _ = #[true, true, true, true, true, true, true, true, true, true, true, true, true, true, true, false] from rfl) ?_
                  refine sxo_storeB (i := 0) rfl rfl rfl tf24 rfl rfl rfl rfl rfl ?_
                  refine sxo_nil ?_
                  refine sxq_anyB (.cons 1 rfl (.cons 1 rfl .nil)) (gk_F 0 rfl gk_nil) ?_
                  refine sxb_takeP 15 (.int .i64 x767.2) rfl rfl rfl rfl (by kernel_rfl) (by kernel_rfl) (by kernel_rfl) (by kernel_rfl) (by kernel_rfl) rfl (show _ = #[true, true, true, true, true, true, true, true, true, true, true, true, true, true, true, true] from rfl) (yv_pv rfl) ?_
                  refine sxb_done (by kernel_rfl) ?_
                  refine sxq_np ?_ (by intro c h; cases h)
                  exact sxq_meetP ((x767.2, x767.1), (g770, a768, c769)) (lk_cons rfl (lk_cons rfl (lk_cons rfl (lk_cons rfl (lk_cons rfl lk_nil))))) (.cons 1 rfl (.cons 1 rfl (.cons 0 rfl .nil))) (.cons 3 rfl (.cons 0 rfl .nil)) (fk_cons 0 rfl fk_nil)
                · refine sxo_meq (m' := ((M_graph_Of F (x1.length : Int) x764).bind fun x772 => M_L_GraphMore_j1 F x1 x4 x5 x8 x772.2 x772.1)) (rfl) ?_
                  refine sxo_alloc rfl tf24 rfl (fun g771 => ?_)
                  refine sxo_nil ?_
                  refine sxq_anyB (.cons 1 rfl (.cons 1 rfl .nil)) (gk_F 0 rfl gk_nil) ?_
                  refine sxb_step 9 rfl (by kernel_rfl) (show _ = #[true, true, true, true, true, true, true, true, true, true, false, false, false, true, false, false] from rfl) ?_
                  refine sxo_call ent16 rfl rfl rfl (fun x772 e772 => C_graph_Of F (x1.length : Int) x764 a765 c766 x772 e772) (.consR 0 (Ro eS44 44 2 (.slice a765 x764.length c766) x764) rfl .nil) (fun x772 e772 => ?_)
                  rintro ⟨a773, c774⟩
                  refine sxo_nil ?_
                  refine sxq_anyB (.cons 1 rfl (.cons 1 rfl .nil)) (gk_F 0 rfl gk_nil) ?_
                  refine sxb_takeP 10 (.tuple #[.agg #[.slice a773 x772.1.length c774.1], .int .i64 x772.2]) rfl rfl rfl rfl (by kernel_rfl) (by kernel_rfl) (by kernel_rfl) (by kernel_rfl) (by kernel_rfl) rfl (show _ = #[true, true, true, true, true, true, true, true, true, true, true, false, false, true, false, false] from rfl) (yv_pv rfl) ?_
                  refine sxb_takeP 11 (.agg #[.slice a773 x772.1.length c774.1]) rfl rfl rfl rfl (by kernel_rfl) (by kernel_rfl) (by kernel_rfl) (by kernel_rfl) (by kernel_rfl) rfl (show _ = #[true, true, true, true, true, true, true, true, true, true, true, true, false, true, false, false] from rfl) (yv_pv rfl) ?_
                  refine sxb_takeP 12 (.int .i64 x772.2) rfl rfl rfl rfl (by kernel_rfl) (by kernel_rfl) (by kernel_rfl) (by kernel_rfl) (by kernel_rfl) rfl (show _ = #[true, true, true, true, true, true, true, true, true, true, true, true, true, true, false, false] from rfl) (yv_pv rfl) ?_
                  refine sxb_step 14 rfl (by kernel_rfl) (show _ = #[true, true, true, true, true, true, true, true, true, true, true, true, true, true, true, false] from rfl) ?_
                  refine sxo_storeB (i := 0) rfl rfl rfl tf24 rfl rfl rfl rfl rfl ?_
                  refine sxo_nil ?_
                  refine sxq_anyB (.cons 1 rfl (.cons 1 rfl .nil)) (gk_F 0 rfl gk_nil) ?_
                  refine sxb_takeP 15 (.int .i64 x772.2) rfl rfl rfl rfl (by kernel_rfl) (by kernel_rfl) (by kernel_rfl) (by kernel_rfl) (by kernel_rfl) rfl (show _ = #[true, true, true, true, true, true, true, true, true, true, true, true, true, true, true, true] from rfl) (yv_pv rfl) ?_
                  refine sxb_done (by kernel_rfl) ?_
                  refine sxq_np ?_ (by intro c h; cases h)
                  exact sxq_meetP ((x772.2, x772.1), (g771, a773, c774)) (lk_cons rfl (lk_cons rfl (lk_cons rfl (lk_cons rfl (lk_cons rfl lk_nil))))) (.cons 1 rfl (.cons 1 rfl (.cons 0 rfl .nil))) (.cons 3 rfl (.cons 0 rfl .nil)) (fk_cons 0 rfl fk_nil)
              · refine sxo_meq (m' := ((app 4398046511104 x759 ([(x4, x5)] : List (Int × Int))).bind fun x776 => ((M_graph_Of F (x1.length : Int) x776).bind fun x779 => M_L_GraphMore_j1 F x1 x4 x5 x8 x779.2 x779.1))) (rfl) ?_
                refine sxo_alloc rfl tf24 rfl (fun g775 => ?_)
                refine sxo_nil ?_
                refine sxq_anyB (.cons 1 rfl (.cons 1 rfl .nil)) (gk_F 0 rfl gk_nil) ?_
                refine sxb_step 8 rfl (by kernel_rfl) (show _ = #[true, true, true, true, true, true, true, true, true, false, false, false, false, true, false, false] from rfl) ?_
                refine sxo_app 1 eS44_ok rfl Try.underlying25 tf44 rfl rfl rfl rfl rfl (.inl ⟨0, _, rfl⟩) rfl rfl (fun x776 e776 a777 c778 => ?_)
                refine sxo_nil ?_
                refine sxq_anyB (.cons 1 rfl (.cons 1 rfl .nil)) (gk_F 0 rfl gk_nil) ?_
                refine sxb_step 9 rfl (by kernel_rfl) (show _ = #[true, true, true, true, true, true, true, true, true, true, false, false, false, true, false, false] from rfl) ?_
                refine sxo_call ent16 rfl rfl rfl (fun x779 e779 => C_graph_Of F (x1.length : Int) x776 a777 c778 x779 e779) (.consR 0 (Ro eS44 44 2 (.slice a777 x776.length c778) x776) rfl .nil) (fun x779 e779 => ?_)
                rintro ⟨a780, c781⟩
                refine sxo_nil ?_
                refine sxq_anyB (.cons 1 rfl (.cons 1 rfl .nil)) (gk_F 0 rfl gk_nil) ?_
                refine sxb_takeP 10 (.tuple #[.agg #[.slice a780 x779.1.length c781.1], .int .i64 x779.2]) rfl rfl rfl rfl (by kernel_rfl) (by kernel_rfl) (by kernel_rfl) (by kernel_rfl) (by kernel_rfl) rfl (show _ = #[true, true, true, true, true, true, true, true, true, true, true, false, false, true, false, false] from rfl) (yv_pv rfl) ?_
                refine sxb_takeP 11 (.agg #[.slice a780 x779.1.length c781.1]) rfl rfl rfl rfl (by kernel_rfl) (by kernel_rfl) (by kernel_rfl) (by kernel_rfl) (by kernel_rfl) rfl (show _ = #[true, true, true, true, true, true, true, true, true, true, true, true, false, true, false, false] from rfl) (yv_pv rfl) ?_
                refine sxb_takeP 12 (.int .i64 x779.2) rfl rfl rfl rfl (by kernel_rfl) (by kernel_rfl) (by kernel_rfl) (by kernel_rfl) (by kernel_rfl) rfl (show _ = #[true, true, true, true, true, true, true, true, true, true, true, true, true, true, false, false] from rfl) (yv_pv rfl) ?_
                refine sxb_step 14 rfl (by kernel_rfl) (show _ = #[true, true, true, true, true, true, true, true, true, true, true, true, true, true, true, false] from rfl) ?_
                refine sxo_storeB (i := 0) rfl rfl rfl tf24 rfl rfl rfl rfl rfl ?_
                refine sxo_nil ?_
                refine sxq_anyB (.cons 1 rfl (.cons 1 rfl .nil)) (gk_F 0 rfl gk_nil) ?_
                refine sxb_takeP 15 (.int .i64 x779.2) rfl rfl rfl rfl (by kernel_rfl) (by kernel_rfl) (by kernel_rfl) (by kernel_rfl) (by kernel_rfl) rfl (show _ = #[true, true, true, true, true, true, true, true, true, true, true, true, true, true, true, true] from rfl) (yv_pv rfl) ?_
                refine sxb_done (by kernel_rfl) ?_
                refine sxq_np ?_ (by intro c h; cases h)
                exact sxq_meetP ((x779.2, x779.1), (g775, a780, c781)) (lk_cons rfl (lk_cons rfl (lk_cons rfl (lk_cons rfl (lk_cons rfl lk_nil))))) (.cons 1 rfl (.cons 1 rfl (.cons 0 rfl .nil))) (.cons 3 rfl (.cons 0 rfl .nil)) (fk_cons 0 rfl fk_nil)
            · refine sxo_meq (m' := ((app 4398046511104 x759 ([(x4, x5)] : List (Int × Int))).bind fun x785 => ((M_graph_Of F (x1.length : Int) x785).bind fun x788 => M_L_GraphMore_j1 F x1 x4 x5 x8 x788.2 x788.1))) (rfl) ?_
              refine sxo_alloc rfl tf24 rfl (fun g782 => ?_)
              refine sxo_nil ?_
              refine sxq_anyB (.cons 1 rfl (.cons 1 rfl .nil)) (gk_F 0 rfl gk_nil) ?_
              refine sxb_step 7 rfl (by kernel_rfl) (show _ = #[true, true, true, true, true, true, true, true, false, false, false, false, false, true, false, false] from rfl) ?_
              refine sxo_slit (vs := [.agg #[.int .i64 x4, .int .i64 x5]]) (ys := ([(x4, x5)] : List (Int × Int))) eS44_ok (by decide) rfl Try.underlying25 tf44 rfl rfl rfl rfl rfl (by decide) (fun a783 c784 => ?_)
              refine sxo_nil ?_
              refine sxq_anyB (.cons 1 rfl (.cons 1 rfl .nil)) (gk_F 0 rfl gk_nil) ?_
              refine sxb_step 8 rfl (by kernel_rfl) (show _ = #[true, true, true, true, true, true, true, true, true, false, false, false, false, true, false, false] from rfl) ?_
              refine sxo_app 1 eS44_ok rfl Try.underlying25 tf44 rfl rfl rfl rfl rfl (.inl ⟨0, _, rfl⟩) rfl rfl (fun x785 e785 a786 c787 => ?_)
              refine sxo_nil ?_
              refine sxq_anyB (.cons 1 rfl (.cons 1 rfl .nil)) (gk_F 0 rfl gk_nil) ?_
              refine sxb_step 9 rfl (by kernel_rfl) (show _ = #[true, true, true, true, true, true, true, true, true, true, false, false, false, true, false, false] from rfl) ?_
              refine sxo_call ent16 rfl rfl rfl (fun x788 e788 => C_graph_Of F (x1.length : Int) x785 a786 c787 x788 e788) (.consR 0 (Ro eS44 44 2 (.slice a786 x785.length c787) x785) rfl .nil) (fun x788 e788 => ?_)
              rintro ⟨a789, c790⟩
              refine sxo_nil ?_
              refine sxq_anyB (.cons 1 rfl (.cons 1 rfl .nil)) (gk_F 0 rfl gk_nil) ?_
              refine sxb_takeP 10 (.tuple #[.agg #[.slice a789 x788.1.length c790.1], .int .i64 x788.2]) rfl rfl rfl rfl (by kernel_rfl) (by kernel_rfl) (by kernel_rfl) (by kernel_rfl) (by kernel_rfl) rfl (show _ = #[true, true, true, true, true, true, true, true, true, true, true, false, false, true, false, false] from rfl) (yv_pv rfl) ?_
              refine sxb_takeP 11 (.agg #[.slice a789 x788.1.length c790.1]) rfl rfl rfl rfl (by kernel_rfl) (by kernel_rfl) (by kernel_rfl) (by kernel_rfl) (by kernel_rfl) rfl (show _ = #[true, true, true, true, true, true, true, true, true, true, true, true, false, true, false, false] from rfl) (yv_pv rfl) ?_
              refine sxb_takeP 12 (.int .i64 x788.2) rfl rfl rfl rfl (by kernel_rfl) (by kernel_rfl) (by kernel_rfl) (by kernel_rfl) (by kernel_rfl) rfl (show _ = #[true, true, true, true, true, true, true, true, true, true, true, true, true, true, false, false] from rfl) (yv_pv rfl) ?_
              refine sxb_step 14 rfl (by kernel_rfl) (show _ = #[true, true, true, true, true, true, true, true, true, true, true, true, true, true, true, false] from rfl) ?_
              refine sxo_storeB (i := 0) rfl rfl rfl tf24 rfl rfl rfl rfl rfl ?_
              refine sxo_nil ?_
              refine sxq_anyB (.cons 1 rfl (.cons 1 rfl .nil)) (gk_F 0 rfl gk_nil) ?_
              refine sxb_takeP 15 (.int .i64 x788.2) rfl rfl rfl rfl (by kernel_rfl) (by kernel_rfl) (by kernel_rfl) (by kernel_rfl) (by kernel_rfl) rfl (show _ = #[true, true, true, true, true, true, true, true, true, true, true, true, true, true, true, true] from rfl) (yv_pv rfl) ?_
              refine sxb_done (by kernel_rfl) ?_
              refine sxq_np ?_ (by intro c h; cases h)
              exact sxq_meetP ((x788.2, x788.1), (g782, a789, c790)) (lk_cons rfl (lk_cons rfl (lk_cons rfl (lk_cons rfl (lk_cons rfl lk_nil))))) (.cons 1 rfl (.cons 1 rfl (.cons 0 rfl .nil))) (.cons 3 rfl (.cons 0 rfl .nil)) (fk_cons 0 rfl fk_nil)
          · refine sxo_meq (m' := ((app 4398046511104 ([] : List (Int × Int)) x8.1).bind fun x793 => ((app 4398046511104 x793 ([(x4, x5)] : List (Int × Int))).bind fun x796 => ((M_graph_Of F (x1.length : Int) x796).bind fun x799 => M_L_GraphMore_j1 F x1 x4 x5 x8 x799.2 x799.1)))) (rfl) ?_
            refine sxo_slit (vs := [.agg #[.int .i64 x4, .int .i64 x5]]) (ys := ([(x4, x5)] : List (Int × Int))) eS44_ok (by decide) rfl Try.underlying25 tf44 rfl rfl rfl rfl rfl (by decide) (fun a791 c792 => ?_)
            refine sxo_nil ?_
            refine sxq_anyB (.cons 0 rfl (.cons 0 rfl .nil)) (gk_F 0 rfl gk_nil) ?_
            refine sxb_two 5 13 rfl rfl (by kernel_rfl) (show _ = #[true, true, true, true, true, true, true, true, false, false, false, false, false, false, false, false] from rfl) (show _ = #[true, true, true, true, true, false, true, true, false, false, false, false, false, true, false, false] from rfl) ?_ ?_
            · refine sxo_app 1 eS44_ok rfl Try.underlying25 tf44 rfl rfl rfl rfl rfl (.inl ⟨2, _, rfl⟩) rfl rfl (fun x793 e793 a794 c795 => ?_)
              refine sxo_nil ?_
              refine sxq_anyB (.cons 0 rfl (.cons 0 rfl .nil)) (gk_F 0 rfl gk_nil) ?_
              refine sxb_two 8 13 rfl rfl (by kernel_rfl) (show _ = #[true, true, true, true, true, true, true, true, true, false, false, false, false, false, false, false] from rfl) (show _ = #[true, true, true, true, true, true, true, true, false, false, false, false, false, true, false, false] from rfl) ?_ ?_
              · refine sxo_app 0 eS44_ok rfl Try.underlying25 tf44 rfl rfl rfl rfl rfl (.inl ⟨1, _, rfl⟩) rfl rfl (fun x796 e796 a797 c798 => ?_)
                refine sxo_nil ?_
                refine sxq_anyB (.cons 0 rfl (.cons 0 rfl .nil)) (gk_F 0 rfl gk_nil) ?_
                refine sxb_two 9 13 rfl rfl (by kernel_rfl) (show _ = #[true, true, true, true, true, true, true, true, true, true, false, false, false, false, false, false] from rfl) (show _ = #[true, true, true, true, true, true, true, true, true, false, false, false, false, true, false, false] from rfl) ?_ ?_
                · refine sxo_call ent16 rfl rfl rfl (fun x799 e799 => C_graph_Of F (x1.length : Int) x796 a797 c798 x799 e799) (.consR 0 (Ro eS44 44 2 (.slice a797 x796.length c798) x796) rfl .nil) (fun x799 e799 => ?_)
                  rintro ⟨a800, c801⟩
                  refine sxo_nil ?_
                  refine sxq_anyB (.cons 0 rfl (.cons 0 rfl .nil)) (gk_F 0 rfl gk_nil) ?_
                  refine sxb_takeP 10 (.tuple #[.agg #[.slice a800 x799.1.length c801.1], .int .i64 x799.2]) rfl rfl rfl rfl (by kernel_rfl) (by kernel_rfl) (by kernel_rfl) (by kernel_rfl) (by kernel_rfl) rfl (show _ = #[true, true, true, true, true, true, true, true, true, true, true, false, false, false, false, false] from rfl) (yv_pv rfl) ?_
                  refine sxb_takeP 11 (.agg #[.slice a800 x799.1.length c801.1]) rfl rfl rfl rfl (by kernel_rfl) (by kernel_rfl) (by kernel_rfl) (by kernel_rfl) (by kernel_rfl) rfl (show _ = #[true, true, true, true, true, true, true, true, true, true, true, true, false, false, false, false] from rfl) (yv_pv rfl) ?_
                  refine sxb_takeP 12 (.int .i64 x799.2) rfl rfl rfl rfl (by kernel_rfl) (by kernel_rfl) (by kernel_rfl) (by kernel_rfl) (by kernel_rfl) rfl (show _ = #[true, true, true, true, true, true, true, true, true, true, true, true, true, false, false, false] from rfl) (yv_pv rfl) ?_
                  refine sxb_step 13 rfl (by kernel_rfl) (show _ = #[true, true, true, true, true, true, true, true, true, true, true, true, true, true, false, false] from rfl) ?_
                  refine sxo_alloc rfl tf24 rfl (fun g802 => ?_)
                  refine sxo_nil ?_
                  refine sxq_anyB (.cons 1 rfl (.cons 1 rfl .nil)) (gk_F 0 rfl gk_nil) ?_
                  refine sxb_step 14 rfl (by kernel_rfl) (show _ = #[true, true, true, true, true, true, true, true, true, true, true, true, true, true, true, false] from rfl) ?_
                  refine sxo_storeB (i := 0) rfl rfl rfl tf24 rfl rfl rfl rfl rfl ?_
                  refine sxo_nil ?_
                  refine sxq_anyB (.cons 1 rfl (.cons 1 rfl .nil)) (gk_F 0 rfl gk_nil) ?_
                  refine sxb_takeP 15 (.int .i64 x799.2) rfl rfl rfl rfl (by kernel_rfl) (by kernel_rfl) (by kernel_rfl) (by kernel_rfl) (by kernel_rfl) rfl (show _ = #[true, true, true, true, true, true, true, true, true, true, true, true, true, true, true, true] from rfl) (yv_pv rfl) ?_
                  refine sxb_done (by kernel_rfl) ?_
                  refine sxq_np ?_ (by intro c h; cases h)
                  exact sxq_meetP ((x799.2, x799.1), (g802, a800, c801)) (lk_cons rfl (lk_cons rfl (lk_cons rfl (lk_cons rfl (lk_cons rfl lk_nil))))) (.cons 1 rfl (.cons 1 rfl (.cons 0 rfl .nil))) (.cons 3 rfl (.cons 0 rfl .nil)) (fk_cons 0 rfl fk_nil)
                · refine sxo_meq (m' := ((M_graph_Of F (x1.length : Int) x796).bind fun x804 => M_L_GraphMore_j1 F x1 x4 x5 x8 x804.2 x804.1)) (rfl) ?_
                  refine sxo_alloc rfl tf24 rfl (fun g803 => ?_)
                  refine sxo_nil ?_
                  refine sxq_anyB (.cons 1 rfl (.cons 1 rfl .nil)) (gk_F 0 rfl gk_nil) ?_
                  refine sxb_step 9 rfl (by kernel_rfl) (show _ = #[true, true, true, true, true, true, true, true, true, true, false, false, false, true, false, false] from rfl) ?_
                  refine sxo_call ent16 rfl rfl rfl (fun x804 e804 => C_graph_Of F (x1.length : Int) x796 a797 c798 x804 e804) (.consR 0 (Ro eS44 44 2 (.slice a797 x796.length c798) x796) rfl .nil) (fun x804 e804 => ?_)
                  rintro ⟨a805, c806⟩
                  refine sxo_nil ?_
                  refine sxq_anyB (.cons 1 rfl (.cons 1 rfl .nil)) (gk_F 0 rfl gk_nil) ?_
                  refine sxb_takeP 10 (.tuple #[.agg #[.slice a805 x804.1.length c806.1], .int .i64 x804.2]) rfl rfl rfl rfl (by kernel_rfl) (by kernel_rfl) (by kernel_rfl) (by kernel_rfl) (by kernel_rfl) rfl (show _ = #[true, true, true, true, true, true, true, true, true, true, true, false, false, true, false, false] from rfl) (yv_pv rfl) ?_
                  refine sxb_takeP 11 (.agg #[.slice a805 x804.1.length c806.1]) rfl rfl rfl rfl (by kernel_rfl) (by kernel_rfl) (by kernel_rfl) (by kernel_rfl) (by kernel_rfl) rfl (show _ = #[true, true, true, true, true, true, true, true, true, true, true, true, false, true, false, false] from rfl) (yv_pv rfl) ?_
                  refine sxb_takeP 12 (.int .i64 x804.2) rfl rfl rfl rfl (by kernel_rfl) (by kernel_rfl) (by kernel_rfl) (by kernel_rfl) (by kernel_rfl) rfl (show _ = #[true, true, true, true, true, true, true, true, true, true, true, true, true, true, false, false] from rfl) (yv_pv rfl) ?_
                  refine sxb_step 14 rfl (by kernel_rfl) (show _ = #[true, true, true, true, true, true, true, true, true, true, true, true, true, true, true, false] from rfl) ?_
                  refine sxo_storeB (i := 0) rfl rfl rfl tf24 rfl rfl rfl rfl rfl ?_
                  refine sxo_nil ?_
                  refine sxq_anyB (.cons 1 rfl (.cons 1 rfl .nil)) (gk_F 0 rfl gk_nil) ?_
                  refine sxb_takeP 15 (.int .i64 x804.2) rfl rfl rfl rfl (by kernel_rfl) (by kernel_rfl) (by kernel_rfl) (by kernel_rfl) (by kernel_rfl) rfl (show _ = #[true, true, true, true, true, true, true, true, true, true, true, true, true, true, true, true] from rfl) (yv_pv rfl) ?_
                  refine sxb_done (by kernel_rfl) ?_
                  refine sxq_np ?_ (by intro c h; cases h)
                  exact sxq_meetP ((x804.2, x804.1), (g803, a805, c806)) (lk_cons rfl (lk_cons rfl (lk_cons rfl (lk_cons rfl (lk_cons rfl lk_nil))))) (.cons 1 rfl (.cons 1 rfl (.cons 0 rfl .nil))) (.cons 3 rfl (.cons 0 rfl .nil)) (fk_cons 0 rfl fk_nil)
              · refine sxo_meq (m' := ((app 4398046511104 x793 ([(x4, x5)] : List (Int × Int))).bind fun x808 => ((M_graph_Of F (x1.length : Int) x808).bind fun x811 => M_L_GraphMore_j1 F x1 x4 x5 x8 x811.2 x811.1))) (rfl) ?_
                refine sxo_alloc rfl tf24 rfl (fun g807 => ?_)
                refine sxo_nil ?_
                refine sxq_anyB (.cons 1 rfl (.cons 1 rfl .nil)) (gk_F 0 rfl gk_nil) ?_
                refine sxb_step 8 rfl (by kernel_rfl) (show _ = #[true, true, true, true, true, true, true, true, true, false, false, false, false, true, false, false] from rfl) ?_
                refine sxo_app 0 eS44_ok rfl Try.underlying25 tf44 rfl rfl rfl rfl rfl (.inl ⟨1, _, rfl⟩) rfl rfl (fun x808 e808 a809 c810 => ?_)
                refine sxo_nil ?_
                refine sxq_anyB (.cons 1 rfl (.cons 1 rfl .nil)) (gk_F 0 rfl gk_nil) ?_
                refine sxb_step 9 rfl (by kernel_rfl) (show _ = #[true, true, true, true, true, true, true, true, true, true, false, false, false, true, false, false] from rfl) ?_
                refine sxo_call ent16 rfl rfl rfl (fun x811 e811 => C_graph_Of F (x1.length : Int) x808 a809 c810 x811 e811) (.consR 0 (Ro eS44 44 2 (.slice a809 x808.length c810) x808) rfl .nil) (fun x811 e811 => ?_)
                rintro ⟨a812, c813⟩
                refine sxo_nil ?_
                refine sxq_anyB (.cons 1 rfl (.cons 1 rfl .nil)) (gk_F 0 rfl gk_nil) ?_
                refine sxb_takeP 10 (.tuple #[.agg #[.slice a812 x811.1.length c813.1], .int .i64 x811.2]) rfl rfl rfl rfl (by kernel_rfl) (by kernel_rfl) (by kernel_rfl) (by kernel_rfl) (by kernel_rfl) rfl (show _ = #[true, true, true, true, true, true, true, true, true, true, true, false, false, true, false, false] from rfl) (yv_pv rfl) ?_
                refine sxb_takeP 11 (.agg #[.slice a812 x811.1.length c813.1]) rfl rfl rfl rfl (by kernel_rfl) (by kernel_rfl) (by kernel_rfl) (by kernel_rfl) (by kernel_rfl) rfl (show _ = #[true, true, true, true, true, true, true, true, true, true, true, true, false, true, false, false] from rfl) (yv_pv rfl) ?_
                refine sxb_takeP 12 (.int .i64 x811.2) rfl rfl rfl rfl (by kernel_rfl) (by kernel_rfl) (by kernel_rfl) (by kernel_rfl) (by kernel_rfl) rfl (show _ = #[true, true, true, true, true, true, true, true, true, true, true, true, true, true, false, false] from rfl) (yv_pv rfl) ?_
                refine sxb_step 14 rfl (by kernel_rfl) (show _ = #[true, true, true, true, true, true, true, true, true, true, true, true, true, true, true, false] from rfl) ?_
                refine sxo_storeB (i := 0) rfl rfl rfl tf24 rfl rfl rfl rfl rfl ?_
                refine sxo_nil ?_
                refine sxq_anyB (.cons 1 rfl (.cons 1 rfl .nil)) (gk_F 0 rfl gk_nil) ?_
                refine sxb_takeP 15 (.int .i64 x811.2) rfl rfl rfl rfl (by kernel_rfl) (by kernel_rfl) (by kernel_rfl) (by kernel_rfl) (by kernel_rfl) rfl (show _ = #[true, true, true, true, true, true, true, true, true, true, true, true, true, true, true, true] from rfl) (yv_pv rfl) ?_
                refine sxb_done (by kernel_rfl) ?_
                refine sxq_np ?_ (by intro c h; cases h)
                exact sxq_meetP ((x811.2, x811.1), (g807, a812, c813)) (lk_cons rfl (lk_cons rfl (lk_cons rfl (lk_cons rfl (lk_cons rfl lk_nil))))) (.cons 1 rfl (.cons 1 rfl (.cons 0 rfl .nil))) (.cons 3 rfl (.cons 0 rfl .nil)) (fk_cons 0 rfl fk_nil)
            · refine sxo_meq (m' := ((app 4398046511104 ([] : List (Int × Int)) x8.1).bind fun x815 => ((app 4398046511104 x815 ([(x4, x5)] : List (Int × Int))).bind fun x818 => ((M_graph_Of F (x1.length : Int) x818).bind fun x821 => M_L_GraphMore_j1 F x1 x4 x5 x8 x821.2 x821.1)))) (rfl) ?_
              refine sxo_alloc rfl tf24 rfl (fun g814 => ?_)
              refine sxo_nil ?_
              refine sxq_anyB (.cons 1 rfl (.cons 1 rfl .nil)) (gk_F 0 rfl gk_nil) ?_
              refine sxb_step 5 rfl (by kernel_rfl) (show _ = #[true, true, true, true, true, true, true, true, false, false, false, false, false, true, false, false] from rfl) ?_
              refine sxo_app 1 eS44_ok rfl Try.underlying25 tf44 rfl rfl rfl rfl rfl (.inl ⟨2, _, rfl⟩) rfl rfl (fun x815 e815 a816 c817 => ?_)
              refine sxo_nil ?_
              refine sxq_anyB (.cons 1 rfl (.cons 1 rfl .nil)) (gk_F 0 rfl gk_nil) ?_
              refine sxb_step 8 rfl (by kernel_rfl) (show _ = #[true, true, true, true, true, true, true, true, true, false, false, false, false, true, false, false] from rfl) ?_
              refine sxo_app 0 eS44_ok rfl Try.underlying25 tf44 rfl rfl rfl rfl rfl (.inl ⟨1, _, rfl⟩) rfl rfl (fun x818 e818 a819 c820 => ?_)
              refine sxo_nil ?_
              refine sxq_anyB (.cons 1 rfl (.cons 1 rfl .nil)) (gk_F 0 rfl gk_nil) ?_
              refine sxb_step 9 rfl (by kernel_rfl) (show _ = #[true, true, true, true, true, true, true, true, true, true, false, false, false, true, false, false] from rfl) ?_
              refine sxo_call ent16 rfl rfl rfl (fun x821 e821 => C_graph_Of F (x1.length : Int) x818 a819 c820 x821 e821) (.consR 0 (Ro eS44 44 2 (.slice a819 x818.length c820) x818) rfl .nil) (fun x821 e821 => ?_)
              rintro ⟨a822, c823⟩
              refine sxo_nil ?_
              refine sxq_anyB (.cons 1 rfl (.cons 1 rfl .nil)) (gk_F 0 rfl gk_nil) ?_
              refine sxb_takeP 10 (.tuple #[.agg #[.slice a822 x821.1.length c823.1], .int .i64 x821.2]) rfl rfl rfl rfl (by kernel_rfl) (by kernel_rfl) (by kernel_rfl) (by kernel_rfl) (by kernel_rfl) rfl (show _ = #[true, true, true, true, true, true, true, true, true, true, true, false, false, true, false, false] from rfl) (yv_pv rfl) ?_
              refine sxb_takeP 11 (.agg #[.slice a822 x821.1.length c823.1]) rfl rfl rfl rfl (by kernel_rfl) (by kernel_rfl) (by kernel_rfl) (by kernel_rfl) (by kernel_rfl) rfl (show _ = #[true, true, true, true, true, true, true, true, true, true, true, true, false, true, false, false] from rfl) (yv_pv rfl) ?_
              refine sxb_takeP 12 (.int .i64 x821.2) rfl rfl rfl rfl (by kernel_rfl) (by kernel_rfl) (by kernel_rfl) (by kernel_rfl) (by kernel_rfl) rfl (show _ = #[true, true, true, true, true, true, true, true, true, true, true, true, true, true, false, false] from rfl) (yv_pv rfl) ?_
              refine sxb_step 14 rfl (by kernel_rfl) (show _ = #[true, true, true, true, true, true, true, true, true, true, true, true, true, true, true, false] from rfl) ?_
              refine sxo_storeB (i := 0) rfl rfl rfl tf24 rfl rfl rfl rfl rfl ?_
              refine sxo_nil ?_
              refine sxq_anyB (.cons 1 rfl (.cons 1 rfl .nil)) (gk_F 0 rfl gk_nil) ?_
              refine sxb_takeP 15 (.int .i64 x821.2) rfl rfl rfl rfl (by kernel_rfl) (by kernel_rfl) (by kernel_rfl) (by kernel_rfl) (by kernel_rfl) rfl (show _ = #[true, true, true, true, true, true, true, true, true, true, true, true, true, true, true, true] from rfl) (yv_pv rfl) ?_
              refine sxb_done (by kernel_rfl) ?_
              refine sxq_np ?_ (by intro c h; cases h)
              exact sxq_meetP ((x821.2, x821.1), (g814, a822, c823)) (lk_cons rfl (lk_cons rfl (lk_cons rfl (lk_cons rfl (lk_cons rfl lk_nil))))) (.cons 1 rfl (.cons 1 rfl (.cons 0 rfl .nil))) (.cons 3 rfl (.cons 0 rfl .nil)) (fk_cons 0 rfl fk_nil)
          · refine sxo_meq (m' := ((app 4398046511104 ([] : List (Int × Int)) x8.1).bind fun x825 => ((app 4398046511104 x825 ([(x4, x5)] : List (Int × Int))).bind fun x830 => ((M_graph_Of F (x1.length : Int) x830).bind fun x833 => M_L_GraphMore_j1 F x1 x4 x5 x8 x833.2 x833.1)))) (rfl) ?_
            refine sxo_alloc rfl tf24 rfl (fun g824 => ?_)
            refine sxo_nil ?_
            refine sxq_anyB (.cons 1 rfl (.cons 1 rfl .nil)) (gk_F 0 rfl gk_nil) ?_
            refine sxb_two 5 7 rfl rfl (by kernel_rfl) (show _ = #[true, true, true, true, true, true, true, false, false, false, false, false, false, true, false, false] from rfl) (show _ = #[true, true, true, true, true, false, true, true, false, false, false, false, false, true, false, false] from rfl) ?_ ?_
            · refine sxo_app 0 eS44_ok rfl Try.underlying25 tf44 rfl rfl rfl rfl rfl (.inl ⟨1, _, rfl⟩) rfl rfl (fun x825 e825 a826 c827 => ?_)
              refine sxo_nil ?_
              refine sxq_anyB (.cons 1 rfl (.cons 1 rfl .nil)) (gk_F 0 rfl gk_nil) ?_
              refine sxb_step 7 rfl (by kernel_rfl) (show _ = #[true, true, true, true, true, true, true, true, false, false, false, false, false, true, false, false] from rfl) ?_
              refine sxo_slit (vs := [.agg #[.int .i64 x4, .int .i64 x5]]) (ys := ([(x4, x5)] : List (Int × Int))) eS44_ok (by decide) rfl Try.underlying25 tf44 rfl rfl rfl rfl rfl (by decide) (fun a828 c829 => ?_)
              refine sxo_nil ?_
              refine sxq_anyB (.cons 1 rfl (.cons 1 rfl .nil)) (gk_F 0 rfl gk_nil) ?_
              refine sxb_step 8 rfl (by kernel_rfl) (show _ = #[true, true, true, true, true, true, true, true, true, false, false, false, false, true, false, false] from rfl) ?_
              refine sxo_app 1 eS44_ok rfl Try.underlying25 tf44 rfl rfl rfl rfl rfl (.inl ⟨0, _, rfl⟩) rfl rfl (fun x830 e830 a831 c832 => ?_)
              refine sxo_nil ?_
              refine sxq_anyB (.cons 1 rfl (.cons 1 rfl .nil)) (gk_F 0 rfl gk_nil) ?_
              refine sxb_step 9 rfl (by kernel_rfl) (show _ = #[true, true, true, true, true, true, true, true, true, true, false, false, false, true, false, false] from rfl) ?_
              refine sxo_call ent16 rfl rfl rfl (fun x833 e833 => C_graph_Of F (x1.length : Int) x830 a831 c832 x833 e833) (.consR 0 (Ro eS44 44 2 (.slice a831 x830.length c832) x830) rfl .nil) (fun x833 e833 => ?_)
              rintro ⟨a834, c835⟩
              refine sxo_nil ?_
              refine sxq_anyB (.cons 1 rfl (.cons 1 rfl .nil)) (gk_F 0 rfl gk_nil) ?_
              refine sxb_takeP 10 (.tuple #[.agg #[.slice a834 x833.1.length c835.1], .int .i64 x833.2]) rfl rfl rfl rfl (by kernel_rfl) (by kernel_rfl) (by kernel_rfl) (by kernel_rfl) (by kernel_rfl) rfl (show _ = #[true, true, true, true, true, true, true, true, true, true, true, false, false, true, false, false] from rfl) (yv_pv rfl) ?_
              refine sxb_takeP 11 (.agg #[.slice a834 x833.1.length c835.1]) rfl rfl rfl rfl (by kernel_rfl) (by kernel_rfl) (by kernel_rfl) (by kernel_rfl) (by kernel_rfl) rfl (show _ = #[true, true, true, true, true, true, true, true, true, true, true, true, false, true, false, false] from rfl) (yv_pv rfl) ?_
              refine sxb_takeP 12 (.int .i64 x833.2) rfl rfl rfl rfl (by kernel_rfl) (by kernel_rfl) (by kernel_rfl) (by kernel_rfl) (by kernel_rfl) rfl (show _ = #[true, true, true, true, true, true, true, true, true, true, true, true, true, true, false, false] from rfl) (yv_pv rfl) ?_
              refine sxb_step 14 rfl (by kernel_rfl) (show _ = #[true, true, true, true, true, true, true, true, true, true, true, true, true, true, true, false] from rfl) ?_
              refine sxo_storeB (i := 0) rfl rfl rfl tf24 rfl rfl rfl rfl rfl ?_
              refine sxo_nil ?_
              refine sxq_anyB (.cons 1 rfl (.cons 1 rfl .nil)) (gk_F 0 rfl gk_nil) ?_
              refine sxb_takeP 15 (.int .i64 x833.2) rfl rfl rfl rfl (by kernel_rfl) (by kernel_rfl) (by kernel_rfl) (by kernel_rfl) (by kernel_rfl) rfl (show _ = #[true, true, true, true, true, true, true, true, true, true, true, true, true, true, true, true] from rfl) (yv_pv rfl) ?_
              refine sxb_done (by kernel_rfl) ?_
              refine sxq_np ?_ (by intro c h; cases h)
              exact sxq_meetP ((x833.2, x833.1), (g824, a834, c835)) (lk_cons rfl (lk_cons rfl (lk_cons rfl (lk_cons rfl (lk_cons rfl lk_nil))))) (.cons 1 rfl (.cons 1 rfl (.cons 0 rfl .nil))) (.cons 3 rfl (.cons 0 rfl .nil)) (fk_cons 0 rfl fk_nil)
            · refine sxo_meq (m' := ((app 4398046511104 ([] : List (Int × Int)) x8.1).bind fun x838 => ((app 4398046511104 x838 ([(x4, x5)] : List (Int × Int))).bind fun x841 => ((M_graph_Of F (x1.length : Int) x841).bind fun x844 => M_L_GraphMore_j1 F x1 x4 x5 x8 x844.2 x844.1)))) (rfl) ?_
              refine sxo_slit (vs := [.agg #[.int .i64 x4, .int .i64 x5]]) (ys := ([(x4, x5)] : List (Int × Int))) eS44_ok (by decide) rfl Try.underlying25 tf44 rfl rfl rfl rfl rfl (by decide) (fun a836 c837 => ?_)
              refine sxo_nil ?_
              refine sxq_anyB (.cons 1 rfl (.cons 1 rfl .nil)) (gk_F 0 rfl gk_nil) ?_
              refine sxb_step 5 rfl (by kernel_rfl) (show _ = #[true, true, true, true, true, true, true, true, false, false, false, false, false, true, false, false] from rfl) ?_
              refine sxo_app 1 eS44_ok rfl Try.underlying25 tf44 rfl rfl rfl rfl rfl (.inl ⟨2, _, rfl⟩) rfl rfl (fun x838 e838 a839 c840 => ?_)
              refine sxo_nil ?_
              refine sxq_anyB (.cons 1 rfl (.cons 1 rfl .nil)) (gk_F 0 rfl gk_nil) ?_
              refine sxb_step 8 rfl (by kernel_rfl) (show _ = #[true, true, true, true, true, true, true, true, true, false, false, false, false, true, false, false] from rfl) ?_
              refine sxo_app 0 eS44_ok rfl Try.underlying25 tf44 rfl rfl rfl rfl rfl (.inl ⟨1, _, rfl⟩) rfl rfl (fun x841 e841 a842 c843 => ?_)
              refine sxo_nil ?_
              refine sxq_anyB (.cons 1 rfl (.cons 1 rfl .nil)) (gk_F 0 rfl gk_nil) ?_
              refine sxb_step 9 rfl (by kernel_rfl) (show _ = #[true, true, true, true, true, true, true, true, true, true, false, false, false, true, false, false] from rfl) ?_
              refine sxo_call ent16 rfl rfl rfl (fun x844 e844 => C_graph_Of F (x1.length : Int) x841 a842 c843 x844 e844) (.consR 0 (Ro eS44 44 2 (.slice a842 x841.length c843) x841) rfl .nil) (fun x844 e844 => ?_)
              rintro ⟨a845, c846⟩
              refine sxo_nil ?_
              refine sxq_anyB (.cons 1 rfl (.cons 1 rfl .nil)) (gk_F 0 rfl gk_nil) ?_
              refine sxb_takeP 10 (.tuple #[.agg #[.slice a845 x844.1.length c846.1], .int .i64 x844.2]) rfl rfl rfl rfl (by kernel_rfl) (by kernel_rfl) (by kernel_rfl) (by kernel_rfl) (by kernel_rfl) rfl (show _ = #[true, true, true, true, true, true, true, true, true, true, true, false, false, true, false, false] from rfl) (yv_pv rfl) ?_
              refine sxb_takeP 11 (.agg #[.slice a845 x844.1.length c846.1]) rfl rfl rfl rfl (by kernel_rfl) (by kernel_rfl) (by kernel_rfl) (by kernel_rfl) (by kernel_rfl) rfl (show _ = #[true, true, true, true, true, true, true, true, true, true, true, true, false, true, false, false] from rfl) (yv_pv rfl) ?_
              refine sxb_takeP 12 (.int .i64 x844.2) rfl rfl rfl rfl (by kernel_rfl) (by kernel_rfl) (by kernel_rfl) (by kernel_rfl) (by kernel_rfl) rfl (show _ = #[true, true, true, true, true, true, true, true, true, true, true, true, true, true, false, false] from rfl) (yv_pv rfl) ?_
              refine sxb_step 14 rfl (by kernel_rfl) (show _ = #[true, true, true, true, true, true, true, true, true, true, true, true, true, true, true, false] from rfl) ?_
              refine sxo_storeB (i := 0) rfl rfl rfl tf24 rfl rfl rfl rfl rfl ?_
              refine sxo_nil ?_
              refine sxq_anyB (.cons 1 rfl (.cons 1 rfl .nil)) (gk_F 0 rfl gk_nil) ?_
              refine sxb_takeP 15 (.int .i64 x844.2) rfl rfl rfl rfl (by kernel_rfl) (by kernel_rfl) (by kernel_rfl) (by kernel_rfl) (by kernel_rfl) rfl (show _ = #[true, true, true, true, true, true, true, true, true, true, true, true, true, true, true, true] from rfl) (yv_pv rfl) ?_
              refine sxb_done (by kernel_rfl) ?_
              refine sxq_np ?_ (by intro c h; cases h)
              exact sxq_meetP ((x844.2, x844.1), (g824, a845, c846)) (lk_cons rfl (lk_cons rfl (lk_cons rfl (lk_cons rfl (lk_cons rfl lk_nil))))) (.cons 1 rfl (.cons 1 rfl (.cons 0 rfl .nil))) (.cons 3 rfl (.cons 0 rfl .nil)) (fk_cons 0 rfl fk_nil)
        · refine sxo_meq (m' := ((app 4398046511104 ([] : List (Int × Int)) x8.1).bind fun x851 => ((app 4398046511104 x851 ([(x4, x5)] : List (Int × Int))).bind fun x854 => ((M_graph_Of F (x1.length : Int) x854).bind fun x857 => M_L_GraphMore_j1 F x1 x4 x5 x8 x857.2 x857.1)))) (rfl) ?_
          refine sxo_slit (vs := [.agg #[.int .i64 x4, .int .i64 x5]]) (ys := ([(x4, x5)] : List (Int × Int))) eS44_ok (by decide) rfl Try.underlying25 tf44 rfl rfl rfl rfl rfl (by decide) (fun a847 c848 => ?_)
          refine sxo_nil ?_
          refine sxq_anyB (.cons 0 rfl (.cons 0 rfl .nil)) (gk_F 0 rfl gk_nil) ?_
          refine sxb_two 3 13 rfl rfl (by kernel_rfl) (show _ = #[true, true, true, true, true, false, true, true, false, false, false, false, false, false, false, false] from rfl) (show _ = #[true, true, true, false, true, false, true, true, false, false, false, false, false, true, false, false] from rfl) ?_ ?_
          · refine sxo_slit (vs := []) (ys := ([] : List (Int × Int))) eS44_ok (by decide) rfl Try.underlying25 tf44 rfl rfl rfl rfl rfl (by decide) (fun a849 c850 => ?_)
            refine sxo_nil ?_
            refine sxq_anyB (.cons 0 rfl (.cons 0 rfl .nil)) (gk_F 0 rfl gk_nil) ?_
            refine sxb_two 5 13 rfl rfl (by kernel_rfl) (show _ = #[true, true, true, true, true, true, true, true, false, false, false, false, false, false, false, false] from rfl) (show _ = #[true, true, true, true, true, false, true, true, false, false, false, false, false, true, false, false] from rfl) ?_ ?_
            · refine sxo_app 0 eS44_ok rfl Try.underlying25 tf44 rfl rfl rfl rfl rfl (.inl ⟨2, _, rfl⟩) rfl rfl (fun x851 e851 a852 c853 => ?_)
              refine sxo_nil ?_
              refine sxq_anyB (.cons 0 rfl (.cons 0 rfl .nil)) (gk_F 0 rfl gk_nil) ?_
              refine sxb_two 8 13 rfl rfl (by kernel_rfl) (show _ = #[true, true, true, true, true, true, true, true, true, false, false, false, false, false, false, false] from rfl) (show _ = #[true, true, true, true, true, true, true, true, false, false, false, false, false, true, false, false] from rfl) ?_ ?_
              · refine sxo_app 0 eS44_ok rfl Try.underlying25 tf44 rfl rfl rfl rfl rfl (.inl ⟨1, _, rfl⟩) rfl rfl (fun x854 e854 a855 c856 => ?_)
                refine sxo_nil ?_
                refine sxq_anyB (.cons 0 rfl (.cons 0 rfl .nil)) (gk_F 0 rfl gk_nil) ?_
                refine sxb_two 9 13 rfl rfl (by kernel_rfl) (show _ = #[true, true, true, true, true, true, true, true, true, true, false, false, false, false, false, false] from rfl) (show _ = #[true, true, true, true, true, true, true, true, true, false, false, false, false, true, false, false] from rfl) ?_ ?_
                · refine sxo_call ent16 rfl rfl rfl (fun x857 e857 => C_graph_Of F (x1.length : Int) x854 a855 c856 x857 e857) (.consR 0 (Ro eS44 44 2 (.slice a855 x854.length c856) x854) rfl .nil) (fun x857 e857 => ?_)
                  rintro ⟨a858, c859⟩
                  refine sxo_nil ?_
                  refine sxq_anyB (.cons 0 rfl (.cons 0 rfl .nil)) (gk_F 0 rfl gk_nil) ?_
                  refine sxb_takeP 10 (.tuple #[.agg #[.slice a858 x857.1.length c859.1], .int .i64 x857.2]) rfl rfl rfl rfl (by kernel_rfl) (by kernel_rfl) (by kernel_rfl) (by kernel_rfl) (by kernel_rfl) rfl (show _ = #[true, true, true, true, true, true, true, true, true, true, true, false, false, false, false, false] from rfl) (yv_pv rfl) ?_
                  refine sxb_takeP 11 (.agg #[.slice a858 x857.1.length c859.1]) rfl rfl rfl rfl (by kernel_rfl) (by kernel_rfl) (by kernel_rfl) (by kernel_rfl) (by kernel_rfl) rfl (show _ = #[true, true, true, true, true, true, true, true, true, true, true, true, false, false, false, false] from rfl) (yv_pv rfl) ?_
                  refine sxb_takeP 12 (.int .i64 x857.2) rfl rfl rfl rfl (by kernel_rfl) (by kernel_rfl) (by kernel_rfl) (by kernel_rfl) (by kernel_rfl) rfl (show _ = #[true, true, true, true, true, true, true, true, true, true, true, true, true, false, false, false] from rfl) (yv_pv rfl) ?_
                  refine sxb_step 13 rfl (by kernel_rfl) (show _ = #[true, true, true, true, true, true, true, true, true, true, true, true, true, true, false, false] from rfl) ?_
                  refine sxo_alloc rfl tf24 rfl (fun g860 => ?_)
                  refine sxo_nil ?_
                  refine sxq_anyB (.cons 1 rfl (.cons 1 rfl .nil)) (gk_F 0 rfl gk_nil) ?_
                  refine sxb_step 14 rfl (by kernel_rfl) (show _ = #[true, true, true, true, true, true, true, true, true, true, true, true, true, true, true, false] from rfl) ?_
                  refine sxo_storeB (i := 0) rfl rfl rfl tf24 rfl rfl rfl rfl rfl ?_
                  refine sxo_nil ?_
                  refine sxq_anyB (.cons 1 rfl (.cons 1 rfl .nil)) (gk_F 0 rfl gk_nil) ?_
                  refine sxb_takeP 15 (.int .i64 x857.2) rfl rfl rfl rfl (by kernel_rfl) (by kernel_rfl) (by kernel_rfl) (by kernel_rfl) (by kernel_rfl) rfl (show _ = #[true, true, true, true, true, true, true, true, true, true, true, true, true, true, true, true] from rfl) (yv_pv rfl) ?_
                  refine sxb_done (by kernel_rfl) ?_
                  refine sxq_np ?_ (by intro c h; cases h)
                  exact sxq_meetP ((x857.2, x857.1), (g860, a858, c859)) (lk_cons rfl (lk_cons rfl (lk_cons rfl (lk_cons rfl (lk_cons rfl lk_nil))))) (.cons 1 rfl (.cons 1 rfl (.cons 0 rfl .nil))) (.cons 3 rfl (.cons 0 rfl .nil)) (fk_cons 0 rfl fk_nil)
                · refine sxo_meq (m' := ((M_graph_Of F (x1.length : Int) x854).bind fun x862 => M_L_GraphMore_j1 F x1 x4 x5 x8 x862.2 x862.1)) (rfl) ?_
                  refine sxo_alloc rfl tf24 rfl (fun g861 => ?_)
                  refine sxo_nil ?_
                  refine sxq_anyB (.cons 1 rfl (.cons 1 rfl .nil)) (gk_F 0 rfl gk_nil) ?_
                  refine sxb_step 9 rfl (by kernel_rfl) (show _ = #[true, true, true, true, true, true, true, true, true, true, false, false, false, true, false, false] from rfl) ?_
                  refine sxo_call ent16 rfl rfl rfl (fun x862 e862 => C_graph_Of F (x1.length : Int) x854 a855 c856 x862 e862) (.consR 0 (Ro eS44 44 2 (.slice a855 x854.length c856) x854) rfl .nil) (fun x862 e862 => ?_)
                  rintro ⟨a863, c864⟩
                  refine sxo_nil ?_
                  refine sxq_anyB (.cons 1 rfl (.cons 1 rfl .nil)) (gk_F 0 rfl gk_nil) ?_
                  refine sxb_takeP 10 (.tuple #[.agg #[.slice a863 x862.1.length c864.1], .int .i64 x862.2]) rfl rfl rfl rfl (by kernel_rfl) (by kernel_rfl) (by kernel_rfl) (by kernel_rfl) (by kernel_rfl) rfl (show _ = #[true, true, true, true, true, true, true, true, true, true, true, false, false, true, false, false] from rfl) (yv_pv rfl) ?_
                  refine sxb_takeP 11 (.agg #[.slice a863 x862.1.length c864.1]) rfl rfl rfl rfl (by kernel_rfl) (by kernel_rfl) (by kernel_rfl) (by kernel_rfl) (by kernel_rfl) rfl (show _ = #[true, true, true, true, true, true, true, true, true, true, true, true, false, true, false, false] from rfl) (yv_pv rfl) ?_
                  refine sxb_takeP 12 (.int .i64 x862.2) rfl rfl rfl rfl (by kernel_rfl) (by kernel_rfl) (by kernel_rfl) (by kernel_rfl) (by kernel_rfl) rfl (show _ = #[true, true, true, true, true, true, true, true, true, true, true, true, true, true, false, false] from rfl) (yv_pv rfl) ?_
                  refine sxb_step 14 rfl (by kernel_rfl) (show _ = #[true, true, true, true, true, true, true, true, true, true, true, true, true, true, true, false] from rfl) ?_
                  refine sxo_storeB (i := 0) rfl rfl rfl tf24 rfl rfl rfl rfl rfl ?_
                  refine sxo_nil ?_
                  refine sxq_anyB (.cons 1 rfl (.cons 1 rfl .nil)) (gk_F 0 rfl gk_nil) ?_
                  refine sxb_takeP 15 (.int .i64 x862.2) rfl rfl rfl rfl (by kernel_rfl) (by kernel_rfl) (by kernel_rfl) (by kernel_rfl) (by kernel_rfl) rfl (show _ = #[true, true, true, true, true, true, true, true, true, true, true, true, true, true, true, true] from rfl) (yv_pv rfl) ?_
                  refine sxb_done (by kernel_rfl) ?_
                  refine sxq_np ?_ (by intro c h; cases h)
                  exact sxq_meetP ((x862.2, x862.1), (g861, a863, c864)) (lk_cons rfl (lk_cons rfl (lk_cons rfl (lk_cons rfl (lk_cons rfl lk_nil))))) (.cons 1 rfl (.cons 1 rfl (.cons 0 rfl .nil))) (.cons 3 rfl (.cons 0 rfl .nil)) (fk_cons 0 rfl fk_nil)
              · refine sxo_meq (m' := ((app 4398046511104 x851 ([(x4, x5)] : List (Int × Int))).bind fun x866 => ((M_graph_Of F (x1.length : Int) x866).bind fun x869 => M_L_GraphMore_j1 F x1 x4 x5 x8 x869.2 x869.1))) (rfl) ?_
                refine sxo_alloc rfl tf24 rfl (fun g865 => ?_)
                refine sxo_nil ?_
                refine sxq_anyB (.cons 1 rfl (.cons 1 rfl .nil)) (gk_F 0 rfl gk_nil) ?_
                refine sxb_step 8 rfl (by kernel_rfl) (show _ = #[true, true, true, true, true, true, true, true, true, false, false, false, false, true, false, false] from rfl) ?_
                refine sxo_app 0 eS44_ok rfl Try.underlying25 tf44 rfl rfl rfl rfl rfl (.inl ⟨1, _, rfl⟩) rfl rfl (fun x866 e866 a867 c868 => ?_)
                refine sxo_nil ?_
                refine sxq_anyB (.cons 1 rfl (.cons 1 rfl .nil)) (gk_F 0 rfl gk_nil) ?_
                refine sxb_step 9 rfl (by kernel_rfl) (show _ = #[true, true, true, true, true, true, true, true, true, true, false, false, false, true, false, false] from rfl) ?_
                refine sxo_call ent16 rfl rfl rfl (fun x869 e869 => C_graph_Of F (x1.length : Int) x866 a867 c868 x869 e869) (.consR 0 (Ro eS44 44 2 (.slice a867 x866.length c868) x866) rfl .nil) (fun x869 e869 => ?_)
                rintro ⟨a870, c871⟩
                refine sxo_nil ?_
                refine sxq_anyB (.cons 1 rfl (.cons 1 rfl .nil)) (gk_F 0 rfl gk_nil) ?_
                refine sxb_takeP 10 (.tuple #[.agg #[.slice a870 x869.1.length c871.1], .int .i64 x869.2]) rfl rfl rfl rfl (by kernel_rfl) (by kernel_rfl) (by kernel_rfl) (by kernel_rfl) (by kernel_rfl) rfl (show _ = #[true, true, true, true, true, true, true, true, true, true, true, false, false, true, false, false] from rfl) (yv_pv rfl) ?_
                refine sxb_takeP 11 (.agg #[.slice a870 x869.1.length c871.1]) rfl rfl rfl rfl (by kernel_rfl) (by kernel_rfl) (by kernel_rfl) (by kernel_rfl) (by kernel_rfl) rfl (show _ = #[true, true, true, true, true, true, true, true, true, true, true, true, false, true, false, false] from rfl) (yv_pv rfl) ?_
                refine sxb_takeP 12 (.int .i64 x869.2) rfl rfl rfl rfl (by kernel_rfl) (by kernel_rfl) (by kernel_rfl) (by kernel_rfl) (by kernel_rfl) rfl (show _ = #[true, true, true, true, true, true, true, true, true, true, true, true, true, true, false, false] from rfl) (yv_pv rfl) ?_
                refine sxb_step 14 rfl (by kernel_rfl) (show _ = #[true, true, true, true, true, true, true, true, true, true, true, true, true, true, true, false] from rfl) ?_
                refine sxo_storeB (i := 0) rfl rfl rfl tf24 rfl rfl rfl rfl rfl ?_
                refine sxo_nil ?_
                refine sxq_anyB (.cons 1 rfl (.cons 1 rfl .nil)) (gk_F 0 rfl gk_nil) ?_
                refine sxb_takeP 15 (.int .i64 x869.2) rfl rfl rfl rfl (by kernel_rfl) (by kernel_rfl) (by kernel_rfl) (by kernel_rfl) (by kernel_rfl) rfl (show _ = #[true, true, true, true, true, true, true, true, true, true, true, true, true, true, true, true] from rfl) (yv_pv rfl) ?_
                refine sxb_done (by kernel_rfl) ?_
                refine sxq_np ?_ (by intro c h; cases h)
                exact sxq_meetP ((x869.2, x869.1), (g865, a870, c871)) (lk_cons rfl (lk_cons rfl (lk_cons rfl (lk_cons rfl (lk_cons rfl lk_nil))))) (.cons 1 rfl (.cons 1 rfl (.cons 0 rfl .nil))) (.cons 3 rfl (.cons 0 rfl .nil)) (fk_cons 0 rfl fk_nil)
            · refine sxo_meq (m' := ((app 4398046511104 ([] : List (Int × Int)) x8.1).bind fun x873 => ((app 4398046511104 x873 ([(x4, x5)] : List (Int × Int))).bind fun x876 => ((M_graph_Of F (x1.length : Int) x876).bind fun x879 => M_L_GraphMore_j1 F x1 x4 x5 x8 x879.2 x879.1)))) (rfl) ?_
              refine sxo_alloc rfl tf24 rfl (fun g872 => ?_)
              refine sxo_nil ?_
              refine sxq_anyB (.cons 1 rfl (.cons 1 rfl .nil)) (gk_F 0 rfl gk_nil) ?_
              refine sxb_step 5 rfl (by kernel_rfl) (show _ = #[true, true, true, true, true, true, true, true, false, false, false, false, false, true, false, false] from rfl) ?_
              refine sxo_app 0 eS44_ok rfl Try.underlying25 tf44 rfl rfl rfl rfl rfl (.inl ⟨2, _, rfl⟩) rfl rfl (fun x873 e873 a874 c875 => ?_)
              refine sxo_nil ?_
              refine sxq_anyB (.cons 1 rfl (.cons 1 rfl .nil)) (gk_F 0 rfl gk_nil) ?_
              refine sxb_step 8 rfl (by kernel_rfl) (show _ = #[true, true, true, true, true, true, true, true, true, false, false, false, false, true, false, false] from rfl) ?_
              refine sxo_app 0 eS44_ok rfl Try.underlying25 tf44 rfl rfl rfl rfl rfl (.inl ⟨1, _, rfl⟩) rfl rfl (fun x876 e876 a877 c878 => ?_)
              refine sxo_nil ?_
              refine sxq_anyB (.cons 1 rfl (.cons 1 rfl .nil)) (gk_F 0 rfl gk_nil) ?_
              refine sxb_step 9 rfl (by kernel_rfl) (show _ = #[true, true, true, true, true, true, true, true, true, true, false, false, false, true, false, false] from rfl) ?_
              refine sxo_call ent16 rfl rfl rfl (fun x879 e879 => C_graph_Of F (x1.length : Int) x876 a877 c878 x879 e879) (.consR 0 (Ro eS44 44 2 (.slice a877 x876.length c878) x876) rfl .nil) (fun x879 e879 => ?_)
              rintro ⟨a880, c881⟩
              refine sxo_nil ?_
              refine sxq_anyB (.cons 1 rfl (.cons 1 rfl .nil)) (gk_F 0 rfl gk_nil) ?_
              refine sxb_takeP 10 (.tuple #[.agg #[.slice a880 x879.1.length c881.1], .int .i64 x879.2]) rfl rfl rfl rfl (by kernel_rfl) (by kernel_rfl) (by kernel_rfl) (by kernel_rfl) (by kernel_rfl) rfl (show _ = #[true, true, true, true, true, true, true, true, true, true, true, false, false, true, false, false] from rfl) (yv_pv rfl) ?_
              refine sxb_takeP 11 (.agg #[.slice a880 x879.1.length c881.1]) rfl rfl rfl rfl (by kernel_rfl) (by kernel_rfl) (by kernel_rfl) (by kernel_rfl) (by kernel_rfl) rfl (show _ = #[true, true, true, true, true, true, true, true, true, true, true, true, false, true, false, false] from rfl) (yv_pv rfl) ?_
              refine sxb_takeP 12 (.int .i64 x879.2) rfl rfl rfl rfl (by kernel_rfl) (by kernel_rfl) (by kernel_rfl) (by kernel_rfl) (by kernel_rfl) rfl (show _ = #[true, true, true, true, true, true, true, true, true, true, true, true, true, true, false, false] from rfl) (yv_pv rfl) ?_
              refine sxb_step 14 rfl (by kernel_rfl) (show _ = #[true, true, true, true, true, true, true, true, true, true, true, true, true, true, true, false] from rfl) ?_
              refine sxo_storeB (i := 0) rfl rfl rfl tf24 rfl rfl rfl rfl rfl ?_
              refine sxo_nil ?_
              refine sxq_anyB (.cons 1 rfl (.cons 1 rfl .nil)) (gk_F 0 rfl gk_nil) ?_
              refine sxb_takeP 15 (.int .i64 x879.2) rfl rfl rfl rfl (by kernel_rfl) (by kernel_rfl) (by kernel_rfl) (by kernel_rfl) (by kernel_rfl) rfl (show _ = #[true, true, true, true, true, true, true, true, true, true, true, true, true, true, true, true] from rfl) (yv_pv rfl) ?_
              refine sxb_done (by kernel_rfl) ?_
              refine sxq_np ?_ (by intro c h; cases h)
              exact sxq_meetP ((x879.2, x879.1), (g872, a880, c881)) (lk_cons rfl (lk_cons rfl (lk_cons rfl (lk_cons rfl (lk_cons rfl lk_nil))))) (.cons 1 rfl (.cons 1 rfl (.cons 0 rfl .nil))) (.cons 3 rfl (.cons 0 rfl .nil)) (fk_cons 0 rfl fk_nil)
          · refine sxo_meq (m' := ((app 4398046511104 ([] : List (Int × Int)) x8.1).bind fun x885 => ((app 4398046511104 x885 ([(x4, x5)] : List (Int × Int))).bind fun x888 => ((M_graph_Of F (x1.length : Int) x888).bind fun x891 => M_L_GraphMore_j1 F x1 x4 x5 x8 x891.2 x891.1)))) (rfl) ?_
            refine sxo_alloc rfl tf24 rfl (fun g882 => ?_)
            refine sxo_nil ?_
            refine sxq_anyB (.cons 1 rfl (.cons 1 rfl .nil)) (gk_F 0 rfl gk_nil) ?_
            refine sxb_step 3 rfl (by kernel_rfl) (show _ = #[true, true, true, true, true, false, true, true, false, false, false, false, false, true, false, false] from rfl) ?_
            refine sxo_slit (vs := []) (ys := ([] : List (Int × Int))) eS44_ok (by decide) rfl Try.underlying25 tf44 rfl rfl rfl rfl rfl (by decide) (fun a883 c884 => ?_)
            refine sxo_nil ?_
            refine sxq_anyB (.cons 1 rfl (.cons 1 rfl .nil)) (gk_F 0 rfl gk_nil) ?_
            refine sxb_step 5 rfl (by kernel_rfl) (show _ = #[true, true, true, true, true, true, true, true, false, false, false, false, false, true, false, false] from rfl) ?_
            refine sxo_app 0 eS44_ok rfl Try.underlying25 tf44 rfl rfl rfl rfl rfl (.inl ⟨2, _, rfl⟩) rfl rfl (fun x885 e885 a886 c887 => ?_)
            refine sxo_nil ?_
            refine sxq_anyB (.cons 1 rfl (.cons 1 rfl .nil)) (gk_F 0 rfl gk_nil) ?_
            refine sxb_step 8 rfl (by kernel_rfl) (show _ = #[true, true, true, true, true, true, true, true, true, false, false, false, false, true, false, false] from rfl) ?_
            refine sxo_app 0 eS44_ok rfl Try.underlying25 tf44 rfl rfl rfl rfl rfl (.inl ⟨1, _, rfl⟩) rfl rfl (fun x888 e888 a889 c890 => ?_)
            refine sxo_nil ?_
            refine sxq_anyB (.cons 1 rfl (.cons 1 rfl .nil)) (gk_F 0 rfl gk_nil) ?_
            refine sxb_step 9 rfl (by kernel_rfl) (show _ = #[true, true, true, true, true, true, true, true, true, true, false, false, false, true, false, false] from rfl) ?_
            refine sxo_call ent16 rfl rfl rfl (fun x891 e891 => C_graph_Of F (x1.length : Int) x888 a889 c890 x891 e891) (.consR 0 (Ro eS44 44 2 (.slice a889 x888.length c890) x888) rfl .nil) (fun x891 e891 => ?_)
            rintro ⟨a892, c893⟩
            refine sxo_nil ?_
            refine sxq_anyB (.cons 1 rfl (.cons 1 rfl .nil)) (gk_F 0 rfl gk_nil) ?_
            refine sxb_takeP 10 (.tuple #[.agg #[.slice a892 x891.1.length c893.1], .int .i64 x891.2]) rfl rfl rfl rfl (by kernel_rfl) (by kernel_rfl) (by kernel_rfl) (by kernel_rfl) (by kernel_rfl) rfl (show _ = #[true, true, true, true, true, true, true, true, true, true, true, false, false, true, false, false] from rfl) (yv_pv rfl) ?_
            refine sxb_takeP 11 (.agg #[.slice a892 x891.1.length c893.1]) rfl rfl rfl rfl (by kernel_rfl) (by kernel_rfl) (by kernel_rfl) (by kernel_rfl) (by kernel_rfl) rfl (show _ = #[true, true, true, true, true, true, true, true, true, true, true, true, false, true, false, false] from rfl) (yv_pv rfl) ?_
            refine sxb_takeP 12 (.int .i64 x891.2) rfl rfl rfl rfl (by kernel_rfl) (by kernel_rfl) (by kernel_rfl) (by kernel_rfl) (by kernel_rfl) rfl (show _ = #[true, true, true, true, true, true, true, true, true, true, true, true, true, true, false, false] from rfl) (yv_pv rfl) ?_
            refine sxb_step 14 rfl (by kernel_rfl) (show _ = #[true, true, true, true, true, true, true, true, true, true, true, true, true, true, true, false] from rfl) ?_
            refine sxo_storeB (i := 0) rfl rfl rfl tf24 rfl rfl rfl rfl rfl ?_
            refine sxo_nil ?_
            refine sxq_anyB (.cons 1 rfl (.cons 1 rfl .nil)) (gk_F 0 rfl gk_nil) ?_
            refine sxb_takeP 15 (.int .i64 x891.2) rfl rfl rfl rfl (by kernel_rfl) (by kernel_rfl) (by kernel_rfl) (by kernel_rfl) (by kernel_rfl) rfl (show _ = #[true, true, true, true, true, true, true, true, true, true, true, true, true, true, true, true] from rfl) (yv_pv rfl) ?_
            refine sxb_done (by kernel_rfl) ?_
            refine sxq_np ?_ (by intro c h; cases h)
            exact sxq_meetP ((x891.2, x891.1), (g882, a892, c893)) (lk_cons rfl (lk_cons rfl (lk_cons rfl (lk_cons rfl (lk_cons rfl lk_nil))))) (.cons 1 rfl (.cons 1 rfl (.cons 0 rfl .nil))) (.cons 3 rfl (.cons 0 rfl .nil)) (fk_cons 0 rfl fk_nil)
        · refine sxo_meq (m' := ((app 4398046511104 ([] : List (Int × Int)) x8.1).bind fun x897 => ((app 4398046511104 x897 ([(x4, x5)] : List (Int × Int))).bind fun x902 => ((M_graph_Of F (x1.length : Int) x902).bind fun x905 => M_L_GraphMore_j1 F x1 x4 x5 x8 x905.2 x905.1)))) (rfl) ?_
          refine sxo_alloc rfl tf24 rfl (fun g894 => ?_)
          refine sxo_nil ?_
          refine sxq_anyB (.cons 1 rfl (.cons 1 rfl .nil)) (gk_F 0 rfl gk_nil) ?_
          refine sxb_two 3 7 rfl rfl (by kernel_rfl) (show _ = #[true, true, true, true, true, false, true, false, false, false, false, false, false, true, false, false] from rfl) (show _ = #[true, true, true, false, true, false, true, true, false, false, false, false, false, true, false, false] from rfl) ?_ ?_
          · refine sxo_slit (vs := []) (ys := ([] : List (Int × Int))) eS44_ok (by decide) rfl Try.underlying25 tf44 rfl rfl rfl rfl rfl (by decide) (fun a895 c896 => ?_)
            refine sxo_nil ?_
            refine sxq_anyB (.cons 1 rfl (.cons 1 rfl .nil)) (gk_F 0 rfl gk_nil) ?_
            refine sxb_two 5 7 rfl rfl (by kernel_rfl) (show _ = #[true, true, true, true, true, true, true, false, false, false, false, false, false, true, false, false] from rfl) (show _ = #[true, true, true, true, true, false, true, true, false, false, false, false, false, true, false, false] from rfl) ?_ ?_
            · refine sxo_app 0 eS44_ok rfl Try.underlying25 tf44 rfl rfl rfl rfl rfl (.inl ⟨1, _, rfl⟩) rfl rfl (fun x897 e897 a898 c899 => ?_)
              refine sxo_nil ?_
              refine sxq_anyB (.cons 1 rfl (.cons 1 rfl .nil)) (gk_F 0 rfl gk_nil) ?_
              refine sxb_step 7 rfl (by kernel_rfl) (show _ = #[true, true, true, true, true, true, true, true, false, false, false, false, false, true, false, false] from rfl) ?_
              refine sxo_slit (vs := [.agg #[.int .i64 x4, .int .i64 x5]]) (ys := ([(x4, x5)] : List (Int × Int))) eS44_ok (by decide) rfl Try.underlying25 tf44 rfl rfl rfl rfl rfl (by decide) (fun a900 c901 => ?_)
              refine sxo_nil ?_
              refine sxq_anyB (.cons 1 rfl (.cons 1 rfl .nil)) (gk_F 0 rfl gk_nil) ?_
              refine sxb_step 8 rfl (by kernel_rfl) (show _ = #[true, true, true, true, true, true, true, true, true, false, false, false, false, true, false, false] from rfl) ?_
              refine sxo_app 1 eS44_ok rfl Try.underlying25 tf44 rfl rfl rfl rfl rfl (.inl ⟨0, _, rfl⟩) rfl rfl (fun x902 e902 a903 c904 => ?_)
              refine sxo_nil ?_
              refine sxq_anyB (.cons 1 rfl (.cons 1 rfl .nil)) (gk_F 0 rfl gk_nil) ?_
              refine sxb_step 9 rfl (by kernel_rfl) (show _ = #[true, true, true, true, true, true, true, true, true, true, false, false, false, true, false, false] from rfl) ?_
              refine sxo_call ent16 rfl rfl rfl (fun x905 e905 => C_graph_Of F (x1.length : Int) x902 a903 c904 x905 e905) (.consR 0 (Ro eS44 44 2 (.slice a903 x902.length c904) x902) rfl .nil) (fun x905 e905 => ?_)
              rintro ⟨a906, c907⟩
              refine sxo_nil ?_
              refine sxq_anyB (.cons 1 rfl (.cons 1 rfl .nil)) (gk_F 0 rfl gk_nil) ?_
              refine sxb_takeP 10 (.tuple #[.agg #[.slice a906 x905.1.length c907.1], .int .i64 x905.2]) rfl rfl rfl rfl (by kernel_rfl) (by kernel_rfl) (by kernel_rfl) (by kernel_rfl) (by kernel_rfl) rfl (show _ = #[true, true, true, true, true, true, true, true, true, true, true, false, false, true, false, false] from rfl) (yv_pv rfl) ?_
              refine sxb_takeP 11 (.agg #[.slice a906 x905.1.length c907.1]) rfl rfl rfl rfl (by kernel_rfl) (by kernel_rfl) (by kernel_rfl) (by kernel_rfl) (by kernel_rfl) rfl (show _ = #[true, true, true, true, true, true, true, true, true, true, true, true, false, true, false, false] from rfl) (yv_pv rfl) ?_
              refine sxb_takeP 12 (.int .i64 x905.2) rfl rfl rfl rfl (by kernel_rfl) (by kernel_rfl) (by kernel_rfl) (by kernel_rfl) (by kernel_rfl) rfl (show _ = #[true, true, true, true, true, true, true, true, true, true, true, true, true, true, false, false] from rfl) (yv_pv rfl) ?_
              refine sxb_step 14 rfl (by kernel_rfl) (show _ = #[true, true, true, true, true, true, true, true, true, true, true, true, true, true, true, false] from rfl) ?_
              refine sxo_storeB (i := 0) rfl rfl rfl tf24 rfl rfl rfl rfl rfl ?_
              refine sxo_nil ?_
              refine sxq_anyB (.cons 1 rfl (.cons 1 rfl .nil)) (gk_F 0 rfl gk_nil) ?_
              refine sxb_takeP 15 (.int .i64 x905.2) rfl rfl rfl rfl (by kernel_rfl) (by kernel_rfl) (by kernel_rfl) (by kernel_rfl) (by kernel_rfl) rfl (show _ = #[true, true, true, true, true, true, true, true, true, true, true, true, true, true, true, true] from rfl) (yv_pv rfl) ?_
              refine sxb_done (by kernel_rfl) ?_
              refine sxq_np ?_ (by intro c h; cases h)
              exact sxq_meetP ((x905.2, x905.1), (g894, a906, c907)) (lk_cons rfl (lk_cons rfl (lk_cons rfl (lk_cons rfl (lk_cons rfl lk_nil))))) (.cons 1 rfl (.cons 1 rfl (.cons 0 rfl .nil))) (.cons 3 rfl (.cons 0 rfl .nil)) (fk_cons 0 rfl fk_nil)
            · refine sxo_meq (m' := ((app 4398046511104 ([] : List (Int × Int)) x8.1).bind fun x910 => ((app 4398046511104 x910 ([(x4, x5)] : List (Int × Int))).bind fun x913 => ((M_graph_Of F (x1.length : Int) x913).bind fun x916 => M_L_GraphMore_j1 F x1 x4 x5 x8 x916.2 x916.1)))) (rfl) ?_
              refine sxo_slit (vs := [.agg #[.int .i64 x4, .int .i64 x5]]) (ys := ([(x4, x5)] : List (Int × Int))) eS44_ok (by decide) rfl Try.underlying25 tf44 rfl rfl rfl rfl rfl (by decide) (fun a908 c909 => ?_)
              refine sxo_nil ?_
              refine sxq_anyB (.cons 1 rfl (.cons 1 rfl .nil)) (gk_F 0 rfl gk_nil) ?_
              refine sxb_step 5 rfl (by kernel_rfl) (show _ = #[true, true, true, true, true, true, true, true, false, false, false, false, false, true, false, false] from rfl) ?_
              refine sxo_app 1 eS44_ok rfl Try.underlying25 tf44 rfl rfl rfl rfl rfl (.inl ⟨2, _, rfl⟩) rfl rfl (fun x910 e910 a911 c912 => ?_)
              refine sxo_nil ?_
              refine sxq_anyB (.cons 1 rfl (.cons 1 rfl .nil)) (gk_F 0 rfl gk_nil) ?_
              refine sxb_step 8 rfl (by kernel_rfl) (show _ = #[true, true, true, true, true, true, true, true, true, false, false, false, false, true, false, false] from rfl) ?_
              refine sxo_app 0 eS44_ok rfl Try.underlying25 tf44 rfl rfl rfl rfl rfl (.inl ⟨1, _, rfl⟩) rfl rfl (fun x913 e913 a914 c915 => ?_)
              refine sxo_nil ?_
              refine sxq_anyB (.cons 1 rfl (.cons 1 rfl .nil)) (gk_F 0 rfl gk_nil) ?_
              refine sxb_step 9 rfl (by kernel_rfl) (show _ = #[true, true, true, true, true, true, true, true, true, true, false, false, false, true, false, false] from rfl) ?_
              refine sxo_call ent16 rfl rfl rfl (fun x916 e916 => C_graph_Of F (x1.length : Int) x913 a914 c915 x916 e916) (.consR 0 (Ro eS44 44 2 (.slice a914 x913.length c915) x913) rfl .nil) (fun x916 e916 => ?_)
              rintro ⟨a917, c918⟩
              refine sxo_nil ?_
              refine sxq_anyB (.cons 1 rfl (.cons 1 rfl .nil)) (gk_F 0 rfl gk_nil) ?_
              refine sxb_takeP 10 (.tuple #[.agg #[.slice a917 x916.1.length c918.1], .int .i64 x916.2]) rfl rfl rfl rfl (by kernel_rfl) (by kernel_rfl) (by kernel_rfl) (by kernel_rfl) (by kernel_rfl) rfl (show _ = #[true, true, true, true, true, true, true, true, true, true, true, false, false, true, false, false] from rfl) (yv_pv rfl) ?_
              refine sxb_takeP 11 (.agg #[.slice a917 x916.1.length c918.1]) rfl rfl rfl rfl (by kernel_rfl) (by kernel_rfl) (by kernel_rfl) (by kernel_rfl) (by kernel_rfl) rfl (show _ = #[true, true, true, true, true, true, true, true, true, true, true, true, false, true, false, false] from rfl) (yv_pv rfl) ?_
              refine sxb_takeP 12 (.int .i64 x916.2) rfl rfl rfl rfl (by kernel_rfl) (by kernel_rfl) (by kernel_rfl) (by kernel_rfl) (by kernel_rfl) rfl (show _ = #[true, true, true, true, true, true, true, true, true, true, true, true, true, true, false, false] from rfl) (yv_pv rfl) ?_
              refine sxb_step 14 rfl (by kernel_rfl) (show _ = #[true, true, true, true, true, true, true, true, true, true, true, true, true, true, true, false] from rfl) ?_
              refine sxo_storeB (i := 0) rfl rfl rfl tf24 rfl rfl rfl rfl rfl ?_
              refine sxo_nil ?_
              refine sxq_anyB (.cons 1 rfl (.cons 1 rfl .nil)) (gk_F 0 rfl gk_nil) ?_
              refine sxb_takeP 15 (.int .i64 x916.2) rfl rfl rfl rfl (by kernel_rfl) (by kernel_rfl) (by kernel_rfl) (by kernel_rfl) (by kernel_rfl) rfl (show _ = #[true, true, true, true, true, true, true, true, true, true, true, true, true, true, true, true] from rfl) (yv_pv rfl) ?_
              refine sxb_done (by kernel_rfl) ?_
              refine sxq_np ?_ (by intro c h; cases h)
              exact sxq_meetP ((x916.2, x916.1), (g894, a917, c918)) (lk_cons rfl (lk_cons rfl (lk_cons rfl (lk_cons rfl (lk_cons rfl lk_nil))))) (.cons 1 rfl (.cons 1 rfl (.cons 0 rfl .nil))) (.cons 3 rfl (.cons 0 rfl .nil)) (fk_cons 0 rfl fk_nil)
          · refine sxo_meq (m' := ((app 4398046511104 ([] : List (Int × Int)) x8.1).bind fun x923 => ((app 4398046511104 x923 ([(x4, x5)] : List (Int × Int))).bind fun x926 => ((M_graph_Of F (x1.length : Int) x926).bind fun x929 => M_L_GraphMore_j1 F x1 x4 x5 x8 x929.2 x929.1)))) (rfl) ?_
            refine sxo_slit (vs := [.agg #[.int .i64 x4, .int .i64 x5]]) (ys := ([(x4, x5)] : List (Int × Int))) eS44_ok (by decide) rfl Try.underlying25 tf44 rfl rfl rfl rfl rfl (by decide) (fun a919 c920 => ?_)
            refine sxo_nil ?_
            refine sxq_anyB (.cons 1 rfl (.cons 1 rfl .nil)) (gk_F 0 rfl gk_nil) ?_
            refine sxb_step 3 rfl (by kernel_rfl) (show _ = #[true, true, true, true, true, false, true, true, false, false, false, false, false, true, false, false] from rfl) ?_
            refine sxo_slit (vs := []) (ys := ([] : List (Int × Int))) eS44_ok (by decide) rfl Try.underlying25 tf44 rfl rfl rfl rfl rfl (by decide) (fun a921 c922 => ?_)
            refine sxo_nil ?_
            refine sxq_anyB (.cons 1 rfl (.cons 1 rfl .nil)) (gk_F 0 rfl gk_nil) ?_
            refine sxb_step 5 rfl (by kernel_rfl) (show _ = #[true, true, true, true, true, true, true, true, false, false, false, false, false, true, false, false] from rfl) ?_
            refine sxo_app 0 eS44_ok rfl Try.underlying25 tf44 rfl rfl rfl rfl rfl (.inl ⟨2, _, rfl⟩) rfl rfl (fun x923 e923 a924 c925 => ?_)
            refine sxo_nil ?_
            refine sxq_anyB (.cons 1 rfl (.cons 1 rfl .nil)) (gk_F 0 rfl gk_nil) ?_
            refine sxb_step 8 rfl (by kernel_rfl) (show _ = #[true, true, true, true, true, true, true, true, true, false, false, false, false, true, false, false] from rfl) ?_
            refine sxo_app 0 eS44_ok rfl Try.underlying25 tf44 rfl rfl rfl rfl rfl (.inl ⟨1, _, rfl⟩) rfl rfl (fun x926 e926 a927 c928 => ?_)
            refine sxo_nil ?_
            refine sxq_anyB (.cons 1 rfl (.cons 1 rfl .nil)) (gk_F 0 rfl gk_nil) ?_
            refine sxb_step 9 rfl (by kernel_rfl) (show _ = #[true, true, true, true, true, true, true, true, true, true, false, false, false, true, false, false] from rfl) ?_
            refine sxo_call ent16 rfl rfl rfl (fun x929 e929 => C_graph_Of F (x1.length : Int) x926 a927 c928 x929 e929) (.consR 0 (Ro eS44 44 2 (.slice a927 x926.length c928) x926) rfl .nil) (fun x929 e929 => ?_)
            rintro ⟨a930, c931⟩
            refine sxo_nil ?_
            refine sxq_anyB (.cons 1 rfl (.cons 1 rfl .nil)) (gk_F 0 rfl gk_nil) ?_
            refine sxb_takeP 10 (.tuple #[.agg #[.slice a930 x929.1.length c931.1], .int .i64 x929.2]) rfl rfl rfl rfl (by kernel_rfl) (by kernel_rfl) (by kernel_rfl) (by kernel_rfl) (by kernel_rfl) rfl (show _ = #[true, true, true, true, true, true, true, true, true, true, true, false, false, true, false, false] from rfl) (yv_pv rfl) ?_
            refine sxb_takeP 11 (.agg #[.slice a930 x929.1.length c931.1]) rfl rfl rfl rfl (by kernel_rfl) (by kernel_rfl) (by kernel_rfl) (by kernel_rfl) (by kernel_rfl) rfl (show _ = #[true, true, true, true, true, true, true, true, true, true, true, true, false, true, false, false] from rfl) (yv_pv rfl) ?_
            refine sxb_takeP 12 (.int .i64 x929.2) rfl rfl rfl rfl (by kernel_rfl) (by kernel_rfl) (by kernel_rfl) (by kernel_rfl) (by kernel_rfl) rfl (show _ = #[true, true, true, true, true, true, true, true, true, true, true, true, true, true, false, false] from rfl) (yv_pv rfl) ?_
            refine sxb_step 14 rfl (by kernel_rfl) (show _ = #[true, true, true, true, true, true, true, true, true, true, true, true, true, true, true, false] from rfl) ?_
            refine sxo_storeB (i := 0) rfl rfl rfl tf24 rfl rfl rfl rfl rfl ?_
            refine sxo_nil ?_
            refine sxq_anyB (.cons 1 rfl (.cons 1 rfl .nil)) (gk_F 0 rfl gk_nil) ?_
            refine sxb_takeP 15 (.int .i64 x929.2) rfl rfl rfl rfl (by kernel_rfl) (by kernel_rfl) (by kernel_rfl) (by kernel_rfl) (by kernel_rfl) rfl (show _ = #[true, true, true, true, true, true, true, true, true, true, true, true, true, true, true, true] from rfl) (yv_pv rfl) ?_
            refine sxb_done (by kernel_rfl) ?_
            refine sxq_np ?_ (by intro c h; cases h)
            exact sxq_meetP ((x929.2, x929.1), (g894, a930, c931)) (lk_cons rfl (lk_cons rfl (lk_cons rfl (lk_cons rfl (lk_cons rfl lk_nil))))) (.cons 1 rfl (.cons 1 rfl (.cons 0 rfl .nil))) (.cons 3 rfl (.cons 0 rfl .nil)) (fk_cons 0 rfl fk_nil)
      · rintro ⟨⟨x191, x194⟩, ⟨g190, a192, c193⟩⟩
        try dsimp only
        refine sxc_seq ?_
        refine sxc_seq ?_
        refine sxc_region ?_
        refine sxo_move rfl rfl rfl ?_
        refine sxo_neq rfl rfl rfl rfl ?_
        refine sxo_nil ?_
        refine sxq_next ?_
        refine sxc_if rfl (fun h756 => ?_) (fun h756 => ?_)
        · refine sxc_seq ?_
          refine sxc_region ?_
          refine sxo_move rfl rfl rfl ?_
          refine sxo_eql rfl rfl rfl rfl ?_
          refine sxo_move rfl rfl rfl ?_
          refine sxo_case 3 ((x191 : Int) == 3) [(3, .pointer (some ⟨g7, 0, none⟩)), (5, .slice a9 x8.1.length c10), (8, .int .i64 x191), (47, .bool (((x191 : Int) == 3) || ((x191 : Int) == 2)))] (fun h207 => ?_) (fun h207 => ?_) ?_
          · refine sxo_take (os := _) rfl ?_
            refine sxo_isT (k := 44) rfl h207 ?_
            refine sxo_skip rfl rfl rfl ?_
            refine sxo_skip rfl rfl rfl ?_
            refine sxo_pick (b := true) rfl rfl rfl rfl ?_
            refine sxo_again (d := 47) (v := .bool (((x191 : Int) == 3) || ((x191 : Int) == 2))) rfl (by rw [h207]; simp only [Bool.true_or]) ?_
            refine sxo_nil ?_
            exact sxq_case (lk_cons rfl (lk_cons rfl (lk_cons rfl (lk_cons rfl lk_nil))))
          · refine sxo_take (os := _) rfl ?_
            refine sxo_isF (k := 44) rfl h207 ?_
            refine sxo_move rfl rfl rfl ?_
            refine sxo_eql rfl rfl rfl rfl ?_
            refine sxo_pick (b := false) rfl rfl rfl rfl ?_
            refine sxo_again (d := 47) (v := .bool (((x191 : Int) == 3) || ((x191 : Int) == 2))) rfl (by rw [h207]; simp only [Bool.false_or]) ?_
            refine sxo_nil ?_
            exact sxq_case (lk_cons rfl (lk_cons rfl (lk_cons rfl (lk_cons rfl lk_nil))))
          refine sxo_take (os := _) rfl ?_
          refine sxo_move rfl rfl rfl ?_
          refine sxo_join 8 (fun ((x213, _) : (Bool × Unit)) => [(56, .bool x213)]) (fun ((x213, _) : (Bool × Unit)) => []) (fun ((x213, _) : (Bool × Unit)) => []) (fun ((x213, _) : (Bool × Unit)) => []) (fun ((x213, _) : (Bool × Unit)) => M_L_GraphMore_j6 F x213) ?_ ?_
          · refine sxo_take (os := _) rfl ?_
            refine sxo_if (fun h208 => ?_) (fun h208 => ?_)
            · refine sxo_isT (k := 48) rfl h208 ?_
              refine sxo_skip rfl rfl rfl ?_
              refine sxo_skip rfl rfl rfl ?_
              refine sxo_skip rfl rfl rfl ?_
              refine sxo_skip rfl rfl rfl ?_
              refine sxo_skip rfl rfl rfl ?_
              refine sxo_skip rfl rfl rfl ?_
              refine sxo_skip rfl rfl rfl ?_
              refine sxo_pick (b := true) rfl rfl rfl rfl ?_
              refine sxo_nil ?_
              exact sxq_meetP (true, ()) (lk_cons rfl lk_nil) .nil .nil fk_nil
            · refine sxo_isF (k := 48) rfl h208 ?_
              refine sxo_move rfl rfl rfl ?_
              refine sxo_eql rfl rfl rfl rfl ?_
              refine sxo_move rfl rfl rfl ?_
              refine sxo_join 4 (fun ((x216, _) : (Bool × Unit)) => [(48, .bool false), (55, .bool x216)]) (fun ((x216, _) : (Bool × Unit)) => []) (fun ((x216, _) : (Bool × Unit)) => []) (fun ((x216, _) : (Bool × Unit)) => []) (fun ((x216, _) : (Bool × Unit)) => M_L_GraphMore_j7 F x216) ?_ ?_
              · refine sxo_take (os := _) rfl ?_
                refine sxo_if (fun h214 => ?_) (fun h214 => ?_)
                · refine sxo_isT (k := 51) rfl h214 ?_
                  refine sxo_move rfl rfl rfl ?_
                  refine sxo_loadB (i := 0) rfl rfl tf44 rfl rfl (by simp) rfl rfl ?_
                  refine sxo_call ent31 rfl rfl rfl (fun x217 e217 => C_R_HasArc F x8.1 a9 c10 x4 x5 x217 e217) (.consR 0 (Ro eS44 44 2 (.slice a9 x8.1.length c10) x8.1) rfl .nil) (fun x217 e217 => ?_)
                  intro _
                  refine sxo_pick (b := true) rfl rfl rfl rfl ?_
                  refine sxo_nil ?_
                  exact sxq_meetP (x217, ()) (lk_cons rfl (lk_cons rfl lk_nil)) .nil .nil fk_nil
                · refine sxo_isF (k := 51) rfl h214 ?_
                  refine sxo_skip rfl rfl rfl ?_
                  refine sxo_skip rfl rfl rfl ?_
                  refine sxo_skip rfl rfl rfl ?_
                  refine sxo_pick (b := false) rfl rfl rfl rfl ?_
                  refine sxo_nil ?_
                  exact sxq_meetP (false, ()) (lk_cons rfl (lk_cons rfl lk_nil)) .nil .nil fk_nil
              · rintro ⟨x216, _⟩
                try dsimp only
                refine sxo_take (os := _) rfl ?_
                refine sxo_pick (b := false) rfl rfl rfl rfl ?_
                refine sxo_nil ?_
                exact sxq_meetP (x216, ()) (lk_cons rfl lk_nil) .nil .nil fk_nil
          · rintro ⟨x213, _⟩
            try dsimp only
            refine sxo_take (os := _) rfl ?_
            refine sxo_assign rfl rfl rfl ?_
            refine sxo_nil ?_
            refine sxq_next ?_
            refine sxc_ret ?_
            refine sxq_thenR ?_
            exact sxq_doneP () (.inl rfl) (res1 rfl rfl) (fun h => by subst h; rfl) (fun h => by subst h; exact .nil)
        · refine sxc_skip ?_
          refine sxq_next ?_
          refine sxc_seq ?_
          refine sxc_region ?_
          refine sxo_loadB (i := 1) rfl rfl tf24 rfl rfl (by simp) rfl rfl ?_
          refine sxo_callM ent19 rfl rfl rfl (fun x218 e218 => C_graph_Degrees F x1 a2 c3 x218 e218) .nil .nil (.consF 0 rfl .nil) (fun x218 e218 => ?_)
          rintro ⟨⟨a219, c220⟩, ⟨a221, c222⟩⟩
          refine sxo_move rfl rfl rfl ?_
          refine sxo_extract rfl rfl rfl rfl ?_
          refine sxo_extract rfl rfl rfl rfl ?_
          refine sxo_extract rfl rfl rfl rfl ?_
          refine sxo_assign rfl rfl rfl ?_
          refine sxo_assign rfl rfl rfl ?_
          refine sxo_assign rfl rfl rfl ?_
          refine sxo_nil ?_
          refine sxq_next ?_
          refine sxc_seq ?_
          refine sxc_region ?_
          refine sxo_loadB (i := 2) rfl rfl tf24 rfl rfl (by simp) rfl rfl ?_
          refine sxo_callM ent19 rfl rfl rfl (fun x223 e223 => C_graph_Degrees F x194 a192 c193 x223 e223) .nil .nil (.consG 3 rfl (nest_sl rN32_in) .nil) (fun x223 e223 => ?_)
          rintro ⟨⟨a224, c225⟩, ⟨a226, c227⟩⟩
          refine sxo_move rfl rfl rfl ?_
          refine sxo_extract rfl rfl rfl rfl ?_
          refine sxo_extract rfl rfl rfl rfl ?_
          refine sxo_extract rfl rfl rfl rfl ?_
          refine sxo_assign rfl rfl rfl ?_
          refine sxo_assign rfl rfl rfl ?_
          refine sxo_assign rfl rfl rfl ?_
          refine sxo_nil ?_
          refine sxq_next ?_
          refine sxc_seq ?_
          refine sxc_seq ?_
          refine sxc_region ?_
          refine sxo_move rfl rfl rfl ?_
          refine sxo_neq rfl rfl rfl rfl ?_
          refine sxo_move rfl rfl rfl ?_
          refine sxo_case 3 ((x218.2.2 : Int) != 0) [(3, .pointer (some ⟨g7, 0, none⟩)), (9, .slice a219 x218.1.length c220), (10, .slice a221 x218.2.1.length c222), (12, .slice a224 x223.1.length c225), (13, .slice a226 x223.2.1.length c227), (74, .bool (((x218.2.2 : Int) != 0) || ((x223.2.2 : Int) != 0)))] (fun h232 => ?_) (fun h232 => ?_) ?_
          · refine sxo_take (os := _) rfl ?_
            refine sxo_isT (k := 71) rfl h232 ?_
            refine sxo_skip rfl rfl rfl ?_
            refine sxo_skip rfl rfl rfl ?_
            refine sxo_pick (b := true) rfl rfl rfl rfl ?_
            refine sxo_again (d := 74) (v := .bool (((x218.2.2 : Int) != 0) || ((x223.2.2 : Int) != 0))) rfl (by rw [h232]; simp only [Bool.true_or]) ?_
            refine sxo_nil ?_
            exact sxq_case (lk_cons rfl (lk_cons rfl (lk_cons rfl (lk_cons rfl (lk_cons rfl (lk_cons rfl lk_nil))))))
          · refine sxo_take (os := _) rfl ?_
            refine sxo_isF (k := 71) rfl h232 ?_
            refine sxo_move rfl rfl rfl ?_
            refine sxo_neq rfl rfl rfl rfl ?_
            refine sxo_pick (b := false) rfl rfl rfl rfl ?_
            refine sxo_again (d := 74) (v := .bool (((x218.2.2 : Int) != 0) || ((x223.2.2 : Int) != 0))) rfl (by rw [h232]; simp only [Bool.false_or]) ?_
            refine sxo_nil ?_
            exact sxq_case (lk_cons rfl (lk_cons rfl (lk_cons rfl (lk_cons rfl (lk_cons rfl (lk_cons rfl lk_nil))))))
          refine sxo_take (os := _) rfl ?_
          refine sxo_move rfl rfl rfl ?_
          refine sxo_case 6 (((x218.2.2 : Int) != 0) || ((x223.2.2 : Int) != 0)) [(3, .pointer (some ⟨g7, 0, none⟩)), (9, .slice a219 x218.1.length c220), (10, .slice a221 x218.2.1.length c222), (12, .slice a224 x223.1.length c225), (13, .slice a226 x223.2.1.length c227), (81, .bool ((((x218.2.2 : Int) != 0) || ((x223.2.2 : Int) != 0)) || (((x223.1.length : Int) : Int) != (x218.1.length : Int))))] (fun h233 => ?_) (fun h233 => ?_) ?_
          · refine sxo_take (os := _) rfl ?_
            refine sxo_isT (k := 75) rfl h233 ?_
            refine sxo_skip rfl rfl rfl ?_
            refine sxo_skip rfl rfl rfl ?_
            refine sxo_skip rfl rfl rfl ?_
            refine sxo_skip rfl rfl rfl ?_
            refine sxo_skip rfl rfl rfl ?_
            refine sxo_pick (b := true) rfl rfl rfl rfl ?_
            refine sxo_again (d := 81) (v := .bool ((((x218.2.2 : Int) != 0) || ((x223.2.2 : Int) != 0)) || (((x223.1.length : Int) : Int) != (x218.1.length : Int)))) rfl (by rw [h233]; simp only [Bool.true_or]) ?_
            refine sxo_nil ?_
            exact sxq_case (lk_cons rfl (lk_cons rfl (lk_cons rfl (lk_cons rfl (lk_cons rfl (lk_cons rfl lk_nil))))))
          · refine sxo_take (os := _) rfl ?_
            refine sxo_isF (k := 75) rfl h233 ?_
            refine sxo_move rfl rfl rfl ?_
            refine sxo_len rfl Try.underlying32 rfl rfl ?_
            refine sxo_move rfl rfl rfl ?_
            refine sxo_len rfl Try.underlying32 rfl rfl ?_
            refine sxo_neq rfl rfl rfl rfl ?_
            refine sxo_pick (b := false) rfl rfl rfl rfl ?_
            refine sxo_again (d := 81) (v := .bool ((((x218.2.2 : Int) != 0) || ((x223.2.2 : Int) != 0)) || (((x223.1.length : Int) : Int) != (x218.1.length : Int)))) rfl (by rw [h233]; simp only [Bool.false_or]) ?_
            refine sxo_nil ?_
            exact sxq_case (lk_cons rfl (lk_cons rfl (lk_cons rfl (lk_cons rfl (lk_cons rfl (lk_cons rfl lk_nil))))))
          refine sxo_take (os := _) rfl ?_
          refine sxo_move rfl rfl rfl ?_
          refine sxo_case 6 ((((x218.2.2 : Int) != 0) || ((x223.2.2 : Int) != 0)) || (((x223.1.length : Int) : Int) != (x218.1.length : Int))) [(3, .pointer (some ⟨g7, 0, none⟩)), (9, .slice a219 x218.1.length c220), (10, .slice a221 x218.2.1.length c222), (12, .slice a224 x223.1.length c225), (13, .slice a226 x223.2.1.length c227), (88, .bool (((((x218.2.2 : Int) != 0) || ((x223.2.2 : Int) != 0)) || (((x223.1.length : Int) : Int) != (x218.1.length : Int))) || (((x223.2.1.length : Int) : Int) != (x218.2.1.length : Int))))] (fun h234 => ?_) (fun h234 => ?_) ?_
          · refine sxo_take (os := _) rfl ?_
            refine sxo_isT (k := 82) rfl h234 ?_
            refine sxo_skip rfl rfl rfl ?_
            refine sxo_skip rfl rfl rfl ?_
            refine sxo_skip rfl rfl rfl ?_
            refine sxo_skip rfl rfl rfl ?_
            refine sxo_skip rfl rfl rfl ?_
            refine sxo_pick (b := true) rfl rfl rfl rfl ?_
            refine sxo_again (d := 88) (v := .bool (((((x218.2.2 : Int) != 0) || ((x223.2.2 : Int) != 0)) || (((x223.1.length : Int) : Int) != (x218.1.length : Int))) || (((x223.2.1.length : Int) : Int) != (x218.2.1.length : Int)))) rfl (by rw [h234]; simp only [Bool.true_or]) ?_
            refine sxo_nil ?_
            exact sxq_case (lk_cons rfl (lk_cons rfl (lk_cons rfl (lk_cons rfl (lk_cons rfl (lk_cons rfl lk_nil))))))
          · refine sxo_take (os := _) rfl ?_
            refine sxo_isF (k := 82) rfl h234 ?_
            refine sxo_move rfl rfl rfl ?_
            refine sxo_len rfl Try.underlying32 rfl rfl ?_
            refine sxo_move rfl rfl rfl ?_
            refine sxo_len rfl Try.underlying32 rfl rfl ?_
            refine sxo_neq rfl rfl rfl rfl ?_
            refine sxo_pick (b := false) rfl rfl rfl rfl ?_
            refine sxo_again (d := 88) (v := .bool (((((x218.2.2 : Int) != 0) || ((x223.2.2 : Int) != 0)) || (((x223.1.length : Int) : Int) != (x218.1.length : Int))) || (((x223.2.1.length : Int) : Int) != (x218.2.1.length : Int)))) rfl (by rw [h234]; simp only [Bool.false_or]) ?_
            refine sxo_nil ?_
            exact sxq_case (lk_cons rfl (lk_cons rfl (lk_cons rfl (lk_cons rfl (lk_cons rfl (lk_cons rfl lk_nil))))))
          refine sxo_take (os := _) rfl ?_
          refine sxo_nil ?_
          refine sxq_next ?_
          refine sxc_if rfl (fun h755 => ?_) (fun h755 => ?_)
          · refine sxc_seq ?_
            refine sxc_region ?_
            refine sxo_assign rfl rfl rfl ?_
            refine sxo_nil ?_
            refine sxq_next ?_
            refine sxc_ret ?_
            refine sxq_thenR ?_
            exact sxq_doneP () (.inl rfl) (res1 rfl rfl) (fun h => by subst h; rfl) (fun h => by subst h; exact .nil)
          · refine sxc_skip ?_
            refine sxq_next ?_
            refine sxc_join (fun ((_, _) : (Unit × Unit)) => []) (fun ((_, _) : (Unit × Unit)) => []) (fun ((_, _) : (Unit × Unit)) => []) (fun ((_, _) : (Unit × Unit)) => []) (fun ((_, _) : (Unit × Unit)) => M_L_GraphMore_j27 F) ?_ ?_
            · refine sxc_seq ?_
              refine sxc_region ?_
              refine sxo_assign rfl rfl rfl ?_
              refine sxo_nil ?_
              refine sxq_next ?_
              refine sxc_block ?_
              refine sxc_loopP (fun ((x581, _) : (Int × Unit)) => [(3, .pointer (some ⟨g7, 0, none⟩)), (9, .slice a219 x218.1.length c220), (10, .slice a221 x218.2.1.length c222), (12, .slice a224 x223.1.length c225), (13, .slice a226 x223.2.1.length c227), (15, .int .i64 x581)]) (fun ((x581, _) : (Int × Unit)) => [⟨g7, 44, [.int .i64 x4, .int .i64 x5]⟩]) (fun ((x581, _) : (Int × Unit)) => [Ro (eI .i64) 3 1 (.slice a219 x218.1.length c220) x218.1, Ro (eI .i64) 3 1 (.slice a221 x218.2.1.length c222) x218.2.1, Ro (eI .i64) 3 1 (.slice a224 x223.1.length c225) x223.1, Ro (eI .i64) 3 1 (.slice a226 x223.2.1.length c227) x223.2.1]) (fun ((x581, _) : (Int × Unit)) => []) (fun k (s : (Int × Unit)) => M_L_GraphMore_l40 F x4 x5 x218 x223 k s.1) (0, ()) F (lk_cons rfl (lk_cons rfl (lk_cons rfl (lk_cons rfl (lk_cons rfl (lk_cons rfl lk_nil)))))) (.cons 0 rfl .nil) (.cons 2 rfl (.cons 2 rfl (.cons 0 rfl (.cons 0 rfl .nil)))) fk_nil (fun _ => rfl) ?_
              intro k668
              rintro ⟨x581, _⟩
              try dsimp only
              refine sxc_meq (m' := M_L_GraphMore_b40 F x4 x5 x218 x223 (M_L_GraphMore_l40 F x4 x5 x218 x223 k668) x581) rfl ?_
              refine sxc_seq ?_
              refine sxc_seq ?_
              refine sxc_region ?_
              refine sxo_move rfl rfl rfl ?_
              refine sxo_move rfl rfl rfl ?_
              refine sxo_len rfl Try.underlying32 rfl rfl ?_
              refine sxo_lss rfl rfl rfl rfl ?_
              refine sxo_nil ?_
              refine sxq_next ?_
              refine sxc_if rfl (fun h754 => ?_) (fun h754 => ?_)
              · refine sxc_skip ?_
                refine sxq_next ?_
                refine sxc_seq ?_
                refine sxc_block ?_
                refine sxc_seq ?_
                refine sxc_region ?_
                refine sxo_assign rfl rfl rfl ?_
                refine sxo_assign rfl rfl rfl ?_
                refine sxo_nil ?_
                refine sxq_next ?_
                refine sxc_join (fun ((x713, _) : (Int × Unit)) => [(3, .pointer (some ⟨g7, 0, none⟩)), (9, .slice a219 x218.1.length c220), (10, .slice a221 x218.2.1.length c222), (12, .slice a224 x223.1.length c225), (13, .slice a226 x223.2.1.length c227), (15, .int .i64 x581), (16, .int .i64 x713), (17, .int .i64 0)]) (fun ((x713, _) : (Int × Unit)) => [⟨g7, 44, [.int .i64 x4, .int .i64 x5]⟩]) (fun ((x713, _) : (Int × Unit)) => [Ro (eI .i64) 3 1 (.slice a219 x218.1.length c220) x218.1, Ro (eI .i64) 3 1 (.slice a221 x218.2.1.length c222) x218.2.1, Ro (eI .i64) 3 1 (.slice a224 x223.1.length c225) x223.1, Ro (eI .i64) 3 1 (.slice a226 x223.2.1.length c227) x223.2.1]) (fun ((x713, _) : (Int × Unit)) => []) (fun ((x713, _) : (Int × Unit)) => M_L_GraphMore_j44 F (M_L_GraphMore_l40 F x4 x5 x218 x223 k668) x5 x218 x223 x581 x713) ?_ ?_
                · refine sxc_seq ?_
                  refine sxc_region ?_
                  refine sxo_move rfl rfl rfl ?_
                  refine sxo_fieldAddr rfl rfl ff44_0 rfl ?_
                  refine sxo_loadB (i := 0) rfl rfl tf3 rfl rfl (fun _ => rfl) rfl rfl ?_
                  refine sxo_eql rfl rfl rfl rfl ?_
                  refine sxo_nil ?_
                  refine sxq_next ?_
                  refine sxc_if rfl (fun h753 => ?_) (fun h753 => ?_)
                  · refine sxc_region ?_
                    refine sxo_assign rfl rfl rfl ?_
                    refine sxo_nil ?_
                    exact sxq_meetP (1, ()) (lk_cons rfl (lk_cons rfl (lk_cons rfl (lk_cons rfl (lk_cons rfl (lk_cons rfl (lk_cons rfl (lk_cons rfl lk_nil)))))))) (.cons 0 rfl .nil) (.cons 0 rfl (.cons 0 rfl (.cons 0 rfl (.cons 0 rfl .nil)))) fk_nil
                  · refine sxc_skip ?_
                    exact sxq_meetP (0, ()) (lk_cons rfl (lk_cons rfl (lk_cons rfl (lk_cons rfl (lk_cons rfl (lk_cons rfl (lk_cons rfl (lk_cons rfl lk_nil)))))))) (.cons 0 rfl .nil) (.cons 0 rfl (.cons 0 rfl (.cons 0 rfl (.cons 0 rfl .nil)))) fk_nil
                · rintro ⟨x713, _⟩
                  try dsimp only
                  refine sxc_join (fun ((x715, _) : (Int × Unit)) => [(3, .pointer (some ⟨g7, 0, none⟩)), (9, .slice a219 x218.1.length c220), (10, .slice a221 x218.2.1.length c222), (12, .slice a224 x223.1.length c225), (13, .slice a226 x223.2.1.length c227), (15, .int .i64 x581), (16, .int .i64 x713), (17, .int .i64 x715)]) (fun ((x715, _) : (Int × Unit)) => [⟨g7, 44, [.int .i64 x4, .int .i64 x5]⟩]) (fun ((x715, _) : (Int × Unit)) => [Ro (eI .i64) 3 1 (.slice a219 x218.1.length c220) x218.1, Ro (eI .i64) 3 1 (.slice a221 x218.2.1.length c222) x218.2.1, Ro (eI .i64) 3 1 (.slice a224 x223.1.length c225) x223.1, Ro (eI .i64) 3 1 (.slice a226 x223.2.1.length c227) x223.2.1]) (fun ((x715, _) : (Int × Unit)) => []) (fun ((x715, _) : (Int × Unit)) => M_L_GraphMore_j45 F (M_L_GraphMore_l40 F x4 x5 x218 x223 k668) x218 x223 x581 x713 x715) ?_ ?_
                  · refine sxc_seq ?_
                    refine sxc_region ?_
                    refine sxo_move rfl rfl rfl ?_
                    refine sxo_fieldAddr rfl rfl ff44_1 rfl ?_
                    refine sxo_loadB (i := 0) rfl rfl tf3 rfl rfl (fun _ => rfl) rfl rfl ?_
                    refine sxo_eql rfl rfl rfl rfl ?_
                    refine sxo_nil ?_
                    refine sxq_next ?_
                    refine sxc_if rfl (fun h752 => ?_) (fun h752 => ?_)
                    · refine sxc_region ?_
                      refine sxo_assign rfl rfl rfl ?_
                      refine sxo_nil ?_
                      exact sxq_meetP (1, ()) (lk_cons rfl (lk_cons rfl (lk_cons rfl (lk_cons rfl (lk_cons rfl (lk_cons rfl (lk_cons rfl (lk_cons rfl lk_nil)))))))) (.cons 0 rfl .nil) (.cons 0 rfl (.cons 0 rfl (.cons 0 rfl (.cons 0 rfl .nil)))) fk_nil
                    · refine sxc_skip ?_
                      exact sxq_meetP (0, ()) (lk_cons rfl (lk_cons rfl (lk_cons rfl (lk_cons rfl (lk_cons rfl (lk_cons rfl (lk_cons rfl (lk_cons rfl lk_nil)))))))) (.cons 0 rfl .nil) (.cons 0 rfl (.cons 0 rfl (.cons 0 rfl (.cons 0 rfl .nil)))) fk_nil
                  · rintro ⟨x715, _⟩
                    try dsimp only
                    refine sxc_join (fun ((x733, _) : (Bool × Unit)) => [(3, .pointer (some ⟨g7, 0, none⟩)), (9, .slice a219 x218.1.length c220), (10, .slice a221 x218.2.1.length c222), (12, .slice a224 x223.1.length c225), (13, .slice a226 x223.2.1.length c227), (15, .int .i64 x581), (126, .bool x733)]) (fun ((x733, _) : (Bool × Unit)) => [⟨g7, 44, [.int .i64 x4, .int .i64 x5]⟩]) (fun ((x733, _) : (Bool × Unit)) => [Ro (eI .i64) 3 1 (.slice a219 x218.1.length c220) x218.1, Ro (eI .i64) 3 1 (.slice a221 x218.2.1.length c222) x218.2.1, Ro (eI .i64) 3 1 (.slice a224 x223.1.length c225) x223.1, Ro (eI .i64) 3 1 (.slice a226 x223.2.1.length c227) x223.2.1]) (fun ((x733, _) : (Bool × Unit)) => []) (fun ((x733, _) : (Bool × Unit)) => M_L_GraphMore_j46 F (M_L_GraphMore_l40 F x4 x5 x218 x223 k668) x581 x733) ?_ ?_
                    · refine sxc_idxO (j := 2) rfl (fun x735 e735 g736 h737 => ?_)
                      replace h737 : a224 = some ⟨g736, 0, none⟩ := h737
                      have h738 := own_of (k := x223.1.length) (c := c225) h737
                      refine sxc_idxO (j := 0) rfl (fun x739 e739 g740 h741 => ?_)
                      replace h741 : a219 = some ⟨g740, 0, none⟩ := h741
                      have h742 := own_of (k := x218.1.length) (c := c220) h741
                      refine sxc_idxO (j := 3) rfl (fun x743 e743 g744 h745 => ?_)
                      replace h745 : a226 = some ⟨g744, 0, none⟩ := h745
                      have h746 := own_of (k := x223.2.1.length) (c := c227) h745
                      refine sxc_idxO (j := 1) rfl (fun x747 e747 g748 h749 => ?_)
                      replace h749 : a221 = some ⟨g748, 0, none⟩ := h749
                      have h750 := own_of (k := x218.2.1.length) (c := c222) h749
                      refine sxb_draw mixed [] [⟨g7, 44, [.int .i64 x4, .int .i64 x5]⟩] [CellsAt g736 (x581.toNat * 1) ((eI .i64) x735), CellsAt g740 (x581.toNat * 1) ((eI .i64) x739), CellsAt g744 (x581.toNat * 1) ((eI .i64) x743), CellsAt g748 (x581.toNat * 1) ((eI .i64) x747)] (.cons 0 rfl .nil) (gk_R 2 rfl (at_row (eI_ok .i64) e735 h737) (gk_R 0 rfl (at_row (eI_ok .i64) e739 h741) (gk_R 3 rfl (at_row (eI_ok .i64) e743 h745) (gk_R 1 rfl (at_row (eI_ok .i64) e747 h749) gk_nil)))) 24 rfl ?_
                      refine sxb_takeP 0 (.slice a224 x223.1.length c225) rfl rfl rfl rfl (by kernel_rfl) (by kernel_rfl) (by kernel_rfl) (by kernel_rfl) (by kernel_rfl) rfl (show _ = #[true, false, false, false, false, false, false, false, false, false, false, false, false, false, false, false, false, false, false, false, false, false, false, false] from rfl) (yv_pv rfl) ?_
                      refine sxb_takeP 1 (.int .i64 x581) rfl rfl rfl rfl (by kernel_rfl) (by kernel_rfl) (by kernel_rfl) (by kernel_rfl) (by kernel_rfl) rfl (show _ = #[true, true, false, false, false, false, false, false, false, false, false, false, false, false, false, false, false, false, false, false, false, false, false, false] from rfl) (yv_pv rfl) ?_
                      refine sxb_again (d := 103) (v := .slice (some ⟨g736, 0, none⟩) x223.1.length c225) rfl (by rw [h737]) ?_
                      refine sxb_takeP 2 (.pointer (some ⟨g736, x581.toNat * 1, none⟩)) rfl rfl rfl rfl (by kernel_rfl) (by kernel_rfl) (by kernel_rfl) (by kernel_rfl) (by kernel_rfl) rfl (show _ = #[true, true, true, false, false, false, false, false, false, false, false, false, false, false, false, false, false, false, false, false, false, false, false, false] from rfl) (yv_idxO Try.underlying32 tf3 rfl rfl (idx_get e735).1 (idx_lt e735)) ?_
                      refine sxb_again (d := 103) (v := .slice a224 x223.1.length c225) rfl (by rw [h737]) ?_
                      refine sxb_take 3 (.int .i64 x735) [] rfl rfl rfl rfl (by kernel_rfl) (by kernel_rfl) (by kernel_rfl) (by kernel_rfl) (by kernel_rfl) (by kernel_rfl) rfl (show _ = #[true, true, true, true, false, false, false, false, false, false, false, false, false, false, false, false, false, false, false, false, false, false, false, false] from rfl) (yv_loadF (j := 0) rfl tf3 rfl rfl (fun _ => rfl) rfl) ?_
                      refine sxb_takeP 4 (.slice a219 x218.1.length c220) rfl rfl rfl rfl (by kernel_rfl) (by kernel_rfl) (by kernel_rfl) (by kernel_rfl) (by kernel_rfl) rfl (show _ = #[true, true, true, true, true, false, false, false, false, false, false, false, false, false, false, false, false, false, false, false, false, false, false, false] from rfl) (yv_pv rfl) ?_
                      refine sxb_takeP 5 (.int .i64 x581) rfl rfl rfl rfl (by kernel_rfl) (by kernel_rfl) (by kernel_rfl) (by kernel_rfl) (by kernel_rfl) rfl (show _ = #[true, true, true, true, true, true, false, false, false, false, false, false, false, false, false, false, false, false, false, false, false, false, false, false] from rfl) (yv_pv rfl) ?_
                      refine sxb_again (d := 107) (v := .slice (some ⟨g740, 0, none⟩) x218.1.length c220) rfl (by rw [h741]) ?_
                      refine sxb_takeP 6 (.pointer (some ⟨g740, x581.toNat * 1, none⟩)) rfl rfl rfl rfl (by kernel_rfl) (by kernel_rfl) (by kernel_rfl) (by kernel_rfl) (by kernel_rfl) rfl (show _ = #[true, true, true, true, true, true, true, false, false, false, false, false, false, false, false, false, false, false, false, false, false, false, false, false] from rfl) (yv_idxO Try.underlying32 tf3 rfl rfl (idx_get e739).1 (idx_lt e739)) ?_
                      refine sxb_again (d := 107) (v := .slice a219 x218.1.length c220) rfl (by rw [h741]) ?_
                      refine sxb_take 7 (.int .i64 x739) [] rfl rfl rfl rfl (by kernel_rfl) (by kernel_rfl) (by kernel_rfl) (by kernel_rfl) (by kernel_rfl) (by kernel_rfl) rfl (show _ = #[true, true, true, true, true, true, true, true, false, false, false, false, false, false, false, false, false, false, false, false, false, false, false, false] from rfl) (yv_loadF (j := 1) rfl tf3 rfl rfl (fun _ => rfl) rfl) ?_
                      refine sxb_takeP 8 (.int .i64 x713) rfl rfl rfl rfl (by kernel_rfl) (by kernel_rfl) (by kernel_rfl) (by kernel_rfl) (by kernel_rfl) rfl (show _ = #[true, true, true, true, true, true, true, true, true, false, false, false, false, false, false, false, false, false, false, false, false, false, false, false] from rfl) (yv_pv rfl) ?_
                      refine sxb_takeP 9 (.int .i64 (iadd .i64 x739 x713)) rfl rfl rfl rfl (by kernel_rfl) (by kernel_rfl) (by kernel_rfl) (by kernel_rfl) (by kernel_rfl) rfl (show _ = #[true, true, true, true, true, true, true, true, true, true, false, false, false, false, false, false, false, false, false, false, false, false, false, false] from rfl) (yv_pv rfl) ?_
                      refine sxb_takeP 10 (.bool ((x735 : Int) != (iadd .i64 x739 x713))) rfl rfl rfl rfl (by kernel_rfl) (by kernel_rfl) (by kernel_rfl) (by kernel_rfl) (by kernel_rfl) rfl (show _ = #[true, true, true, true, true, true, true, true, true, true, true, false, false, false, false, false, false, false, false, false, false, false, false, false] from rfl) (yv_pv rfl) ?_
                      refine sxb_takeP 11 (.bool ((x735 : Int) != (iadd .i64 x739 x713))) rfl rfl rfl rfl (by kernel_rfl) (by kernel_rfl) (by kernel_rfl) (by kernel_rfl) (by kernel_rfl) rfl (show _ = #[true, true, true, true, true, true, true, true, true, true, true, true, false, false, false, false, false, false, false, false, false, false, false, false] from rfl) (yv_pv rfl) ?_
                      refine sxb_if (fun h751 => ?_) (fun h751 => ?_)
                      · refine sxb_again (d := 114) (v := .bool true) rfl (by rw [h751]) ?_
                        refine sxb_skip 12 rfl rfl rfl rfl (by kernel_rfl) (by kernel_rfl) (by kernel_rfl) (by kernel_rfl) (by kernel_rfl) rfl (show _ = #[true, true, true, true, true, true, true, true, true, true, true, true, true, false, false, false, false, false, false, false, false, false, false, false] from rfl) ?_
                        refine sxb_skip 13 rfl rfl rfl rfl (by kernel_rfl) (by kernel_rfl) (by kernel_rfl) (by kernel_rfl) (by kernel_rfl) rfl (show _ = #[true, true, true, true, true, true, true, true, true, true, true, true, true, true, false, false, false, false, false, false, false, false, false, false] from rfl) ?_
                        refine sxb_skip 14 rfl rfl rfl rfl (by kernel_rfl) (by kernel_rfl) (by kernel_rfl) (by kernel_rfl) (by kernel_rfl) rfl (show _ = #[true, true, true, true, true, true, true, true, true, true, true, true, true, true, true, false, false, false, false, false, false, false, false, false] from rfl) ?_
                        refine sxb_skip 15 rfl rfl rfl rfl (by kernel_rfl) (by kernel_rfl) (by kernel_rfl) (by kernel_rfl) (by kernel_rfl) rfl (show _ = #[true, true, true, true, true, true, true, true, true, true, true, true, true, true, true, true, false, false, false, false, false, false, false, false] from rfl) ?_
                        refine sxb_skip 16 rfl rfl rfl rfl (by kernel_rfl) (by kernel_rfl) (by kernel_rfl) (by kernel_rfl) (by kernel_rfl) rfl (show _ = #[true, true, true, true, true, true, true, true, true, true, true, true, true, true, true, true, true, false, false, false, false, false, false, false] from rfl) ?_
                        refine sxb_skip 17 rfl rfl rfl rfl (by kernel_rfl) (by kernel_rfl) (by kernel_rfl) (by kernel_rfl) (by kernel_rfl) rfl (show _ = #[true, true, true, true, true, true, true, true, true, true, true, true, true, true, true, true, true, true, false, false, false, false, false, false] from rfl) ?_
                        refine sxb_skip 18 rfl rfl rfl rfl (by kernel_rfl) (by kernel_rfl) (by kernel_rfl) (by kernel_rfl) (by kernel_rfl) rfl (show _ = #[true, true, true, true, true, true, true, true, true, true, true, true, true, true, true, true, true, true, true, false, false, false, false, false] from rfl) ?_
                        refine sxb_skip 19 rfl rfl rfl rfl (by kernel_rfl) (by kernel_rfl) (by kernel_rfl) (by kernel_rfl) (by kernel_rfl) rfl (show _ = #[true, true, true, true, true, true, true, true, true, true, true, true, true, true, true, true, true, true, true, true, false, false, false, false] from rfl) ?_
                        refine sxb_skip 20 rfl rfl rfl rfl (by kernel_rfl) (by kernel_rfl) (by kernel_rfl) (by kernel_rfl) (by kernel_rfl) rfl (show _ = #[true, true, true, true, true, true, true, true, true, true, true, true, true, true, true, true, true, true, true, true, true, false, false, false] from rfl) ?_
                        refine sxb_skip 21 rfl rfl rfl rfl (by kernel_rfl) (by kernel_rfl) (by kernel_rfl) (by kernel_rfl) (by kernel_rfl) rfl (show _ = #[true, true, true, true, true, true, true, true, true, true, true, true, true, true, true, true, true, true, true, true, true, true, false, false] from rfl) ?_
                        refine sxb_skip 22 rfl rfl rfl rfl (by kernel_rfl) (by kernel_rfl) (by kernel_rfl) (by kernel_rfl) (by kernel_rfl) rfl (show _ = #[true, true, true, true, true, true, true, true, true, true, true, true, true, true, true, true, true, true, true, true, true, true, true, false] from rfl) ?_
                        refine sxb_takeP 23 (.bool true) rfl rfl rfl rfl (by kernel_rfl) (by kernel_rfl) (by kernel_rfl) (by kernel_rfl) (by kernel_rfl) rfl (show _ = #[true, true, true, true, true, true, true, true, true, true, true, true, true, true, true, true, true, true, true, true, true, true, true, true] from rfl) (yv_pv rfl) ?_
                        refine sxb_done (by kernel_rfl) ?_
                        refine sxq_np ?_ (by intro c h; cases h)
                        exact sxq_meetP (true, ()) (lk_cons rfl (lk_cons rfl (lk_cons rfl (lk_cons rfl (lk_cons rfl (lk_cons rfl (lk_cons rfl lk_nil))))))) (.cons 0 rfl .nil) (.cons 0 rfl (.cons 0 rfl (.cons 0 rfl (.cons 0 rfl .nil)))) fk_nil
                      · refine sxb_again (d := 114) (v := .bool false) rfl (by rw [h751]) ?_
                        refine sxb_takeP 12 (.slice a226 x223.2.1.length c227) rfl rfl rfl rfl (by kernel_rfl) (by kernel_rfl) (by kernel_rfl) (by kernel_rfl) (by kernel_rfl) rfl (show _ = #[true, true, true, true, true, true, true, true, true, true, true, true, true, false, false, false, false, false, false, false, false, false, false, false] from rfl) (yv_pv rfl) ?_
                        refine sxb_takeP 13 (.int .i64 x581) rfl rfl rfl rfl (by kernel_rfl) (by kernel_rfl) (by kernel_rfl) (by kernel_rfl) (by kernel_rfl) rfl (show _ = #[true, true, true, true, true, true, true, true, true, true, true, true, true, true, false, false, false, false, false, false, false, false, false, false] from rfl) (yv_pv rfl) ?_
                        refine sxb_again (d := 115) (v := .slice (some ⟨g744, 0, none⟩) x223.2.1.length c227) rfl (by rw [h745]) ?_
                        refine sxb_takeP 14 (.pointer (some ⟨g744, x581.toNat * 1, none⟩)) rfl rfl rfl rfl (by kernel_rfl) (by kernel_rfl) (by kernel_rfl) (by kernel_rfl) (by kernel_rfl) rfl (show _ = #[true, true, true, true, true, true, true, true, true, true, true, true, true, true, true, false, false, false, false, false, false, false, false, false] from rfl) (yv_idxO Try.underlying32 tf3 rfl rfl (idx_get e743).1 (idx_lt e743)) ?_
                        refine sxb_again (d := 115) (v := .slice a226 x223.2.1.length c227) rfl (by rw [h745]) ?_
                        refine sxb_take 15 (.int .i64 x743) [] rfl rfl rfl rfl (by kernel_rfl) (by kernel_rfl) (by kernel_rfl) (by kernel_rfl) (by kernel_rfl) (by kernel_rfl) rfl (show _ = #[true, true, true, true, true, true, true, true, true, true, true, true, true, true, true, true, false, false, false, false, false, false, false, false] from rfl) (yv_loadF (j := 2) rfl tf3 rfl rfl (fun _ => rfl) rfl) ?_
                        refine sxb_takeP 16 (.slice a221 x218.2.1.length c222) rfl rfl rfl rfl (by kernel_rfl) (by kernel_rfl) (by kernel_rfl) (by kernel_rfl) (by kernel_rfl) rfl (show _ = #[true, true, true, true, true, true, true, true, true, true, true, true, true, true, true, true, true, false, false, false, false, false, false, false] from rfl) (yv_pv rfl) ?_
                        refine sxb_takeP 17 (.int .i64 x581) rfl rfl rfl rfl (by kernel_rfl) (by kernel_rfl) (by kernel_rfl) (by kernel_rfl) (by kernel_rfl) rfl (show _ = #[true, true, true, true, true, true, true, true, true, true, true, true, true, true, true, true, true, true, false, false, false, false, false, false] from rfl) (yv_pv rfl) ?_
                        refine sxb_again (d := 119) (v := .slice (some ⟨g748, 0, none⟩) x218.2.1.length c222) rfl (by rw [h749]) ?_
                        refine sxb_takeP 18 (.pointer (some ⟨g748, x581.toNat * 1, none⟩)) rfl rfl rfl rfl (by kernel_rfl) (by kernel_rfl) (by kernel_rfl) (by kernel_rfl) (by kernel_rfl) rfl (show _ = #[true, true, true, true, true, true, true, true, true, true, true, true, true, true, true, true, true, true, true, false, false, false, false, false] from rfl) (yv_idxO Try.underlying32 tf3 rfl rfl (idx_get e747).1 (idx_lt e747)) ?_
                        refine sxb_again (d := 119) (v := .slice a221 x218.2.1.length c222) rfl (by rw [h749]) ?_
                        refine sxb_take 19 (.int .i64 x747) [] rfl rfl rfl rfl (by kernel_rfl) (by kernel_rfl) (by kernel_rfl) (by kernel_rfl) (by kernel_rfl) (by kernel_rfl) rfl (show _ = #[true, true, true, true, true, true, true, true, true, true, true, true, true, true, true, true, true, true, true, true, false, false, false, false] from rfl) (yv_loadF (j := 3) rfl tf3 rfl rfl (fun _ => rfl) rfl) ?_
                        refine sxb_takeP 20 (.int .i64 x715) rfl rfl rfl rfl (by kernel_rfl) (by kernel_rfl) (by kernel_rfl) (by kernel_rfl) (by kernel_rfl) rfl (show _ = #[true, true, true, true, true, true, true, true, true, true, true, true, true, true, true, true, true, true, true, true, true, false, false, false] from rfl) (yv_pv rfl) ?_
                        refine sxb_takeP 21 (.int .i64 (iadd .i64 x747 x715)) rfl rfl rfl rfl (by kernel_rfl) (by kernel_rfl) (by kernel_rfl) (by kernel_rfl) (by kernel_rfl) rfl (show _ = #[true, true, true, true, true, true, true, true, true, true, true, true, true, true, true, true, true, true, true, true, true, true, false, false] from rfl) (yv_pv rfl) ?_
                        refine sxb_takeP 22 (.bool ((x743 : Int) != (iadd .i64 x747 x715))) rfl rfl rfl rfl (by kernel_rfl) (by kernel_rfl) (by kernel_rfl) (by kernel_rfl) (by kernel_rfl) rfl (show _ = #[true, true, true, true, true, true, true, true, true, true, true, true, true, true, true, true, true, true, true, true, true, true, true, false] from rfl) (yv_pv rfl) ?_
                        refine sxb_takeP 23 (.bool ((x743 : Int) != (iadd .i64 x747 x715))) rfl rfl rfl rfl (by kernel_rfl) (by kernel_rfl) (by kernel_rfl) (by kernel_rfl) (by kernel_rfl) rfl (show _ = #[true, true, true, true, true, true, true, true, true, true, true, true, true, true, true, true, true, true, true, true, true, true, true, true] from rfl) (yv_pv rfl) ?_
                        refine sxb_done (by kernel_rfl) ?_
                        refine sxq_np ?_ (by intro c h; cases h)
                        exact sxq_meetP (((x743 : Int) != (iadd .i64 x747 x715)), ()) (lk_cons rfl (lk_cons rfl (lk_cons rfl (lk_cons rfl (lk_cons rfl (lk_cons rfl (lk_cons rfl lk_nil))))))) (.cons 0 rfl .nil) (.cons 0 rfl (.cons 0 rfl (.cons 0 rfl (.cons 0 rfl .nil)))) fk_nil
                    · rintro ⟨x733, _⟩
                      try dsimp only
                      refine sxc_if rfl (fun h734 => ?_) (fun h734 => ?_)
                      · refine sxc_seq ?_
                        refine sxc_region ?_
                        refine sxo_assign rfl rfl rfl ?_
                        refine sxo_nil ?_
                        refine sxq_next ?_
                        refine sxc_ret ?_
                        refine sxq_blkR ?_
                        refine sxq_thenR ?_
                        refine sxq_thenR ?_
                        refine sxq_blkR ?_
                        refine sxq_thenR ?_
                        exact sxq_doneP () (.inl rfl) (res1 rfl rfl) (fun h => by subst h; rfl) (fun h => by subst h; exact .nil)
                      · refine sxc_skip ?_
                        refine sxq_blkN ?_
                        refine sxq_next ?_
                        refine sxc_region ?_
                        refine sxo_move rfl rfl rfl ?_
                        refine sxo_add rfl rfl rfl rfl ?_
                        refine sxo_assign rfl rfl rfl ?_
                        refine sxo_nil ?_
                        exact sxq_againP (iadd .i64 x581 1, ()) (lk_cons rfl (lk_cons rfl (lk_cons rfl (lk_cons rfl (lk_cons rfl (lk_cons rfl lk_nil)))))) (.cons 0 rfl .nil) (.cons 0 rfl (.cons 0 rfl (.cons 0 rfl (.cons 0 rfl .nil)))) fk_nil
              · refine sxc_exit ?_
                refine sxq_thenX ?_
                refine sxq_thenX ?_
                refine sxq_blkX ?_
                exact sxq_meetP ((), ()) lk_nil .nil .nil fk_nil
            · rintro ⟨_, _⟩
              try dsimp only
              refine sxc_seq ?_
              refine sxc_region ?_
              refine sxo_assign rfl rfl rfl ?_
              refine sxo_nil ?_
              refine sxq_next ?_
              refine sxc_ret ?_
              exact sxq_doneP () (.inl rfl) (res1 rfl rfl) (fun h => by subst h; rfl) (fun h => by subst h; exact .nil)
end Go.Proofs.Ytghkjonlhphcjaa
