/- Each Go function of this seat computes what its model says, part 2. -/
import Derived.Test.YtdiabhkbchmpaaaWalks
namespace Go.Proofs.Ytdiabhkbchmpaaa
open Go SX
set_option maxHeartbeats 4000000 in
theorem C_R_CorePairs (F : Nat) (x1 : List (List Int)) (a2 : Option Addr) (c3 : (Nat × List (Option Addr × Nat))) (r : List Int) (hm : M_R_CorePairs F x1 = some r) :
    Pure Try.prog 15 [.agg #[.slice a2 x1.length c3.1]] [SlN eN25 iN25 1 (.slice a2 x1.length c3.1) x1 c3.2] (Option Addr × Nat) (fun g => .slice g.1 r.length g.2) (fun g => [Ro (eI .i64) 3 1 (.slice g.1 r.length g.2) r]) (fun _ => []) := by
  refine pure_of Try.func15 rfl Try.ntmps15 rfl hm (fun w => ?_)
  refine sxc_env (l' := [(0, .agg #[.slice a2 x1.length c3.1])]) rfl ?_
  refine sxc_seq ?_
  refine sxc_region ?_
  refine sxo_box rfl rfl rfl (fun g4 => ?_)
  refine sxo_assign rfl rfl rfl ?_
  refine sxo_nil ?_
  refine sxq_next ?_
  refine sxc_seq ?_
  refine sxc_region ?_
  refine sxo_fieldAddr rfl rfl ff24_0 rfl ?_
  refine sxo_loadB (i := 0) rfl rfl tf22 rfl rfl (fun _ => rfl) rfl rfl ?_
  refine sxo_len rfl Try.underlying22 rfl rfl ?_
  refine sxo_assign rfl rfl rfl ?_
  refine sxo_nil ?_
  refine sxq_next ?_
  refine sxc_seq ?_
  refine sxc_region ?_
  refine sxo_assign rfl rfl rfl ?_
  refine sxo_nil ?_
  refine sxq_next ?_
  refine sxc_join (fun ((x48, (a46, c47)) : (List Int × (Option Addr × Nat))) => [(1, .pointer (some ⟨g4, 0, none⟩)), (3, .int .i64 (x1.length : Int)), (4, .slice a46 x48.length c47)]) (fun ((x48, (a46, c47)) : (List Int × (Option Addr × Nat))) => [⟨g4, 24, [.slice a2 x1.length c3.1]⟩]) (fun ((x48, (a46, c47)) : (List Int × (Option Addr × Nat))) => [Ro (eI .i64) 3 1 (.slice a46 x48.length c47) x48]) (fun ((x48, (a46, c47)) : (List Int × (Option Addr × Nat))) => [SlN eN25 iN25 1 (.slice a2 x1.length c3.1) x1 c3.2]) (fun ((x48, _) : (List Int × (Option Addr × Nat))) => M_R_CorePairs_j2 F x1 x48) ?_ ?_
  · refine sxc_seq ?_
    refine sxc_region ?_
    refine sxo_assign rfl rfl rfl ?_
    refine sxo_nil ?_
    refine sxq_next ?_
    refine sxc_block ?_
    refine sxc_nilrow Int (eI .i64) 3 1 ?_
    refine sxc_loopP (fun (((x2392, x2393), (a2390, c2391)) : ((List Int × Int) × (Option Addr × Nat))) => [(1, .pointer (some ⟨g4, 0, none⟩)), (3, .int .i64 (x1.length : Int)), (4, .slice a2390 x2392.length c2391), (5, .int .i64 x2393)]) (fun (((x2392, x2393), (a2390, c2391)) : ((List Int × Int) × (Option Addr × Nat))) => [⟨g4, 24, [.slice a2 x1.length c3.1]⟩]) (fun (((x2392, x2393), (a2390, c2391)) : ((List Int × Int) × (Option Addr × Nat))) => [Ro (eI .i64) 3 1 (.slice a2390 x2392.length c2391) x2392]) (fun (((x2392, x2393), (a2390, c2391)) : ((List Int × Int) × (Option Addr × Nat))) => [SlN eN25 iN25 1 (.slice a2 x1.length c3.1) x1 c3.2]) (fun k (s : ((List Int × Int) × (Option Addr × Nat))) => M_R_CorePairs_l204 F x1 k s.1) ((([] : List Int), 0), (none, 0)) F (lk_cons rfl (lk_cons rfl (lk_cons rfl (lk_cons rfl lk_nil)))) (.cons 0 rfl .nil) (.cons 0 rfl .nil) (fk_cons 0 rfl fk_nil) (fun _ => rfl) ?_
    intro k2406
    rintro ⟨⟨x2392, x2393⟩, ⟨a2390, c2391⟩⟩
    try dsimp only
    refine sxc_meq (m' := M_R_CorePairs_b204 F x1 (M_R_CorePairs_l204 F x1 k2406) x2392 x2393) rfl ?_
    refine sxc_seq ?_
    refine sxc_seq ?_
    refine sxc_region ?_
    refine sxo_move rfl rfl rfl ?_
    refine sxo_move rfl rfl rfl ?_
    refine sxo_lss rfl rfl rfl rfl ?_
    refine sxo_nil ?_
    refine sxq_next ?_
    refine sxc_if rfl (fun h2418 => ?_) (fun h2418 => ?_)
    · refine sxc_skip ?_
      refine sxq_next ?_
      refine sxc_seq ?_
      refine sxc_block ?_
      refine sxc_region ?_
      refine sxo_move rfl rfl rfl ?_
      refine sxo_slit (vs := [.int .i64 (-1)]) (ys := ([-1] : List Int)) (eI_ok .i64) (by decide) rfl Try.underlying25 tf3 rfl rfl rfl rfl rfl (by decide) (fun a2413 c2414 => ?_)
      refine sxo_app 1 (eI_ok .i64) rfl Try.underlying25 tf3 rfl rfl rfl rfl rfl (.inl ⟨0, _, rfl⟩) rfl rfl (fun x2415 e2415 a2416 c2417 => ?_)
      refine sxo_assign rfl rfl rfl ?_
      refine sxo_nil ?_
      refine sxq_blkN ?_
      refine sxq_next ?_
      refine sxc_region ?_
      refine sxo_move rfl rfl rfl ?_
      refine sxo_add rfl rfl rfl rfl ?_
      refine sxo_assign rfl rfl rfl ?_
      refine sxo_nil ?_
      exact sxq_againP ((x2415, iadd .i64 x2393 1), (a2416, c2417)) (lk_cons rfl (lk_cons rfl (lk_cons rfl (lk_cons rfl lk_nil)))) (.cons 0 rfl .nil) (.cons 0 rfl .nil) (fk_cons 0 rfl fk_nil)
    · refine sxc_exit ?_
      refine sxq_thenX ?_
      refine sxq_thenX ?_
      refine sxq_blkX ?_
      exact sxq_meetP (x2392, (a2390, c2391)) (lk_cons rfl (lk_cons rfl (lk_cons rfl lk_nil))) (.cons 0 rfl .nil) (.cons 0 rfl .nil) (fk_cons 0 rfl fk_nil)
  · rintro ⟨x48, ⟨a46, c47⟩⟩
    try dsimp only
    refine sxc_join (fun ((x1213, _) : (List Int × Unit)) => [(4, .slice a46 x1213.length c47)]) (fun ((x1213, _) : (List Int × Unit)) => []) (fun ((x1213, _) : (List Int × Unit)) => [Ro (eI .i64) 3 1 (.slice a46 x1213.length c47) x1213]) (fun ((x1213, _) : (List Int × Unit)) => []) (fun ((x1213, _) : (List Int × Unit)) => M_R_CorePairs_j103 F x1213) ?_ ?_
    · refine sxc_seq ?_
      refine sxc_region ?_
      refine sxo_assign rfl rfl rfl ?_
      refine sxo_nil ?_
      refine sxq_next ?_
      refine sxc_block ?_
      refine sxc_loopP (fun (((x1601, x1602), _) : ((List Int × Int) × Unit)) => [(1, .pointer (some ⟨g4, 0, none⟩)), (3, .int .i64 (x1.length : Int)), (4, .slice a46 x1601.length c47), (6, .int .i64 x1602)]) (fun (((x1601, x1602), _) : ((List Int × Int) × Unit)) => [⟨g4, 24, [.slice a2 x1.length c3.1]⟩]) (fun (((x1601, x1602), _) : ((List Int × Int) × Unit)) => [Ro (eI .i64) 3 1 (.slice a46 x1601.length c47) x1601]) (fun (((x1601, x1602), _) : ((List Int × Int) × Unit)) => [SlN eN25 iN25 1 (.slice a2 x1.length c3.1) x1 c3.2]) (fun k (s : ((List Int × Int) × Unit)) => M_R_CorePairs_l170 F x1 k s.1) ((x48, 0), ()) F (lk_cons rfl (lk_cons rfl (lk_cons rfl (lk_cons rfl lk_nil)))) (.cons 0 rfl .nil) (.cons 0 rfl .nil) (fk_cons 0 rfl fk_nil) (fun _ => rfl) ?_
      intro k1990
      rintro ⟨⟨x1601, x1602⟩, _⟩
      try dsimp only
      refine sxc_meq (m' := M_R_CorePairs_b170 F x1 (M_R_CorePairs_l170 F x1 k1990) x1601 x1602) rfl ?_
      refine sxc_seq ?_
      refine sxc_seq ?_
      refine sxc_region ?_
      refine sxo_move rfl rfl rfl ?_
      refine sxo_move rfl rfl rfl ?_
      refine sxo_lss rfl rfl rfl rfl ?_
      refine sxo_nil ?_
      refine sxq_next ?_
      refine sxc_if rfl (fun h2377 => ?_) (fun h2377 => ?_)
      · refine sxc_skip ?_
        refine sxq_next ?_
        refine sxc_join (fun ((x2184, _) : (List Int × Unit)) => [(1, .pointer (some ⟨g4, 0, none⟩)), (3, .int .i64 (x1.length : Int)), (4, .slice a46 x2184.length c47), (6, .int .i64 x1602)]) (fun ((x2184, _) : (List Int × Unit)) => [⟨g4, 24, [.slice a2 x1.length c3.1]⟩]) (fun ((x2184, _) : (List Int × Unit)) => [Ro (eI .i64) 3 1 (.slice a46 x2184.length c47) x2184]) (fun ((x2184, _) : (List Int × Unit)) => [SlN eN25 iN25 1 (.slice a2 x1.length c3.1) x1 c3.2]) (fun ((x2184, _) : (List Int × Unit)) => M_R_CorePairs_j187 F (M_R_CorePairs_l170 F x1 k1990) x1602 x2184) ?_ ?_
        · refine sxc_block ?_
          refine sxc_seq ?_
          refine sxc_region ?_
          refine sxo_move rfl rfl rfl ?_
          refine sxo_add rfl rfl rfl rfl ?_
          refine sxo_assign rfl rfl rfl ?_
          refine sxo_nil ?_
          refine sxq_next ?_
          refine sxc_block ?_
          refine sxc_loopP (fun (((x2248, x2249), _) : ((List Int × Int) × Unit)) => [(1, .pointer (some ⟨g4, 0, none⟩)), (3, .int .i64 (x1.length : Int)), (4, .slice a46 x2248.length c47), (6, .int .i64 x1602), (7, .int .i64 x2249)]) (fun (((x2248, x2249), _) : ((List Int × Int) × Unit)) => [⟨g4, 24, [.slice a2 x1.length c3.1]⟩]) (fun (((x2248, x2249), _) : ((List Int × Int) × Unit)) => [Ro (eI .i64) 3 1 (.slice a46 x2248.length c47) x2248]) (fun (((x2248, x2249), _) : ((List Int × Int) × Unit)) => [SlN eN25 iN25 1 (.slice a2 x1.length c3.1) x1 c3.2]) (fun k (s : ((List Int × Int) × Unit)) => M_R_CorePairs_l198 F (M_R_CorePairs_l170 F x1 k1990) x1 x1602 k s.1) ((x1601, iadd .i64 x1602 1), ()) F (lk_cons rfl (lk_cons rfl (lk_cons rfl (lk_cons rfl (lk_cons rfl lk_nil))))) (.cons 0 rfl .nil) (.cons 0 rfl .nil) (fk_cons 0 rfl fk_nil) (fun _ => rfl) ?_
          intro k2313
          rintro ⟨⟨x2248, x2249⟩, _⟩
          try dsimp only
          refine sxc_meq (m' := M_R_CorePairs_b198 F (M_R_CorePairs_l170 F x1 k1990) x1 x1602 (M_R_CorePairs_l198 F (M_R_CorePairs_l170 F x1 k1990) x1 x1602 k2313) x2248 x2249) rfl ?_
          refine sxc_seq ?_
          refine sxc_seq ?_
          refine sxc_region ?_
          refine sxo_move rfl rfl rfl ?_
          refine sxo_move rfl rfl rfl ?_
          refine sxo_lss rfl rfl rfl rfl ?_
          refine sxo_nil ?_
          refine sxq_next ?_
          refine sxc_if rfl (fun h2376 => ?_) (fun h2376 => ?_)
          · refine sxc_skip ?_
            refine sxq_next ?_
            refine sxc_join (fun ((x2345, _) : (List Int × Unit)) => [(1, .pointer (some ⟨g4, 0, none⟩)), (3, .int .i64 (x1.length : Int)), (4, .slice a46 x2345.length c47), (6, .int .i64 x1602), (7, .int .i64 x2249)]) (fun ((x2345, _) : (List Int × Unit)) => [⟨g4, 24, [.slice a2 x1.length c3.1]⟩]) (fun ((x2345, _) : (List Int × Unit)) => [Ro (eI .i64) 3 1 (.slice a46 x2345.length c47) x2345]) (fun ((x2345, _) : (List Int × Unit)) => [SlN eN25 iN25 1 (.slice a2 x1.length c3.1) x1 c3.2]) (fun ((x2345, _) : (List Int × Unit)) => M_R_CorePairs_j201 F (M_R_CorePairs_l198 F (M_R_CorePairs_l170 F x1 k1990) x1 x1602 k2313) x2249 x2345) ?_ ?_
            · refine sxc_block ?_
              refine sxc_seq ?_
              refine sxc_region ?_
              refine sxo_loadB (i := 0) rfl rfl tf24 rfl rfl (by simp) rfl rfl ?_
              refine sxo_move rfl rfl rfl ?_
              refine sxo_move rfl rfl rfl ?_
              refine sxo_call ent20 rfl rfl rfl (fun x2346 e2346 => C_R_Near F x1 a2 c3 x1602 x2249 x2346 e2346) (.consF 0 rfl .nil) (fun x2346 e2346 => ?_)
              intro _
              refine sxo_move rfl rfl rfl ?_
              refine sxo_join 6 (fun ((x2351, _) : (Bool × Unit)) => [(1, .pointer (some ⟨g4, 0, none⟩)), (3, .int .i64 (x1.length : Int)), (4, .slice a46 x2248.length c47), (6, .int .i64 x1602), (7, .int .i64 x2249), (41, .bool x2351)]) (fun ((x2351, _) : (Bool × Unit)) => [⟨g4, 24, [.slice a2 x1.length c3.1]⟩]) (fun ((x2351, _) : (Bool × Unit)) => [Ro (eI .i64) 3 1 (.slice a46 x2248.length c47) x2248]) (fun ((x2351, _) : (Bool × Unit)) => [SlN eN25 iN25 1 (.slice a2 x1.length c3.1) x1 c3.2]) (fun ((x2351, _) : (Bool × Unit)) => M_R_CorePairs_j202 F (M_R_CorePairs_l198 F (M_R_CorePairs_l170 F x1 k1990) x1 x1602 k2313) x1602 x2248 x2249 x2351) ?_ ?_
              · refine sxo_take (os := _) rfl ?_
                refine sxo_if (fun h2347 => ?_) (fun h2347 => ?_)
                · refine sxo_isT (k := 35) rfl h2347 ?_
                  refine sxo_move rfl rfl rfl ?_
                  refine sxo_move rfl rfl rfl ?_
                  refine sxo_indexR (j := 0) rfl Try.underlying25 tf3 rfl rfl rfl rfl (fun x2373 e2373 g2374 h2375 => ?_)
                  refine sxo_loadR (j := 0) (y := x2373) (eI_ok .i64) rfl rfl tf3 rfl h2375 (idx_get e2373).2.2 (fun _ => rfl) rfl rfl ?_
                  refine sxo_lss rfl rfl rfl rfl ?_
                  refine sxo_pick (b := true) rfl rfl rfl rfl ?_
                  refine sxo_nil ?_
                  exact sxq_meetP ((decide (x2373 < 0)), ()) (lk_cons rfl (lk_cons rfl (lk_cons rfl (lk_cons rfl (lk_cons rfl (lk_cons rfl lk_nil)))))) (.cons 0 rfl .nil) (.cons 0 rfl .nil) (fk_cons 0 rfl fk_nil)
                · refine sxo_isF (k := 35) rfl h2347 ?_
                  refine sxo_skip rfl rfl rfl ?_
                  refine sxo_skip rfl rfl rfl ?_
                  refine sxo_skip rfl rfl rfl ?_
                  refine sxo_skip rfl rfl rfl ?_
                  refine sxo_skip rfl rfl rfl ?_
                  refine sxo_pick (b := false) rfl rfl rfl rfl ?_
                  refine sxo_nil ?_
                  exact sxq_meetP (false, ()) (lk_cons rfl (lk_cons rfl (lk_cons rfl (lk_cons rfl (lk_cons rfl (lk_cons rfl lk_nil)))))) (.cons 0 rfl .nil) (.cons 0 rfl .nil) (fk_cons 0 rfl fk_nil)
              · rintro ⟨x2351, _⟩
                try dsimp only
                refine sxo_take (os := _) rfl ?_
                refine sxo_move rfl rfl rfl ?_
                refine sxo_join 6 (fun ((x2356, _) : (Bool × Unit)) => [(1, .pointer (some ⟨g4, 0, none⟩)), (3, .int .i64 (x1.length : Int)), (4, .slice a46 x2248.length c47), (6, .int .i64 x1602), (7, .int .i64 x2249), (48, .bool x2356)]) (fun ((x2356, _) : (Bool × Unit)) => [⟨g4, 24, [.slice a2 x1.length c3.1]⟩]) (fun ((x2356, _) : (Bool × Unit)) => [Ro (eI .i64) 3 1 (.slice a46 x2248.length c47) x2248]) (fun ((x2356, _) : (Bool × Unit)) => [SlN eN25 iN25 1 (.slice a2 x1.length c3.1) x1 c3.2]) (fun ((x2356, _) : (Bool × Unit)) => M_R_CorePairs_j203 F (M_R_CorePairs_l198 F (M_R_CorePairs_l170 F x1 k1990) x1 x1602 k2313) x1602 x2248 x2249 x2356) ?_ ?_
                · refine sxo_take (os := _) rfl ?_
                  refine sxo_if (fun h2352 => ?_) (fun h2352 => ?_)
                  · refine sxo_isT (k := 42) rfl h2352 ?_
                    refine sxo_move rfl rfl rfl ?_
                    refine sxo_move rfl rfl rfl ?_
                    refine sxo_indexR (j := 0) rfl Try.underlying25 tf3 rfl rfl rfl rfl (fun x2370 e2370 g2371 h2372 => ?_)
                    refine sxo_loadR (j := 0) (y := x2370) (eI_ok .i64) rfl rfl tf3 rfl h2372 (idx_get e2370).2.2 (fun _ => rfl) rfl rfl ?_
                    refine sxo_lss rfl rfl rfl rfl ?_
                    refine sxo_pick (b := true) rfl rfl rfl rfl ?_
                    refine sxo_nil ?_
                    exact sxq_meetP ((decide (x2370 < 0)), ()) (lk_cons rfl (lk_cons rfl (lk_cons rfl (lk_cons rfl (lk_cons rfl (lk_cons rfl lk_nil)))))) (.cons 0 rfl .nil) (.cons 0 rfl .nil) (fk_cons 0 rfl fk_nil)
                  · refine sxo_isF (k := 42) rfl h2352 ?_
                    refine sxo_skip rfl rfl rfl ?_
                    refine sxo_skip rfl rfl rfl ?_
                    refine sxo_skip rfl rfl rfl ?_
                    refine sxo_skip rfl rfl rfl ?_
                    refine sxo_skip rfl rfl rfl ?_
                    refine sxo_pick (b := false) rfl rfl rfl rfl ?_
                    refine sxo_nil ?_
                    exact sxq_meetP (false, ()) (lk_cons rfl (lk_cons rfl (lk_cons rfl (lk_cons rfl (lk_cons rfl (lk_cons rfl lk_nil)))))) (.cons 0 rfl .nil) (.cons 0 rfl .nil) (fk_cons 0 rfl fk_nil)
                · rintro ⟨x2356, _⟩
                  try dsimp only
                  refine sxo_take (os := _) rfl ?_
                  refine sxo_nil ?_
                  refine sxq_next ?_
                  refine sxc_if rfl (fun h2369 => ?_) (fun h2369 => ?_)
                  · refine sxc_region ?_
                    refine sxo_move rfl rfl rfl ?_
                    refine sxo_move rfl rfl rfl ?_
                    refine sxo_move rfl rfl rfl ?_
                    refine sxo_move rfl rfl rfl ?_
                    refine sxo_move rfl rfl rfl ?_
                    refine sxo_move rfl rfl rfl ?_
                    refine sxo_indexR (j := 0) rfl Try.underlying25 tf3 rfl rfl rfl rfl (fun x2357 e2357 g2358 h2359 => ?_)
                    refine sxo_storeL (j := 0) (y' := x2249) (eI_ok .i64) rfl rfl rfl tf3 rfl h2359 (idx_get e2357).2.1 rfl (fun x2360 e2360 h2361 => ?_)
                    have h2362 : x2360.length = x2248.length := by rw [← e2360, List.length_set]
                    refine sxo_again (d := 4) (v := .slice a46 x2360.length c47) rfl h2361 ?_
                    refine sxo_again (d := 49) (v := .slice a46 x2360.length c47) rfl h2361 ?_
                    refine sxo_again (d := 51) (v := .slice a46 x2360.length c47) rfl h2361 ?_
                    refine sxo_indexR (j := 0) rfl Try.underlying25 tf3 rfl rfl rfl rfl (fun x2363 e2363 g2364 h2365 => ?_)
                    refine sxo_storeL (j := 0) (y' := x1602) (eI_ok .i64) rfl rfl rfl tf3 rfl h2365 (idx_get e2363).2.1 rfl (fun x2366 e2366 h2367 => ?_)
                    have h2368 : x2366.length = x2360.length := by rw [← e2366, List.length_set]
                    refine sxo_again (d := 4) (v := .slice a46 x2366.length c47) rfl h2367 ?_
                    refine sxo_again (d := 49) (v := .slice a46 x2366.length c47) rfl h2367 ?_
                    refine sxo_again (d := 51) (v := .slice a46 x2366.length c47) rfl h2367 ?_
                    refine sxo_nil ?_
                    refine sxq_blkN ?_
                    exact sxq_meetP (x2366, ()) (lk_cons rfl (lk_cons rfl (lk_cons rfl (lk_cons rfl (lk_cons rfl lk_nil))))) (.cons 0 rfl .nil) (.cons 0 rfl .nil) (fk_cons 0 rfl fk_nil)
                  · refine sxc_skip ?_
                    refine sxq_blkN ?_
                    exact sxq_meetP (x2248, ()) (lk_cons rfl (lk_cons rfl (lk_cons rfl (lk_cons rfl (lk_cons rfl lk_nil))))) (.cons 0 rfl .nil) (.cons 0 rfl .nil) (fk_cons 0 rfl fk_nil)
            · rintro ⟨x2345, _⟩
              try dsimp only
              refine sxc_region ?_
              refine sxo_move rfl rfl rfl ?_
              refine sxo_add rfl rfl rfl rfl ?_
              refine sxo_assign rfl rfl rfl ?_
              refine sxo_nil ?_
              exact sxq_againP ((x2345, iadd .i64 x2249 1), ()) (lk_cons rfl (lk_cons rfl (lk_cons rfl (lk_cons rfl (lk_cons rfl lk_nil))))) (.cons 0 rfl .nil) (.cons 0 rfl .nil) (fk_cons 0 rfl fk_nil)
          · refine sxc_exit ?_
            refine sxq_thenX ?_
            refine sxq_thenX ?_
            refine sxq_blkX ?_
            refine sxq_blkN ?_
            exact sxq_meetP (x2248, ()) (lk_cons rfl (lk_cons rfl (lk_cons rfl (lk_cons rfl lk_nil)))) (.cons 0 rfl .nil) (.cons 0 rfl .nil) (fk_cons 0 rfl fk_nil)
        · rintro ⟨x2184, _⟩
          try dsimp only
          refine sxc_region ?_
          refine sxo_move rfl rfl rfl ?_
          refine sxo_add rfl rfl rfl rfl ?_
          refine sxo_assign rfl rfl rfl ?_
          refine sxo_nil ?_
          exact sxq_againP ((x2184, iadd .i64 x1602 1), ()) (lk_cons rfl (lk_cons rfl (lk_cons rfl (lk_cons rfl lk_nil)))) (.cons 0 rfl .nil) (.cons 0 rfl .nil) (fk_cons 0 rfl fk_nil)
      · refine sxc_exit ?_
        refine sxq_thenX ?_
        refine sxq_thenX ?_
        refine sxq_blkX ?_
        exact sxq_meetP (x1601, ()) (lk_cons rfl lk_nil) .nil (.cons 0 rfl .nil) fk_nil
    · rintro ⟨x1213, _⟩
      try dsimp only
      refine sxc_seq ?_
      refine sxc_region ?_
      refine sxo_move rfl rfl rfl ?_
      refine sxo_assign rfl rfl rfl ?_
      refine sxo_nil ?_
      refine sxq_next ?_
      refine sxc_ret ?_
      exact sxq_doneP (a46, c47) (.inl rfl) (res1 rfl rfl) (fun h => by subst h; rfl) (fun h => by subst h; exact (.cons 0 rfl .nil))

set_option maxHeartbeats 4000000 in
theorem C_R_CoreThrees (F : Nat) (x1 : List (List Int)) (a2 : Option Addr) (c3 : (Nat × List (Option Addr × Nat))) (r : (List Int × Int)) (hm : M_R_CoreThrees F x1 = some r) :
    Pure Try.prog 16 [.agg #[.slice a2 x1.length c3.1]] [SlN eN25 iN25 1 (.slice a2 x1.length c3.1) x1 c3.2] (Option Addr × Nat) (fun g => .tuple #[.slice g.1 r.1.length g.2, .int .i64 r.2]) (fun g => [Ro (eI .i64) 3 1 (.slice g.1 r.1.length g.2) r.1]) (fun _ => []) := by
  refine pure_of Try.func16 rfl Try.ntmps16 rfl hm (fun w => ?_)
  refine sxc_env (l' := [(0, .agg #[.slice a2 x1.length c3.1])]) rfl ?_
  refine sxc_seq ?_
  refine sxc_region ?_
  refine sxo_box rfl rfl rfl (fun g4 => ?_)
  refine sxo_assign rfl rfl rfl ?_
  refine sxo_assign rfl rfl rfl ?_
  refine sxo_nil ?_
  refine sxq_next ?_
  refine sxc_seq ?_
  refine sxc_region ?_
  refine sxo_fieldAddr rfl rfl ff24_0 rfl ?_
  refine sxo_loadB (i := 0) rfl rfl tf22 rfl rfl (fun _ => rfl) rfl rfl ?_
  refine sxo_len rfl Try.underlying22 rfl rfl ?_
  refine sxo_assign rfl rfl rfl ?_
  refine sxo_nil ?_
  refine sxq_next ?_
  refine sxc_seq ?_
  refine sxc_region ?_
  refine sxo_move rfl rfl rfl ?_
  refine sxo_mk (eI_ok .i64) rfl Try.underlying25 tf3 rfl rfl rfl rfl rfl rfl rfl (fun x5 e5 a6 c7 => ?_)
  refine sxo_assign rfl rfl rfl ?_
  refine sxo_nil ?_
  refine sxq_next ?_
  refine sxc_seq ?_
  refine sxc_region ?_
  refine sxo_assign rfl rfl rfl ?_
  refine sxo_nil ?_
  refine sxq_next ?_
  refine sxc_join (fun (((x8688, x8689), _) : ((List Int × Int) × Unit)) => [(5, .slice a6 x8688.length c7), (6, .int .i64 x8689)]) (fun (((x8688, x8689), _) : ((List Int × Int) × Unit)) => []) (fun (((x8688, x8689), _) : ((List Int × Int) × Unit)) => [Ro (eI .i64) 3 1 (.slice a6 x8688.length c7) x8688]) (fun (((x8688, x8689), _) : ((List Int × Int) × Unit)) => []) (fun (((x8688, x8689), _) : ((List Int × Int) × Unit)) => M_R_CoreThrees_j605 F x8688 x8689) ?_ ?_
  · refine sxc_seq ?_
    refine sxc_region ?_
    refine sxo_assign rfl rfl rfl ?_
    refine sxo_nil ?_
    refine sxq_next ?_
    refine sxc_block ?_
    refine sxc_loopP (fun (((x11582, x11583, x11584), _) : ((List Int × Int × Int) × Unit)) => [(1, .pointer (some ⟨g4, 0, none⟩)), (4, .int .i64 (x1.length : Int)), (5, .slice a6 x11582.length c7), (6, .int .i64 x11583), (7, .int .i64 x11584)]) (fun (((x11582, x11583, x11584), _) : ((List Int × Int × Int) × Unit)) => [⟨g4, 24, [.slice a2 x1.length c3.1]⟩]) (fun (((x11582, x11583, x11584), _) : ((List Int × Int × Int) × Unit)) => [Ro (eI .i64) 3 1 (.slice a6 x11582.length c7) x11582]) (fun (((x11582, x11583, x11584), _) : ((List Int × Int × Int) × Unit)) => [SlN eN25 iN25 1 (.slice a2 x1.length c3.1) x1 c3.2]) (fun k (s : ((List Int × Int × Int) × Unit)) => M_R_CoreThrees_l1008 F x1 k s.1) ((x5, 0, 0), ()) F (lk_cons rfl (lk_cons rfl (lk_cons rfl (lk_cons rfl (lk_cons rfl lk_nil))))) (.cons 0 rfl .nil) (.cons 0 rfl .nil) (fk_cons 0 rfl fk_nil) (fun _ => rfl) ?_
    intro k14477
    rintro ⟨⟨x11582, x11583, x11584⟩, _⟩
    try dsimp only
    refine sxc_meq (m' := M_R_CoreThrees_b1008 F x1 (M_R_CoreThrees_l1008 F x1 k14477) x11582 x11583 x11584) rfl ?_
    refine sxc_seq ?_
    refine sxc_seq ?_
    refine sxc_region ?_
    refine sxo_move rfl rfl rfl ?_
    refine sxo_move rfl rfl rfl ?_
    refine sxo_lss rfl rfl rfl rfl ?_
    refine sxo_nil ?_
    refine sxq_next ?_
    refine sxc_if rfl (fun h17369 => ?_) (fun h17369 => ?_)
    · refine sxc_skip ?_
      refine sxq_next ?_
      refine sxc_join (fun (((x15923, x15924), _) : ((List Int × Int) × Unit)) => [(1, .pointer (some ⟨g4, 0, none⟩)), (4, .int .i64 (x1.length : Int)), (5, .slice a6 x15923.length c7), (6, .int .i64 x15924), (7, .int .i64 x11584)]) (fun (((x15923, x15924), _) : ((List Int × Int) × Unit)) => [⟨g4, 24, [.slice a2 x1.length c3.1]⟩]) (fun (((x15923, x15924), _) : ((List Int × Int) × Unit)) => [Ro (eI .i64) 3 1 (.slice a6 x15923.length c7) x15923]) (fun (((x15923, x15924), _) : ((List Int × Int) × Unit)) => [SlN eN25 iN25 1 (.slice a2 x1.length c3.1) x1 c3.2]) (fun (((x15923, x15924), _) : ((List Int × Int) × Unit)) => M_R_CoreThrees_j1109 F (M_R_CoreThrees_l1008 F x1 k14477) x11584 x15923 x15924) ?_ ?_
      · refine sxc_block ?_
        refine sxc_seq ?_
        refine sxc_region ?_
        refine sxo_assign rfl rfl rfl ?_
        refine sxo_nil ?_
        refine sxq_next ?_
        refine sxc_block ?_
        refine sxc_loopP (fun (((x16405, x16406, x16407), _) : ((List Int × Int × Int) × Unit)) => [(1, .pointer (some ⟨g4, 0, none⟩)), (4, .int .i64 (x1.length : Int)), (5, .slice a6 x16405.length c7), (6, .int .i64 x16406), (7, .int .i64 x11584), (8, .int .i64 x16407)]) (fun (((x16405, x16406, x16407), _) : ((List Int × Int × Int) × Unit)) => [⟨g4, 24, [.slice a2 x1.length c3.1]⟩]) (fun (((x16405, x16406, x16407), _) : ((List Int × Int × Int) × Unit)) => [Ro (eI .i64) 3 1 (.slice a6 x16405.length c7) x16405]) (fun (((x16405, x16406, x16407), _) : ((List Int × Int × Int) × Unit)) => [SlN eN25 iN25 1 (.slice a2 x1.length c3.1) x1 c3.2]) (fun k (s : ((List Int × Int × Int) × Unit)) => M_R_CoreThrees_l1176 F (M_R_CoreThrees_l1008 F x1 k14477) x1 x11584 k s.1) ((x11582, x11583, 0), ()) F (lk_cons rfl (lk_cons rfl (lk_cons rfl (lk_cons rfl (lk_cons rfl (lk_cons rfl lk_nil)))))) (.cons 0 rfl .nil) (.cons 0 rfl .nil) (fk_cons 0 rfl fk_nil) (fun _ => rfl) ?_
        intro k16888
        rintro ⟨⟨x16405, x16406, x16407⟩, _⟩
        try dsimp only
        refine sxc_meq (m' := M_R_CoreThrees_b1176 F (M_R_CoreThrees_l1008 F x1 k14477) x1 x11584 (M_R_CoreThrees_l1176 F (M_R_CoreThrees_l1008 F x1 k14477) x1 x11584 k16888) x16405 x16406 x16407) rfl ?_
        refine sxc_seq ?_
        refine sxc_seq ?_
        refine sxc_region ?_
        refine sxo_move rfl rfl rfl ?_
        refine sxo_move rfl rfl rfl ?_
        refine sxo_lss rfl rfl rfl rfl ?_
        refine sxo_nil ?_
        refine sxq_next ?_
        refine sxc_if rfl (fun h17368 => ?_) (fun h17368 => ?_)
        · refine sxc_skip ?_
          refine sxq_next ?_
          refine sxc_join (fun (((x17128, x17129), _) : ((List Int × Int) × Unit)) => [(1, .pointer (some ⟨g4, 0, none⟩)), (4, .int .i64 (x1.length : Int)), (5, .slice a6 x17128.length c7), (6, .int .i64 x17129), (7, .int .i64 x11584), (8, .int .i64 x16407)]) (fun (((x17128, x17129), _) : ((List Int × Int) × Unit)) => [⟨g4, 24, [.slice a2 x1.length c3.1]⟩]) (fun (((x17128, x17129), _) : ((List Int × Int) × Unit)) => [Ro (eI .i64) 3 1 (.slice a6 x17128.length c7) x17128]) (fun (((x17128, x17129), _) : ((List Int × Int) × Unit)) => [SlN eN25 iN25 1 (.slice a2 x1.length c3.1) x1 c3.2]) (fun (((x17128, x17129), _) : ((List Int × Int) × Unit)) => M_R_CoreThrees_j1193 F (M_R_CoreThrees_l1176 F (M_R_CoreThrees_l1008 F x1 k14477) x1 x11584 k16888) x16407 x17128 x17129) ?_ ?_
          · refine sxc_block ?_
            refine sxc_seq ?_
            refine sxc_region ?_
            refine sxo_assign rfl rfl rfl ?_
            refine sxo_nil ?_
            refine sxq_next ?_
            refine sxc_block ?_
            refine sxc_loopP (fun (((x17208, x17209, x17210), _) : ((List Int × Int × Int) × Unit)) => [(1, .pointer (some ⟨g4, 0, none⟩)), (4, .int .i64 (x1.length : Int)), (5, .slice a6 x17208.length c7), (6, .int .i64 x17209), (7, .int .i64 x11584), (8, .int .i64 x16407), (9, .int .i64 x17210)]) (fun (((x17208, x17209, x17210), _) : ((List Int × Int × Int) × Unit)) => [⟨g4, 24, [.slice a2 x1.length c3.1]⟩]) (fun (((x17208, x17209, x17210), _) : ((List Int × Int × Int) × Unit)) => [Ro (eI .i64) 3 1 (.slice a6 x17208.length c7) x17208]) (fun (((x17208, x17209, x17210), _) : ((List Int × Int × Int) × Unit)) => [SlN eN25 iN25 1 (.slice a2 x1.length c3.1) x1 c3.2]) (fun k (s : ((List Int × Int × Int) × Unit)) => M_R_CoreThrees_l1204 F (M_R_CoreThrees_l1176 F (M_R_CoreThrees_l1008 F x1 k14477) x1 x11584 k16888) x1 x11584 x16407 k s.1) ((x16405, x16406, 0), ()) F (lk_cons rfl (lk_cons rfl (lk_cons rfl (lk_cons rfl (lk_cons rfl (lk_cons rfl (lk_cons rfl lk_nil))))))) (.cons 0 rfl .nil) (.cons 0 rfl .nil) (fk_cons 0 rfl fk_nil) (fun _ => rfl) ?_
            intro k17289
            rintro ⟨⟨x17208, x17209, x17210⟩, _⟩
            try dsimp only
            refine sxc_meq (m' := M_R_CoreThrees_b1204 F (M_R_CoreThrees_l1176 F (M_R_CoreThrees_l1008 F x1 k14477) x1 x11584 k16888) x1 x11584 x16407 (M_R_CoreThrees_l1204 F (M_R_CoreThrees_l1176 F (M_R_CoreThrees_l1008 F x1 k14477) x1 x11584 k16888) x1 x11584 x16407 k17289) x17208 x17209 x17210) rfl ?_
            refine sxc_seq ?_
            refine sxc_seq ?_
            refine sxc_region ?_
            refine sxo_move rfl rfl rfl ?_
            refine sxo_move rfl rfl rfl ?_
            refine sxo_lss rfl rfl rfl rfl ?_
            refine sxo_move rfl rfl rfl ?_
            refine sxo_join 5 (fun ((x17297, _) : (Bool × Unit)) => [(1, .pointer (some ⟨g4, 0, none⟩)), (4, .int .i64 (x1.length : Int)), (5, .slice a6 x17208.length c7), (6, .int .i64 x17209), (7, .int .i64 x11584), (8, .int .i64 x16407), (9, .int .i64 x17210), (33, .bool x17297)]) (fun ((x17297, _) : (Bool × Unit)) => [⟨g4, 24, [.slice a2 x1.length c3.1]⟩]) (fun ((x17297, _) : (Bool × Unit)) => [Ro (eI .i64) 3 1 (.slice a6 x17208.length c7) x17208]) (fun ((x17297, _) : (Bool × Unit)) => [SlN eN25 iN25 1 (.slice a2 x1.length c3.1) x1 c3.2]) (fun ((x17297, _) : (Bool × Unit)) => M_R_CoreThrees_j1206 F (M_R_CoreThrees_l1176 F (M_R_CoreThrees_l1008 F x1 k14477) x1 x11584 k16888) (M_R_CoreThrees_l1204 F (M_R_CoreThrees_l1176 F (M_R_CoreThrees_l1008 F x1 k14477) x1 x11584 k16888) x1 x11584 x16407 k17289) x1 x11584 x16407 x17208 x17209 x17210 x17297) ?_ ?_
            · refine sxo_take (os := _) rfl ?_
              refine sxo_if (fun h17295 => ?_) (fun h17295 => ?_)
              · refine sxo_isT (k := 28) rfl h17295 ?_
                refine sxo_loadB (i := 0) rfl rfl tf24 rfl rfl (by simp) rfl rfl ?_
                refine sxo_move rfl rfl rfl ?_
                refine sxo_move rfl rfl rfl ?_
                refine sxo_call ent20 rfl rfl rfl (fun x17367 e17367 => C_R_Near F x1 a2 c3 x16407 x11584 x17367 e17367) (.consF 0 rfl .nil) (fun x17367 e17367 => ?_)
                intro _
                refine sxo_pick (b := true) rfl rfl rfl rfl ?_
                refine sxo_nil ?_
                exact sxq_meetP (x17367, ()) (lk_cons rfl (lk_cons rfl (lk_cons rfl (lk_cons rfl (lk_cons rfl (lk_cons rfl (lk_cons rfl (lk_cons rfl lk_nil)))))))) (.cons 0 rfl .nil) (.cons 0 rfl .nil) (fk_cons 0 rfl fk_nil)
              · refine sxo_isF (k := 28) rfl h17295 ?_
                refine sxo_skip rfl rfl rfl ?_
                refine sxo_skip rfl rfl rfl ?_
                refine sxo_skip rfl rfl rfl ?_
                refine sxo_skip rfl rfl rfl ?_
                refine sxo_pick (b := false) rfl rfl rfl rfl ?_
                refine sxo_nil ?_
                exact sxq_meetP (false, ()) (lk_cons rfl (lk_cons rfl (lk_cons rfl (lk_cons rfl (lk_cons rfl (lk_cons rfl (lk_cons rfl (lk_cons rfl lk_nil)))))))) (.cons 0 rfl .nil) (.cons 0 rfl .nil) (fk_cons 0 rfl fk_nil)
            · rintro ⟨x17297, _⟩
              try dsimp only
              refine sxo_take (os := _) rfl ?_
              refine sxo_nil ?_
              refine sxq_next ?_
              refine sxc_if rfl (fun h17366 => ?_) (fun h17366 => ?_)
              · refine sxc_skip ?_
                refine sxq_next ?_
                refine sxc_join (fun (((x17331, x17332), _) : ((List Int × Int) × Unit)) => [(1, .pointer (some ⟨g4, 0, none⟩)), (4, .int .i64 (x1.length : Int)), (5, .slice a6 x17331.length c7), (6, .int .i64 x17332), (7, .int .i64 x11584), (8, .int .i64 x16407), (9, .int .i64 x17210)]) (fun (((x17331, x17332), _) : ((List Int × Int) × Unit)) => [⟨g4, 24, [.slice a2 x1.length c3.1]⟩]) (fun (((x17331, x17332), _) : ((List Int × Int) × Unit)) => [Ro (eI .i64) 3 1 (.slice a6 x17331.length c7) x17331]) (fun (((x17331, x17332), _) : ((List Int × Int) × Unit)) => [SlN eN25 iN25 1 (.slice a2 x1.length c3.1) x1 c3.2]) (fun (((x17331, x17332), _) : ((List Int × Int) × Unit)) => M_R_CoreThrees_j1208 F (M_R_CoreThrees_l1204 F (M_R_CoreThrees_l1176 F (M_R_CoreThrees_l1008 F x1 k14477) x1 x11584 k16888) x1 x11584 x16407 k17289) x17210 x17331 x17332) ?_ ?_
                · refine sxc_block ?_
                  refine sxc_seq ?_
                  refine sxc_region ?_
                  refine sxo_loadB (i := 0) rfl rfl tf24 rfl rfl (by simp) rfl rfl ?_
                  refine sxo_move rfl rfl rfl ?_
                  refine sxo_move rfl rfl rfl ?_
                  refine sxo_call ent20 rfl rfl rfl (fun x17333 e17333 => C_R_Near F x1 a2 c3 x17210 x16407 x17333 e17333) (.consF 0 rfl .nil) (fun x17333 e17333 => ?_)
                  intro _
                  refine sxo_move rfl rfl rfl ?_
                  refine sxo_join 5 (fun ((x17336, _) : (Bool × Unit)) => [(1, .pointer (some ⟨g4, 0, none⟩)), (4, .int .i64 (x1.length : Int)), (5, .slice a6 x17208.length c7), (6, .int .i64 x17209), (7, .int .i64 x11584), (8, .int .i64 x16407), (9, .int .i64 x17210), (45, .bool x17336)]) (fun ((x17336, _) : (Bool × Unit)) => [⟨g4, 24, [.slice a2 x1.length c3.1]⟩]) (fun ((x17336, _) : (Bool × Unit)) => [Ro (eI .i64) 3 1 (.slice a6 x17208.length c7) x17208]) (fun ((x17336, _) : (Bool × Unit)) => [SlN eN25 iN25 1 (.slice a2 x1.length c3.1) x1 c3.2]) (fun ((x17336, _) : (Bool × Unit)) => M_R_CoreThrees_j1209 F (M_R_CoreThrees_l1204 F (M_R_CoreThrees_l1176 F (M_R_CoreThrees_l1008 F x1 k14477) x1 x11584 k16888) x1 x11584 x16407 k17289) x11584 x16407 x17208 x17209 x17210 x17336) ?_ ?_
                  · refine sxo_take (os := _) rfl ?_
                    refine sxo_if (fun h17334 => ?_) (fun h17334 => ?_)
                    · refine sxo_isT (k := 40) rfl h17334 ?_
                      refine sxo_loadB (i := 0) rfl rfl tf24 rfl rfl (by simp) rfl rfl ?_
                      refine sxo_move rfl rfl rfl ?_
                      refine sxo_move rfl rfl rfl ?_
                      refine sxo_call ent20 rfl rfl rfl (fun x17365 e17365 => C_R_Near F x1 a2 c3 x17210 x11584 x17365 e17365) (.consF 0 rfl .nil) (fun x17365 e17365 => ?_)
                      intro _
                      refine sxo_pick (b := true) rfl rfl rfl rfl ?_
                      refine sxo_nil ?_
                      exact sxq_meetP (x17365, ()) (lk_cons rfl (lk_cons rfl (lk_cons rfl (lk_cons rfl (lk_cons rfl (lk_cons rfl (lk_cons rfl (lk_cons rfl lk_nil)))))))) (.cons 0 rfl .nil) (.cons 0 rfl .nil) (fk_cons 0 rfl fk_nil)
                    · refine sxo_isF (k := 40) rfl h17334 ?_
                      refine sxo_skip rfl rfl rfl ?_
                      refine sxo_skip rfl rfl rfl ?_
                      refine sxo_skip rfl rfl rfl ?_
                      refine sxo_skip rfl rfl rfl ?_
                      refine sxo_pick (b := false) rfl rfl rfl rfl ?_
                      refine sxo_nil ?_
                      exact sxq_meetP (false, ()) (lk_cons rfl (lk_cons rfl (lk_cons rfl (lk_cons rfl (lk_cons rfl (lk_cons rfl (lk_cons rfl (lk_cons rfl lk_nil)))))))) (.cons 0 rfl .nil) (.cons 0 rfl .nil) (fk_cons 0 rfl fk_nil)
                  · rintro ⟨x17336, _⟩
                    try dsimp only
                    refine sxo_take (os := _) rfl ?_
                    refine sxo_nil ?_
                    refine sxq_next ?_
                    refine sxc_if rfl (fun h17364 => ?_) (fun h17364 => ?_)
                    · refine sxc_seq ?_
                      refine sxc_region ?_
                      refine sxo_move rfl rfl rfl ?_
                      refine sxo_move rfl rfl rfl ?_
                      refine sxo_indexR (j := 0) rfl Try.underlying25 tf3 rfl rfl rfl rfl (fun x17337 e17337 g17338 h17339 => ?_)
                      refine sxo_loadR (j := 0) (y := x17337) (eI_ok .i64) rfl rfl tf3 rfl h17339 (idx_get e17337).2.2 (fun _ => rfl) rfl rfl ?_
                      refine sxo_add rfl rfl rfl rfl ?_
                      refine sxo_indexR (j := 0) rfl Try.underlying25 tf3 rfl rfl rfl rfl (fun x17340 e17340 g17341 h17342 => ?_)
                      refine sxo_storeL (j := 0) (y' := iadd .i64 x17337 1) (eI_ok .i64) rfl rfl rfl tf3 rfl h17342 (idx_get e17340).2.1 rfl (fun x17343 e17343 h17344 => ?_)
                      have h17345 : x17343.length = x17208.length := by rw [← e17343, List.length_set]
                      refine sxo_again (d := 5) (v := .slice a6 x17343.length c7) rfl h17344 ?_
                      refine sxo_again (d := 46) (v := .slice a6 x17343.length c7) rfl h17344 ?_
                      refine sxo_nil ?_
                      refine sxq_next ?_
                      refine sxc_seq ?_
                      refine sxc_region ?_
                      refine sxo_move rfl rfl rfl ?_
                      refine sxo_move rfl rfl rfl ?_
                      refine sxo_indexR (j := 0) rfl Try.underlying25 tf3 rfl rfl rfl rfl (fun x17346 e17346 g17347 h17348 => ?_)
                      refine sxo_loadR (j := 0) (y := x17346) (eI_ok .i64) rfl rfl tf3 rfl h17348 (idx_get e17346).2.2 (fun _ => rfl) rfl rfl ?_
                      refine sxo_add rfl rfl rfl rfl ?_
                      refine sxo_indexR (j := 0) rfl Try.underlying25 tf3 rfl rfl rfl rfl (fun x17349 e17349 g17350 h17351 => ?_)
                      refine sxo_storeL (j := 0) (y' := iadd .i64 x17346 1) (eI_ok .i64) rfl rfl rfl tf3 rfl h17351 (idx_get e17349).2.1 rfl (fun x17352 e17352 h17353 => ?_)
                      have h17354 : x17352.length = x17343.length := by rw [← e17352, List.length_set]
                      refine sxo_again (d := 5) (v := .slice a6 x17352.length c7) rfl h17353 ?_
                      refine sxo_again (d := 46) (v := .slice a6 x17352.length c7) rfl h17353 ?_
                      refine sxo_again (d := 52) (v := .slice a6 x17352.length c7) rfl h17353 ?_
                      refine sxo_nil ?_
                      refine sxq_next ?_
                      refine sxc_seq ?_
                      refine sxc_region ?_
                      refine sxo_move rfl rfl rfl ?_
                      refine sxo_move rfl rfl rfl ?_
                      refine sxo_indexR (j := 0) rfl Try.underlying25 tf3 rfl rfl rfl rfl (fun x17355 e17355 g17356 h17357 => ?_)
                      refine sxo_loadR (j := 0) (y := x17355) (eI_ok .i64) rfl rfl tf3 rfl h17357 (idx_get e17355).2.2 (fun _ => rfl) rfl rfl ?_
                      refine sxo_add rfl rfl rfl rfl ?_
                      refine sxo_indexR (j := 0) rfl Try.underlying25 tf3 rfl rfl rfl rfl (fun x17358 e17358 g17359 h17360 => ?_)
                      refine sxo_storeL (j := 0) (y' := iadd .i64 x17355 1) (eI_ok .i64) rfl rfl rfl tf3 rfl h17360 (idx_get e17358).2.1 rfl (fun x17361 e17361 h17362 => ?_)
                      have h17363 : x17361.length = x17352.length := by rw [← e17361, List.length_set]
                      refine sxo_again (d := 5) (v := .slice a6 x17361.length c7) rfl h17362 ?_
                      refine sxo_again (d := 46) (v := .slice a6 x17361.length c7) rfl h17362 ?_
                      refine sxo_again (d := 52) (v := .slice a6 x17361.length c7) rfl h17362 ?_
                      refine sxo_again (d := 58) (v := .slice a6 x17361.length c7) rfl h17362 ?_
                      refine sxo_nil ?_
                      refine sxq_next ?_
                      refine sxc_region ?_
                      refine sxo_move rfl rfl rfl ?_
                      refine sxo_add rfl rfl rfl rfl ?_
                      refine sxo_assign rfl rfl rfl ?_
                      refine sxo_nil ?_
                      refine sxq_blkN ?_
                      exact sxq_meetP ((x17361, iadd .i64 x17209 1), ()) (lk_cons rfl (lk_cons rfl (lk_cons rfl (lk_cons rfl (lk_cons rfl (lk_cons rfl (lk_cons rfl lk_nil))))))) (.cons 0 rfl .nil) (.cons 0 rfl .nil) (fk_cons 0 rfl fk_nil)
                    · refine sxc_skip ?_
                      refine sxq_blkN ?_
                      exact sxq_meetP ((x17208, x17209), ()) (lk_cons rfl (lk_cons rfl (lk_cons rfl (lk_cons rfl (lk_cons rfl (lk_cons rfl (lk_cons rfl lk_nil))))))) (.cons 0 rfl .nil) (.cons 0 rfl .nil) (fk_cons 0 rfl fk_nil)
                · rintro ⟨⟨x17331, x17332⟩, _⟩
                  try dsimp only
                  refine sxc_region ?_
                  refine sxo_move rfl rfl rfl ?_
                  refine sxo_add rfl rfl rfl rfl ?_
                  refine sxo_assign rfl rfl rfl ?_
                  refine sxo_nil ?_
                  exact sxq_againP ((x17331, x17332, iadd .i64 x17210 1), ()) (lk_cons rfl (lk_cons rfl (lk_cons rfl (lk_cons rfl (lk_cons rfl (lk_cons rfl (lk_cons rfl lk_nil))))))) (.cons 0 rfl .nil) (.cons 0 rfl .nil) (fk_cons 0 rfl fk_nil)
              · refine sxc_exit ?_
                refine sxq_thenX ?_
                refine sxq_thenX ?_
                refine sxq_blkX ?_
                refine sxq_blkN ?_
                exact sxq_meetP ((x17208, x17209), ()) (lk_cons rfl (lk_cons rfl (lk_cons rfl (lk_cons rfl (lk_cons rfl (lk_cons rfl lk_nil)))))) (.cons 0 rfl .nil) (.cons 0 rfl .nil) (fk_cons 0 rfl fk_nil)
          · rintro ⟨⟨x17128, x17129⟩, _⟩
            try dsimp only
            refine sxc_region ?_
            refine sxo_move rfl rfl rfl ?_
            refine sxo_add rfl rfl rfl rfl ?_
            refine sxo_assign rfl rfl rfl ?_
            refine sxo_nil ?_
            exact sxq_againP ((x17128, x17129, iadd .i64 x16407 1), ()) (lk_cons rfl (lk_cons rfl (lk_cons rfl (lk_cons rfl (lk_cons rfl (lk_cons rfl lk_nil)))))) (.cons 0 rfl .nil) (.cons 0 rfl .nil) (fk_cons 0 rfl fk_nil)
        · refine sxc_exit ?_
          refine sxq_thenX ?_
          refine sxq_thenX ?_
          refine sxq_blkX ?_
          refine sxq_blkN ?_
          exact sxq_meetP ((x16405, x16406), ()) (lk_cons rfl (lk_cons rfl (lk_cons rfl (lk_cons rfl (lk_cons rfl lk_nil))))) (.cons 0 rfl .nil) (.cons 0 rfl .nil) (fk_cons 0 rfl fk_nil)
      · rintro ⟨⟨x15923, x15924⟩, _⟩
        try dsimp only
        refine sxc_region ?_
        refine sxo_move rfl rfl rfl ?_
        refine sxo_add rfl rfl rfl rfl ?_
        refine sxo_assign rfl rfl rfl ?_
        refine sxo_nil ?_
        exact sxq_againP ((x15923, x15924, iadd .i64 x11584 1), ()) (lk_cons rfl (lk_cons rfl (lk_cons rfl (lk_cons rfl (lk_cons rfl lk_nil))))) (.cons 0 rfl .nil) (.cons 0 rfl .nil) (fk_cons 0 rfl fk_nil)
    · refine sxc_exit ?_
      refine sxq_thenX ?_
      refine sxq_thenX ?_
      refine sxq_blkX ?_
      exact sxq_meetP ((x11582, x11583), ()) (lk_cons rfl (lk_cons rfl lk_nil)) .nil (.cons 0 rfl .nil) fk_nil
  · rintro ⟨⟨x8688, x8689⟩, _⟩
    try dsimp only
    refine sxc_seq ?_
    refine sxc_region ?_
    refine sxo_move rfl rfl rfl ?_
    refine sxo_move rfl rfl rfl ?_
    refine sxo_assign rfl rfl rfl ?_
    refine sxo_assign rfl rfl rfl ?_
    refine sxo_nil ?_
    refine sxq_next ?_
    refine sxc_ret ?_
    exact sxq_doneP (a6, c7) (.inl rfl) (res2 rfl rfl rfl) (fun h => by subst h; rfl) (fun h => by subst h; exact (.cons 0 rfl .nil))

theorem C_R_SameInts (F : Nat) (x1 : List Int) (a2 : Option Addr) (c3 : Nat) (x4 : List Int) (a5 : Option Addr) (c6 : Nat) (r : Bool) (hm : M_R_SameInts F x1 x4 = some r) :
    Pure Try.prog 18 [.slice a2 x1.length c3, .slice a5 x4.length c6] [Sl (eI .i64) 1 (.slice a2 x1.length c3) x1, Sl (eI .i64) 1 (.slice a5 x4.length c6) x4] Unit (fun _ => .bool r) (fun _ => []) (fun _ => []) := by
  refine pure_of Try.func18 rfl Try.ntmps18 rfl hm (fun w => ?_)
  refine sxc_env (l' := [(0, .slice a2 x1.length c3), (1, .slice a5 x4.length c6)]) rfl ?_
  refine sxc_seq ?_
  refine sxc_region ?_
  refine sxo_assign rfl rfl rfl ?_
  refine sxo_nil ?_
  refine sxq_next ?_
  refine sxc_seq ?_
  refine sxc_seq ?_
  refine sxc_region ?_
  refine sxo_move rfl rfl rfl ?_
  refine sxo_len rfl Try.underlying25 rfl rfl ?_
  refine sxo_move rfl rfl rfl ?_
  refine sxo_len rfl Try.underlying25 rfl rfl ?_
  refine sxo_neq rfl rfl rfl rfl ?_
  refine sxo_nil ?_
  refine sxq_next ?_
  refine sxc_if rfl (fun h228 => ?_) (fun h228 => ?_)
  · refine sxc_seq ?_
    refine sxc_region ?_
    refine sxo_assign rfl rfl rfl ?_
    refine sxo_nil ?_
    refine sxq_next ?_
    refine sxc_ret ?_
    refine sxq_thenR ?_
    exact sxq_doneP () (.inl rfl) (res1 rfl rfl) (fun h => by subst h; rfl) (fun h => by subst h; exact .nil)
  · refine sxc_skip ?_
    refine sxq_next ?_
    refine sxc_join (fun ((_, _) : (Unit × Unit)) => []) (fun ((_, _) : (Unit × Unit)) => []) (fun ((_, _) : (Unit × Unit)) => []) (fun ((_, _) : (Unit × Unit)) => []) (fun ((_, _) : (Unit × Unit)) => M_R_SameInts_j2 F) ?_ ?_
    · refine sxc_seq ?_
      refine sxc_region ?_
      refine sxo_assign rfl rfl rfl ?_
      refine sxo_nil ?_
      refine sxq_next ?_
      refine sxc_block ?_
      refine sxc_loopP (fun ((x154, _) : (Int × Unit)) => [(0, .slice a2 x1.length c3), (1, .slice a5 x4.length c6), (5, .int .i64 x154)]) (fun ((x154, _) : (Int × Unit)) => []) (fun ((x154, _) : (Int × Unit)) => []) (fun ((x154, _) : (Int × Unit)) => [Sl (eI .i64) 1 (.slice a2 x1.length c3) x1, Sl (eI .i64) 1 (.slice a5 x4.length c6) x4]) (fun k (s : (Int × Unit)) => M_R_SameInts_l3 F x1 x4 k s.1) (0, ()) F (lk_cons rfl (lk_cons rfl (lk_cons rfl lk_nil))) .nil .nil (fk_cons 0 rfl (fk_cons 1 rfl fk_nil)) (fun _ => rfl) ?_
      intro k191
      rintro ⟨x154, _⟩
      try dsimp only
      refine sxc_meq (m' := M_R_SameInts_b3 F x1 x4 (M_R_SameInts_l3 F x1 x4 k191) x154) rfl ?_
      refine sxc_seq ?_
      refine sxc_seq ?_
      refine sxc_region ?_
      refine sxo_move rfl rfl rfl ?_
      refine sxo_move rfl rfl rfl ?_
      refine sxo_len rfl Try.underlying25 rfl rfl ?_
      refine sxo_lss rfl rfl rfl rfl ?_
      refine sxo_nil ?_
      refine sxq_next ?_
      refine sxc_if rfl (fun h227 => ?_) (fun h227 => ?_)
      · refine sxc_skip ?_
        refine sxq_next ?_
        refine sxc_seq ?_
        refine sxc_block ?_
        refine sxc_seq ?_
        refine sxc_idxF (j := 0) (eI_ok .i64) (by decide) rfl (fun x218 e218 b219 o220 h221 => ?_)
        replace h221 : a2 = some ⟨b219, o220, none⟩ := h221
        refine sxc_idxF (j := 2) (eI_ok .i64) (by decide) rfl (fun x222 e222 b223 o224 h225 => ?_)
        replace h225 : a5 = some ⟨b223, o224, none⟩ := h225
        refine sxb_draw mixed [] [] [CellsAt b223 (o224 + x154.toNat * 1) ((eI .i64) x222), CellsAt b219 (o220 + x154.toNat * 1) ((eI .i64) x218), Sl (eI .i64) 1 (.slice a2 x1.length c3) x1, Sl (eI .i64) 1 (.slice a5 x4.length c6) x4] .nil (gk_F 0 rfl (gk_F 1 rfl (gk_F 2 rfl (gk_F 3 rfl gk_nil)))) 9 rfl ?_
        refine sxb_takeP 0 (.slice a2 x1.length c3) rfl rfl rfl rfl (by kernel_rfl) (by kernel_rfl) (by kernel_rfl) (by kernel_rfl) (by kernel_rfl) rfl (show _ = #[true, false, false, false, false, false, false, false, false] from rfl) (yv_pv rfl) ?_
        refine sxb_takeP 1 (.int .i64 x154) rfl rfl rfl rfl (by kernel_rfl) (by kernel_rfl) (by kernel_rfl) (by kernel_rfl) (by kernel_rfl) rfl (show _ = #[true, true, false, false, false, false, false, false, false] from rfl) (yv_pv rfl) ?_
        refine sxb_again (d := 17) (v := .slice (some ⟨b219, o220, none⟩) x1.length c3) rfl (by rw [h221] <;> rfl) ?_
        refine sxb_takeP 2 (.pointer (some ⟨b219, (o220 + x154.toNat * 1), none⟩)) rfl rfl rfl rfl (by kernel_rfl) (by kernel_rfl) (by kernel_rfl) (by kernel_rfl) (by kernel_rfl) rfl (show _ = #[true, true, true, false, false, false, false, false, false] from rfl) (yv_idx Try.underlying25 tf3 rfl rfl (idx_get e218).1 (idx_lt e218)) ?_
        refine sxb_again (d := 17) (v := .slice a2 x1.length c3) rfl (by rw [h221] <;> rfl) ?_
        refine sxb_take 3 (.int .i64 x218) [] rfl rfl rfl rfl (by kernel_rfl) (by kernel_rfl) (by kernel_rfl) (by kernel_rfl) (by kernel_rfl) (by kernel_rfl) rfl (show _ = #[true, true, true, true, false, false, false, false, false] from rfl) (yv_loadF (j := 1) rfl tf3 rfl rfl (fun _ => rfl) rfl) ?_
        refine sxb_takeP 4 (.slice a5 x4.length c6) rfl rfl rfl rfl (by kernel_rfl) (by kernel_rfl) (by kernel_rfl) (by kernel_rfl) (by kernel_rfl) rfl (show _ = #[true, true, true, true, true, false, false, false, false] from rfl) (yv_pv rfl) ?_
        refine sxb_takeP 5 (.int .i64 x154) rfl rfl rfl rfl (by kernel_rfl) (by kernel_rfl) (by kernel_rfl) (by kernel_rfl) (by kernel_rfl) rfl (show _ = #[true, true, true, true, true, true, false, false, false] from rfl) (yv_pv rfl) ?_
        refine sxb_again (d := 21) (v := .slice (some ⟨b223, o224, none⟩) x4.length c6) rfl (by rw [h225] <;> rfl) ?_
        refine sxb_takeP 6 (.pointer (some ⟨b223, (o224 + x154.toNat * 1), none⟩)) rfl rfl rfl rfl (by kernel_rfl) (by kernel_rfl) (by kernel_rfl) (by kernel_rfl) (by kernel_rfl) rfl (show _ = #[true, true, true, true, true, true, true, false, false] from rfl) (yv_idx Try.underlying25 tf3 rfl rfl (idx_get e222).1 (idx_lt e222)) ?_
        refine sxb_again (d := 21) (v := .slice a5 x4.length c6) rfl (by rw [h225] <;> rfl) ?_
        refine sxb_take 7 (.int .i64 x222) [] rfl rfl rfl rfl (by kernel_rfl) (by kernel_rfl) (by kernel_rfl) (by kernel_rfl) (by kernel_rfl) (by kernel_rfl) rfl (show _ = #[true, true, true, true, true, true, true, true, false] from rfl) (yv_loadF (j := 0) rfl tf3 rfl rfl (fun _ => rfl) rfl) ?_
        refine sxb_takeP 8 (.bool ((x218 : Int) != x222)) rfl rfl rfl rfl (by kernel_rfl) (by kernel_rfl) (by kernel_rfl) (by kernel_rfl) (by kernel_rfl) rfl (show _ = #[true, true, true, true, true, true, true, true, true] from rfl) (yv_pv rfl) ?_
        refine sxb_done (by kernel_rfl) ?_
        refine sxq_np ?_ (by intro c h; cases h)
        refine sxq_next ?_
        refine sxc_if rfl (fun h226 => ?_) (fun h226 => ?_)
        · refine sxc_seq ?_
          refine sxc_region ?_
          refine sxo_assign rfl rfl rfl ?_
          refine sxo_nil ?_
          refine sxq_next ?_
          refine sxc_ret ?_
          refine sxq_blkR ?_
          refine sxq_thenR ?_
          refine sxq_thenR ?_
          refine sxq_blkR ?_
          refine sxq_thenR ?_
          exact sxq_doneP () (.inl rfl) (res1 rfl rfl) (fun h => by subst h; rfl) (fun h => by subst h; exact .nil)
        · refine sxc_skip ?_
          refine sxq_blkN ?_
          refine sxq_next ?_
          refine sxc_region ?_
          refine sxo_move rfl rfl rfl ?_
          refine sxo_add rfl rfl rfl rfl ?_
          refine sxo_assign rfl rfl rfl ?_
          refine sxo_nil ?_
          exact sxq_againP (iadd .i64 x154 1, ()) (lk_cons rfl (lk_cons rfl (lk_cons rfl lk_nil))) .nil .nil (fk_cons 2 rfl (fk_cons 3 rfl fk_nil))
      · refine sxc_exit ?_
        refine sxq_thenX ?_
        refine sxq_thenX ?_
        refine sxq_blkX ?_
        exact sxq_meetP ((), ()) lk_nil .nil .nil fk_nil
    · rintro ⟨_, _⟩
      try dsimp only
      refine sxc_seq ?_
      refine sxc_region ?_
      refine sxo_assign rfl rfl rfl ?_
      refine sxo_nil ?_
      refine sxq_next ?_
      refine sxc_ret ?_
      exact sxq_doneP () (.inl rfl) (res1 rfl rfl) (fun h => by subst h; rfl) (fun h => by subst h; exact .nil)

theorem C_L_coreBegun (F : Nat)  (r : Bool) (hm : M_L_coreBegun F  = some r) :
    Pure Try.prog 17 [] [] Unit (fun _ => .bool r) (fun _ => []) (fun _ => []) := by
  refine pure_of Try.func17 rfl Try.ntmps17 rfl hm (fun w => ?_)
  refine sxc_env (l' := []) rfl ?_
  refine sxc_seq ?_
  refine sxc_region ?_
  refine sxo_assign rfl rfl rfl ?_
  refine sxo_nil ?_
  refine sxq_next ?_
  refine sxc_seq ?_
  refine sxc_region ?_
  refine sxo_slit (vs := [.int .i64 0, .int .i64 1, .int .i64 2]) (ys := ([0, 1, 2] : List Int)) (eI_ok .i64) (by decide) rfl Try.underlying25 tf3 rfl rfl rfl rfl rfl (by decide) (fun a1 c2 => ?_)
  refine sxo_slit (vs := [.int .i64 2]) (ys := ([2] : List Int)) (eI_ok .i64) (by decide) rfl Try.underlying25 tf3 rfl rfl rfl rfl rfl (by decide) (fun a3 c4 => ?_)
  refine sxo_slit (vs := [.int .i64 0]) (ys := ([0] : List Int)) (eI_ok .i64) (by decide) rfl Try.underlying25 tf3 rfl rfl rfl rfl rfl (by decide) (fun a5 c6 => ?_)
  refine sxo_slit (vs := [.int .i64 2]) (ys := ([2] : List Int)) (eI_ok .i64) (by decide) rfl Try.underlying25 tf3 rfl rfl rfl rfl rfl (by decide) (fun a7 c8 => ?_)
  refine sxo_freeze 3 rfl ?_
  refine sxo_freeze 2 rfl ?_
  refine sxo_freeze 1 rfl ?_
  refine sxo_freeze 0 rfl ?_
  refine sxo_nilrow' Int (eI .i64) 3 1 ?_
  refine sxo_freeze 0 rfl ?_
  refine sxo_slit (vs := [.slice a1 ([0, 1, 2] : List Int).length c2, .slice a3 ([2] : List Int).length c4, .slice a5 ([0] : List Int).length c6, .slice a7 ([2] : List Int).length c8, .slice none 0 0]) (ys := ([(([0, 1, 2] : List Int), (a1, c2)), (([2] : List Int), (a3, c4)), (([0] : List Int), (a5, c6)), (([2] : List Int), (a7, c8)), (([] : List Int), (none, 0))] : List (List Int × (Option Addr × Nat)))) eN25_ok (by decide) rfl Try.underlying22 tf25 rfl rfl rfl rfl rfl (by decide) (fun a9 c10 => ?_)
  refine sxo_nestF (inn := iN25) ([([0, 1, 2] : List Int), ([2] : List Int), ([0] : List Int), ([2] : List Int), ([] : List Int)] : List (List Int)) ([(a1, c2), (a3, c4), (a5, c6), (a7, c8), (none, 0)] : List (Option Addr × Nat)) 0 rfl rfl (fk_cons 4 rfl (fk_cons 3 rfl (fk_cons 2 rfl (fk_cons 1 rfl (fk_cons 0 rfl fk_nil))))) ?_
  refine sxo_build (cells := [.slice a9 ([([0, 1, 2] : List Int), ([2] : List Int), ([0] : List Int), ([2] : List Int), ([] : List Int)] : List (List Int)).length c10]) rfl st24 rfl (by kernel_rfl) rfl ?_
  refine sxo_alloc rfl tf24 rfl (fun g11 => ?_)
  refine sxo_storeB (i := 0) rfl rfl rfl tf24 rfl rfl rfl rfl rfl ?_
  refine sxo_nil ?_
  refine sxq_next ?_
  refine sxc_seq ?_
  refine sxc_region ?_
  refine sxo_loadB (i := 0) rfl rfl tf24 rfl rfl (by simp) rfl rfl ?_
  refine sxo_call ent10 rfl rfl rfl (fun x12 e12 => C_core_Numbers F ([([0, 1, 2] : List Int), ([2] : List Int), ([0] : List Int), ([2] : List Int), ([] : List Int)] : List (List Int)) a9 (c10, ([(a1, c2), (a3, c4), (a5, c6), (a7, c8), (none, 0)] : List (Option Addr × Nat))) x12 e12) (.consF 0 rfl .nil) (fun x12 e12 => ?_)
  rintro ⟨a13, c14⟩
  refine sxo_move rfl rfl rfl ?_
  refine sxo_extract rfl rfl rfl rfl ?_
  refine sxo_extract rfl rfl rfl rfl ?_
  refine sxo_assign rfl rfl rfl ?_
  refine sxo_assign rfl rfl rfl ?_
  refine sxo_nil ?_
  refine sxq_next ?_
  refine sxc_seq ?_
  refine sxc_region ?_
  refine sxo_loadB (i := 0) rfl rfl tf24 rfl rfl (by simp) rfl rfl ?_
  refine sxo_callM ent11 rfl rfl rfl (fun x15 e15 => C_core_Threes F ([([0, 1, 2] : List Int), ([2] : List Int), ([0] : List Int), ([2] : List Int), ([] : List Int)] : List (List Int)) a9 (c10, ([(a1, c2), (a3, c4), (a5, c6), (a7, c8), (none, 0)] : List (Option Addr × Nat))) x15 e15) .nil .nil (.consF 0 rfl .nil) (fun x15 e15 => ?_)
  rintro ⟨a16, c17⟩
  refine sxo_move rfl rfl rfl ?_
  refine sxo_extract rfl rfl rfl rfl ?_
  refine sxo_extract rfl rfl rfl rfl ?_
  refine sxo_extract rfl rfl rfl rfl ?_
  refine sxo_assign rfl rfl rfl ?_
  refine sxo_assign rfl rfl rfl ?_
  refine sxo_assign rfl rfl rfl ?_
  refine sxo_nil ?_
  refine sxq_next ?_
  refine sxc_seq ?_
  refine sxc_region ?_
  refine sxo_loadB (i := 0) rfl rfl tf24 rfl rfl (by simp) rfl rfl ?_
  refine sxo_call ent12 rfl rfl rfl (fun x18 e18 => C_core_Pairs F ([([0, 1, 2] : List Int), ([2] : List Int), ([0] : List Int), ([2] : List Int), ([] : List Int)] : List (List Int)) a9 (c10, ([(a1, c2), (a3, c4), (a5, c6), (a7, c8), (none, 0)] : List (Option Addr × Nat))) x18 e18) (.consF 0 rfl .nil) (fun x18 e18 => ?_)
  rintro ⟨a19, c20⟩
  refine sxo_move rfl rfl rfl ?_
  refine sxo_extract rfl rfl rfl rfl ?_
  refine sxo_extract rfl rfl rfl rfl ?_
  refine sxo_assign rfl rfl rfl ?_
  refine sxo_assign rfl rfl rfl ?_
  refine sxo_nil ?_
  refine sxq_next ?_
  refine sxc_seq ?_
  refine sxc_region ?_
  refine sxo_move rfl rfl rfl ?_
  refine sxo_slit (vs := [.int .i64 2, .int .i64 2, .int .i64 2, .int .i64 1, .int .i64 0]) (ys := ([2, 2, 2, 1, 0] : List Int)) (eI_ok .i64) (by decide) rfl Try.underlying25 tf3 rfl rfl rfl rfl rfl (by decide) (fun a21 c22 => ?_)
  refine sxo_call ent18 rfl rfl rfl (fun x23 e23 => C_R_SameInts F x12.1 a13 c14 ([2, 2, 2, 1, 0] : List Int) a21 c22 x23 e23) (.consR 3 (Ro (eI .i64) 3 1 (.slice a13 x12.1.length c14) x12.1) rfl (.consR 0 (Ro (eI .i64) 3 1 (.slice a21 ([2, 2, 2, 1, 0] : List Int).length c22) ([2, 2, 2, 1, 0] : List Int)) rfl .nil)) (fun x23 e23 => ?_)
  intro _
  refine sxo_move rfl rfl rfl ?_
  refine sxo_case 3 x23 [(4, .slice a16 x15.1.length c17), (5, .int .i64 x15.2.1), (6, .int .i64 x15.2.2), (7, .slice a19 x18.1.length c20), (8, .int .i64 x18.2), (37, .bool (x23 && ((x12.2 : Int) == 0)))] (fun h24 => ?_) (fun h24 => ?_) ?_
  · refine sxo_take (os := _) rfl ?_
    refine sxo_isT (k := 34) rfl h24 ?_
    refine sxo_move rfl rfl rfl ?_
    refine sxo_eql rfl rfl rfl rfl ?_
    refine sxo_pick (b := true) rfl rfl rfl rfl ?_
    refine sxo_again (d := 37) (v := .bool (x23 && ((x12.2 : Int) == 0))) rfl (by rw [h24]; simp only [Bool.true_and]) ?_
    refine sxo_nil ?_
    exact sxq_case (lk_cons rfl (lk_cons rfl (lk_cons rfl (lk_cons rfl (lk_cons rfl (lk_cons rfl lk_nil))))))
  · refine sxo_take (os := _) rfl ?_
    refine sxo_isF (k := 34) rfl h24 ?_
    refine sxo_skip rfl rfl rfl ?_
    refine sxo_skip rfl rfl rfl ?_
    refine sxo_pick (b := false) rfl rfl rfl rfl ?_
    refine sxo_again (d := 37) (v := .bool (x23 && ((x12.2 : Int) == 0))) rfl (by rw [h24]; simp only [Bool.false_and]) ?_
    refine sxo_nil ?_
    exact sxq_case (lk_cons rfl (lk_cons rfl (lk_cons rfl (lk_cons rfl (lk_cons rfl (lk_cons rfl lk_nil))))))
  refine sxo_take (os := _) rfl ?_
  refine sxo_move rfl rfl rfl ?_
  refine sxo_join 4 (fun ((x29, _) : (Bool × Unit)) => [(5, .int .i64 x15.2.1), (6, .int .i64 x15.2.2), (7, .slice a19 x18.1.length c20), (8, .int .i64 x18.2), (42, .bool x29)]) (fun ((x29, _) : (Bool × Unit)) => []) (fun ((x29, _) : (Bool × Unit)) => [Ro (eI .i64) 3 1 (.slice a19 x18.1.length c20) x18.1]) (fun ((x29, _) : (Bool × Unit)) => []) (fun ((x29, _) : (Bool × Unit)) => M_L_coreBegun_j1 F x15 x18 x29) ?_ ?_
  · refine sxo_take (os := _) rfl ?_
    refine sxo_if (fun h25 => ?_) (fun h25 => ?_)
    · refine sxo_isT (k := 38) rfl h25 ?_
      refine sxo_move rfl rfl rfl ?_
      refine sxo_slit (vs := [.int .i64 1, .int .i64 1, .int .i64 1, .int .i64 0, .int .i64 0]) (ys := ([1, 1, 1, 0, 0] : List Int)) (eI_ok .i64) (by decide) rfl Try.underlying25 tf3 rfl rfl rfl rfl rfl (by decide) (fun a41 c42 => ?_)
      refine sxo_call ent18 rfl rfl rfl (fun x43 e43 => C_R_SameInts F x15.1 a16 c17 ([1, 1, 1, 0, 0] : List Int) a41 c42 x43 e43) (.consR 3 (Ro (eI .i64) 3 1 (.slice a16 x15.1.length c17) x15.1) rfl (.consR 0 (Ro (eI .i64) 3 1 (.slice a41 ([1, 1, 1, 0, 0] : List Int).length c42) ([1, 1, 1, 0, 0] : List Int)) rfl .nil)) (fun x43 e43 => ?_)
      intro _
      refine sxo_pick (b := true) rfl rfl rfl rfl ?_
      refine sxo_nil ?_
      exact sxq_meetP (x43, ()) (lk_cons rfl (lk_cons rfl (lk_cons rfl (lk_cons rfl (lk_cons rfl lk_nil))))) .nil (.cons 2 rfl .nil) fk_nil
    · refine sxo_isF (k := 38) rfl h25 ?_
      refine sxo_skip rfl rfl rfl ?_
      refine sxo_skip rfl rfl rfl ?_
      refine sxo_skip rfl rfl rfl ?_
      refine sxo_pick (b := false) rfl rfl rfl rfl ?_
      refine sxo_nil ?_
      exact sxq_meetP (false, ()) (lk_cons rfl (lk_cons rfl (lk_cons rfl (lk_cons rfl (lk_cons rfl lk_nil))))) .nil (.cons 1 rfl .nil) fk_nil
  · rintro ⟨x29, _⟩
    try dsimp only
    refine sxo_take (os := _) rfl ?_
    refine sxo_move rfl rfl rfl ?_
    refine sxo_case 3 x29 [(6, .int .i64 x15.2.2), (7, .slice a19 x18.1.length c20), (8, .int .i64 x18.2), (46, .bool (x29 && ((x15.2.1 : Int) == 1)))] (fun h30 => ?_) (fun h30 => ?_) ?_
    · refine sxo_take (os := _) rfl ?_
      refine sxo_isT (k := 43) rfl h30 ?_
      refine sxo_move rfl rfl rfl ?_
      refine sxo_eql rfl rfl rfl rfl ?_
      refine sxo_pick (b := true) rfl rfl rfl rfl ?_
      refine sxo_again (d := 46) (v := .bool (x29 && ((x15.2.1 : Int) == 1))) rfl (by rw [h30]; simp only [Bool.true_and]) ?_
      refine sxo_nil ?_
      exact sxq_case (lk_cons rfl (lk_cons rfl (lk_cons rfl (lk_cons rfl lk_nil))))
    · refine sxo_take (os := _) rfl ?_
      refine sxo_isF (k := 43) rfl h30 ?_
      refine sxo_skip rfl rfl rfl ?_
      refine sxo_skip rfl rfl rfl ?_
      refine sxo_pick (b := false) rfl rfl rfl rfl ?_
      refine sxo_again (d := 46) (v := .bool (x29 && ((x15.2.1 : Int) == 1))) rfl (by rw [h30]; simp only [Bool.false_and]) ?_
      refine sxo_nil ?_
      exact sxq_case (lk_cons rfl (lk_cons rfl (lk_cons rfl (lk_cons rfl lk_nil))))
    refine sxo_take (os := _) rfl ?_
    refine sxo_move rfl rfl rfl ?_
    refine sxo_case 3 (x29 && ((x15.2.1 : Int) == 1)) [(7, .slice a19 x18.1.length c20), (8, .int .i64 x18.2), (50, .bool ((x29 && ((x15.2.1 : Int) == 1)) && ((x15.2.2 : Int) == 0)))] (fun h31 => ?_) (fun h31 => ?_) ?_
    · refine sxo_take (os := _) rfl ?_
      refine sxo_isT (k := 47) rfl h31 ?_
      refine sxo_move rfl rfl rfl ?_
      refine sxo_eql rfl rfl rfl rfl ?_
      refine sxo_pick (b := true) rfl rfl rfl rfl ?_
      refine sxo_again (d := 50) (v := .bool ((x29 && ((x15.2.1 : Int) == 1)) && ((x15.2.2 : Int) == 0))) rfl (by rw [h31]; simp only [Bool.true_and]) ?_
      refine sxo_nil ?_
      exact sxq_case (lk_cons rfl (lk_cons rfl (lk_cons rfl lk_nil)))
    · refine sxo_take (os := _) rfl ?_
      refine sxo_isF (k := 47) rfl h31 ?_
      refine sxo_skip rfl rfl rfl ?_
      refine sxo_skip rfl rfl rfl ?_
      refine sxo_pick (b := false) rfl rfl rfl rfl ?_
      refine sxo_again (d := 50) (v := .bool ((x29 && ((x15.2.1 : Int) == 1)) && ((x15.2.2 : Int) == 0))) rfl (by rw [h31]; simp only [Bool.false_and]) ?_
      refine sxo_nil ?_
      exact sxq_case (lk_cons rfl (lk_cons rfl (lk_cons rfl lk_nil)))
    refine sxo_take (os := _) rfl ?_
    refine sxo_move rfl rfl rfl ?_
    refine sxo_join 4 (fun ((x36, _) : (Bool × Unit)) => [(8, .int .i64 x18.2), (55, .bool x36)]) (fun ((x36, _) : (Bool × Unit)) => []) (fun ((x36, _) : (Bool × Unit)) => []) (fun ((x36, _) : (Bool × Unit)) => []) (fun ((x36, _) : (Bool × Unit)) => M_L_coreBegun_j2 F x18 x36) ?_ ?_
    · refine sxo_take (os := _) rfl ?_
      refine sxo_if (fun h32 => ?_) (fun h32 => ?_)
      · refine sxo_isT (k := 51) rfl h32 ?_
        refine sxo_move rfl rfl rfl ?_
        refine sxo_slit (vs := [.int .i64 1, .int .i64 0, .int .i64 3, .int .i64 2, .int .i64 (-1)]) (ys := ([1, 0, 3, 2, -1] : List Int)) (eI_ok .i64) (by decide) rfl Try.underlying25 tf3 rfl rfl rfl rfl rfl (by decide) (fun a38 c39 => ?_)
        refine sxo_call ent18 rfl rfl rfl (fun x40 e40 => C_R_SameInts F x18.1 a19 c20 ([1, 0, 3, 2, -1] : List Int) a38 c39 x40 e40) (.consR 1 (Ro (eI .i64) 3 1 (.slice a19 x18.1.length c20) x18.1) rfl (.consR 0 (Ro (eI .i64) 3 1 (.slice a38 ([1, 0, 3, 2, -1] : List Int).length c39) ([1, 0, 3, 2, -1] : List Int)) rfl .nil)) (fun x40 e40 => ?_)
        intro _
        refine sxo_pick (b := true) rfl rfl rfl rfl ?_
        refine sxo_nil ?_
        exact sxq_meetP (x40, ()) (lk_cons rfl (lk_cons rfl lk_nil)) .nil .nil fk_nil
      · refine sxo_isF (k := 51) rfl h32 ?_
        refine sxo_skip rfl rfl rfl ?_
        refine sxo_skip rfl rfl rfl ?_
        refine sxo_skip rfl rfl rfl ?_
        refine sxo_pick (b := false) rfl rfl rfl rfl ?_
        refine sxo_nil ?_
        exact sxq_meetP (false, ()) (lk_cons rfl (lk_cons rfl lk_nil)) .nil .nil fk_nil
    · rintro ⟨x36, _⟩
      try dsimp only
      refine sxo_take (os := _) rfl ?_
      refine sxo_move rfl rfl rfl ?_
      refine sxo_case 3 x36 [(59, .bool (x36 && ((x18.2 : Int) == 0)))] (fun h37 => ?_) (fun h37 => ?_) ?_
      · refine sxo_take (os := _) rfl ?_
        refine sxo_isT (k := 56) rfl h37 ?_
        refine sxo_move rfl rfl rfl ?_
        refine sxo_eql rfl rfl rfl rfl ?_
        refine sxo_pick (b := true) rfl rfl rfl rfl ?_
        refine sxo_again (d := 59) (v := .bool (x36 && ((x18.2 : Int) == 0))) rfl (by rw [h37]; simp only [Bool.true_and]) ?_
        refine sxo_nil ?_
        exact sxq_case (lk_cons rfl lk_nil)
      · refine sxo_take (os := _) rfl ?_
        refine sxo_isF (k := 56) rfl h37 ?_
        refine sxo_skip rfl rfl rfl ?_
        refine sxo_skip rfl rfl rfl ?_
        refine sxo_pick (b := false) rfl rfl rfl rfl ?_
        refine sxo_again (d := 59) (v := .bool (x36 && ((x18.2 : Int) == 0))) rfl (by rw [h37]; simp only [Bool.false_and]) ?_
        refine sxo_nil ?_
        exact sxq_case (lk_cons rfl lk_nil)
      refine sxo_take (os := _) rfl ?_
      refine sxo_assign rfl rfl rfl ?_
      refine sxo_nil ?_
      refine sxq_next ?_
      refine sxc_ret ?_
      exact sxq_doneP () (.inl rfl) (res1 rfl rfl) (fun h => by subst h; rfl) (fun h => by subst h; exact .nil)

set_option maxHeartbeats 4000000 in
theorem C_L_CoreTells (F : Nat) (x1 : List (List Int)) (a2 : Option Addr) (c3 : (Nat × List (Option Addr × Nat))) (r : Bool) (hm : M_L_CoreTells F x1 = some r) :
    Pure Try.prog 3 [.agg #[.slice a2 x1.length c3.1]] [SlN eN25 iN25 1 (.slice a2 x1.length c3.1) x1 c3.2] Unit (fun _ => .bool r) (fun _ => []) (fun _ => []) := by
  refine pure_of Try.func3 rfl Try.ntmps3 rfl hm (fun w => ?_)
  refine sxc_env (l' := [(0, .agg #[.slice a2 x1.length c3.1])]) rfl ?_
  refine sxc_seq ?_
  refine sxc_region ?_
  refine sxo_box rfl rfl rfl (fun g4 => ?_)
  refine sxo_assign rfl rfl rfl ?_
  refine sxo_nil ?_
  refine sxq_next ?_
  refine sxc_seq ?_
  refine sxc_region ?_
  refine sxo_loadB (i := 0) rfl rfl tf24 rfl rfl (by simp) rfl rfl ?_
  refine sxo_call ent10 rfl rfl rfl (fun x5 e5 => C_core_Numbers F x1 a2 c3 x5 e5) (.consF 0 rfl .nil) (fun x5 e5 => ?_)
  rintro ⟨a6, c7⟩
  refine sxo_move rfl rfl rfl ?_
  refine sxo_extract rfl rfl rfl rfl ?_
  refine sxo_extract rfl rfl rfl rfl ?_
  refine sxo_assign rfl rfl rfl ?_
  refine sxo_assign rfl rfl rfl ?_
  refine sxo_nil ?_
  refine sxq_next ?_
  refine sxc_seq ?_
  refine sxc_region ?_
  refine sxo_loadB (i := 0) rfl rfl tf24 rfl rfl (by simp) rfl rfl ?_
  refine sxo_callM ent11 rfl rfl rfl (fun x8 e8 => C_core_Threes F x1 a2 c3 x8 e8) .nil .nil (.consF 0 rfl .nil) (fun x8 e8 => ?_)
  rintro ⟨a9, c10⟩
  refine sxo_move rfl rfl rfl ?_
  refine sxo_extract rfl rfl rfl rfl ?_
  refine sxo_extract rfl rfl rfl rfl ?_
  refine sxo_extract rfl rfl rfl rfl ?_
  refine sxo_assign rfl rfl rfl ?_
  refine sxo_assign rfl rfl rfl ?_
  refine sxo_assign rfl rfl rfl ?_
  refine sxo_nil ?_
  refine sxq_next ?_
  refine sxc_seq ?_
  refine sxc_region ?_
  refine sxo_loadB (i := 0) rfl rfl tf24 rfl rfl (by simp) rfl rfl ?_
  refine sxo_call ent12 rfl rfl rfl (fun x11 e11 => C_core_Pairs F x1 a2 c3 x11 e11) (.consF 0 rfl .nil) (fun x11 e11 => ?_)
  rintro ⟨a12, c13⟩
  refine sxo_move rfl rfl rfl ?_
  refine sxo_extract rfl rfl rfl rfl ?_
  refine sxo_extract rfl rfl rfl rfl ?_
  refine sxo_assign rfl rfl rfl ?_
  refine sxo_assign rfl rfl rfl ?_
  refine sxo_nil ?_
  refine sxq_next ?_
  refine sxc_seq ?_
  refine sxc_region ?_
  refine sxo_loadB (i := 0) rfl rfl tf24 rfl rfl (by simp) rfl rfl ?_
  refine sxo_call ent13 rfl rfl rfl (fun x14 e14 => C_R_GraphCheck F x1 a2 c3 x14 e14) (.consF 0 rfl .nil) (fun x14 e14 => ?_)
  intro _
  refine sxo_assign rfl rfl rfl ?_
  refine sxo_nil ?_
  refine sxq_next ?_
  refine sxc_seq ?_
  refine sxc_region ?_
  refine sxo_assign rfl rfl rfl ?_
  refine sxo_assign rfl rfl rfl ?_
  refine sxo_assign rfl rfl rfl ?_
  refine sxo_nil ?_
  refine sxq_next ?_
  refine sxc_seq ?_
  refine sxc_region ?_
  refine sxo_assign rfl rfl rfl ?_
  refine sxo_nil ?_
  refine sxq_next ?_
  refine sxc_join (fun (((x42, x45, x48, x49), (a40, c41, a43, c44, a46, c47)) : ((List Int × List Int × List Int × Int) × (Option Addr × Nat × Option Addr × Nat × Option Addr × Nat))) => [(3, .slice a6 x5.1.length c7), (4, .int .i64 x5.2), (5, .slice a9 x8.1.length c10), (6, .int .i64 x8.2.1), (7, .int .i64 x8.2.2), (8, .slice a12 x11.1.length c13), (9, .int .i64 x11.2), (10, .int .i64 x14), (11, .slice a40 x42.length c41), (12, .slice a43 x45.length c44), (13, .slice a46 x48.length c47), (14, .int .i64 x49)]) (fun (((x42, x45, x48, x49), (a40, c41, a43, c44, a46, c47)) : ((List Int × List Int × List Int × Int) × (Option Addr × Nat × Option Addr × Nat × Option Addr × Nat))) => []) (fun (((x42, x45, x48, x49), (a40, c41, a43, c44, a46, c47)) : ((List Int × List Int × List Int × Int) × (Option Addr × Nat × Option Addr × Nat × Option Addr × Nat))) => [Ro (eI .i64) 3 1 (.slice a6 x5.1.length c7) x5.1, Ro (eI .i64) 3 1 (.slice a9 x8.1.length c10) x8.1, Ro (eI .i64) 3 1 (.slice a12 x11.1.length c13) x11.1, Ro (eI .i64) 3 1 (.slice a40 x42.length c41) x42, Ro (eI .i64) 3 1 (.slice a43 x45.length c44) x45, Ro (eI .i64) 3 1 (.slice a46 x48.length c47) x48]) (fun (((x42, x45, x48, x49), (a40, c41, a43, c44, a46, c47)) : ((List Int × List Int × List Int × Int) × (Option Addr × Nat × Option Addr × Nat × Option Addr × Nat))) => []) (fun (((x42, x45, x48, x49), _) : ((List Int × List Int × List Int × Int) × (Option Addr × Nat × Option Addr × Nat × Option Addr × Nat))) => M_L_CoreTells_j1 F x5 x8 x11 x14 x42 x45 x48 x49) ?_ ?_
  · refine sxc_seq ?_
    refine sxc_region ?_
    refine sxo_move rfl rfl rfl ?_
    refine sxo_eql rfl rfl rfl rfl ?_
    refine sxo_nil ?_
    refine sxq_next ?_
    refine sxc_if rfl (fun h82 => ?_) (fun h82 => ?_)
    · refine sxc_seq ?_
      refine sxb_draw mixed [] [⟨g4, 24, [.slice a2 x1.length c3.1]⟩] [SlN eN25 iN25 1 (.slice a2 x1.length c3.1) x1 c3.2] (.cons 0 rfl .nil) (gk_F 0 rfl gk_nil) 6 rfl ?_
      refine sxb_takeB 0 (.agg #[.slice a2 x1.length c3.1]) rfl rfl rfl rfl (by kernel_rfl) (by kernel_rfl) (by kernel_rfl) (by kernel_rfl) (by kernel_rfl) rfl (show _ = #[true, false, false, false, false, false] from rfl) (yv_loadB (i := 0) rfl tf24 rfl rfl (by simp) rfl) ?_
      refine sxb_takeB 2 (.agg #[.slice a2 x1.length c3.1]) rfl rfl rfl rfl (by kernel_rfl) (by kernel_rfl) (by kernel_rfl) (by kernel_rfl) (by kernel_rfl) rfl (show _ = #[true, false, true, false, false, false] from rfl) (yv_loadB (i := 0) rfl tf24 rfl rfl (by simp) rfl) ?_
      refine sxb_step 1 rfl (by kernel_rfl) (show _ = #[true, true, true, false, false, false] from rfl) ?_
      refine sxo_call ent14 rfl rfl rfl (fun x73 e73 => C_R_CoreNumbers F x1 a2 c3 x73 e73) (.consF 0 rfl .nil) (fun x73 e73 => ?_)
      rintro ⟨a74, c75⟩
      refine sxo_nil ?_
      refine sxq_anyB (.cons 0 rfl .nil) (gk_F 0 rfl gk_nil) ?_
      refine sxb_step 3 rfl (by kernel_rfl) (show _ = #[true, true, true, true, false, false] from rfl) ?_
      refine sxo_call ent15 rfl rfl rfl (fun x76 e76 => C_R_CorePairs F x1 a2 c3 x76 e76) (.consF 0 rfl .nil) (fun x76 e76 => ?_)
      rintro ⟨a77, c78⟩
      refine sxo_nil ?_
      refine sxq_anyB (.cons 0 rfl .nil) (gk_F 0 rfl gk_nil) ?_
      refine sxb_takeP 4 (.slice a74 x73.length c75) rfl rfl rfl rfl (by kernel_rfl) (by kernel_rfl) (by kernel_rfl) (by kernel_rfl) (by kernel_rfl) rfl (show _ = #[true, true, true, true, true, false] from rfl) (yv_pv rfl) ?_
      refine sxb_takeP 5 (.slice a77 x76.length c78) rfl rfl rfl rfl (by kernel_rfl) (by kernel_rfl) (by kernel_rfl) (by kernel_rfl) (by kernel_rfl) rfl (show _ = #[true, true, true, true, true, true] from rfl) (yv_pv rfl) ?_
      refine sxb_done (by kernel_rfl) ?_
      refine sxq_np ?_ (by intro c h; cases h)
      refine sxq_next ?_
      refine sxc_region ?_
      refine sxo_loadB (i := 0) rfl rfl tf24 rfl rfl (by simp) rfl rfl ?_
      refine sxo_call ent16 rfl rfl rfl (fun x79 e79 => C_R_CoreThrees F x1 a2 c3 x79 e79) (.consF 0 rfl .nil) (fun x79 e79 => ?_)
      rintro ⟨a80, c81⟩
      refine sxo_move rfl rfl rfl ?_
      refine sxo_extract rfl rfl rfl rfl ?_
      refine sxo_extract rfl rfl rfl rfl ?_
      refine sxo_assign rfl rfl rfl ?_
      refine sxo_assign rfl rfl rfl ?_
      refine sxo_nil ?_
      exact sxq_meetP ((x73, x79.1, x76, x79.2), (a74, c75, a80, c81, a77, c78)) (lk_cons rfl (lk_cons rfl (lk_cons rfl (lk_cons rfl (lk_cons rfl (lk_cons rfl (lk_cons rfl (lk_cons rfl (lk_cons rfl (lk_cons rfl (lk_cons rfl (lk_cons rfl lk_nil)))))))))))) .nil (.cons 5 rfl (.cons 4 rfl (.cons 3 rfl (.cons 2 rfl (.cons 0 rfl (.cons 0 rfl .nil)))))) fk_nil
    · refine sxc_skip ?_
      refine sxq_nilrow Int (eI .i64) 3 1 ?_
      refine sxq_nilrow Int (eI .i64) 3 1 ?_
      refine sxq_nilrow Int (eI .i64) 3 1 ?_
      exact sxq_meetP ((([] : List Int), ([] : List Int), ([] : List Int), 0), (none, 0, none, 0, none, 0)) (lk_cons rfl (lk_cons rfl (lk_cons rfl (lk_cons rfl (lk_cons rfl (lk_cons rfl (lk_cons rfl (lk_cons rfl (lk_cons rfl (lk_cons rfl (lk_cons rfl (lk_cons rfl lk_nil)))))))))))) .nil (.cons 5 rfl (.cons 4 rfl (.cons 3 rfl (.cons 0 rfl (.cons 0 rfl (.cons 0 rfl .nil)))))) fk_nil
  · rintro ⟨⟨x42, x45, x48, x49⟩, ⟨a40, c41, a43, c44, a46, c47⟩⟩
    try dsimp only
    refine sxc_seq ?_
    refine sxc_region ?_
    refine sxo_call ent17 rfl rfl rfl (fun x50 e50 => C_L_coreBegun F  x50 e50) .nil (fun x50 e50 => ?_)
    intro _
    refine sxo_move rfl rfl rfl ?_
    refine sxo_join 4 (fun ((x53, _) : (Bool × Unit)) => [(4, .int .i64 x5.2), (5, .slice a9 x8.1.length c10), (6, .int .i64 x8.2.1), (7, .int .i64 x8.2.2), (8, .slice a12 x11.1.length c13), (9, .int .i64 x11.2), (10, .int .i64 x14), (12, .slice a43 x45.length c44), (13, .slice a46 x48.length c47), (14, .int .i64 x49), (49, .bool x53)]) (fun ((x53, _) : (Bool × Unit)) => []) (fun ((x53, _) : (Bool × Unit)) => [Ro (eI .i64) 3 1 (.slice a9 x8.1.length c10) x8.1, Ro (eI .i64) 3 1 (.slice a12 x11.1.length c13) x11.1, Ro (eI .i64) 3 1 (.slice a43 x45.length c44) x45, Ro (eI .i64) 3 1 (.slice a46 x48.length c47) x48]) (fun ((x53, _) : (Bool × Unit)) => []) (fun ((x53, _) : (Bool × Unit)) => M_L_CoreTells_j2 F x5 x8 x11 x14 x45 x48 x49 x53) ?_ ?_
    · refine sxo_take (os := _) rfl ?_
      refine sxo_if (fun h51 => ?_) (fun h51 => ?_)
      · refine sxo_isT (k := 45) rfl h51 ?_
        refine sxo_move rfl rfl rfl ?_
        refine sxo_move rfl rfl rfl ?_
        refine sxo_call ent18 rfl rfl rfl (fun x66 e66 => C_R_SameInts F x5.1 a6 c7 x42 a40 c41 x66 e66) (.consR 0 (Ro (eI .i64) 3 1 (.slice a6 x5.1.length c7) x5.1) rfl (.consR 3 (Ro (eI .i64) 3 1 (.slice a40 x42.length c41) x42) rfl .nil)) (fun x66 e66 => ?_)
        intro _
        refine sxo_pick (b := true) rfl rfl rfl rfl ?_
        refine sxo_nil ?_
        exact sxq_meetP (x66, ()) (lk_cons rfl (lk_cons rfl (lk_cons rfl (lk_cons rfl (lk_cons rfl (lk_cons rfl (lk_cons rfl (lk_cons rfl (lk_cons rfl (lk_cons rfl (lk_cons rfl lk_nil))))))))))) .nil (.cons 1 rfl (.cons 1 rfl (.cons 2 rfl (.cons 2 rfl .nil)))) fk_nil
      · refine sxo_isF (k := 45) rfl h51 ?_
        refine sxo_skip rfl rfl rfl ?_
        refine sxo_skip rfl rfl rfl ?_
        refine sxo_skip rfl rfl rfl ?_
        refine sxo_pick (b := false) rfl rfl rfl rfl ?_
        refine sxo_nil ?_
        exact sxq_meetP (false, ()) (lk_cons rfl (lk_cons rfl (lk_cons rfl (lk_cons rfl (lk_cons rfl (lk_cons rfl (lk_cons rfl (lk_cons rfl (lk_cons rfl (lk_cons rfl (lk_cons rfl lk_nil))))))))))) .nil (.cons 1 rfl (.cons 1 rfl (.cons 2 rfl (.cons 2 rfl .nil)))) fk_nil
    · rintro ⟨x53, _⟩
      try dsimp only
      refine sxo_take (os := _) rfl ?_
      refine sxo_move rfl rfl rfl ?_
      refine sxo_case 4 x53 [(5, .slice a9 x8.1.length c10), (6, .int .i64 x8.2.1), (7, .int .i64 x8.2.2), (8, .slice a12 x11.1.length c13), (9, .int .i64 x11.2), (10, .int .i64 x14), (12, .slice a43 x45.length c44), (13, .slice a46 x48.length c47), (14, .int .i64 x49), (54, .bool (x53 && ((x5.2 : Int) == x14)))] (fun h54 => ?_) (fun h54 => ?_) ?_
      · refine sxo_take (os := _) rfl ?_
        refine sxo_isT (k := 50) rfl h54 ?_
        refine sxo_move rfl rfl rfl ?_
        refine sxo_move rfl rfl rfl ?_
        refine sxo_eql rfl rfl rfl rfl ?_
        refine sxo_pick (b := true) rfl rfl rfl rfl ?_
        refine sxo_again (d := 54) (v := .bool (x53 && ((x5.2 : Int) == x14))) rfl (by rw [h54]; simp only [Bool.true_and]) ?_
        refine sxo_nil ?_
        exact sxq_case (lk_cons rfl (lk_cons rfl (lk_cons rfl (lk_cons rfl (lk_cons rfl (lk_cons rfl (lk_cons rfl (lk_cons rfl (lk_cons rfl (lk_cons rfl lk_nil))))))))))
      · refine sxo_take (os := _) rfl ?_
        refine sxo_isF (k := 50) rfl h54 ?_
        refine sxo_skip rfl rfl rfl ?_
        refine sxo_skip rfl rfl rfl ?_
        refine sxo_skip rfl rfl rfl ?_
        refine sxo_pick (b := false) rfl rfl rfl rfl ?_
        refine sxo_again (d := 54) (v := .bool (x53 && ((x5.2 : Int) == x14))) rfl (by rw [h54]; simp only [Bool.false_and]) ?_
        refine sxo_nil ?_
        exact sxq_case (lk_cons rfl (lk_cons rfl (lk_cons rfl (lk_cons rfl (lk_cons rfl (lk_cons rfl (lk_cons rfl (lk_cons rfl (lk_cons rfl (lk_cons rfl lk_nil))))))))))
      refine sxo_take (os := _) rfl ?_
      refine sxo_move rfl rfl rfl ?_
      refine sxo_join 4 (fun ((x57, _) : (Bool × Unit)) => [(6, .int .i64 x8.2.1), (7, .int .i64 x8.2.2), (8, .slice a12 x11.1.length c13), (9, .int .i64 x11.2), (10, .int .i64 x14), (13, .slice a46 x48.length c47), (14, .int .i64 x49), (59, .bool x57)]) (fun ((x57, _) : (Bool × Unit)) => []) (fun ((x57, _) : (Bool × Unit)) => [Ro (eI .i64) 3 1 (.slice a12 x11.1.length c13) x11.1, Ro (eI .i64) 3 1 (.slice a46 x48.length c47) x48]) (fun ((x57, _) : (Bool × Unit)) => []) (fun ((x57, _) : (Bool × Unit)) => M_L_CoreTells_j3 F x8 x11 x14 x48 x49 x57) ?_ ?_
      · refine sxo_take (os := _) rfl ?_
        refine sxo_if (fun h55 => ?_) (fun h55 => ?_)
        · refine sxo_isT (k := 55) rfl h55 ?_
          refine sxo_move rfl rfl rfl ?_
          refine sxo_move rfl rfl rfl ?_
          refine sxo_call ent18 rfl rfl rfl (fun x65 e65 => C_R_SameInts F x8.1 a9 c10 x45 a43 c44 x65 e65) (.consR 0 (Ro (eI .i64) 3 1 (.slice a9 x8.1.length c10) x8.1) rfl (.consR 2 (Ro (eI .i64) 3 1 (.slice a43 x45.length c44) x45) rfl .nil)) (fun x65 e65 => ?_)
          intro _
          refine sxo_pick (b := true) rfl rfl rfl rfl ?_
          refine sxo_nil ?_
          exact sxq_meetP (x65, ()) (lk_cons rfl (lk_cons rfl (lk_cons rfl (lk_cons rfl (lk_cons rfl (lk_cons rfl (lk_cons rfl (lk_cons rfl lk_nil)))))))) .nil (.cons 1 rfl (.cons 2 rfl .nil)) fk_nil
        · refine sxo_isF (k := 55) rfl h55 ?_
          refine sxo_skip rfl rfl rfl ?_
          refine sxo_skip rfl rfl rfl ?_
          refine sxo_skip rfl rfl rfl ?_
          refine sxo_pick (b := false) rfl rfl rfl rfl ?_
          refine sxo_nil ?_
          exact sxq_meetP (false, ()) (lk_cons rfl (lk_cons rfl (lk_cons rfl (lk_cons rfl (lk_cons rfl (lk_cons rfl (lk_cons rfl (lk_cons rfl lk_nil)))))))) .nil (.cons 1 rfl (.cons 2 rfl .nil)) fk_nil
      · rintro ⟨x57, _⟩
        try dsimp only
        refine sxo_take (os := _) rfl ?_
        refine sxo_move rfl rfl rfl ?_
        refine sxo_case 4 x57 [(7, .int .i64 x8.2.2), (8, .slice a12 x11.1.length c13), (9, .int .i64 x11.2), (10, .int .i64 x14), (13, .slice a46 x48.length c47), (64, .bool (x57 && ((x8.2.1 : Int) == x49)))] (fun h58 => ?_) (fun h58 => ?_) ?_
        · refine sxo_take (os := _) rfl ?_
          refine sxo_isT (k := 60) rfl h58 ?_
          refine sxo_move rfl rfl rfl ?_
          refine sxo_move rfl rfl rfl ?_
          refine sxo_eql rfl rfl rfl rfl ?_
          refine sxo_pick (b := true) rfl rfl rfl rfl ?_
          refine sxo_again (d := 64) (v := .bool (x57 && ((x8.2.1 : Int) == x49))) rfl (by rw [h58]; simp only [Bool.true_and]) ?_
          refine sxo_nil ?_
          exact sxq_case (lk_cons rfl (lk_cons rfl (lk_cons rfl (lk_cons rfl (lk_cons rfl (lk_cons rfl lk_nil))))))
        · refine sxo_take (os := _) rfl ?_
          refine sxo_isF (k := 60) rfl h58 ?_
          refine sxo_skip rfl rfl rfl ?_
          refine sxo_skip rfl rfl rfl ?_
          refine sxo_skip rfl rfl rfl ?_
          refine sxo_pick (b := false) rfl rfl rfl rfl ?_
          refine sxo_again (d := 64) (v := .bool (x57 && ((x8.2.1 : Int) == x49))) rfl (by rw [h58]; simp only [Bool.false_and]) ?_
          refine sxo_nil ?_
          exact sxq_case (lk_cons rfl (lk_cons rfl (lk_cons rfl (lk_cons rfl (lk_cons rfl (lk_cons rfl lk_nil))))))
        refine sxo_take (os := _) rfl ?_
        refine sxo_move rfl rfl rfl ?_
        refine sxo_case 4 (x57 && ((x8.2.1 : Int) == x49)) [(8, .slice a12 x11.1.length c13), (9, .int .i64 x11.2), (10, .int .i64 x14), (13, .slice a46 x48.length c47), (69, .bool ((x57 && ((x8.2.1 : Int) == x49)) && ((x8.2.2 : Int) == x14)))] (fun h59 => ?_) (fun h59 => ?_) ?_
        · refine sxo_take (os := _) rfl ?_
          refine sxo_isT (k := 65) rfl h59 ?_
          refine sxo_move rfl rfl rfl ?_
          refine sxo_move rfl rfl rfl ?_
          refine sxo_eql rfl rfl rfl rfl ?_
          refine sxo_pick (b := true) rfl rfl rfl rfl ?_
          refine sxo_again (d := 69) (v := .bool ((x57 && ((x8.2.1 : Int) == x49)) && ((x8.2.2 : Int) == x14))) rfl (by rw [h59]; simp only [Bool.true_and]) ?_
          refine sxo_nil ?_
          exact sxq_case (lk_cons rfl (lk_cons rfl (lk_cons rfl (lk_cons rfl (lk_cons rfl lk_nil)))))
        · refine sxo_take (os := _) rfl ?_
          refine sxo_isF (k := 65) rfl h59 ?_
          refine sxo_skip rfl rfl rfl ?_
          refine sxo_skip rfl rfl rfl ?_
          refine sxo_skip rfl rfl rfl ?_
          refine sxo_pick (b := false) rfl rfl rfl rfl ?_
          refine sxo_again (d := 69) (v := .bool ((x57 && ((x8.2.1 : Int) == x49)) && ((x8.2.2 : Int) == x14))) rfl (by rw [h59]; simp only [Bool.false_and]) ?_
          refine sxo_nil ?_
          exact sxq_case (lk_cons rfl (lk_cons rfl (lk_cons rfl (lk_cons rfl (lk_cons rfl lk_nil)))))
        refine sxo_take (os := _) rfl ?_
        refine sxo_move rfl rfl rfl ?_
        refine sxo_join 4 (fun ((x62, _) : (Bool × Unit)) => [(9, .int .i64 x11.2), (10, .int .i64 x14), (74, .bool x62)]) (fun ((x62, _) : (Bool × Unit)) => []) (fun ((x62, _) : (Bool × Unit)) => []) (fun ((x62, _) : (Bool × Unit)) => []) (fun ((x62, _) : (Bool × Unit)) => M_L_CoreTells_j4 F x11 x14 x62) ?_ ?_
        · refine sxo_take (os := _) rfl ?_
          refine sxo_if (fun h60 => ?_) (fun h60 => ?_)
          · refine sxo_isT (k := 70) rfl h60 ?_
            refine sxo_move rfl rfl rfl ?_
            refine sxo_move rfl rfl rfl ?_
            refine sxo_call ent18 rfl rfl rfl (fun x64 e64 => C_R_SameInts F x11.1 a12 c13 x48 a46 c47 x64 e64) (.consR 0 (Ro (eI .i64) 3 1 (.slice a12 x11.1.length c13) x11.1) rfl (.consR 1 (Ro (eI .i64) 3 1 (.slice a46 x48.length c47) x48) rfl .nil)) (fun x64 e64 => ?_)
            intro _
            refine sxo_pick (b := true) rfl rfl rfl rfl ?_
            refine sxo_nil ?_
            exact sxq_meetP (x64, ()) (lk_cons rfl (lk_cons rfl (lk_cons rfl lk_nil))) .nil .nil fk_nil
          · refine sxo_isF (k := 70) rfl h60 ?_
            refine sxo_skip rfl rfl rfl ?_
            refine sxo_skip rfl rfl rfl ?_
            refine sxo_skip rfl rfl rfl ?_
            refine sxo_pick (b := false) rfl rfl rfl rfl ?_
            refine sxo_nil ?_
            exact sxq_meetP (false, ()) (lk_cons rfl (lk_cons rfl (lk_cons rfl lk_nil))) .nil .nil fk_nil
        · rintro ⟨x62, _⟩
          try dsimp only
          refine sxo_take (os := _) rfl ?_
          refine sxo_move rfl rfl rfl ?_
          refine sxo_case 4 x62 [(79, .bool (x62 && ((x11.2 : Int) == x14)))] (fun h63 => ?_) (fun h63 => ?_) ?_
          · refine sxo_take (os := _) rfl ?_
            refine sxo_isT (k := 75) rfl h63 ?_
            refine sxo_move rfl rfl rfl ?_
            refine sxo_move rfl rfl rfl ?_
            refine sxo_eql rfl rfl rfl rfl ?_
            refine sxo_pick (b := true) rfl rfl rfl rfl ?_
            refine sxo_again (d := 79) (v := .bool (x62 && ((x11.2 : Int) == x14))) rfl (by rw [h63]; simp only [Bool.true_and]) ?_
            refine sxo_nil ?_
            exact sxq_case (lk_cons rfl lk_nil)
          · refine sxo_take (os := _) rfl ?_
            refine sxo_isF (k := 75) rfl h63 ?_
            refine sxo_skip rfl rfl rfl ?_
            refine sxo_skip rfl rfl rfl ?_
            refine sxo_skip rfl rfl rfl ?_
            refine sxo_pick (b := false) rfl rfl rfl rfl ?_
            refine sxo_again (d := 79) (v := .bool (x62 && ((x11.2 : Int) == x14))) rfl (by rw [h63]; simp only [Bool.false_and]) ?_
            refine sxo_nil ?_
            exact sxq_case (lk_cons rfl lk_nil)
          refine sxo_take (os := _) rfl ?_
          refine sxo_assign rfl rfl rfl ?_
          refine sxo_nil ?_
          refine sxq_next ?_
          refine sxc_ret ?_
          exact sxq_doneP () (.inl rfl) (res1 rfl rfl) (fun h => by subst h; rfl) (fun h => by subst h; exact .nil)

theorem C_L_CoreNumbers_1 (F : Nat) (x1 : Int) (g2 : Nat) (x3 : Int) (r : Bool) (hm : M_L_CoreNumbers_1 F x1 x3 = some r) :
    PureM Try.prog 19 [.int .i64 x1, .pointer (some ⟨g2, 0, none⟩)] [⟨g2, 38, [.int .u64 x3]⟩] [] [] Unit (fun _ => .bool r) (fun _ => [⟨g2, 38, [.int .u64 x3]⟩]) (fun _ => []) := by
  refine pureM_of Try.func19 rfl Try.ntmps19 rfl hm (fun w => ?_)
  refine sxc_env (l' := [(0, .int .i64 x1), (1, .pointer (some ⟨g2, 0, none⟩))]) rfl ?_
  refine sxc_seq ?_
  refine sxc_region ?_
  refine sxo_assign rfl rfl rfl ?_
  refine sxo_nil ?_
  refine sxq_next ?_
  refine sxc_seq ?_
  refine sxc_region ?_
  refine sxo_loadB (i := 0) rfl rfl tf38 rfl rfl (fun _ => rfl) rfl rfl ?_
  refine sxo_move rfl rfl rfl ?_
  refine sxo_rem rfl rfl rfl rfl rfl ?_
  refine sxo_chk (fun h4 => ?_)
  refine sxo_shr rfl rfl rfl rfl h4 ?_
  refine sxo_rem rfl rfl rfl rfl rfl ?_
  refine sxo_eql rfl rfl rfl rfl ?_
  refine sxo_assign rfl rfl rfl ?_
  refine sxo_nil ?_
  refine sxq_next ?_
  refine sxc_ret ?_
  exact sxq_doneM () (.inl rfl) (res1 rfl rfl) (fun h => by subst h; rfl) (fun h => by subst h; exact (.cons 0 rfl .nil)) (fun h => by subst h; exact .nil)

set_option maxHeartbeats 4000000 in
theorem C_L_CoreNumbers (F : Nat) (x1 : List (List Int)) (a2 : Option Addr) (c3 : (Nat × List (Option Addr × Nat))) (x4 : Int) (r : Bool) (hm : M_L_CoreNumbers F x1 x4 = some r) :
    Pure Try.prog 4 [.agg #[.slice a2 x1.length c3.1], .int .u64 x4] [SlN eN25 iN25 1 (.slice a2 x1.length c3.1) x1 c3.2] Unit (fun _ => .bool r) (fun _ => []) (fun _ => []) := by
  refine pure_of Try.func4 rfl Try.ntmps4 rfl hm (fun w => ?_)
  refine sxc_env (l' := [(0, .agg #[.slice a2 x1.length c3.1]), (1, .int .u64 x4)]) rfl ?_
  refine sxc_seq ?_
  refine sxc_region ?_
  refine sxo_box rfl rfl rfl (fun g5 => ?_)
  refine sxo_box rfl rfl rfl (fun g6 => ?_)
  refine sxo_assign rfl rfl rfl ?_
  refine sxo_nil ?_
  refine sxq_next ?_
  refine sxc_seq ?_
  refine sxc_region ?_
  refine sxo_loadB (i := 1) rfl rfl tf24 rfl rfl (by simp) rfl rfl ?_
  refine sxo_call ent10 rfl rfl rfl (fun x7 e7 => C_core_Numbers F x1 a2 c3 x7 e7) (.consF 0 rfl .nil) (fun x7 e7 => ?_)
  rintro ⟨a8, c9⟩
  refine sxo_move rfl rfl rfl ?_
  refine sxo_extract rfl rfl rfl rfl ?_
  refine sxo_extract rfl rfl rfl rfl ?_
  refine sxo_assign rfl rfl rfl ?_
  refine sxo_assign rfl rfl rfl ?_
  refine sxo_nil ?_
  refine sxq_next ?_
  refine sxc_seq ?_
  refine sxc_seq ?_
  refine sxc_region ?_
  refine sxo_call ent17 rfl rfl rfl (fun x12 e12 => C_L_coreBegun F  x12 e12) .nil (fun x12 e12 => ?_)
  intro _
  refine sxo_not rfl rfl rfl ?_
  refine sxo_nil ?_
  refine sxq_next ?_
  refine sxc_if rfl (fun h8096 => ?_) (fun h8096 => ?_)
  · refine sxc_seq ?_
    refine sxc_region ?_
    refine sxo_assign rfl rfl rfl ?_
    refine sxo_nil ?_
    refine sxq_next ?_
    refine sxc_ret ?_
    refine sxq_thenR ?_
    exact sxq_doneP () (.inl rfl) (res1 rfl rfl) (fun h => by subst h; rfl) (fun h => by subst h; exact .nil)
  · refine sxc_skip ?_
    refine sxq_next ?_
    refine sxc_seq ?_
    refine sxc_seq ?_
    refine sxc_region ?_
    refine sxo_move rfl rfl rfl ?_
    refine sxo_neq rfl rfl rfl rfl ?_
    refine sxo_nil ?_
    refine sxq_next ?_
    refine sxc_if rfl (fun h8095 => ?_) (fun h8095 => ?_)
    · refine sxc_seq ?_
      refine sxc_region ?_
      refine sxo_move rfl rfl rfl ?_
      refine sxo_len rfl Try.underlying25 rfl rfl ?_
      refine sxo_eql rfl rfl rfl rfl ?_
      refine sxo_assign rfl rfl rfl ?_
      refine sxo_nil ?_
      refine sxq_next ?_
      refine sxc_ret ?_
      refine sxq_thenR ?_
      exact sxq_doneP () (.inl rfl) (res1 rfl rfl) (fun h => by subst h; rfl) (fun h => by subst h; exact .nil)
    · refine sxc_skip ?_
      refine sxq_next ?_
      refine sxc_seq ?_
      refine sxc_region ?_
      refine sxo_makeFunc rfl rfl rfl ?_
      refine sxo_assign rfl rfl rfl ?_
      refine sxo_nil ?_
      refine sxq_next ?_
      refine sxc_seq ?_
      refine sxc_region ?_
      refine sxo_assign rfl rfl rfl ?_
      refine sxo_nil ?_
      refine sxq_next ?_
      refine sxc_join (fun ((x3986, _) : (Int × Unit)) => [(5, .slice a8 x7.1.length c9), (7, .func (.func 19) #[] #[.pointer (some ⟨g6, 0, none⟩)]), (8, .int .i64 x3986)]) (fun ((x3986, _) : (Int × Unit)) => [⟨g6, 38, [.int .u64 x4]⟩]) (fun ((x3986, _) : (Int × Unit)) => [Ro (eI .i64) 3 1 (.slice a8 x7.1.length c9) x7.1]) (fun ((x3986, _) : (Int × Unit)) => []) (fun ((x3986, _) : (Int × Unit)) => M_L_CoreNumbers_j353 F x4 x7 x3986) ?_ ?_
      · refine sxc_seq ?_
        refine sxc_region ?_
        refine sxo_assign rfl rfl rfl ?_
        refine sxo_nil ?_
        refine sxq_next ?_
        refine sxc_block ?_
        refine sxc_loopP (fun (((x5446, x5447), _) : ((Int × Int) × Unit)) => [(2, .pointer (some ⟨g5, 0, none⟩)), (5, .slice a8 x7.1.length c9), (7, .func (.func 19) #[] #[.pointer (some ⟨g6, 0, none⟩)]), (8, .int .i64 x5446), (9, .int .i64 x5447)]) (fun (((x5446, x5447), _) : ((Int × Int) × Unit)) => [⟨g6, 38, [.int .u64 x4]⟩, ⟨g5, 24, [.slice a2 x1.length c3.1]⟩]) (fun (((x5446, x5447), _) : ((Int × Int) × Unit)) => [Ro (eI .i64) 3 1 (.slice a8 x7.1.length c9) x7.1]) (fun (((x5446, x5447), _) : ((Int × Int) × Unit)) => [SlN eN25 iN25 1 (.slice a2 x1.length c3.1) x1 c3.2]) (fun k (s : ((Int × Int) × Unit)) => M_L_CoreNumbers_l603 F x1 x4 x7 k s.1) ((-1, 0), ()) F (lk_cons rfl (lk_cons rfl (lk_cons rfl (lk_cons rfl (lk_cons rfl lk_nil))))) (.cons 0 rfl (.cons 0 rfl .nil)) (.cons 0 rfl .nil) (fk_cons 0 rfl fk_nil) (fun _ => rfl) ?_
        intro k6771
        rintro ⟨⟨x5446, x5447⟩, _⟩
        try dsimp only
        refine sxc_meq (m' := M_L_CoreNumbers_b603 F x1 x4 x7 (M_L_CoreNumbers_l603 F x1 x4 x7 k6771) x5446 x5447) rfl ?_
        refine sxc_seq ?_
        refine sxc_seq ?_
        refine sxc_region ?_
        refine sxo_move rfl rfl rfl ?_
        refine sxo_move rfl rfl rfl ?_
        refine sxo_len rfl Try.underlying25 rfl rfl ?_
        refine sxo_lss rfl rfl rfl rfl ?_
        refine sxo_nil ?_
        refine sxq_next ?_
        refine sxc_if rfl (fun h8094 => ?_) (fun h8094 => ?_)
        · refine sxc_skip ?_
          refine sxq_next ?_
          refine sxc_join (fun ((x7433, _) : (Int × Unit)) => [(2, .pointer (some ⟨g5, 0, none⟩)), (5, .slice a8 x7.1.length c9), (7, .func (.func 19) #[] #[.pointer (some ⟨g6, 0, none⟩)]), (8, .int .i64 x7433), (9, .int .i64 x5447)]) (fun ((x7433, _) : (Int × Unit)) => [⟨g6, 38, [.int .u64 x4]⟩, ⟨g5, 24, [.slice a2 x1.length c3.1]⟩]) (fun ((x7433, _) : (Int × Unit)) => [Ro (eI .i64) 3 1 (.slice a8 x7.1.length c9) x7.1]) (fun ((x7433, _) : (Int × Unit)) => [SlN eN25 iN25 1 (.slice a2 x1.length c3.1) x1 c3.2]) (fun ((x7433, _) : (Int × Unit)) => M_L_CoreNumbers_j662 F (M_L_CoreNumbers_l603 F x1 x4 x7 k6771) x5447 x7433) ?_ ?_
          · refine sxc_block ?_
            refine sxc_seq ?_
            refine sxc_region ?_
            refine sxo_assign rfl rfl rfl ?_
            refine sxo_assign rfl rfl rfl ?_
            refine sxo_nil ?_
            refine sxq_next ?_
            refine sxc_join (fun (((x7756, x7757), _) : ((Int × Int) × Unit)) => [(2, .pointer (some ⟨g5, 0, none⟩)), (5, .slice a8 x7.1.length c9), (7, .func (.func 19) #[] #[.pointer (some ⟨g6, 0, none⟩)]), (8, .int .i64 x5446), (9, .int .i64 x5447), (10, .int .i64 x7756), (11, .int .i64 x7757)]) (fun (((x7756, x7757), _) : ((Int × Int) × Unit)) => [⟨g6, 38, [.int .u64 x4]⟩, ⟨g5, 24, [.slice a2 x1.length c3.1]⟩]) (fun (((x7756, x7757), _) : ((Int × Int) × Unit)) => [Ro (eI .i64) 3 1 (.slice a8 x7.1.length c9) x7.1]) (fun (((x7756, x7757), _) : ((Int × Int) × Unit)) => [SlN eN25 iN25 1 (.slice a2 x1.length c3.1) x1 c3.2]) (fun (((x7756, x7757), _) : ((Int × Int) × Unit)) => M_L_CoreNumbers_j691 F (M_L_CoreNumbers_l603 F x1 x4 x7 k6771) x4 x7 x5446 x5447 x7756 x7757) ?_ ?_
            · refine sxc_seq ?_
              refine sxc_region ?_
              refine sxo_assign rfl rfl rfl ?_
              refine sxo_nil ?_
              refine sxq_next ?_
              refine sxc_block ?_
              refine sxc_loopP (fun (((x7878, x7879, x7880), _) : ((Int × Int × Int) × Unit)) => [(2, .pointer (some ⟨g5, 0, none⟩)), (5, .slice a8 x7.1.length c9), (7, .func (.func 19) #[] #[.pointer (some ⟨g6, 0, none⟩)]), (8, .int .i64 x5446), (9, .int .i64 x5447), (10, .int .i64 x7878), (11, .int .i64 x7879), (12, .int .i64 x7880)]) (fun (((x7878, x7879, x7880), _) : ((Int × Int × Int) × Unit)) => [⟨g6, 38, [.int .u64 x4]⟩, ⟨g5, 24, [.slice a2 x1.length c3.1]⟩]) (fun (((x7878, x7879, x7880), _) : ((Int × Int × Int) × Unit)) => [Ro (eI .i64) 3 1 (.slice a8 x7.1.length c9) x7.1]) (fun (((x7878, x7879, x7880), _) : ((Int × Int × Int) × Unit)) => [SlN eN25 iN25 1 (.slice a2 x1.length c3.1) x1 c3.2]) (fun k (s : ((Int × Int × Int) × Unit)) => M_L_CoreNumbers_l711 F (M_L_CoreNumbers_l603 F x1 x4 x7 k6771) x1 x4 x7 x5446 x5447 k s.1) ((0, 0, 0), ()) F (lk_cons rfl (lk_cons rfl (lk_cons rfl (lk_cons rfl (lk_cons rfl (lk_cons rfl (lk_cons rfl (lk_cons rfl lk_nil)))))))) (.cons 0 rfl (.cons 0 rfl .nil)) (.cons 0 rfl .nil) (fk_cons 0 rfl fk_nil) (fun _ => rfl) ?_
              intro k7987
              rintro ⟨⟨x7878, x7879, x7880⟩, _⟩
              try dsimp only
              refine sxc_meq (m' := M_L_CoreNumbers_b711 F (M_L_CoreNumbers_l603 F x1 x4 x7 k6771) x1 x4 x7 x5446 x5447 (M_L_CoreNumbers_l711 F (M_L_CoreNumbers_l603 F x1 x4 x7 k6771) x1 x4 x7 x5446 x5447 k7987) x7878 x7879 x7880) rfl ?_
              refine sxc_seq ?_
              refine sxc_seq ?_
              refine sxc_region ?_
              refine sxo_move rfl rfl rfl ?_
              refine sxo_move rfl rfl rfl ?_
              refine sxo_len rfl Try.underlying25 rfl rfl ?_
              refine sxo_lss rfl rfl rfl rfl ?_
              refine sxo_nil ?_
              refine sxq_next ?_
              refine sxc_if rfl (fun h8093 => ?_) (fun h8093 => ?_)
              · refine sxc_skip ?_
                refine sxq_next ?_
                refine sxc_join (fun (((x8040, x8041), _) : ((Int × Int) × Unit)) => [(2, .pointer (some ⟨g5, 0, none⟩)), (5, .slice a8 x7.1.length c9), (7, .func (.func 19) #[] #[.pointer (some ⟨g6, 0, none⟩)]), (8, .int .i64 x5446), (9, .int .i64 x5447), (10, .int .i64 x8040), (11, .int .i64 x8041), (12, .int .i64 x7880)]) (fun (((x8040, x8041), _) : ((Int × Int) × Unit)) => [⟨g6, 38, [.int .u64 x4]⟩, ⟨g5, 24, [.slice a2 x1.length c3.1]⟩]) (fun (((x8040, x8041), _) : ((Int × Int) × Unit)) => [Ro (eI .i64) 3 1 (.slice a8 x7.1.length c9) x7.1]) (fun (((x8040, x8041), _) : ((Int × Int) × Unit)) => [SlN eN25 iN25 1 (.slice a2 x1.length c3.1) x1 c3.2]) (fun (((x8040, x8041), _) : ((Int × Int) × Unit)) => M_L_CoreNumbers_j716 F (M_L_CoreNumbers_l711 F (M_L_CoreNumbers_l603 F x1 x4 x7 k6771) x1 x4 x7 x5446 x5447 k7987) x7880 x8040 x8041) ?_ ?_
                · refine sxc_block ?_
                  refine sxc_join (fun ((x8064, _) : (Int × Unit)) => [(2, .pointer (some ⟨g5, 0, none⟩)), (5, .slice a8 x7.1.length c9), (7, .func (.func 19) #[] #[.pointer (some ⟨g6, 0, none⟩)]), (8, .int .i64 x5446), (9, .int .i64 x5447), (10, .int .i64 x8064), (11, .int .i64 x7879), (12, .int .i64 x7880)]) (fun ((x8064, _) : (Int × Unit)) => [⟨g6, 38, [.int .u64 x4]⟩, ⟨g5, 24, [.slice a2 x1.length c3.1]⟩]) (fun ((x8064, _) : (Int × Unit)) => [Ro (eI .i64) 3 1 (.slice a8 x7.1.length c9) x7.1]) (fun ((x8064, _) : (Int × Unit)) => [SlN eN25 iN25 1 (.slice a2 x1.length c3.1) x1 c3.2]) (fun ((x8064, _) : (Int × Unit)) => M_L_CoreNumbers_j718 F (M_L_CoreNumbers_l711 F (M_L_CoreNumbers_l603 F x1 x4 x7 k6771) x1 x4 x7 x5446 x5447 k7987) x1 x4 x5447 x7879 x7880 x8064) ?_ ?_
                  · refine sxc_join (fun ((x8081, _) : (Bool × Unit)) => [(2, .pointer (some ⟨g5, 0, none⟩)), (5, .slice a8 x7.1.length c9), (7, .func (.func 19) #[] #[.pointer (some ⟨g6, 0, none⟩)]), (8, .int .i64 x5446), (9, .int .i64 x5447), (10, .int .i64 x7878), (11, .int .i64 x7879), (12, .int .i64 x7880), (53, .bool x8081)]) (fun ((x8081, _) : (Bool × Unit)) => [⟨g6, 38, [.int .u64 x4]⟩, ⟨g5, 24, [.slice a2 x1.length c3.1]⟩]) (fun ((x8081, _) : (Bool × Unit)) => [Ro (eI .i64) 3 1 (.slice a8 x7.1.length c9) x7.1]) (fun ((x8081, _) : (Bool × Unit)) => [SlN eN25 iN25 1 (.slice a2 x1.length c3.1) x1 c3.2]) (fun ((x8081, _) : (Bool × Unit)) => M_L_CoreNumbers_j720 F (M_L_CoreNumbers_l711 F (M_L_CoreNumbers_l603 F x1 x4 x7 k6771) x1 x4 x7 x5446 x5447 k7987) x1 x4 x5447 x7878 x7879 x7880 x8081) ?_ ?_
                    · refine sxc_idxO (j := 0) rfl (fun x8083 e8083 g8084 h8085 => ?_)
                      replace h8085 : a8 = some ⟨g8084, 0, none⟩ := h8085
                      have h8086 := own_of (k := x7.1.length) (c := c9) h8085
                      refine sxc_idxO (j := 0) rfl (fun x8087 e8087 g8088 h8089 => ?_)
                      replace h8089 : a8 = some ⟨g8088, 0, none⟩ := h8089
                      have h8090 := own_of (k := x7.1.length) (c := c9) h8089
                      refine sxb_draw mixed [] [⟨g6, 38, [.int .u64 x4]⟩, ⟨g5, 24, [.slice a2 x1.length c3.1]⟩] [SlN eN25 iN25 1 (.slice a2 x1.length c3.1) x1 c3.2, CellsAt g8084 (x7880.toNat * 1) ((eI .i64) x8083), CellsAt g8088 (x5447.toNat * 1) ((eI .i64) x8087)] (.cons 0 rfl (.cons 0 rfl .nil)) (gk_F 0 rfl (gk_R 0 rfl (at_row (eI_ok .i64) e8083 h8085) (gk_R 0 rfl (at_row (eI_ok .i64) e8087 h8089) gk_nil))) 15 rfl ?_
                      refine sxb_takeB 0 (.agg #[.slice a2 x1.length c3.1]) rfl rfl rfl rfl (by kernel_rfl) (by kernel_rfl) (by kernel_rfl) (by kernel_rfl) (by kernel_rfl) rfl (show _ = #[true, false, false, false, false, false, false, false, false, false, false, false, false, false, false] from rfl) (yv_loadB (i := 1) rfl tf24 rfl rfl (by simp) rfl) ?_
                      refine sxb_takeP 1 (.int .i64 x5447) rfl rfl rfl rfl (by kernel_rfl) (by kernel_rfl) (by kernel_rfl) (by kernel_rfl) (by kernel_rfl) rfl (show _ = #[true, true, false, false, false, false, false, false, false, false, false, false, false, false, false] from rfl) (yv_pv rfl) ?_
                      refine sxb_takeP 2 (.int .i64 x7880) rfl rfl rfl rfl (by kernel_rfl) (by kernel_rfl) (by kernel_rfl) (by kernel_rfl) (by kernel_rfl) rfl (show _ = #[true, true, true, false, false, false, false, false, false, false, false, false, false, false, false] from rfl) (yv_pv rfl) ?_
                      refine sxb_step 3 rfl (by kernel_rfl) (show _ = #[true, true, true, true, false, false, false, false, false, false, false, false, false, false, false] from rfl) ?_
                      refine sxo_call ent20 rfl rfl rfl (fun x8091 e8091 => C_R_Near F x1 a2 c3 x5447 x7880 x8091 e8091) (.consF 0 rfl .nil) (fun x8091 e8091 => ?_)
                      intro _
                      refine sxo_nil ?_
                      refine sxq_anyB (.cons 0 rfl (.cons 0 rfl .nil)) (gk_F 0 rfl (gk_R 0 rfl (at_row (eI_ok .i64) e8083 h8085) (gk_R 0 rfl (at_row (eI_ok .i64) e8087 h8089) gk_nil))) ?_
                      refine sxb_takeP 4 (.bool x8091) rfl rfl rfl rfl (by kernel_rfl) (by kernel_rfl) (by kernel_rfl) (by kernel_rfl) (by kernel_rfl) rfl (show _ = #[true, true, true, true, true, false, false, false, false, false, false, false, false, false, false] from rfl) (yv_pv rfl) ?_
                      refine sxb_if (fun h8092 => ?_) (fun h8092 => ?_)
                      · refine sxb_again (d := 43) (v := .bool true) rfl (by rw [h8092] <;> rfl) ?_
                        refine sxb_takeP 5 (.slice a8 x7.1.length c9) rfl rfl rfl rfl (by kernel_rfl) (by kernel_rfl) (by kernel_rfl) (by kernel_rfl) (by kernel_rfl) rfl (show _ = #[true, true, true, true, true, true, false, false, false, false, false, false, false, false, false] from rfl) (yv_pv rfl) ?_
                        refine sxb_takeP 6 (.int .i64 x7880) rfl rfl rfl rfl (by kernel_rfl) (by kernel_rfl) (by kernel_rfl) (by kernel_rfl) (by kernel_rfl) rfl (show _ = #[true, true, true, true, true, true, true, false, false, false, false, false, false, false, false] from rfl) (yv_pv rfl) ?_
                        refine sxb_again (d := 44) (v := .slice (some ⟨g8084, 0, none⟩) x7.1.length c9) rfl (by rw [h8085] <;> rfl) ?_
                        refine sxb_takeP 7 (.pointer (some ⟨g8084, x7880.toNat * 1, none⟩)) rfl rfl rfl rfl (by kernel_rfl) (by kernel_rfl) (by kernel_rfl) (by kernel_rfl) (by kernel_rfl) rfl (show _ = #[true, true, true, true, true, true, true, true, false, false, false, false, false, false, false] from rfl) (yv_idxO Try.underlying25 tf3 rfl rfl (idx_get e8083).1 (idx_lt e8083)) ?_
                        refine sxb_again (d := 44) (v := .slice a8 x7.1.length c9) rfl (by rw [h8085] <;> rfl) ?_
                        refine sxb_take 8 (.int .i64 x8083) [] rfl rfl rfl rfl (by kernel_rfl) (by kernel_rfl) (by kernel_rfl) (by kernel_rfl) (by kernel_rfl) (by kernel_rfl) rfl (show _ = #[true, true, true, true, true, true, true, true, true, false, false, false, false, false, false] from rfl) (yv_loadF (j := 1) rfl tf3 rfl rfl (fun _ => rfl) rfl) ?_
                        refine sxb_takeP 9 (.slice a8 x7.1.length c9) rfl rfl rfl rfl (by kernel_rfl) (by kernel_rfl) (by kernel_rfl) (by kernel_rfl) (by kernel_rfl) rfl (show _ = #[true, true, true, true, true, true, true, true, true, true, false, false, false, false, false] from rfl) (yv_pv rfl) ?_
                        refine sxb_takeP 10 (.int .i64 x5447) rfl rfl rfl rfl (by kernel_rfl) (by kernel_rfl) (by kernel_rfl) (by kernel_rfl) (by kernel_rfl) rfl (show _ = #[true, true, true, true, true, true, true, true, true, true, true, false, false, false, false] from rfl) (yv_pv rfl) ?_
                        refine sxb_again (d := 48) (v := .slice (some ⟨g8088, 0, none⟩) x7.1.length c9) rfl (by rw [h8089] <;> rfl) ?_
                        refine sxb_takeP 11 (.pointer (some ⟨g8088, x5447.toNat * 1, none⟩)) rfl rfl rfl rfl (by kernel_rfl) (by kernel_rfl) (by kernel_rfl) (by kernel_rfl) (by kernel_rfl) rfl (show _ = #[true, true, true, true, true, true, true, true, true, true, true, true, false, false, false] from rfl) (yv_idxO Try.underlying25 tf3 rfl rfl (idx_get e8087).1 (idx_lt e8087)) ?_
                        refine sxb_again (d := 48) (v := .slice a8 x7.1.length c9) rfl (by rw [h8089] <;> rfl) ?_
                        refine sxb_take 12 (.int .i64 x8087) [] rfl rfl rfl rfl (by kernel_rfl) (by kernel_rfl) (by kernel_rfl) (by kernel_rfl) (by kernel_rfl) (by kernel_rfl) rfl (show _ = #[true, true, true, true, true, true, true, true, true, true, true, true, true, false, false] from rfl) (yv_loadF (j := 2) rfl tf3 rfl rfl (fun _ => rfl) rfl) ?_
                        refine sxb_takeP 13 (.bool (decide (x8087 ≤ x8083))) rfl rfl rfl rfl (by kernel_rfl) (by kernel_rfl) (by kernel_rfl) (by kernel_rfl) (by kernel_rfl) rfl (show _ = #[true, true, true, true, true, true, true, true, true, true, true, true, true, true, false] from rfl) (yv_pv rfl) ?_
                        refine sxb_takeP 14 (.bool (decide (x8087 ≤ x8083))) rfl rfl rfl rfl (by kernel_rfl) (by kernel_rfl) (by kernel_rfl) (by kernel_rfl) (by kernel_rfl) rfl (show _ = #[true, true, true, true, true, true, true, true, true, true, true, true, true, true, true] from rfl) (yv_pv rfl) ?_
                        refine sxb_done (by kernel_rfl) ?_
                        refine sxq_np ?_ (by intro c h; cases h)
                        exact sxq_meetP ((decide (x8087 ≤ x8083)), ()) (lk_cons rfl (lk_cons rfl (lk_cons rfl (lk_cons rfl (lk_cons rfl (lk_cons rfl (lk_cons rfl (lk_cons rfl (lk_cons rfl lk_nil))))))))) (.cons 0 rfl (.cons 0 rfl .nil)) (.cons 0 rfl .nil) (fk_cons 0 rfl fk_nil)
                      · refine sxb_again (d := 43) (v := .bool false) rfl (by rw [h8092] <;> rfl) ?_
                        refine sxb_skip 5 rfl rfl rfl rfl (by kernel_rfl) (by kernel_rfl) (by kernel_rfl) (by kernel_rfl) (by kernel_rfl) rfl (show _ = #[true, true, true, true, true, true, false, false, false, false, false, false, false, false, false] from rfl) ?_
                        refine sxb_skip 6 rfl rfl rfl rfl (by kernel_rfl) (by kernel_rfl) (by kernel_rfl) (by kernel_rfl) (by kernel_rfl) rfl (show _ = #[true, true, true, true, true, true, true, false, false, false, false, false, false, false, false] from rfl) ?_
                        refine sxb_skip 7 rfl rfl rfl rfl (by kernel_rfl) (by kernel_rfl) (by kernel_rfl) (by kernel_rfl) (by kernel_rfl) rfl (show _ = #[true, true, true, true, true, true, true, true, false, false, false, false, false, false, false] from rfl) ?_
                        refine sxb_skip 8 rfl rfl rfl rfl (by kernel_rfl) (by kernel_rfl) (by kernel_rfl) (by kernel_rfl) (by kernel_rfl) rfl (show _ = #[true, true, true, true, true, true, true, true, true, false, false, false, false, false, false] from rfl) ?_
                        refine sxb_skip 9 rfl rfl rfl rfl (by kernel_rfl) (by kernel_rfl) (by kernel_rfl) (by kernel_rfl) (by kernel_rfl) rfl (show _ = #[true, true, true, true, true, true, true, true, true, true, false, false, false, false, false] from rfl) ?_
                        refine sxb_skip 10 rfl rfl rfl rfl (by kernel_rfl) (by kernel_rfl) (by kernel_rfl) (by kernel_rfl) (by kernel_rfl) rfl (show _ = #[true, true, true, true, true, true, true, true, true, true, true, false, false, false, false] from rfl) ?_
                        refine sxb_skip 11 rfl rfl rfl rfl (by kernel_rfl) (by kernel_rfl) (by kernel_rfl) (by kernel_rfl) (by kernel_rfl) rfl (show _ = #[true, true, true, true, true, true, true, true, true, true, true, true, false, false, false] from rfl) ?_
                        refine sxb_skip 12 rfl rfl rfl rfl (by kernel_rfl) (by kernel_rfl) (by kernel_rfl) (by kernel_rfl) (by kernel_rfl) rfl (show _ = #[true, true, true, true, true, true, true, true, true, true, true, true, true, false, false] from rfl) ?_
                        refine sxb_skip 13 rfl rfl rfl rfl (by kernel_rfl) (by kernel_rfl) (by kernel_rfl) (by kernel_rfl) (by kernel_rfl) rfl (show _ = #[true, true, true, true, true, true, true, true, true, true, true, true, true, true, false] from rfl) ?_
                        refine sxb_takeP 14 (.bool false) rfl rfl rfl rfl (by kernel_rfl) (by kernel_rfl) (by kernel_rfl) (by kernel_rfl) (by kernel_rfl) rfl (show _ = #[true, true, true, true, true, true, true, true, true, true, true, true, true, true, true] from rfl) (yv_pv rfl) ?_
                        refine sxb_done (by kernel_rfl) ?_
                        refine sxq_np ?_ (by intro c h; cases h)
                        exact sxq_meetP (false, ()) (lk_cons rfl (lk_cons rfl (lk_cons rfl (lk_cons rfl (lk_cons rfl (lk_cons rfl (lk_cons rfl (lk_cons rfl (lk_cons rfl lk_nil))))))))) (.cons 0 rfl (.cons 0 rfl .nil)) (.cons 0 rfl .nil) (fk_cons 0 rfl fk_nil)
                    · rintro ⟨x8081, _⟩
                      try dsimp only
                      refine sxc_if rfl (fun h8082 => ?_) (fun h8082 => ?_)
                      · refine sxc_region ?_
                        refine sxo_move rfl rfl rfl ?_
                        refine sxo_add rfl rfl rfl rfl ?_
                        refine sxo_assign rfl rfl rfl ?_
                        refine sxo_nil ?_
                        exact sxq_meetP (iadd .i64 x7878 1, ()) (lk_cons rfl (lk_cons rfl (lk_cons rfl (lk_cons rfl (lk_cons rfl (lk_cons rfl (lk_cons rfl (lk_cons rfl lk_nil)))))))) (.cons 0 rfl (.cons 0 rfl .nil)) (.cons 0 rfl .nil) (fk_cons 0 rfl fk_nil)
                      · refine sxc_skip ?_
                        exact sxq_meetP (x7878, ()) (lk_cons rfl (lk_cons rfl (lk_cons rfl (lk_cons rfl (lk_cons rfl (lk_cons rfl (lk_cons rfl (lk_cons rfl lk_nil)))))))) (.cons 0 rfl (.cons 0 rfl .nil)) (.cons 0 rfl .nil) (fk_cons 0 rfl fk_nil)
                  · rintro ⟨x8064, _⟩
                    try dsimp only
                    refine sxc_seq ?_
                    refine sxc_region ?_
                    refine sxo_loadB (i := 1) rfl rfl tf24 rfl rfl (by simp) rfl rfl ?_
                    refine sxo_move rfl rfl rfl ?_
                    refine sxo_move rfl rfl rfl ?_
                    refine sxo_call ent20 rfl rfl rfl (fun x8065 e8065 => C_R_Near F x1 a2 c3 x5447 x7880 x8065 e8065) (.consF 0 rfl .nil) (fun x8065 e8065 => ?_)
                    intro _
                    refine sxo_move rfl rfl rfl ?_
                    refine sxo_join 4 (fun ((x8068, _) : (Bool × Unit)) => [(2, .pointer (some ⟨g5, 0, none⟩)), (5, .slice a8 x7.1.length c9), (7, .func (.func 19) #[] #[.pointer (some ⟨g6, 0, none⟩)]), (8, .int .i64 x5446), (9, .int .i64 x5447), (10, .int .i64 x8064), (11, .int .i64 x7879), (12, .int .i64 x7880), (64, .bool x8068)]) (fun ((x8068, _) : (Bool × Unit)) => [⟨g6, 38, [.int .u64 x4]⟩, ⟨g5, 24, [.slice a2 x1.length c3.1]⟩]) (fun ((x8068, _) : (Bool × Unit)) => [Ro (eI .i64) 3 1 (.slice a8 x7.1.length c9) x7.1]) (fun ((x8068, _) : (Bool × Unit)) => [SlN eN25 iN25 1 (.slice a2 x1.length c3.1) x1 c3.2]) (fun ((x8068, _) : (Bool × Unit)) => M_L_CoreNumbers_j719 F (M_L_CoreNumbers_l711 F (M_L_CoreNumbers_l603 F x1 x4 x7 k6771) x1 x4 x7 x5446 x5447 k7987) x7879 x7880 x8064 x8068) ?_ ?_
                    · refine sxo_take (os := _) rfl ?_
                      refine sxo_if (fun h8066 => ?_) (fun h8066 => ?_)
                      · refine sxo_isT (k := 60) rfl h8066 ?_
                        refine sxo_move rfl rfl rfl ?_
                        refine sxo_move rfl rfl rfl ?_
                        refine sxo_callMV ent19 rfl rfl rfl rfl (fun x8070 e8070 => C_L_CoreNumbers_1 F x7880 g6 x4 x8070 e8070) (.cons 0 rfl .nil) .nil .nil (fun x8070 e8070 => ?_)
                        intro _
                        refine sxo_pick (b := true) rfl rfl rfl rfl ?_
                        refine sxo_nil ?_
                        exact sxq_meetP (x8070, ()) (lk_cons rfl (lk_cons rfl (lk_cons rfl (lk_cons rfl (lk_cons rfl (lk_cons rfl (lk_cons rfl (lk_cons rfl (lk_cons rfl lk_nil))))))))) (.cons 0 rfl (.cons 0 rfl .nil)) (.cons 0 rfl .nil) (fk_cons 0 rfl fk_nil)
                      · refine sxo_isF (k := 60) rfl h8066 ?_
                        refine sxo_skip rfl rfl rfl ?_
                        refine sxo_skip rfl rfl rfl ?_
                        refine sxo_skip rfl rfl rfl ?_
                        refine sxo_pick (b := false) rfl rfl rfl rfl ?_
                        refine sxo_nil ?_
                        exact sxq_meetP (false, ()) (lk_cons rfl (lk_cons rfl (lk_cons rfl (lk_cons rfl (lk_cons rfl (lk_cons rfl (lk_cons rfl (lk_cons rfl (lk_cons rfl lk_nil))))))))) (.cons 0 rfl (.cons 0 rfl .nil)) (.cons 0 rfl .nil) (fk_cons 0 rfl fk_nil)
                    · rintro ⟨x8068, _⟩
                      try dsimp only
                      refine sxo_take (os := _) rfl ?_
                      refine sxo_nil ?_
                      refine sxq_next ?_
                      refine sxc_if rfl (fun h8069 => ?_) (fun h8069 => ?_)
                      · refine sxc_region ?_
                        refine sxo_move rfl rfl rfl ?_
                        refine sxo_add rfl rfl rfl rfl ?_
                        refine sxo_assign rfl rfl rfl ?_
                        refine sxo_nil ?_
                        refine sxq_blkN ?_
                        exact sxq_meetP ((x8064, iadd .i64 x7879 1), ()) (lk_cons rfl (lk_cons rfl (lk_cons rfl (lk_cons rfl (lk_cons rfl (lk_cons rfl (lk_cons rfl (lk_cons rfl lk_nil)))))))) (.cons 0 rfl (.cons 0 rfl .nil)) (.cons 0 rfl .nil) (fk_cons 0 rfl fk_nil)
                      · refine sxc_skip ?_
                        refine sxq_blkN ?_
                        exact sxq_meetP ((x8064, x7879), ()) (lk_cons rfl (lk_cons rfl (lk_cons rfl (lk_cons rfl (lk_cons rfl (lk_cons rfl (lk_cons rfl (lk_cons rfl lk_nil)))))))) (.cons 0 rfl (.cons 0 rfl .nil)) (.cons 0 rfl .nil) (fk_cons 0 rfl fk_nil)
                · rintro ⟨⟨x8040, x8041⟩, _⟩
                  try dsimp only
                  refine sxc_region ?_
                  refine sxo_move rfl rfl rfl ?_
                  refine sxo_add rfl rfl rfl rfl ?_
                  refine sxo_assign rfl rfl rfl ?_
                  refine sxo_nil ?_
                  exact sxq_againP ((x8040, x8041, iadd .i64 x7880 1), ()) (lk_cons rfl (lk_cons rfl (lk_cons rfl (lk_cons rfl (lk_cons rfl (lk_cons rfl (lk_cons rfl (lk_cons rfl lk_nil)))))))) (.cons 0 rfl (.cons 0 rfl .nil)) (.cons 0 rfl .nil) (fk_cons 0 rfl fk_nil)
              · refine sxc_exit ?_
                refine sxq_thenX ?_
                refine sxq_thenX ?_
                refine sxq_blkX ?_
                exact sxq_meetP ((x7878, x7879), ()) (lk_cons rfl (lk_cons rfl (lk_cons rfl (lk_cons rfl (lk_cons rfl (lk_cons rfl (lk_cons rfl lk_nil))))))) (.cons 0 rfl (.cons 0 rfl .nil)) (.cons 0 rfl .nil) (fk_cons 0 rfl fk_nil)
            · rintro ⟨⟨x7756, x7757⟩, _⟩
              try dsimp only
              refine sxc_seq ?_
              refine sxc_seq ?_
              refine sxc_region ?_
              refine sxo_move rfl rfl rfl ?_
              refine sxo_move rfl rfl rfl ?_
              refine sxo_move rfl rfl rfl ?_
              refine sxo_indexR (j := 0) rfl Try.underlying25 tf3 rfl rfl rfl rfl (fun x7762 e7762 g7763 h7764 => ?_)
              refine sxo_loadR (j := 0) (y := x7762) (eI_ok .i64) rfl rfl tf3 rfl h7764 (idx_get e7762).2.2 (fun _ => rfl) rfl rfl ?_
              refine sxo_lss rfl rfl rfl rfl ?_
              refine sxo_nil ?_
              refine sxq_next ?_
              refine sxc_if rfl (fun h7771 => ?_) (fun h7771 => ?_)
              · refine sxc_seq ?_
                refine sxc_region ?_
                refine sxo_assign rfl rfl rfl ?_
                refine sxo_nil ?_
                refine sxq_next ?_
                refine sxc_ret ?_
                refine sxq_thenR ?_
                refine sxq_blkR ?_
                refine sxq_thenR ?_
                refine sxq_thenR ?_
                refine sxq_blkR ?_
                refine sxq_thenR ?_
                exact sxq_doneP () (.inl rfl) (res1 rfl rfl) (fun h => by subst h; rfl) (fun h => by subst h; exact .nil)
              · refine sxc_skip ?_
                refine sxq_next ?_
                refine sxc_seq ?_
                refine sxc_region ?_
                refine sxo_move rfl rfl rfl ?_
                refine sxo_move rfl rfl rfl ?_
                refine sxo_callMV ent19 rfl rfl rfl rfl (fun x7765 e7765 => C_L_CoreNumbers_1 F x5447 g6 x4 x7765 e7765) (.cons 0 rfl .nil) .nil .nil (fun x7765 e7765 => ?_)
                intro _
                refine sxo_move rfl rfl rfl ?_
                refine sxo_join 8 (fun ((x7768, _) : (Bool × Unit)) => [(2, .pointer (some ⟨g5, 0, none⟩)), (5, .slice a8 x7.1.length c9), (7, .func (.func 19) #[] #[.pointer (some ⟨g6, 0, none⟩)]), (8, .int .i64 x5446), (9, .int .i64 x5447), (11, .int .i64 x7757), (84, .bool x7768)]) (fun ((x7768, _) : (Bool × Unit)) => [⟨g6, 38, [.int .u64 x4]⟩, ⟨g5, 24, [.slice a2 x1.length c3.1]⟩]) (fun ((x7768, _) : (Bool × Unit)) => [Ro (eI .i64) 3 1 (.slice a8 x7.1.length c9) x7.1]) (fun ((x7768, _) : (Bool × Unit)) => [SlN eN25 iN25 1 (.slice a2 x1.length c3.1) x1 c3.2]) (fun ((x7768, _) : (Bool × Unit)) => M_L_CoreNumbers_j692 F (M_L_CoreNumbers_l603 F x1 x4 x7 k6771) x5446 x5447 x7757 x7768) ?_ ?_
                · refine sxo_take (os := _) rfl ?_
                  refine sxo_if (fun h7766 => ?_) (fun h7766 => ?_)
                  · refine sxo_isT (k := 76) rfl h7766 ?_
                    refine sxo_move rfl rfl rfl ?_
                    refine sxo_lss rfl rfl rfl rfl ?_
                    refine sxo_move rfl rfl rfl ?_
                    refine sxo_case 4 (decide (x5446 < 0)) [(2, .pointer (some ⟨g5, 0, none⟩)), (5, .slice a8 x7.1.length c9), (7, .func (.func 19) #[] #[.pointer (some ⟨g6, 0, none⟩)]), (8, .int .i64 x5446), (9, .int .i64 x5447), (11, .int .i64 x7757), (76, .bool true), (77, .int .i64 x5446), (78, .bool (decide (x5446 < 0))), (79, .bool (decide (x5446 < 0))), (83, .bool ((decide (x5446 < 0)) || (decide (x7757 < x5446))))] (fun h7770 => ?_) (fun h7770 => ?_) ?_
                    · refine sxo_take (os := _) rfl ?_
                      refine sxo_isT (k := 79) rfl h7770 ?_
                      refine sxo_skip rfl rfl rfl ?_
                      refine sxo_skip rfl rfl rfl ?_
                      refine sxo_skip rfl rfl rfl ?_
                      refine sxo_pick (b := true) rfl rfl rfl rfl ?_
                      refine sxo_again (d := 83) (v := .bool ((decide (x5446 < 0)) || (decide (x7757 < x5446)))) rfl (by rw [h7770]; simp only [Bool.true_or]) ?_
                      refine sxo_again (d := 79) (v := .bool (decide (x5446 < 0))) rfl (by rw [h7770] <;> rfl) ?_
                      refine sxo_nil ?_
                      exact sxq_case (lk_cons rfl (lk_cons rfl (lk_cons rfl (lk_cons rfl (lk_cons rfl (lk_cons rfl (lk_cons rfl (lk_cons rfl (lk_cons rfl (lk_cons rfl (lk_cons rfl lk_nil)))))))))))
                    · refine sxo_take (os := _) rfl ?_
                      refine sxo_isF (k := 79) rfl h7770 ?_
                      refine sxo_move rfl rfl rfl ?_
                      refine sxo_move rfl rfl rfl ?_
                      refine sxo_lss rfl rfl rfl rfl ?_
                      refine sxo_pick (b := false) rfl rfl rfl rfl ?_
                      refine sxo_again (d := 83) (v := .bool ((decide (x5446 < 0)) || (decide (x7757 < x5446)))) rfl (by rw [h7770]; simp only [Bool.false_or]) ?_
                      refine sxo_again (d := 79) (v := .bool (decide (x5446 < 0))) rfl (by rw [h7770] <;> rfl) ?_
                      refine sxo_nil ?_
                      exact sxq_case (lk_cons rfl (lk_cons rfl (lk_cons rfl (lk_cons rfl (lk_cons rfl (lk_cons rfl (lk_cons rfl (lk_cons rfl (lk_cons rfl (lk_cons rfl (lk_cons rfl lk_nil)))))))))))
                    refine sxo_take (os := _) rfl ?_
                    refine sxo_pick (b := true) rfl rfl rfl rfl ?_
                    refine sxo_nil ?_
                    exact sxq_meetP (((decide (x5446 < 0)) || (decide (x7757 < x5446))), ()) (lk_cons rfl (lk_cons rfl (lk_cons rfl (lk_cons rfl (lk_cons rfl (lk_cons rfl (lk_cons rfl lk_nil))))))) (.cons 0 rfl (.cons 0 rfl .nil)) (.cons 0 rfl .nil) (fk_cons 0 rfl fk_nil)
                  · refine sxo_isF (k := 76) rfl h7766 ?_
                    refine sxo_skip rfl rfl rfl ?_
                    refine sxo_skip rfl rfl rfl ?_
                    refine sxo_skip rfl rfl rfl ?_
                    refine sxo_skip rfl rfl rfl ?_
                    refine sxo_skip rfl rfl rfl ?_
                    refine sxo_skip rfl rfl rfl ?_
                    refine sxo_skip rfl rfl rfl ?_
                    refine sxo_pick (b := false) rfl rfl rfl rfl ?_
                    refine sxo_nil ?_
                    exact sxq_meetP (false, ()) (lk_cons rfl (lk_cons rfl (lk_cons rfl (lk_cons rfl (lk_cons rfl (lk_cons rfl (lk_cons rfl lk_nil))))))) (.cons 0 rfl (.cons 0 rfl .nil)) (.cons 0 rfl .nil) (fk_cons 0 rfl fk_nil)
                · rintro ⟨x7768, _⟩
                  try dsimp only
                  refine sxo_take (os := _) rfl ?_
                  refine sxo_nil ?_
                  refine sxq_next ?_
                  refine sxc_if rfl (fun h7769 => ?_) (fun h7769 => ?_)
                  · refine sxc_region ?_
                    refine sxo_move rfl rfl rfl ?_
                    refine sxo_assign rfl rfl rfl ?_
                    refine sxo_nil ?_
                    refine sxq_blkN ?_
                    exact sxq_meetP (x7757, ()) (lk_cons rfl (lk_cons rfl (lk_cons rfl (lk_cons rfl (lk_cons rfl lk_nil))))) (.cons 0 rfl (.cons 0 rfl .nil)) (.cons 0 rfl .nil) (fk_cons 0 rfl fk_nil)
                  · refine sxc_skip ?_
                    refine sxq_blkN ?_
                    exact sxq_meetP (x5446, ()) (lk_cons rfl (lk_cons rfl (lk_cons rfl (lk_cons rfl (lk_cons rfl lk_nil))))) (.cons 0 rfl (.cons 0 rfl .nil)) (.cons 0 rfl .nil) (fk_cons 0 rfl fk_nil)
          · rintro ⟨x7433, _⟩
            try dsimp only
            refine sxc_region ?_
            refine sxo_move rfl rfl rfl ?_
            refine sxo_add rfl rfl rfl rfl ?_
            refine sxo_assign rfl rfl rfl ?_
            refine sxo_nil ?_
            exact sxq_againP ((x7433, iadd .i64 x5447 1), ()) (lk_cons rfl (lk_cons rfl (lk_cons rfl (lk_cons rfl (lk_cons rfl lk_nil))))) (.cons 0 rfl (.cons 0 rfl .nil)) (.cons 0 rfl .nil) (fk_cons 0 rfl fk_nil)
        · refine sxc_exit ?_
          refine sxq_thenX ?_
          refine sxq_thenX ?_
          refine sxq_blkX ?_
          exact sxq_meetP (x5446, ()) (lk_cons rfl (lk_cons rfl (lk_cons rfl lk_nil))) (.cons 0 rfl .nil) (.cons 0 rfl .nil) fk_nil
      · rintro ⟨x3986, _⟩
        try dsimp only
        refine sxc_join (fun ((_, _) : (Unit × Unit)) => []) (fun ((_, _) : (Unit × Unit)) => []) (fun ((_, _) : (Unit × Unit)) => []) (fun ((_, _) : (Unit × Unit)) => []) (fun ((_, _) : (Unit × Unit)) => M_L_CoreNumbers_j361 F) ?_ ?_
        · refine sxc_seq ?_
          refine sxc_region ?_
          refine sxo_assign rfl rfl rfl ?_
          refine sxo_nil ?_
          refine sxq_next ?_
          refine sxc_block ?_
          refine sxc_loopP (fun ((x4077, _) : (Int × Unit)) => [(5, .slice a8 x7.1.length c9), (7, .func (.func 19) #[] #[.pointer (some ⟨g6, 0, none⟩)]), (8, .int .i64 x3986), (13, .int .i64 x4077)]) (fun ((x4077, _) : (Int × Unit)) => [⟨g6, 38, [.int .u64 x4]⟩]) (fun ((x4077, _) : (Int × Unit)) => [Ro (eI .i64) 3 1 (.slice a8 x7.1.length c9) x7.1]) (fun ((x4077, _) : (Int × Unit)) => []) (fun k (s : (Int × Unit)) => M_L_CoreNumbers_l366 F x4 x7 x3986 k s.1) (0, ()) F (lk_cons rfl (lk_cons rfl (lk_cons rfl (lk_cons rfl lk_nil)))) (.cons 0 rfl .nil) (.cons 0 rfl .nil) fk_nil (fun _ => rfl) ?_
          intro k4100
          rintro ⟨x4077, _⟩
          try dsimp only
          refine sxc_meq (m' := M_L_CoreNumbers_b366 F x4 x7 x3986 (M_L_CoreNumbers_l366 F x4 x7 x3986 k4100) x4077) rfl ?_
          refine sxc_seq ?_
          refine sxc_seq ?_
          refine sxc_region ?_
          refine sxo_move rfl rfl rfl ?_
          refine sxo_move rfl rfl rfl ?_
          refine sxo_len rfl Try.underlying25 rfl rfl ?_
          refine sxo_lss rfl rfl rfl rfl ?_
          refine sxo_nil ?_
          refine sxq_next ?_
          refine sxc_if rfl (fun h4122 => ?_) (fun h4122 => ?_)
          · refine sxc_skip ?_
            refine sxq_next ?_
            refine sxc_seq ?_
            refine sxc_block ?_
            refine sxc_seq ?_
            refine sxc_region ?_
            refine sxo_move rfl rfl rfl ?_
            refine sxo_move rfl rfl rfl ?_
            refine sxo_callMV ent19 rfl rfl rfl rfl (fun x4112 e4112 => C_L_CoreNumbers_1 F x4077 g6 x4 x4112 e4112) (.cons 0 rfl .nil) .nil .nil (fun x4112 e4112 => ?_)
            intro _
            refine sxo_move rfl rfl rfl ?_
            refine sxo_join 7 (fun ((x4117, _) : (Bool × Unit)) => [(5, .slice a8 x7.1.length c9), (7, .func (.func 19) #[] #[.pointer (some ⟨g6, 0, none⟩)]), (8, .int .i64 x3986), (13, .int .i64 x4077), (102, .bool x4117)]) (fun ((x4117, _) : (Bool × Unit)) => [⟨g6, 38, [.int .u64 x4]⟩]) (fun ((x4117, _) : (Bool × Unit)) => [Ro (eI .i64) 3 1 (.slice a8 x7.1.length c9) x7.1]) (fun ((x4117, _) : (Bool × Unit)) => []) (fun ((x4117, _) : (Bool × Unit)) => M_L_CoreNumbers_j368 F (M_L_CoreNumbers_l366 F x4 x7 x3986 k4100) x4077 x4117) ?_ ?_
            · refine sxo_take (os := _) rfl ?_
              refine sxo_if (fun h4113 => ?_) (fun h4113 => ?_)
              · refine sxo_isT (k := 95) rfl h4113 ?_
                refine sxo_move rfl rfl rfl ?_
                refine sxo_move rfl rfl rfl ?_
                refine sxo_indexR (j := 0) rfl Try.underlying25 tf3 rfl rfl rfl rfl (fun x4119 e4119 g4120 h4121 => ?_)
                refine sxo_loadR (j := 0) (y := x4119) (eI_ok .i64) rfl rfl tf3 rfl h4121 (idx_get e4119).2.2 (fun _ => rfl) rfl rfl ?_
                refine sxo_move rfl rfl rfl ?_
                refine sxo_lss rfl rfl rfl rfl ?_
                refine sxo_pick (b := true) rfl rfl rfl rfl ?_
                refine sxo_nil ?_
                exact sxq_meetP ((decide (x4119 < x3986)), ()) (lk_cons rfl (lk_cons rfl (lk_cons rfl (lk_cons rfl (lk_cons rfl lk_nil))))) (.cons 0 rfl .nil) (.cons 0 rfl .nil) fk_nil
              · refine sxo_isF (k := 95) rfl h4113 ?_
                refine sxo_skip rfl rfl rfl ?_
                refine sxo_skip rfl rfl rfl ?_
                refine sxo_skip rfl rfl rfl ?_
                refine sxo_skip rfl rfl rfl ?_
                refine sxo_skip rfl rfl rfl ?_
                refine sxo_skip rfl rfl rfl ?_
                refine sxo_pick (b := false) rfl rfl rfl rfl ?_
                refine sxo_nil ?_
                exact sxq_meetP (false, ()) (lk_cons rfl (lk_cons rfl (lk_cons rfl (lk_cons rfl (lk_cons rfl lk_nil))))) (.cons 0 rfl .nil) (.cons 0 rfl .nil) fk_nil
            · rintro ⟨x4117, _⟩
              try dsimp only
              refine sxo_take (os := _) rfl ?_
              refine sxo_nil ?_
              refine sxq_next ?_
              refine sxc_if rfl (fun h4118 => ?_) (fun h4118 => ?_)
              · refine sxc_seq ?_
                refine sxc_region ?_
                refine sxo_assign rfl rfl rfl ?_
                refine sxo_nil ?_
                refine sxq_next ?_
                refine sxc_ret ?_
                refine sxq_blkR ?_
                refine sxq_thenR ?_
                refine sxq_thenR ?_
                refine sxq_blkR ?_
                refine sxq_thenR ?_
                exact sxq_doneP () (.inl rfl) (res1 rfl rfl) (fun h => by subst h; rfl) (fun h => by subst h; exact .nil)
              · refine sxc_skip ?_
                refine sxq_blkN ?_
                refine sxq_next ?_
                refine sxc_region ?_
                refine sxo_move rfl rfl rfl ?_
                refine sxo_add rfl rfl rfl rfl ?_
                refine sxo_assign rfl rfl rfl ?_
                refine sxo_nil ?_
                exact sxq_againP (iadd .i64 x4077 1, ()) (lk_cons rfl (lk_cons rfl (lk_cons rfl (lk_cons rfl lk_nil)))) (.cons 0 rfl .nil) (.cons 0 rfl .nil) fk_nil
          · refine sxc_exit ?_
            refine sxq_thenX ?_
            refine sxq_thenX ?_
            refine sxq_blkX ?_
            exact sxq_meetP ((), ()) lk_nil .nil .nil fk_nil
        · rintro ⟨_, _⟩
          try dsimp only
          refine sxc_seq ?_
          refine sxc_region ?_
          refine sxo_assign rfl rfl rfl ?_
          refine sxo_nil ?_
          refine sxq_next ?_
          refine sxc_ret ?_
          exact sxq_doneP () (.inl rfl) (res1 rfl rfl) (fun h => by subst h; rfl) (fun h => by subst h; exact .nil)

set_option maxHeartbeats 4000000 in
theorem C_L_CoreThrees (F : Nat) (x1 : List (List Int)) (a2 : Option Addr) (c3 : (Nat × List (Option Addr × Nat))) (r : Bool) (hm : M_L_CoreThrees F x1 = some r) :
    Pure Try.prog 5 [.agg #[.slice a2 x1.length c3.1]] [SlN eN25 iN25 1 (.slice a2 x1.length c3.1) x1 c3.2] Unit (fun _ => .bool r) (fun _ => []) (fun _ => []) := by
  refine pure_of Try.func5 rfl Try.ntmps5 rfl hm (fun w => ?_)
  refine sxc_env (l' := [(0, .agg #[.slice a2 x1.length c3.1])]) rfl ?_
  refine sxc_seq ?_
  refine sxc_region ?_
  refine sxo_box rfl rfl rfl (fun g4 => ?_)
  refine sxo_assign rfl rfl rfl ?_
  refine sxo_nil ?_
  refine sxq_next ?_
  refine sxc_seq ?_
  refine sxc_region ?_
  refine sxo_loadB (i := 0) rfl rfl tf24 rfl rfl (by simp) rfl rfl ?_
  refine sxo_callM ent11 rfl rfl rfl (fun x5 e5 => C_core_Threes F x1 a2 c3 x5 e5) .nil .nil (.consF 0 rfl .nil) (fun x5 e5 => ?_)
  rintro ⟨a6, c7⟩
  refine sxo_move rfl rfl rfl ?_
  refine sxo_extract rfl rfl rfl rfl ?_
  refine sxo_extract rfl rfl rfl rfl ?_
  refine sxo_extract rfl rfl rfl rfl ?_
  refine sxo_assign rfl rfl rfl ?_
  refine sxo_assign rfl rfl rfl ?_
  refine sxo_assign rfl rfl rfl ?_
  refine sxo_nil ?_
  refine sxq_next ?_
  refine sxc_seq ?_
  refine sxc_region ?_
  refine sxo_loadB (i := 0) rfl rfl tf24 rfl rfl (by simp) rfl rfl ?_
  refine sxo_call ent10 rfl rfl rfl (fun x8 e8 => C_core_Numbers F x1 a2 c3 x8 e8) (.consF 0 rfl .nil) (fun x8 e8 => ?_)
  rintro ⟨a9, c10⟩
  refine sxo_move rfl rfl rfl ?_
  refine sxo_extract rfl rfl rfl rfl ?_
  refine sxo_extract rfl rfl rfl rfl ?_
  refine sxo_assign rfl rfl rfl ?_
  refine sxo_assign rfl rfl rfl ?_
  refine sxo_nil ?_
  refine sxq_next ?_
  refine sxc_seq ?_
  refine sxc_seq ?_
  refine sxc_region ?_
  refine sxo_call ent17 rfl rfl rfl (fun x13 e13 => C_L_coreBegun F  x13 e13) .nil (fun x13 e13 => ?_)
  intro _
  refine sxo_not rfl rfl rfl ?_
  refine sxo_nil ?_
  refine sxq_next ?_
  refine sxc_if rfl (fun h363 => ?_) (fun h363 => ?_)
  · refine sxc_seq ?_
    refine sxc_region ?_
    refine sxo_assign rfl rfl rfl ?_
    refine sxo_nil ?_
    refine sxq_next ?_
    refine sxc_ret ?_
    refine sxq_thenR ?_
    exact sxq_doneP () (.inl rfl) (res1 rfl rfl) (fun h => by subst h; rfl) (fun h => by subst h; exact .nil)
  · refine sxc_skip ?_
    refine sxq_next ?_
    refine sxc_seq ?_
    refine sxc_seq ?_
    refine sxc_region ?_
    refine sxo_move rfl rfl rfl ?_
    refine sxo_neq rfl rfl rfl rfl ?_
    refine sxo_move rfl rfl rfl ?_
    refine sxo_case 3 ((x5.2.2 : Int) != 0) [(3, .slice a6 x5.1.length c7), (4, .int .i64 x5.2.1), (5, .int .i64 x5.2.2), (6, .slice a9 x8.1.length c10), (7, .int .i64 x8.2), (28, .bool (((x5.2.2 : Int) != 0) || ((x8.2 : Int) != 0)))] (fun h17 => ?_) (fun h17 => ?_) ?_
    · refine sxo_take (os := _) rfl ?_
      refine sxo_isT (k := 25) rfl h17 ?_
      refine sxo_skip rfl rfl rfl ?_
      refine sxo_skip rfl rfl rfl ?_
      refine sxo_pick (b := true) rfl rfl rfl rfl ?_
      refine sxo_again (d := 28) (v := .bool (((x5.2.2 : Int) != 0) || ((x8.2 : Int) != 0))) rfl (by rw [h17]; simp only [Bool.true_or]) ?_
      refine sxo_nil ?_
      exact sxq_case (lk_cons rfl (lk_cons rfl (lk_cons rfl (lk_cons rfl (lk_cons rfl (lk_cons rfl lk_nil))))))
    · refine sxo_take (os := _) rfl ?_
      refine sxo_isF (k := 25) rfl h17 ?_
      refine sxo_move rfl rfl rfl ?_
      refine sxo_neq rfl rfl rfl rfl ?_
      refine sxo_pick (b := false) rfl rfl rfl rfl ?_
      refine sxo_again (d := 28) (v := .bool (((x5.2.2 : Int) != 0) || ((x8.2 : Int) != 0))) rfl (by rw [h17]; simp only [Bool.false_or]) ?_
      refine sxo_nil ?_
      exact sxq_case (lk_cons rfl (lk_cons rfl (lk_cons rfl (lk_cons rfl (lk_cons rfl (lk_cons rfl lk_nil))))))
    refine sxo_take (os := _) rfl ?_
    refine sxo_nil ?_
    refine sxq_next ?_
    refine sxc_if rfl (fun h362 => ?_) (fun h362 => ?_)
    · refine sxc_seq ?_
      refine sxc_region ?_
      refine sxo_move rfl rfl rfl ?_
      refine sxo_move rfl rfl rfl ?_
      refine sxo_eql rfl rfl rfl rfl ?_
      refine sxo_move rfl rfl rfl ?_
      refine sxo_case 4 ((x5.2.2 : Int) == x8.2) [(36, .bool (((x5.2.2 : Int) == x8.2) && (((x5.1.length : Int) : Int) == 0)))] (fun h18 => ?_) (fun h18 => ?_) ?_
      · refine sxo_take (os := _) rfl ?_
        refine sxo_isT (k := 32) rfl h18 ?_
        refine sxo_move rfl rfl rfl ?_
        refine sxo_len rfl Try.underlying25 rfl rfl ?_
        refine sxo_eql rfl rfl rfl rfl ?_
        refine sxo_pick (b := true) rfl rfl rfl rfl ?_
        refine sxo_again (d := 36) (v := .bool (((x5.2.2 : Int) == x8.2) && (((x5.1.length : Int) : Int) == 0))) rfl (by rw [h18]; simp only [Bool.true_and]) ?_
        refine sxo_nil ?_
        exact sxq_case (lk_cons rfl lk_nil)
      · refine sxo_take (os := _) rfl ?_
        refine sxo_isF (k := 32) rfl h18 ?_
        refine sxo_skip rfl rfl rfl ?_
        refine sxo_skip rfl rfl rfl ?_
        refine sxo_skip rfl rfl rfl ?_
        refine sxo_pick (b := false) rfl rfl rfl rfl ?_
        refine sxo_again (d := 36) (v := .bool (((x5.2.2 : Int) == x8.2) && (((x5.1.length : Int) : Int) == 0))) rfl (by rw [h18]; simp only [Bool.false_and]) ?_
        refine sxo_nil ?_
        exact sxq_case (lk_cons rfl lk_nil)
      refine sxo_take (os := _) rfl ?_
      refine sxo_assign rfl rfl rfl ?_
      refine sxo_nil ?_
      refine sxq_next ?_
      refine sxc_ret ?_
      refine sxq_thenR ?_
      exact sxq_doneP () (.inl rfl) (res1 rfl rfl) (fun h => by subst h; rfl) (fun h => by subst h; exact .nil)
    · refine sxc_skip ?_
      refine sxq_next ?_
      refine sxc_seq ?_
      refine sxc_region ?_
      refine sxo_assign rfl rfl rfl ?_
      refine sxo_nil ?_
      refine sxq_next ?_
      refine sxc_join (fun ((x190, _) : (Int × Unit)) => [(4, .int .i64 x5.2.1), (8, .int .i64 x190)]) (fun ((x190, _) : (Int × Unit)) => []) (fun ((x190, _) : (Int × Unit)) => []) (fun ((x190, _) : (Int × Unit)) => []) (fun ((x190, _) : (Int × Unit)) => M_L_CoreThrees_j20 F x5 x190) ?_ ?_
      · refine sxc_seq ?_
        refine sxc_region ?_
        refine sxo_assign rfl rfl rfl ?_
        refine sxo_nil ?_
        refine sxq_next ?_
        refine sxc_block ?_
        refine sxc_loopP (fun (((x247, x248), _) : ((Int × Int) × Unit)) => [(3, .slice a6 x5.1.length c7), (4, .int .i64 x5.2.1), (6, .slice a9 x8.1.length c10), (8, .int .i64 x247), (9, .int .i64 x248)]) (fun (((x247, x248), _) : ((Int × Int) × Unit)) => []) (fun (((x247, x248), _) : ((Int × Int) × Unit)) => [Ro (eI .i64) 3 1 (.slice a6 x5.1.length c7) x5.1, Ro (eI .i64) 3 1 (.slice a9 x8.1.length c10) x8.1]) (fun (((x247, x248), _) : ((Int × Int) × Unit)) => []) (fun k (s : ((Int × Int) × Unit)) => M_L_CoreThrees_l33 F x5 x8 k s.1) ((0, 0), ()) F (lk_cons rfl (lk_cons rfl (lk_cons rfl (lk_cons rfl (lk_cons rfl lk_nil))))) .nil (.cons 1 rfl (.cons 0 rfl .nil)) fk_nil (fun _ => rfl) ?_
        intro k305
        rintro ⟨⟨x247, x248⟩, _⟩
        try dsimp only
        refine sxc_meq (m' := M_L_CoreThrees_b33 F x5 x8 (M_L_CoreThrees_l33 F x5 x8 k305) x247 x248) rfl ?_
        refine sxc_seq ?_
        refine sxc_seq ?_
        refine sxc_region ?_
        refine sxo_move rfl rfl rfl ?_
        refine sxo_move rfl rfl rfl ?_
        refine sxo_len rfl Try.underlying25 rfl rfl ?_
        refine sxo_lss rfl rfl rfl rfl ?_
        refine sxo_nil ?_
        refine sxq_next ?_
        refine sxc_if rfl (fun h361 => ?_) (fun h361 => ?_)
        · refine sxc_skip ?_
          refine sxq_next ?_
          refine sxc_seq ?_
          refine sxc_block ?_
          refine sxc_seq ?_
          refine sxc_region ?_
          refine sxo_move rfl rfl rfl ?_
          refine sxo_move rfl rfl rfl ?_
          refine sxo_move rfl rfl rfl ?_
          refine sxo_indexR (j := 0) rfl Try.underlying25 tf3 rfl rfl rfl rfl (fun x334 e334 g335 h336 => ?_)
          refine sxo_loadR (j := 0) (y := x334) (eI_ok .i64) rfl rfl tf3 rfl h336 (idx_get e334).2.2 (fun _ => rfl) rfl rfl ?_
          refine sxo_add rfl rfl rfl rfl ?_
          refine sxo_assign rfl rfl rfl ?_
          refine sxo_nil ?_
          refine sxq_next ?_
          refine sxc_seq ?_
          refine sxc_region ?_
          refine sxo_move rfl rfl rfl ?_
          refine sxo_move rfl rfl rfl ?_
          refine sxo_indexR (j := 0) rfl Try.underlying25 tf3 rfl rfl rfl rfl (fun x337 e337 g338 h339 => ?_)
          refine sxo_loadR (j := 0) (y := x337) (eI_ok .i64) rfl rfl tf3 rfl h339 (idx_get e337).2.2 (fun _ => rfl) rfl rfl ?_
          refine sxo_gtr rfl rfl rfl rfl ?_
          refine sxo_move rfl rfl rfl ?_
          refine sxo_join 12 (fun ((x350, _) : (Bool × Unit)) => [(3, .slice a6 x5.1.length c7), (4, .int .i64 x5.2.1), (6, .slice a9 x8.1.length c10), (8, .int .i64 (iadd .i64 x247 x334)), (9, .int .i64 x248), (66, .bool x350)]) (fun ((x350, _) : (Bool × Unit)) => []) (fun ((x350, _) : (Bool × Unit)) => [Ro (eI .i64) 3 1 (.slice a6 x5.1.length c7) x5.1, Ro (eI .i64) 3 1 (.slice a9 x8.1.length c10) x8.1]) (fun ((x350, _) : (Bool × Unit)) => []) (fun ((x350, _) : (Bool × Unit)) => M_L_CoreThrees_j38 F (M_L_CoreThrees_l33 F x5 x8 k305) x247 x248 x334 x350) ?_ ?_
          · refine sxo_take (os := _) rfl ?_
            refine sxo_if (fun h340 => ?_) (fun h340 => ?_)
            · refine sxo_isT (k := 54) rfl h340 ?_
              refine sxo_move rfl rfl rfl ?_
              refine sxo_move rfl rfl rfl ?_
              refine sxo_len rfl Try.underlying25 rfl rfl ?_
              refine sxo_geq rfl rfl rfl rfl ?_
              refine sxo_move rfl rfl rfl ?_
              refine sxo_join 6 (fun (((x356, x357), _) : ((Bool × Bool) × Unit)) => [(3, .slice a6 x5.1.length c7), (4, .int .i64 x5.2.1), (6, .slice a9 x8.1.length c10), (8, .int .i64 (iadd .i64 x247 x334)), (9, .int .i64 x248), (54, .bool true), (55, .int .i64 x248), (56, .slice a9 x8.1.length c10), (57, .int .i64 (x8.1.length : Int)), (58, .bool (decide ((x8.1.length : Int) ≤ x248))), (59, .bool x356), (65, .bool x357)]) (fun (((x356, x357), _) : ((Bool × Bool) × Unit)) => []) (fun (((x356, x357), _) : ((Bool × Bool) × Unit)) => [Ro (eI .i64) 3 1 (.slice a6 x5.1.length c7) x5.1, Ro (eI .i64) 3 1 (.slice a9 x8.1.length c10) x8.1]) (fun (((x356, x357), _) : ((Bool × Bool) × Unit)) => []) (fun (((x356, x357), _) : ((Bool × Bool) × Unit)) => M_L_CoreThrees_j39 F (M_L_CoreThrees_l33 F x5 x8 k305) x247 x248 x334 x356 x357) ?_ ?_
              · refine sxo_take (os := _) rfl ?_
                refine sxo_if (fun h352 => ?_) (fun h352 => ?_)
                · refine sxo_isT (k := 59) rfl h352 ?_
                  refine sxo_skip rfl rfl rfl ?_
                  refine sxo_skip rfl rfl rfl ?_
                  refine sxo_skip rfl rfl rfl ?_
                  refine sxo_skip rfl rfl rfl ?_
                  refine sxo_skip rfl rfl rfl ?_
                  refine sxo_pick (b := true) rfl rfl rfl rfl ?_
                  refine sxo_nil ?_
                  exact sxq_meetP ((true, true), ()) (lk_cons rfl (lk_cons rfl (lk_cons rfl (lk_cons rfl (lk_cons rfl (lk_cons rfl (lk_cons rfl (lk_cons rfl (lk_cons rfl (lk_cons rfl (lk_cons rfl (lk_cons rfl lk_nil)))))))))))) .nil (.cons 0 rfl (.cons 0 rfl .nil)) fk_nil
                · refine sxo_isF (k := 59) rfl h352 ?_
                  refine sxo_move rfl rfl rfl ?_
                  refine sxo_move rfl rfl rfl ?_
                  refine sxo_indexR (j := 1) rfl Try.underlying25 tf3 rfl rfl rfl rfl (fun x358 e358 g359 h360 => ?_)
                  refine sxo_loadR (j := 1) (y := x358) (eI_ok .i64) rfl rfl tf3 rfl h360 (idx_get e358).2.2 (fun _ => rfl) rfl rfl ?_
                  refine sxo_lss rfl rfl rfl rfl ?_
                  refine sxo_pick (b := false) rfl rfl rfl rfl ?_
                  refine sxo_nil ?_
                  exact sxq_meetP ((false, (decide (x358 < 2))), ()) (lk_cons rfl (lk_cons rfl (lk_cons rfl (lk_cons rfl (lk_cons rfl (lk_cons rfl (lk_cons rfl (lk_cons rfl (lk_cons rfl (lk_cons rfl (lk_cons rfl (lk_cons rfl lk_nil)))))))))))) .nil (.cons 0 rfl (.cons 0 rfl .nil)) fk_nil
              · rintro ⟨⟨x356, x357⟩, _⟩
                try dsimp only
                refine sxo_take (os := _) rfl ?_
                refine sxo_pick (b := true) rfl rfl rfl rfl ?_
                refine sxo_nil ?_
                exact sxq_meetP (x357, ()) (lk_cons rfl (lk_cons rfl (lk_cons rfl (lk_cons rfl (lk_cons rfl (lk_cons rfl lk_nil)))))) .nil (.cons 0 rfl (.cons 0 rfl .nil)) fk_nil
            · refine sxo_isF (k := 54) rfl h340 ?_
              refine sxo_skip rfl rfl rfl ?_
              refine sxo_skip rfl rfl rfl ?_
              refine sxo_skip rfl rfl rfl ?_
              refine sxo_skip rfl rfl rfl ?_
              refine sxo_skip rfl rfl rfl ?_
              refine sxo_skip rfl rfl rfl ?_
              refine sxo_skip rfl rfl rfl ?_
              refine sxo_skip rfl rfl rfl ?_
              refine sxo_skip rfl rfl rfl ?_
              refine sxo_skip rfl rfl rfl ?_
              refine sxo_skip rfl rfl rfl ?_
              refine sxo_pick (b := false) rfl rfl rfl rfl ?_
              refine sxo_nil ?_
              exact sxq_meetP (false, ()) (lk_cons rfl (lk_cons rfl (lk_cons rfl (lk_cons rfl (lk_cons rfl (lk_cons rfl lk_nil)))))) .nil (.cons 0 rfl (.cons 0 rfl .nil)) fk_nil
          · rintro ⟨x350, _⟩
            try dsimp only
            refine sxo_take (os := _) rfl ?_
            refine sxo_nil ?_
            refine sxq_next ?_
            refine sxc_if rfl (fun h351 => ?_) (fun h351 => ?_)
            · refine sxc_seq ?_
              refine sxc_region ?_
              refine sxo_assign rfl rfl rfl ?_
              refine sxo_nil ?_
              refine sxq_next ?_
              refine sxc_ret ?_
              refine sxq_blkR ?_
              refine sxq_thenR ?_
              refine sxq_thenR ?_
              refine sxq_blkR ?_
              refine sxq_thenR ?_
              exact sxq_doneP () (.inl rfl) (res1 rfl rfl) (fun h => by subst h; rfl) (fun h => by subst h; exact .nil)
            · refine sxc_skip ?_
              refine sxq_blkN ?_
              refine sxq_next ?_
              refine sxc_region ?_
              refine sxo_move rfl rfl rfl ?_
              refine sxo_add rfl rfl rfl rfl ?_
              refine sxo_assign rfl rfl rfl ?_
              refine sxo_nil ?_
              exact sxq_againP ((iadd .i64 x247 x334, iadd .i64 x248 1), ()) (lk_cons rfl (lk_cons rfl (lk_cons rfl (lk_cons rfl (lk_cons rfl lk_nil))))) .nil (.cons 0 rfl (.cons 0 rfl .nil)) fk_nil
        · refine sxc_exit ?_
          refine sxq_thenX ?_
          refine sxq_thenX ?_
          refine sxq_blkX ?_
          exact sxq_meetP (x247, ()) (lk_cons rfl (lk_cons rfl lk_nil)) .nil .nil fk_nil
      · rintro ⟨x190, _⟩
        try dsimp only
        refine sxc_seq ?_
        refine sxc_region ?_
        refine sxo_move rfl rfl rfl ?_
        refine sxo_move rfl rfl rfl ?_
        refine sxo_mul rfl rfl rfl rfl ?_
        refine sxo_eql rfl rfl rfl rfl ?_
        refine sxo_assign rfl rfl rfl ?_
        refine sxo_nil ?_
        refine sxq_next ?_
        refine sxc_ret ?_
        exact sxq_doneP () (.inl rfl) (res1 rfl rfl) (fun h => by subst h; rfl) (fun h => by subst h; exact .nil)

set_option maxHeartbeats 4000000 in
theorem C_L_CorePairs (F : Nat) (x1 : List (List Int)) (a2 : Option Addr) (c3 : (Nat × List (Option Addr × Nat))) (x4 : List Int) (a5 : Option Addr) (c6 : Nat) (r : Bool) (hm : M_L_CorePairs F x1 x4 = some r) :
    Pure Try.prog 6 [.agg #[.slice a2 x1.length c3.1], .slice a5 x4.length c6] [SlN eN25 iN25 1 (.slice a2 x1.length c3.1) x1 c3.2, Sl (eI .i64) 1 (.slice a5 x4.length c6) x4] Unit (fun _ => .bool r) (fun _ => []) (fun _ => []) := by
  refine pure_of Try.func6 rfl Try.ntmps6 rfl hm (fun w => ?_)
  refine sxc_env (l' := [(0, .agg #[.slice a2 x1.length c3.1]), (1, .slice a5 x4.length c6)]) rfl ?_
  refine sxc_seq ?_
  refine sxc_region ?_
  refine sxo_box rfl rfl rfl (fun g7 => ?_)
  refine sxo_assign rfl rfl rfl ?_
  refine sxo_nil ?_
  refine sxq_next ?_
  refine sxc_seq ?_
  refine sxc_region ?_
  refine sxo_loadB (i := 0) rfl rfl tf24 rfl rfl (by simp) rfl rfl ?_
  refine sxo_call ent12 rfl rfl rfl (fun x8 e8 => C_core_Pairs F x1 a2 c3 x8 e8) (.consF 0 rfl .nil) (fun x8 e8 => ?_)
  rintro ⟨a9, c10⟩
  refine sxo_move rfl rfl rfl ?_
  refine sxo_extract rfl rfl rfl rfl ?_
  refine sxo_extract rfl rfl rfl rfl ?_
  refine sxo_assign rfl rfl rfl ?_
  refine sxo_assign rfl rfl rfl ?_
  refine sxo_nil ?_
  refine sxq_next ?_
  refine sxc_seq ?_
  refine sxc_seq ?_
  refine sxc_region ?_
  refine sxo_call ent17 rfl rfl rfl (fun x13 e13 => C_L_coreBegun F  x13 e13) .nil (fun x13 e13 => ?_)
  intro _
  refine sxo_not rfl rfl rfl ?_
  refine sxo_nil ?_
  refine sxq_next ?_
  refine sxc_if rfl (fun h2612 => ?_) (fun h2612 => ?_)
  · refine sxc_seq ?_
    refine sxc_region ?_
    refine sxo_assign rfl rfl rfl ?_
    refine sxo_nil ?_
    refine sxq_next ?_
    refine sxc_ret ?_
    refine sxq_thenR ?_
    exact sxq_doneP () (.inl rfl) (res1 rfl rfl) (fun h => by subst h; rfl) (fun h => by subst h; exact .nil)
  · refine sxc_skip ?_
    refine sxq_next ?_
    refine sxc_seq ?_
    refine sxc_seq ?_
    refine sxc_region ?_
    refine sxo_move rfl rfl rfl ?_
    refine sxo_neq rfl rfl rfl rfl ?_
    refine sxo_nil ?_
    refine sxq_next ?_
    refine sxc_if rfl (fun h2611 => ?_) (fun h2611 => ?_)
    · refine sxc_seq ?_
      refine sxc_region ?_
      refine sxo_move rfl rfl rfl ?_
      refine sxo_len rfl Try.underlying25 rfl rfl ?_
      refine sxo_eql rfl rfl rfl rfl ?_
      refine sxo_assign rfl rfl rfl ?_
      refine sxo_nil ?_
      refine sxq_next ?_
      refine sxc_ret ?_
      refine sxq_thenR ?_
      exact sxq_doneP () (.inl rfl) (res1 rfl rfl) (fun h => by subst h; rfl) (fun h => by subst h; exact .nil)
    · refine sxc_skip ?_
      refine sxq_next ?_
      refine sxc_seq ?_
      refine sxc_seq ?_
      refine sxc_region ?_
      refine sxo_move rfl rfl rfl ?_
      refine sxo_len rfl Try.underlying25 rfl rfl ?_
      refine sxo_fieldAddr rfl rfl ff24_0 rfl ?_
      refine sxo_loadB (i := 0) rfl rfl tf22 rfl rfl (fun _ => rfl) rfl rfl ?_
      refine sxo_len rfl Try.underlying22 rfl rfl ?_
      refine sxo_neq rfl rfl rfl rfl ?_
      refine sxo_nil ?_
      refine sxq_next ?_
      refine sxc_if rfl (fun h2610 => ?_) (fun h2610 => ?_)
      · refine sxc_seq ?_
        refine sxc_region ?_
        refine sxo_assign rfl rfl rfl ?_
        refine sxo_nil ?_
        refine sxq_next ?_
        refine sxc_ret ?_
        refine sxq_thenR ?_
        exact sxq_doneP () (.inl rfl) (res1 rfl rfl) (fun h => by subst h; rfl) (fun h => by subst h; exact .nil)
      · refine sxc_skip ?_
        refine sxq_next ?_
        refine sxc_seq ?_
        refine sxc_region ?_
        refine sxo_assign rfl rfl rfl ?_
        refine sxo_nil ?_
        refine sxq_next ?_
        refine sxc_join (fun ((x1186, _) : (Int × Unit)) => [(1, .slice a5 x4.length c6), (2, .pointer (some ⟨g7, 0, none⟩)), (5, .slice a9 x8.1.length c10), (7, .int .i64 x1186)]) (fun ((x1186, _) : (Int × Unit)) => [⟨g7, 24, [.slice a2 x1.length c3.1]⟩]) (fun ((x1186, _) : (Int × Unit)) => [Ro (eI .i64) 3 1 (.slice a9 x8.1.length c10) x8.1]) (fun ((x1186, _) : (Int × Unit)) => [Sl (eI .i64) 1 (.slice a5 x4.length c6) x4, SlN eN25 iN25 1 (.slice a2 x1.length c3.1) x1 c3.2]) (fun ((x1186, _) : (Int × Unit)) => M_L_CorePairs_j101 F x1 x4 x8 x1186) ?_ ?_
        · refine sxc_seq ?_
          refine sxc_region ?_
          refine sxo_assign rfl rfl rfl ?_
          refine sxo_nil ?_
          refine sxq_next ?_
          refine sxc_block ?_
          refine sxc_loopP (fun (((x1829, x1830), _) : ((Int × Int) × Unit)) => [(1, .slice a5 x4.length c6), (2, .pointer (some ⟨g7, 0, none⟩)), (5, .slice a9 x8.1.length c10), (7, .int .i64 x1829), (8, .int .i64 x1830)]) (fun (((x1829, x1830), _) : ((Int × Int) × Unit)) => [⟨g7, 24, [.slice a2 x1.length c3.1]⟩]) (fun (((x1829, x1830), _) : ((Int × Int) × Unit)) => [Ro (eI .i64) 3 1 (.slice a9 x8.1.length c10) x8.1]) (fun (((x1829, x1830), _) : ((Int × Int) × Unit)) => [Sl (eI .i64) 1 (.slice a5 x4.length c6) x4, SlN eN25 iN25 1 (.slice a2 x1.length c3.1) x1 c3.2]) (fun k (s : ((Int × Int) × Unit)) => M_L_CorePairs_l201 F x1 x4 x8 k s.1) ((0, 0), ()) F (lk_cons rfl (lk_cons rfl (lk_cons rfl (lk_cons rfl (lk_cons rfl lk_nil))))) (.cons 0 rfl .nil) (.cons 0 rfl .nil) (fk_cons 1 rfl (fk_cons 0 rfl fk_nil)) (fun _ => rfl) ?_
          intro k2220
          rintro ⟨⟨x1829, x1830⟩, _⟩
          try dsimp only
          refine sxc_meq (m' := M_L_CorePairs_b201 F x1 x4 x8 (M_L_CorePairs_l201 F x1 x4 x8 k2220) x1829 x1830) rfl ?_
          refine sxc_seq ?_
          refine sxc_seq ?_
          refine sxc_region ?_
          refine sxo_move rfl rfl rfl ?_
          refine sxo_move rfl rfl rfl ?_
          refine sxo_len rfl Try.underlying25 rfl rfl ?_
          refine sxo_lss rfl rfl rfl rfl ?_
          refine sxo_nil ?_
          refine sxq_next ?_
          refine sxc_if rfl (fun h2609 => ?_) (fun h2609 => ?_)
          · refine sxc_skip ?_
            refine sxq_next ?_
            refine sxc_join (fun ((x2415, _) : (Int × Unit)) => [(1, .slice a5 x4.length c6), (2, .pointer (some ⟨g7, 0, none⟩)), (5, .slice a9 x8.1.length c10), (7, .int .i64 x2415), (8, .int .i64 x1830)]) (fun ((x2415, _) : (Int × Unit)) => [⟨g7, 24, [.slice a2 x1.length c3.1]⟩]) (fun ((x2415, _) : (Int × Unit)) => [Ro (eI .i64) 3 1 (.slice a9 x8.1.length c10) x8.1]) (fun ((x2415, _) : (Int × Unit)) => [Sl (eI .i64) 1 (.slice a5 x4.length c6) x4, SlN eN25 iN25 1 (.slice a2 x1.length c3.1) x1 c3.2]) (fun ((x2415, _) : (Int × Unit)) => M_L_CorePairs_j218 F (M_L_CorePairs_l201 F x1 x4 x8 k2220) x1830 x2415) ?_ ?_
            · refine sxc_block ?_
              refine sxc_join (fun ((x2460, _) : (Int × Unit)) => [(1, .slice a5 x4.length c6), (2, .pointer (some ⟨g7, 0, none⟩)), (5, .slice a9 x8.1.length c10), (7, .int .i64 x2460), (8, .int .i64 x1830)]) (fun ((x2460, _) : (Int × Unit)) => [⟨g7, 24, [.slice a2 x1.length c3.1]⟩]) (fun ((x2460, _) : (Int × Unit)) => [Ro (eI .i64) 3 1 (.slice a9 x8.1.length c10) x8.1]) (fun ((x2460, _) : (Int × Unit)) => [Sl (eI .i64) 1 (.slice a5 x4.length c6) x4, SlN eN25 iN25 1 (.slice a2 x1.length c3.1) x1 c3.2]) (fun ((x2460, _) : (Int × Unit)) => M_L_CorePairs_j220 F (M_L_CorePairs_l201 F x1 x4 x8 k2220) x1 x8 x1830 x2460) ?_ ?_
              · refine sxc_seq ?_
                refine sxc_region ?_
                refine sxo_move rfl rfl rfl ?_
                refine sxo_move rfl rfl rfl ?_
                refine sxo_indexR (j := 0) rfl Try.underlying25 tf3 rfl rfl rfl rfl (fun x2565 e2565 g2566 h2567 => ?_)
                refine sxo_loadR (j := 0) (y := x2565) (eI_ok .i64) rfl rfl tf3 rfl h2567 (idx_get e2565).2.2 (fun _ => rfl) rfl rfl ?_
                refine sxo_geq rfl rfl rfl rfl ?_
                refine sxo_nil ?_
                refine sxq_next ?_
                refine sxc_if rfl (fun h2608 => ?_) (fun h2608 => ?_)
                · refine sxc_seq ?_
                  refine sxc_region ?_
                  refine sxo_move rfl rfl rfl ?_
                  refine sxo_add rfl rfl rfl rfl ?_
                  refine sxo_assign rfl rfl rfl ?_
                  refine sxo_nil ?_
                  refine sxq_next ?_
                  refine sxc_join (fun ((x2587, _) : (Bool × Unit)) => [(1, .slice a5 x4.length c6), (2, .pointer (some ⟨g7, 0, none⟩)), (5, .slice a9 x8.1.length c10), (7, .int .i64 (iadd .i64 x1829 1)), (8, .int .i64 x1830), (71, .bool x2587)]) (fun ((x2587, _) : (Bool × Unit)) => [⟨g7, 24, [.slice a2 x1.length c3.1]⟩]) (fun ((x2587, _) : (Bool × Unit)) => [Ro (eI .i64) 3 1 (.slice a9 x8.1.length c10) x8.1]) (fun ((x2587, _) : (Bool × Unit)) => [Sl (eI .i64) 1 (.slice a5 x4.length c6) x4, SlN eN25 iN25 1 (.slice a2 x1.length c3.1) x1 c3.2]) (fun ((x2587, _) : (Bool × Unit)) => M_L_CorePairs_j234 F (M_L_CorePairs_l201 F x1 x4 x8 k2220) x1 x8 x1829 x1830 x2587) ?_ ?_
                  · refine sxc_idxO (j := 0) rfl (fun x2589 e2589 g2590 h2591 => ?_)
                    replace h2591 : a9 = some ⟨g2590, 0, none⟩ := h2591
                    have h2592 := own_of (k := x8.1.length) (c := c10) h2591
                    refine sxc_split (fun h2593 => ?_) (fun h2593 => ?_)
                    · refine sxb_draw mixed [] [⟨g7, 24, [.slice a2 x1.length c3.1]⟩] [Sl (eI .i64) 1 (.slice a5 x4.length c6) x4, SlN eN25 iN25 1 (.slice a2 x1.length c3.1) x1 c3.2, CellsAt g2590 (x1830.toNat * 1) ((eI .i64) x2589)] (.cons 0 rfl .nil) (gk_F 0 rfl (gk_F 1 rfl (gk_R 0 rfl (at_row (eI_ok .i64) e2589 h2591) gk_nil))) 28 rfl ?_
                      refine sxb_takeP 0 (.slice a9 x8.1.length c10) rfl rfl rfl rfl (by kernel_rfl) (by kernel_rfl) (by kernel_rfl) (by kernel_rfl) (by kernel_rfl) rfl (show _ = #[true, false, false, false, false, false, false, false, false, false, false, false, false, false, false, false, false, false, false, false, false, false, false, false, false, false, false, false] from rfl) (yv_pv rfl) ?_
                      refine sxb_takeP 1 (.int .i64 x1830) rfl rfl rfl rfl (by kernel_rfl) (by kernel_rfl) (by kernel_rfl) (by kernel_rfl) (by kernel_rfl) rfl (show _ = #[true, true, false, false, false, false, false, false, false, false, false, false, false, false, false, false, false, false, false, false, false, false, false, false, false, false, false, false] from rfl) (yv_pv rfl) ?_
                      refine sxb_again (d := 44) (v := .slice (some ⟨g2590, 0, none⟩) x8.1.length c10) rfl (by rw [h2591] <;> rfl) ?_
                      refine sxb_takeP 2 (.pointer (some ⟨g2590, x1830.toNat * 1, none⟩)) rfl rfl rfl rfl (by kernel_rfl) (by kernel_rfl) (by kernel_rfl) (by kernel_rfl) (by kernel_rfl) rfl (show _ = #[true, true, true, false, false, false, false, false, false, false, false, false, false, false, false, false, false, false, false, false, false, false, false, false, false, false, false, false] from rfl) (yv_idxO Try.underlying25 tf3 rfl rfl (idx_get e2589).1 (idx_lt e2589)) ?_
                      refine sxb_again (d := 44) (v := .slice a9 x8.1.length c10) rfl (by rw [h2591] <;> rfl) ?_
                      refine sxb_take 3 (.int .i64 x2589) [] rfl rfl rfl rfl (by kernel_rfl) (by kernel_rfl) (by kernel_rfl) (by kernel_rfl) (by kernel_rfl) (by kernel_rfl) rfl (show _ = #[true, true, true, true, false, false, false, false, false, false, false, false, false, false, false, false, false, false, false, false, false, false, false, false, false, false, false, false] from rfl) (yv_loadF (j := 2) rfl tf3 rfl rfl (fun _ => rfl) rfl) ?_
                      refine sxb_takeP 4 (.slice a9 x8.1.length c10) rfl rfl rfl rfl (by kernel_rfl) (by kernel_rfl) (by kernel_rfl) (by kernel_rfl) (by kernel_rfl) rfl (show _ = #[true, true, true, true, true, false, false, false, false, false, false, false, false, false, false, false, false, false, false, false, false, false, false, false, false, false, false, false] from rfl) (yv_pv rfl) ?_
                      refine sxb_takeP 5 (.int .i64 (x8.1.length : Int)) rfl rfl rfl rfl (by kernel_rfl) (by kernel_rfl) (by kernel_rfl) (by kernel_rfl) (by kernel_rfl) rfl (show _ = #[true, true, true, true, true, true, false, false, false, false, false, false, false, false, false, false, false, false, false, false, false, false, false, false, false, false, false, false] from rfl) (yv_len Try.underlying25 rfl) ?_
                      refine sxb_takeP 6 (.bool (decide ((x8.1.length : Int) ≤ x2589))) rfl rfl rfl rfl (by kernel_rfl) (by kernel_rfl) (by kernel_rfl) (by kernel_rfl) (by kernel_rfl) rfl (show _ = #[true, true, true, true, true, true, true, false, false, false, false, false, false, false, false, false, false, false, false, false, false, false, false, false, false, false, false, false] from rfl) (yv_pv rfl) ?_
                      refine sxb_takeP 7 (.bool (decide ((x8.1.length : Int) ≤ x2589))) rfl rfl rfl rfl (by kernel_rfl) (by kernel_rfl) (by kernel_rfl) (by kernel_rfl) (by kernel_rfl) rfl (show _ = #[true, true, true, true, true, true, true, true, false, false, false, false, false, false, false, false, false, false, false, false, false, false, false, false, false, false, false, false] from rfl) (yv_pv rfl) ?_
                      refine sxb_again (d := 51) (v := .bool true) rfl (by rw [h2593] <;> rfl) ?_
                      refine sxb_skip 8 rfl rfl rfl rfl (by kernel_rfl) (by kernel_rfl) (by kernel_rfl) (by kernel_rfl) (by kernel_rfl) rfl (show _ = #[true, true, true, true, true, true, true, true, true, false, false, false, false, false, false, false, false, false, false, false, false, false, false, false, false, false, false, false] from rfl) ?_
                      refine sxb_skip 9 rfl rfl rfl rfl (by kernel_rfl) (by kernel_rfl) (by kernel_rfl) (by kernel_rfl) (by kernel_rfl) rfl (show _ = #[true, true, true, true, true, true, true, true, true, true, false, false, false, false, false, false, false, false, false, false, false, false, false, false, false, false, false, false] from rfl) ?_
                      refine sxb_skip 10 rfl rfl rfl rfl (by kernel_rfl) (by kernel_rfl) (by kernel_rfl) (by kernel_rfl) (by kernel_rfl) rfl (show _ = #[true, true, true, true, true, true, true, true, true, true, true, false, false, false, false, false, false, false, false, false, false, false, false, false, false, false, false, false] from rfl) ?_
                      refine sxb_skip 11 rfl rfl rfl rfl (by kernel_rfl) (by kernel_rfl) (by kernel_rfl) (by kernel_rfl) (by kernel_rfl) rfl (show _ = #[true, true, true, true, true, true, true, true, true, true, true, true, false, false, false, false, false, false, false, false, false, false, false, false, false, false, false, false] from rfl) ?_
                      refine sxb_skip 12 rfl rfl rfl rfl (by kernel_rfl) (by kernel_rfl) (by kernel_rfl) (by kernel_rfl) (by kernel_rfl) rfl (show _ = #[true, true, true, true, true, true, true, true, true, true, true, true, true, false, false, false, false, false, false, false, false, false, false, false, false, false, false, false] from rfl) ?_
                      refine sxb_skip 13 rfl rfl rfl rfl (by kernel_rfl) (by kernel_rfl) (by kernel_rfl) (by kernel_rfl) (by kernel_rfl) rfl (show _ = #[true, true, true, true, true, true, true, true, true, true, true, true, true, true, false, false, false, false, false, false, false, false, false, false, false, false, false, false] from rfl) ?_
                      refine sxb_skip 14 rfl rfl rfl rfl (by kernel_rfl) (by kernel_rfl) (by kernel_rfl) (by kernel_rfl) (by kernel_rfl) rfl (show _ = #[true, true, true, true, true, true, true, true, true, true, true, true, true, true, true, false, false, false, false, false, false, false, false, false, false, false, false, false] from rfl) ?_
                      refine sxb_skip 15 rfl rfl rfl rfl (by kernel_rfl) (by kernel_rfl) (by kernel_rfl) (by kernel_rfl) (by kernel_rfl) rfl (show _ = #[true, true, true, true, true, true, true, true, true, true, true, true, true, true, true, true, false, false, false, false, false, false, false, false, false, false, false, false] from rfl) ?_
                      refine sxb_skip 16 rfl rfl rfl rfl (by kernel_rfl) (by kernel_rfl) (by kernel_rfl) (by kernel_rfl) (by kernel_rfl) rfl (show _ = #[true, true, true, true, true, true, true, true, true, true, true, true, true, true, true, true, true, false, false, false, false, false, false, false, false, false, false, false] from rfl) ?_
                      refine sxb_takeP 17 (.bool true) rfl rfl rfl rfl (by kernel_rfl) (by kernel_rfl) (by kernel_rfl) (by kernel_rfl) (by kernel_rfl) rfl (show _ = #[true, true, true, true, true, true, true, true, true, true, true, true, true, true, true, true, true, true, false, false, false, false, false, false, false, false, false, false] from rfl) (yv_pv rfl) ?_
                      refine sxb_takeP 18 (.bool true) rfl rfl rfl rfl (by kernel_rfl) (by kernel_rfl) (by kernel_rfl) (by kernel_rfl) (by kernel_rfl) rfl (show _ = #[true, true, true, true, true, true, true, true, true, true, true, true, true, true, true, true, true, true, true, false, false, false, false, false, false, false, false, false] from rfl) (yv_pv rfl) ?_
                      refine sxb_skip 19 rfl rfl rfl rfl (by kernel_rfl) (by kernel_rfl) (by kernel_rfl) (by kernel_rfl) (by kernel_rfl) rfl (show _ = #[true, true, true, true, true, true, true, true, true, true, true, true, true, true, true, true, true, true, true, true, false, false, false, false, false, false, false, false] from rfl) ?_
                      refine sxb_skip 20 rfl rfl rfl rfl (by kernel_rfl) (by kernel_rfl) (by kernel_rfl) (by kernel_rfl) (by kernel_rfl) rfl (show _ = #[true, true, true, true, true, true, true, true, true, true, true, true, true, true, true, true, true, true, true, true, true, false, false, false, false, false, false, false] from rfl) ?_
                      refine sxb_skip 21 rfl rfl rfl rfl (by kernel_rfl) (by kernel_rfl) (by kernel_rfl) (by kernel_rfl) (by kernel_rfl) rfl (show _ = #[true, true, true, true, true, true, true, true, true, true, true, true, true, true, true, true, true, true, true, true, true, true, false, false, false, false, false, false] from rfl) ?_
                      refine sxb_skip 22 rfl rfl rfl rfl (by kernel_rfl) (by kernel_rfl) (by kernel_rfl) (by kernel_rfl) (by kernel_rfl) rfl (show _ = #[true, true, true, true, true, true, true, true, true, true, true, true, true, true, true, true, true, true, true, true, true, true, true, false, false, false, false, false] from rfl) ?_
                      refine sxb_skip 23 rfl rfl rfl rfl (by kernel_rfl) (by kernel_rfl) (by kernel_rfl) (by kernel_rfl) (by kernel_rfl) rfl (show _ = #[true, true, true, true, true, true, true, true, true, true, true, true, true, true, true, true, true, true, true, true, true, true, true, true, false, false, false, false] from rfl) ?_
                      refine sxb_skip 24 rfl rfl rfl rfl (by kernel_rfl) (by kernel_rfl) (by kernel_rfl) (by kernel_rfl) (by kernel_rfl) rfl (show _ = #[true, true, true, true, true, true, true, true, true, true, true, true, true, true, true, true, true, true, true, true, true, true, true, true, true, false, false, false] from rfl) ?_
                      refine sxb_skip 25 rfl rfl rfl rfl (by kernel_rfl) (by kernel_rfl) (by kernel_rfl) (by kernel_rfl) (by kernel_rfl) rfl (show _ = #[true, true, true, true, true, true, true, true, true, true, true, true, true, true, true, true, true, true, true, true, true, true, true, true, true, true, false, false] from rfl) ?_
                      refine sxb_skip 26 rfl rfl rfl rfl (by kernel_rfl) (by kernel_rfl) (by kernel_rfl) (by kernel_rfl) (by kernel_rfl) rfl (show _ = #[true, true, true, true, true, true, true, true, true, true, true, true, true, true, true, true, true, true, true, true, true, true, true, true, true, true, true, false] from rfl) ?_
                      refine sxb_takeP 27 (.bool true) rfl rfl rfl rfl (by kernel_rfl) (by kernel_rfl) (by kernel_rfl) (by kernel_rfl) (by kernel_rfl) rfl (show _ = #[true, true, true, true, true, true, true, true, true, true, true, true, true, true, true, true, true, true, true, true, true, true, true, true, true, true, true, true] from rfl) (yv_pv rfl) ?_
                      refine sxb_done (by kernel_rfl) ?_
                      refine sxq_np ?_ (by intro c h; cases h)
                      exact sxq_meetP (true, ()) (lk_cons rfl (lk_cons rfl (lk_cons rfl (lk_cons rfl (lk_cons rfl (lk_cons rfl lk_nil)))))) (.cons 0 rfl .nil) (.cons 0 rfl .nil) (fk_cons 0 rfl (fk_cons 1 rfl fk_nil))
                    · refine sxc_idxO (j := 0) rfl (fun x2594 e2594 g2595 h2596 => ?_)
                      replace h2596 : a9 = some ⟨g2595, 0, none⟩ := h2596
                      have h2597 := own_of (k := x8.1.length) (c := c10) h2596
                      refine sxc_idxO (j := 0) rfl (fun x2598 e2598 g2599 h2600 => ?_)
                      replace h2600 : a9 = some ⟨g2599, 0, none⟩ := h2600
                      have h2601 := own_of (k := x8.1.length) (c := c10) h2600
                      refine sxc_split (fun h2602 => ?_) (fun h2602 => ?_)
                      · refine sxb_draw mixed [] [⟨g7, 24, [.slice a2 x1.length c3.1]⟩] [Sl (eI .i64) 1 (.slice a5 x4.length c6) x4, SlN eN25 iN25 1 (.slice a2 x1.length c3.1) x1 c3.2, CellsAt g2590 (x1830.toNat * 1) ((eI .i64) x2589), CellsAt g2595 (x1830.toNat * 1) ((eI .i64) x2594), CellsAt g2599 (x2594.toNat * 1) ((eI .i64) x2598)] (.cons 0 rfl .nil) (gk_F 0 rfl (gk_F 1 rfl (gk_R 0 rfl (at_row (eI_ok .i64) e2589 h2591) (gk_R 0 rfl (at_row (eI_ok .i64) e2594 h2596) (gk_R 0 rfl (at_row (eI_ok .i64) e2598 h2600) gk_nil))))) 28 rfl ?_
                        refine sxb_takeP 0 (.slice a9 x8.1.length c10) rfl rfl rfl rfl (by kernel_rfl) (by kernel_rfl) (by kernel_rfl) (by kernel_rfl) (by kernel_rfl) rfl (show _ = #[true, false, false, false, false, false, false, false, false, false, false, false, false, false, false, false, false, false, false, false, false, false, false, false, false, false, false, false] from rfl) (yv_pv rfl) ?_
                        refine sxb_takeP 1 (.int .i64 x1830) rfl rfl rfl rfl (by kernel_rfl) (by kernel_rfl) (by kernel_rfl) (by kernel_rfl) (by kernel_rfl) rfl (show _ = #[true, true, false, false, false, false, false, false, false, false, false, false, false, false, false, false, false, false, false, false, false, false, false, false, false, false, false, false] from rfl) (yv_pv rfl) ?_
                        refine sxb_again (d := 44) (v := .slice (some ⟨g2590, 0, none⟩) x8.1.length c10) rfl (by rw [h2591] <;> rfl) ?_
                        refine sxb_takeP 2 (.pointer (some ⟨g2590, x1830.toNat * 1, none⟩)) rfl rfl rfl rfl (by kernel_rfl) (by kernel_rfl) (by kernel_rfl) (by kernel_rfl) (by kernel_rfl) rfl (show _ = #[true, true, true, false, false, false, false, false, false, false, false, false, false, false, false, false, false, false, false, false, false, false, false, false, false, false, false, false] from rfl) (yv_idxO Try.underlying25 tf3 rfl rfl (idx_get e2589).1 (idx_lt e2589)) ?_
                        refine sxb_again (d := 44) (v := .slice a9 x8.1.length c10) rfl (by rw [h2591] <;> rfl) ?_
                        refine sxb_take 3 (.int .i64 x2589) [] rfl rfl rfl rfl (by kernel_rfl) (by kernel_rfl) (by kernel_rfl) (by kernel_rfl) (by kernel_rfl) (by kernel_rfl) rfl (show _ = #[true, true, true, true, false, false, false, false, false, false, false, false, false, false, false, false, false, false, false, false, false, false, false, false, false, false, false, false] from rfl) (yv_loadF (j := 2) rfl tf3 rfl rfl (fun _ => rfl) rfl) ?_
                        refine sxb_takeP 4 (.slice a9 x8.1.length c10) rfl rfl rfl rfl (by kernel_rfl) (by kernel_rfl) (by kernel_rfl) (by kernel_rfl) (by kernel_rfl) rfl (show _ = #[true, true, true, true, true, false, false, false, false, false, false, false, false, false, false, false, false, false, false, false, false, false, false, false, false, false, false, false] from rfl) (yv_pv rfl) ?_
                        refine sxb_takeP 5 (.int .i64 (x8.1.length : Int)) rfl rfl rfl rfl (by kernel_rfl) (by kernel_rfl) (by kernel_rfl) (by kernel_rfl) (by kernel_rfl) rfl (show _ = #[true, true, true, true, true, true, false, false, false, false, false, false, false, false, false, false, false, false, false, false, false, false, false, false, false, false, false, false] from rfl) (yv_len Try.underlying25 rfl) ?_
                        refine sxb_takeP 6 (.bool (decide ((x8.1.length : Int) ≤ x2589))) rfl rfl rfl rfl (by kernel_rfl) (by kernel_rfl) (by kernel_rfl) (by kernel_rfl) (by kernel_rfl) rfl (show _ = #[true, true, true, true, true, true, true, false, false, false, false, false, false, false, false, false, false, false, false, false, false, false, false, false, false, false, false, false] from rfl) (yv_pv rfl) ?_
                        refine sxb_takeP 7 (.bool (decide ((x8.1.length : Int) ≤ x2589))) rfl rfl rfl rfl (by kernel_rfl) (by kernel_rfl) (by kernel_rfl) (by kernel_rfl) (by kernel_rfl) rfl (show _ = #[true, true, true, true, true, true, true, true, false, false, false, false, false, false, false, false, false, false, false, false, false, false, false, false, false, false, false, false] from rfl) (yv_pv rfl) ?_
                        refine sxb_again (d := 51) (v := .bool false) rfl (by rw [h2593] <;> rfl) ?_
                        refine sxb_takeP 8 (.slice a9 x8.1.length c10) rfl rfl rfl rfl (by kernel_rfl) (by kernel_rfl) (by kernel_rfl) (by kernel_rfl) (by kernel_rfl) rfl (show _ = #[true, true, true, true, true, true, true, true, true, false, false, false, false, false, false, false, false, false, false, false, false, false, false, false, false, false, false, false] from rfl) (yv_pv rfl) ?_
                        refine sxb_takeP 9 (.slice a9 x8.1.length c10) rfl rfl rfl rfl (by kernel_rfl) (by kernel_rfl) (by kernel_rfl) (by kernel_rfl) (by kernel_rfl) rfl (show _ = #[true, true, true, true, true, true, true, true, true, true, false, false, false, false, false, false, false, false, false, false, false, false, false, false, false, false, false, false] from rfl) (yv_pv rfl) ?_
                        refine sxb_takeP 10 (.int .i64 x1830) rfl rfl rfl rfl (by kernel_rfl) (by kernel_rfl) (by kernel_rfl) (by kernel_rfl) (by kernel_rfl) rfl (show _ = #[true, true, true, true, true, true, true, true, true, true, true, false, false, false, false, false, false, false, false, false, false, false, false, false, false, false, false, false] from rfl) (yv_pv rfl) ?_
                        refine sxb_again (d := 53) (v := .slice (some ⟨g2595, 0, none⟩) x8.1.length c10) rfl (by rw [h2596] <;> rfl) ?_
                        refine sxb_takeP 11 (.pointer (some ⟨g2595, x1830.toNat * 1, none⟩)) rfl rfl rfl rfl (by kernel_rfl) (by kernel_rfl) (by kernel_rfl) (by kernel_rfl) (by kernel_rfl) rfl (show _ = #[true, true, true, true, true, true, true, true, true, true, true, true, false, false, false, false, false, false, false, false, false, false, false, false, false, false, false, false] from rfl) (yv_idxO Try.underlying25 tf3 rfl rfl (idx_get e2594).1 (idx_lt e2594)) ?_
                        refine sxb_again (d := 53) (v := .slice a9 x8.1.length c10) rfl (by rw [h2596] <;> rfl) ?_
                        refine sxb_take 12 (.int .i64 x2594) [] rfl rfl rfl rfl (by kernel_rfl) (by kernel_rfl) (by kernel_rfl) (by kernel_rfl) (by kernel_rfl) (by kernel_rfl) rfl (show _ = #[true, true, true, true, true, true, true, true, true, true, true, true, true, false, false, false, false, false, false, false, false, false, false, false, false, false, false, false] from rfl) (yv_loadF (j := 3) rfl tf3 rfl rfl (fun _ => rfl) rfl) ?_
                        refine sxb_again (d := 52) (v := .slice (some ⟨g2599, 0, none⟩) x8.1.length c10) rfl (by rw [h2600] <;> rfl) ?_
                        refine sxb_takeP 13 (.pointer (some ⟨g2599, x2594.toNat * 1, none⟩)) rfl rfl rfl rfl (by kernel_rfl) (by kernel_rfl) (by kernel_rfl) (by kernel_rfl) (by kernel_rfl) rfl (show _ = #[true, true, true, true, true, true, true, true, true, true, true, true, true, true, false, false, false, false, false, false, false, false, false, false, false, false, false, false] from rfl) (yv_idxO Try.underlying25 tf3 rfl rfl (idx_get e2598).1 (idx_lt e2598)) ?_
                        refine sxb_again (d := 52) (v := .slice a9 x8.1.length c10) rfl (by rw [h2600] <;> rfl) ?_
                        refine sxb_take 14 (.int .i64 x2598) [] rfl rfl rfl rfl (by kernel_rfl) (by kernel_rfl) (by kernel_rfl) (by kernel_rfl) (by kernel_rfl) (by kernel_rfl) rfl (show _ = #[true, true, true, true, true, true, true, true, true, true, true, true, true, true, true, false, false, false, false, false, false, false, false, false, false, false, false, false] from rfl) (yv_loadF (j := 4) rfl tf3 rfl rfl (fun _ => rfl) rfl) ?_
                        refine sxb_takeP 15 (.int .i64 x1830) rfl rfl rfl rfl (by kernel_rfl) (by kernel_rfl) (by kernel_rfl) (by kernel_rfl) (by kernel_rfl) rfl (show _ = #[true, true, true, true, true, true, true, true, true, true, true, true, true, true, true, true, false, false, false, false, false, false, false, false, false, false, false, false] from rfl) (yv_pv rfl) ?_
                        refine sxb_takeP 16 (.bool ((x2598 : Int) != x1830)) rfl rfl rfl rfl (by kernel_rfl) (by kernel_rfl) (by kernel_rfl) (by kernel_rfl) (by kernel_rfl) rfl (show _ = #[true, true, true, true, true, true, true, true, true, true, true, true, true, true, true, true, true, false, false, false, false, false, false, false, false, false, false, false] from rfl) (yv_pv rfl) ?_
                        refine sxb_takeP 17 (.bool ((x2598 : Int) != x1830)) rfl rfl rfl rfl (by kernel_rfl) (by kernel_rfl) (by kernel_rfl) (by kernel_rfl) (by kernel_rfl) rfl (show _ = #[true, true, true, true, true, true, true, true, true, true, true, true, true, true, true, true, true, true, false, false, false, false, false, false, false, false, false, false] from rfl) (yv_pv rfl) ?_
                        refine sxb_takeP 18 (.bool ((x2598 : Int) != x1830)) rfl rfl rfl rfl (by kernel_rfl) (by kernel_rfl) (by kernel_rfl) (by kernel_rfl) (by kernel_rfl) rfl (show _ = #[true, true, true, true, true, true, true, true, true, true, true, true, true, true, true, true, true, true, true, false, false, false, false, false, false, false, false, false] from rfl) (yv_pv rfl) ?_
                        refine sxb_again (d := 62) (v := .bool true) rfl (by rw [h2602] <;> rfl) ?_
                        refine sxb_skip 19 rfl rfl rfl rfl (by kernel_rfl) (by kernel_rfl) (by kernel_rfl) (by kernel_rfl) (by kernel_rfl) rfl (show _ = #[true, true, true, true, true, true, true, true, true, true, true, true, true, true, true, true, true, true, true, true, false, false, false, false, false, false, false, false] from rfl) ?_
                        refine sxb_skip 20 rfl rfl rfl rfl (by kernel_rfl) (by kernel_rfl) (by kernel_rfl) (by kernel_rfl) (by kernel_rfl) rfl (show _ = #[true, true, true, true, true, true, true, true, true, true, true, true, true, true, true, true, true, true, true, true, true, false, false, false, false, false, false, false] from rfl) ?_
                        refine sxb_skip 21 rfl rfl rfl rfl (by kernel_rfl) (by kernel_rfl) (by kernel_rfl) (by kernel_rfl) (by kernel_rfl) rfl (show _ = #[true, true, true, true, true, true, true, true, true, true, true, true, true, true, true, true, true, true, true, true, true, true, false, false, false, false, false, false] from rfl) ?_
                        refine sxb_skip 22 rfl rfl rfl rfl (by kernel_rfl) (by kernel_rfl) (by kernel_rfl) (by kernel_rfl) (by kernel_rfl) rfl (show _ = #[true, true, true, true, true, true, true, true, true, true, true, true, true, true, true, true, true, true, true, true, true, true, true, false, false, false, false, false] from rfl) ?_
                        refine sxb_skip 23 rfl rfl rfl rfl (by kernel_rfl) (by kernel_rfl) (by kernel_rfl) (by kernel_rfl) (by kernel_rfl) rfl (show _ = #[true, true, true, true, true, true, true, true, true, true, true, true, true, true, true, true, true, true, true, true, true, true, true, true, false, false, false, false] from rfl) ?_
                        refine sxb_skip 24 rfl rfl rfl rfl (by kernel_rfl) (by kernel_rfl) (by kernel_rfl) (by kernel_rfl) (by kernel_rfl) rfl (show _ = #[true, true, true, true, true, true, true, true, true, true, true, true, true, true, true, true, true, true, true, true, true, true, true, true, true, false, false, false] from rfl) ?_
                        refine sxb_skip 25 rfl rfl rfl rfl (by kernel_rfl) (by kernel_rfl) (by kernel_rfl) (by kernel_rfl) (by kernel_rfl) rfl (show _ = #[true, true, true, true, true, true, true, true, true, true, true, true, true, true, true, true, true, true, true, true, true, true, true, true, true, true, false, false] from rfl) ?_
                        refine sxb_skip 26 rfl rfl rfl rfl (by kernel_rfl) (by kernel_rfl) (by kernel_rfl) (by kernel_rfl) (by kernel_rfl) rfl (show _ = #[true, true, true, true, true, true, true, true, true, true, true, true, true, true, true, true, true, true, true, true, true, true, true, true, true, true, true, false] from rfl) ?_
                        refine sxb_takeP 27 (.bool true) rfl rfl rfl rfl (by kernel_rfl) (by kernel_rfl) (by kernel_rfl) (by kernel_rfl) (by kernel_rfl) rfl (show _ = #[true, true, true, true, true, true, true, true, true, true, true, true, true, true, true, true, true, true, true, true, true, true, true, true, true, true, true, true] from rfl) (yv_pv rfl) ?_
                        refine sxb_done (by kernel_rfl) ?_
                        refine sxq_np ?_ (by intro c h; cases h)
                        exact sxq_meetP (true, ()) (lk_cons rfl (lk_cons rfl (lk_cons rfl (lk_cons rfl (lk_cons rfl (lk_cons rfl lk_nil)))))) (.cons 0 rfl .nil) (.cons 0 rfl .nil) (fk_cons 0 rfl (fk_cons 1 rfl fk_nil))
                      · refine sxc_idxO (j := 0) rfl (fun x2603 e2603 g2604 h2605 => ?_)
                        replace h2605 : a9 = some ⟨g2604, 0, none⟩ := h2605
                        have h2606 := own_of (k := x8.1.length) (c := c10) h2605
                        refine sxb_draw mixed [] [⟨g7, 24, [.slice a2 x1.length c3.1]⟩] [Sl (eI .i64) 1 (.slice a5 x4.length c6) x4, SlN eN25 iN25 1 (.slice a2 x1.length c3.1) x1 c3.2, CellsAt g2590 (x1830.toNat * 1) ((eI .i64) x2589), CellsAt g2595 (x1830.toNat * 1) ((eI .i64) x2594), CellsAt g2599 (x2594.toNat * 1) ((eI .i64) x2598), CellsAt g2604 (x1830.toNat * 1) ((eI .i64) x2603)] (.cons 0 rfl .nil) (gk_F 0 rfl (gk_F 1 rfl (gk_R 0 rfl (at_row (eI_ok .i64) e2589 h2591) (gk_R 0 rfl (at_row (eI_ok .i64) e2594 h2596) (gk_R 0 rfl (at_row (eI_ok .i64) e2598 h2600) (gk_R 0 rfl (at_row (eI_ok .i64) e2603 h2605) gk_nil)))))) 28 rfl ?_
                        refine sxb_takeP 0 (.slice a9 x8.1.length c10) rfl rfl rfl rfl (by kernel_rfl) (by kernel_rfl) (by kernel_rfl) (by kernel_rfl) (by kernel_rfl) rfl (show _ = #[true, false, false, false, false, false, false, false, false, false, false, false, false, false, false, false, false, false, false, false, false, false, false, false, false, false, false, false] from rfl) (yv_pv rfl) ?_
                        refine sxb_takeP 1 (.int .i64 x1830) rfl rfl rfl rfl (by kernel_rfl) (by kernel_rfl) (by kernel_rfl) (by kernel_rfl) (by kernel_rfl) rfl (show _ = #[true, true, false, false, false, false, false, false, false, false, false, false, false, false, false, false, false, false, false, false, false, false, false, false, false, false, false, false] from rfl) (yv_pv rfl) ?_
                        refine sxb_again (d := 44) (v := .slice (some ⟨g2590, 0, none⟩) x8.1.length c10) rfl (by rw [h2591] <;> rfl) ?_
                        refine sxb_takeP 2 (.pointer (some ⟨g2590, x1830.toNat * 1, none⟩)) rfl rfl rfl rfl (by kernel_rfl) (by kernel_rfl) (by kernel_rfl) (by kernel_rfl) (by kernel_rfl) rfl (show _ = #[true, true, true, false, false, false, false, false, false, false, false, false, false, false, false, false, false, false, false, false, false, false, false, false, false, false, false, false] from rfl) (yv_idxO Try.underlying25 tf3 rfl rfl (idx_get e2589).1 (idx_lt e2589)) ?_
                        refine sxb_again (d := 44) (v := .slice a9 x8.1.length c10) rfl (by rw [h2591] <;> rfl) ?_
                        refine sxb_take 3 (.int .i64 x2589) [] rfl rfl rfl rfl (by kernel_rfl) (by kernel_rfl) (by kernel_rfl) (by kernel_rfl) (by kernel_rfl) (by kernel_rfl) rfl (show _ = #[true, true, true, true, false, false, false, false, false, false, false, false, false, false, false, false, false, false, false, false, false, false, false, false, false, false, false, false] from rfl) (yv_loadF (j := 2) rfl tf3 rfl rfl (fun _ => rfl) rfl) ?_
                        refine sxb_takeP 4 (.slice a9 x8.1.length c10) rfl rfl rfl rfl (by kernel_rfl) (by kernel_rfl) (by kernel_rfl) (by kernel_rfl) (by kernel_rfl) rfl (show _ = #[true, true, true, true, true, false, false, false, false, false, false, false, false, false, false, false, false, false, false, false, false, false, false, false, false, false, false, false] from rfl) (yv_pv rfl) ?_
                        refine sxb_takeP 5 (.int .i64 (x8.1.length : Int)) rfl rfl rfl rfl (by kernel_rfl) (by kernel_rfl) (by kernel_rfl) (by kernel_rfl) (by kernel_rfl) rfl (show _ = #[true, true, true, true, true, true, false, false, false, false, false, false, false, false, false, false, false, false, false, false, false, false, false, false, false, false, false, false] from rfl) (yv_len Try.underlying25 rfl) ?_
                        refine sxb_takeP 6 (.bool (decide ((x8.1.length : Int) ≤ x2589))) rfl rfl rfl rfl (by kernel_rfl) (by kernel_rfl) (by kernel_rfl) (by kernel_rfl) (by kernel_rfl) rfl (show _ = #[true, true, true, true, true, true, true, false, false, false, false, false, false, false, false, false, false, false, false, false, false, false, false, false, false, false, false, false] from rfl) (yv_pv rfl) ?_
                        refine sxb_takeP 7 (.bool (decide ((x8.1.length : Int) ≤ x2589))) rfl rfl rfl rfl (by kernel_rfl) (by kernel_rfl) (by kernel_rfl) (by kernel_rfl) (by kernel_rfl) rfl (show _ = #[true, true, true, true, true, true, true, true, false, false, false, false, false, false, false, false, false, false, false, false, false, false, false, false, false, false, false, false] from rfl) (yv_pv rfl) ?_
                        refine sxb_again (d := 51) (v := .bool false) rfl (by rw [h2593] <;> rfl) ?_
                        refine sxb_takeP 8 (.slice a9 x8.1.length c10) rfl rfl rfl rfl (by kernel_rfl) (by kernel_rfl) (by kernel_rfl) (by kernel_rfl) (by kernel_rfl) rfl (show _ = #[true, true, true, true, true, true, true, true, true, false, false, false, false, false, false, false, false, false, false, false, false, false, false, false, false, false, false, false] from rfl) (yv_pv rfl) ?_
                        refine sxb_takeP 9 (.slice a9 x8.1.length c10) rfl rfl rfl rfl (by kernel_rfl) (by kernel_rfl) (by kernel_rfl) (by kernel_rfl) (by kernel_rfl) rfl (show _ = #[true, true, true, true, true, true, true, true, true, true, false, false, false, false, false, false, false, false, false, false, false, false, false, false, false, false, false, false] from rfl) (yv_pv rfl) ?_
                        refine sxb_takeP 10 (.int .i64 x1830) rfl rfl rfl rfl (by kernel_rfl) (by kernel_rfl) (by kernel_rfl) (by kernel_rfl) (by kernel_rfl) rfl (show _ = #[true, true, true, true, true, true, true, true, true, true, true, false, false, false, false, false, false, false, false, false, false, false, false, false, false, false, false, false] from rfl) (yv_pv rfl) ?_
                        refine sxb_again (d := 53) (v := .slice (some ⟨g2595, 0, none⟩) x8.1.length c10) rfl (by rw [h2596] <;> rfl) ?_
                        refine sxb_takeP 11 (.pointer (some ⟨g2595, x1830.toNat * 1, none⟩)) rfl rfl rfl rfl (by kernel_rfl) (by kernel_rfl) (by kernel_rfl) (by kernel_rfl) (by kernel_rfl) rfl (show _ = #[true, true, true, true, true, true, true, true, true, true, true, true, false, false, false, false, false, false, false, false, false, false, false, false, false, false, false, false] from rfl) (yv_idxO Try.underlying25 tf3 rfl rfl (idx_get e2594).1 (idx_lt e2594)) ?_
                        refine sxb_again (d := 53) (v := .slice a9 x8.1.length c10) rfl (by rw [h2596] <;> rfl) ?_
                        refine sxb_take 12 (.int .i64 x2594) [] rfl rfl rfl rfl (by kernel_rfl) (by kernel_rfl) (by kernel_rfl) (by kernel_rfl) (by kernel_rfl) (by kernel_rfl) rfl (show _ = #[true, true, true, true, true, true, true, true, true, true, true, true, true, false, false, false, false, false, false, false, false, false, false, false, false, false, false, false] from rfl) (yv_loadF (j := 3) rfl tf3 rfl rfl (fun _ => rfl) rfl) ?_
                        refine sxb_again (d := 52) (v := .slice (some ⟨g2599, 0, none⟩) x8.1.length c10) rfl (by rw [h2600] <;> rfl) ?_
                        refine sxb_takeP 13 (.pointer (some ⟨g2599, x2594.toNat * 1, none⟩)) rfl rfl rfl rfl (by kernel_rfl) (by kernel_rfl) (by kernel_rfl) (by kernel_rfl) (by kernel_rfl) rfl (show _ = #[true, true, true, true, true, true, true, true, true, true, true, true, true, true, false, false, false, false, false, false, false, false, false, false, false, false, false, false] from rfl) (yv_idxO Try.underlying25 tf3 rfl rfl (idx_get e2598).1 (idx_lt e2598)) ?_
                        refine sxb_again (d := 52) (v := .slice a9 x8.1.length c10) rfl (by rw [h2600] <;> rfl) ?_
                        refine sxb_take 14 (.int .i64 x2598) [] rfl rfl rfl rfl (by kernel_rfl) (by kernel_rfl) (by kernel_rfl) (by kernel_rfl) (by kernel_rfl) (by kernel_rfl) rfl (show _ = #[true, true, true, true, true, true, true, true, true, true, true, true, true, true, true, false, false, false, false, false, false, false, false, false, false, false, false, false] from rfl) (yv_loadF (j := 4) rfl tf3 rfl rfl (fun _ => rfl) rfl) ?_
                        refine sxb_takeP 15 (.int .i64 x1830) rfl rfl rfl rfl (by kernel_rfl) (by kernel_rfl) (by kernel_rfl) (by kernel_rfl) (by kernel_rfl) rfl (show _ = #[true, true, true, true, true, true, true, true, true, true, true, true, true, true, true, true, false, false, false, false, false, false, false, false, false, false, false, false] from rfl) (yv_pv rfl) ?_
                        refine sxb_takeP 16 (.bool ((x2598 : Int) != x1830)) rfl rfl rfl rfl (by kernel_rfl) (by kernel_rfl) (by kernel_rfl) (by kernel_rfl) (by kernel_rfl) rfl (show _ = #[true, true, true, true, true, true, true, true, true, true, true, true, true, true, true, true, true, false, false, false, false, false, false, false, false, false, false, false] from rfl) (yv_pv rfl) ?_
                        refine sxb_takeP 17 (.bool ((x2598 : Int) != x1830)) rfl rfl rfl rfl (by kernel_rfl) (by kernel_rfl) (by kernel_rfl) (by kernel_rfl) (by kernel_rfl) rfl (show _ = #[true, true, true, true, true, true, true, true, true, true, true, true, true, true, true, true, true, true, false, false, false, false, false, false, false, false, false, false] from rfl) (yv_pv rfl) ?_
                        refine sxb_takeP 18 (.bool ((x2598 : Int) != x1830)) rfl rfl rfl rfl (by kernel_rfl) (by kernel_rfl) (by kernel_rfl) (by kernel_rfl) (by kernel_rfl) rfl (show _ = #[true, true, true, true, true, true, true, true, true, true, true, true, true, true, true, true, true, true, true, false, false, false, false, false, false, false, false, false] from rfl) (yv_pv rfl) ?_
                        refine sxb_again (d := 62) (v := .bool false) rfl (by rw [h2602] <;> rfl) ?_
                        refine sxb_takeB 19 (.agg #[.slice a2 x1.length c3.1]) rfl rfl rfl rfl (by kernel_rfl) (by kernel_rfl) (by kernel_rfl) (by kernel_rfl) (by kernel_rfl) rfl (show _ = #[true, true, true, true, true, true, true, true, true, true, true, true, true, true, true, true, true, true, true, true, false, false, false, false, false, false, false, false] from rfl) (yv_loadB (i := 0) rfl tf24 rfl rfl (by simp) rfl) ?_
                        refine sxb_takeP 20 (.int .i64 x1830) rfl rfl rfl rfl (by kernel_rfl) (by kernel_rfl) (by kernel_rfl) (by kernel_rfl) (by kernel_rfl) rfl (show _ = #[true, true, true, true, true, true, true, true, true, true, true, true, true, true, true, true, true, true, true, true, true, false, false, false, false, false, false, false] from rfl) (yv_pv rfl) ?_
                        refine sxb_takeP 21 (.slice a9 x8.1.length c10) rfl rfl rfl rfl (by kernel_rfl) (by kernel_rfl) (by kernel_rfl) (by kernel_rfl) (by kernel_rfl) rfl (show _ = #[true, true, true, true, true, true, true, true, true, true, true, true, true, true, true, true, true, true, true, true, true, true, false, false, false, false, false, false] from rfl) (yv_pv rfl) ?_
                        refine sxb_takeP 22 (.int .i64 x1830) rfl rfl rfl rfl (by kernel_rfl) (by kernel_rfl) (by kernel_rfl) (by kernel_rfl) (by kernel_rfl) rfl (show _ = #[true, true, true, true, true, true, true, true, true, true, true, true, true, true, true, true, true, true, true, true, true, true, true, false, false, false, false, false] from rfl) (yv_pv rfl) ?_
                        refine sxb_again (d := 65) (v := .slice (some ⟨g2604, 0, none⟩) x8.1.length c10) rfl (by rw [h2605] <;> rfl) ?_
                        refine sxb_takeP 23 (.pointer (some ⟨g2604, x1830.toNat * 1, none⟩)) rfl rfl rfl rfl (by kernel_rfl) (by kernel_rfl) (by kernel_rfl) (by kernel_rfl) (by kernel_rfl) rfl (show _ = #[true, true, true, true, true, true, true, true, true, true, true, true, true, true, true, true, true, true, true, true, true, true, true, true, false, false, false, false] from rfl) (yv_idxO Try.underlying25 tf3 rfl rfl (idx_get e2603).1 (idx_lt e2603)) ?_
                        refine sxb_again (d := 65) (v := .slice a9 x8.1.length c10) rfl (by rw [h2605] <;> rfl) ?_
                        refine sxb_take 24 (.int .i64 x2603) [] rfl rfl rfl rfl (by kernel_rfl) (by kernel_rfl) (by kernel_rfl) (by kernel_rfl) (by kernel_rfl) (by kernel_rfl) rfl (show _ = #[true, true, true, true, true, true, true, true, true, true, true, true, true, true, true, true, true, true, true, true, true, true, true, true, true, false, false, false] from rfl) (yv_loadF (j := 5) rfl tf3 rfl rfl (fun _ => rfl) rfl) ?_
                        refine sxb_step 25 rfl (by kernel_rfl) (show _ = #[true, true, true, true, true, true, true, true, true, true, true, true, true, true, true, true, true, true, true, true, true, true, true, true, true, true, false, false] from rfl) ?_
                        refine sxo_call ent20 rfl rfl rfl (fun x2607 e2607 => C_R_Near F x1 a2 c3 x1830 x2603 x2607 e2607) (.consF 1 rfl .nil) (fun x2607 e2607 => ?_)
                        intro _
                        refine sxo_nil ?_
                        refine sxq_anyB (.cons 0 rfl .nil) (gk_F 0 rfl (gk_F 1 rfl (gk_R 0 rfl (at_row (eI_ok .i64) e2589 h2591) (gk_R 0 rfl (at_row (eI_ok .i64) e2594 h2596) (gk_R 0 rfl (at_row (eI_ok .i64) e2598 h2600) (gk_R 0 rfl (at_row (eI_ok .i64) e2603 h2605) gk_nil)))))) ?_
                        refine sxb_takeP 26 (.bool (!x2607)) rfl rfl rfl rfl (by kernel_rfl) (by kernel_rfl) (by kernel_rfl) (by kernel_rfl) (by kernel_rfl) rfl (show _ = #[true, true, true, true, true, true, true, true, true, true, true, true, true, true, true, true, true, true, true, true, true, true, true, true, true, true, true, false] from rfl) (yv_pv rfl) ?_
                        refine sxb_takeP 27 (.bool (!x2607)) rfl rfl rfl rfl (by kernel_rfl) (by kernel_rfl) (by kernel_rfl) (by kernel_rfl) (by kernel_rfl) rfl (show _ = #[true, true, true, true, true, true, true, true, true, true, true, true, true, true, true, true, true, true, true, true, true, true, true, true, true, true, true, true] from rfl) (yv_pv rfl) ?_
                        refine sxb_done (by kernel_rfl) ?_
                        refine sxq_np ?_ (by intro c h; cases h)
                        exact sxq_meetP ((!x2607), ()) (lk_cons rfl (lk_cons rfl (lk_cons rfl (lk_cons rfl (lk_cons rfl (lk_cons rfl lk_nil)))))) (.cons 0 rfl .nil) (.cons 0 rfl .nil) (fk_cons 0 rfl (fk_cons 1 rfl fk_nil))
                  · rintro ⟨x2587, _⟩
                    try dsimp only
                    refine sxc_if rfl (fun h2588 => ?_) (fun h2588 => ?_)
                    · refine sxc_seq ?_
                      refine sxc_region ?_
                      refine sxo_assign rfl rfl rfl ?_
                      refine sxo_nil ?_
                      refine sxq_next ?_
                      refine sxc_ret ?_
                      refine sxq_thenR ?_
                      refine sxq_blkR ?_
                      refine sxq_thenR ?_
                      refine sxq_thenR ?_
                      refine sxq_blkR ?_
                      refine sxq_thenR ?_
                      exact sxq_doneP () (.inl rfl) (res1 rfl rfl) (fun h => by subst h; rfl) (fun h => by subst h; exact .nil)
                    · refine sxc_skip ?_
                      exact sxq_meetP (iadd .i64 x1829 1, ()) (lk_cons rfl (lk_cons rfl (lk_cons rfl (lk_cons rfl (lk_cons rfl lk_nil))))) (.cons 0 rfl .nil) (.cons 0 rfl .nil) (fk_cons 0 rfl (fk_cons 1 rfl fk_nil))
                · refine sxc_skip ?_
                  exact sxq_meetP (x1829, ()) (lk_cons rfl (lk_cons rfl (lk_cons rfl (lk_cons rfl (lk_cons rfl lk_nil))))) (.cons 0 rfl .nil) (.cons 0 rfl .nil) (fk_cons 0 rfl (fk_cons 1 rfl fk_nil))
              · rintro ⟨x2460, _⟩
                try dsimp only
                refine sxc_seq ?_
                refine sxc_region ?_
                refine sxo_assign rfl rfl rfl ?_
                refine sxo_nil ?_
                refine sxq_next ?_
                refine sxc_block ?_
                refine sxc_loopP (fun ((x2495, _) : (Int × Unit)) => [(1, .slice a5 x4.length c6), (2, .pointer (some ⟨g7, 0, none⟩)), (5, .slice a9 x8.1.length c10), (7, .int .i64 x2460), (8, .int .i64 x1830), (9, .int .i64 x2495)]) (fun ((x2495, _) : (Int × Unit)) => [⟨g7, 24, [.slice a2 x1.length c3.1]⟩]) (fun ((x2495, _) : (Int × Unit)) => [Ro (eI .i64) 3 1 (.slice a9 x8.1.length c10) x8.1]) (fun ((x2495, _) : (Int × Unit)) => [Sl (eI .i64) 1 (.slice a5 x4.length c6) x4, SlN eN25 iN25 1 (.slice a2 x1.length c3.1) x1 c3.2]) (fun k (s : (Int × Unit)) => M_L_CorePairs_l229 F (M_L_CorePairs_l201 F x1 x4 x8 k2220) x1 x8 x1830 x2460 k s.1) (0, ()) F (lk_cons rfl (lk_cons rfl (lk_cons rfl (lk_cons rfl (lk_cons rfl (lk_cons rfl lk_nil)))))) (.cons 0 rfl .nil) (.cons 0 rfl .nil) (fk_cons 0 rfl (fk_cons 1 rfl fk_nil)) (fun _ => rfl) ?_
                intro k2530
                rintro ⟨x2495, _⟩
                try dsimp only
                refine sxc_meq (m' := M_L_CorePairs_b229 F (M_L_CorePairs_l201 F x1 x4 x8 k2220) x1 x8 x1830 x2460 (M_L_CorePairs_l229 F (M_L_CorePairs_l201 F x1 x4 x8 k2220) x1 x8 x1830 x2460 k2530) x2495) rfl ?_
                refine sxc_seq ?_
                refine sxc_seq ?_
                refine sxc_region ?_
                refine sxo_move rfl rfl rfl ?_
                refine sxo_move rfl rfl rfl ?_
                refine sxo_lss rfl rfl rfl rfl ?_
                refine sxo_nil ?_
                refine sxq_next ?_
                refine sxc_if rfl (fun h2564 => ?_) (fun h2564 => ?_)
                · refine sxc_skip ?_
                  refine sxq_next ?_
                  refine sxc_seq ?_
                  refine sxc_block ?_
                  refine sxc_seq ?_
                  refine sxc_region ?_
                  refine sxo_move rfl rfl rfl ?_
                  refine sxo_move rfl rfl rfl ?_
                  refine sxo_indexR (j := 0) rfl Try.underlying25 tf3 rfl rfl rfl rfl (fun x2548 e2548 g2549 h2550 => ?_)
                  refine sxo_loadR (j := 0) (y := x2548) (eI_ok .i64) rfl rfl tf3 rfl h2550 (idx_get e2548).2.2 (fun _ => rfl) rfl rfl ?_
                  refine sxo_lss rfl rfl rfl rfl ?_
                  refine sxo_move rfl rfl rfl ?_
                  refine sxo_join 6 (fun ((x2555, _) : (Bool × Unit)) => [(1, .slice a5 x4.length c6), (2, .pointer (some ⟨g7, 0, none⟩)), (5, .slice a9 x8.1.length c10), (7, .int .i64 x2460), (8, .int .i64 x1830), (9, .int .i64 x2495), (88, .bool x2555)]) (fun ((x2555, _) : (Bool × Unit)) => [⟨g7, 24, [.slice a2 x1.length c3.1]⟩]) (fun ((x2555, _) : (Bool × Unit)) => [Ro (eI .i64) 3 1 (.slice a9 x8.1.length c10) x8.1]) (fun ((x2555, _) : (Bool × Unit)) => [Sl (eI .i64) 1 (.slice a5 x4.length c6) x4, SlN eN25 iN25 1 (.slice a2 x1.length c3.1) x1 c3.2]) (fun ((x2555, _) : (Bool × Unit)) => M_L_CorePairs_j232 F (M_L_CorePairs_l229 F (M_L_CorePairs_l201 F x1 x4 x8 k2220) x1 x8 x1830 x2460 k2530) x1 x1830 x2495 x2555) ?_ ?_
                  · refine sxo_take (os := _) rfl ?_
                    refine sxo_if (fun h2551 => ?_) (fun h2551 => ?_)
                    · refine sxo_isT (k := 82) rfl h2551 ?_
                      refine sxo_move rfl rfl rfl ?_
                      refine sxo_move rfl rfl rfl ?_
                      refine sxo_indexR (j := 0) rfl Try.underlying25 tf3 rfl rfl rfl rfl (fun x2561 e2561 g2562 h2563 => ?_)
                      refine sxo_loadR (j := 0) (y := x2561) (eI_ok .i64) rfl rfl tf3 rfl h2563 (idx_get e2561).2.2 (fun _ => rfl) rfl rfl ?_
                      refine sxo_lss rfl rfl rfl rfl ?_
                      refine sxo_pick (b := true) rfl rfl rfl rfl ?_
                      refine sxo_nil ?_
                      exact sxq_meetP ((decide (x2561 < 0)), ()) (lk_cons rfl (lk_cons rfl (lk_cons rfl (lk_cons rfl (lk_cons rfl (lk_cons rfl (lk_cons rfl lk_nil))))))) (.cons 0 rfl .nil) (.cons 0 rfl .nil) (fk_cons 0 rfl (fk_cons 1 rfl fk_nil))
                    · refine sxo_isF (k := 82) rfl h2551 ?_
                      refine sxo_skip rfl rfl rfl ?_
                      refine sxo_skip rfl rfl rfl ?_
                      refine sxo_skip rfl rfl rfl ?_
                      refine sxo_skip rfl rfl rfl ?_
                      refine sxo_skip rfl rfl rfl ?_
                      refine sxo_pick (b := false) rfl rfl rfl rfl ?_
                      refine sxo_nil ?_
                      exact sxq_meetP (false, ()) (lk_cons rfl (lk_cons rfl (lk_cons rfl (lk_cons rfl (lk_cons rfl (lk_cons rfl (lk_cons rfl lk_nil))))))) (.cons 0 rfl .nil) (.cons 0 rfl .nil) (fk_cons 0 rfl (fk_cons 1 rfl fk_nil))
                  · rintro ⟨x2555, _⟩
                    try dsimp only
                    refine sxo_take (os := _) rfl ?_
                    refine sxo_move rfl rfl rfl ?_
                    refine sxo_join 5 (fun ((x2558, _) : (Bool × Unit)) => [(1, .slice a5 x4.length c6), (2, .pointer (some ⟨g7, 0, none⟩)), (5, .slice a9 x8.1.length c10), (7, .int .i64 x2460), (8, .int .i64 x1830), (9, .int .i64 x2495), (94, .bool x2558)]) (fun ((x2558, _) : (Bool × Unit)) => [⟨g7, 24, [.slice a2 x1.length c3.1]⟩]) (fun ((x2558, _) : (Bool × Unit)) => [Ro (eI .i64) 3 1 (.slice a9 x8.1.length c10) x8.1]) (fun ((x2558, _) : (Bool × Unit)) => [Sl (eI .i64) 1 (.slice a5 x4.length c6) x4, SlN eN25 iN25 1 (.slice a2 x1.length c3.1) x1 c3.2]) (fun ((x2558, _) : (Bool × Unit)) => M_L_CorePairs_j233 F (M_L_CorePairs_l229 F (M_L_CorePairs_l201 F x1 x4 x8 k2220) x1 x8 x1830 x2460 k2530) x2495 x2558) ?_ ?_
                    · refine sxo_take (os := _) rfl ?_
                      refine sxo_if (fun h2556 => ?_) (fun h2556 => ?_)
                      · refine sxo_isT (k := 89) rfl h2556 ?_
                        refine sxo_loadB (i := 0) rfl rfl tf24 rfl rfl (by simp) rfl rfl ?_
                        refine sxo_move rfl rfl rfl ?_
                        refine sxo_move rfl rfl rfl ?_
                        refine sxo_call ent20 rfl rfl rfl (fun x2560 e2560 => C_R_Near F x1 a2 c3 x1830 x2495 x2560 e2560) (.consF 1 rfl .nil) (fun x2560 e2560 => ?_)
                        intro _
                        refine sxo_pick (b := true) rfl rfl rfl rfl ?_
                        refine sxo_nil ?_
                        exact sxq_meetP (x2560, ()) (lk_cons rfl (lk_cons rfl (lk_cons rfl (lk_cons rfl (lk_cons rfl (lk_cons rfl (lk_cons rfl lk_nil))))))) (.cons 0 rfl .nil) (.cons 0 rfl .nil) (fk_cons 0 rfl (fk_cons 1 rfl fk_nil))
                      · refine sxo_isF (k := 89) rfl h2556 ?_
                        refine sxo_skip rfl rfl rfl ?_
                        refine sxo_skip rfl rfl rfl ?_
                        refine sxo_skip rfl rfl rfl ?_
                        refine sxo_skip rfl rfl rfl ?_
                        refine sxo_pick (b := false) rfl rfl rfl rfl ?_
                        refine sxo_nil ?_
                        exact sxq_meetP (false, ()) (lk_cons rfl (lk_cons rfl (lk_cons rfl (lk_cons rfl (lk_cons rfl (lk_cons rfl (lk_cons rfl lk_nil))))))) (.cons 0 rfl .nil) (.cons 0 rfl .nil) (fk_cons 0 rfl (fk_cons 1 rfl fk_nil))
                    · rintro ⟨x2558, _⟩
                      try dsimp only
                      refine sxo_take (os := _) rfl ?_
                      refine sxo_nil ?_
                      refine sxq_next ?_
                      refine sxc_if rfl (fun h2559 => ?_) (fun h2559 => ?_)
                      · refine sxc_seq ?_
                        refine sxc_region ?_
                        refine sxo_assign rfl rfl rfl ?_
                        refine sxo_nil ?_
                        refine sxq_next ?_
                        refine sxc_ret ?_
                        refine sxq_blkR ?_
                        refine sxq_thenR ?_
                        refine sxq_thenR ?_
                        refine sxq_blkR ?_
                        refine sxq_blkR ?_
                        refine sxq_thenR ?_
                        refine sxq_thenR ?_
                        refine sxq_blkR ?_
                        refine sxq_thenR ?_
                        exact sxq_doneP () (.inl rfl) (res1 rfl rfl) (fun h => by subst h; rfl) (fun h => by subst h; exact .nil)
                      · refine sxc_skip ?_
                        refine sxq_blkN ?_
                        refine sxq_next ?_
                        refine sxc_region ?_
                        refine sxo_move rfl rfl rfl ?_
                        refine sxo_add rfl rfl rfl rfl ?_
                        refine sxo_assign rfl rfl rfl ?_
                        refine sxo_nil ?_
                        exact sxq_againP (iadd .i64 x2495 1, ()) (lk_cons rfl (lk_cons rfl (lk_cons rfl (lk_cons rfl (lk_cons rfl (lk_cons rfl lk_nil)))))) (.cons 0 rfl .nil) (.cons 0 rfl .nil) (fk_cons 0 rfl (fk_cons 1 rfl fk_nil))
                · refine sxc_exit ?_
                  refine sxq_thenX ?_
                  refine sxq_thenX ?_
                  refine sxq_blkX ?_
                  refine sxq_blkN ?_
                  exact sxq_meetP (x2460, ()) (lk_cons rfl (lk_cons rfl (lk_cons rfl (lk_cons rfl (lk_cons rfl lk_nil))))) (.cons 0 rfl .nil) (.cons 0 rfl .nil) (fk_cons 0 rfl (fk_cons 1 rfl fk_nil))
            · rintro ⟨x2415, _⟩
              try dsimp only
              refine sxc_region ?_
              refine sxo_move rfl rfl rfl ?_
              refine sxo_add rfl rfl rfl rfl ?_
              refine sxo_assign rfl rfl rfl ?_
              refine sxo_nil ?_
              exact sxq_againP ((x2415, iadd .i64 x1830 1), ()) (lk_cons rfl (lk_cons rfl (lk_cons rfl (lk_cons rfl (lk_cons rfl lk_nil))))) (.cons 0 rfl .nil) (.cons 0 rfl .nil) (fk_cons 0 rfl (fk_cons 1 rfl fk_nil))
          · refine sxc_exit ?_
            refine sxq_thenX ?_
            refine sxq_thenX ?_
            refine sxq_blkX ?_
            exact sxq_meetP (x1829, ()) (lk_cons rfl (lk_cons rfl (lk_cons rfl (lk_cons rfl lk_nil)))) (.cons 0 rfl .nil) (.cons 0 rfl .nil) (fk_cons 0 rfl (fk_cons 1 rfl fk_nil))
        · rintro ⟨x1186, _⟩
          try dsimp only
          refine sxc_seq ?_
          refine sxc_region ?_
          refine sxo_assign rfl rfl rfl ?_
          refine sxo_nil ?_
          refine sxq_next ?_
          refine sxc_join (fun ((x1313, _) : (Int × Unit)) => [(7, .int .i64 x1186), (10, .int .i64 x1313)]) (fun ((x1313, _) : (Int × Unit)) => []) (fun ((x1313, _) : (Int × Unit)) => []) (fun ((x1313, _) : (Int × Unit)) => []) (fun ((x1313, _) : (Int × Unit)) => M_L_CorePairs_j118 F x1186 x1313) ?_ ?_
          · refine sxc_seq ?_
            refine sxc_region ?_
            refine sxo_assign rfl rfl rfl ?_
            refine sxo_nil ?_
            refine sxq_next ?_
            refine sxc_block ?_
            refine sxc_loopP (fun (((x1355, x1356), _) : ((Int × Int) × Unit)) => [(1, .slice a5 x4.length c6), (2, .pointer (some ⟨g7, 0, none⟩)), (5, .slice a9 x8.1.length c10), (7, .int .i64 x1186), (10, .int .i64 x1355), (11, .int .i64 x1356)]) (fun (((x1355, x1356), _) : ((Int × Int) × Unit)) => [⟨g7, 24, [.slice a2 x1.length c3.1]⟩]) (fun (((x1355, x1356), _) : ((Int × Int) × Unit)) => [Ro (eI .i64) 3 1 (.slice a9 x8.1.length c10) x8.1]) (fun (((x1355, x1356), _) : ((Int × Int) × Unit)) => [Sl (eI .i64) 1 (.slice a5 x4.length c6) x4, SlN eN25 iN25 1 (.slice a2 x1.length c3.1) x1 c3.2]) (fun k (s : ((Int × Int) × Unit)) => M_L_CorePairs_l129 F x1 x4 x8 x1186 k s.1) ((0, 0), ()) F (lk_cons rfl (lk_cons rfl (lk_cons rfl (lk_cons rfl (lk_cons rfl (lk_cons rfl lk_nil)))))) (.cons 0 rfl .nil) (.cons 0 rfl .nil) (fk_cons 0 rfl (fk_cons 1 rfl fk_nil)) (fun _ => rfl) ?_
            intro k1398
            rintro ⟨⟨x1355, x1356⟩, _⟩
            try dsimp only
            refine sxc_meq (m' := M_L_CorePairs_b129 F x1 x4 x8 x1186 (M_L_CorePairs_l129 F x1 x4 x8 x1186 k1398) x1355 x1356) rfl ?_
            refine sxc_seq ?_
            refine sxc_seq ?_
            refine sxc_region ?_
            refine sxo_move rfl rfl rfl ?_
            refine sxo_move rfl rfl rfl ?_
            refine sxo_len rfl Try.underlying25 rfl rfl ?_
            refine sxo_lss rfl rfl rfl rfl ?_
            refine sxo_move rfl rfl rfl ?_
            refine sxo_case 5 (decide (x1356 < (x4.length : Int))) [(1, .slice a5 x4.length c6), (2, .pointer (some ⟨g7, 0, none⟩)), (5, .slice a9 x8.1.length c10), (7, .int .i64 x1186), (10, .int .i64 x1355), (11, .int .i64 x1356), (104, .bool ((decide (x1356 < (x4.length : Int))) && (decide (x1356 < (x8.1.length : Int)))))] (fun h1401 => ?_) (fun h1401 => ?_) ?_
            · refine sxo_take (os := _) rfl ?_
              refine sxo_isT (k := 99) rfl h1401 ?_
              refine sxo_move rfl rfl rfl ?_
              refine sxo_move rfl rfl rfl ?_
              refine sxo_len rfl Try.underlying25 rfl rfl ?_
              refine sxo_lss rfl rfl rfl rfl ?_
              refine sxo_pick (b := true) rfl rfl rfl rfl ?_
              refine sxo_again (d := 104) (v := .bool ((decide (x1356 < (x4.length : Int))) && (decide (x1356 < (x8.1.length : Int))))) rfl (by rw [h1401]; simp only [Bool.true_and]) ?_
              refine sxo_nil ?_
              exact sxq_case (lk_cons rfl (lk_cons rfl (lk_cons rfl (lk_cons rfl (lk_cons rfl (lk_cons rfl (lk_cons rfl lk_nil)))))))
            · refine sxo_take (os := _) rfl ?_
              refine sxo_isF (k := 99) rfl h1401 ?_
              refine sxo_skip rfl rfl rfl ?_
              refine sxo_skip rfl rfl rfl ?_
              refine sxo_skip rfl rfl rfl ?_
              refine sxo_skip rfl rfl rfl ?_
              refine sxo_pick (b := false) rfl rfl rfl rfl ?_
              refine sxo_again (d := 104) (v := .bool ((decide (x1356 < (x4.length : Int))) && (decide (x1356 < (x8.1.length : Int))))) rfl (by rw [h1401]; simp only [Bool.false_and]) ?_
              refine sxo_nil ?_
              exact sxq_case (lk_cons rfl (lk_cons rfl (lk_cons rfl (lk_cons rfl (lk_cons rfl (lk_cons rfl (lk_cons rfl lk_nil)))))))
            refine sxo_take (os := _) rfl ?_
            refine sxo_nil ?_
            refine sxq_next ?_
            refine sxc_if rfl (fun h1439 => ?_) (fun h1439 => ?_)
            · refine sxc_skip ?_
              refine sxq_next ?_
              refine sxc_join (fun ((x1420, _) : (Int × Unit)) => [(1, .slice a5 x4.length c6), (2, .pointer (some ⟨g7, 0, none⟩)), (5, .slice a9 x8.1.length c10), (7, .int .i64 x1186), (10, .int .i64 x1420), (11, .int .i64 x1356)]) (fun ((x1420, _) : (Int × Unit)) => [⟨g7, 24, [.slice a2 x1.length c3.1]⟩]) (fun ((x1420, _) : (Int × Unit)) => [Ro (eI .i64) 3 1 (.slice a9 x8.1.length c10) x8.1]) (fun ((x1420, _) : (Int × Unit)) => [Sl (eI .i64) 1 (.slice a5 x4.length c6) x4, SlN eN25 iN25 1 (.slice a2 x1.length c3.1) x1 c3.2]) (fun ((x1420, _) : (Int × Unit)) => M_L_CorePairs_j132 F (M_L_CorePairs_l129 F x1 x4 x8 x1186 k1398) x1356 x1420) ?_ ?_
              · refine sxc_block ?_
                refine sxc_seq ?_
                refine sxc_region ?_
                refine sxo_move rfl rfl rfl ?_
                refine sxo_move rfl rfl rfl ?_
                refine sxo_indexF (j := 0) (eI_ok .i64) (by decide) rfl Try.underlying25 tf3 rfl rfl rfl rfl (fun x1421 e1421 b1422 o1423 => ?_)
                refine sxo_loadF (j := 0) rfl rfl tf3 rfl rfl (fun _ => rfl) rfl rfl ?_
                refine sxo_assign rfl rfl rfl ?_
                refine sxo_nil ?_
                refine sxq_next ?_
                refine sxc_seq ?_
                refine sxc_region ?_
                refine sxo_move rfl rfl rfl ?_
                refine sxo_geq rfl rfl rfl rfl ?_
                refine sxo_move rfl rfl rfl ?_
                refine sxo_case 4 (decide (0 ≤ x1421)) [(1, .slice a5 x4.length c6), (2, .pointer (some ⟨g7, 0, none⟩)), (5, .slice a9 x8.1.length c10), (7, .int .i64 x1186), (10, .int .i64 x1355), (11, .int .i64 x1356), (12, .int .i64 x1421), (117, .bool ((decide (0 ≤ x1421)) && (decide (x1421 < x1356))))] (fun h1424 => ?_) (fun h1424 => ?_) ?_
                · refine sxo_take (os := _) rfl ?_
                  refine sxo_isT (k := 113) rfl h1424 ?_
                  refine sxo_move rfl rfl rfl ?_
                  refine sxo_move rfl rfl rfl ?_
                  refine sxo_lss rfl rfl rfl rfl ?_
                  refine sxo_pick (b := true) rfl rfl rfl rfl ?_
                  refine sxo_again (d := 117) (v := .bool ((decide (0 ≤ x1421)) && (decide (x1421 < x1356)))) rfl (by rw [h1424]; simp only [Bool.true_and]) ?_
                  refine sxo_nil ?_
                  exact sxq_case (lk_cons rfl (lk_cons rfl (lk_cons rfl (lk_cons rfl (lk_cons rfl (lk_cons rfl (lk_cons rfl (lk_cons rfl lk_nil))))))))
                · refine sxo_take (os := _) rfl ?_
                  refine sxo_isF (k := 113) rfl h1424 ?_
                  refine sxo_skip rfl rfl rfl ?_
                  refine sxo_skip rfl rfl rfl ?_
                  refine sxo_skip rfl rfl rfl ?_
                  refine sxo_pick (b := false) rfl rfl rfl rfl ?_
                  refine sxo_again (d := 117) (v := .bool ((decide (0 ≤ x1421)) && (decide (x1421 < x1356)))) rfl (by rw [h1424]; simp only [Bool.false_and]) ?_
                  refine sxo_nil ?_
                  exact sxq_case (lk_cons rfl (lk_cons rfl (lk_cons rfl (lk_cons rfl (lk_cons rfl (lk_cons rfl (lk_cons rfl (lk_cons rfl lk_nil))))))))
                refine sxo_take (os := _) rfl ?_
                refine sxo_move rfl rfl rfl ?_
                refine sxo_case 5 ((decide (0 ≤ x1421)) && (decide (x1421 < x1356))) [(1, .slice a5 x4.length c6), (2, .pointer (some ⟨g7, 0, none⟩)), (5, .slice a9 x8.1.length c10), (7, .int .i64 x1186), (10, .int .i64 x1355), (11, .int .i64 x1356), (12, .int .i64 x1421), (123, .bool (((decide (0 ≤ x1421)) && (decide (x1421 < x1356))) && (decide (x1421 < (x4.length : Int)))))] (fun h1425 => ?_) (fun h1425 => ?_) ?_
                · refine sxo_take (os := _) rfl ?_
                  refine sxo_isT (k := 118) rfl h1425 ?_
                  refine sxo_move rfl rfl rfl ?_
                  refine sxo_move rfl rfl rfl ?_
                  refine sxo_len rfl Try.underlying25 rfl rfl ?_
                  refine sxo_lss rfl rfl rfl rfl ?_
                  refine sxo_pick (b := true) rfl rfl rfl rfl ?_
                  refine sxo_again (d := 123) (v := .bool (((decide (0 ≤ x1421)) && (decide (x1421 < x1356))) && (decide (x1421 < (x4.length : Int))))) rfl (by rw [h1425]; simp only [Bool.true_and]) ?_
                  refine sxo_nil ?_
                  exact sxq_case (lk_cons rfl (lk_cons rfl (lk_cons rfl (lk_cons rfl (lk_cons rfl (lk_cons rfl (lk_cons rfl (lk_cons rfl lk_nil))))))))
                · refine sxo_take (os := _) rfl ?_
                  refine sxo_isF (k := 118) rfl h1425 ?_
                  refine sxo_skip rfl rfl rfl ?_
                  refine sxo_skip rfl rfl rfl ?_
                  refine sxo_skip rfl rfl rfl ?_
                  refine sxo_skip rfl rfl rfl ?_
                  refine sxo_pick (b := false) rfl rfl rfl rfl ?_
                  refine sxo_again (d := 123) (v := .bool (((decide (0 ≤ x1421)) && (decide (x1421 < x1356))) && (decide (x1421 < (x4.length : Int))))) rfl (by rw [h1425]; simp only [Bool.false_and]) ?_
                  refine sxo_nil ?_
                  exact sxq_case (lk_cons rfl (lk_cons rfl (lk_cons rfl (lk_cons rfl (lk_cons rfl (lk_cons rfl (lk_cons rfl (lk_cons rfl lk_nil))))))))
                refine sxo_take (os := _) rfl ?_
                refine sxo_move rfl rfl rfl ?_
                refine sxo_join 7 (fun ((x1430, _) : (Bool × Unit)) => [(1, .slice a5 x4.length c6), (2, .pointer (some ⟨g7, 0, none⟩)), (5, .slice a9 x8.1.length c10), (7, .int .i64 x1186), (10, .int .i64 x1355), (11, .int .i64 x1356), (12, .int .i64 x1421), (131, .bool x1430)]) (fun ((x1430, _) : (Bool × Unit)) => [⟨g7, 24, [.slice a2 x1.length c3.1]⟩]) (fun ((x1430, _) : (Bool × Unit)) => [Ro (eI .i64) 3 1 (.slice a9 x8.1.length c10) x8.1]) (fun ((x1430, _) : (Bool × Unit)) => [Sl (eI .i64) 1 (.slice a5 x4.length c6) x4, SlN eN25 iN25 1 (.slice a2 x1.length c3.1) x1 c3.2]) (fun ((x1430, _) : (Bool × Unit)) => M_L_CorePairs_j133 F (M_L_CorePairs_l129 F x1 x4 x8 x1186 k1398) x1 x1355 x1356 x1421 x1430) ?_ ?_
                · refine sxo_take (os := _) rfl ?_
                  refine sxo_if (fun h1426 => ?_) (fun h1426 => ?_)
                  · refine sxo_isT (k := 124) rfl h1426 ?_
                    refine sxo_move rfl rfl rfl ?_
                    refine sxo_move rfl rfl rfl ?_
                    refine sxo_indexF (j := 1) (eI_ok .i64) (by decide) rfl Try.underlying25 tf3 rfl rfl rfl rfl (fun x1436 e1436 b1437 o1438 => ?_)
                    refine sxo_loadF (j := 0) rfl rfl tf3 rfl rfl (fun _ => rfl) rfl rfl ?_
                    refine sxo_move rfl rfl rfl ?_
                    refine sxo_eql rfl rfl rfl rfl ?_
                    refine sxo_pick (b := true) rfl rfl rfl rfl ?_
                    refine sxo_nil ?_
                    exact sxq_meetP (((x1436 : Int) == x1356), ()) (lk_cons rfl (lk_cons rfl (lk_cons rfl (lk_cons rfl (lk_cons rfl (lk_cons rfl (lk_cons rfl (lk_cons rfl lk_nil)))))))) (.cons 0 rfl .nil) (.cons 0 rfl .nil) (fk_cons 2 rfl (fk_cons 3 rfl fk_nil))
                  · refine sxo_isF (k := 124) rfl h1426 ?_
                    refine sxo_skip rfl rfl rfl ?_
                    refine sxo_skip rfl rfl rfl ?_
                    refine sxo_skip rfl rfl rfl ?_
                    refine sxo_skip rfl rfl rfl ?_
                    refine sxo_skip rfl rfl rfl ?_
                    refine sxo_skip rfl rfl rfl ?_
                    refine sxo_pick (b := false) rfl rfl rfl rfl ?_
                    refine sxo_nil ?_
                    exact sxq_meetP (false, ()) (lk_cons rfl (lk_cons rfl (lk_cons rfl (lk_cons rfl (lk_cons rfl (lk_cons rfl (lk_cons rfl (lk_cons rfl lk_nil)))))))) (.cons 0 rfl .nil) (.cons 0 rfl .nil) (fk_cons 1 rfl (fk_cons 2 rfl fk_nil))
                · rintro ⟨x1430, _⟩
                  try dsimp only
                  refine sxo_take (os := _) rfl ?_
                  refine sxo_move rfl rfl rfl ?_
                  refine sxo_join 5 (fun ((x1433, _) : (Bool × Unit)) => [(1, .slice a5 x4.length c6), (2, .pointer (some ⟨g7, 0, none⟩)), (5, .slice a9 x8.1.length c10), (7, .int .i64 x1186), (10, .int .i64 x1355), (11, .int .i64 x1356), (137, .bool x1433)]) (fun ((x1433, _) : (Bool × Unit)) => [⟨g7, 24, [.slice a2 x1.length c3.1]⟩]) (fun ((x1433, _) : (Bool × Unit)) => [Ro (eI .i64) 3 1 (.slice a9 x8.1.length c10) x8.1]) (fun ((x1433, _) : (Bool × Unit)) => [Sl (eI .i64) 1 (.slice a5 x4.length c6) x4, SlN eN25 iN25 1 (.slice a2 x1.length c3.1) x1 c3.2]) (fun ((x1433, _) : (Bool × Unit)) => M_L_CorePairs_j134 F (M_L_CorePairs_l129 F x1 x4 x8 x1186 k1398) x1355 x1356 x1433) ?_ ?_
                  · refine sxo_take (os := _) rfl ?_
                    refine sxo_if (fun h1431 => ?_) (fun h1431 => ?_)
                    · refine sxo_isT (k := 132) rfl h1431 ?_
                      refine sxo_loadB (i := 0) rfl rfl tf24 rfl rfl (by simp) rfl rfl ?_
                      refine sxo_move rfl rfl rfl ?_
                      refine sxo_move rfl rfl rfl ?_
                      refine sxo_call ent20 rfl rfl rfl (fun x1435 e1435 => C_R_Near F x1 a2 c3 x1356 x1421 x1435 e1435) (.consF 1 rfl .nil) (fun x1435 e1435 => ?_)
                      intro _
                      refine sxo_pick (b := true) rfl rfl rfl rfl ?_
                      refine sxo_nil ?_
                      exact sxq_meetP (x1435, ()) (lk_cons rfl (lk_cons rfl (lk_cons rfl (lk_cons rfl (lk_cons rfl (lk_cons rfl (lk_cons rfl lk_nil))))))) (.cons 0 rfl .nil) (.cons 0 rfl .nil) (fk_cons 0 rfl (fk_cons 1 rfl fk_nil))
                    · refine sxo_isF (k := 132) rfl h1431 ?_
                      refine sxo_skip rfl rfl rfl ?_
                      refine sxo_skip rfl rfl rfl ?_
                      refine sxo_skip rfl rfl rfl ?_
                      refine sxo_skip rfl rfl rfl ?_
                      refine sxo_pick (b := false) rfl rfl rfl rfl ?_
                      refine sxo_nil ?_
                      exact sxq_meetP (false, ()) (lk_cons rfl (lk_cons rfl (lk_cons rfl (lk_cons rfl (lk_cons rfl (lk_cons rfl (lk_cons rfl lk_nil))))))) (.cons 0 rfl .nil) (.cons 0 rfl .nil) (fk_cons 0 rfl (fk_cons 1 rfl fk_nil))
                  · rintro ⟨x1433, _⟩
                    try dsimp only
                    refine sxo_take (os := _) rfl ?_
                    refine sxo_nil ?_
                    refine sxq_next ?_
                    refine sxc_if rfl (fun h1434 => ?_) (fun h1434 => ?_)
                    · refine sxc_region ?_
                      refine sxo_move rfl rfl rfl ?_
                      refine sxo_add rfl rfl rfl rfl ?_
                      refine sxo_assign rfl rfl rfl ?_
                      refine sxo_nil ?_
                      refine sxq_blkN ?_
                      exact sxq_meetP (iadd .i64 x1355 1, ()) (lk_cons rfl (lk_cons rfl (lk_cons rfl (lk_cons rfl (lk_cons rfl (lk_cons rfl lk_nil)))))) (.cons 0 rfl .nil) (.cons 0 rfl .nil) (fk_cons 0 rfl (fk_cons 1 rfl fk_nil))
                    · refine sxc_skip ?_
                      refine sxq_blkN ?_
                      exact sxq_meetP (x1355, ()) (lk_cons rfl (lk_cons rfl (lk_cons rfl (lk_cons rfl (lk_cons rfl (lk_cons rfl lk_nil)))))) (.cons 0 rfl .nil) (.cons 0 rfl .nil) (fk_cons 0 rfl (fk_cons 1 rfl fk_nil))
              · rintro ⟨x1420, _⟩
                try dsimp only
                refine sxc_region ?_
                refine sxo_move rfl rfl rfl ?_
                refine sxo_add rfl rfl rfl rfl ?_
                refine sxo_assign rfl rfl rfl ?_
                refine sxo_nil ?_
                exact sxq_againP ((x1420, iadd .i64 x1356 1), ()) (lk_cons rfl (lk_cons rfl (lk_cons rfl (lk_cons rfl (lk_cons rfl (lk_cons rfl lk_nil)))))) (.cons 0 rfl .nil) (.cons 0 rfl .nil) (fk_cons 0 rfl (fk_cons 1 rfl fk_nil))
            · refine sxc_exit ?_
              refine sxq_thenX ?_
              refine sxq_thenX ?_
              refine sxq_blkX ?_
              exact sxq_meetP (x1355, ()) (lk_cons rfl (lk_cons rfl lk_nil)) .nil .nil fk_nil
          · rintro ⟨x1313, _⟩
            try dsimp only
            refine sxc_seq ?_
            refine sxc_region ?_
            refine sxo_move rfl rfl rfl ?_
            refine sxo_move rfl rfl rfl ?_
            refine sxo_leq rfl rfl rfl rfl ?_
            refine sxo_assign rfl rfl rfl ?_
            refine sxo_nil ?_
            refine sxq_next ?_
            refine sxc_ret ?_
            exact sxq_doneP () (.inl rfl) (res1 rfl rfl) (fun h => by subst h; rfl) (fun h => by subst h; exact .nil)

set_option maxHeartbeats 4000000 in
theorem C_L_CoreDegree (F : Nat) (x1 : List (List Int)) (a2 : Option Addr) (c3 : (Nat × List (Option Addr × Nat))) (r : Bool) (hm : M_L_CoreDegree F x1 = some r) :
    Pure Try.prog 7 [.agg #[.slice a2 x1.length c3.1]] [SlN eN25 iN25 1 (.slice a2 x1.length c3.1) x1 c3.2] Unit (fun _ => .bool r) (fun _ => []) (fun _ => []) := by
  refine pure_of Try.func7 rfl Try.ntmps7 rfl hm (fun w => ?_)
  refine sxc_env (l' := [(0, .agg #[.slice a2 x1.length c3.1])]) rfl ?_
  refine sxc_seq ?_
  refine sxc_region ?_
  refine sxo_box rfl rfl rfl (fun g4 => ?_)
  refine sxo_assign rfl rfl rfl ?_
  refine sxo_nil ?_
  refine sxq_next ?_
  refine sxc_seq ?_
  refine sxc_region ?_
  refine sxo_loadB (i := 0) rfl rfl tf24 rfl rfl (by simp) rfl rfl ?_
  refine sxo_call ent10 rfl rfl rfl (fun x5 e5 => C_core_Numbers F x1 a2 c3 x5 e5) (.consF 0 rfl .nil) (fun x5 e5 => ?_)
  rintro ⟨a6, c7⟩
  refine sxo_move rfl rfl rfl ?_
  refine sxo_extract rfl rfl rfl rfl ?_
  refine sxo_extract rfl rfl rfl rfl ?_
  refine sxo_assign rfl rfl rfl ?_
  refine sxo_assign rfl rfl rfl ?_
  refine sxo_nil ?_
  refine sxq_next ?_
  refine sxc_seq ?_
  refine sxc_seq ?_
  refine sxc_region ?_
  refine sxo_call ent17 rfl rfl rfl (fun x10 e10 => C_L_coreBegun F  x10 e10) .nil (fun x10 e10 => ?_)
  intro _
  refine sxo_not rfl rfl rfl ?_
  refine sxo_nil ?_
  refine sxq_next ?_
  refine sxc_if rfl (fun h963 => ?_) (fun h963 => ?_)
  · refine sxc_seq ?_
    refine sxc_region ?_
    refine sxo_assign rfl rfl rfl ?_
    refine sxo_nil ?_
    refine sxq_next ?_
    refine sxc_ret ?_
    refine sxq_thenR ?_
    exact sxq_doneP () (.inl rfl) (res1 rfl rfl) (fun h => by subst h; rfl) (fun h => by subst h; exact .nil)
  · refine sxc_skip ?_
    refine sxq_next ?_
    refine sxc_seq ?_
    refine sxc_seq ?_
    refine sxc_region ?_
    refine sxo_move rfl rfl rfl ?_
    refine sxo_neq rfl rfl rfl rfl ?_
    refine sxo_move rfl rfl rfl ?_
    refine sxo_case 4 ((x5.2 : Int) != 0) [(1, .pointer (some ⟨g4, 0, none⟩)), (3, .slice a6 x5.1.length c7), (4, .int .i64 x5.2), (23, .bool (((x5.2 : Int) != 0) || (((x5.1.length : Int) : Int) == 0)))] (fun h14 => ?_) (fun h14 => ?_) ?_
    · refine sxo_take (os := _) rfl ?_
      refine sxo_isT (k := 19) rfl h14 ?_
      refine sxo_skip rfl rfl rfl ?_
      refine sxo_skip rfl rfl rfl ?_
      refine sxo_skip rfl rfl rfl ?_
      refine sxo_pick (b := true) rfl rfl rfl rfl ?_
      refine sxo_again (d := 23) (v := .bool (((x5.2 : Int) != 0) || (((x5.1.length : Int) : Int) == 0))) rfl (by rw [h14]; simp only [Bool.true_or]) ?_
      refine sxo_nil ?_
      exact sxq_case (lk_cons rfl (lk_cons rfl (lk_cons rfl (lk_cons rfl lk_nil))))
    · refine sxo_take (os := _) rfl ?_
      refine sxo_isF (k := 19) rfl h14 ?_
      refine sxo_move rfl rfl rfl ?_
      refine sxo_len rfl Try.underlying25 rfl rfl ?_
      refine sxo_eql rfl rfl rfl rfl ?_
      refine sxo_pick (b := false) rfl rfl rfl rfl ?_
      refine sxo_again (d := 23) (v := .bool (((x5.2 : Int) != 0) || (((x5.1.length : Int) : Int) == 0))) rfl (by rw [h14]; simp only [Bool.false_or]) ?_
      refine sxo_nil ?_
      exact sxq_case (lk_cons rfl (lk_cons rfl (lk_cons rfl (lk_cons rfl lk_nil))))
    refine sxo_take (os := _) rfl ?_
    refine sxo_nil ?_
    refine sxq_next ?_
    refine sxc_if rfl (fun h962 => ?_) (fun h962 => ?_)
    · refine sxc_seq ?_
      refine sxc_region ?_
      refine sxo_move rfl rfl rfl ?_
      refine sxo_eql rfl rfl rfl rfl ?_
      refine sxo_move rfl rfl rfl ?_
      refine sxo_case 4 ((x5.2 : Int) == 0) [(30, .bool (((x5.2 : Int) == 0) || (((x5.1.length : Int) : Int) == 0)))] (fun h15 => ?_) (fun h15 => ?_) ?_
      · refine sxo_take (os := _) rfl ?_
        refine sxo_isT (k := 26) rfl h15 ?_
        refine sxo_skip rfl rfl rfl ?_
        refine sxo_skip rfl rfl rfl ?_
        refine sxo_skip rfl rfl rfl ?_
        refine sxo_pick (b := true) rfl rfl rfl rfl ?_
        refine sxo_again (d := 30) (v := .bool (((x5.2 : Int) == 0) || (((x5.1.length : Int) : Int) == 0))) rfl (by rw [h15]; simp only [Bool.true_or]) ?_
        refine sxo_nil ?_
        exact sxq_case (lk_cons rfl lk_nil)
      · refine sxo_take (os := _) rfl ?_
        refine sxo_isF (k := 26) rfl h15 ?_
        refine sxo_move rfl rfl rfl ?_
        refine sxo_len rfl Try.underlying25 rfl rfl ?_
        refine sxo_eql rfl rfl rfl rfl ?_
        refine sxo_pick (b := false) rfl rfl rfl rfl ?_
        refine sxo_again (d := 30) (v := .bool (((x5.2 : Int) == 0) || (((x5.1.length : Int) : Int) == 0))) rfl (by rw [h15]; simp only [Bool.false_or]) ?_
        refine sxo_nil ?_
        exact sxq_case (lk_cons rfl lk_nil)
      refine sxo_take (os := _) rfl ?_
      refine sxo_assign rfl rfl rfl ?_
      refine sxo_nil ?_
      refine sxq_next ?_
      refine sxc_ret ?_
      refine sxq_thenR ?_
      exact sxq_doneP () (.inl rfl) (res1 rfl rfl) (fun h => by subst h; rfl) (fun h => by subst h; exact .nil)
    · refine sxc_skip ?_
      refine sxq_next ?_
      refine sxc_seq ?_
      refine sxc_region ?_
      refine sxo_move rfl rfl rfl ?_
      refine sxo_len rfl Try.underlying25 rfl rfl ?_
      refine sxo_assign rfl rfl rfl ?_
      refine sxo_assign rfl rfl rfl ?_
      refine sxo_nil ?_
      refine sxq_next ?_
      refine sxc_join (fun (((x488, x489), _) : ((Int × Int) × Unit)) => [(5, .int .i64 x488), (6, .int .i64 x489)]) (fun (((x488, x489), _) : ((Int × Int) × Unit)) => []) (fun (((x488, x489), _) : ((Int × Int) × Unit)) => []) (fun (((x488, x489), _) : ((Int × Int) × Unit)) => []) (fun (((x488, x489), _) : ((Int × Int) × Unit)) => M_L_CoreDegree_j71 F x488 x489) ?_ ?_
      · refine sxc_seq ?_
        refine sxc_region ?_
        refine sxo_assign rfl rfl rfl ?_
        refine sxo_nil ?_
        refine sxq_next ?_
        refine sxc_block ?_
        refine sxc_loopP (fun (((x646, x647, x648), _) : ((Int × Int × Int) × Unit)) => [(1, .pointer (some ⟨g4, 0, none⟩)), (3, .slice a6 x5.1.length c7), (5, .int .i64 x646), (6, .int .i64 x647), (7, .int .i64 x648)]) (fun (((x646, x647, x648), _) : ((Int × Int × Int) × Unit)) => [⟨g4, 24, [.slice a2 x1.length c3.1]⟩]) (fun (((x646, x647, x648), _) : ((Int × Int × Int) × Unit)) => [Ro (eI .i64) 3 1 (.slice a6 x5.1.length c7) x5.1]) (fun (((x646, x647, x648), _) : ((Int × Int × Int) × Unit)) => [SlN eN25 iN25 1 (.slice a2 x1.length c3.1) x1 c3.2]) (fun k (s : ((Int × Int × Int) × Unit)) => M_L_CoreDegree_l118 F x1 x5 k s.1) ((0, (x5.1.length : Int), 0), ()) F (lk_cons rfl (lk_cons rfl (lk_cons rfl (lk_cons rfl (lk_cons rfl lk_nil))))) (.cons 0 rfl .nil) (.cons 0 rfl .nil) (fk_cons 0 rfl fk_nil) (fun _ => rfl) ?_
        intro k805
        rintro ⟨⟨x646, x647, x648⟩, _⟩
        try dsimp only
        refine sxc_meq (m' := M_L_CoreDegree_b118 F x1 x5 (M_L_CoreDegree_l118 F x1 x5 k805) x646 x647 x648) rfl ?_
        refine sxc_seq ?_
        refine sxc_seq ?_
        refine sxc_region ?_
        refine sxo_move rfl rfl rfl ?_
        refine sxo_move rfl rfl rfl ?_
        refine sxo_len rfl Try.underlying25 rfl rfl ?_
        refine sxo_lss rfl rfl rfl rfl ?_
        refine sxo_nil ?_
        refine sxq_next ?_
        refine sxc_if rfl (fun h961 => ?_) (fun h961 => ?_)
        · refine sxc_skip ?_
          refine sxq_next ?_
          refine sxc_join (fun (((x883, x884), _) : ((Int × Int) × Unit)) => [(1, .pointer (some ⟨g4, 0, none⟩)), (3, .slice a6 x5.1.length c7), (5, .int .i64 x883), (6, .int .i64 x884), (7, .int .i64 x648)]) (fun (((x883, x884), _) : ((Int × Int) × Unit)) => [⟨g4, 24, [.slice a2 x1.length c3.1]⟩]) (fun (((x883, x884), _) : ((Int × Int) × Unit)) => [Ro (eI .i64) 3 1 (.slice a6 x5.1.length c7) x5.1]) (fun (((x883, x884), _) : ((Int × Int) × Unit)) => [SlN eN25 iN25 1 (.slice a2 x1.length c3.1) x1 c3.2]) (fun (((x883, x884), _) : ((Int × Int) × Unit)) => M_L_CoreDegree_j130 F (M_L_CoreDegree_l118 F x1 x5 k805) x648 x883 x884) ?_ ?_
          · refine sxc_block ?_
            refine sxc_seq ?_
            refine sxc_region ?_
            refine sxo_assign rfl rfl rfl ?_
            refine sxo_nil ?_
            refine sxq_next ?_
            refine sxc_join (fun ((x909, _) : (Int × Unit)) => [(1, .pointer (some ⟨g4, 0, none⟩)), (3, .slice a6 x5.1.length c7), (5, .int .i64 x646), (6, .int .i64 x647), (7, .int .i64 x648), (8, .int .i64 x909)]) (fun ((x909, _) : (Int × Unit)) => [⟨g4, 24, [.slice a2 x1.length c3.1]⟩]) (fun ((x909, _) : (Int × Unit)) => [Ro (eI .i64) 3 1 (.slice a6 x5.1.length c7) x5.1]) (fun ((x909, _) : (Int × Unit)) => [SlN eN25 iN25 1 (.slice a2 x1.length c3.1) x1 c3.2]) (fun ((x909, _) : (Int × Unit)) => M_L_CoreDegree_j135 F (M_L_CoreDegree_l118 F x1 x5 k805) x5 x646 x647 x648 x909) ?_ ?_
            · refine sxc_seq ?_
              refine sxc_region ?_
              refine sxo_assign rfl rfl rfl ?_
              refine sxo_nil ?_
              refine sxq_next ?_
              refine sxc_block ?_
              refine sxc_loopP (fun (((x944, x945), _) : ((Int × Int) × Unit)) => [(1, .pointer (some ⟨g4, 0, none⟩)), (3, .slice a6 x5.1.length c7), (5, .int .i64 x646), (6, .int .i64 x647), (7, .int .i64 x648), (8, .int .i64 x944), (9, .int .i64 x945)]) (fun (((x944, x945), _) : ((Int × Int) × Unit)) => [⟨g4, 24, [.slice a2 x1.length c3.1]⟩]) (fun (((x944, x945), _) : ((Int × Int) × Unit)) => [Ro (eI .i64) 3 1 (.slice a6 x5.1.length c7) x5.1]) (fun (((x944, x945), _) : ((Int × Int) × Unit)) => [SlN eN25 iN25 1 (.slice a2 x1.length c3.1) x1 c3.2]) (fun k (s : ((Int × Int) × Unit)) => M_L_CoreDegree_l140 F (M_L_CoreDegree_l118 F x1 x5 k805) x1 x5 x646 x647 x648 k s.1) ((0, 0), ()) F (lk_cons rfl (lk_cons rfl (lk_cons rfl (lk_cons rfl (lk_cons rfl (lk_cons rfl (lk_cons rfl lk_nil))))))) (.cons 0 rfl .nil) (.cons 0 rfl .nil) (fk_cons 0 rfl fk_nil) (fun _ => rfl) ?_
              intro k953
              rintro ⟨⟨x944, x945⟩, _⟩
              try dsimp only
              refine sxc_meq (m' := M_L_CoreDegree_b140 F (M_L_CoreDegree_l118 F x1 x5 k805) x1 x5 x646 x647 x648 (M_L_CoreDegree_l140 F (M_L_CoreDegree_l118 F x1 x5 k805) x1 x5 x646 x647 x648 k953) x944 x945) rfl ?_
              refine sxc_seq ?_
              refine sxc_seq ?_
              refine sxc_region ?_
              refine sxo_move rfl rfl rfl ?_
              refine sxo_move rfl rfl rfl ?_
              refine sxo_len rfl Try.underlying25 rfl rfl ?_
              refine sxo_lss rfl rfl rfl rfl ?_
              refine sxo_nil ?_
              refine sxq_next ?_
              refine sxc_if rfl (fun h960 => ?_) (fun h960 => ?_)
              · refine sxc_skip ?_
                refine sxq_next ?_
                refine sxc_join (fun ((x957, _) : (Int × Unit)) => [(1, .pointer (some ⟨g4, 0, none⟩)), (3, .slice a6 x5.1.length c7), (5, .int .i64 x646), (6, .int .i64 x647), (7, .int .i64 x648), (8, .int .i64 x957), (9, .int .i64 x945)]) (fun ((x957, _) : (Int × Unit)) => [⟨g4, 24, [.slice a2 x1.length c3.1]⟩]) (fun ((x957, _) : (Int × Unit)) => [Ro (eI .i64) 3 1 (.slice a6 x5.1.length c7) x5.1]) (fun ((x957, _) : (Int × Unit)) => [SlN eN25 iN25 1 (.slice a2 x1.length c3.1) x1 c3.2]) (fun ((x957, _) : (Int × Unit)) => M_L_CoreDegree_j141 F (M_L_CoreDegree_l140 F (M_L_CoreDegree_l118 F x1 x5 k805) x1 x5 x646 x647 x648 k953) x945 x957) ?_ ?_
                · refine sxc_block ?_
                  refine sxc_seq ?_
                  refine sxc_region ?_
                  refine sxo_loadB (i := 0) rfl rfl tf24 rfl rfl (by simp) rfl rfl ?_
                  refine sxo_move rfl rfl rfl ?_
                  refine sxo_move rfl rfl rfl ?_
                  refine sxo_call ent20 rfl rfl rfl (fun x958 e958 => C_R_Near F x1 a2 c3 x648 x945 x958 e958) (.consF 0 rfl .nil) (fun x958 e958 => ?_)
                  intro _
                  refine sxo_nil ?_
                  refine sxq_next ?_
                  refine sxc_if rfl (fun h959 => ?_) (fun h959 => ?_)
                  · refine sxc_region ?_
                    refine sxo_move rfl rfl rfl ?_
                    refine sxo_add rfl rfl rfl rfl ?_
                    refine sxo_assign rfl rfl rfl ?_
                    refine sxo_nil ?_
                    refine sxq_blkN ?_
                    exact sxq_meetP (iadd .i64 x944 1, ()) (lk_cons rfl (lk_cons rfl (lk_cons rfl (lk_cons rfl (lk_cons rfl (lk_cons rfl (lk_cons rfl lk_nil))))))) (.cons 0 rfl .nil) (.cons 0 rfl .nil) (fk_cons 0 rfl fk_nil)
                  · refine sxc_skip ?_
                    refine sxq_blkN ?_
                    exact sxq_meetP (x944, ()) (lk_cons rfl (lk_cons rfl (lk_cons rfl (lk_cons rfl (lk_cons rfl (lk_cons rfl (lk_cons rfl lk_nil))))))) (.cons 0 rfl .nil) (.cons 0 rfl .nil) (fk_cons 0 rfl fk_nil)
                · rintro ⟨x957, _⟩
                  try dsimp only
                  refine sxc_region ?_
                  refine sxo_move rfl rfl rfl ?_
                  refine sxo_add rfl rfl rfl rfl ?_
                  refine sxo_assign rfl rfl rfl ?_
                  refine sxo_nil ?_
                  exact sxq_againP ((x957, iadd .i64 x945 1), ()) (lk_cons rfl (lk_cons rfl (lk_cons rfl (lk_cons rfl (lk_cons rfl (lk_cons rfl (lk_cons rfl lk_nil))))))) (.cons 0 rfl .nil) (.cons 0 rfl .nil) (fk_cons 0 rfl fk_nil)
              · refine sxc_exit ?_
                refine sxq_thenX ?_
                refine sxq_thenX ?_
                refine sxq_blkX ?_
                exact sxq_meetP (x944, ()) (lk_cons rfl (lk_cons rfl (lk_cons rfl (lk_cons rfl (lk_cons rfl (lk_cons rfl lk_nil)))))) (.cons 0 rfl .nil) (.cons 0 rfl .nil) (fk_cons 0 rfl fk_nil)
            · rintro ⟨x909, _⟩
              try dsimp only
              refine sxc_seq ?_
              refine sxc_seq ?_
              refine sxc_region ?_
              refine sxo_move rfl rfl rfl ?_
              refine sxo_move rfl rfl rfl ?_
              refine sxo_indexR (j := 0) rfl Try.underlying25 tf3 rfl rfl rfl rfl (fun x922 e922 g923 h924 => ?_)
              refine sxo_loadR (j := 0) (y := x922) (eI_ok .i64) rfl rfl tf3 rfl h924 (idx_get e922).2.2 (fun _ => rfl) rfl rfl ?_
              refine sxo_lss rfl rfl rfl rfl ?_
              refine sxo_move rfl rfl rfl ?_
              refine sxo_join 7 (fun ((x929, _) : (Bool × Unit)) => [(1, .pointer (some ⟨g4, 0, none⟩)), (3, .slice a6 x5.1.length c7), (5, .int .i64 x646), (6, .int .i64 x647), (7, .int .i64 x648), (8, .int .i64 x909), (63, .bool x929)]) (fun ((x929, _) : (Bool × Unit)) => [⟨g4, 24, [.slice a2 x1.length c3.1]⟩]) (fun ((x929, _) : (Bool × Unit)) => [Ro (eI .i64) 3 1 (.slice a6 x5.1.length c7) x5.1]) (fun ((x929, _) : (Bool × Unit)) => [SlN eN25 iN25 1 (.slice a2 x1.length c3.1) x1 c3.2]) (fun ((x929, _) : (Bool × Unit)) => M_L_CoreDegree_j137 F (M_L_CoreDegree_l118 F x1 x5 k805) x5 x646 x647 x648 x909 x929) ?_ ?_
              · refine sxo_take (os := _) rfl ?_
                refine sxo_if (fun h925 => ?_) (fun h925 => ?_)
                · refine sxo_isT (k := 56) rfl h925 ?_
                  refine sxo_skip rfl rfl rfl ?_
                  refine sxo_skip rfl rfl rfl ?_
                  refine sxo_skip rfl rfl rfl ?_
                  refine sxo_skip rfl rfl rfl ?_
                  refine sxo_skip rfl rfl rfl ?_
                  refine sxo_skip rfl rfl rfl ?_
                  refine sxo_pick (b := true) rfl rfl rfl rfl ?_
                  refine sxo_nil ?_
                  exact sxq_meetP (true, ()) (lk_cons rfl (lk_cons rfl (lk_cons rfl (lk_cons rfl (lk_cons rfl (lk_cons rfl (lk_cons rfl lk_nil))))))) (.cons 0 rfl .nil) (.cons 0 rfl .nil) (fk_cons 0 rfl fk_nil)
                · refine sxo_isF (k := 56) rfl h925 ?_
                  refine sxo_move rfl rfl rfl ?_
                  refine sxo_move rfl rfl rfl ?_
                  refine sxo_indexR (j := 0) rfl Try.underlying25 tf3 rfl rfl rfl rfl (fun x934 e934 g935 h936 => ?_)
                  refine sxo_loadR (j := 0) (y := x934) (eI_ok .i64) rfl rfl tf3 rfl h936 (idx_get e934).2.2 (fun _ => rfl) rfl rfl ?_
                  refine sxo_move rfl rfl rfl ?_
                  refine sxo_gtr rfl rfl rfl rfl ?_
                  refine sxo_pick (b := false) rfl rfl rfl rfl ?_
                  refine sxo_nil ?_
                  exact sxq_meetP ((decide (x909 < x934)), ()) (lk_cons rfl (lk_cons rfl (lk_cons rfl (lk_cons rfl (lk_cons rfl (lk_cons rfl (lk_cons rfl lk_nil))))))) (.cons 0 rfl .nil) (.cons 0 rfl .nil) (fk_cons 0 rfl fk_nil)
              · rintro ⟨x929, _⟩
                try dsimp only
                refine sxo_take (os := _) rfl ?_
                refine sxo_nil ?_
                refine sxq_next ?_
                refine sxc_if rfl (fun h933 => ?_) (fun h933 => ?_)
                · refine sxc_seq ?_
                  refine sxc_region ?_
                  refine sxo_assign rfl rfl rfl ?_
                  refine sxo_nil ?_
                  refine sxq_next ?_
                  refine sxc_ret ?_
                  refine sxq_thenR ?_
                  refine sxq_blkR ?_
                  refine sxq_thenR ?_
                  refine sxq_thenR ?_
                  refine sxq_blkR ?_
                  refine sxq_thenR ?_
                  exact sxq_doneP () (.inl rfl) (res1 rfl rfl) (fun h => by subst h; rfl) (fun h => by subst h; exact .nil)
                · refine sxc_skip ?_
                  refine sxq_next ?_
                  refine sxc_region ?_
                  refine sxo_move rfl rfl rfl ?_
                  refine sxo_move rfl rfl rfl ?_
                  refine sxo_move rfl rfl rfl ?_
                  refine sxo_indexR (j := 0) rfl Try.underlying25 tf3 rfl rfl rfl rfl (fun x930 e930 g931 h932 => ?_)
                  refine sxo_loadR (j := 0) (y := x930) (eI_ok .i64) rfl rfl tf3 rfl h932 (idx_get e930).2.2 (fun _ => rfl) rfl rfl ?_
                  refine sxo_max rfl rfl rfl rfl ?_
                  refine sxo_move rfl rfl rfl ?_
                  refine sxo_move rfl rfl rfl ?_
                  refine sxo_min rfl rfl rfl rfl ?_
                  refine sxo_assign rfl rfl rfl ?_
                  refine sxo_assign rfl rfl rfl ?_
                  refine sxo_nil ?_
                  refine sxq_blkN ?_
                  exact sxq_meetP ((imax x646 x930, imin x647 x909), ()) (lk_cons rfl (lk_cons rfl (lk_cons rfl (lk_cons rfl (lk_cons rfl lk_nil))))) (.cons 0 rfl .nil) (.cons 0 rfl .nil) (fk_cons 0 rfl fk_nil)
          · rintro ⟨⟨x883, x884⟩, _⟩
            try dsimp only
            refine sxc_region ?_
            refine sxo_move rfl rfl rfl ?_
            refine sxo_add rfl rfl rfl rfl ?_
            refine sxo_assign rfl rfl rfl ?_
            refine sxo_nil ?_
            exact sxq_againP ((x883, x884, iadd .i64 x648 1), ()) (lk_cons rfl (lk_cons rfl (lk_cons rfl (lk_cons rfl (lk_cons rfl lk_nil))))) (.cons 0 rfl .nil) (.cons 0 rfl .nil) (fk_cons 0 rfl fk_nil)
        · refine sxc_exit ?_
          refine sxq_thenX ?_
          refine sxq_thenX ?_
          refine sxq_blkX ?_
          exact sxq_meetP ((x646, x647), ()) (lk_cons rfl (lk_cons rfl lk_nil)) .nil .nil fk_nil
      · rintro ⟨⟨x488, x489⟩, _⟩
        try dsimp only
        refine sxc_seq ?_
        refine sxc_region ?_
        refine sxo_move rfl rfl rfl ?_
        refine sxo_move rfl rfl rfl ?_
        refine sxo_leq rfl rfl rfl rfl ?_
        refine sxo_assign rfl rfl rfl ?_
        refine sxo_nil ?_
        refine sxq_next ?_
        refine sxc_ret ?_
        exact sxq_doneP () (.inl rfl) (res1 rfl rfl) (fun h => by subst h; rfl) (fun h => by subst h; exact .nil)
end Go.Proofs.Ytdiabhkbchmpaaa
