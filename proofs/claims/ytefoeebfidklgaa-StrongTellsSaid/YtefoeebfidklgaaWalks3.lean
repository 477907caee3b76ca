/- Each Go function of this seat computes what its model says, part 3. -/
import Derived.Test.YtefoeebfidklgaaWalks2
namespace Go.Proofs.Ytefoeebfidklgaa
open Go SX
theorem C_walk_far (F : Nat) (x1 : List (List Int)) (a2 : Option Addr) (c3 : (Nat × List (Option Addr × Nat))) (x4 : Int) (r : List Int) (hm : M_walk_far F x1 x4 = some r) :
    Pure Try.prog 52 [.agg #[.slice a2 x1.length c3.1], .int .i64 x4] [SlN eN25 iN25 1 (.slice a2 x1.length c3.1) x1 c3.2] (Option Addr × Nat) (fun g => .slice g.1 r.length g.2) (fun g => [Ro (eI .i64) 3 1 (.slice g.1 r.length g.2) r]) (fun _ => []) := by
  refine pure_of Try.func52 rfl Try.ntmps52 rfl hm (fun w => ?_)
  refine sxc_env (l' := [(0, .agg #[.slice a2 x1.length c3.1]), (1, .int .i64 x4)]) rfl ?_
  refine sxc_seq ?_
  refine sxc_region ?_
  refine sxo_box rfl rfl rfl (fun g5 => ?_)
  refine sxo_assign rfl rfl rfl ?_
  refine sxo_nil ?_
  refine sxq_next ?_
  refine sxc_seq ?_
  refine sxc_region ?_
  refine sxo_slit (vs := [.int .i64 (-1)]) (ys := ([-1] : List Int)) (eI_ok .i64) (by decide) rfl Try.underlying25 tf3 rfl rfl rfl rfl rfl (by decide) (fun a6 c7 => ?_)
  refine sxo_fieldAddr rfl rfl ff24_0 rfl ?_
  refine sxo_loadB (i := 0) rfl rfl tf22 rfl rfl (fun _ => rfl) rfl rfl ?_
  refine sxo_len rfl Try.underlying22 rfl rfl ?_
  refine sxo_call ent58 rfl rfl rfl (fun x8 e8 => C_slices_Repeat_int_int F ([-1] : List Int) a6 c7 (x1.length : Int) x8 e8) (.consR 0 (Ro (eI .i64) 3 1 (.slice a6 ([-1] : List Int).length c7) ([-1] : List Int)) rfl .nil) (fun x8 e8 => ?_)
  rintro ⟨a9, c10⟩
  refine sxo_assign rfl rfl rfl ?_
  refine sxo_nil ?_
  refine sxq_next ?_
  refine sxc_seq ?_
  refine sxc_region ?_
  refine sxo_move rfl rfl rfl ?_
  refine sxo_move rfl rfl rfl ?_
  refine sxo_indexR (j := 0) rfl Try.underlying25 tf3 rfl rfl rfl rfl (fun x11 e11 g12 h13 => ?_)
  refine sxo_storeL (j := 0) (y' := 0) (eI_ok .i64) rfl rfl rfl tf3 rfl h13 (idx_get e11).2.1 rfl (fun x14 e14 h15 => ?_)
  have h16 : x14.length = x8.length := by rw [← e14, List.length_set]
  refine sxo_again (d := 5) (v := .slice a9 x14.length c10) rfl h15 ?_
  refine sxo_again (d := 14) (v := .slice a9 x14.length c10) rfl h15 ?_
  refine sxo_again (d := 15) (v := .slice a9 x14.length c10) rfl h15 ?_
  refine sxo_nil ?_
  refine sxq_next ?_
  refine sxc_join (fun ((x1033, _) : (List Int × Unit)) => [(5, .slice a9 x1033.length c10)]) (fun ((x1033, _) : (List Int × Unit)) => []) (fun ((x1033, _) : (List Int × Unit)) => [Ro (eI .i64) 3 1 (.slice a9 x1033.length c10) x1033]) (fun ((x1033, _) : (List Int × Unit)) => []) (fun ((x1033, _) : (List Int × Unit)) => M_walk_far_j29 F x1033) ?_ ?_
  · refine sxc_seq ?_
    refine sxc_region ?_
    refine sxo_move rfl rfl rfl ?_
    refine sxo_slit (vs := [.int .i64 x4]) (ys := ([x4] : List Int)) (eI_ok .i64) (by decide) rfl Try.underlying25 tf3 rfl rfl rfl rfl rfl (by decide) (fun a1034 c1035 => ?_)
    refine sxo_assign rfl rfl rfl ?_
    refine sxo_nil ?_
    refine sxq_next ?_
    refine sxc_block ?_
    refine sxc_loopP (fun (((x1358, x1362), (a1359, c1360, g1361)) : ((List Int × List Int) × (Option Addr × Nat × List Int))) => [(2, .pointer (some ⟨g5, 0, none⟩)), (5, .slice a9 x1358.length c10), (6, (qv a1359 g1361.length x1362.length c1360 1))]) (fun (((x1358, x1362), (a1359, c1360, g1361)) : ((List Int × List Int) × (Option Addr × Nat × List Int))) => [⟨g5, 24, [.slice a2 x1.length c3.1]⟩]) (fun (((x1358, x1362), (a1359, c1360, g1361)) : ((List Int × List Int) × (Option Addr × Nat × List Int))) => [Ro (eI .i64) 3 1 (.slice a9 x1358.length c10) x1358, Ro (eI .i64) 3 1 (.slice a1359 (g1361 ++ x1362).length c1360) (g1361 ++ x1362)]) (fun (((x1358, x1362), (a1359, c1360, g1361)) : ((List Int × List Int) × (Option Addr × Nat × List Int))) => [SlN eN25 iN25 1 (.slice a2 x1.length c3.1) x1 c3.2]) (fun k (s : ((List Int × List Int) × (Option Addr × Nat × List Int))) => M_walk_far_l48 F x1 k s.1) ((x14, ([x4] : List Int)), (a1034, c1035, ([] : List Int))) F (lk_cons rfl (lk_cons rfl (lk_cons rfl lk_nil))) (.cons 0 rfl .nil) (.cons 1 rfl (.cons 0 rfl .nil)) (fk_cons 0 rfl fk_nil) (fun _ => rfl) ?_
    intro k1706
    rintro ⟨⟨x1358, x1362⟩, ⟨a1359, c1360, g1361⟩⟩
    try dsimp only
    refine sxc_meq (m' := M_walk_far_b48 F x1 (M_walk_far_l48 F x1 k1706) x1358 x1362) rfl ?_
    refine sxc_seq ?_
    refine sxc_seq ?_
    refine sxc_region ?_
    refine sxo_move rfl rfl rfl ?_
    refine sxo_lenQ rfl Try.underlying25 rfl rfl ?_
    refine sxo_gtr rfl rfl rfl rfl ?_
    refine sxo_nil ?_
    refine sxq_next ?_
    refine sxc_if rfl (fun h2049 => ?_) (fun h2049 => ?_)
    · refine sxc_skip ?_
      refine sxq_next ?_
      refine sxc_join (fun (((x1875, x1879), (a1876, c1877, g1878)) : ((List Int × List Int) × (Option Addr × Nat × List Int))) => [(2, .pointer (some ⟨g5, 0, none⟩)), (5, .slice a9 x1875.length c10), (6, (qv a1876 g1878.length x1879.length c1877 1))]) (fun (((x1875, x1879), (a1876, c1877, g1878)) : ((List Int × List Int) × (Option Addr × Nat × List Int))) => [⟨g5, 24, [.slice a2 x1.length c3.1]⟩]) (fun (((x1875, x1879), (a1876, c1877, g1878)) : ((List Int × List Int) × (Option Addr × Nat × List Int))) => [Ro (eI .i64) 3 1 (.slice a9 x1875.length c10) x1875, Ro (eI .i64) 3 1 (.slice a1876 (g1878 ++ x1879).length c1877) (g1878 ++ x1879)]) (fun (((x1875, x1879), (a1876, c1877, g1878)) : ((List Int × List Int) × (Option Addr × Nat × List Int))) => [SlN eN25 iN25 1 (.slice a2 x1.length c3.1) x1 c3.2]) (fun (((x1875, x1879), _) : ((List Int × List Int) × (Option Addr × Nat × List Int))) => M_walk_far_j53 F (M_walk_far_l48 F x1 k1706) x1875 x1879) ?_ ?_
      · refine sxc_block ?_
        refine sxc_seq ?_
        refine sxc_region ?_
        refine sxo_move rfl rfl rfl ?_
        refine sxo_indexQ (hs := g1361) (xs := x1362) (j := 1) rfl Try.underlying25 tf3 rfl rfl rfl rfl (fun x1882 e1882 g1883 h1884 => ?_)
        refine sxo_loadR (j := 1) (y := x1882) (eI_ok .i64) rfl rfl tf3 rfl h1884 (que_get e1882) (fun _ => rfl) rfl rfl ?_
        refine sxo_assign rfl rfl rfl ?_
        refine sxo_nil ?_
        refine sxq_next ?_
        refine sxc_seq ?_
        refine sxc_region ?_
        refine sxo_fieldAddr rfl rfl ff24_0 rfl ?_
        refine sxo_loadB (i := 0) rfl rfl tf22 rfl rfl (fun _ => rfl) rfl rfl ?_
        refine sxo_move rfl rfl rfl ?_
        refine sxo_indexN (j := 0) eN25_ok (by decide) rfl Try.underlying22 tf25 rfl rfl rfl rfl (fun x1885 e1885 g1888 b1886 o1887 => ?_)
        refine sxo_loadF (j := 0) rfl rfl tf25 rfl rfl (fun _ => rfl) rfl rfl ?_
        refine sxo_len rfl Try.underlying25 rfl rfl ?_
        refine sxo_move rfl rfl rfl ?_
        refine sxo_nil ?_
        refine sxq_next ?_
        refine sxc_block ?_
        refine sxc_loopP (fun (((x1940, x1944, x1945), (a1941, c1942, g1943)) : ((List Int × List Int × Int) × (Option Addr × Nat × List Int))) => [(2, .pointer (some ⟨g5, 0, none⟩)), (5, .slice a9 x1940.length c10), (6, (qv a1941 g1943.length x1944.length c1942 1)), (7, .int .i64 x1882), (32, .slice g1888.1 x1885.length g1888.2), (33, .int .i64 (x1885.length : Int)), (34, .int .i64 x1945)]) (fun (((x1940, x1944, x1945), (a1941, c1942, g1943)) : ((List Int × List Int × Int) × (Option Addr × Nat × List Int))) => [⟨g5, 24, [.slice a2 x1.length c3.1]⟩]) (fun (((x1940, x1944, x1945), (a1941, c1942, g1943)) : ((List Int × List Int × Int) × (Option Addr × Nat × List Int))) => [Ro (eI .i64) 3 1 (.slice a9 x1940.length c10) x1940, Ro (eI .i64) 3 1 (.slice a1941 (g1943 ++ x1944).length c1942) (g1943 ++ x1944)]) (fun (((x1940, x1944, x1945), (a1941, c1942, g1943)) : ((List Int × List Int × Int) × (Option Addr × Nat × List Int))) => [Sl (eI .i64) 1 (.slice g1888.1 x1885.length g1888.2) x1885, SlN eN25 iN25 1 (.slice a2 x1.length c3.1) x1 c3.2]) (fun k (s : ((List Int × List Int × Int) × (Option Addr × Nat × List Int))) => M_walk_far_l56 F (M_walk_far_l48 F x1 k1706) x1882 x1885 k s.1) ((x1358, x1362, 0), (a1359, c1360, g1361)) F (lk_cons rfl (lk_cons rfl (lk_cons rfl (lk_cons rfl (lk_cons rfl (lk_cons rfl (lk_cons rfl lk_nil))))))) (.cons 0 rfl .nil) (.cons 0 rfl (.cons 0 rfl .nil)) (fk_cons 1 rfl (fk_cons 2 rfl fk_nil)) (fun _ => rfl) ?_
        intro k1997
        rintro ⟨⟨x1940, x1944, x1945⟩, ⟨a1941, c1942, g1943⟩⟩
        try dsimp only
        refine sxc_meq (m' := M_walk_far_b56 F (M_walk_far_l48 F x1 k1706) x1882 x1885 (M_walk_far_l56 F (M_walk_far_l48 F x1 k1706) x1882 x1885 k1997) x1940 x1944 x1945) rfl ?_
        refine sxc_seq ?_
        refine sxc_region ?_
        refine sxo_lss rfl rfl rfl rfl ?_
        refine sxo_nil ?_
        refine sxq_next ?_
        refine sxc_seq ?_
        refine sxc_if rfl (fun h2048 => ?_) (fun h2048 => ?_)
        · refine sxc_skip ?_
          refine sxq_next ?_
          refine sxc_join (fun (((x2021, x2025), (a2022, c2023, g2024)) : ((List Int × List Int) × (Option Addr × Nat × List Int))) => [(2, .pointer (some ⟨g5, 0, none⟩)), (5, .slice a9 x2021.length c10), (6, (qv a2022 g2024.length x2025.length c2023 1)), (7, .int .i64 x1882), (32, .slice g1888.1 x1885.length g1888.2), (33, .int .i64 (x1885.length : Int)), (34, .int .i64 x1945)]) (fun (((x2021, x2025), (a2022, c2023, g2024)) : ((List Int × List Int) × (Option Addr × Nat × List Int))) => [⟨g5, 24, [.slice a2 x1.length c3.1]⟩]) (fun (((x2021, x2025), (a2022, c2023, g2024)) : ((List Int × List Int) × (Option Addr × Nat × List Int))) => [Ro (eI .i64) 3 1 (.slice a9 x2021.length c10) x2021, Ro (eI .i64) 3 1 (.slice a2022 (g2024 ++ x2025).length c2023) (g2024 ++ x2025)]) (fun (((x2021, x2025), (a2022, c2023, g2024)) : ((List Int × List Int) × (Option Addr × Nat × List Int))) => [Sl (eI .i64) 1 (.slice g1888.1 x1885.length g1888.2) x1885, SlN eN25 iN25 1 (.slice a2 x1.length c3.1) x1 c3.2]) (fun (((x2021, x2025), _) : ((List Int × List Int) × (Option Addr × Nat × List Int))) => M_walk_far_j57 F (M_walk_far_l56 F (M_walk_far_l48 F x1 k1706) x1882 x1885 k1997) x1945 x2021 x2025) ?_ ?_
          · refine sxc_block ?_
            refine sxc_seq ?_
            refine sxc_region ?_
            refine sxo_indexF (j := 0) (eI_ok .i64) (by decide) rfl Try.underlying25 tf3 rfl rfl rfl rfl (fun x2026 e2026 b2027 o2028 => ?_)
            refine sxo_loadF (j := 0) rfl rfl tf3 rfl rfl (fun _ => rfl) rfl rfl ?_
            refine sxo_assign rfl rfl rfl ?_
            refine sxo_nil ?_
            refine sxq_next ?_
            refine sxc_seq ?_
            refine sxc_region ?_
            refine sxo_move rfl rfl rfl ?_
            refine sxo_move rfl rfl rfl ?_
            refine sxo_indexR (j := 0) rfl Try.underlying25 tf3 rfl rfl rfl rfl (fun x2029 e2029 g2030 h2031 => ?_)
            refine sxo_loadR (j := 0) (y := x2029) (eI_ok .i64) rfl rfl tf3 rfl h2031 (idx_get e2029).2.2 (fun _ => rfl) rfl rfl ?_
            refine sxo_lss rfl rfl rfl rfl ?_
            refine sxo_nil ?_
            refine sxq_next ?_
            refine sxc_if rfl (fun h2047 => ?_) (fun h2047 => ?_)
            · refine sxc_seq ?_
              refine sxc_region ?_
              refine sxo_move rfl rfl rfl ?_
              refine sxo_move rfl rfl rfl ?_
              refine sxo_move rfl rfl rfl ?_
              refine sxo_move rfl rfl rfl ?_
              refine sxo_indexR (j := 0) rfl Try.underlying25 tf3 rfl rfl rfl rfl (fun x2032 e2032 g2033 h2034 => ?_)
              refine sxo_loadR (j := 0) (y := x2032) (eI_ok .i64) rfl rfl tf3 rfl h2034 (idx_get e2032).2.2 (fun _ => rfl) rfl rfl ?_
              refine sxo_add rfl rfl rfl rfl ?_
              refine sxo_indexR (j := 0) rfl Try.underlying25 tf3 rfl rfl rfl rfl (fun x2035 e2035 g2036 h2037 => ?_)
              refine sxo_storeL (j := 0) (y' := iadd .i64 x2032 1) (eI_ok .i64) rfl rfl rfl tf3 rfl h2037 (idx_get e2035).2.1 rfl (fun x2038 e2038 h2039 => ?_)
              have h2040 : x2038.length = x1940.length := by rw [← e2038, List.length_set]
              refine sxo_again (d := 5) (v := .slice a9 x2038.length c10) rfl h2039 ?_
              refine sxo_again (d := 38) (v := .slice a9 x2038.length c10) rfl h2039 ?_
              refine sxo_again (d := 43) (v := .slice a9 x2038.length c10) rfl h2039 ?_
              refine sxo_again (d := 45) (v := .slice a9 x2038.length c10) rfl h2039 ?_
              refine sxo_nil ?_
              refine sxq_next ?_
              refine sxc_region ?_
              refine sxo_move rfl rfl rfl ?_
              refine sxo_move rfl rfl rfl ?_
              refine sxo_slit (vs := [.int .i64 x2026]) (ys := ([x2026] : List Int)) (eI_ok .i64) (by decide) rfl Try.underlying25 tf3 rfl rfl rfl rfl rfl (by decide) (fun a2041 c2042 => ?_)
              refine sxo_appQ (hs := g1943) (xs := x1944) 2 (eI_ok .i64) rfl Try.underlying25 tf3 rfl rfl rfl rfl rfl (.inl ⟨0, _, rfl⟩) rfl rfl (fun x2043 e2043 a2044 c2045 g2046 => ?_)
              refine sxo_assign rfl rfl rfl ?_
              refine sxo_nil ?_
              refine sxq_blkN ?_
              exact sxq_meetP ((x2038, x2043), (a2044, c2045, g2046)) (lk_cons rfl (lk_cons rfl (lk_cons rfl (lk_cons rfl (lk_cons rfl (lk_cons rfl (lk_cons rfl lk_nil))))))) (.cons 0 rfl .nil) (.cons 2 rfl (.cons 0 rfl .nil)) (fk_cons 1 rfl (fk_cons 2 rfl fk_nil))
            · refine sxc_skip ?_
              refine sxq_blkN ?_
              exact sxq_meetP ((x1940, x1944), (a1941, c1942, g1943)) (lk_cons rfl (lk_cons rfl (lk_cons rfl (lk_cons rfl (lk_cons rfl (lk_cons rfl (lk_cons rfl lk_nil))))))) (.cons 0 rfl .nil) (.cons 0 rfl (.cons 0 rfl .nil)) (fk_cons 1 rfl (fk_cons 2 rfl fk_nil))
          · rintro ⟨⟨x2021, x2025⟩, ⟨a2022, c2023, g2024⟩⟩
            try dsimp only
            refine sxc_region ?_
            refine sxo_add rfl rfl rfl rfl ?_
            refine sxo_move rfl rfl rfl ?_
            refine sxo_nil ?_
            exact sxq_againP ((x2021, x2025, iadd .i64 x1945 1), (a2022, c2023, g2024)) (lk_cons rfl (lk_cons rfl (lk_cons rfl (lk_cons rfl (lk_cons rfl (lk_cons rfl (lk_cons rfl lk_nil))))))) (.cons 0 rfl .nil) (.cons 0 rfl (.cons 0 rfl .nil)) (fk_cons 0 rfl (fk_cons 1 rfl fk_nil))
        · refine sxc_exit ?_
          refine sxq_thenX ?_
          refine sxq_thenX ?_
          refine sxq_blkX ?_
          refine sxq_blkN ?_
          exact sxq_meetP ((x1940, x1944), (a1941, c1942, g1943)) (lk_cons rfl (lk_cons rfl (lk_cons rfl lk_nil))) (.cons 0 rfl .nil) (.cons 0 rfl (.cons 0 rfl .nil)) (fk_cons 1 rfl fk_nil)
      · rintro ⟨⟨x1875, x1879⟩, ⟨a1876, c1877, g1878⟩⟩
        try dsimp only
        refine sxc_region ?_
        refine sxo_move rfl rfl rfl ?_
        refine sxo_cutQ (hs := g1878) (xs := x1879) (j := 1) rfl Try.underlying25 tf3 rfl rfl rfl rfl (fun x1880 e1880 g1881 => ?_)
        refine sxo_assign rfl rfl rfl ?_
        refine sxo_nil ?_
        exact sxq_againP ((x1875, x1880), (a1876, c1877, g1881)) (lk_cons rfl (lk_cons rfl (lk_cons rfl lk_nil))) (.cons 0 rfl .nil) (.cons 1 rfl (.cons 0 rfl .nil)) (fk_cons 0 rfl fk_nil)
    · refine sxc_exit ?_
      refine sxq_thenX ?_
      refine sxq_thenX ?_
      refine sxq_blkX ?_
      exact sxq_meetP (x1358, ()) (lk_cons rfl lk_nil) .nil (.cons 0 rfl .nil) fk_nil
  · rintro ⟨x1033, _⟩
    try dsimp only
    refine sxc_seq ?_
    refine sxc_region ?_
    refine sxo_move rfl rfl rfl ?_
    refine sxo_assign rfl rfl rfl ?_
    refine sxo_nil ?_
    refine sxq_next ?_
    refine sxc_ret ?_
    exact sxq_doneP (a9, c10) (.inl rfl) (res1 rfl rfl) (fun h => by subst h; rfl) (fun h => by subst h; exact (.cons 0 rfl .nil))

theorem C_walk_Far (F : Nat) (x1 : List (List Int)) (a2 : Option Addr) (c3 : (Nat × List (Option Addr × Nat))) (x4 : Int) (r : (List Int × Int)) (hm : M_walk_Far F x1 x4 = some r) :
    Pure Try.prog 26 [.agg #[.slice a2 x1.length c3.1], .int .i64 x4] [SlN eN25 iN25 1 (.slice a2 x1.length c3.1) x1 c3.2] (Option Addr × Nat) (fun g => .tuple #[.slice g.1 r.1.length g.2, .int .i64 r.2]) (fun g => [Ro (eI .i64) 3 1 (.slice g.1 r.1.length g.2) r.1]) (fun _ => []) := by
  refine pure_of Try.func26 rfl Try.ntmps26 rfl hm (fun w => ?_)
  refine sxc_env (l' := [(0, .agg #[.slice a2 x1.length c3.1]), (1, .int .i64 x4)]) rfl ?_
  refine sxc_seq ?_
  refine sxc_region ?_
  refine sxo_box rfl rfl rfl (fun g5 => ?_)
  refine sxo_assign rfl rfl rfl ?_
  refine sxo_assign rfl rfl rfl ?_
  refine sxo_nil ?_
  refine sxq_next ?_
  refine sxc_seq ?_
  refine sxc_seq ?_
  refine sxc_region ?_
  refine sxo_loadB (i := 0) rfl rfl tf24 rfl rfl (by simp) rfl rfl ?_
  refine sxo_move rfl rfl rfl ?_
  refine sxo_slit (vs := [.int .i64 x4]) (ys := ([x4] : List Int)) (eI_ok .i64) (by decide) rfl Try.underlying25 tf3 rfl rfl rfl rfl rfl (by decide) (fun a10 c11 => ?_)
  refine sxo_call ent51 rfl rfl rfl (fun x12 e12 => C_walk_check F x1 a2 c3 ([x4] : List Int) a10 c11 x12 e12) (.consF 0 rfl (.consR 0 (Ro (eI .i64) 3 1 (.slice a10 ([x4] : List Int).length c11) ([x4] : List Int)) rfl .nil)) (fun x12 e12 => ?_)
  intro _
  refine sxo_assign rfl rfl rfl ?_
  refine sxo_nil ?_
  refine sxq_next ?_
  refine sxc_seq ?_
  refine sxc_region ?_
  refine sxo_move rfl rfl rfl ?_
  refine sxo_neq rfl rfl rfl rfl ?_
  refine sxo_nil ?_
  refine sxq_next ?_
  refine sxc_if rfl (fun h16 => ?_) (fun h16 => ?_)
  · refine sxc_seq ?_
    refine sxc_region ?_
    refine sxo_move rfl rfl rfl ?_
    refine sxo_assign rfl rfl rfl ?_
    refine sxo_assign rfl rfl rfl ?_
    refine sxo_nil ?_
    refine sxq_next ?_
    refine sxc_ret ?_
    refine sxq_thenR ?_
    refine sxq_nilrow Int (eI .i64) 3 1 ?_
    exact sxq_doneP (none, 0) (.inl rfl) (res2 rfl rfl rfl) (fun h => by subst h; rfl) (fun h => by subst h; exact (.cons 0 rfl .nil))
  · refine sxc_skip ?_
    refine sxq_next ?_
    refine sxc_seq ?_
    refine sxc_region ?_
    refine sxo_loadB (i := 0) rfl rfl tf24 rfl rfl (by simp) rfl rfl ?_
    refine sxo_move rfl rfl rfl ?_
    refine sxo_call ent52 rfl rfl rfl (fun x13 e13 => C_walk_far F x1 a2 c3 x4 x13 e13) (.consF 0 rfl .nil) (fun x13 e13 => ?_)
    rintro ⟨a14, c15⟩
    refine sxo_assign rfl rfl rfl ?_
    refine sxo_assign rfl rfl rfl ?_
    refine sxo_nil ?_
    refine sxq_next ?_
    refine sxc_ret ?_
    exact sxq_doneP (a14, c15) (.inl rfl) (res2 rfl rfl rfl) (fun h => by subst h; rfl) (fun h => by subst h; exact (.cons 0 rfl .nil))
end Go.Proofs.Ytefoeebfidklgaa
