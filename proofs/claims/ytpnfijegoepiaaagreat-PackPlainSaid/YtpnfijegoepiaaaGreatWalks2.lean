/- Each Go function of this seat computes what its model says, part 2. -/
import Derived.Test.YtpnfijegoepiaaaGreatWalks
namespace Go.Proofs.YtpnfijegoepiaaaGreat
open Go SX
set_option maxHeartbeats 4000000 in
theorem qdp (F : Nat) (g1 : Nat) (x2 : Int) (x3 : Int) (x4 : Int) (x5 : Int) (x6 : Int) (x7 : List Int) (a8 : Option Addr) (c9 : Nat) (x10 : List Int) (a11 : Option Addr) (c12 : Nat) (x13 : List Int) (a14 : Option Addr) (c15 : Nat) (x16 : List (List Int)) (a17 : Option Addr) (c18 : (Nat × List (Option Addr × Nat))) (r : (Bool × Int × Int × Int × Int × Int × List Int × List Int × List Int)) (hm : j6 F x2 x3 x4 x5 x6 x7 x10 x13 x16 = some r) :
    PureM Tryz.prog 55 [.pointer (some ⟨g1, 0, none⟩), .agg #[.slice a17 x16.length c18.1]] [⟨g1, 66, [.int .i64 x2, .int .i64 x3, .int .i64 x4, .int .i64 x5, .int .i64 x6, .slice a8 x7.length c9, .slice a11 x10.length c12, .slice a14 x13.length c15]⟩] [Ro (eI .u8) 5 1 (.slice a8 x7.length c9) x7, Ro (eI .i64) 3 1 (.slice a11 x10.length c12) x10, Ro (eI .i64) 3 1 (.slice a14 x13.length c15) x13] [SlN eN37 iN37 1 (.slice a17 x16.length c18.1) x16 c18.2] ((Option Addr × Nat) × (Option Addr × Nat) × (Option Addr × Nat)) (fun _ => .bool r.1) (fun g => [⟨g1, 66, [.int .i64 r.2.1, .int .i64 r.2.2.1, .int .i64 r.2.2.2.1, .int .i64 r.2.2.2.2.1, .int .i64 r.2.2.2.2.2.1, .slice g.1.1 r.2.2.2.2.2.2.1.length g.1.2, .slice g.2.1.1 r.2.2.2.2.2.2.2.1.length g.2.1.2, .slice g.2.2.1 r.2.2.2.2.2.2.2.2.length g.2.2.2]⟩]) (fun g => [Ro (eI .u8) 5 1 (.slice g.1.1 r.2.2.2.2.2.2.1.length g.1.2) r.2.2.2.2.2.2.1, Ro (eI .i64) 3 1 (.slice g.2.1.1 r.2.2.2.2.2.2.2.1.length g.2.1.2) r.2.2.2.2.2.2.2.1, Ro (eI .i64) 3 1 (.slice g.2.2.1 r.2.2.2.2.2.2.2.2.length g.2.2.2) r.2.2.2.2.2.2.2.2]) := by
 refine kP Tryz.func55 rfl Tryz.ntmps55 rfl hm (fun w => qH (l' := [(0, .pointer (some ⟨g1, 0, none⟩)), (1, .agg #[.slice a17 x16.length c18.1])]) rfl (qg (qa (qV rfl rfl rfl (fun g19 => qb rfl rfl rfl (qd (qc (qK (fun (((x710, x713, x716, x719), (a711, c712, a714, c715, a717, c718)) : ((Int × List Int × List Int × List Int) × (Option Addr × Nat × Option Addr × Nat × Option Addr × Nat))) => []) (fun (((x710, x713, x716, x719), (a711, c712, a714, c715, a717, c718)) : ((Int × List Int × List Int × List Int) × (Option Addr × Nat × Option Addr × Nat × Option Addr × Nat))) => [⟨g1, 66, [.int .i64 x2, .int .i64 x3, .int .i64 x4, .int .i64 x5, .int .i64 x710, .slice a711 x713.length c712, .slice a714 x716.length c715, .slice a717 x719.length c718]⟩]) (fun (((x710, x713, x716, x719), (a711, c712, a714, c715, a717, c718)) : ((Int × List Int × List Int × List Int) × (Option Addr × Nat × Option Addr × Nat × Option Addr × Nat))) => [Ro (eI .u8) 5 1 (.slice a711 x713.length c712) x713, Ro (eI .i64) 3 1 (.slice a714 x716.length c715) x716, Ro (eI .i64) 3 1 (.slice a717 x719.length c718) x719]) (fun (((x710, x713, x716, x719), (a711, c712, a714, c715, a717, c718)) : ((Int × List Int × List Int × List Int) × (Option Addr × Nat × Option Addr × Nat × Option Addr × Nat))) => []) (fun (((x710, x713, x716, x719), _) : ((Int × List Int × List Int × List Int) × (Option Addr × Nat × Option Addr × Nat × Option Addr × Nat))) => vD F x2 x3 x4 x5 x710 x713 x716 x719) ?_ ?_))))))))
 refine qg (qa (qi rfl rfl qdx rfl (ql (i := 0) rfl rfl tf22 rfl rfl (fun _ => rfl) rfl rfl (qX rfl Tryz.underlying22 rfl rfl (qe rfl rfl rfl (qd (qc (qB (q7 (fun (((x946, x947, x950, x953, x956), (a948, c949, a951, c952, a954, c955)) : ((Int × Int × List Int × List Int × List Int) × (Option Addr × Nat × Option Addr × Nat × Option Addr × Nat))) => [(0, .pointer (some ⟨g1, 0, none⟩)), (3, .pointer (some ⟨g19, 0, none⟩)), (10, .slice a17 x16.length c18.1), (11, .int .i64 (x16.length : Int)), (12, .int .i64 x946)]) (fun (((x946, x947, x950, x953, x956), (a948, c949, a951, c952, a954, c955)) : ((Int × Int × List Int × List Int × List Int) × (Option Addr × Nat × Option Addr × Nat × Option Addr × Nat))) => [⟨g19, 24, [.slice a17 x16.length c18.1]⟩, ⟨g1, 66, [.int .i64 x2, .int .i64 x3, .int .i64 x4, .int .i64 x5, .int .i64 x947, .slice a948 x950.length c949, .slice a951 x953.length c952, .slice a954 x956.length c955]⟩]) (fun (((x946, x947, x950, x953, x956), (a948, c949, a951, c952, a954, c955)) : ((Int × Int × List Int × List Int × List Int) × (Option Addr × Nat × Option Addr × Nat × Option Addr × Nat))) => [Ro (eI .u8) 5 1 (.slice a948 x950.length c949) x950, Ro (eI .i64) 3 1 (.slice a951 x953.length c952) x953, Ro (eI .i64) 3 1 (.slice a954 x956.length c955) x956]) (fun (((x946, x947, x950, x953, x956), (a948, c949, a951, c952, a954, c955)) : ((Int × Int × List Int × List Int × List Int) × (Option Addr × Nat × Option Addr × Nat × Option Addr × Nat))) => [SlN eN37 iN37 1 (.slice a17 x16.length c18.1) x16 c18.2]) (fun k (s : ((Int × Int × List Int × List Int × List Int) × (Option Addr × Nat × Option Addr × Nat × Option Addr × Nat))) => q6 F x2 x3 x4 x5 x16 k s.1) ((0, x6, x7, x10, x13), (a8, c9, a11, c12, a14, c15)) F ?_ (hB := (.cons 0 rfl (.cons 0 rfl .nil))) (hR := (.cons 0 rfl (.cons 0 rfl (.cons 0 rfl .nil)))) (hF := (qo 0 rfl qA)))))))))))
 intro k1183
 rintro ⟨⟨x946, x947, x950, x953, x956⟩, ⟨a948, c949, a951, c952, a954, c955⟩⟩
 try dsimp only
 refine zB (m' := yv F x2 x3 x4 x5 x16 (q6 F x2 x3 x4 x5 x16 k1183) x946 x947 x950 x953 x956) rfl (qg (qa (qZ rfl rfl rfl rfl (qd (qc (qg (qz rfl (fun h1409 => ?_) (fun h1409 => ?_))))))))
 refine qr (qc (qg (qB (qg (qa (qe rfl rfl rfl (qbK (j := 0) yP (by decide) rfl Tryz.underlying22 tf37 rfl rfl rfl rfl (fun x1297 e1297 g1300 b1298 o1299 => zU (j := 0) rfl rfl tf37 rfl rfl (fun _ => rfl) rfl rfl (qb rfl rfl rfl (qb rfl rfl rfl (qd (qc ?_))))))))))))
 refine qK (fun (((x1316, x1317, x1318, x1321), (g1315, a1319, c1320)) : ((Bool × Int × Int × List Int) × (Nat × Option Addr × Nat))) => [(0, .pointer (some ⟨g1, 0, none⟩)), (3, .pointer (some ⟨g19, 0, none⟩)), (7, .pointer (some ⟨g1315, 0, none⟩)), (8, .bool x1316), (10, .slice a17 x16.length c18.1), (11, .int .i64 (x16.length : Int)), (12, .int .i64 x946)]) (fun (((x1316, x1317, x1318, x1321), (g1315, a1319, c1320)) : ((Bool × Int × Int × List Int) × (Nat × Option Addr × Nat))) => [⟨g19, 24, [.slice a17 x16.length c18.1]⟩, ⟨g1, 66, [.int .i64 x2, .int .i64 x3, .int .i64 x4, .int .i64 x5, .int .i64 x947, .slice a948 x950.length c949, .slice a951 x953.length c952, .slice a954 x956.length c955]⟩, ⟨g1315, 131, [.int .i64 x1317, .int .i64 x1318, .slice a1319 x1321.length c1320]⟩]) (fun (((x1316, x1317, x1318, x1321), (g1315, a1319, c1320)) : ((Bool × Int × Int × List Int) × (Nat × Option Addr × Nat))) => [Ro (eI .u8) 5 1 (.slice a948 x950.length c949) x950, Ro (eI .i64) 3 1 (.slice a951 x953.length c952) x953, Ro (eI .i64) 3 1 (.slice a954 x956.length c955) x956, Ro (eI .u8) 5 1 (.slice a1319 x1321.length c1320) x1321]) (fun (((x1316, x1317, x1318, x1321), (g1315, a1319, c1320)) : ((Bool × Int × Int × List Int) × (Nat × Option Addr × Nat))) => [SlN eN37 iN37 1 (.slice a17 x16.length c18.1) x16 c18.2]) (fun (((x1316, x1317, x1318, x1321), _) : ((Bool × Int × Int × List Int) × (Nat × Option Addr × Nat))) => yw F (q6 F x2 x3 x4 x5 x16 k1183) x2 x3 x4 x5 x946 x947 x950 x953 x956 x1316 x1317 x1318 x1321) ?_ ?_
 refine qkc 2 yP rfl (fun x1395 e1395 a1396 c1397 g1398 h1399 h1400 => zg mixed [] [⟨g19, 24, [.slice a17 x16.length c18.1]⟩, ⟨g1, 66, [.int .i64 x2, .int .i64 x3, .int .i64 x4, .int .i64 x5, .int .i64 x947, .slice a948 x950.length c949, .slice a951 x953.length c952, .slice a954 x956.length c955]⟩] [SlN eN37 iN37 1 (.slice a1396 x1395.length c1397) x1395 g1398, zC b1298 o1299 (eN37 (x1297, g1300)), Sl (eI .i64) 1 (.slice g1300.1 x1297.length g1300.2) x1297, SlN eN37 iN37 1 (.slice a17 x16.length c18.1) x16 c18.2] (.cons 0 rfl (.cons 0 rfl .nil)) (q8 0 rfl (q8 1 rfl (q8 2 rfl (q8 3 rfl qE)))) 17 rfl (qf 0 (.pointer (some ⟨g19, 0, none⟩)) rfl rfl rfl (qt rfl qdx) (qP 1 (.slice a17 x16.length c18.1) rfl rfl rfl (qQ (i := 0) rfl tf22 rfl rfl (fun _ => rfl) rfl) (qf 2 (.int .i64 x946) rfl rfl rfl (qj rfl) (qf 3 (.slice a1396 x1395.length c1397) rfl rfl rfl (qnx Tryz.underlying22 tf37 rfl rfl rfl e1395 h1400 h1399) (qf 4 (.slice g1300.1 x1297.length g1300.2) rfl rfl rfl (qj rfl) (qf 5 (.pointer (some ⟨g1, 0, none⟩)) rfl rfl rfl (qj rfl) (qf 6 (.pointer (some ⟨g1, 0, none⟩)) rfl rfl rfl (qj rfl) (qf 7 (.pointer (some ⟨g1, 0, none⟩)) rfl rfl rfl (qt rfl qed) (qf 8 (.pointer (some ⟨g1, 1, none⟩)) rfl rfl rfl (qt rfl qbF) (qP 9 (.agg #[.int .i64 x3, .int .i64 x4, .int .i64 x5]) rfl rfl rfl (qQ (i := 1) rfl tf26 rfl rfl (by simp) rfl) (qbq 10 14 rfl rfl (by kernel_rfl) rfl rfl ?_ ?_))))))))))))
 refine qx ent81 rfl rfl rfl (fun x1401 e1401 => qey F x1395 a1396 (c1397, g1398) x1297 g1300.1 g1300.2 x3 x4 x5 x1401 e1401) (.consF 0 rfl (.consF 2 rfl .nil)) (fun x1401 e1401 => ?_)
 rintro ⟨a1402, c1403⟩
 refine qd (qF (.cons 0 rfl (.cons 0 rfl .nil)) (q8 0 rfl (q8 1 rfl (q8 2 rfl (q8 3 rfl qE)))) (qf 11 (.tuple #[.agg #[.int .i64 x1401.1, .int .i64 x1401.2.1, .slice a1402 x1401.2.2.1.length c1403], .bool x1401.2.2.2]) rfl rfl rfl (qj rfl) (qf 12 (.agg #[.int .i64 x1401.1, .int .i64 x1401.2.1, .slice a1402 x1401.2.2.1.length c1403]) rfl rfl rfl (qj rfl) (qf 13 (.bool x1401.2.2.2) rfl rfl rfl (qj rfl) (qI 14 rfl (by kernel_rfl) rfl (qR rfl tf131 rfl (fun g1404 => qd (qF (.cons 1 rfl (.cons 1 rfl .nil)) (q8 0 rfl (q8 1 rfl (q8 2 rfl (q8 3 rfl qE)))) (qI 15 rfl (by kernel_rfl) rfl (qu (i := 0) rfl rfl rfl tf131 rfl rfl rfl rfl rfl (qd (qF (.cons 1 rfl (.cons 1 rfl .nil)) (q8 0 rfl (q8 1 rfl (q8 2 rfl (q8 3 rfl qE)))) ?_))))))))))))
 exact qf 16 (.bool x1401.2.2.2) rfl rfl rfl (qj rfl) (qO (by kernel_rfl) (zm (qm ((x1401.2.2.2, x1401.1, x1401.2.1, x1401.2.2.1), (g1404, a1402, c1403)) (hB := (.cons 1 rfl (.cons 1 rfl (.cons 0 rfl .nil)))) (hR := (.cons 1 rfl (.cons 1 rfl (.cons 1 rfl (.cons 0 rfl .nil))))) (hF := (qo 3 rfl qA))) (by intro c h; cases h)))
 refine qbs (m' := ((qbT F x1395 x1297 x3 x4 x5).bind fun x1406 => yw F (q6 F x2 x3 x4 x5 x16 k1183) x2 x3 x4 x5 x946 x947 x950 x953 x956 x1406.2.2.2 x1406.1 x1406.2.1 x1406.2.2.1)) (rfl) (qR rfl tf131 rfl (fun g1405 => qd (qF (.cons 1 rfl (.cons 1 rfl .nil)) (q8 0 rfl (q8 1 rfl (q8 2 rfl (q8 3 rfl qE)))) (qI 10 rfl (by kernel_rfl) rfl (qx ent81 rfl rfl rfl (fun x1406 e1406 => qey F x1395 a1396 (c1397, g1398) x1297 g1300.1 g1300.2 x3 x4 x5 x1406 e1406) (.consF 0 rfl (.consF 2 rfl .nil)) (fun x1406 e1406 => ?_))))))
 rintro ⟨a1407, c1408⟩
 exact qd (qF (.cons 1 rfl (.cons 1 rfl .nil)) (q8 0 rfl (q8 1 rfl (q8 2 rfl (q8 3 rfl qE)))) (qf 11 (.tuple #[.agg #[.int .i64 x1406.1, .int .i64 x1406.2.1, .slice a1407 x1406.2.2.1.length c1408], .bool x1406.2.2.2]) rfl rfl rfl (qj rfl) (qf 12 (.agg #[.int .i64 x1406.1, .int .i64 x1406.2.1, .slice a1407 x1406.2.2.1.length c1408]) rfl rfl rfl (qj rfl) (qf 13 (.bool x1406.2.2.2) rfl rfl rfl (qj rfl) (qI 15 rfl (by kernel_rfl) rfl (qu (i := 0) rfl rfl rfl tf131 rfl rfl rfl rfl rfl (qd (qF (.cons 1 rfl (.cons 1 rfl .nil)) (q8 0 rfl (q8 1 rfl (q8 2 rfl (q8 3 rfl qE)))) (qf 16 (.bool x1406.2.2.2) rfl rfl rfl (qj rfl) (qO (by kernel_rfl) (zm (qm ((x1406.2.2.2, x1406.1, x1406.2.1, x1406.2.2.1), (g1405, a1407, c1408)) (hB := (.cons 1 rfl (.cons 1 rfl (.cons 0 rfl .nil)))) (hR := (.cons 1 rfl (.cons 1 rfl (.cons 1 rfl (.cons 0 rfl .nil))))) (hF := (qo 3 rfl qA))) (by intro c h; cases h))))))))))))
 rintro ⟨⟨x1316, x1317, x1318, x1321⟩, ⟨g1315, a1319, c1320⟩⟩
 try dsimp only
 refine qg (qK (fun ((x1327, _) : (Bool × Unit)) => [(0, .pointer (some ⟨g1, 0, none⟩)), (3, .pointer (some ⟨g19, 0, none⟩)), (7, .pointer (some ⟨g1315, 0, none⟩)), (10, .slice a17 x16.length c18.1), (11, .int .i64 (x16.length : Int)), (12, .int .i64 x946), (45, .bool x1327)]) (fun ((x1327, _) : (Bool × Unit)) => [⟨g19, 24, [.slice a17 x16.length c18.1]⟩, ⟨g1, 66, [.int .i64 x2, .int .i64 x3, .int .i64 x4, .int .i64 x5, .int .i64 x947, .slice a948 x950.length c949, .slice a951 x953.length c952, .slice a954 x956.length c955]⟩, ⟨g1315, 131, [.int .i64 x1317, .int .i64 x1318, .slice a1319 x1321.length c1320]⟩]) (fun ((x1327, _) : (Bool × Unit)) => [Ro (eI .u8) 5 1 (.slice a948 x950.length c949) x950, Ro (eI .i64) 3 1 (.slice a951 x953.length c952) x953, Ro (eI .i64) 3 1 (.slice a954 x956.length c955) x956, Ro (eI .u8) 5 1 (.slice a1319 x1321.length c1320) x1321]) (fun ((x1327, _) : (Bool × Unit)) => [SlN eN37 iN37 1 (.slice a17 x16.length c18.1) x16 c18.2]) (fun ((x1327, _) : (Bool × Unit)) => kF F (q6 F x2 x3 x4 x5 x16 k1183) x2 x3 x4 x5 x946 x947 x950 x953 x956 x1317 x1318 x1321 x1327) ?_ ?_)
 refine qad (fun h1394 => ?_) (fun h1394 => ?_)
 refine zg mixed [] [⟨g19, 24, [.slice a17 x16.length c18.1]⟩, ⟨g1, 66, [.int .i64 x2, .int .i64 x3, .int .i64 x4, .int .i64 x5, .int .i64 x947, .slice a948 x950.length c949, .slice a951 x953.length c952, .slice a954 x956.length c955]⟩, ⟨g1315, 131, [.int .i64 x1317, .int .i64 x1318, .slice a1319 x1321.length c1320]⟩] [SlN eN37 iN37 1 (.slice a17 x16.length c18.1) x16 c18.2] (.cons 0 rfl (.cons 0 rfl (.cons 0 rfl .nil))) (q8 0 rfl qE) 15 rfl (qf 0 (.bool x1316) rfl rfl rfl (qj rfl) (qf 1 (.bool (!x1316)) rfl rfl rfl (qj rfl) (qf 2 (.bool (!x1316)) rfl rfl rfl (qj rfl) (qJ (d := 33) (v := .bool true) rfl (by rw [h1394] <;> rfl) (qh 3 rfl rfl rfl (qh 4 rfl rfl rfl (qh 5 rfl rfl rfl (qh 6 rfl rfl rfl (qh 7 rfl rfl rfl (qh 8 rfl rfl rfl (qh 9 rfl rfl rfl (qh 10 rfl rfl rfl ?_))))))))))))
 exact qh 11 rfl rfl rfl (qh 12 rfl rfl rfl (qh 13 rfl rfl rfl (qf 14 (.bool true) rfl rfl rfl (qj rfl) (qO (by kernel_rfl) (zm (qm (true, ()) (hB := (.cons 0 rfl (.cons 0 rfl (.cons 0 rfl .nil)))) (hR := (.cons 0 rfl (.cons 0 rfl (.cons 0 rfl (.cons 0 rfl .nil))))) (hF := (qo 0 rfl qA))) (by intro c h; cases h))))))
 refine zg mixed [] [⟨g19, 24, [.slice a17 x16.length c18.1]⟩, ⟨g1, 66, [.int .i64 x2, .int .i64 x3, .int .i64 x4, .int .i64 x5, .int .i64 x947, .slice a948 x950.length c949, .slice a951 x953.length c952, .slice a954 x956.length c955]⟩, ⟨g1315, 131, [.int .i64 x1317, .int .i64 x1318, .slice a1319 x1321.length c1320]⟩] [SlN eN37 iN37 1 (.slice a17 x16.length c18.1) x16 c18.2] (.cons 0 rfl (.cons 0 rfl (.cons 0 rfl .nil))) (q8 0 rfl qE) 15 rfl (qf 0 (.bool x1316) rfl rfl rfl (qj rfl) (qf 1 (.bool (!x1316)) rfl rfl rfl (qj rfl) (qf 2 (.bool (!x1316)) rfl rfl rfl (qj rfl) (qJ (d := 33) (v := .bool false) rfl (by rw [h1394] <;> rfl) (qf 3 (.pointer (some ⟨g1, 0, none⟩)) rfl rfl rfl (qj rfl) (qf 4 (.pointer (some ⟨g1, 0, none⟩)) rfl rfl rfl (qj rfl) (qf 5 (.pointer (some ⟨g1, 0, none⟩)) rfl rfl rfl (qt rfl qed) (qf 6 (.pointer (some ⟨g1, 4, none⟩)) rfl rfl rfl (qt rfl qas) (qf 7 (.pointer (some ⟨g1, 4, none⟩)) rfl rfl rfl (qt rfl ky) (qP 8 (.int .i64 x947) rfl rfl rfl (qQ (i := 1) rfl tf3 rfl rfl (fun _ => rfl) rfl) (qf 9 (.pointer (some ⟨g1315, 1, none⟩)) rfl rfl rfl (qt rfl qeL) (qf 10 (.pointer (some ⟨g1315, 1, none⟩)) rfl rfl rfl (qt rfl ky) ?_))))))))))))
 exact qP 11 (.int .i64 x1318) rfl rfl rfl (qQ (i := 2) rfl tf3 rfl rfl (fun _ => rfl) rfl) (qf 12 (.int .i64 (iadd .i64 x947 x1318)) rfl rfl rfl (qj rfl) (qf 13 (.bool (decide (8192 < (iadd .i64 x947 x1318)))) rfl rfl rfl (qj rfl) (qf 14 (.bool (decide (8192 < (iadd .i64 x947 x1318)))) rfl rfl rfl (qj rfl) (qO (by kernel_rfl) (zm (qm ((decide (8192 < (iadd .i64 x947 x1318))), ()) (hB := (.cons 0 rfl (.cons 0 rfl (.cons 0 rfl .nil)))) (hR := (.cons 0 rfl (.cons 0 rfl (.cons 0 rfl (.cons 0 rfl .nil))))) (hF := (qo 0 rfl qA))) (by intro c h; cases h))))))
 rintro ⟨x1327, _⟩
 try dsimp only
 refine qz rfl (fun h1393 => ?_) (fun h1393 => ?_)
 exact qg (qa (qb rfl rfl rfl (qd (qc (qs (qp (qM (qp (qp (qM (qp (zr ((a948, c949), (a951, c952), (a954, c955)) (res1 rfl rfl) (hB := fun h => by subst h; exact (.cons 1 rfl .nil)) (hR := fun h => by subst h; exact (.cons 0 rfl (.cons 0 rfl (.cons 0 rfl .nil))))))))))))))))
 refine qr (qc (qK (fun (((x1358, x1361), (a1356, c1357, a1359, c1360)) : ((List Int × List Int) × (Option Addr × Nat × Option Addr × Nat))) => [(0, .pointer (some ⟨g1, 0, none⟩)), (3, .pointer (some ⟨g19, 0, none⟩)), (7, .pointer (some ⟨g1315, 0, none⟩)), (10, .slice a17 x16.length c18.1), (11, .int .i64 (x16.length : Int)), (12, .int .i64 x946)]) (fun (((x1358, x1361), (a1356, c1357, a1359, c1360)) : ((List Int × List Int) × (Option Addr × Nat × Option Addr × Nat))) => [⟨g19, 24, [.slice a17 x16.length c18.1]⟩, ⟨g1, 66, [.int .i64 x2, .int .i64 x3, .int .i64 x4, .int .i64 x5, .int .i64 x947, .slice a948 x950.length c949, .slice a1356 x1358.length c1357, .slice a1359 x1361.length c1360]⟩, ⟨g1315, 131, [.int .i64 x1317, .int .i64 x1318, .slice a1319 x1321.length c1320]⟩]) (fun (((x1358, x1361), (a1356, c1357, a1359, c1360)) : ((List Int × List Int) × (Option Addr × Nat × Option Addr × Nat))) => [Ro (eI .u8) 5 1 (.slice a948 x950.length c949) x950, Ro (eI .i64) 3 1 (.slice a1356 x1358.length c1357) x1358, Ro (eI .i64) 3 1 (.slice a1359 x1361.length c1360) x1361, Ro (eI .u8) 5 1 (.slice a1319 x1321.length c1320) x1321]) (fun (((x1358, x1361), (a1356, c1357, a1359, c1360)) : ((List Int × List Int) × (Option Addr × Nat × Option Addr × Nat))) => [SlN eN37 iN37 1 (.slice a17 x16.length c18.1) x16 c18.2]) (fun (((x1358, x1361), _) : ((List Int × List Int) × (Option Addr × Nat × Option Addr × Nat))) => kG F (q6 F x2 x3 x4 x5 x16 k1183) x946 x947 x950 x1318 x1321 x1358 x1361) ?_ ?_))
 refine zg mixed [24, 27] [⟨g19, 24, [.slice a17 x16.length c18.1]⟩, ⟨g1315, 131, [.int .i64 x1317, .int .i64 x1318, .slice a1319 x1321.length c1320]⟩] [SlN eN37 iN37 1 (.slice a17 x16.length c18.1) x16 c18.2, (BlkD.is ⟨g1, 66, [.int .i64 x2, .int .i64 x3, .int .i64 x4, .int .i64 x5, .int .i64 x947, .slice a948 x950.length c949, .slice a951 x953.length c952, .slice a954 x956.length c955]⟩)] (.cons 0 rfl (.cons 1 rfl .nil)) (q8 0 rfl (qbG 1 rfl qE)) 28 rfl (qf 0 (.pointer (some ⟨g1, 0, none⟩)) rfl rfl rfl (qj rfl) (qf 1 (.pointer (some ⟨g1, 0, none⟩)) rfl rfl rfl (qj rfl) (qf 2 (.pointer (some ⟨g1, 0, none⟩)) rfl rfl rfl (qj rfl) (qf 3 (.pointer (some ⟨g1, 0, none⟩)) rfl rfl rfl (qj rfl) (qf 4 (.pointer (some ⟨g1, 6, none⟩)) rfl rfl rfl (qt rfl qe1) (ko 5 (.slice a951 x953.length c952) [[24], [27]] rfl rfl rfl (jE (j := 1) rfl tf37 rfl rfl (fun _ => rfl) rfl) (qf 6 (.pointer (some ⟨g1315, 0, none⟩)) rfl rfl rfl (qt rfl qlY) (qP 7 (.int .i64 x1317) rfl rfl rfl (qQ (i := 1) rfl tf3 rfl rfl (fun _ => rfl) rfl) (qf 10 (.pointer (some ⟨g1, 0, none⟩)) rfl rfl rfl (qj rfl) (qf 11 (.pointer (some ⟨g1, 0, none⟩)) rfl rfl rfl (qj rfl) (qf 12 (.pointer (some ⟨g1, 7, none⟩)) rfl rfl rfl (qt rfl qe2) (ko 13 (.slice a954 x956.length c955) [[24], [27]] rfl rfl rfl (jE (j := 1) rfl tf37 rfl rfl (fun _ => rfl) rfl) ?_))))))))))))
 refine qf 14 (.pointer (some ⟨g1, 0, none⟩)) rfl rfl rfl (qj rfl) (qf 15 (.pointer (some ⟨g1, 0, none⟩)) rfl rfl rfl (qj rfl) (qf 16 (.pointer (some ⟨g1, 0, none⟩)) rfl rfl rfl (qt rfl qed) (qf 17 (.pointer (some ⟨g1, 4, none⟩)) rfl rfl rfl (qt rfl qas) (qf 18 (.pointer (some ⟨g1, 4, none⟩)) rfl rfl rfl (qt rfl ky) (ko 19 (.int .i64 x947) [[24], [27]] rfl rfl rfl (jE (j := 1) rfl tf3 rfl rfl (fun _ => rfl) rfl) (qbq 8 20 rfl rfl (by kernel_rfl) rfl rfl ?_ ?_))))))
 refine zW (vs := [.int .i64 x1317]) (ys := ([x1317] : List Int)) (zb .i64) (by decide) rfl Tryz.underlying37 tf3 rfl rfl rfl rfl rfl (by decide) (fun a1365 c1366 => qd (qF (.cons 0 rfl (.cons 1 rfl .nil)) (q8 0 rfl (qbG 1 rfl qE)) (qbq 9 20 rfl rfl (by kernel_rfl) rfl rfl ?_ ?_)))
 refine yp 2 (zb .i64) rfl Tryz.underlying37 tf3 rfl rfl rfl rfl rfl (.inl ⟨0, _, rfl⟩) rfl rfl (fun x1367 e1367 a1368 c1369 => qd (qF (.cons 0 rfl (.cons 1 rfl .nil)) (q8 0 rfl (qbG 1 rfl qE)) (qI 20 rfl (by kernel_rfl) rfl (zW (vs := [.int .i64 x947]) (ys := ([x947] : List Int)) (zb .i64) (by decide) rfl Tryz.underlying37 tf3 rfl rfl rfl rfl rfl (by decide) (fun a1370 c1371 => qd (qF (.cons 0 rfl (.cons 1 rfl .nil)) (q8 0 rfl (qbG 1 rfl qE)) (qI 21 rfl (by kernel_rfl) rfl (yp 4 (zb .i64) rfl Tryz.underlying37 tf3 rfl rfl rfl rfl rfl (.inl ⟨0, _, rfl⟩) rfl rfl (fun x1372 e1372 a1373 c1374 => qd (qF (.cons 0 rfl (.cons 1 rfl .nil)) (q8 0 rfl (qbG 1 rfl qE)) (qf 22 (.pointer (some ⟨g1, 0, none⟩)) rfl rfl rfl (qj rfl) (qf 23 (.pointer (some ⟨g1, 6, none⟩)) rfl rfl rfl (qt rfl qe1) ?_))))))))))))
 exact qI 24 rfl (by kernel_rfl) rfl (qu (i := 1) rfl rfl rfl tf37 rfl rfl rfl rfl rfl (qd (vu 24 rfl (by kernel_rfl) (.cons 0 rfl (.cons 1 rfl .nil)) (qf 25 (.pointer (some ⟨g1, 0, none⟩)) rfl rfl rfl (qj rfl) (qf 26 (.pointer (some ⟨g1, 7, none⟩)) rfl rfl rfl (qt rfl qe2) (qI 27 rfl (by kernel_rfl) rfl (qu (i := 1) rfl rfl rfl tf37 rfl rfl rfl rfl rfl (qd (vu 24 rfl (by kernel_rfl) (.cons 0 rfl (.cons 1 rfl .nil)) (qO (by kernel_rfl) (zm (qm ((x1367, x1372), (a1368, c1369, a1373, c1374)) (hB := (.cons 0 rfl (.cons 0 rfl (.cons 0 rfl .nil)))) (hR := (.cons 4 rfl (.cons 2 rfl (.cons 0 rfl (.cons 2 rfl .nil))))) (hF := (qo 0 rfl qA))) (by intro c h; cases h))))))))))))
 refine qbs (m' := ((app 8796093022208 x953 ([x1317] : List Int)).bind fun x1377 => ((app 8796093022208 x956 ([x947] : List Int)).bind fun x1380 => kG F (q6 F x2 x3 x4 x5 x16 k1183) x946 x947 x950 x1318 x1321 x1377 x1380))) (rfl) (zW (vs := [.int .i64 x947]) (ys := ([x947] : List Int)) (zb .i64) (by decide) rfl Tryz.underlying37 tf3 rfl rfl rfl rfl rfl (by decide) (fun a1375 c1376 => qd (qF (.cons 0 rfl (.cons 1 rfl .nil)) (q8 0 rfl (qbG 1 rfl qE)) (qI 9 rfl (by kernel_rfl) rfl (yp 3 (zb .i64) rfl Tryz.underlying37 tf3 rfl rfl rfl rfl rfl (.inl ⟨1, _, rfl⟩) rfl rfl (fun x1377 e1377 a1378 c1379 => qd (qF (.cons 0 rfl (.cons 1 rfl .nil)) (q8 0 rfl (qbG 1 rfl qE)) (qI 21 rfl (by kernel_rfl) rfl (yp 4 (zb .i64) rfl Tryz.underlying37 tf3 rfl rfl rfl rfl rfl (.inl ⟨1, _, rfl⟩) rfl rfl (fun x1380 e1380 a1381 c1382 => qd (qF (.cons 0 rfl (.cons 1 rfl .nil)) (q8 0 rfl (qbG 1 rfl qE)) (qf 22 (.pointer (some ⟨g1, 0, none⟩)) rfl rfl rfl (qj rfl) ?_))))))))))))
 refine qf 23 (.pointer (some ⟨g1, 6, none⟩)) rfl rfl rfl (qt rfl qe1) (qI 24 rfl (by kernel_rfl) rfl (qu (i := 1) rfl rfl rfl tf37 rfl rfl rfl rfl rfl (qd (vu 24 rfl (by kernel_rfl) (.cons 0 rfl (.cons 1 rfl .nil)) (qf 25 (.pointer (some ⟨g1, 0, none⟩)) rfl rfl rfl (qj rfl) (qf 26 (.pointer (some ⟨g1, 7, none⟩)) rfl rfl rfl (qt rfl qe2) (qI 27 rfl (by kernel_rfl) rfl (qu (i := 1) rfl rfl rfl tf37 rfl rfl rfl rfl rfl (qd (vu 24 rfl (by kernel_rfl) (.cons 0 rfl (.cons 1 rfl .nil)) (qO (by kernel_rfl) (zm ?_ (by intro c h; cases h)))))))))))))
 exact qm ((x1377, x1380), (a1378, c1379, a1381, c1382)) (hB := (.cons 0 rfl (.cons 0 rfl (.cons 0 rfl .nil)))) (hR := (.cons 4 rfl (.cons 1 rfl (.cons 0 rfl (.cons 2 rfl .nil))))) (hF := (qo 0 rfl qA))
 refine qbs (m' := ((app 8796093022208 x953 ([x1317] : List Int)).bind fun x1387 => ((app 8796093022208 x956 ([x947] : List Int)).bind fun x1390 => kG F (q6 F x2 x3 x4 x5 x16 k1183) x946 x947 x950 x1318 x1321 x1387 x1390))) (rfl) (zW (vs := [.int .i64 x947]) (ys := ([x947] : List Int)) (zb .i64) (by decide) rfl Tryz.underlying37 tf3 rfl rfl rfl rfl rfl (by decide) (fun a1383 c1384 => qd (qF (.cons 0 rfl (.cons 1 rfl .nil)) (q8 0 rfl (qbG 1 rfl qE)) (qI 8 rfl (by kernel_rfl) rfl (zW (vs := [.int .i64 x1317]) (ys := ([x1317] : List Int)) (zb .i64) (by decide) rfl Tryz.underlying37 tf3 rfl rfl rfl rfl rfl (by decide) (fun a1385 c1386 => qd (qF (.cons 0 rfl (.cons 1 rfl .nil)) (q8 0 rfl (qbG 1 rfl qE)) (qI 9 rfl (by kernel_rfl) rfl (yp 3 (zb .i64) rfl Tryz.underlying37 tf3 rfl rfl rfl rfl rfl (.inl ⟨0, _, rfl⟩) rfl rfl (fun x1387 e1387 a1388 c1389 => qd (qF (.cons 0 rfl (.cons 1 rfl .nil)) (q8 0 rfl (qbG 1 rfl qE)) (qI 21 rfl (by kernel_rfl) rfl ?_))))))))))))
 refine yp 4 (zb .i64) rfl Tryz.underlying37 tf3 rfl rfl rfl rfl rfl (.inl ⟨2, _, rfl⟩) rfl rfl (fun x1390 e1390 a1391 c1392 => qd (qF (.cons 0 rfl (.cons 1 rfl .nil)) (q8 0 rfl (qbG 1 rfl qE)) (qf 22 (.pointer (some ⟨g1, 0, none⟩)) rfl rfl rfl (qj rfl) (qf 23 (.pointer (some ⟨g1, 6, none⟩)) rfl rfl rfl (qt rfl qe1) (qI 24 rfl (by kernel_rfl) rfl (qu (i := 1) rfl rfl rfl tf37 rfl rfl rfl rfl rfl (qd (vu 24 rfl (by kernel_rfl) (.cons 0 rfl (.cons 1 rfl .nil)) (qf 25 (.pointer (some ⟨g1, 0, none⟩)) rfl rfl rfl (qj rfl) (qf 26 (.pointer (some ⟨g1, 7, none⟩)) rfl rfl rfl (qt rfl qe2) (qI 27 rfl (by kernel_rfl) rfl (qu (i := 1) rfl rfl rfl tf37 rfl rfl rfl rfl rfl ?_))))))))))))
 exact qd (vu 24 rfl (by kernel_rfl) (.cons 0 rfl (.cons 1 rfl .nil)) (qO (by kernel_rfl) (zm (qm ((x1387, x1390), (a1388, c1389, a1391, c1392)) (hB := (.cons 0 rfl (.cons 0 rfl (.cons 0 rfl .nil)))) (hR := (.cons 4 rfl (.cons 1 rfl (.cons 0 rfl (.cons 2 rfl .nil))))) (hF := (qo 0 rfl qA))) (by intro c h; cases h))))
 rintro ⟨⟨x1358, x1361⟩, ⟨a1356, c1357, a1359, c1360⟩⟩
 try dsimp only
 refine zg mixed [12] [⟨g19, 24, [.slice a17 x16.length c18.1]⟩, ⟨g1315, 131, [.int .i64 x1317, .int .i64 x1318, .slice a1319 x1321.length c1320]⟩] [SlN eN37 iN37 1 (.slice a17 x16.length c18.1) x16 c18.2, (BlkD.is ⟨g1, 66, [.int .i64 x2, .int .i64 x3, .int .i64 x4, .int .i64 x5, .int .i64 x947, .slice a948 x950.length c949, .slice a1356 x1358.length c1357, .slice a1359 x1361.length c1360]⟩)] (.cons 0 rfl (.cons 1 rfl .nil)) (q8 0 rfl (qbG 1 rfl qE)) 13 rfl (qf 0 (.pointer (some ⟨g1, 0, none⟩)) rfl rfl rfl (qj rfl) (qf 1 (.pointer (some ⟨g1, 0, none⟩)) rfl rfl rfl (qj rfl) (qf 2 (.pointer (some ⟨g1, 0, none⟩)) rfl rfl rfl (qj rfl) (qf 3 (.pointer (some ⟨g1, 0, none⟩)) rfl rfl rfl (qt rfl qed) (qf 4 (.pointer (some ⟨g1, 4, none⟩)) rfl rfl rfl (qt rfl qas) (ko 5 (.agg #[.int .i64 x947, .slice a948 x950.length c949]) [[12]] rfl rfl rfl (jE (j := 1) rfl tf29 rfl rfl (by simp) rfl) (qf 6 (.pointer (some ⟨g1315, 1, none⟩)) rfl rfl rfl (qt rfl qeL) (qP 7 (.agg #[.int .i64 x1318, .slice a1319 x1321.length c1320]) rfl rfl rfl (qQ (i := 1) rfl tf29 rfl rfl (by simp) rfl) (qI 8 rfl (by kernel_rfl) rfl (qY ent53 rfl rfl rfl (fun x1362 e1362 => qbM F x947 x950 a948 c949 x1318 x1321 a1319 c1320 x1362 e1362) .nil .nil (.consR 0 (Ro (eI .u8) 5 1 (.slice a948 x950.length c949) x950) rfl (.consR 3 (Ro (eI .u8) 5 1 (.slice a1319 x1321.length c1320) x1321) rfl .nil)) (fun x1362 e1362 => ?_)))))))))))
 rintro ⟨a1363, c1364⟩
 refine qd (qF (.cons 0 rfl (.cons 1 rfl .nil)) (q8 0 rfl (qbG 1 rfl qE)) (qf 9 (.pointer (some ⟨g1, 0, none⟩)) rfl rfl rfl (qj rfl) (qf 10 (.pointer (some ⟨g1, 0, none⟩)) rfl rfl rfl (qt rfl qed) (qf 11 (.pointer (some ⟨g1, 4, none⟩)) rfl rfl rfl (qt rfl qas) (qI 12 rfl (by kernel_rfl) rfl (qu (i := 1) rfl rfl rfl tf29 rfl rfl rfl rfl rfl (qd (vu 12 rfl (by kernel_rfl) (.cons 0 rfl (.cons 1 rfl .nil)) (qO (by kernel_rfl) (zm (qU (qc ?_)) (by intro c h; cases h)))))))))))
 exact qa (qL rfl rfl rfl rfl (qe rfl rfl rfl (qd (qW ((iadd .i64 x946 1, x1362.1, x1362.2, x1358, x1361), (a1363, c1364, a1356, c1357, a1359, c1360)) (hB := (.cons 0 rfl (.cons 0 rfl .nil))) (hR := (.cons 0 rfl (.cons 1 rfl (.cons 1 rfl .nil)))) (hF := (qo 0 rfl qA))))))
 exact zj (qD (qD (zk (qm ((x947, x950, x953, x956), (a948, c949, a951, c952, a954, c955)) (hB := (.cons 1 rfl .nil)) (hR := (.cons 0 rfl (.cons 0 rfl (.cons 0 rfl .nil))))))))
 rintro ⟨⟨x710, x713, x716, x719⟩, ⟨a711, c712, a714, c715, a717, c718⟩⟩
 try dsimp only
 exact qg (qa (qb rfl rfl rfl (qd (qc (qs (zr ((a711, c712), (a714, c715), (a717, c718)) (res1 rfl rfl) (hB := fun h => by subst h; exact (.cons 0 rfl .nil)) (hR := fun h => by subst h; exact (.cons 0 rfl (.cons 0 rfl (.cons 0 rfl .nil))))))))))
theorem qdb (F : Nat) (x1 : List (List Int)) (a2 : Option Addr) (c3 : (Nat × List (Option Addr × Nat))) (x4 : Int) (x5 : Int) (x6 : Int) (r : (Int × Int × Int × Int × Int × List Int × List Int × List Int × Int)) (hm : jM F x1 x4 x5 x6 = some r) :
    PureM Tryz.prog 28 [.agg #[.slice a2 x1.length c3.1], .agg #[.int .i64 x4, .int .i64 x5, .int .i64 x6]] [] [] [SlN eN37 iN37 1 (.slice a2 x1.length c3.1) x1 c3.2] ((Option Addr × Nat) × (Option Addr × Nat) × (Option Addr × Nat) × Nat) (fun g => .tuple #[.pointer (some ⟨g.2.2.2, 0, none⟩), .int .i64 r.2.2.2.2.2.2.2.2]) (fun g => [⟨g.2.2.2, 66, [.int .i64 r.1, .int .i64 r.2.1, .int .i64 r.2.2.1, .int .i64 r.2.2.2.1, .int .i64 r.2.2.2.2.1, .slice g.1.1 r.2.2.2.2.2.1.length g.1.2, .slice g.2.1.1 r.2.2.2.2.2.2.1.length g.2.1.2, .slice g.2.2.1.1 r.2.2.2.2.2.2.2.1.length g.2.2.1.2]⟩]) (fun g => [Ro (eI .u8) 5 1 (.slice g.1.1 r.2.2.2.2.2.1.length g.1.2) r.2.2.2.2.2.1, Ro (eI .i64) 3 1 (.slice g.2.1.1 r.2.2.2.2.2.2.1.length g.2.1.2) r.2.2.2.2.2.2.1, Ro (eI .i64) 3 1 (.slice g.2.2.1.1 r.2.2.2.2.2.2.2.1.length g.2.2.1.2) r.2.2.2.2.2.2.2.1]) := by
 refine kP Tryz.func28 rfl Tryz.ntmps28 rfl hm (fun w => qH (l' := [(0, .agg #[.slice a2 x1.length c3.1]), (1, .agg #[.int .i64 x4, .int .i64 x5, .int .i64 x6])]) rfl (qg (qa (qV rfl rfl rfl (fun g7 => qV rfl rfl rfl (fun g8 => qb rfl rfl rfl (qb rfl rfl rfl (qd (qc (qg (qa (ql (i := 1) rfl rfl tf24 rfl rfl (by simp) rfl rfl ?_))))))))))))
 refine qx ent54 rfl rfl rfl (fun x9 e9 => qfD F x1 a2 c3 x9 e9) (.consF 0 rfl .nil) (fun x9 e9 _ => qb rfl rfl rfl (qd (qc (qK (fun ((x12, _) : (Int × Unit)) => [(2, .pointer (some ⟨g7, 0, none⟩)), (3, .pointer (some ⟨g8, 0, none⟩)), (6, .int .i64 x12)]) (fun ((x12, _) : (Int × Unit)) => [⟨g8, 26, [.int .i64 x4, .int .i64 x5, .int .i64 x6]⟩, ⟨g7, 24, [.slice a2 x1.length c3.1]⟩]) (fun ((x12, _) : (Int × Unit)) => []) (fun ((x12, _) : (Int × Unit)) => [SlN eN37 iN37 1 (.slice a2 x1.length c3.1) x1 c3.2]) (fun ((x12, _) : (Int × Unit)) => vn F x1 x4 x5 x6 x12) ?_ ?_))))
 refine qg (qa (qe rfl rfl rfl (ku rfl rfl rfl rfl (qd (qc (qz rfl (fun h98 => ?_) (fun h98 => ?_)))))))
 refine qa (ql (i := 0) rfl rfl tf26 rfl rfl (by simp) rfl rfl (qx ent43 rfl rfl rfl (fun x97 e97 => qcn F x4 x5 x6 x97 e97) .nil (fun x97 e97 => ?_)))
 intro _
 exact qb rfl rfl rfl (qd (qm (x97, ()) (hB := (.cons 0 rfl (.cons 0 rfl .nil))) (hF := (qo 0 rfl qA))))
 exact qr (qm (x9, ()) (hB := (.cons 0 rfl (.cons 0 rfl .nil))) (hF := (qo 0 rfl qA)))
 rintro ⟨x12, _⟩
 try dsimp only
 refine qg (qa (qi rfl rfl qdx rfl (ql (i := 1) rfl rfl tf22 rfl rfl (fun _ => rfl) rfl rfl (qX rfl Tryz.underlying22 rfl rfl (ql (i := 0) rfl rfl tf26 rfl rfl (by simp) rfl rfl (zv (cells := [.int .i64 (x1.length : Int), .int .i64 x4, .int .i64 x5, .int .i64 x6, .int .i64 0, .slice none 0 0]) rfl st31 rfl (by kernel_rfl) rfl (zv (cells := [.int .i64 (x1.length : Int), .int .i64 x4, .int .i64 x5, .int .i64 x6, .int .i64 0, .slice none 0 0, .slice none 0 0, .slice none 0 0]) rfl st66 rfl (by kernel_rfl) rfl (qV rfl rfl rfl (fun g13 => qb rfl rfl rfl (qd (qc (qK (fun (((x48, x49, x50, x51, x52, x53, x56, x59, x62), (a54, c55, a57, c58, a60, c61)) : ((Int × Int × Int × Int × Int × Int × List Int × List Int × List Int) × (Option Addr × Nat × Option Addr × Nat × Option Addr × Nat))) => [(6, .int .i64 x48), (7, .pointer (some ⟨g13, 0, none⟩))]) (fun (((x48, x49, x50, x51, x52, x53, x56, x59, x62), (a54, c55, a57, c58, a60, c61)) : ((Int × Int × Int × Int × Int × Int × List Int × List Int × List Int) × (Option Addr × Nat × Option Addr × Nat × Option Addr × Nat))) => [⟨g13, 66, [.int .i64 x49, .int .i64 x50, .int .i64 x51, .int .i64 x52, .int .i64 x53, .slice a54 x56.length c55, .slice a57 x59.length c58, .slice a60 x62.length c61]⟩]) (fun (((x48, x49, x50, x51, x52, x53, x56, x59, x62), (a54, c55, a57, c58, a60, c61)) : ((Int × Int × Int × Int × Int × Int × List Int × List Int × List Int) × (Option Addr × Nat × Option Addr × Nat × Option Addr × Nat))) => [Ro (eI .u8) 5 1 (.slice a54 x56.length c55) x56, Ro (eI .i64) 3 1 (.slice a57 x59.length c58) x59, Ro (eI .i64) 3 1 (.slice a60 x62.length c61) x62]) (fun (((x48, x49, x50, x51, x52, x53, x56, x59, x62), (a54, c55, a57, c58, a60, c61)) : ((Int × Int × Int × Int × Int × Int × List Int × List Int × List Int) × (Option Addr × Nat × Option Addr × Nat × Option Addr × Nat))) => []) (fun (((x48, x49, x50, x51, x52, x53, x56, x59, x62), _) : ((Int × Int × Int × Int × Int × Int × List Int × List Int × List Int) × (Option Addr × Nat × Option Addr × Nat × Option Addr × Nat))) => yC F x48 x49 x50 x51 x52 x53 x56 x59 x62) ?_ ?_))))))))))))
 refine qg (qa (qe rfl rfl rfl (ku rfl rfl rfl rfl (qe rfl rfl rfl (vt 5 (fun (((x74, x75, x76, x77, x78, x79, x82, x85, x88), (a80, c81, a83, c84, a86, c87)) : ((Bool × Int × Int × Int × Int × Int × List Int × List Int × List Int) × (Option Addr × Nat × Option Addr × Nat × Option Addr × Nat))) => [(6, .int .i64 x12), (7, .pointer (some ⟨g13, 0, none⟩)), (28, .bool x74)]) (fun (((x74, x75, x76, x77, x78, x79, x82, x85, x88), (a80, c81, a83, c84, a86, c87)) : ((Bool × Int × Int × Int × Int × Int × List Int × List Int × List Int) × (Option Addr × Nat × Option Addr × Nat × Option Addr × Nat))) => [⟨g13, 66, [.int .i64 x75, .int .i64 x76, .int .i64 x77, .int .i64 x78, .int .i64 x79, .slice a80 x82.length c81, .slice a83 x85.length c84, .slice a86 x88.length c87]⟩]) (fun (((x74, x75, x76, x77, x78, x79, x82, x85, x88), (a80, c81, a83, c84, a86, c87)) : ((Bool × Int × Int × Int × Int × Int × List Int × List Int × List Int) × (Option Addr × Nat × Option Addr × Nat × Option Addr × Nat))) => [Ro (eI .u8) 5 1 (.slice a80 x82.length c81) x82, Ro (eI .i64) 3 1 (.slice a83 x85.length c84) x85, Ro (eI .i64) 3 1 (.slice a86 x88.length c87) x88]) (fun (((x74, x75, x76, x77, x78, x79, x82, x85, x88), (a80, c81, a83, c84, a86, c87)) : ((Bool × Int × Int × Int × Int × Int × List Int × List Int × List Int) × (Option Addr × Nat × Option Addr × Nat × Option Addr × Nat))) => []) (fun (((x74, x75, x76, x77, x78, x79, x82, x85, x88), _) : ((Bool × Int × Int × Int × Int × Int × List Int × List Int × List Int) × (Option Addr × Nat × Option Addr × Nat × Option Addr × Nat))) => yD F x12 x74 x75 x76 x77 x78 x79 x82 x85 x88) ?_ ?_)))))
 refine qy (os := _) rfl (qba (fun h63 => ?_) (fun h63 => ?_))
 refine zA (k := 23) rfl h63 (qe rfl rfl rfl (ql (i := 2) rfl rfl tf24 rfl rfl (by simp) rfl rfl (kv Int (eI .u8) 5 1 (kv Int (eI .i64) 3 1 (kv Int (eI .i64) 3 1 (qY ent55 rfl rfl rfl (fun x90 e90 => qdp F g13 (x1.length : Int) x4 x5 x6 0 ([] : List Int) none 0 ([] : List Int) none 0 ([] : List Int) none 0 x1 a2 c3 x90 e90) (.cons 0 rfl .nil) (.cons 2 rfl (.cons 0 rfl (.cons 0 rfl .nil))) (.consF 0 rfl .nil) (fun x90 e90 => ?_)))))))
 rintro ⟨⟨a91, c92⟩, ⟨a93, c94⟩, ⟨a95, c96⟩⟩
 exact kw rfl rfl rfl (qG (b := true) rfl rfl rfl rfl (qd (qm (((!x90.1), x90.2.1, x90.2.2.1, x90.2.2.2.1, x90.2.2.2.2.1, x90.2.2.2.2.2.1, x90.2.2.2.2.2.2.1, x90.2.2.2.2.2.2.2.1, x90.2.2.2.2.2.2.2.2), (a91, c92, a93, c94, a95, c96)) (hB := (.cons 0 rfl .nil)) (hR := (.cons 0 rfl (.cons 0 rfl (.cons 0 rfl .nil)))))))
 exact zz (k := 23) rfl h63 (qn rfl rfl rfl (qn rfl rfl rfl (qn rfl rfl rfl (qn rfl rfl rfl (qG (b := false) rfl rfl rfl rfl (qd (q3 Int (eI .u8) 5 1 (q3 Int (eI .i64) 3 1 (q3 Int (eI .i64) 3 1 (qm ((false, (x1.length : Int), x4, x5, x6, 0, ([] : List Int), ([] : List Int), ([] : List Int)), (none, 0, none, 0, none, 0)) (hB := (.cons 0 rfl .nil)) (hR := (.cons 2 rfl (.cons 0 rfl (.cons 0 rfl .nil))))))))))))))
 rintro ⟨⟨x74, x75, x76, x77, x78, x79, x82, x85, x88⟩, ⟨a80, c81, a83, c84, a86, c87⟩⟩
 try dsimp only
 refine qy (os := _) rfl (qd (qc (qz rfl (fun h89 => ?_) (fun h89 => ?_))))
 exact qa (qb rfl rfl rfl (qd (qm ((8, x75, x76, x77, x78, x79, x82, x85, x88), (a80, c81, a83, c84, a86, c87)) (hB := (.cons 0 rfl .nil)) (hR := (.cons 0 rfl (.cons 0 rfl (.cons 0 rfl .nil)))))))
 exact qr (qm ((x12, x75, x76, x77, x78, x79, x82, x85, x88), (a80, c81, a83, c84, a86, c87)) (hB := (.cons 0 rfl .nil)) (hR := (.cons 0 rfl (.cons 0 rfl (.cons 0 rfl .nil)))))
 rintro ⟨⟨x48, x49, x50, x51, x52, x53, x56, x59, x62⟩, ⟨a54, c55, a57, c58, a60, c61⟩⟩
 try dsimp only
 exact qg (qa (qe rfl rfl rfl (qe rfl rfl rfl (qb rfl rfl rfl (qb rfl rfl rfl (qd (qc (qs (zr ((a54, c55), (a57, c58), (a60, c61), g13) (res2 rfl rfl rfl) (hB := fun h => by subst h; exact (.cons 0 rfl .nil)) (hR := fun h => by subst h; exact (.cons 0 rfl (.cons 0 rfl (.cons 0 rfl .nil)))))))))))))
theorem vB (F : Nat) (x1 : List (List Int)) (a2 : Option Addr) (c3 : (Nat × List (Option Addr × Nat))) (x4 : Int) (x5 : Int) (x6 : Int) (r : (Int × Int × Int × Int × Int × List Int × Int)) (hm : k9 F x1 x4 x5 x6 = some r) :
    Pure Tryz.prog 9 [.agg #[.slice a2 x1.length c3.1], .agg #[.int .i64 x4, .int .i64 x5, .int .i64 x6]] [SlN eN37 iN37 1 (.slice a2 x1.length c3.1) x1 c3.2] (Option Addr × Nat) (fun g => .tuple #[.agg #[.int .i64 r.1, .int .i64 r.2.1, .int .i64 r.2.2.1, .int .i64 r.2.2.2.1, .int .i64 r.2.2.2.2.1, .slice g.1 r.2.2.2.2.2.1.length g.2], .int .i64 r.2.2.2.2.2.2]) (fun g => [Ro (eI .u8) 5 1 (.slice g.1 r.2.2.2.2.2.1.length g.2) r.2.2.2.2.2.1]) (fun _ => []) := by
 refine qS Tryz.func9 rfl Tryz.ntmps9 rfl hm (fun w => qH (l' := [(0, .agg #[.slice a2 x1.length c3.1]), (1, .agg #[.int .i64 x4, .int .i64 x5, .int .i64 x6])]) rfl (qg (qa (qV rfl rfl rfl (fun g7 => qV rfl rfl rfl (fun g8 => qR rfl tf31 rfl (fun g9 => qb rfl rfl rfl (qd (qc (qg (qa (ql (i := 2) rfl rfl tf24 rfl rfl (by simp) rfl rfl ?_))))))))))))
 refine ql (i := 1) rfl rfl tf26 rfl rfl (by simp) rfl rfl (qY ent28 rfl rfl rfl (fun x10 e10 => qdb F x1 a2 c3 x4 x5 x6 x10 e10) .nil .nil (.consF 0 rfl .nil) (fun x10 e10 => ?_))
 rintro ⟨⟨a11, c12⟩, ⟨a13, c14⟩, ⟨a15, c16⟩, g17⟩
 refine qe rfl rfl rfl (qv rfl rfl rfl rfl (qv rfl rfl rfl rfl (qb rfl rfl rfl (qb rfl rfl rfl (qd (qc (qg (qg (qa (qe rfl rfl rfl (kQ rfl rfl rfl rfl (qd ?_))))))))))))
 refine qc (qz rfl (fun h19 => ?_) (fun h19 => ?_))
 exact qg (qa (zv (cells := [.int .i64 0, .int .i64 0, .int .i64 0, .int .i64 0, .int .i64 0, .slice none 0 0]) rfl st31 rfl (by kernel_rfl) rfl (qe rfl rfl rfl (qu (i := 1) rfl rfl rfl tf31 rfl rfl rfl rfl rfl (qb rfl rfl rfl (qd (qc (qs (qp (q3 Int (eI .u8) 5 1 (qq (none, 0) (resL (rs := [.cell 4 31, .tmp 5]) rfl (.cell (i := 1) rfl tf31 rfl rfl (by simp) rfl (.tmp rfl ResOk.nil)) rfl) (fun h => by subst h; exact (.cons 0 rfl .nil)))))))))))))
 refine qr (qc (qg (qa (qe rfl rfl rfl (qN rfl rfl rfl (qi rfl rfl qed rfl (ql (i := 0) rfl rfl tf31 rfl rfl (by simp) rfl rfl (qu (i := 1) rfl rfl rfl tf31 rfl rfl rfl rfl rfl (qb rfl rfl rfl (qd (qc (qs ?_))))))))))))
 exact qq (a11, c12) (resL (rs := [.cell 4 31, .tmp 5]) rfl (.cell (i := 1) rfl tf31 rfl rfl (by simp) rfl (.tmp rfl ResOk.nil)) rfl) (fun h => by subst h; exact (.cons 0 rfl .nil))
theorem qgl (F : Nat) (x1 : Int) (x2 : List Int) (a3 : Option Addr) (c4 : Nat) (r : Int) (hm : qbd F x1 x2 = some r) :
    Pure Tryz.prog 46 [.agg #[.int .i64 x1, .slice a3 x2.length c4]] [Sl (eI .u8) 1 (.slice a3 x2.length c4) x2] Unit (fun _ => .int .i64 r) (fun _ => []) (fun _ => []) := by
  refine qS Tryz.func46 rfl Tryz.ntmps46 rfl hm (fun w => ?_)
  refine qH (l' := [(0, .agg #[.int .i64 x1, .slice a3 x2.length c4])]) rfl ?_
  refine qg ?_
  refine qa ?_
  refine qV rfl rfl rfl (fun g5 => ?_)
  refine qb rfl rfl rfl ?_
  refine qd ?_
  refine qc ?_
  refine qg ?_
  refine qB ?_
  refine qg ?_
  refine qa ?_
  refine qi rfl rfl ky rfl ?_
  refine ql (i := 0) rfl rfl tf3 rfl rfl (fun _ => rfl) rfl rfl ?_
  refine qZ rfl rfl rfl rfl ?_
  refine qe rfl rfl rfl ?_
  refine zS 4 (decide (x1 < 0)) [(1, .pointer (some ⟨g5, 0, none⟩)), (11, .bool ((decide (x1 < 0)) || (decide (8192 < x1))))] (fun h27 => ?_) (fun h27 => ?_) ?_
  · refine qy (os := _) rfl ?_
    refine zA (k := 7) rfl h27 ?_
    refine qn rfl rfl rfl ?_
    refine qn rfl rfl rfl ?_
    refine qn rfl rfl rfl ?_
    refine qG (b := true) rfl rfl rfl rfl ?_
    refine qC (d := 11) (v := .bool ((decide (x1 < 0)) || (decide (8192 < x1)))) rfl (by rw [h27]; simp only [Bool.true_or]) ?_
    refine qd ?_
    exact qT (qk rfl (qk rfl zd))
  · refine qy (os := _) rfl ?_
    refine zz (k := 7) rfl h27 ?_
    refine qi rfl rfl ky rfl ?_
    refine ql (i := 0) rfl rfl tf3 rfl rfl (fun _ => rfl) rfl rfl ?_
    refine zG rfl rfl rfl rfl ?_
    refine qG (b := false) rfl rfl rfl rfl ?_
    refine qC (d := 11) (v := .bool ((decide (x1 < 0)) || (decide (8192 < x1)))) rfl (by rw [h27]; simp only [Bool.false_or]) ?_
    refine qd ?_
    exact qT (qk rfl (qk rfl zd))
  refine qy (os := _) rfl ?_
  refine qb rfl rfl rfl ?_
  refine qd ?_
  refine qc ?_
  refine qz rfl (fun h47 => ?_) (fun h47 => ?_)
  · refine qg ?_
    refine qa ?_
    refine qb rfl rfl rfl ?_
    refine qd ?_
    refine qc ?_
    refine qs ?_
    refine qM ?_
    refine qp ?_
    exact qq () (res1 rfl rfl)
  · refine qg ?_
    refine qa ?_
    refine qi rfl rfl qa9 rfl ?_
    refine ql (i := 0) rfl rfl tf27 rfl rfl (fun _ => rfl) rfl rfl ?_
    refine qX rfl Tryz.underlying27 rfl rfl ?_
    refine qi rfl rfl ky rfl ?_
    refine ql (i := 0) rfl rfl tf3 rfl rfl (fun _ => rfl) rfl rfl ?_
    refine qL rfl rfl rfl rfl ?_
    refine qd3 rfl rfl rfl rfl rfl ?_
    refine kQ rfl rfl rfl rfl ?_
    refine qb rfl rfl rfl ?_
    refine qd ?_
    refine qc ?_
    refine qz rfl (fun h46 => ?_) (fun h46 => ?_)
    · refine qg ?_
      refine qa ?_
      refine qb rfl rfl rfl ?_
      refine qd ?_
      refine qc ?_
      refine qs ?_
      refine qM ?_
      refine qp ?_
      exact qq () (res1 rfl rfl)
    · refine qK (fun ((x36, _) : (Bool × Unit)) => [(21, .bool x36)]) (fun ((x36, _) : (Bool × Unit)) => []) (fun ((x36, _) : (Bool × Unit)) => []) (fun ((x36, _) : (Bool × Unit)) => []) (fun ((x36, _) : (Bool × Unit)) => vP F x36) ?_ ?_
      · refine qad (fun h38 => ?_) (fun h38 => ?_)
        · refine jS (j := 0) (zb .u8) (by decide) rfl (fun x39 e39 b40 o41 h42 => ?_)
          replace h42 : a3 = some ⟨b40, o41, none⟩ := h42
          refine qc8 (fun h43 => ?_)
          refine zg mixed [] [⟨g5, 29, [.int .i64 x1, .slice a3 x2.length c4]⟩] [zC b40 (o41 + (isub .i64 (x2.length : Int) 1).toNat * 1) ((eI .u8) x39), Sl (eI .u8) 1 (.slice a3 x2.length c4) x2] (.cons 0 rfl .nil) (q8 0 rfl (q8 1 rfl qE)) 20 rfl ?_
          refine qf 0 (.pointer (some ⟨g5, 0, none⟩)) rfl rfl rfl (qt rfl ky) ?_
          refine qP 1 (.int .i64 x1) rfl rfl rfl (qQ (i := 0) rfl tf3 rfl rfl (fun _ => rfl) rfl) ?_
          refine qf 2 (.int .i64 (irem x1 8)) rfl rfl rfl (qhd rfl rfl rfl) ?_
          refine qf 3 (.bool (((irem x1 8) : Int) != 0)) rfl rfl rfl (qj rfl) ?_
          refine qf 4 (.bool (((irem x1 8) : Int) != 0)) rfl rfl rfl (qj rfl) ?_
          refine qJ (d := 26) (v := .bool true) rfl (by rw [h38] <;> rfl) ?_
          refine qf 5 (.pointer (some ⟨g5, 1, none⟩)) rfl rfl rfl (qt rfl qa9) ?_
          refine qP 6 (.slice a3 x2.length c4) rfl rfl rfl (qQ (i := 0) rfl tf27 rfl rfl (fun _ => rfl) rfl) ?_
          refine qf 7 (.pointer (some ⟨g5, 1, none⟩)) rfl rfl rfl (qt rfl qa9) ?_
          refine qP 8 (.slice a3 x2.length c4) rfl rfl rfl (qQ (i := 0) rfl tf27 rfl rfl (fun _ => rfl) rfl) ?_
          refine qf 9 (.int .i64 (x2.length : Int)) rfl rfl rfl (qeu Tryz.underlying27 rfl) ?_
          refine qf 10 (.int .i64 (isub .i64 (x2.length : Int) 1)) rfl rfl rfl (qj rfl) ?_
          refine qJ (d := 28) (v := .slice (some ⟨b40, o41, none⟩) x2.length c4) rfl (by rw [h42] <;> rfl) ?_
          refine qf 11 (.pointer (some ⟨b40, (o41 + (isub .i64 (x2.length : Int) 1).toNat * 1), none⟩)) rfl rfl rfl (qbb Tryz.underlying27 tf5 rfl rfl (kj e39).1 (qaE e39)) ?_
          refine qJ (d := 28) (v := .slice a3 x2.length c4) rfl (by rw [h42] <;> rfl) ?_
          refine ko 12 (.int .u8 x39) [] rfl rfl rfl (vW (j := 0) rfl tf5 rfl rfl (fun _ => rfl) rfl) ?_
          refine qf 13 (.pointer (some ⟨g5, 0, none⟩)) rfl rfl rfl (qt rfl ky) ?_
          refine qP 14 (.int .i64 x1) rfl rfl rfl (qQ (i := 0) rfl tf3 rfl rfl (fun _ => rfl) rfl) ?_
          refine qf 15 (.int .i64 (irem x1 8)) rfl rfl rfl (qhd rfl rfl rfl) ?_
          refine qf 16 (.int .u8 (ishl .u8 x39 (irem x1 8))) rfl rfl rfl (qev rfl rfl h43) ?_
          refine qf 17 (.bool (((ishl .u8 x39 (irem x1 8)) : Int) != 0)) rfl rfl rfl (qj rfl) ?_
          refine qf 18 (.bool (((ishl .u8 x39 (irem x1 8)) : Int) != 0)) rfl rfl rfl (qj rfl) ?_
          refine qf 19 (.bool (((ishl .u8 x39 (irem x1 8)) : Int) != 0)) rfl rfl rfl (qj rfl) ?_
          refine qO (by kernel_rfl) ?_
          refine zm ?_ (by intro c h; cases h)
          exact qm ((((ishl .u8 x39 (irem x1 8)) : Int) != 0), ())
        · refine zg mixed [] [⟨g5, 29, [.int .i64 x1, .slice a3 x2.length c4]⟩] [Sl (eI .u8) 1 (.slice a3 x2.length c4) x2] (.cons 0 rfl .nil) (q8 0 rfl qE) 20 rfl ?_
          refine qf 0 (.pointer (some ⟨g5, 0, none⟩)) rfl rfl rfl (qt rfl ky) ?_
          refine qP 1 (.int .i64 x1) rfl rfl rfl (qQ (i := 0) rfl tf3 rfl rfl (fun _ => rfl) rfl) ?_
          refine qf 2 (.int .i64 (irem x1 8)) rfl rfl rfl (qhd rfl rfl rfl) ?_
          refine qf 3 (.bool (((irem x1 8) : Int) != 0)) rfl rfl rfl (qj rfl) ?_
          refine qf 4 (.bool (((irem x1 8) : Int) != 0)) rfl rfl rfl (qj rfl) ?_
          refine qJ (d := 26) (v := .bool false) rfl (by rw [h38] <;> rfl) ?_
          refine qh 5 rfl rfl rfl ?_
          refine qh 6 rfl rfl rfl ?_
          refine qh 7 rfl rfl rfl ?_
          refine qh 8 rfl rfl rfl ?_
          refine qh 9 rfl rfl rfl ?_
          refine qh 10 rfl rfl rfl ?_
          refine qh 11 rfl rfl rfl ?_
          refine qh 12 rfl rfl rfl ?_
          refine qh 13 rfl rfl rfl ?_
          refine qh 14 rfl rfl rfl ?_
          refine qh 15 rfl rfl rfl ?_
          refine qh 16 rfl rfl rfl ?_
          refine qh 17 rfl rfl rfl ?_
          refine qf 18 (.bool false) rfl rfl rfl (qj rfl) ?_
          refine qf 19 (.bool false) rfl rfl rfl (qj rfl) ?_
          refine qO (by kernel_rfl) ?_
          refine zm ?_ (by intro c h; cases h)
          exact qm (false, ())
      · rintro ⟨x36, _⟩
        try dsimp only
        refine qz rfl (fun h37 => ?_) (fun h37 => ?_)
        · refine qg ?_
          refine qa ?_
          refine qb rfl rfl rfl ?_
          refine qd ?_
          refine qc ?_
          refine qs ?_
          refine qM ?_
          refine qp ?_
          exact qq () (res1 rfl rfl)
        · refine qr ?_
          refine qU ?_
          refine qc ?_
          refine qg ?_
          refine qa ?_
          refine qb rfl rfl rfl ?_
          refine qd ?_
          refine qc ?_
          refine qs ?_
          exact qq () (res1 rfl rfl)
theorem qgn (F : Nat) (x1 : Int) (x2 : Int) (x3 : Int) (x4 : Int) (x5 : Int) (x6 : List Int) (a7 : Option Addr) (c8 : Nat) (r : Int) (hm : qbf F x1 x2 x3 x4 x5 x6 = some r) :
    Pure Tryz.prog 29 [.agg #[.int .i64 x1, .int .i64 x2, .int .i64 x3, .int .i64 x4, .int .i64 x5, .slice a7 x6.length c8]] [Sl (eI .u8) 1 (.slice a7 x6.length c8) x6] Unit (fun _ => .int .i64 r) (fun _ => []) (fun _ => []) := by
 refine qS Tryz.func29 rfl Tryz.ntmps29 rfl hm (fun w => qH (l' := [(0, .agg #[.int .i64 x1, .int .i64 x2, .int .i64 x3, .int .i64 x4, .int .i64 x5, .slice a7 x6.length c8])]) rfl (qg (qa (qV rfl rfl rfl (fun g9 => qb rfl rfl rfl (qd (qc (qg (qg (qa (qi rfl rfl qcS rfl (ql (i := 0) rfl rfl tf3 rfl rfl (fun _ => rfl) rfl rfl ?_))))))))))))
 refine qZ rfl rfl rfl rfl (qe rfl rfl rfl (zS 4 (decide (x1 < 0)) [(1, .pointer (some ⟨g9, 0, none⟩)), (11, .bool ((decide (x1 < 0)) || (decide (100 < x1))))] (fun h12 => ?_) (fun h12 => ?_) ?_))
 exact qy (os := _) rfl (zA (k := 7) rfl h12 (qn rfl rfl rfl (qn rfl rfl rfl (qn rfl rfl rfl (qG (b := true) rfl rfl rfl rfl (qC (d := 11) (v := .bool ((decide (x1 < 0)) || (decide (100 < x1)))) rfl (by rw [h12]; simp only [Bool.true_or]) (qd (qT (qk rfl (qk rfl zd))))))))))
 exact qy (os := _) rfl (zz (k := 7) rfl h12 (qi rfl rfl qcS rfl (ql (i := 0) rfl rfl tf3 rfl rfl (fun _ => rfl) rfl rfl (zG rfl rfl rfl rfl (qG (b := false) rfl rfl rfl rfl (qC (d := 11) (v := .bool ((decide (x1 < 0)) || (decide (100 < x1)))) rfl (by rw [h12]; simp only [Bool.false_or]) (qd (qT (qk rfl (qk rfl zd))))))))))
 refine qy (os := _) rfl (qd (qc (qz rfl (fun h18 => ?_) (fun h18 => ?_))))
 exact qg (qa (qb rfl rfl rfl (qd (qc (qs (qp (qq () (res1 rfl rfl))))))))
 refine qr (qc (qg (qg (qa (qi rfl rfl qbF rfl (ql (i := 0) rfl rfl tf26 rfl rfl (by simp) rfl rfl (qx ent43 rfl rfl rfl (fun x15 e15 => qcn F x2 x3 x4 x15 e15) .nil (fun x15 e15 => ?_))))))))
 intro _
 refine qb rfl rfl rfl (qd (qc (qg (qa (qe rfl rfl rfl (kQ rfl rfl rfl rfl (qd (qc (qz rfl (fun h17 => ?_) (fun h17 => ?_))))))))))
 exact qg (qa (qe rfl rfl rfl (qb rfl rfl rfl (qd (qc (qs (qp (qq () (res1 rfl rfl)))))))))
 refine qr (qc (qg (qa (qi rfl rfl qas rfl (ql (i := 0) rfl rfl tf29 rfl rfl (by simp) rfl rfl (qx ent46 rfl rfl rfl (fun x16 e16 => qgl F x5 x6 a7 c8 x16 e16) (.consF 0 rfl .nil) (fun x16 e16 => ?_)))))))
 intro _
 exact qb rfl rfl rfl (qd (qc (qs (qq () (res1 rfl rfl)))))
theorem qdI (F : Nat) (x1 : Int) (x2 : List Int) (a3 : Option Addr) (c4 : Nat) (x5 : Int) (r : (Int × Int × Bool)) (hm : qaq F x1 x2 x5 = some r) :
    Pure Tryz.prog 120 [.agg #[.int .i64 x1, .slice a3 x2.length c4], .int .i64 x5] [Sl (eI .u8) 1 (.slice a3 x2.length c4) x2] Unit (fun _ => .tuple #[.int .u64 r.1, .int .i64 r.2.1, .bool r.2.2]) (fun _ => []) (fun _ => []) := by
 refine qS Tryz.func120 rfl Tryz.ntmps120 rfl hm (fun w => qH (l' := [(0, .agg #[.int .i64 x1, .slice a3 x2.length c4]), (1, .int .i64 x5)]) rfl (qg (qa (qV rfl rfl rfl (fun g6 => qb rfl rfl rfl (qb rfl rfl rfl (qb rfl rfl rfl (qd (qc (qK (fun ((_, _) : (Unit × Unit)) => []) (fun ((_, _) : (Unit × Unit)) => []) (fun ((_, _) : (Unit × Unit)) => []) (fun ((_, _) : (Unit × Unit)) => []) (fun ((_, _) : (Unit × Unit)) => qcJ F) ?_ ?_))))))))))
 refine qg (qa (qe rfl rfl rfl (qb rfl rfl rfl (qd (qc (qB (q7 (fun ((x33, _) : (Int × Unit)) => [(1, .int .i64 x5), (2, .pointer (some ⟨g6, 0, none⟩)), (7, .int .i64 x33)]) (fun ((x33, _) : (Int × Unit)) => [⟨g6, 29, [.int .i64 x1, .slice a3 x2.length c4]⟩]) (fun ((x33, _) : (Int × Unit)) => []) (fun ((x33, _) : (Int × Unit)) => [Sl (eI .u8) 1 (.slice a3 x2.length c4) x2]) (fun k (s : (Int × Unit)) => yV F x1 x2 x5 k s.1) (x5, ()) F ?_ (hB := (.cons 0 rfl .nil)) (hF := (qo 0 rfl qA)))))))))
 intro k40
 rintro ⟨x33, _⟩
 try dsimp only
 refine zB (m' := j4 F x1 x2 x5 (yV F x1 x2 x5 k40) x33) rfl (qg (qg (qa (qe rfl rfl rfl (qi rfl rfl ky rfl (ql (i := 0) rfl rfl tf3 rfl rfl (fun _ => rfl) rfl rfl (qZ rfl rfl rfl rfl (qd (qc (qz rfl (fun h46 => ?_) (fun h46 => ?_)))))))))))
 refine qr (qc (qg (qB (qg (qa (ql (i := 0) rfl rfl tf29 rfl rfl (by simp) rfl rfl (qe rfl rfl rfl (qx ent79 rfl rfl rfl (fun x44 e44 => qcc F x1 x2 a3 c4 x33 x44 e44) (.consF 0 rfl .nil) (fun x44 e44 => ?_)))))))))
 intro _
 refine ku rfl rfl rfl rfl (qd (qc (qz rfl (fun h45 => ?_) (fun h45 => ?_))))
 refine qg (qa (qe rfl rfl rfl (qe rfl rfl rfl (zJ rfl rfl rfl rfl (zQ rfl Tryz.underlying3 Tryz.underlying50 rfl rfl (qe rfl rfl rfl (qL rfl rfl rfl rfl (qb rfl rfl rfl (qb rfl rfl rfl (qb rfl rfl rfl (qd (qc ?_))))))))))))
 exact qs (qM (qp (qp (qM (qp (qq () (res3 rfl rfl rfl rfl)))))))
 exact qr (qU (qc (qa (qe rfl rfl rfl (qL rfl rfl rfl rfl (qb rfl rfl rfl (qd (qW (iadd .i64 x33 1, ()) (hB := (.cons 0 rfl .nil)) (hF := (qo 0 rfl qA))))))))))
 exact zj (qD (qD (zk (qm ((), ())))))
 rintro ⟨_, _⟩
 try dsimp only
 exact qg (qa (qb rfl rfl rfl (qb rfl rfl rfl (qb rfl rfl rfl (qd (qc (qs (qq () (res3 rfl rfl rfl rfl)))))))))
theorem qda (F : Nat) (x1 : Int) (x2 : List Int) (a3 : Option Addr) (c4 : Nat) (x5 : Int) (r : (Int × Int × Int)) (hm : jL F x1 x2 x5 = some r) :
    Pure Tryz.prog 104 [.agg #[.int .i64 x1, .slice a3 x2.length c4], .int .i64 x5] [Sl (eI .u8) 1 (.slice a3 x2.length c4) x2] Unit (fun _ => .tuple #[.int .u64 r.1, .int .i64 r.2.1, .int .i64 r.2.2]) (fun _ => []) (fun _ => []) := by
 refine qS Tryz.func104 rfl Tryz.ntmps104 rfl hm (fun w => qH (l' := [(0, .agg #[.int .i64 x1, .slice a3 x2.length c4]), (1, .int .i64 x5)]) rfl (qg (qa (qV rfl rfl rfl (fun g6 => qb rfl rfl rfl (qb rfl rfl rfl (qb rfl rfl rfl (qd (qc (qg (qa (ql (i := 0) rfl rfl tf29 rfl rfl (by simp) rfl rfl ?_))))))))))))
 refine qe rfl rfl rfl (qx ent120 rfl rfl rfl (fun x7 e7 => qdI F x1 x2 a3 c4 x5 x7 e7) (.consF 0 rfl .nil) (fun x7 e7 => ?_))
 intro _
 refine qe rfl rfl rfl (qv rfl rfl rfl rfl (qv rfl rfl rfl rfl (qv rfl rfl rfl rfl (qb rfl rfl rfl (qb rfl rfl rfl (qb rfl rfl rfl (qd (qc (qg (qg (qa (qe rfl rfl rfl ?_))))))))))))
 refine kw rfl rfl rfl (qd (qc (qz rfl (fun h9 => ?_) (fun h9 => ?_))))
 exact qg (qa (qb rfl rfl rfl (qb rfl rfl rfl (qb rfl rfl rfl (qd (qc (qs (qp (qq () (res3 rfl rfl rfl rfl))))))))))
 exact qr (qc (qg (qa (qe rfl rfl rfl (qe rfl rfl rfl (qb rfl rfl rfl (qb rfl rfl rfl (qb rfl rfl rfl (qd (qc (qs (qq () (res3 rfl rfl rfl rfl)))))))))))))
theorem qcL (F : Nat) (x1 : Int) (x2 : List Int) (a3 : Option Addr) (c4 : Nat) (x5 : Int) (x6 : Int) (r : (Int × Bool)) (hm : vy F x1 x2 x5 x6 = some r) :
    Pure Tryz.prog 68 [.agg #[.int .i64 x1, .slice a3 x2.length c4], .int .i64 x5, .int .i64 x6] [Sl (eI .u8) 1 (.slice a3 x2.length c4) x2] Unit (fun _ => .tuple #[.int .u64 r.1, .bool r.2]) (fun _ => []) (fun _ => []) := by
 refine qS Tryz.func68 rfl Tryz.ntmps68 rfl hm (fun w => qH (l' := [(0, .agg #[.int .i64 x1, .slice a3 x2.length c4]), (1, .int .i64 x5), (2, .int .i64 x6)]) rfl (qg (qa (qV rfl rfl rfl (fun g7 => qb rfl rfl rfl (qb rfl rfl rfl (qd (qc (qg (qg (qa (qi rfl rfl ky rfl ?_))))))))))))
 refine ql (i := 0) rfl rfl tf3 rfl rfl (fun _ => rfl) rfl rfl (qe rfl rfl rfl (zJ rfl rfl rfl rfl (qe rfl rfl rfl (qZ rfl rfl rfl rfl (qd (qc (qz rfl (fun h40 => ?_) (fun h40 => ?_))))))))
 exact qg (qa (qb rfl rfl rfl (qb rfl rfl rfl (qd (qc (qs (qp (qq () (res2 rfl rfl rfl)))))))))
 refine qr (qc (qK (fun ((x24, _) : (Int × Unit)) => [(6, .int .u64 x24)]) (fun ((x24, _) : (Int × Unit)) => []) (fun ((x24, _) : (Int × Unit)) => []) (fun ((x24, _) : (Int × Unit)) => []) (fun ((x24, _) : (Int × Unit)) => qbw F x24) ?_ ?_))
 refine qg (qa (qe rfl rfl rfl (qe rfl rfl rfl (qd (qc (qB (q7 (fun (((x29, x30), _) : ((Int × Int) × Unit)) => [(1, .int .i64 x5), (3, .pointer (some ⟨g7, 0, none⟩)), (6, .int .u64 x29), (15, .int .i64 x6), (16, .int .i64 x30)]) (fun (((x29, x30), _) : ((Int × Int) × Unit)) => [⟨g7, 29, [.int .i64 x1, .slice a3 x2.length c4]⟩]) (fun (((x29, x30), _) : ((Int × Int) × Unit)) => []) (fun (((x29, x30), _) : ((Int × Int) × Unit)) => [Sl (eI .u8) 1 (.slice a3 x2.length c4) x2]) (fun k (s : ((Int × Int) × Unit)) => vk F x1 x2 x5 x6 k s.1) ((0, 0), ()) F ?_ (hB := (.cons 0 rfl .nil)) (hF := (qo 0 rfl qA)))))))))
 intro k35
 rintro ⟨⟨x29, x30⟩, _⟩
 try dsimp only
 refine zB (m' := qah F x1 x2 x5 x6 (vk F x1 x2 x5 x6 k35) x29 x30) rfl (qg (qa (qZ rfl rfl rfl rfl (qd (qc (qg (qz rfl (fun h39 => ?_) (fun h39 => ?_))))))))
 refine qr (qc (qg (qB (qg (qa (qe rfl rfl rfl (qb rfl rfl rfl (qd (qc (qa (qe rfl rfl rfl (qd4 rfl rfl rfl rfl rfl ?_))))))))))))
 refine ql (i := 0) rfl rfl tf29 rfl rfl (by simp) rfl rfl (qe rfl rfl rfl (qe rfl rfl rfl (qL rfl rfl rfl rfl (qx ent79 rfl rfl rfl (fun x38 e38 => qcc F x1 x2 a3 c4 (iadd .i64 x5 x30) x38 e38) (.consF 0 rfl .nil) (fun x38 e38 => ?_)))))
 intro _
 exact qnv rfl rfl rfl rfl (qb rfl rfl rfl (qd (qU (qc (qa (qL rfl rfl rfl rfl (qe rfl rfl rfl (qd (qW ((ior .u64 (ishl .u64 x29 1) x38, iadd .i64 x30 1), ()) (hB := (.cons 0 rfl .nil)) (hF := (qo 0 rfl qA)))))))))))
 exact zj (qD (qD (zk (qm (x29, ())))))
 rintro ⟨x24, _⟩
 try dsimp only
 exact qg (qa (qe rfl rfl rfl (qb rfl rfl rfl (qb rfl rfl rfl (qd (qc (qs (qq () (res2 rfl rfl rfl)))))))))
theorem jx (F : Nat) (x1 : Int) (x2 : List Int) (a3 : Option Addr) (c4 : Nat) (x5 : Int) (r : (Int × Int × Int)) (hm : kb F x1 x2 x5 = some r) :
    Pure Tryz.prog 105 [.func (.func 104) #[] #[], .agg #[.int .i64 x1, .slice a3 x2.length c4], .int .i64 x5] [Sl (eI .u8) 1 (.slice a3 x2.length c4) x2] Unit (fun _ => .tuple #[.int .u64 r.1, .int .i64 r.2.1, .int .i64 r.2.2]) (fun _ => []) (fun _ => []) := by
 refine qS Tryz.func105 rfl Tryz.ntmps105 rfl hm (fun w => qH (l' := [(0, .func (.func 104) #[] #[]), (1, .agg #[.int .i64 x1, .slice a3 x2.length c4]), (2, .int .i64 x5)]) rfl (qg (qa (qV rfl rfl rfl (fun g6 => qb rfl rfl rfl (qb rfl rfl rfl (qb rfl rfl rfl (qd (qc (qg (qa (qe rfl rfl rfl ?_))))))))))))
 refine ql (i := 0) rfl rfl tf29 rfl rfl (by simp) rfl rfl (qe rfl rfl rfl (qkd ent104 rfl rfl rfl rfl (fun x7 e7 => qda F x1 x2 a3 c4 x5 x7 e7) (.consF 0 rfl .nil) (fun x7 e7 => ?_)))
 intro _
 refine qe rfl rfl rfl (qv rfl rfl rfl rfl (qv rfl rfl rfl rfl (qv rfl rfl rfl rfl (qb rfl rfl rfl (qb rfl rfl rfl (qb rfl rfl rfl (qd (qc (qg (qg (qa (qe rfl rfl rfl ?_))))))))))))
 refine kQ rfl rfl rfl rfl (qd (qc (qz rfl (fun h20 => ?_) (fun h20 => ?_))))
 exact qg (qa (qe rfl rfl rfl (qb rfl rfl rfl (qb rfl rfl rfl (qb rfl rfl rfl (qd (qc (qs (qp (qq () (res3 rfl rfl rfl rfl)))))))))))
 refine qr (qc (qg (qg (qa (qe rfl rfl rfl (qaY rfl rfl rfl rfl (qd (qc (qz rfl (fun h19 => ?_) (fun h19 => ?_))))))))))
 exact qg (qa (qb rfl rfl rfl (qb rfl rfl rfl (qb rfl rfl rfl (qd (qc (qs (qp (qq () (res3 rfl rfl rfl rfl))))))))))
 refine qr (qc (qg (qa (ql (i := 0) rfl rfl tf29 rfl rfl (by simp) rfl rfl (qe rfl rfl rfl (qe rfl rfl rfl (zQ rfl Tryz.underlying50 Tryz.underlying3 rfl rfl (qx ent68 rfl rfl rfl (fun x10 e10 => qcL F x1 x2 a3 c4 x7.2.1 (iconv .i64 x7.1) x10 e10) (.consF 0 rfl .nil) (fun x10 e10 => ?_)))))))))
 intro _
 refine qe rfl rfl rfl (qv rfl rfl rfl rfl (qv rfl rfl rfl rfl (qb rfl rfl rfl (qb rfl rfl rfl (qd (qc (qg (qg (qa (qe rfl rfl rfl (kw rfl rfl rfl (qd ?_))))))))))))
 refine qc (qz rfl (fun h18 => ?_) (fun h18 => ?_))
 exact qg (qa (qb rfl rfl rfl (qb rfl rfl rfl (qb rfl rfl rfl (qd (qc (qs (qp (qq () (res3 rfl rfl rfl rfl))))))))))
 refine qr (qc (qg (qg (qa (qe rfl rfl rfl (qe rfl rfl rfl (qbr (fun h15 => qd4 rfl rfl rfl rfl h15 (zJ rfl rfl rfl rfl (qL rfl rfl rfl rfl (qb rfl rfl rfl (jT (fun x16 e16 => ?_)))))))))))))
 refine qC (d := 12) (v := .int .u64 x16) rfl (by rw [e16] <;> rfl) (qd (qc (qg (qa (qe rfl rfl rfl (zG rfl rfl rfl rfl (qd (qc (qz rfl (fun h17 => ?_) (fun h17 => ?_))))))))))
 exact qg (qa (qb rfl rfl rfl (qb rfl rfl rfl (qb rfl rfl rfl (qd (qc (qs (qp (qq () (res3 rfl rfl rfl rfl))))))))))
 refine qr (qc (qg (qa (qe rfl rfl rfl (qe rfl rfl rfl (qe rfl rfl rfl (zQ rfl Tryz.underlying50 Tryz.underlying3 rfl rfl (qL rfl rfl rfl rfl (qb rfl rfl rfl (qb rfl rfl rfl (qb rfl rfl rfl (qd ?_))))))))))))
 exact qc (qs (qq () (res3 rfl rfl rfl rfl)))
theorem qbO (F : Nat) (x1 : Int) (x2 : List Int) (a3 : Option Addr) (c4 : Nat) (x5 : Int) (r : (Int × Int × Int)) (hm : y9 F x1 x2 x5 = some r) :
    Pure Tryz.prog 82 [.agg #[.int .i64 x1, .slice a3 x2.length c4], .int .i64 x5] [Sl (eI .u8) 1 (.slice a3 x2.length c4) x2] Unit (fun _ => .tuple #[.int .u64 r.1, .int .i64 r.2.1, .int .i64 r.2.2]) (fun _ => []) (fun _ => []) := by
 refine qS Tryz.func82 rfl Tryz.ntmps82 rfl hm (fun w => qH (l' := [(0, .agg #[.int .i64 x1, .slice a3 x2.length c4]), (1, .int .i64 x5)]) rfl (qg (qa (qV rfl rfl rfl (fun g6 => qb rfl rfl rfl (qb rfl rfl rfl (qb rfl rfl rfl (qd (qc (qg (qa (ql (i := 0) rfl rfl tf29 rfl rfl (by simp) rfl rfl ?_))))))))))))
 refine qe rfl rfl rfl (qx ent105 rfl rfl rfl (fun x7 e7 => jx F x1 x2 a3 c4 x5 x7 e7) (.consF 0 rfl .nil) (fun x7 e7 => ?_))
 intro _
 exact qv rfl rfl rfl rfl (qv rfl rfl rfl rfl (qv rfl rfl rfl rfl (qb rfl rfl rfl (qb rfl rfl rfl (qb rfl rfl rfl (qd (qc (qs (qq () (res3 rfl rfl rfl rfl))))))))))
theorem qia (F : Nat) (x1 : Int) (x2 : Int) (x3 : Int) (x4 : Int) (x5 : Int) (x6 : List Int) (a7 : Option Addr) (c8 : Nat) (x9 : Int) (x10 : Int) (r : (Int × Int × Bool)) (hm : qco F x1 x2 x3 x4 x5 x6 x9 x10 = some r) :
    Pure Tryz.prog 56 [.agg #[.int .i64 x1, .int .i64 x2, .int .i64 x3, .int .i64 x4, .int .i64 x5, .slice a7 x6.length c8], .int .i64 x9, .int .i64 x10] [Sl (eI .u8) 1 (.slice a7 x6.length c8) x6] Unit (fun _ => .tuple #[.int .i64 r.1, .int .i64 r.2.1, .bool r.2.2]) (fun _ => []) (fun _ => []) := by
 refine qS Tryz.func56 rfl Tryz.ntmps56 rfl hm (fun w => qH (l' := [(0, .agg #[.int .i64 x1, .int .i64 x2, .int .i64 x3, .int .i64 x4, .int .i64 x5, .slice a7 x6.length c8]), (1, .int .i64 x9), (2, .int .i64 x10)]) rfl (qg (qa (qV rfl rfl rfl (fun g11 => qb rfl rfl rfl (qb rfl rfl rfl (qb rfl rfl rfl (qd (qc (qg (qg (qa ?_))))))))))))
 refine qi rfl rfl qbF rfl (qi rfl rfl qaC rfl (ql (i := 0) rfl rfl tf3 rfl rfl (fun _ => rfl) rfl rfl (ku rfl rfl rfl rfl (qd (qc (qz rfl (fun h20 => ?_) (fun h20 => ?_)))))))
 exact qg (qa (qe rfl rfl rfl (qb rfl rfl rfl (qb rfl rfl rfl (qb rfl rfl rfl (qd (qc (qs (qp (qq () (res3 rfl rfl rfl rfl)))))))))))
 refine qr (qc (qg (qa (qi rfl rfl qas rfl (ql (i := 0) rfl rfl tf29 rfl rfl (by simp) rfl rfl (qe rfl rfl rfl (qx ent82 rfl rfl rfl (fun x13 e13 => qbO F x5 x6 a7 c8 x9 x13 e13) (.consF 0 rfl .nil) (fun x13 e13 => ?_))))))))
 intro _
 refine qe rfl rfl rfl (qv rfl rfl rfl rfl (qv rfl rfl rfl rfl (qv rfl rfl rfl rfl (qb rfl rfl rfl (qb rfl rfl rfl (qb rfl rfl rfl (qd (qc (qg (qg (qa (qe rfl rfl rfl ?_))))))))))))
 refine kQ rfl rfl rfl rfl (qe rfl rfl rfl (vt 9 (fun ((x18, _) : (Bool × Unit)) => [(7, .int .i64 x13.2.1), (9, .int .u64 x13.1), (35, .bool x18)]) (fun ((x18, _) : (Bool × Unit)) => []) (fun ((x18, _) : (Bool × Unit)) => []) (fun ((x18, _) : (Bool × Unit)) => []) (fun ((x18, _) : (Bool × Unit)) => qaS F x13 x18) ?_ ?_))
 refine qy (os := _) rfl (qba (fun h17 => ?_) (fun h17 => ?_))
 exact zA (k := 26) rfl h17 (qn rfl rfl rfl (qn rfl rfl rfl (qn rfl rfl rfl (qn rfl rfl rfl (qn rfl rfl rfl (qn rfl rfl rfl (qn rfl rfl rfl (qn rfl rfl rfl (qG (b := true) rfl rfl rfl rfl (qd (qm (true, ()))))))))))))
 exact zz (k := 26) rfl h17 (qe rfl rfl rfl (qi rfl rfl qbF rfl (qi rfl rfl qaC rfl (ql (i := 0) rfl rfl tf3 rfl rfl (fun _ => rfl) rfl rfl (qe rfl rfl rfl (qcE rfl rfl rfl rfl (zQ rfl Tryz.underlying3 Tryz.underlying50 rfl rfl (zG rfl rfl rfl rfl (qG (b := false) rfl rfl rfl rfl (qd (qm ((decide ((iconv .u64 (imin x2 x10)) < x13.1)), ()))))))))))))
 rintro ⟨x18, _⟩
 try dsimp only
 refine qy (os := _) rfl (qd (qc (qz rfl (fun h19 => ?_) (fun h19 => ?_))))
 exact qg (qa (qb rfl rfl rfl (qb rfl rfl rfl (qb rfl rfl rfl (qd (qc (qs (qp (qq () (res3 rfl rfl rfl rfl))))))))))
 refine qr (qc (qg (qa (qe rfl rfl rfl (zQ rfl Tryz.underlying50 Tryz.underlying3 rfl rfl (qe rfl rfl rfl (qb rfl rfl rfl (qb rfl rfl rfl (qb rfl rfl rfl (qd (qc (qs ?_))))))))))))
 exact qq () (res3 rfl rfl rfl rfl)
theorem vw (F : Nat) (x1 : Bool) (r : (Unit ⊕ Unit)) (hm : kU F x1 = some r) :
    PureL Tryz.prog 108 [.bool x1] [] [] [] lostCh Unit (fun (_ : Unit) (_ : Unit) => .tuple #[]) (fun (_ : Unit) (_ : Unit) => []) (fun (_ : Unit) (_ : Unit) => []) (fun (_ : Unit) => []) r := by
 refine qcX Tryz.func108 rfl Tryz.ntmps108 rfl hm (fun w => qH (l' := [(0, .bool x1)]) rfl (qg (qa (qe rfl rfl rfl (kw rfl rfl rfl (qd (qc (qz rfl (fun h2 => ?_) (fun h2 => ?_)))))))))
 exact qa (zv (cells := []) rfl st168 rfl (by kernel_rfl) rfl (qkg rfl rfl (qmb _) rfl (qkj rfl rfl (yE .nil))))
 exact qr (qaG () (.inr rfl) (res0 rfl) rfl .nil .nil)
theorem kS (F : Nat) (g1 : Nat) (x2 : Int) (x3 : List Int) (a4 : Option Addr) (c5 : Nat) (x6 : Int) (x7 : Int) (r : ((Int × Int × Int) ⊕ (Int × Int))) (hm : zO F x2 x3 x6 x7 = some r) :
    PureL Tryz.prog 121 [.pointer (some ⟨g1, 0, none⟩), .int .i64 x7] [⟨g1, 137, [.int .i64 x2, .slice a4 x3.length c5, .int .i64 x6]⟩] [] [Sl (eI .u8) 1 (.slice a4 x3.length c5) x3] lostCh Unit (fun (r : (Int × Int × Int)) (_ : Unit) => .int .i64 r.1) (fun (r : (Int × Int × Int)) (_ : Unit) => [⟨g1, 137, [.int .i64 r.2.1, .slice a4 x3.length c5, .int .i64 r.2.2]⟩]) (fun (_ : (Int × Int × Int)) (_ : Unit) => []) (fun (z : (Int × Int)) => [⟨g1, 137, [.int .i64 z.1, .slice a4 x3.length c5, .int .i64 z.2]⟩]) r := by
 refine qcX Tryz.func121 rfl Tryz.ntmps121 rfl hm (fun w => qH (l' := [(0, .pointer (some ⟨g1, 0, none⟩)), (1, .int .i64 x7)]) rfl (qg (qa (qb rfl rfl rfl (qd (qc (qg (zg mixed [] [⟨g1, 137, [.int .i64 x2, .slice a4 x3.length c5, .int .i64 x6]⟩] [Sl (eI .u8) 1 (.slice a4 x3.length c5) x3] (.cons 0 rfl .nil) (q8 0 rfl qE) 16 rfl (qf 0 (.pointer (some ⟨g1, 0, none⟩)) rfl rfl rfl (qj rfl) (qf 1 (.pointer (some ⟨g1, 0, none⟩)) rfl rfl rfl (qj rfl) (qf 2 (.pointer (some ⟨g1, 0, none⟩)) rfl rfl rfl (qt rfl qgA) (qP 3 (.agg #[.int .i64 x2, .slice a4 x3.length c5]) rfl rfl rfl (qQ (i := 0) rfl tf29 rfl rfl (by simp) rfl) ?_))))))))))))
 refine qf 4 (.pointer (some ⟨g1, 0, none⟩)) rfl rfl rfl (qj rfl) (qf 5 (.pointer (some ⟨g1, 0, none⟩)) rfl rfl rfl (qj rfl) (qf 6 (.pointer (some ⟨g1, 2, none⟩)) rfl rfl rfl (qt rfl qcr) (qP 7 (.int .i64 x6) rfl rfl rfl (qQ (i := 0) rfl tf3 rfl rfl (fun _ => rfl) rfl) (qI 8 rfl (by kernel_rfl) rfl (qx ent82 rfl rfl rfl (fun x9 e9 => qbO F x2 x3 a4 c5 x6 x9 e9) (.consF 0 rfl .nil) (fun x9 e9 => ?_))))))
 intro _
 refine qd (qF (.cons 0 rfl .nil) (q8 0 rfl qE) (qf 9 (.tuple #[.int .u64 x9.1, .int .i64 x9.2.1, .int .i64 x9.2.2]) rfl rfl rfl (qj rfl) (qf 10 (.int .u64 x9.1) rfl rfl rfl (qj rfl) (qf 11 (.int .i64 x9.2.1) rfl rfl rfl (qj rfl) (qf 12 (.int .i64 x9.2.2) rfl rfl rfl (qj rfl) (qf 13 (.int .u64 x9.1) rfl rfl rfl (qj rfl) (qf 14 (.int .i64 x9.2.1) rfl rfl rfl (qj rfl) (qf 15 (.int .i64 x9.2.2) rfl rfl rfl (qj rfl) (qO (by kernel_rfl) (zm (qc (qg ?_)) (by intro c h; cases h)))))))))))
 refine qa (qe rfl rfl rfl (ku rfl rfl rfl rfl (qe rfl rfl rfl (zS 5 ((x9.2.2 : Int) == 0) [(0, .pointer (some ⟨g1, 0, none⟩)), (5, .int .u64 x9.1), (6, .int .i64 x9.2.1), (28, .bool (((x9.2.2 : Int) == 0) && (decide (x9.1 ≤ (iconv .u64 x7)))))] (fun h10 => ?_) (fun h10 => ?_) ?_))))
 exact qy (os := _) rfl (zA (k := 23) rfl h10 (qe rfl rfl rfl (qe rfl rfl rfl (zQ rfl Tryz.underlying3 Tryz.underlying50 rfl rfl (qcC rfl rfl rfl rfl (qG (b := true) rfl rfl rfl rfl (qC (d := 28) (v := .bool (((x9.2.2 : Int) == 0) && (decide (x9.1 ≤ (iconv .u64 x7))))) rfl (by rw [h10]; simp only [Bool.true_and]) (qd (qT (qk rfl (qk rfl (qk rfl (qk rfl zd)))))))))))))
 exact qy (os := _) rfl (zz (k := 23) rfl h10 (qn rfl rfl rfl (qn rfl rfl rfl (qn rfl rfl rfl (qn rfl rfl rfl (qG (b := false) rfl rfl rfl rfl (qC (d := 28) (v := .bool (((x9.2.2 : Int) == 0) && (decide (x9.1 ≤ (iconv .u64 x7))))) rfl (by rw [h10]; simp only [Bool.false_and]) (qd (qT (qk rfl (qk rfl (qk rfl (qk rfl zd)))))))))))))
 refine qy (os := _) rfl (kD ent108 rfl rfl rfl (fun x11 e11 => vw F (((x9.2.2 : Int) == 0) && (decide (x9.1 ≤ (iconv .u64 x7)))) x11 e11) .nil .nil .nil (fun x12 _ => ?_) (fun x11 e11 => ?_))
 exact zi (yE (.cons 0 rfl .nil))
 intro _
 refine qd (qc (qg (qa (qe rfl rfl rfl (qe rfl rfl rfl (qN rfl rfl rfl (qi rfl rfl qcr rfl (qu (i := 0) rfl rfl rfl tf3 rfl rfl rfl rfl rfl (qd (qc (qg (qa ?_))))))))))))
 exact qe rfl rfl rfl (zQ rfl Tryz.underlying50 Tryz.underlying3 rfl rfl (qb rfl rfl rfl (qd (qc (qs (qaG () (.inl rfl) (res1 rfl rfl) rfl (.cons 0 rfl .nil) .nil))))))
theorem qfE (F : Nat) (x1 : List Int) (a2 : Option Addr) (c3 : Nat) (x4 : Int) (r : Int) (hm : qaT F x1 x4 = some r) :
    Pure Tryz.prog 136 [.slice a2 x1.length c3, .int .i64 x4] [Sl (eI .i64) 1 (.slice a2 x1.length c3) x1] Unit (fun _ => .int .i64 r) (fun _ => []) (fun _ => []) := by
 refine qS Tryz.func136 rfl Tryz.ntmps136 rfl hm (fun w => qH (l' := [(0, .slice a2 x1.length c3), (1, .int .i64 x4)]) rfl (qg (qa (qb rfl rfl rfl (qd (qc (qg (qg (qa (qe rfl rfl rfl (qX rfl Tryz.underlying37 rfl rfl (qe rfl rfl rfl ?_))))))))))))
 refine qL rfl rfl rfl rfl (zG rfl rfl rfl rfl (qd (qc (qz rfl (fun h195 => ?_) (fun h195 => ?_)))))
 exact qg (qa (qb rfl rfl rfl (qd (qc (qs (qp (qq () (res1 rfl rfl))))))))
 refine qr (qc (qg (qa (qb rfl rfl rfl (qd (qc (qK (fun ((x99, _) : (Int × Unit)) => [(1, .int .i64 x4), (5, .int .i64 x99)]) (fun ((x99, _) : (Int × Unit)) => []) (fun ((x99, _) : (Int × Unit)) => []) (fun ((x99, _) : (Int × Unit)) => []) (fun ((x99, _) : (Int × Unit)) => qao F x4 x99) ?_ ?_)))))))
 refine qg (qa (qe rfl rfl rfl (qX rfl Tryz.underlying37 rfl rfl (qe rfl rfl rfl (qd (qc (qB (q7 (fun (((x132, x133), _) : ((Int × Int) × Unit)) => [(1, .int .i64 x4), (5, .int .i64 x132), (13, .slice a2 x1.length c3), (14, .int .i64 (x1.length : Int)), (15, .int .i64 x133)]) (fun (((x132, x133), _) : ((Int × Int) × Unit)) => []) (fun (((x132, x133), _) : ((Int × Int) × Unit)) => []) (fun (((x132, x133), _) : ((Int × Int) × Unit)) => [Sl (eI .i64) 1 (.slice a2 x1.length c3) x1]) (fun k (s : ((Int × Int) × Unit)) => kH F x1 x4 k s.1) ((0, 0), ()) F ?_ (hF := (qo 0 rfl qA))))))))))
 intro k164
 rintro ⟨⟨x132, x133⟩, _⟩
 try dsimp only
 refine zB (m' := ji F x1 x4 (kH F x1 x4 k164) x132 x133) rfl (qg (qa (qZ rfl rfl rfl rfl (qd (qc (qg (qz rfl (fun h194 => ?_) (fun h194 => ?_))))))))
 refine qr (qc (qg (qB (qg (qa (qe rfl rfl rfl (zZ (j := 0) (zb .i64) (by decide) rfl Tryz.underlying37 tf3 rfl rfl rfl rfl (fun x180 e180 b181 o182 => zU (j := 0) rfl rfl tf3 rfl rfl (fun _ => rfl) rfl rfl (qb rfl rfl rfl (qb rfl rfl rfl (qd (qc ?_))))))))))))
 refine qg (qg (qa (qe rfl rfl rfl (qZ rfl rfl rfl rfl (qe rfl rfl rfl (vt 7 (fun ((x190, _) : (Bool × Unit)) => [(1, .int .i64 x4), (5, .int .i64 x132), (7, .int .i64 x180), (13, .slice a2 x1.length c3), (14, .int .i64 (x1.length : Int)), (15, .int .i64 x133), (29, .bool x190)]) (fun ((x190, _) : (Bool × Unit)) => []) (fun ((x190, _) : (Bool × Unit)) => []) (fun ((x190, _) : (Bool × Unit)) => [Sl (eI .i64) 1 (.slice a2 x1.length c3) x1]) (fun ((x190, _) : (Bool × Unit)) => jk F (kH F x1 x4 k164) x4 x132 x133 x180 x190) ?_ ?_))))))
 refine qy (os := _) rfl (qba (fun h188 => ?_) (fun h188 => ?_))
 exact zA (k := 22) rfl h188 (qn rfl rfl rfl (qn rfl rfl rfl (qn rfl rfl rfl (qn rfl rfl rfl (qn rfl rfl rfl (qn rfl rfl rfl (qG (b := true) rfl rfl rfl rfl (qd (qm (true, ()) (hF := (qo 1 rfl qA)))))))))))
 refine zz (k := 22) rfl h188 (qe rfl rfl rfl (qZ rfl rfl rfl rfl (qe rfl rfl rfl (zS 3 (decide (x180 < 1)) [(1, .int .i64 x4), (5, .int .i64 x132), (13, .slice a2 x1.length c3), (14, .int .i64 (x1.length : Int)), (15, .int .i64 x133), (7, .int .i64 x180), (22, .bool false), (23, .int .i64 x180), (24, .bool (decide (x180 < 1))), (25, .bool (decide (x180 < 1))), (28, .bool ((decide (x180 < 1)) && (decide (0 < x133))))] (fun h193 => ?_) (fun h193 => ?_) ?_))))
 exact qy (os := _) rfl (zA (k := 25) rfl h193 (qe rfl rfl rfl (zG rfl rfl rfl rfl (qG (b := true) rfl rfl rfl rfl (qC (d := 28) (v := .bool ((decide (x180 < 1)) && (decide (0 < x133)))) rfl (by rw [h193]; simp only [Bool.true_and]) (qC (d := 25) (v := .bool (decide (x180 < 1))) rfl (by rw [h193] <;> rfl) (qd (qT (qk rfl (qk rfl (qk rfl (qk rfl (qk rfl (qk rfl (qk rfl (qk rfl (qk rfl (qk rfl (qk rfl zd)))))))))))))))))))
 exact qy (os := _) rfl (zz (k := 25) rfl h193 (qn rfl rfl rfl (qn rfl rfl rfl (qG (b := false) rfl rfl rfl rfl (qC (d := 28) (v := .bool ((decide (x180 < 1)) && (decide (0 < x133)))) rfl (by rw [h193]; simp only [Bool.false_and]) (qC (d := 25) (v := .bool (decide (x180 < 1))) rfl (by rw [h193] <;> rfl) (qd (qT (qk rfl (qk rfl (qk rfl (qk rfl (qk rfl (qk rfl (qk rfl (qk rfl (qk rfl (qk rfl (qk rfl zd)))))))))))))))))))
 exact qy (os := _) rfl (qG (b := false) rfl rfl rfl rfl (qd (qm (((decide (x180 < 1)) && (decide (0 < x133))), ()) (hF := (qo 1 rfl qA)))))
 rintro ⟨x190, _⟩
 try dsimp only
 refine qy (os := _) rfl (qd (qc (qz rfl (fun h192 => ?_) (fun h192 => ?_))))
 exact qg (qa (qb rfl rfl rfl (qd (qc (qs (qp (qM (qp (qp (qM (qp (qq () (res1 rfl rfl)))))))))))))
 refine qr (qc (qa (qe rfl rfl rfl (qe rfl rfl rfl (qe rfl rfl rfl (qL rfl rfl rfl rfl (qcE rfl rfl rfl rfl (qL rfl rfl rfl rfl (qe rfl rfl rfl (qL rfl rfl rfl rfl (qcE rfl rfl rfl rfl (qb rfl rfl rfl ?_))))))))))))
 exact jT (fun x191 e191 => qC (d := 5) (v := .int .i64 x191) rfl (by rw [e191] <;> rfl) (qd (qU (qc (qa (qL rfl rfl rfl rfl (qe rfl rfl rfl (qd (qW ((x191, iadd .i64 x133 1), ()) (hF := (qo 0 rfl qA)))))))))))
 exact zj (qD (qD (zk (qm (x132, ())))))
 rintro ⟨x99, _⟩
 try dsimp only
 refine qg (qg (qa (qe rfl rfl rfl (qe rfl rfl rfl (zG rfl rfl rfl rfl (qd (qc (qz rfl (fun h101 => ?_) (fun h101 => ?_)))))))))
 exact qg (qa (qb rfl rfl rfl (qd (qc (qs (qp (qq () (res1 rfl rfl))))))))
 exact qr (qc (qg (qa (qb rfl rfl rfl (qd (qc (qs (qq () (res1 rfl rfl)))))))))
theorem qeW (F : Nat) (x1 : List Int) (a2 : Option Addr) (c3 : Nat) (x4 : List Int) (a5 : Option Addr) (c6 : Nat) (r : List Int) (hm : qbD F x1 x4 = some r) :
    Pure Tryz.prog 137 [.slice a2 x1.length c3, .slice a5 x4.length c6] [Sl (eI .i64) 1 (.slice a2 x1.length c3) x1, Sl (eI .i64) 1 (.slice a5 x4.length c6) x4] (Option Addr × Nat) (fun g => .slice g.1 r.length g.2) (fun g => [Ro (eI .i64) 3 1 (.slice g.1 r.length g.2) r]) (fun _ => []) := by
 refine qS Tryz.func137 rfl Tryz.ntmps137 rfl hm (fun w => qH (l' := [(0, .slice a2 x1.length c3), (1, .slice a5 x4.length c6)]) rfl (qg (qa (qb rfl rfl rfl (qd (qc (qg (qa (qb rfl rfl rfl (qd (qc (qg ?_))))))))))))
 refine qa (qb rfl rfl rfl (qd (qc (qK (fun (((x158, x161, x162), (a156, c157, a159, c160)) : ((List Int × List Int × Bool) × (Option Addr × Nat × Option Addr × Nat))) => [(0, .slice a156 x158.length c157), (5, .slice a159 x161.length c160), (6, .bool x162)]) (fun (((x158, x161, x162), (a156, c157, a159, c160)) : ((List Int × List Int × Bool) × (Option Addr × Nat × Option Addr × Nat))) => []) (fun (((x158, x161, x162), (a156, c157, a159, c160)) : ((List Int × List Int × Bool) × (Option Addr × Nat × Option Addr × Nat))) => [Ro (eI .i64) 3 1 (.slice a159 x161.length c160) x161]) (fun (((x158, x161, x162), (a156, c157, a159, c160)) : ((List Int × List Int × Bool) × (Option Addr × Nat × Option Addr × Nat))) => [Sl (eI .i64) 1 (.slice a156 x158.length c157) x158]) (fun (((x158, x161, x162), _) : ((List Int × List Int × Bool) × (Option Addr × Nat × Option Addr × Nat))) => qap F x158 x161 x162) ?_ ?_))))
 refine qg (qa (qe rfl rfl rfl (qX rfl Tryz.underlying37 rfl rfl (qe rfl rfl rfl (qd (qc (qB (vM Int (eI .i64) 3 1 (q7 (fun (((x217, x220, x221, x222), (a215, c216, a218, c219)) : ((List Int × List Int × Bool × Int) × (Option Addr × Nat × Option Addr × Nat))) => [(0, .slice a215 x217.length c216), (5, .slice a218 x220.length c219), (6, .bool x221), (9, .slice a5 x4.length c6), (10, .int .i64 (x4.length : Int)), (11, .int .i64 x222)]) (fun (((x217, x220, x221, x222), (a215, c216, a218, c219)) : ((List Int × List Int × Bool × Int) × (Option Addr × Nat × Option Addr × Nat))) => []) (fun (((x217, x220, x221, x222), (a215, c216, a218, c219)) : ((List Int × List Int × Bool × Int) × (Option Addr × Nat × Option Addr × Nat))) => [Ro (eI .i64) 3 1 (.slice a218 x220.length c219) x220]) (fun (((x217, x220, x221, x222), (a215, c216, a218, c219)) : ((List Int × List Int × Bool × Int) × (Option Addr × Nat × Option Addr × Nat))) => [Sl (eI .i64) 1 (.slice a215 x217.length c216) x217, Sl (eI .i64) 1 (.slice a5 x4.length c6) x4]) (fun k (s : ((List Int × List Int × Bool × Int) × (Option Addr × Nat × Option Addr × Nat))) => kB F x4 k s.1) ((x1, ([] : List Int), true, 0), (a2, c3, none, 0)) F ?_ (hR := (.cons 0 rfl .nil)) (hF := (qo 0 rfl (qo 1 rfl qA))))))))))))
 intro k271
 rintro ⟨⟨x217, x220, x221, x222⟩, ⟨a215, c216, a218, c219⟩⟩
 try dsimp only
 refine zB (m' := vE F x4 (kB F x4 k271) x217 x220 x221 x222) rfl (qg (qa (qZ rfl rfl rfl rfl (qd (qc (qg (qz rfl (fun h319 => ?_) (fun h319 => ?_))))))))
 refine qr (qc (qg (qB (qg (qa (zZ (j := 1) (zb .i64) (by decide) rfl Tryz.underlying37 tf3 rfl rfl rfl rfl (fun x296 e296 b297 o298 => zU (j := 0) rfl rfl tf3 rfl rfl (fun _ => rfl) rfl rfl (qb rfl rfl rfl (qd (qc (qK (fun ((x308, (a306, c307)) : (List Int × (Option Addr × Nat))) => [(0, .slice a215 x217.length c216), (5, .slice a306 x308.length c307), (6, .bool x221), (8, .int .i64 x296), (9, .slice a5 x4.length c6), (10, .int .i64 (x4.length : Int)), (11, .int .i64 x222)]) (fun ((x308, (a306, c307)) : (List Int × (Option Addr × Nat))) => []) (fun ((x308, (a306, c307)) : (List Int × (Option Addr × Nat))) => [Ro (eI .i64) 3 1 (.slice a306 x308.length c307) x308]) (fun ((x308, (a306, c307)) : (List Int × (Option Addr × Nat))) => [Sl (eI .i64) 1 (.slice a215 x217.length c216) x217, Sl (eI .i64) 1 (.slice a5 x4.length c6) x4]) (fun ((x308, _) : (List Int × (Option Addr × Nat))) => vF F (kB F x4 k271) x217 x221 x222 x296 x308) ?_ ?_)))))))))))
 refine qg (qa (qe rfl rfl rfl (qd (qc (qz rfl (fun h318 => ?_) (fun h318 => ?_))))))
 exact qa (qe rfl rfl rfl (qe rfl rfl rfl (qe rfl rfl rfl (qjD (j := 1) (zb .i64) rfl Tryz.underlying37 tf3 rfl rfl rfl rfl rfl (fun x312 e312 a313 c314 => yp 0 (zb .i64) rfl Tryz.underlying37 tf3 rfl rfl rfl rfl rfl (.inr ⟨0, rfl⟩) rfl rfl (fun x315 e315 a316 c317 => qb rfl rfl rfl (qd (qm (x315, (a316, c317)) (hR := (.cons 0 rfl .nil)) (hF := (qo 2 rfl (qo 3 rfl qA)))))))))))
 exact qr (qm (x220, (a218, c219)) (hR := (.cons 0 rfl .nil)) (hF := (qo 1 rfl (qo 2 rfl qA))))
 rintro ⟨x308, ⟨a306, c307⟩⟩
 try dsimp only
 refine qa (qe rfl rfl rfl (qe rfl rfl rfl (qjD (j := 0) (zb .i64) rfl Tryz.underlying37 tf3 rfl rfl rfl rfl rfl (fun x309 e309 a310 c311 => qe rfl rfl rfl (kw rfl rfl rfl (qb rfl rfl rfl (qb rfl rfl rfl (qd (qU (qc (qa (qL rfl rfl rfl rfl ?_))))))))))))
 exact qe rfl rfl rfl (qd (qW ((x309, x308, (!x221), iadd .i64 x222 1), (a310, c311, a306, c307)) (hR := (.cons 0 rfl .nil)) (hF := (qo 0 rfl (qo 2 rfl qA)))))
 exact zj (qD (qD (zk (qm ((x217, x220, x221), (a215, c216, a218, c219)) (hR := (.cons 0 rfl .nil)) (hF := (qo 0 rfl qA))))))
 rintro ⟨⟨x158, x161, x162⟩, ⟨a156, c157, a159, c160⟩⟩
 try dsimp only
 refine qK (fun ((x169, (a167, c168)) : (List Int × (Option Addr × Nat))) => [(5, .slice a167 x169.length c168)]) (fun ((x169, (a167, c168)) : (List Int × (Option Addr × Nat))) => []) (fun ((x169, (a167, c168)) : (List Int × (Option Addr × Nat))) => [Ro (eI .i64) 3 1 (.slice a167 x169.length c168) x169]) (fun ((x169, (a167, c168)) : (List Int × (Option Addr × Nat))) => []) (fun ((x169, _) : (List Int × (Option Addr × Nat))) => jl F x169) ?_ ?_
 refine qg (qa (qe rfl rfl rfl (qd (qc (qz rfl (fun h173 => ?_) (fun h173 => ?_))))))
 exact qa (qe rfl rfl rfl (qe rfl rfl rfl (yp 0 (zb .i64) rfl Tryz.underlying37 tf3 rfl rfl rfl rfl rfl (.inr ⟨0, rfl⟩) rfl rfl (fun x170 e170 a171 c172 => qb rfl rfl rfl (qd (qm (x170, (a171, c172)) (hR := (.cons 0 rfl .nil))))))))
 exact qr (qm (x161, (a159, c160)) (hR := (.cons 0 rfl .nil)))
 rintro ⟨x169, ⟨a167, c168⟩⟩
 try dsimp only
 exact qg (qa (qe rfl rfl rfl (qb rfl rfl rfl (qd (qc (qs (qq (a167, c168) (res1 rfl rfl) (fun h => by subst h; exact (.cons 0 rfl .nil)))))))))
theorem qgp (F : Nat) (x1 : List Int) (a2 : Option Addr) (c3 : Nat) (x4 : List Int) (a5 : Option Addr) (c6 : Nat) (r : (List Int × Int)) (hm : qbg F x1 x4 = some r) :
    Pure Tryz.prog 122 [.slice a2 x1.length c3, .slice a5 x4.length c6] [Sl (eI .i64) 1 (.slice a2 x1.length c3) x1, Sl (eI .i64) 1 (.slice a5 x4.length c6) x4] (Option Addr × Nat) (fun g => .tuple #[.slice g.1 r.1.length g.2, .int .i64 r.2]) (fun g => [Ro (eI .i64) 3 1 (.slice g.1 r.1.length g.2) r.1]) (fun _ => []) := by
 refine qS Tryz.func122 rfl Tryz.ntmps122 rfl hm (fun w => qH (l' := [(0, .slice a2 x1.length c3), (1, .slice a5 x4.length c6)]) rfl (qg (qa (qb rfl rfl rfl (qb rfl rfl rfl (qd (qc (qg (qa (qe rfl rfl rfl (qx ent47 rfl rfl rfl (fun x7 e7 => qae F x1 a2 c3 x7 e7) (.consF 0 rfl .nil) (fun x7 e7 => ?_))))))))))))
 intro _
 refine qb rfl rfl rfl (qd (qc (qK (fun ((x10, _) : (Int × Unit)) => [(0, .slice a2 x1.length c3), (1, .slice a5 x4.length c6), (6, .int .i64 x10)]) (fun ((x10, _) : (Int × Unit)) => []) (fun ((x10, _) : (Int × Unit)) => []) (fun ((x10, _) : (Int × Unit)) => [Sl (eI .i64) 1 (.slice a2 x1.length c3) x1, Sl (eI .i64) 1 (.slice a5 x4.length c6) x4]) (fun ((x10, _) : (Int × Unit)) => vR F x1 x4 x10) ?_ ?_)))
 refine qg (qa (qe rfl rfl rfl (ku rfl rfl rfl rfl (qd (qc (qz rfl (fun h17 => ?_) (fun h17 => ?_)))))))
 refine qa (qe rfl rfl rfl (qe rfl rfl rfl (qX rfl Tryz.underlying37 rfl rfl (qx ent136 rfl rfl rfl (fun x16 e16 => qfE F x4 a5 c6 (x1.length : Int) x16 e16) (.consF 1 rfl .nil) (fun x16 e16 => ?_)))))
 intro _
 exact qb rfl rfl rfl (qd (qm (x16, ()) (hF := (qo 0 rfl (qo 1 rfl qA)))))
 exact qr (qm (x7, ()) (hF := (qo 0 rfl (qo 1 rfl qA))))
 rintro ⟨x10, _⟩
 try dsimp only
 refine qg (qg (qa (qe rfl rfl rfl (kQ rfl rfl rfl rfl (qd (qc (qz rfl (fun h15 => ?_) (fun h15 => ?_))))))))
 exact qg (qa (qe rfl rfl rfl (qb rfl rfl rfl (qb rfl rfl rfl (qd (qc (qs (qp (q3 Int (eI .i64) 3 1 (qq (none, 0) (res2 rfl rfl rfl) (fun h => by subst h; exact (.cons 0 rfl .nil))))))))))))
 refine qr (qc (qg (qa (qe rfl rfl rfl (qe rfl rfl rfl (qx ent137 rfl rfl rfl (fun x12 e12 => qeW F x1 a2 c3 x4 a5 c6 x12 e12) (.consF 0 rfl (.consF 1 rfl .nil)) (fun x12 e12 => ?_)))))))
 rintro ⟨a13, c14⟩
 exact qb rfl rfl rfl (qb rfl rfl rfl (qd (qc (qs (qq (a13, c14) (res2 rfl rfl rfl) (fun h => by subst h; exact (.cons 0 rfl .nil)))))))
theorem qcO (F : Nat) (g1 : Nat) (x2 : Int) (x3 : List Int) (a4 : Option Addr) (c5 : Nat) (x6 : Int) (x7 : Int) (r : ((List Int × Int × Int) ⊕ (Int × Int))) (hm : vd F x2 x3 x6 x7 = some r) :
    PureL Tryz.prog 123 [.pointer (some ⟨g1, 0, none⟩), .int .i64 x7] [⟨g1, 137, [.int .i64 x2, .slice a4 x3.length c5, .int .i64 x6]⟩] [] [Sl (eI .u8) 1 (.slice a4 x3.length c5) x3] lostCh (Option Addr × Nat) (fun (r : (List Int × Int × Int)) (g : (Option Addr × Nat)) => .slice g.1 r.1.length g.2) (fun (r : (List Int × Int × Int)) (_ : (Option Addr × Nat)) => [⟨g1, 137, [.int .i64 r.2.1, .slice a4 x3.length c5, .int .i64 r.2.2]⟩]) (fun (r : (List Int × Int × Int)) (g : (Option Addr × Nat)) => [Ro (eI .i64) 3 1 (.slice g.1 r.1.length g.2) r.1]) (fun (z : (Int × Int)) => [⟨g1, 137, [.int .i64 z.1, .slice a4 x3.length c5, .int .i64 z.2]⟩]) r := by
 refine qcX Tryz.func123 rfl Tryz.ntmps123 rfl hm (fun w => qH (l' := [(0, .pointer (some ⟨g1, 0, none⟩)), (1, .int .i64 x7)]) rfl (qg (qa (qb rfl rfl rfl (qd (qc (qg (qa (qe rfl rfl rfl (qe rfl rfl rfl (qL rfl rfl rfl rfl (kD ent121 rfl rfl rfl (fun x8 e8 => kS F g1 x2 x3 a4 c5 x6 (iadd .i64 x7 1) x8 e8) (.cons 0 rfl .nil) .nil (.consF 0 rfl .nil) (fun x9 _ => ?_) (fun x8 e8 => ?_)))))))))))))
 exact zi (yE (.cons 0 rfl .nil))
 intro _
 refine qlE (zb .i64) rfl Tryz.underlying37 tf3 rfl rfl rfl rfl rfl rfl rfl (fun x10 e10 a11 c12 => qb rfl rfl rfl (qd (qc (qK (fun (((x72, x73, x74), _) : ((List Int × Int × Int) × Unit)) => [(5, .slice a11 x72.length c12)]) (fun (((x72, x73, x74), _) : ((List Int × Int × Int) × Unit)) => [⟨g1, 137, [.int .i64 x73, .slice a4 x3.length c5, .int .i64 x74]⟩]) (fun (((x72, x73, x74), _) : ((List Int × Int × Int) × Unit)) => [Ro (eI .i64) 3 1 (.slice a11 x72.length c12) x72]) (fun (((x72, x73, x74), _) : ((List Int × Int × Int) × Unit)) => [Sl (eI .u8) 1 (.slice a4 x3.length c5) x3]) (fun (((x72, x73, x74), _) : ((List Int × Int × Int) × Unit)) => vo F x72 x73 x74) ?_ ?_))))
 refine qg (qa (qe rfl rfl rfl (qX rfl Tryz.underlying37 rfl rfl (qe rfl rfl rfl (qd (qc (qB (q7 (fun (((x93, x94, x95, x96), _) : ((List Int × Int × Int × Int) × Unit)) => [(0, .pointer (some ⟨g1, 0, none⟩)), (1, .int .i64 x7), (5, .slice a11 x93.length c12), (13, .int .i64 (x10.length : Int)), (14, .int .i64 x94)]) (fun (((x93, x94, x95, x96), _) : ((List Int × Int × Int × Int) × Unit)) => [⟨g1, 137, [.int .i64 x95, .slice a4 x3.length c5, .int .i64 x96]⟩]) (fun (((x93, x94, x95, x96), _) : ((List Int × Int × Int × Int) × Unit)) => [Ro (eI .i64) 3 1 (.slice a11 x93.length c12) x93]) (fun (((x93, x94, x95, x96), _) : ((List Int × Int × Int × Int) × Unit)) => [Sl (eI .u8) 1 (.slice a4 x3.length c5) x3]) (fun k (s : ((List Int × Int × Int × Int) × Unit)) => kf F x3 x7 x10 k s.1) ((x10, 0, x8.2.1, x8.2.2), ()) F ?_ (hB := (.cons 0 rfl .nil)) (hR := (.cons 0 rfl .nil)) (hF := (qo 0 rfl qA))))))))))
 intro k115
 rintro ⟨⟨x93, x94, x95, x96⟩, _⟩
 try dsimp only
 refine zB (m' := yl F x3 x7 x10 (kf F x3 x7 x10 k115) x93 x94 x95 x96) rfl (qg (qa (qZ rfl rfl rfl rfl (qd (qc (qg (qz rfl (fun h133 => ?_) (fun h133 => ?_))))))))
 refine qr (qc (qg (qB (qg (qa (qe rfl rfl rfl (qb rfl rfl rfl (qd (qc (qa (qe rfl rfl rfl (qe rfl rfl rfl ?_))))))))))))
 refine qe rfl rfl rfl (qe rfl rfl rfl (kD ent121 rfl rfl rfl (fun x125 e125 => kS F g1 x95 x3 a4 c5 x96 x7 x125 e125) (.cons 0 rfl .nil) .nil (.consF 0 rfl .nil) (fun x126 _ => ?_) (fun x125 e125 => ?_)))
 exact qa6 (zi (zi (qa6 (zi (yE (.cons 0 rfl .nil))))))
 intro _
 refine qe rfl rfl rfl (qcE rfl rfl rfl rfl (qL rfl rfl rfl rfl (j8 (j := 0) rfl Tryz.underlying37 tf3 rfl rfl rfl rfl (fun x127 e127 g128 h129 => qdC (j := 0) (y' := iadd .i64 x125.1 (imin x94 1)) (zb .i64) rfl rfl rfl tf3 rfl h129 (kj e127).2.1 rfl (fun x130 e130 h131 => ?_)))))
 have h132 : x130.length = x93.length := by rw [← e130, List.length_set]
 exact qC (d := 5) (v := .slice a11 x130.length c12) rfl h131 (qC (d := 17) (v := .slice a11 x130.length c12) rfl h131 (qd (qU (qc (qa (qL rfl rfl rfl rfl (qe rfl rfl rfl (qd (qW ((x130, iadd .i64 x94 1, x125.2.1, x125.2.2), ()) (hB := (.cons 0 rfl .nil)) (hR := (.cons 0 rfl .nil)) (hF := (qo 0 rfl qA)))))))))))
 exact zj (qD (qD (zk (qm ((x93, x95, x96), ()) (hB := (.cons 0 rfl .nil)) (hR := (.cons 0 rfl .nil)) (hF := (qo 0 rfl qA))))))
 rintro ⟨⟨x72, x73, x74⟩, _⟩
 try dsimp only
 exact qg (qa (qe rfl rfl rfl (qb rfl rfl rfl (qd (qc (qs (qaG (a11, c12) (.inl rfl) (res1 rfl rfl) rfl (.cons 0 rfl .nil) (.cons 0 rfl .nil))))))))
theorem qcG (F : Nat) (x1 : Int) (r : Int) (hm : vV F x1 = some r) :
    Pure Tryz.prog 138 [.int .u64 x1] [] Unit (fun _ => .int .i64 r) (fun _ => []) (fun _ => []) := by
 refine qS Tryz.func138 rfl Tryz.ntmps138 rfl hm (fun w => qH (l' := [(0, .int .u64 x1)]) rfl (qg (qa (qb rfl rfl rfl (qd (qc (qg (qa (qe rfl rfl rfl (qbZ rfl rfl rfl rfl rfl (zQ rfl Tryz.underlying50 Tryz.underlying2 rfl rfl (qe rfl rfl rfl ?_))))))))))))
 exact qeP rfl rfl rfl rfl (zQ rfl Tryz.underlying50 Tryz.underlying2 rfl rfl (qmB rfl rfl rfl (qjH rfl rfl rfl rfl (qb rfl rfl rfl (jT (fun x2 e2 => qC (d := 2) (v := .int .i64 x2) rfl (by rw [e2] <;> rfl) (qd (qc (qs (qq () (res1 rfl rfl)))))))))))
theorem qdt (F : Nat) (g1 : Nat) (x2 : Int) (x3 : List Int) (a4 : Option Addr) (c5 : Nat) (x6 : Int) (x7 : Int) (x8 : Int) (x9 : Int) (r : ((List (Int × Int) × Int × Int) ⊕ (Int × Int))) (hm : vI F x2 x3 x6 x7 x8 x9 = some r) :
    PureL Tryz.prog 124 [.pointer (some ⟨g1, 0, none⟩), .int .i64 x7, .int .i64 x8, .int .i64 x9] [⟨g1, 137, [.int .i64 x2, .slice a4 x3.length c5, .int .i64 x6]⟩] [] [Sl (eI .u8) 1 (.slice a4 x3.length c5) x3] lostCh (Option Addr × Nat) (fun (r : (List (Int × Int) × Int × Int)) (g : (Option Addr × Nat)) => .slice g.1 r.1.length g.2) (fun (r : (List (Int × Int) × Int × Int)) (_ : (Option Addr × Nat)) => [⟨g1, 137, [.int .i64 r.2.1, .slice a4 x3.length c5, .int .i64 r.2.2]⟩]) (fun (r : (List (Int × Int) × Int × Int)) (g : (Option Addr × Nat)) => [Ro eS141 141 2 (.slice g.1 r.1.length g.2) r.1]) (fun (z : (Int × Int)) => [⟨g1, 137, [.int .i64 z.1, .slice a4 x3.length c5, .int .i64 z.2]⟩]) r := by
 refine qcX Tryz.func124 rfl Tryz.ntmps124 rfl hm (fun w => qH (l' := [(0, .pointer (some ⟨g1, 0, none⟩)), (1, .int .i64 x7), (2, .int .i64 x8), (3, .int .i64 x9)]) rfl (qg (qa (qb rfl rfl rfl (qd (qc (qg (qa (qe rfl rfl rfl (qe rfl rfl rfl (qe rfl rfl rfl (qbr (fun h10 => ?_)))))))))))))
 refine qd3 rfl rfl rfl rfl h10 (kD ent121 rfl rfl rfl (fun x11 e11 => kS F g1 x2 x3 a4 c5 x6 (iquo .i64 x9 x8) x11 e11) (.cons 0 rfl .nil) .nil (.consF 0 rfl .nil) (fun x12 _ => ?_) (fun x11 e11 => ?_))
 exact zi (yE (.cons 0 rfl .nil))
 intro _
 refine qjE qa2 (by decide) rfl Tryz.underlying117 tf141 rfl rfl rfl rfl rfl rfl (fun x13 e13 a14 c15 => qb rfl rfl rfl (qd (qc (qg (qa (qe rfl rfl rfl (qb rfl rfl rfl (qd (qc (qK (fun (((x136, x137, x138), _) : ((List (Int × Int) × Int × Int) × Unit)) => [(9, .slice a14 x136.length c15)]) (fun (((x136, x137, x138), _) : ((List (Int × Int) × Int × Int) × Unit)) => [⟨g1, 137, [.int .i64 x137, .slice a4 x3.length c5, .int .i64 x138]⟩]) (fun (((x136, x137, x138), _) : ((List (Int × Int) × Int × Int) × Unit)) => [Ro eS141 141 2 (.slice a14 x136.length c15) x136]) (fun (((x136, x137, x138), _) : ((List (Int × Int) × Int × Int) × Unit)) => [Sl (eI .u8) 1 (.slice a4 x3.length c5) x3]) (fun (((x136, x137, x138), _) : ((List (Int × Int) × Int × Int) × Unit)) => v7 F x136 x137 x138) ?_ ?_))))))))))
 refine qg (qa (qe rfl rfl rfl (qX rfl Tryz.underlying117 rfl rfl (qe rfl rfl rfl (qd (qc (qB (q7 (fun (((x177, x178, x179, x180, x181), _) : ((List (Int × Int) × Int × Int × Int × Int) × Unit)) => [(0, .pointer (some ⟨g1, 0, none⟩)), (2, .int .i64 x8), (3, .int .i64 x9), (9, .slice a14 x177.length c15), (10, .int .i64 x178), (21, .int .i64 (x13.length : Int)), (22, .int .i64 x179)]) (fun (((x177, x178, x179, x180, x181), _) : ((List (Int × Int) × Int × Int × Int × Int) × Unit)) => [⟨g1, 137, [.int .i64 x180, .slice a4 x3.length c5, .int .i64 x181]⟩]) (fun (((x177, x178, x179, x180, x181), _) : ((List (Int × Int) × Int × Int × Int × Int) × Unit)) => [Ro eS141 141 2 (.slice a14 x177.length c15) x177]) (fun (((x177, x178, x179, x180, x181), _) : ((List (Int × Int) × Int × Int × Int × Int) × Unit)) => [Sl (eI .u8) 1 (.slice a4 x3.length c5) x3]) (fun k (s : ((List (Int × Int) × Int × Int × Int × Int) × Unit)) => zE F x3 x8 x9 x13 k s.1) ((x13, x7, 0, x11.2.1, x11.2.2), ()) F ?_ (hB := (.cons 0 rfl .nil)) (hR := (.cons 0 rfl .nil)) (hF := (qo 0 rfl qA))))))))))
 intro k220
 rintro ⟨⟨x177, x178, x179, x180, x181⟩, _⟩
 try dsimp only
 refine zB (m' := yz F x3 x8 x9 x13 (zE F x3 x8 x9 x13 k220) x177 x178 x179 x180 x181) rfl (qg (qa (qZ rfl rfl rfl rfl (qd (qc (qg (qz rfl (fun h258 => ?_) (fun h258 => ?_))))))))
 refine qr (qc (qg (qB (qg (qa (qe rfl rfl rfl (qb rfl rfl rfl (qd (qc (qg (qa (qe rfl rfl rfl ?_))))))))))))
 refine kD ent121 rfl rfl rfl (fun x240 e240 => kS F g1 x180 x3 a4 c5 x181 2097152 x240 e240) (.cons 0 rfl .nil) .nil (.consF 0 rfl .nil) (fun x241 _ => ?_) (fun x240 e240 => ?_)
 exact zi (qa6 (zi (zi (qa6 (zi (yE (.cons 0 rfl .nil)))))))
 intro _
 refine qb rfl rfl rfl (qd (qc (qK (fun ((x244, _) : (Int × Unit)) => [(0, .pointer (some ⟨g1, 0, none⟩)), (2, .int .i64 x8), (3, .int .i64 x9), (9, .slice a14 x177.length c15), (10, .int .i64 x244), (11, .int .i64 x179), (21, .int .i64 (x13.length : Int)), (22, .int .i64 x179)]) (fun ((x244, _) : (Int × Unit)) => [⟨g1, 137, [.int .i64 x240.2.1, .slice a4 x3.length c5, .int .i64 x240.2.2]⟩]) (fun ((x244, _) : (Int × Unit)) => [Ro eS141 141 2 (.slice a14 x177.length c15) x177]) (fun ((x244, _) : (Int × Unit)) => [Sl (eI .u8) 1 (.slice a4 x3.length c5) x3]) (fun ((x244, _) : (Int × Unit)) => kO F (zE F x3 x8 x9 x13 k220) x3 x8 x9 x177 x179 x240 x244) ?_ ?_)))
 refine qg (qa (qe rfl rfl rfl (ku rfl rfl rfl rfl (qd (qc (qz rfl (fun h257 => ?_) (fun h257 => ?_)))))))
 refine qa (qe rfl rfl rfl (qe rfl rfl rfl (zQ rfl Tryz.underlying3 Tryz.underlying50 rfl rfl (qx ent138 rfl rfl rfl (fun x256 e256 => qcG F (iconv .u64 x240.1) x256 e256) .nil (fun x256 e256 => ?_)))))
 intro _
 exact qL rfl rfl rfl rfl (qb rfl rfl rfl (qd (qm (iadd .i64 x178 x256, ()) (hB := (.cons 0 rfl .nil)) (hR := (.cons 0 rfl .nil)) (hF := (qo 0 rfl qA)))))
 exact qa (qe rfl rfl rfl (qe rfl rfl rfl (qL rfl rfl rfl rfl (qL rfl rfl rfl rfl (qb rfl rfl rfl (qd (qm (iadd .i64 x178 (iadd .i64 x240.1 2), ()) (hB := (.cons 0 rfl .nil)) (hR := (.cons 0 rfl .nil)) (hF := (qo 0 rfl qA)))))))))
 rintro ⟨x244, _⟩
 try dsimp only
 refine qg (qa (qe rfl rfl rfl (qe rfl rfl rfl (qe rfl rfl rfl (qe rfl rfl rfl (qe rfl rfl rfl (kD ent121 rfl rfl rfl (fun x245 e245 => kS F g1 x240.2.1 x3 a4 c5 x240.2.2 x9 x245 e245) (.cons 0 rfl .nil) .nil (.consF 0 rfl .nil) (fun x246 _ => ?_) (fun x245 e245 => ?_))))))))
 exact zi (qa6 (zi (zi (qa6 (zi (yE (.cons 0 rfl .nil)))))))
 intro _
 refine qe rfl rfl rfl (qL rfl rfl rfl rfl (zv (cells := [.int .i64 x244, .int .i64 (iadd .i64 x245.1 x8)]) rfl st141 rfl (by kernel_rfl) rfl (j8 (j := 0) rfl Tryz.underlying117 tf141 rfl rfl rfl rfl (fun x247 e247 g248 h249 => qdC (j := 0) (y' := (x244, iadd .i64 x245.1 x8)) qa2 rfl rfl rfl tf141 rfl h249 (kj e247).2.1 rfl (fun x250 e250 h251 => ?_)))))
 have h252 : x250.length = x177.length := by rw [← e250, List.length_set]
 refine qC (d := 9) (v := .slice a14 x250.length c15) rfl h251 (qC (d := 38) (v := .slice a14 x250.length c15) rfl h251 (qd (qc (qa (qe rfl rfl rfl (qe rfl rfl rfl (qe rfl rfl rfl (j8 (j := 0) rfl Tryz.underlying117 tf141 rfl rfl rfl rfl (fun x253 e253 g254 h255 => qi rfl rfl qbl rfl (qiE (j := 0) (y := x253) (off := 1) qa2 rfl rfl tf3 rfl h255 (kj e253).2.2 rfl (fun _ => rfl) rfl rfl (zJ rfl rfl rfl rfl (qL rfl rfl rfl rfl ?_))))))))))))
 exact qb rfl rfl rfl (qd (qU (qc (qa (qL rfl rfl rfl rfl (qe rfl rfl rfl (qd (qW ((x250, iadd .i64 x244 (isub .i64 x253.2 1), iadd .i64 x179 1, x245.2.1, x245.2.2), ()) (hB := (.cons 0 rfl .nil)) (hR := (.cons 0 rfl .nil)) (hF := (qo 0 rfl qA))))))))))
 exact zj (qD (qD (zk (qm ((x177, x180, x181), ()) (hB := (.cons 0 rfl .nil)) (hR := (.cons 0 rfl .nil)) (hF := (qo 0 rfl qA))))))
 rintro ⟨⟨x136, x137, x138⟩, _⟩
 try dsimp only
 exact qg (qa (qe rfl rfl rfl (qb rfl rfl rfl (qd (qc (qs (qaG (a14, c15) (.inl rfl) (res1 rfl rfl) rfl (.cons 0 rfl .nil) (.cons 0 rfl .nil))))))))
theorem qcK (F : Nat) (x1 : List Int) (a2 : Option Addr) (c3 : Nat) (x4 : Int) (r : List Int) (hm : yL F x1 c3 x4 = some r) :
    PureM Tryz.prog 144 [.slice a2 x1.length c3, .int .i64 x4] [] [Ro (eI .i64) 3 1 (.slice a2 x1.length c3) x1] [] (Option Addr × Nat) (fun g => .slice g.1 r.length g.2) (fun _ => []) (fun g => [Ro (eI .i64) 3 1 (.slice g.1 r.length g.2) r]) := by
 refine kP Tryz.func144 rfl Tryz.ntmps144 rfl hm (fun w => qH (l' := [(0, .slice a2 x1.length c3), (1, .int .i64 x4)]) rfl (qg (qa (qb rfl rfl rfl (qd (qc (qg (qg (qa (qe rfl rfl rfl (qZ rfl rfl rfl rfl (qd ?_))))))))))))
 refine qc (qz rfl (fun h23 => ?_) (fun h23 => ?_))
 exact qh3
 refine qr (qc (qK (fun ((x15, (a13, c14)) : (List Int × (Option Addr × Nat))) => [(0, .slice a13 x15.length c14)]) (fun ((x15, (a13, c14)) : (List Int × (Option Addr × Nat))) => []) (fun ((x15, (a13, c14)) : (List Int × (Option Addr × Nat))) => [Ro (eI .i64) 3 1 (.slice a13 x15.length c14) x15]) (fun ((x15, (a13, c14)) : (List Int × (Option Addr × Nat))) => []) (fun ((x15, _) : (List Int × (Option Addr × Nat))) => vh F x15) ?_ ?_))
 refine qg (qa (qe rfl rfl rfl (qe rfl rfl rfl (qjC rfl Tryz.underlying37 rfl rfl (qe rfl rfl rfl (qX rfl Tryz.underlying37 rfl rfl (zJ rfl rfl rfl rfl (zJ rfl rfl rfl rfl (qb rfl rfl rfl (jT (fun x16 e16 => qC (d := 1) (v := .int .i64 x16) rfl (by rw [e16] <;> rfl) (qd ?_))))))))))))
 refine qc (qg (qa (qe rfl rfl rfl (zG rfl rfl rfl rfl (qd (qc (qz rfl (fun h22 => ?_) (fun h22 => ?_))))))))
 exact qa (qe rfl rfl rfl (qe rfl rfl rfl (qjC rfl Tryz.underlying37 rfl rfl (qh5 (i := 0) (zb .i64) rfl Tryz.underlying37 tf3 rfl rfl rfl rfl (fun x17 e17 => qe rfl rfl rfl (qlz (y := (0 : Int)) 0 (zb .i64) rfl Tryz.underlying37 Tryz.underlying3 tf3 rfl rfl rfl rfl rfl rfl rfl rfl rfl (fun x18 e18 a19 c20 => qe rfl rfl rfl (qX rfl Tryz.underlying37 rfl rfl (qh5 (i := 0) (zb .i64) rfl Tryz.underlying37 tf3 rfl rfl rfl rfl (fun x21 e21 => qb rfl rfl rfl (qd (qm (x21, (a19, c20)) (hR := (.cons 0 rfl .nil))))))))))))))
 exact qr (qm (x1, (a2, c3)) (hR := (.cons 0 rfl .nil)))
 rintro ⟨x15, ⟨a13, c14⟩⟩
 try dsimp only
 exact qg (qa (qe rfl rfl rfl (qb rfl rfl rfl (qd (qc (qs (zr (a13, c14) (res1 rfl rfl) (hR := fun h => by subst h; exact (.cons 0 rfl .nil)))))))))
theorem qaa (F : Nat) (x1 : List (List Int)) (a2 : Option Addr) (c3 : (Nat × List (Option Addr × Nat))) (r : List Int) (hm : zP F x1 = some r) :
    Pure Tryz.prog 127 [.slice a2 x1.length c3.1] [SlN eN37 iN37 1 (.slice a2 x1.length c3.1) x1 c3.2] (Option Addr × Nat) (fun g => .slice g.1 r.length g.2) (fun g => [Ro (eI .i64) 3 1 (.slice g.1 r.length g.2) r]) (fun _ => []) := by
 refine qS Tryz.func127 rfl Tryz.ntmps127 rfl hm (fun w => qH (l' := [(0, .slice a2 x1.length c3.1)]) rfl (qg (qa (qb rfl rfl rfl (qd (qc (qg (qa (qb rfl rfl rfl (qd (qc (qK (fun ((x43, _) : (Int × Unit)) => [(0, .slice a2 x1.length c3.1), (3, .int .i64 x43)]) (fun ((x43, _) : (Int × Unit)) => []) (fun ((x43, _) : (Int × Unit)) => []) (fun ((x43, _) : (Int × Unit)) => [SlN eN37 iN37 1 (.slice a2 x1.length c3.1) x1 c3.2]) (fun ((x43, _) : (Int × Unit)) => kn F x1 x43) ?_ ?_))))))))))))
 refine qg (qa (qe rfl rfl rfl (qX rfl Tryz.underlying22 rfl rfl (qe rfl rfl rfl (qd (qc (qB (q7 (fun (((x168, x169), _) : ((Int × Int) × Unit)) => [(0, .slice a2 x1.length c3.1), (3, .int .i64 x168), (9, .slice a2 x1.length c3.1), (10, .int .i64 (x1.length : Int)), (11, .int .i64 x169)]) (fun (((x168, x169), _) : ((Int × Int) × Unit)) => []) (fun (((x168, x169), _) : ((Int × Int) × Unit)) => []) (fun (((x168, x169), _) : ((Int × Int) × Unit)) => [SlN eN37 iN37 1 (.slice a2 x1.length c3.1) x1 c3.2]) (fun k (s : ((Int × Int) × Unit)) => za F x1 k s.1) ((0, 0), ()) F ?_ (hF := (qo 0 rfl qA))))))))))
 intro k182
 rintro ⟨⟨x168, x169⟩, _⟩
 try dsimp only
 refine zB (m' := q5 F x1 (za F x1 k182) x168 x169) rfl (qg (qa (qZ rfl rfl rfl rfl (qd (qc (qg (qz rfl (fun h194 => ?_) (fun h194 => ?_))))))))
 refine qr (qc (qg (qB (qg (qa (qbK (j := 0) yP (by decide) rfl Tryz.underlying22 tf37 rfl rfl rfl rfl (fun x189 e189 g192 b190 o191 => zU (j := 0) rfl rfl tf37 rfl rfl (fun _ => rfl) rfl rfl (qb rfl rfl rfl (qd (qc (qg (qa ?_))))))))))))
 refine qe rfl rfl rfl (qe rfl rfl rfl (qX rfl Tryz.underlying37 rfl rfl (qL rfl rfl rfl rfl (qb rfl rfl rfl (qd (qc (qg (qa (qe rfl rfl rfl (qZ rfl rfl rfl rfl (qd (qc ?_))))))))))))
 refine qz rfl (fun h193 => ?_) (fun h193 => ?_)
 exact qh3
 exact qr (qU (qc (qa (qL rfl rfl rfl rfl (qe rfl rfl rfl (qd (qW ((iadd .i64 x168 (x189.length : Int), iadd .i64 x169 1), ()) (hF := (qo 2 rfl qA)))))))))
 exact zj (qD (qD (zk (qm (x168, ()) (hF := (qo 0 rfl qA))))))
 rintro ⟨x43, _⟩
 try dsimp only
 refine qg (qa (qe rfl rfl rfl (kv Int (eI .i64) 3 1 (qY ent144 rfl rfl rfl (fun x44 e44 => qcK F ([] : List Int) none 0 x43 x44 e44) .nil (.cons 0 rfl .nil) .nil (fun x44 e44 => ?_)))))
 rintro ⟨a45, c46⟩
 refine qb rfl rfl rfl (qd (qc (qK (fun ((x102, (a100, c101)) : (List Int × (Option Addr × Nat))) => [(6, .slice a100 x102.length c101)]) (fun ((x102, (a100, c101)) : (List Int × (Option Addr × Nat))) => []) (fun ((x102, (a100, c101)) : (List Int × (Option Addr × Nat))) => [Ro (eI .i64) 3 1 (.slice a100 x102.length c101) x102]) (fun ((x102, (a100, c101)) : (List Int × (Option Addr × Nat))) => []) (fun ((x102, _) : (List Int × (Option Addr × Nat))) => yF F x102) ?_ ?_)))
 refine qg (qa (qe rfl rfl rfl (qX rfl Tryz.underlying22 rfl rfl (qe rfl rfl rfl (qd (qc (qB (q7 (fun (((x121, x122), (a119, c120)) : ((List Int × Int) × (Option Addr × Nat))) => [(6, .slice a119 x121.length c120), (25, .slice a2 x1.length c3.1), (26, .int .i64 (x1.length : Int)), (27, .int .i64 x122)]) (fun (((x121, x122), (a119, c120)) : ((List Int × Int) × (Option Addr × Nat))) => []) (fun (((x121, x122), (a119, c120)) : ((List Int × Int) × (Option Addr × Nat))) => [Ro (eI .i64) 3 1 (.slice a119 x121.length c120) x121]) (fun (((x121, x122), (a119, c120)) : ((List Int × Int) × (Option Addr × Nat))) => [SlN eN37 iN37 1 (.slice a2 x1.length c3.1) x1 c3.2]) (fun k (s : ((List Int × Int) × (Option Addr × Nat))) => q9 F x1 k s.1) ((x44, 0), (a45, c46)) F ?_ (hR := (.cons 0 rfl .nil)) (hF := (qo 0 rfl qA))))))))))
 intro k139
 rintro ⟨⟨x121, x122⟩, ⟨a119, c120⟩⟩
 try dsimp only
 refine zB (m' := q4 F x1 (q9 F x1 k139) x121 x122) rfl (qg (qa (qZ rfl rfl rfl rfl (qd (qc (qg (qz rfl (fun h155 => ?_) (fun h155 => ?_))))))))
 refine qr (qc (qg (qB (qg (qa (qbK (j := 0) yP (by decide) rfl Tryz.underlying22 tf37 rfl rfl rfl rfl (fun x148 e148 g151 b149 o150 => zU (j := 0) rfl rfl tf37 rfl rfl (fun _ => rfl) rfl rfl (qb rfl rfl rfl (qd (qc (qa (qe rfl rfl rfl ?_))))))))))))
 exact qe rfl rfl rfl (yp 0 (zb .i64) rfl Tryz.underlying37 tf3 rfl rfl rfl rfl rfl (.inr ⟨1, rfl⟩) rfl rfl (fun x152 e152 a153 c154 => qb rfl rfl rfl (qd (qU (qc (qa (qL rfl rfl rfl rfl (qe rfl rfl rfl (qd (qW ((x152, iadd .i64 x122 1), (a153, c154)) (hR := (.cons 0 rfl .nil)) (hF := (qo 2 rfl qA))))))))))))
 exact zj (qD (qD (zk (qm (x121, (a119, c120)) (hR := (.cons 0 rfl .nil))))))
 rintro ⟨x102, ⟨a100, c101⟩⟩
 try dsimp only
 exact qg (qa (qe rfl rfl rfl (qb rfl rfl rfl (qd (qc (qs (qq (a100, c101) (res1 rfl rfl) (fun h => by subst h; exact (.cons 0 rfl .nil)))))))))
theorem qay (F : Nat) (x1 : List Int) (a2 : Option Addr) (c3 : Nat) (r : List Int) (hm : zL F x1 = some r) :
    PureM Tryz.prog 128 [.slice a2 x1.length c3] [] [Ro (eI .i64) 3 1 (.slice a2 x1.length c3) x1] [] Unit (fun _ => .tuple #[]) (fun _ => []) (fun _ => [Ro (eI .i64) 3 1 (.slice a2 r.length c3) r]) := by
  unfold zL at hm
  split at hm
  · cases hm
    exact qiy Tryz.slices_Sort_int Tryz.slices_Sort_int_none (by assumption)
  · simp at hm
theorem qdc (F : Nat) (x1 : Int) (x2 : Int) (x3 : Int) (r : Bool) (hm : jP F x1 x2 x3 = some r) :
    Pure Tryz.prog 148 [.int .i64 x1, .int .i64 x2, .int .i64 x3] [] Unit (fun _ => .bool r) (fun _ => []) (fun _ => []) := by
 refine qS Tryz.func148 rfl Tryz.ntmps148 rfl hm (fun w => qH (l' := [(0, .int .i64 x1), (1, .int .i64 x2), (2, .int .i64 x3)]) rfl (qg (qa (qb rfl rfl rfl (qd (qc (qg (qa (qe rfl rfl rfl (qe rfl rfl rfl (qaY rfl rfl rfl rfl (qe rfl rfl rfl ?_))))))))))))
 refine zS 4 (decide (x2 ≤ x1)) [(14, .bool ((decide (x2 ≤ x1)) && (decide (x1 ≤ x3))))] (fun h4 => ?_) (fun h4 => ?_) ?_
 exact qy (os := _) rfl (zA (k := 10) rfl h4 (qe rfl rfl rfl (qe rfl rfl rfl (qcC rfl rfl rfl rfl (qG (b := true) rfl rfl rfl rfl (qC (d := 14) (v := .bool ((decide (x2 ≤ x1)) && (decide (x1 ≤ x3)))) rfl (by rw [h4]; simp only [Bool.true_and]) (qd (qT (qk rfl zd)))))))))
 exact qy (os := _) rfl (zz (k := 10) rfl h4 (qn rfl rfl rfl (qn rfl rfl rfl (qn rfl rfl rfl (qG (b := false) rfl rfl rfl rfl (qC (d := 14) (v := .bool ((decide (x2 ≤ x1)) && (decide (x1 ≤ x3)))) rfl (by rw [h4]; simp only [Bool.false_and]) (qd (qT (qk rfl zd)))))))))
 exact qy (os := _) rfl (qb rfl rfl rfl (qd (qc (qs (qq () (res1 rfl rfl))))))
set_option maxHeartbeats 4000000 in
theorem qfG (F : Nat) (x1 : List (Int × Int)) (a2 : Option Addr) (c3 : Nat) (r : (List Int × Int)) (hm : qaV F x1 = some r) :
    Pure Tryz.prog 139 [.slice a2 x1.length c3] [Sl eS141 2 (.slice a2 x1.length c3) x1] (Option Addr × Nat) (fun g => .tuple #[.slice g.1 r.1.length g.2, .int .i64 r.2]) (fun g => [Ro (eI .i64) 3 1 (.slice g.1 r.1.length g.2) r.1]) (fun _ => []) := by
 refine qS Tryz.func139 rfl Tryz.ntmps139 rfl hm (fun w => qH (l' := [(0, .slice a2 x1.length c3)]) rfl (qg (qa (qb rfl rfl rfl (qb rfl rfl rfl (qd (qc (qg (qg (qa (qe rfl rfl rfl (qX rfl Tryz.underlying117 rfl rfl ?_))))))))))))
 refine zG rfl rfl rfl rfl (qd (qc (qz rfl (fun h918 => ?_) (fun h918 => ?_))))
 exact qg (qa (qb rfl rfl rfl (qb rfl rfl rfl (qd (qc (qs (qp (q3 Int (eI .i64) 3 1 (qq (none, 0) (res2 rfl rfl rfl) (fun h => by subst h; exact (.cons 0 rfl .nil)))))))))))
 refine qr (qc (qg (qa (qb rfl rfl rfl (qd (qc (qK (fun ((_, _) : (Unit × Unit)) => [(0, .slice a2 x1.length c3)]) (fun ((_, _) : (Unit × Unit)) => []) (fun ((_, _) : (Unit × Unit)) => []) (fun ((_, _) : (Unit × Unit)) => [Sl eS141 2 (.slice a2 x1.length c3) x1]) (fun ((_, _) : (Unit × Unit)) => jt F x1) ?_ ?_)))))))
 refine qg (qa (qe rfl rfl rfl (qX rfl Tryz.underlying117 rfl rfl (qe rfl rfl rfl (qd (qc (qB (q7 (fun (((x807, x808), _) : ((Int × Int) × Unit)) => [(0, .slice a2 x1.length c3), (4, .int .i64 x807), (14, .slice a2 x1.length c3), (15, .int .i64 (x1.length : Int)), (16, .int .i64 x808)]) (fun (((x807, x808), _) : ((Int × Int) × Unit)) => []) (fun (((x807, x808), _) : ((Int × Int) × Unit)) => []) (fun (((x807, x808), _) : ((Int × Int) × Unit)) => [Sl eS141 2 (.slice a2 x1.length c3) x1]) (fun k (s : ((Int × Int) × Unit)) => kJ F x1 k s.1) ((-2, 0), ()) F ?_ (hF := (qo 0 rfl qA))))))))))
 intro k863
 rintro ⟨⟨x807, x808⟩, _⟩
 try dsimp only
 refine zB (m' := js F x1 (kJ F x1 k863) x807 x808) rfl (qg (qa (qZ rfl rfl rfl rfl (qd (qc (qg (qz rfl (fun h917 => ?_) (fun h917 => ?_))))))))
 refine qr (qc (qg (qB (qg (qa (zZ (j := 0) qa2 (by decide) rfl Tryz.underlying117 tf141 rfl rfl rfl rfl (fun x891 e891 b892 o893 => zU (j := 0) rfl rfl tf141 rfl rfl (by simp) rfl rfl (qR rfl tf141 rfl (fun g894 => qu (i := 0) rfl rfl rfl tf141 rfl rfl rfl rfl rfl (qd (qc (qg ?_))))))))))))
 refine qB (qK (fun ((x910, _) : (Bool × Unit)) => [(0, .slice a2 x1.length c3), (4, .int .i64 x807), (6, .pointer (some ⟨g894, 0, none⟩)), (14, .slice a2 x1.length c3), (15, .int .i64 (x1.length : Int)), (16, .int .i64 x808), (20, .bool x910)]) (fun ((x910, _) : (Bool × Unit)) => [⟨g894, 141, [.int .i64 x891.1, .int .i64 x891.2]⟩]) (fun ((x910, _) : (Bool × Unit)) => []) (fun ((x910, _) : (Bool × Unit)) => [Sl eS141 2 (.slice a2 x1.length c3) x1]) (fun ((x910, _) : (Bool × Unit)) => vb F (kJ F x1 k863) x807 x808 x891 x910) ?_ ?_)
 refine qg (qa (qi rfl rfl qbk rfl (ql (i := 0) rfl rfl tf3 rfl rfl (fun _ => rfl) rfl rfl (qx ent148 rfl rfl rfl (fun x913 e913 => qdc F x891.1 0 1048576 x913 e913) .nil (fun x913 e913 => ?_)))))
 intro _
 refine kw rfl rfl rfl (qb rfl rfl rfl (qd (qc (qz rfl (fun h916 => ?_) (fun h916 => ?_)))))
 exact qr (qm ((!x913), ()) (hB := (.cons 0 rfl .nil)) (hF := (qo 1 rfl qA)))
 refine qg (qa (qi rfl rfl qbl rfl (ql (i := 0) rfl rfl tf3 rfl rfl (fun _ => rfl) rfl rfl (qx ent148 rfl rfl rfl (fun x914 e914 => qdc F x891.2 1 300 x914 e914) .nil (fun x914 e914 => ?_)))))
 intro _
 refine kw rfl rfl rfl (qb rfl rfl rfl (qd (qc (qz rfl (fun h915 => ?_) (fun h915 => ?_)))))
 exact qr (qm ((!x914), ()) (hB := (.cons 0 rfl .nil)) (hF := (qo 1 rfl qA)))
 exact qa (qi rfl rfl qbk rfl (ql (i := 0) rfl rfl tf3 rfl rfl (fun _ => rfl) rfl rfl (qi rfl rfl qbl rfl (ql (i := 0) rfl rfl tf3 rfl rfl (fun _ => rfl) rfl rfl (qL rfl rfl rfl rfl (zJ rfl rfl rfl rfl (zG rfl rfl rfl rfl (qb rfl rfl rfl (qd (qm ((decide (1048576 < (isub .i64 (iadd .i64 x891.1 x891.2) 1))), ()) (hB := (.cons 0 rfl .nil)) (hF := (qo 1 rfl qA))))))))))))
 rintro ⟨x910, _⟩
 try dsimp only
 refine qz rfl (fun h912 => ?_) (fun h912 => ?_)
 refine qg (qa (qb rfl rfl rfl (qb rfl rfl rfl (qd (qc (qs (qM (qp (qM (qp (qp (qM ?_))))))))))))
 exact qp (q3 Int (eI .i64) 3 1 (qq (none, 0) (res2 rfl rfl rfl) (fun h => by subst h; exact (.cons 0 rfl .nil))))
 refine qg (qa (qi rfl rfl qbk rfl (ql (i := 0) rfl rfl tf3 rfl rfl (fun _ => rfl) rfl rfl (qe rfl rfl rfl (qL rfl rfl rfl rfl (qZ rfl rfl rfl rfl (qb rfl rfl rfl (qd (qc (qz rfl (fun h911 => ?_) (fun h911 => ?_)))))))))))
 refine qg (qa (qb rfl rfl rfl (qb rfl rfl rfl (qd (qc (qs (qM (qp (qM (qp (qp (qM ?_))))))))))))
 exact qp (q3 Int (eI .i64) 3 1 (qq (none, 0) (res2 rfl rfl rfl) (fun h => by subst h; exact (.cons 0 rfl .nil))))
 refine qr (qU (qc (qa (qi rfl rfl qbk rfl (ql (i := 0) rfl rfl tf3 rfl rfl (fun _ => rfl) rfl rfl (qi rfl rfl qbl rfl (ql (i := 0) rfl rfl tf3 rfl rfl (fun _ => rfl) rfl rfl (qL rfl rfl rfl rfl (zJ rfl rfl rfl rfl (qb rfl rfl rfl (qd (qU ?_))))))))))))
 exact qc (qa (qL rfl rfl rfl rfl (qe rfl rfl rfl (qd (qW ((isub .i64 (iadd .i64 x891.1 x891.2) 1, iadd .i64 x808 1), ()) (hF := (qo 0 rfl qA)))))))
 exact zj (qD (qD (zk (qm ((), ()) (hF := (qo 0 rfl qA))))))
 rintro ⟨_, _⟩
 try dsimp only
 refine qg (qa (qb rfl rfl rfl (qd (qc (qK (fun ((x462, (a460, c461)) : (List Int × (Option Addr × Nat))) => [(7, .slice a460 x462.length c461)]) (fun ((x462, (a460, c461)) : (List Int × (Option Addr × Nat))) => []) (fun ((x462, (a460, c461)) : (List Int × (Option Addr × Nat))) => [Ro (eI .i64) 3 1 (.slice a460 x462.length c461) x462]) (fun ((x462, (a460, c461)) : (List Int × (Option Addr × Nat))) => []) (fun ((x462, _) : (List Int × (Option Addr × Nat))) => qbW F x462) ?_ ?_)))))
 refine qg (qa (qe rfl rfl rfl (qX rfl Tryz.underlying117 rfl rfl (qe rfl rfl rfl (qd (qc (qB (vM Int (eI .i64) 3 1 (q7 (fun (((x560, x561), (a558, c559)) : ((List Int × Int) × (Option Addr × Nat))) => [(7, .slice a558 x560.length c559), (49, .slice a2 x1.length c3), (50, .int .i64 (x1.length : Int)), (51, .int .i64 x561)]) (fun (((x560, x561), (a558, c559)) : ((List Int × Int) × (Option Addr × Nat))) => []) (fun (((x560, x561), (a558, c559)) : ((List Int × Int) × (Option Addr × Nat))) => [Ro (eI .i64) 3 1 (.slice a558 x560.length c559) x560]) (fun (((x560, x561), (a558, c559)) : ((List Int × Int) × (Option Addr × Nat))) => [Sl eS141 2 (.slice a2 x1.length c3) x1]) (fun k (s : ((List Int × Int) × (Option Addr × Nat))) => zD F x1 k s.1) ((([] : List Int), 0), (none, 0)) F ?_ (hR := (.cons 0 rfl .nil)) (hF := (qo 0 rfl qA)))))))))))
 intro k657
 rintro ⟨⟨x560, x561⟩, ⟨a558, c559⟩⟩
 try dsimp only
 refine zB (m' := jq F x1 (zD F x1 k657) x560 x561) rfl (qg (qa (qZ rfl rfl rfl rfl (qd (qc (qg (qz rfl (fun h752 => ?_) (fun h752 => ?_))))))))
 refine qr (qc (qK (fun ((x706, (a704, c705)) : (List Int × (Option Addr × Nat))) => [(7, .slice a704 x706.length c705), (49, .slice a2 x1.length c3), (50, .int .i64 (x1.length : Int)), (51, .int .i64 x561)]) (fun ((x706, (a704, c705)) : (List Int × (Option Addr × Nat))) => []) (fun ((x706, (a704, c705)) : (List Int × (Option Addr × Nat))) => [Ro (eI .i64) 3 1 (.slice a704 x706.length c705) x706]) (fun ((x706, (a704, c705)) : (List Int × (Option Addr × Nat))) => [Sl eS141 2 (.slice a2 x1.length c3) x1]) (fun ((x706, _) : (List Int × (Option Addr × Nat))) => ju F (zD F x1 k657) x561 x706) ?_ ?_))
 refine qB (qg (qa (zZ (j := 0) qa2 (by decide) rfl Tryz.underlying117 tf141 rfl rfl rfl rfl (fun x707 e707 b708 o709 => zU (j := 0) rfl rfl tf141 rfl rfl (by simp) rfl rfl (qR rfl tf141 rfl (fun g710 => qu (i := 0) rfl rfl rfl tf141 rfl rfl rfl rfl rfl (qd (qc (qg (qa (qi rfl rfl qbl rfl (ql (i := 0) rfl rfl tf3 rfl rfl (fun _ => rfl) rfl rfl ?_))))))))))))
 refine qe rfl rfl rfl (qd (qc (qB (q7 (fun (((x725, x726), (a723, c724)) : ((List Int × Int) × (Option Addr × Nat))) => [(7, .slice a723 x725.length c724), (9, .pointer (some ⟨g710, 0, none⟩)), (49, .slice a2 x1.length c3), (50, .int .i64 (x1.length : Int)), (51, .int .i64 x561), (56, .int .i64 x707.2), (57, .int .i64 x726)]) (fun (((x725, x726), (a723, c724)) : ((List Int × Int) × (Option Addr × Nat))) => [⟨g710, 141, [.int .i64 x707.1, .int .i64 x707.2]⟩]) (fun (((x725, x726), (a723, c724)) : ((List Int × Int) × (Option Addr × Nat))) => [Ro (eI .i64) 3 1 (.slice a723 x725.length c724) x725]) (fun (((x725, x726), (a723, c724)) : ((List Int × Int) × (Option Addr × Nat))) => [Sl eS141 2 (.slice a2 x1.length c3) x1]) (fun k (s : ((List Int × Int) × (Option Addr × Nat))) => yk F (zD F x1 k657) x561 x707 k s.1) ((x560, 0), (a558, c559)) F ?_ (hB := (.cons 0 rfl .nil)) (hR := (.cons 0 rfl .nil)) (hF := (qo 1 rfl qA))))))
 intro k739
 rintro ⟨⟨x725, x726⟩, ⟨a723, c724⟩⟩
 try dsimp only
 refine zB (m' := jr F (zD F x1 k657) x561 x707 (yk F (zD F x1 k657) x561 x707 k739) x725 x726) rfl (qg (qa (qZ rfl rfl rfl rfl (qd (qc (qg (qz rfl (fun h751 => ?_) (fun h751 => ?_))))))))
 refine qr (qc (qg (qB (qg (qa (qe rfl rfl rfl (qb rfl rfl rfl (qd (qc (qa (qe rfl rfl rfl (qi rfl rfl qbk rfl ?_))))))))))))
 refine ql (i := 0) rfl rfl tf3 rfl rfl (fun _ => rfl) rfl rfl (qe rfl rfl rfl (qL rfl rfl rfl rfl (zW (vs := [.int .i64 (iadd .i64 x707.1 x726)]) (ys := ([iadd .i64 x707.1 x726] : List Int)) (zb .i64) (by decide) rfl Tryz.underlying37 tf3 rfl rfl rfl rfl rfl (by decide) (fun a746 c747 => yp 1 (zb .i64) rfl Tryz.underlying37 tf3 rfl rfl rfl rfl rfl (.inl ⟨0, _, rfl⟩) rfl rfl (fun x748 e748 a749 c750 => qb rfl rfl rfl (qd (qU (qc (qa (qL rfl rfl rfl rfl (qe rfl rfl rfl (qd ?_))))))))))))
 exact qW ((x748, iadd .i64 x726 1), (a749, c750)) (hB := (.cons 0 rfl .nil)) (hR := (.cons 0 rfl .nil)) (hF := (qo 0 rfl qA))
 exact zj (qD (qD (zk (qU (qm (x725, (a723, c724)) (hR := (.cons 0 rfl .nil)) (hF := (qo 0 rfl qA)))))))
 rintro ⟨x706, ⟨a704, c705⟩⟩
 try dsimp only
 exact qa (qL rfl rfl rfl rfl (qe rfl rfl rfl (qd (qW ((x706, iadd .i64 x561 1), (a704, c705)) (hR := (.cons 0 rfl .nil)) (hF := (qo 0 rfl qA))))))
 exact zj (qD (qD (zk (qm (x560, (a558, c559)) (hR := (.cons 0 rfl .nil))))))
 rintro ⟨x462, ⟨a460, c461⟩⟩
 try dsimp only
 exact qg (qa (qe rfl rfl rfl (qb rfl rfl rfl (qb rfl rfl rfl (qd (qc (qs (qq (a460, c461) (res2 rfl rfl rfl) (fun h => by subst h; exact (.cons 0 rfl .nil))))))))))
theorem qb1 (F : Nat) (x1 : List Int) (a2 : Option Addr) (c3 : Nat) (r : List Int) (hm : kx F x1 = some r) :
    PureM Tryz.prog 140 [.slice a2 x1.length c3] [] [Ro (eI .i64) 3 1 (.slice a2 x1.length c3) x1] [] (Option Addr × Nat) (fun g => .slice g.1 r.length g.2) (fun _ => []) (fun g => [Ro (eI .i64) 3 1 (.slice g.1 r.length g.2) r]) := by
  unfold kx at hm
  split at hm
  · cases hm
    exact qfH Tryz.slices_Compact_int Tryz.slices_Compact_int_empty (by assumption)
  · simp at hm
theorem qcm (F : Nat) (x1 : List Int) (a2 : Option Addr) (c3 : Nat) (r : List Int) (hm : yx F x1 = some r) :
    Pure Tryz.prog 141 [.slice a2 x1.length c3] [Sl (eI .i64) 1 (.slice a2 x1.length c3) x1] (Option Addr × Nat) (fun g => .slice g.1 r.length g.2) (fun g => [Ro (eI .i64) 3 1 (.slice g.1 r.length g.2) r]) (fun _ => []) := by
 refine qS Tryz.func141 rfl Tryz.ntmps141 rfl hm (fun w => qH (l' := [(0, .slice a2 x1.length c3)]) rfl (qg (qa (qb rfl rfl rfl (qd (qc (qg (qg (qa (qe rfl rfl rfl (qga rfl Tryz.underlying37 rfl rfl rfl (qd ?_))))))))))))
 refine qc (qax rfl (fun h11 => ?_) (fun h11 => ?_))
 refine qh2 0 (zb .i64) (by decide) rfl h11 (fun h12 => ?_)
 subst h12
 exact zB (m' := some ([] : List Int)) rfl (qg (qa (qb rfl rfl rfl (qd (qc (qs (qp (q3 Int (eI .i64) 3 1 (qq (none, 0) (res1 rfl rfl) (fun h => by subst h; exact (.cons 0 rfl .nil)))))))))))
 exact qr (qc (qg (qa (zW (vs := []) (ys := ([] : List Int)) (zb .i64) (by decide) rfl Tryz.underlying37 tf3 rfl rfl rfl rfl rfl (by decide) (fun a6 c7 => qe rfl rfl rfl (yp 0 (zb .i64) rfl Tryz.underlying37 tf3 rfl rfl rfl rfl rfl (.inr ⟨0, rfl⟩) rfl rfl (fun x8 e8 a9 c10 => qb rfl rfl rfl (qd (qc (qs (qq (a9, c10) (res1 rfl rfl) (fun h => by subst h; exact (.cons 0 rfl .nil)))))))))))))
theorem qgq (F : Nat) (x1 : List (Int × Int)) (a2 : Option Addr) (c3 : Nat) (x4 : List Int) (a5 : Option Addr) (c6 : Nat) (r : (List Int × Int)) (hm : qbh F x1 x4 = some r) :
    Pure Tryz.prog 125 [.slice a2 x1.length c3, .slice a5 x4.length c6] [Sl eS141 2 (.slice a2 x1.length c3) x1, Sl (eI .i64) 1 (.slice a5 x4.length c6) x4] (Option Addr × Nat) (fun g => .tuple #[.slice g.1 r.1.length g.2, .int .i64 r.2]) (fun g => [Ro (eI .i64) 3 1 (.slice g.1 r.1.length g.2) r.1]) (fun _ => []) := by
  refine qS Tryz.func125 rfl Tryz.ntmps125 rfl hm (fun w => ?_)
  refine qH (l' := [(0, .slice a2 x1.length c3), (1, .slice a5 x4.length c6)]) rfl ?_
  refine qg ?_
  refine qa ?_
  refine qb rfl rfl rfl ?_
  refine qb rfl rfl rfl ?_
  refine qd ?_
  refine qc ?_
  refine qg ?_
  refine qa ?_
  refine qe rfl rfl rfl ?_
  refine qx ent139 rfl rfl rfl (fun x7 e7 => qfG F x1 a2 c3 x7 e7) (.consF 0 rfl .nil) (fun x7 e7 => ?_)
  rintro ⟨a8, c9⟩
  refine qe rfl rfl rfl ?_
  refine qv rfl rfl rfl rfl ?_
  refine qv rfl rfl rfl rfl ?_
  refine qb rfl rfl rfl ?_
  refine qb rfl rfl rfl ?_
  refine qd ?_
  refine qc ?_
  refine qK (fun ((x12, _) : (Int × Unit)) => [(1, .slice a5 x4.length c6), (6, .slice a8 x7.1.length c9), (7, .int .i64 x12)]) (fun ((x12, _) : (Int × Unit)) => []) (fun ((x12, _) : (Int × Unit)) => [Ro (eI .i64) 3 1 (.slice a8 x7.1.length c9) x7.1]) (fun ((x12, _) : (Int × Unit)) => [Sl (eI .i64) 1 (.slice a5 x4.length c6) x4]) (fun ((x12, _) : (Int × Unit)) => vS F x4 x7 x12) ?_ ?_
  · refine qg ?_
    refine qa ?_
    refine qe rfl rfl rfl ?_
    refine ku rfl rfl rfl rfl ?_
    refine qd ?_
    refine qc ?_
    refine qz rfl (fun h39 => ?_) (fun h39 => ?_)
    · refine qa ?_
      refine qe rfl rfl rfl ?_
      refine qx ent47 rfl rfl rfl (fun x38 e38 => qae F x4 a5 c6 x38 e38) (.consF 1 rfl .nil) (fun x38 e38 => ?_)
      intro _
      refine qb rfl rfl rfl ?_
      refine qd ?_
      exact qm (x38, ()) (hR := (.cons 0 rfl .nil)) (hF := (qo 1 rfl qA))
    · refine qr ?_
      exact qm (x7.2, ()) (hR := (.cons 0 rfl .nil)) (hF := (qo 1 rfl qA))
  · rintro ⟨x12, _⟩
    try dsimp only
    refine qg ?_
    refine qg ?_
    refine qa ?_
    refine qe rfl rfl rfl ?_
    refine kQ rfl rfl rfl rfl ?_
    refine qd ?_
    refine qc ?_
    refine qz rfl (fun h37 => ?_) (fun h37 => ?_)
    · refine qg ?_
      refine qa ?_
      refine qe rfl rfl rfl ?_
      refine qb rfl rfl rfl ?_
      refine qb rfl rfl rfl ?_
      refine qd ?_
      refine qc ?_
      refine qs ?_
      refine qp ?_
      refine q3 Int (eI .i64) 3 1 ?_
      exact qq (none, 0) (res2 rfl rfl rfl) (fun h => by subst h; exact (.cons 0 rfl .nil))
    · refine qr ?_
      refine qc ?_
      refine qg ?_
      refine qa ?_
      refine qe rfl rfl rfl ?_
      refine qe rfl rfl rfl ?_
      refine qcB 0 rfl ?_
      refine zW (vs := [.slice a8 x7.1.length c9, .slice a5 x4.length c6]) (ys := ([(x7.1, (a8, c9)), (x4, (a5, c6))] : List (List Int × (Option Addr × Nat)))) yP (by decide) rfl Tryz.underlying22 tf37 rfl rfl rfl rfl rfl (by decide) (fun a14 c15 => ?_)
      refine qgb (inn := iN37) ([x7.1, x4] : List (List Int)) ([(a8, c9), (a5, c6)] : List (Option Addr × Nat)) 0 rfl rfl (qo 0 rfl (qo 1 rfl qA)) ?_
      refine qx ent127 rfl rfl rfl (fun x16 e16 => qaa F ([x7.1, x4] : List (List Int)) a14 (c15, ([(a8, c9), (a5, c6)] : List (Option Addr × Nat))) x16 e16) (.consF 0 rfl .nil) (fun x16 e16 => ?_)
      rintro ⟨a17, c18⟩
      refine qb rfl rfl rfl ?_
      refine qd ?_
      refine qc ?_
      refine qg ?_
      refine qa ?_
      refine qe rfl rfl rfl ?_
      refine qY ent128 rfl rfl rfl (fun x19 e19 => qay F x16 a17 c18 x19 e19) .nil (.cons 0 rfl .nil) .nil (fun x19 e19 => ?_)
      intro _
      refine qbr (fun h20 => ?_)
      replace h20 := of_decide_eq_true h20
      refine qC (d := 8) (v := .slice a17 x19.length c18) rfl (by rw [h20] <;> rfl) ?_
      refine qC (d := 24) (v := .slice a17 x19.length c18) rfl (by rw [h20] <;> rfl) ?_
      refine qC (d := 25) (v := .slice a17 x19.length c18) rfl (by rw [h20] <;> rfl) ?_
      refine qd ?_
      refine qc ?_
      refine qg ?_
      refine qB ?_
      refine qg ?_
      refine qa ?_
      refine qe rfl rfl rfl ?_
      refine qx ent141 rfl rfl rfl (fun x29 e29 => qcm F x19 a17 c18 x29 e29) (.consR 0 (Ro (eI .i64) 3 1 (.slice a17 x19.length c18) x19) rfl .nil) (fun x29 e29 => ?_)
      rintro ⟨a30, c31⟩
      refine qY ent140 rfl rfl rfl (fun x32 e32 => qb1 F x29 a30 c31 x32 e32) .nil (.cons 0 rfl .nil) .nil (fun x32 e32 => ?_)
      rintro ⟨a33, c34⟩
      refine qX rfl Tryz.underlying37 rfl rfl ?_
      refine qe rfl rfl rfl ?_
      refine qX rfl Tryz.underlying37 rfl rfl ?_
      refine qZ rfl rfl rfl rfl ?_
      refine qb rfl rfl rfl ?_
      refine qd ?_
      refine qc ?_
      refine qz rfl (fun h36 => ?_) (fun h36 => ?_)
      · refine qg ?_
        refine qa ?_
        refine qb rfl rfl rfl ?_
        refine qb rfl rfl rfl ?_
        refine qd ?_
        refine qc ?_
        refine qs ?_
        refine qM ?_
        refine qp ?_
        refine q3 Int (eI .i64) 3 1 ?_
        exact qq (none, 0) (res2 rfl rfl rfl) (fun h => by subst h; exact (.cons 0 rfl .nil))
      · refine qg ?_
        refine qa ?_
        refine qe rfl rfl rfl ?_
        refine qX rfl Tryz.underlying37 rfl rfl ?_
        refine zG rfl rfl rfl rfl ?_
        refine qb rfl rfl rfl ?_
        refine qd ?_
        refine qc ?_
        refine qz rfl (fun h35 => ?_) (fun h35 => ?_)
        · refine qg ?_
          refine qa ?_
          refine qb rfl rfl rfl ?_
          refine qb rfl rfl rfl ?_
          refine qd ?_
          refine qc ?_
          refine qs ?_
          refine qM ?_
          refine qp ?_
          refine q3 Int (eI .i64) 3 1 ?_
          exact qq (none, 0) (res2 rfl rfl rfl) (fun h => by subst h; exact (.cons 0 rfl .nil))
        · refine qr ?_
          refine qU ?_
          refine qc ?_
          refine qg ?_
          refine qa ?_
          refine qe rfl rfl rfl ?_
          refine qb rfl rfl rfl ?_
          refine qb rfl rfl rfl ?_
          refine qd ?_
          refine qc ?_
          refine qs ?_
          exact qq (a17, c18) (res2 rfl rfl rfl) (fun h => by subst h; exact (.cons 1 rfl .nil))
theorem qdo (F : Nat) (x1 : Int) (x2 : List Int) (a3 : Option Addr) (c4 : Nat) (x5 : Int) (x6 : Int) (r : (Int × Int × Bool)) (hm : zH F x1 x2 x5 x6 = some r) :
    Pure Tryz.prog 149 [.agg #[.int .i64 x1, .slice a3 x2.length c4], .int .i64 x5, .int .u64 x6] [Sl (eI .u8) 1 (.slice a3 x2.length c4) x2] Unit (fun _ => .tuple #[.int .u64 r.1, .int .i64 r.2.1, .bool r.2.2]) (fun _ => []) (fun _ => []) := by
 refine qS Tryz.func149 rfl Tryz.ntmps149 rfl hm (fun w => qH (l' := [(0, .agg #[.int .i64 x1, .slice a3 x2.length c4]), (1, .int .i64 x5), (2, .int .u64 x6)]) rfl (qg (qa (qV rfl rfl rfl (fun g7 => qb rfl rfl rfl (qb rfl rfl rfl (qb rfl rfl rfl (qd (qc (qg (qa (qe rfl rfl rfl ?_))))))))))))
 refine qx ent135 rfl rfl rfl (fun x8 e8 => qcN F x6 x8 e8) .nil (fun x8 e8 _ => qe rfl rfl rfl (qv rfl rfl rfl rfl (qv rfl rfl rfl rfl (qb rfl rfl rfl (qb rfl rfl rfl (qd (qc (qK (fun ((_, _) : (Unit × Unit)) => [(1, .int .i64 x5), (3, .pointer (some ⟨g7, 0, none⟩)), (9, .int .i64 x8.1), (10, .int .u64 x8.2)]) (fun ((_, _) : (Unit × Unit)) => [⟨g7, 29, [.int .i64 x1, .slice a3 x2.length c4]⟩]) (fun ((_, _) : (Unit × Unit)) => []) (fun ((_, _) : (Unit × Unit)) => [Sl (eI .u8) 1 (.slice a3 x2.length c4) x2]) (fun ((_, _) : (Unit × Unit)) => zK F x1 x2 x5 x8) ?_ ?_))))))))
 refine qg (qa (qe rfl rfl rfl (zG rfl rfl rfl rfl (qd (qc (qz rfl (fun h19 => ?_) (fun h19 => ?_)))))))
 refine qg (qa (ql (i := 0) rfl rfl tf29 rfl rfl (by simp) rfl rfl (qe rfl rfl rfl (qe rfl rfl rfl (zJ rfl rfl rfl rfl (qx ent68 rfl rfl rfl (fun x15 e15 => qcL F x1 x2 a3 c4 x5 (isub .i64 x8.1 1) x15 e15) (.consF 0 rfl .nil) (fun x15 e15 => ?_)))))))
 intro _
 refine qe rfl rfl rfl (qv rfl rfl rfl rfl (qv rfl rfl rfl rfl (qb rfl rfl rfl (qb rfl rfl rfl (qd (qc (qg (qg (qa (qe rfl rfl rfl (kw rfl rfl rfl (qd ?_))))))))))))
 refine qc (qz rfl (fun h18 => ?_) (fun h18 => ?_))
 exact qg (qa (qb rfl rfl rfl (qb rfl rfl rfl (qb rfl rfl rfl (qd (qc (qs (qp (qp (qq () (res3 rfl rfl rfl rfl)))))))))))
 refine qr (qc (qg (qa (qe rfl rfl rfl (qe rfl rfl rfl (qZ rfl rfl rfl rfl (qd (qc (qz rfl (fun h17 => ?_) (fun h17 => ?_))))))))))
 refine qg (qa (qe rfl rfl rfl (qe rfl rfl rfl (qe rfl rfl rfl (qL rfl rfl rfl rfl (zJ rfl rfl rfl rfl (qb rfl rfl rfl (qb rfl rfl rfl (qb rfl rfl rfl (qd (qc (qs ?_))))))))))))
 exact qp (qq () (res3 rfl rfl rfl rfl))
 exact qr (qm ((), ()) (hB := (.cons 0 rfl .nil)) (hF := (qo 0 rfl qA)))
 exact qr (qm ((), ()) (hB := (.cons 0 rfl .nil)) (hF := (qo 0 rfl qA)))
 rintro ⟨_, _⟩
 try dsimp only
 refine qg (qa (ql (i := 0) rfl rfl tf29 rfl rfl (by simp) rfl rfl (qe rfl rfl rfl (qe rfl rfl rfl (qx ent68 rfl rfl rfl (fun x14 e14 => qcL F x1 x2 a3 c4 x5 x8.1 x14 e14) (.consF 0 rfl .nil) (fun x14 e14 => ?_))))))
 intro _
 refine qe rfl rfl rfl (qv rfl rfl rfl rfl (qv rfl rfl rfl rfl (qb rfl rfl rfl (qb rfl rfl rfl (qd (qc (qg (qa (qe rfl rfl rfl (qe rfl rfl rfl (zJ rfl rfl rfl rfl (qe rfl rfl rfl ?_))))))))))))
 exact qe rfl rfl rfl (qL rfl rfl rfl rfl (qe rfl rfl rfl (qb rfl rfl rfl (qb rfl rfl rfl (qb rfl rfl rfl (qd (qc (qs (qq () (res3 rfl rfl rfl rfl))))))))))
theorem qeV (F : Nat) (x1 : Int) (x2 : Int) (x3 : Bool) (r : (Int × Int × Int)) (hm : qak F x1 x2 x3 = some r) :
    Pure Tryz.prog 150 [.int .u64 x1, .int .i64 x2, .bool x3] [] Unit (fun _ => .tuple #[.int .u64 r.1, .int .i64 r.2.1, .int .i64 r.2.2]) (fun _ => []) (fun _ => []) := by
 refine qS Tryz.func150 rfl Tryz.ntmps150 rfl hm (fun w => qH (l' := [(0, .int .u64 x1), (1, .int .i64 x2), (2, .bool x3)]) rfl (qg (qa (qb rfl rfl rfl (qb rfl rfl rfl (qb rfl rfl rfl (qd (qc (qg (qB (qg (qa ?_))))))))))))
 refine qe rfl rfl rfl (kw rfl rfl rfl (qb rfl rfl rfl (qd (qc (qz rfl (fun h7 => ?_) (fun h7 => ?_))))))
 exact qg (qa (qb rfl rfl rfl (qb rfl rfl rfl (qb rfl rfl rfl (qd (qc (qs (qM (qp (qq () (res3 rfl rfl rfl rfl)))))))))))
 refine qg (qa (qe rfl rfl rfl (zG rfl rfl rfl rfl (qb rfl rfl rfl (qd (qc (qz rfl (fun h6 => ?_) (fun h6 => ?_))))))))
 exact qg (qa (qb rfl rfl rfl (qb rfl rfl rfl (qb rfl rfl rfl (qd (qc (qs (qM (qp (qq () (res3 rfl rfl rfl rfl)))))))))))
 refine qr (qU (qc (qg (qa (qe rfl rfl rfl (qe rfl rfl rfl (qb rfl rfl rfl (qb rfl rfl rfl (qb rfl rfl rfl (qd (qc (qs ?_))))))))))))
 exact qq () (res3 rfl rfl rfl rfl)
theorem qdG (F : Nat) (x1 : Int) (x2 : List Int) (a3 : Option Addr) (c4 : Nat) (x5 : Int) (x6 : Int) (r : (Int × Int × Int)) (hm : jd F x1 x2 x5 x6 = some r) :
    Pure Tryz.prog 142 [.agg #[.int .i64 x1, .slice a3 x2.length c4], .int .i64 x5, .int .i64 x6] [Sl (eI .u8) 1 (.slice a3 x2.length c4) x2] Unit (fun _ => .tuple #[.int .u64 r.1, .int .i64 r.2.1, .int .i64 r.2.2]) (fun _ => []) (fun _ => []) := by
 refine qS Tryz.func142 rfl Tryz.ntmps142 rfl hm (fun w => qH (l' := [(0, .agg #[.int .i64 x1, .slice a3 x2.length c4]), (1, .int .i64 x5), (2, .int .i64 x6)]) rfl (qg (qa (qV rfl rfl rfl (fun g7 => qb rfl rfl rfl (qb rfl rfl rfl (qb rfl rfl rfl (qd (qc (qg (qa (ql (i := 0) rfl rfl tf29 rfl rfl (by simp) rfl rfl ?_))))))))))))
 refine qe rfl rfl rfl (qx ent120 rfl rfl rfl (fun x8 e8 => qdI F x1 x2 a3 c4 x5 x8 e8) (.consF 0 rfl .nil) (fun x8 e8 => ?_))
 intro _
 refine qe rfl rfl rfl (qv rfl rfl rfl rfl (qv rfl rfl rfl rfl (qv rfl rfl rfl rfl (qb rfl rfl rfl (qb rfl rfl rfl (qb rfl rfl rfl (qd (qc (qg (qg (qa (qe rfl rfl rfl ?_))))))))))))
 refine kw rfl rfl rfl (qd (qc (qz rfl (fun h23 => ?_) (fun h23 => ?_))))
 exact qg (qa (qb rfl rfl rfl (qb rfl rfl rfl (qb rfl rfl rfl (qd (qc (qs (qp (qq () (res3 rfl rfl rfl rfl))))))))))
 refine qr (qc (qg (qg (qa (qe rfl rfl rfl (qe rfl rfl rfl (zQ rfl Tryz.underlying3 Tryz.underlying50 rfl rfl (qg4 rfl rfl rfl rfl (qaY rfl rfl rfl rfl (qd (qc (qz rfl (fun h22 => ?_) (fun h22 => ?_)))))))))))))
 exact qg (qa (qb rfl rfl rfl (qb rfl rfl rfl (qb rfl rfl rfl (qd (qc (qs (qp (qq () (res3 rfl rfl rfl rfl))))))))))
 refine qr (qc (qg (qa (qe rfl rfl rfl (zQ rfl Tryz.underlying50 Tryz.underlying3 rfl rfl (qe rfl rfl rfl (qg4 rfl rfl rfl rfl (qbr (fun h11 => qd4 rfl rfl rfl rfl h11 (qb rfl rfl rfl (jT (fun x12 e12 => qC (d := 12) (v := .int .u64 x12) rfl (by rw [e12] <;> rfl) ?_))))))))))))
 refine qd (qc (qg (qc8 (fun h17 => zg mixed [] [⟨g7, 29, [.int .i64 x1, .slice a3 x2.length c4]⟩] [Sl (eI .u8) 1 (.slice a3 x2.length c4) x2] (.cons 0 rfl .nil) (q8 0 rfl qE) 15 rfl (qP 0 (.agg #[.int .i64 x1, .slice a3 x2.length c4]) rfl rfl rfl (qQ (i := 0) rfl tf29 rfl rfl (by simp) rfl) (qf 1 (.int .i64 x8.2.1) rfl rfl rfl (qj rfl) (qf 2 (.int .u64 x12) rfl rfl rfl (qj rfl) (qf 3 (.int .i64 x6) rfl rfl rfl (qj rfl) (qf 4 (.int .u64 (ishl .u64 x12 x6)) rfl rfl rfl (qev rfl rfl h17) (qf 5 (.int .u64 x12) rfl rfl rfl (qj rfl) (qf 6 (.int .u64 (isub .u64 (ishl .u64 x12 x6) x12)) rfl rfl rfl (qj rfl) (qI 7 rfl (by kernel_rfl) rfl ?_))))))))))))
 refine qx ent149 rfl rfl rfl (fun x20 e20 => qdo F x1 x2 a3 c4 x8.2.1 (isub .u64 (ishl .u64 x12 x6) x12) x20 e20) (.consF 0 rfl .nil) (fun x20 e20 _ => qd (qF (.cons 0 rfl .nil) (q8 0 rfl qE) (qf 8 (.tuple #[.int .u64 x20.1, .int .i64 x20.2.1, .bool x20.2.2]) rfl rfl rfl (qj rfl) (qf 9 (.int .u64 x20.1) rfl rfl rfl (qj rfl) (qf 10 (.int .i64 x20.2.1) rfl rfl rfl (qj rfl) (qf 11 (.bool x20.2.2) rfl rfl rfl (qj rfl) (qf 12 (.int .u64 x20.1) rfl rfl rfl (qj rfl) (qf 13 (.int .i64 x20.2.1) rfl rfl rfl (qj rfl) (qf 14 (.bool x20.2.2) rfl rfl rfl (qj rfl) (qO (by kernel_rfl) (zm (qc ?_) (by intro c h; cases h))))))))))))
 refine qg (qa (qe rfl rfl rfl (qe rfl rfl rfl (qL rfl rfl rfl rfl (zJ rfl rfl rfl rfl (qe rfl rfl rfl (qe rfl rfl rfl (qx ent150 rfl rfl rfl (fun x21 e21 => qeV F (isub .u64 (iadd .u64 x12 x20.1) 1) x20.2.1 x20.2.2 x21 e21) .nil (fun x21 e21 => ?_)))))))))
 intro _
 exact qv rfl rfl rfl rfl (qv rfl rfl rfl rfl (qv rfl rfl rfl rfl (qb rfl rfl rfl (qb rfl rfl rfl (qb rfl rfl rfl (qd (qc (qs (qq () (res3 rfl rfl rfl rfl))))))))))
theorem qdn (F : Nat) (g1 : Nat) (x2 : Int) (x3 : Bool) (x4 : Int) (r : (Bool × Int × Bool)) (hm : kA F x2 x3 x4 = some r) :
    PureM Tryz.prog 143 [.pointer (some ⟨g1, 0, none⟩), .int .u64 x4] [⟨g1, 162, [.int .i64 x2, .bool x3]⟩] [] [] Unit (fun _ => .bool r.1) (fun _ => [⟨g1, 162, [.int .i64 r.2.1, .bool r.2.2]⟩]) (fun _ => []) := by
 refine kP Tryz.func143 rfl Tryz.ntmps143 rfl hm (fun w => qH (l' := [(0, .pointer (some ⟨g1, 0, none⟩)), (1, .int .u64 x4)]) rfl (qg (qa (qb rfl rfl rfl (qd (qc (qg (qg (qa (qe rfl rfl rfl (zG rfl rfl rfl rfl (qd ?_))))))))))))
 refine qc (qz rfl (fun h12 => ?_) (fun h12 => ?_))
 exact qg (qa (qb rfl rfl rfl (qd (qc (qs (qp (zr () (res1 rfl rfl) (hB := fun h => by subst h; exact (.cons 0 rfl .nil)))))))))
 refine qr (qc (qK (fun ((x8, _) : (Int × Unit)) => [(0, .pointer (some ⟨g1, 0, none⟩))]) (fun ((x8, _) : (Int × Unit)) => [⟨g1, 162, [.int .i64 x8, .bool x3]⟩]) (fun ((x8, _) : (Int × Unit)) => []) (fun ((x8, _) : (Int × Unit)) => []) (fun ((x8, _) : (Int × Unit)) => kW F x8) ?_ ?_))
 refine qg (qa (qe rfl rfl rfl (qN rfl rfl rfl (qi rfl rfl qeN rfl (ql (i := 0) rfl rfl tf4 rfl rfl (fun _ => rfl) rfl rfl (qd (qc (qz rfl (fun h11 => ?_) (fun h11 => ?_)))))))))
 refine qa (qe rfl rfl rfl (qN rfl rfl rfl (qi rfl rfl qbm rfl (ql (i := 0) rfl rfl tf3 rfl rfl (fun _ => rfl) rfl rfl (qe rfl rfl rfl (zQ rfl Tryz.underlying50 Tryz.underlying3 rfl rfl (qL rfl rfl rfl rfl (qL rfl rfl rfl rfl (qN rfl rfl rfl (qi rfl rfl qbm rfl (qu (i := 0) rfl rfl rfl tf3 rfl rfl rfl rfl rfl (qd ?_))))))))))))
 exact qm (iadd .i64 x2 (iadd .i64 (iconv .i64 x4) 1), ()) (hB := (.cons 0 rfl .nil))
 refine zg mixed [9] [] [(BlkD.is ⟨g1, 162, [.int .i64 x2, .bool x3]⟩)] .nil (qbG 0 rfl qE) 10 rfl (qf 0 (.pointer (some ⟨g1, 0, none⟩)) rfl rfl rfl (qj rfl) (qf 1 (.pointer (some ⟨g1, 0, none⟩)) rfl rfl rfl (qj rfl) (qf 2 (.pointer (some ⟨g1, 0, none⟩)) rfl rfl rfl (qt rfl qbm) (ko 3 (.int .i64 x2) [[9]] rfl rfl rfl (jE (j := 0) rfl tf3 rfl rfl (fun _ => rfl) rfl) (qf 4 (.int .u64 x4) rfl rfl rfl (qj rfl) (qI 5 rfl (by kernel_rfl) rfl (qx ent138 rfl rfl rfl (fun x10 e10 => qcG F x4 x10 e10) .nil (fun x10 e10 => ?_))))))))
 intro _
 exact qd (qF .nil (qbG 0 rfl qE) (qf 6 (.int .i64 (iadd .i64 x2 x10)) rfl rfl rfl (qj rfl) (qf 7 (.pointer (some ⟨g1, 0, none⟩)) rfl rfl rfl (qj rfl) (qf 8 (.pointer (some ⟨g1, 0, none⟩)) rfl rfl rfl (qt rfl qbm) (qI 9 rfl (by kernel_rfl) rfl (qu (i := 0) rfl rfl rfl tf3 rfl rfl rfl rfl rfl (qd (vu 9 rfl (by kernel_rfl) .nil (qO (by kernel_rfl) (zm (qm (iadd .i64 x2 x10, ()) (hB := (.cons 0 rfl .nil))) (by intro c h; cases h)))))))))))
 rintro ⟨x8, _⟩
 try dsimp only
 refine qg (qa (qe rfl rfl rfl (qN rfl rfl rfl (qi rfl rfl qeN rfl (qu (i := 0) rfl rfl rfl tf4 rfl rfl rfl rfl rfl (qd (qc (qg (qa (qe rfl rfl rfl (qN rfl rfl rfl (qi rfl rfl qbm rfl ?_))))))))))))
 refine ql (i := 0) rfl rfl tf3 rfl rfl (fun _ => rfl) rfl rfl (qx ent69 rfl rfl rfl (fun x9 e9 => qew F x8 x9 e9) .nil (fun x9 e9 => ?_))
 intro _
 exact qb rfl rfl rfl (qd (qc (qs (zr () (res1 rfl rfl) (hB := fun h => by subst h; exact (.cons 0 rfl .nil))))))
theorem qhg (F : Nat) (x1 : Int) (x2 : List Int) (a3 : Option Addr) (c4 : Nat) (x5 : Int) (x6 : Int) (x7 : Int) (x8 : Int) (r : (List Int × Int × Int)) (hm : qbR F x1 x2 x5 x6 x7 x8 = some r) :
    Pure Tryz.prog 126 [.agg #[.int .i64 x1, .slice a3 x2.length c4], .int .i64 x5, .int .i64 x6, .int .i64 x7, .int .i64 x8] [Sl (eI .u8) 1 (.slice a3 x2.length c4) x2] (Option Addr × Nat) (fun g => .tuple #[.slice g.1 r.1.length g.2, .int .i64 r.2.1, .int .i64 r.2.2]) (fun g => [Ro (eI .i64) 3 1 (.slice g.1 r.1.length g.2) r.1]) (fun _ => []) := by
 refine qS Tryz.func126 rfl Tryz.ntmps126 rfl hm (fun w => qH (l' := [(0, .agg #[.int .i64 x1, .slice a3 x2.length c4]), (1, .int .i64 x5), (2, .int .i64 x6), (3, .int .i64 x7), (4, .int .i64 x8)]) rfl (qg (qa (qV rfl rfl rfl (fun g9 => qb rfl rfl rfl (qb rfl rfl rfl (qb rfl rfl rfl (qd (qc (qg (qa (qe rfl rfl rfl ?_))))))))))))
 refine zv (cells := [.int .i64 x6, .bool false]) rfl st162 rfl (by kernel_rfl) rfl (qV rfl rfl rfl (fun g10 => qb rfl rfl rfl (qd (qc (qK (fun (((x105, x108), (a106, c107)) : ((Int × List Int) × (Option Addr × Nat))) => [(1, .int .i64 x105), (10, .slice a106 x108.length c107)]) (fun (((x105, x108), (a106, c107)) : ((Int × List Int) × (Option Addr × Nat))) => []) (fun (((x105, x108), (a106, c107)) : ((Int × List Int) × (Option Addr × Nat))) => [Ro (eI .i64) 3 1 (.slice a106 x108.length c107) x108]) (fun (((x105, x108), (a106, c107)) : ((Int × List Int) × (Option Addr × Nat))) => []) (fun (((x105, x108), _) : ((Int × List Int) × (Option Addr × Nat))) => qby F x105 x108) ?_ ?_)))))
 refine qg (qa (qe rfl rfl rfl (qe rfl rfl rfl (qd (qc (qB (vM Int (eI .i64) 3 1 (q7 (fun (((x138, x141, x142, x143, x144), (a139, c140)) : ((Int × List Int × Int × Int × Bool) × (Option Addr × Nat))) => [(1, .int .i64 x138), (3, .int .i64 x7), (5, .pointer (some ⟨g9, 0, none⟩)), (10, .slice a139 x141.length c140), (13, .pointer (some ⟨g10, 0, none⟩)), (18, .int .i64 x8), (19, .int .i64 x142)]) (fun (((x138, x141, x142, x143, x144), (a139, c140)) : ((Int × List Int × Int × Int × Bool) × (Option Addr × Nat))) => [⟨g10, 162, [.int .i64 x143, .bool x144]⟩, ⟨g9, 29, [.int .i64 x1, .slice a3 x2.length c4]⟩]) (fun (((x138, x141, x142, x143, x144), (a139, c140)) : ((Int × List Int × Int × Int × Bool) × (Option Addr × Nat))) => [Ro (eI .i64) 3 1 (.slice a139 x141.length c140) x141]) (fun (((x138, x141, x142, x143, x144), (a139, c140)) : ((Int × List Int × Int × Int × Bool) × (Option Addr × Nat))) => [Sl (eI .u8) 1 (.slice a3 x2.length c4) x2]) (fun k (s : ((Int × List Int × Int × Int × Bool) × (Option Addr × Nat))) => vm F x1 x2 x7 x8 k s.1) ((x5, ([] : List Int), 0, x6, false), (none, 0)) F ?_ (hB := (.cons 0 rfl (.cons 0 rfl .nil))) (hR := (.cons 0 rfl .nil)) (hF := (qo 0 rfl qA))))))))))
 intro k173
 rintro ⟨⟨x138, x141, x142, x143, x144⟩, ⟨a139, c140⟩⟩
 try dsimp only
 refine zB (m' := qaj F x1 x2 x7 x8 (vm F x1 x2 x7 x8 k173) x138 x141 x142 x143 x144) rfl (qg (qa (qZ rfl rfl rfl rfl (qd (qc (qg (qz rfl (fun h201 => ?_) (fun h201 => ?_))))))))
 refine qr (qc (qg (qB (qg (qa (qb rfl rfl rfl (qd (qc (qg (qg (qa (ql (i := 1) rfl rfl tf29 rfl rfl (by simp) rfl rfl ?_))))))))))))
 refine qe rfl rfl rfl (qe rfl rfl rfl (qx ent142 rfl rfl rfl (fun x190 e190 => qdG F x1 x2 a3 c4 x138 x7 x190 e190) (.consF 0 rfl .nil) (fun x190 e190 => ?_)))
 intro _
 refine qe rfl rfl rfl (qv rfl rfl rfl rfl (qv rfl rfl rfl rfl (qv rfl rfl rfl rfl (qb rfl rfl rfl (qb rfl rfl rfl (qb rfl rfl rfl (qd (qc (qg (qa (qe rfl rfl rfl (kQ rfl rfl rfl rfl ?_))))))))))))
 refine qd (qc (qz rfl (fun h200 => ?_) (fun h200 => ?_)))
 refine qg (qa (qe rfl rfl rfl (qb rfl rfl rfl (qb rfl rfl rfl (qb rfl rfl rfl (qd (qc (qs (qp (qM (qp (qp ?_))))))))))))
 exact qM (qp (q3 Int (eI .i64) 3 1 (qq (none, 0) (res3 rfl rfl rfl rfl) (fun h => by subst h; exact (.cons 0 rfl .nil)))))
 refine qr (qc (qg (qg (qa (qe rfl rfl rfl (qe rfl rfl rfl (qY ent143 rfl rfl rfl (fun x193 e193 => qdn F g10 x143 x144 x190.1 x193 e193) (.cons 0 rfl .nil) .nil .nil (fun x193 e193 => ?_))))))))
 intro _
 refine kw rfl rfl rfl (qd (qc (qz rfl (fun h199 => ?_) (fun h199 => ?_))))
 refine qg (qa (qb rfl rfl rfl (qb rfl rfl rfl (qb rfl rfl rfl (qd (qc (qs (qp (qM (qp (qp (qM ?_))))))))))))
 exact qp (q3 Int (eI .i64) 3 1 (qq (none, 0) (res3 rfl rfl rfl rfl) (fun h => by subst h; exact (.cons 0 rfl .nil))))
 refine qr (qc (qa (qe rfl rfl rfl (qe rfl rfl rfl (qN rfl rfl rfl (qi rfl rfl qbm rfl (ql (i := 0) rfl rfl tf3 rfl rfl (fun _ => rfl) rfl rfl (zW (vs := [.int .i64 x193.2.1]) (ys := ([x193.2.1] : List Int)) (zb .i64) (by decide) rfl Tryz.underlying37 tf3 rfl rfl rfl rfl rfl (by decide) (fun a194 c195 => yp 1 (zb .i64) rfl Tryz.underlying37 tf3 rfl rfl rfl rfl rfl (.inl ⟨0, _, rfl⟩) rfl rfl (fun x196 e196 a197 c198 => qb rfl rfl rfl (qd (qU ?_))))))))))))
 exact qc (qa (qL rfl rfl rfl rfl (qe rfl rfl rfl (qd (qW ((x190.2.1, x196, iadd .i64 x142 1, x193.2.1, x193.2.2), (a197, c198)) (hB := (.cons 0 rfl (.cons 0 rfl .nil))) (hR := (.cons 0 rfl .nil)) (hF := (qo 0 rfl qA)))))))
 exact zj (qD (qD (zk (qm ((x138, x141), (a139, c140)) (hR := (.cons 0 rfl .nil))))))
 rintro ⟨⟨x105, x108⟩, ⟨a106, c107⟩⟩
 try dsimp only
 exact qg (qa (qe rfl rfl rfl (qe rfl rfl rfl (qb rfl rfl rfl (qb rfl rfl rfl (qb rfl rfl rfl (qd (qc (qs (qq (a106, c107) (res3 rfl rfl rfl rfl) (fun h => by subst h; exact (.cons 0 rfl .nil))))))))))))
set_option maxHeartbeats 4000000 in
theorem qdr (F : Nat) (g1 : Nat) (x2 : Int) (x3 : List Int) (a4 : Option Addr) (c5 : Nat) (x6 : Int) (x7 : Int) (x8 : List Int) (a9 : Option Addr) (c10 : Nat) (x11 : Int) (x12 : Int) (x13 : Int) (r : ((List Int × Int × Int) ⊕ (Int × Int))) (hm : yG F x2 x3 x6 x7 x8 x11 x12 x13 = some r) :
    PureL Tryz.prog 107 [.pointer (some ⟨g1, 0, none⟩), .int .i64 x7, .slice a9 x8.length c10, .agg #[.int .i64 x11, .int .i64 x12, .int .i64 x13]] [⟨g1, 137, [.int .i64 x2, .slice a4 x3.length c5, .int .i64 x6]⟩] [] [Sl (eI .u8) 1 (.slice a4 x3.length c5) x3, Sl (eI .i64) 1 (.slice a9 x8.length c10) x8] lostCh (Option Addr × Nat) (fun (r : (List Int × Int × Int)) (g : (Option Addr × Nat)) => .slice g.1 r.1.length g.2) (fun (r : (List Int × Int × Int)) (_ : (Option Addr × Nat)) => [⟨g1, 137, [.int .i64 r.2.1, .slice a4 x3.length c5, .int .i64 r.2.2]⟩]) (fun (r : (List Int × Int × Int)) (g : (Option Addr × Nat)) => [Ro (eI .i64) 3 1 (.slice g.1 r.1.length g.2) r.1]) (fun (z : (Int × Int)) => [⟨g1, 137, [.int .i64 z.1, .slice a4 x3.length c5, .int .i64 z.2]⟩]) r := by
  refine qcX Tryz.func107 rfl Tryz.ntmps107 rfl hm (fun w => ?_)
  refine qH (l' := [(0, .pointer (some ⟨g1, 0, none⟩)), (1, .int .i64 x7), (2, .slice a9 x8.length c10), (3, .agg #[.int .i64 x11, .int .i64 x12, .int .i64 x13])]) rfl ?_
  refine qg ?_
  refine qa ?_
  refine qV rfl rfl rfl (fun g14 => ?_)
  refine qb rfl rfl rfl ?_
  refine qd ?_
  refine qc ?_
  refine qg ?_
  refine qa ?_
  refine qe rfl rfl rfl ?_
  refine kD ent121 rfl rfl rfl (fun x15 e15 => kS F g1 x2 x3 a4 c5 x6 300 x15 e15) (.cons 1 rfl .nil) .nil (.consF 0 rfl .nil) (fun x16 _ => ?_) (fun x15 e15 => ?_)
  · refine zi ?_
    exact yE (.cons 0 rfl .nil)
  intro _
  refine qb rfl rfl rfl ?_
  refine qd ?_
  refine qc ?_
  refine qg ?_
  refine qg ?_
  refine qa ?_
  refine qe rfl rfl rfl ?_
  refine ku rfl rfl rfl rfl ?_
  refine qd ?_
  refine qc ?_
  refine qz rfl (fun h83 => ?_) (fun h83 => ?_)
  · refine qg ?_
    refine qa ?_
    refine qb rfl rfl rfl ?_
    refine qd ?_
    refine qc ?_
    refine qs ?_
    refine qp ?_
    refine q3 Int (eI .i64) 3 1 ?_
    exact qaG (none, 0) (.inl rfl) (res1 rfl rfl) rfl (.cons 0 rfl .nil) (.cons 0 rfl .nil)
  · refine qr ?_
    refine qc ?_
    refine qg ?_
    refine qa ?_
    refine qb rfl rfl rfl ?_
    refine qd ?_
    refine qc ?_
    refine qK (fun (((x31, x32, x33), (a29, c30)) : ((List Int × Int × Int) × (Option Addr × Nat))) => [(0, .pointer (some ⟨g1, 0, none⟩)), (1, .int .i64 x7), (7, .pointer (some ⟨g14, 0, none⟩)), (9, .int .i64 x15.1), (10, .slice a29 x31.length c30)]) (fun (((x31, x32, x33), (a29, c30)) : ((List Int × Int × Int) × (Option Addr × Nat))) => [⟨g1, 137, [.int .i64 x32, .slice a4 x3.length c5, .int .i64 x33]⟩, ⟨g14, 26, [.int .i64 x11, .int .i64 x12, .int .i64 x13]⟩]) (fun (((x31, x32, x33), (a29, c30)) : ((List Int × Int × Int) × (Option Addr × Nat))) => [Ro (eI .i64) 3 1 (.slice a29 x31.length c30) x31]) (fun (((x31, x32, x33), (a29, c30)) : ((List Int × Int × Int) × (Option Addr × Nat))) => [Sl (eI .u8) 1 (.slice a4 x3.length c5) x3]) (fun (((x31, x32, x33), _) : ((List Int × Int × Int) × (Option Addr × Nat))) => kX F x3 x7 x12 x13 x15 x31 x32 x33) ?_ ?_
    · refine qg ?_
      refine qa ?_
      refine qi rfl rfl qaC rfl ?_
      refine ql (i := 1) rfl rfl tf3 rfl rfl (fun _ => rfl) rfl rfl ?_
      refine zG rfl rfl rfl rfl ?_
      refine qd ?_
      refine qc ?_
      refine qz rfl (fun h82 => ?_) (fun h82 => ?_)
      · refine qg ?_
        refine qa ?_
        refine qb rfl rfl rfl ?_
        refine qd ?_
        refine qc ?_
        refine qg ?_
        refine qa ?_
        refine qe rfl rfl rfl ?_
        refine qe rfl rfl rfl ?_
        refine qe rfl rfl rfl ?_
        refine qX rfl Tryz.underlying37 rfl rfl ?_
        refine kD ent123 rfl rfl rfl (fun x72 e72 => qcO F g1 x15.2.1 x3 a4 c5 x15.2.2 (x8.length : Int) x72 e72) (.cons 0 rfl .nil) .nil (.consF 0 rfl .nil) (fun x73 _ => ?_) (fun x72 e72 => ?_)
        · refine zi ?_
          refine zi ?_
          exact yE (.cons 0 rfl .nil)
        rintro ⟨a74, c75⟩
        refine qx ent122 rfl rfl rfl (fun x76 e76 => qgp F x8 a9 c10 x72.1 a74 c75 x76 e76) (.consF 1 rfl (.consR 0 (Ro (eI .i64) 3 1 (.slice a74 x72.1.length c75) x72.1) rfl .nil)) (fun x76 e76 => ?_)
        rintro ⟨a77, c78⟩
        refine qe rfl rfl rfl ?_
        refine qv rfl rfl rfl rfl ?_
        refine qv rfl rfl rfl rfl ?_
        refine qb rfl rfl rfl ?_
        refine qb rfl rfl rfl ?_
        refine qd ?_
        refine qc ?_
        refine qa ?_
        refine qe rfl rfl rfl ?_
        refine ku rfl rfl rfl rfl ?_
        refine qe rfl rfl rfl ?_
        refine zS 5 ((x76.2 : Int) == 0) [(0, .pointer (some ⟨g1, 0, none⟩)), (1, .int .i64 x7), (7, .pointer (some ⟨g14, 0, none⟩)), (9, .int .i64 x15.1), (10, .slice a77 x76.1.length c78), (41, .bool (((x76.2 : Int) == 0) && (decide ((x76.1.length : Int) ≤ x15.1))))] (fun h79 => ?_) (fun h79 => ?_) ?_
        · refine qy (os := _) rfl ?_
          refine zA (k := 36) rfl h79 ?_
          refine qe rfl rfl rfl ?_
          refine qX rfl Tryz.underlying37 rfl rfl ?_
          refine qe rfl rfl rfl ?_
          refine qcC rfl rfl rfl rfl ?_
          refine qG (b := true) rfl rfl rfl rfl ?_
          refine qC (d := 41) (v := .bool (((x76.2 : Int) == 0) && (decide ((x76.1.length : Int) ≤ x15.1)))) rfl (by rw [h79]; simp only [Bool.true_and]) ?_
          refine qd ?_
          exact qT (qk rfl (qk rfl (qk rfl (qk rfl (qk rfl (qk rfl zd))))))
        · refine qy (os := _) rfl ?_
          refine zz (k := 36) rfl h79 ?_
          refine qn rfl rfl rfl ?_
          refine qn rfl rfl rfl ?_
          refine qn rfl rfl rfl ?_
          refine qn rfl rfl rfl ?_
          refine qG (b := false) rfl rfl rfl rfl ?_
          refine qC (d := 41) (v := .bool (((x76.2 : Int) == 0) && (decide ((x76.1.length : Int) ≤ x15.1)))) rfl (by rw [h79]; simp only [Bool.false_and]) ?_
          refine qd ?_
          exact qT (qk rfl (qk rfl (qk rfl (qk rfl (qk rfl (qk rfl zd))))))
        refine qy (os := _) rfl ?_
        refine kD ent108 rfl rfl rfl (fun x80 e80 => vw F (((x76.2 : Int) == 0) && (decide ((x76.1.length : Int) ≤ x15.1))) x80 e80) .nil .nil .nil (fun x81 _ => ?_) (fun x80 e80 => ?_)
        · refine zi ?_
          exact yE (.cons 0 rfl .nil)
        intro _
        refine qd ?_
        exact qm ((x76.1, x72.2.1, x72.2.2), (a77, c78)) (hB := (.cons 0 rfl (.cons 0 rfl .nil))) (hR := (.cons 0 rfl .nil)) (hF := (qo 0 rfl qA))
      · refine qr ?_
        refine q3 Int (eI .i64) 3 1 ?_
        exact qm ((([] : List Int), x15.2.1, x15.2.2), (none, 0)) (hB := (.cons 0 rfl (.cons 0 rfl .nil))) (hR := (.cons 0 rfl .nil)) (hF := (qo 0 rfl qA))
    · rintro ⟨⟨x31, x32, x33⟩, ⟨a29, c30⟩⟩
      try dsimp only
      refine qg ?_
      refine qa ?_
      refine qe rfl rfl rfl ?_
      refine qe rfl rfl rfl ?_
      refine qX rfl Tryz.underlying37 rfl rfl ?_
      refine zJ rfl rfl rfl rfl ?_
      refine qb rfl rfl rfl ?_
      refine qd ?_
      refine qc ?_
      refine qg ?_
      refine qg ?_
      refine qa ?_
      refine qe rfl rfl rfl ?_
      refine ku rfl rfl rfl rfl ?_
      refine qd ?_
      refine qc ?_
      refine qz rfl (fun h71 => ?_) (fun h71 => ?_)
      · refine qg ?_
        refine qa ?_
        refine qe rfl rfl rfl ?_
        refine qb rfl rfl rfl ?_
        refine qd ?_
        refine qc ?_
        refine qs ?_
        refine qp ?_
        exact qaG (a29, c30) (.inl rfl) (res1 rfl rfl) rfl (.cons 0 rfl .nil) (.cons 0 rfl .nil)
      · refine qr ?_
        refine qc ?_
        refine qg ?_
        refine qa ?_
        refine qb rfl rfl rfl ?_
        refine qd ?_
        refine qc ?_
        refine qK (fun (((x42, x43, x44), (a40, c41)) : ((List (Int × Int) × Int × Int) × (Option Addr × Nat))) => [(0, .pointer (some ⟨g1, 0, none⟩)), (1, .int .i64 x7), (7, .pointer (some ⟨g14, 0, none⟩)), (10, .slice a29 x31.length c30), (12, .int .i64 (isub .i64 x15.1 (x31.length : Int))), (13, .slice a40 x42.length c41)]) (fun (((x42, x43, x44), (a40, c41)) : ((List (Int × Int) × Int × Int) × (Option Addr × Nat))) => [⟨g1, 137, [.int .i64 x43, .slice a4 x3.length c5, .int .i64 x44]⟩, ⟨g14, 26, [.int .i64 x11, .int .i64 x12, .int .i64 x13]⟩]) (fun (((x42, x43, x44), (a40, c41)) : ((List (Int × Int) × Int × Int) × (Option Addr × Nat))) => [Ro (eI .i64) 3 1 (.slice a29 x31.length c30) x31, Ro eS141 141 2 (.slice a40 x42.length c41) x42]) (fun (((x42, x43, x44), (a40, c41)) : ((List (Int × Int) × Int × Int) × (Option Addr × Nat))) => [Sl (eI .u8) 1 (.slice a4 x3.length c5) x3]) (fun (((x42, x43, x44), _) : ((List (Int × Int) × Int × Int) × (Option Addr × Nat))) => kY F x3 x7 x13 x15 x31 x42 x43 x44) ?_ ?_
        · refine qg ?_
          refine qa ?_
          refine qi rfl rfl qcR rfl ?_
          refine ql (i := 1) rfl rfl tf3 rfl rfl (fun _ => rfl) rfl rfl ?_
          refine zG rfl rfl rfl rfl ?_
          refine qd ?_
          refine qc ?_
          refine qz rfl (fun h70 => ?_) (fun h70 => ?_)
          · refine qa ?_
            refine qe rfl rfl rfl ?_
            refine qe rfl rfl rfl ?_
            refine qi rfl rfl qcR rfl ?_
            refine ql (i := 1) rfl rfl tf3 rfl rfl (fun _ => rfl) rfl rfl ?_
            refine qe rfl rfl rfl ?_
            refine kD ent124 rfl rfl rfl (fun x66 e66 => qdt F g1 x32 x3 a4 c5 x33 x7 x12 (isub .i64 x15.1 (x31.length : Int)) x66 e66) (.cons 0 rfl .nil) .nil (.consF 0 rfl .nil) (fun x67 _ => ?_) (fun x66 e66 => ?_)
            · refine zi ?_
              exact yE (.cons 0 rfl .nil)
            rintro ⟨a68, c69⟩
            refine qb rfl rfl rfl ?_
            refine qd ?_
            exact qm ((x66.1, x66.2.1, x66.2.2), (a68, c69)) (hB := (.cons 0 rfl (.cons 0 rfl .nil))) (hR := (.cons 1 rfl (.cons 0 rfl .nil))) (hF := (qo 0 rfl qA))
          · refine qr ?_
            refine q3 (Int × Int) eS141 141 2 ?_
            exact qm ((([] : List (Int × Int)), x32, x33), (none, 0)) (hB := (.cons 0 rfl (.cons 0 rfl .nil))) (hR := (.cons 1 rfl (.cons 0 rfl .nil))) (hF := (qo 0 rfl qA))
        · rintro ⟨⟨x42, x43, x44⟩, ⟨a40, c41⟩⟩
          try dsimp only
          refine qg ?_
          refine qa ?_
          refine qe rfl rfl rfl ?_
          refine kv Int (eI .i64) 3 1 ?_
          refine qx ent125 rfl rfl rfl (fun x45 e45 => qgq F x42 a40 c41 ([] : List Int) none 0 x45 e45) (.consR 2 (Ro eS141 141 2 (.slice a40 x42.length c41) x42) rfl (.consR 0 (Ro (eI .i64) 3 1 (.slice none ([] : List Int).length 0) ([] : List Int)) rfl .nil)) (fun x45 e45 => ?_)
          rintro ⟨a46, c47⟩
          refine qe rfl rfl rfl ?_
          refine qv rfl rfl rfl rfl ?_
          refine qv rfl rfl rfl rfl ?_
          refine qb rfl rfl rfl ?_
          refine qb rfl rfl rfl ?_
          refine qd ?_
          refine qc ?_
          refine qg ?_
          refine qa ?_
          refine qe rfl rfl rfl ?_
          refine ku rfl rfl rfl rfl ?_
          refine qe rfl rfl rfl ?_
          refine zS 5 ((x45.2 : Int) == 0) [(0, .pointer (some ⟨g1, 0, none⟩)), (1, .int .i64 x7), (7, .pointer (some ⟨g14, 0, none⟩)), (10, .slice a29 x31.length c30), (12, .int .i64 (isub .i64 x15.1 (x31.length : Int))), (14, .slice a46 x45.1.length c47), (71, .bool (((x45.2 : Int) == 0) && (decide ((x45.1.length : Int) ≤ (isub .i64 x15.1 (x31.length : Int))))))] (fun h48 => ?_) (fun h48 => ?_) ?_
          · refine qy (os := _) rfl ?_
            refine zA (k := 66) rfl h48 ?_
            refine qe rfl rfl rfl ?_
            refine qX rfl Tryz.underlying37 rfl rfl ?_
            refine qe rfl rfl rfl ?_
            refine qcC rfl rfl rfl rfl ?_
            refine qG (b := true) rfl rfl rfl rfl ?_
            refine qC (d := 71) (v := .bool (((x45.2 : Int) == 0) && (decide ((x45.1.length : Int) ≤ (isub .i64 x15.1 (x31.length : Int)))))) rfl (by rw [h48]; simp only [Bool.true_and]) ?_
            refine qd ?_
            exact qT (qk rfl (qk rfl (qk rfl (qk rfl (qk rfl (qk rfl (qk rfl zd)))))))
          · refine qy (os := _) rfl ?_
            refine zz (k := 66) rfl h48 ?_
            refine qn rfl rfl rfl ?_
            refine qn rfl rfl rfl ?_
            refine qn rfl rfl rfl ?_
            refine qn rfl rfl rfl ?_
            refine qG (b := false) rfl rfl rfl rfl ?_
            refine qC (d := 71) (v := .bool (((x45.2 : Int) == 0) && (decide ((x45.1.length : Int) ≤ (isub .i64 x15.1 (x31.length : Int)))))) rfl (by rw [h48]; simp only [Bool.false_and]) ?_
            refine qd ?_
            exact qT (qk rfl (qk rfl (qk rfl (qk rfl (qk rfl (qk rfl (qk rfl zd)))))))
          refine qy (os := _) rfl ?_
          refine kD ent108 rfl rfl rfl (fun x49 e49 => vw F (((x45.2 : Int) == 0) && (decide ((x45.1.length : Int) ≤ (isub .i64 x15.1 (x31.length : Int))))) x49 e49) .nil .nil .nil (fun x50 _ => ?_) (fun x49 e49 => ?_)
          · refine zi ?_
            exact yE (.cons 0 rfl .nil)
          intro _
          refine qd ?_
          refine qc ?_
          refine qg ?_
          refine zg mixed [] [⟨g1, 137, [.int .i64 x43, .slice a4 x3.length c5, .int .i64 x44]⟩, ⟨g14, 26, [.int .i64 x11, .int .i64 x12, .int .i64 x13]⟩] [Sl (eI .u8) 1 (.slice a4 x3.length c5) x3] (.cons 0 rfl (.cons 0 rfl .nil)) (q8 0 rfl qE) 23 rfl ?_
          refine qf 0 (.pointer (some ⟨g1, 0, none⟩)) rfl rfl rfl (qj rfl) ?_
          refine qf 1 (.pointer (some ⟨g1, 0, none⟩)) rfl rfl rfl (qj rfl) ?_
          refine qf 2 (.pointer (some ⟨g1, 0, none⟩)) rfl rfl rfl (qt rfl qgA) ?_
          refine qP 3 (.agg #[.int .i64 x43, .slice a4 x3.length c5]) rfl rfl rfl (qQ (i := 0) rfl tf29 rfl rfl (by simp) rfl) ?_
          refine qf 4 (.pointer (some ⟨g1, 0, none⟩)) rfl rfl rfl (qj rfl) ?_
          refine qf 5 (.pointer (some ⟨g1, 0, none⟩)) rfl rfl rfl (qj rfl) ?_
          refine qf 6 (.pointer (some ⟨g1, 2, none⟩)) rfl rfl rfl (qt rfl qcr) ?_
          refine qP 7 (.int .i64 x44) rfl rfl rfl (qQ (i := 0) rfl tf3 rfl rfl (fun _ => rfl) rfl) ?_
          refine qf 8 (.int .i64 x7) rfl rfl rfl (qj rfl) ?_
          refine qf 9 (.pointer (some ⟨g14, 2, none⟩)) rfl rfl rfl (qt rfl qgC) ?_
          refine qP 10 (.int .i64 x13) rfl rfl rfl (qQ (i := 1) rfl tf3 rfl rfl (fun _ => rfl) rfl) ?_
          refine qf 11 (.int .i64 (isub .i64 x15.1 (x31.length : Int))) rfl rfl rfl (qj rfl) ?_
          refine qf 12 (.slice a46 x45.1.length c47) rfl rfl rfl (qj rfl) ?_
          refine qf 13 (.int .i64 (x45.1.length : Int)) rfl rfl rfl (qeu Tryz.underlying37 rfl) ?_
          refine qf 14 (.int .i64 (isub .i64 (isub .i64 x15.1 (x31.length : Int)) (x45.1.length : Int))) rfl rfl rfl (qj rfl) ?_
          refine qI 15 rfl (by kernel_rfl) rfl ?_
          refine qx ent126 rfl rfl rfl (fun x54 e54 => qhg F x43 x3 a4 c5 x44 x7 x13 (isub .i64 (isub .i64 x15.1 (x31.length : Int)) (x45.1.length : Int)) x54 e54) (.consF 0 rfl .nil) (fun x54 e54 => ?_)
          rintro ⟨a55, c56⟩
          refine qd ?_
          refine qF (.cons 0 rfl (.cons 0 rfl .nil)) (q8 0 rfl qE) ?_
          refine qf 16 (.tuple #[.slice a55 x54.1.length c56, .int .i64 x54.2.1, .int .i64 x54.2.2]) rfl rfl rfl (qj rfl) ?_
          refine qf 17 (.slice a55 x54.1.length c56) rfl rfl rfl (qj rfl) ?_
          refine qf 18 (.int .i64 x54.2.1) rfl rfl rfl (qj rfl) ?_
          refine qf 19 (.int .i64 x54.2.2) rfl rfl rfl (qj rfl) ?_
          refine qf 20 (.slice a55 x54.1.length c56) rfl rfl rfl (qj rfl) ?_
          refine qf 21 (.int .i64 x54.2.1) rfl rfl rfl (qj rfl) ?_
          refine qf 22 (.int .i64 x54.2.2) rfl rfl rfl (qj rfl) ?_
          refine qO (by kernel_rfl) ?_
          refine zm ?_ (by intro c h; cases h)
          refine qc ?_
          refine qg ?_
          refine qa ?_
          refine qe rfl rfl rfl ?_
          refine ku rfl rfl rfl rfl ?_
          refine kD ent108 rfl rfl rfl (fun x57 e57 => vw F ((x54.2.2 : Int) == 0) x57 e57) .nil .nil .nil (fun x58 _ => ?_) (fun x57 e57 => ?_)
          · refine zi ?_
            exact yE (.cons 0 rfl .nil)
          intro _
          refine qd ?_
          refine qc ?_
          refine qg ?_
          refine qa ?_
          refine qe rfl rfl rfl ?_
          refine qe rfl rfl rfl ?_
          refine qN rfl rfl rfl ?_
          refine qi rfl rfl qcr rfl ?_
          refine qu (i := 0) rfl rfl rfl tf3 rfl rfl rfl rfl rfl ?_
          refine qd ?_
          refine qc ?_
          refine qg ?_
          refine qa ?_
          refine qe rfl rfl rfl ?_
          refine qe rfl rfl rfl ?_
          refine qe rfl rfl rfl ?_
          refine qcB 3 rfl ?_
          refine qcB 1 rfl ?_
          refine qcB 0 rfl ?_
          refine zW (vs := [.slice a29 x31.length c30, .slice a46 x45.1.length c47, .slice a55 x54.1.length c56]) (ys := ([(x31, (a29, c30)), (x45.1, (a46, c47)), (x54.1, (a55, c56))] : List (List Int × (Option Addr × Nat)))) yP (by decide) rfl Tryz.underlying22 tf37 rfl rfl rfl rfl rfl (by decide) (fun a59 c60 => ?_)
          refine qgb (inn := iN37) ([x31, x45.1, x54.1] : List (List Int)) ([(a29, c30), (a46, c47), (a55, c56)] : List (Option Addr × Nat)) 0 rfl rfl (qo 2 rfl (qo 1 rfl (qo 0 rfl qA))) ?_
          refine qx ent127 rfl rfl rfl (fun x61 e61 => qaa F ([x31, x45.1, x54.1] : List (List Int)) a59 (c60, ([(a29, c30), (a46, c47), (a55, c56)] : List (Option Addr × Nat))) x61 e61) (.consF 0 rfl .nil) (fun x61 e61 => ?_)
          rintro ⟨a62, c63⟩
          refine qb rfl rfl rfl ?_
          refine qd ?_
          refine qc ?_
          refine qg ?_
          refine qa ?_
          refine qe rfl rfl rfl ?_
          refine qY ent128 rfl rfl rfl (fun x64 e64 => qay F x61 a62 c63 x64 e64) .nil (.cons 0 rfl .nil) .nil (fun x64 e64 => ?_)
          intro _
          refine qbr (fun h65 => ?_)
          replace h65 := of_decide_eq_true h65
          refine qC (d := 10) (v := .slice a62 x64.length c63) rfl (by rw [h65] <;> rfl) ?_
          refine qC (d := 104) (v := .slice a62 x64.length c63) rfl (by rw [h65] <;> rfl) ?_
          refine qC (d := 105) (v := .slice a62 x64.length c63) rfl (by rw [h65] <;> rfl) ?_
          refine qd ?_
          refine qc ?_
          refine qg ?_
          refine qa ?_
          refine qe rfl rfl rfl ?_
          refine qb rfl rfl rfl ?_
          refine qd ?_
          refine qc ?_
          refine qs ?_
          exact qaG (a62, c63) (.inl rfl) (res1 rfl rfl) rfl (.cons 0 rfl .nil) (.cons 0 rfl .nil)
set_option maxHeartbeats 4000000 in
theorem qds (F : Nat) (g1 : Nat) (x2 : Int) (x3 : List Int) (a4 : Option Addr) (c5 : Nat) (x6 : Int) (x7 : Int) (x8 : List Int) (a9 : Option Addr) (c10 : Nat) (x11 : Int) (x12 : Int) (x13 : Int) (r : (List Int × Bool × Int × Int)) (hm : yH F x2 x3 x6 x7 x8 x11 x12 x13 = some r) :
    PureM Tryz.prog 83 [.pointer (some ⟨g1, 0, none⟩), .int .i64 x7, .slice a9 x8.length c10, .agg #[.int .i64 x11, .int .i64 x12, .int .i64 x13]] [⟨g1, 137, [.int .i64 x2, .slice a4 x3.length c5, .int .i64 x6]⟩] [] [Sl (eI .u8) 1 (.slice a4 x3.length c5) x3, Sl (eI .i64) 1 (.slice a9 x8.length c10) x8] (Option Addr × Nat) (fun g => .tuple #[.slice g.1 r.1.length g.2, .bool r.2.1]) (fun _ => [⟨g1, 137, [.int .i64 r.2.2.1, .slice a4 x3.length c5, .int .i64 r.2.2.2]⟩]) (fun g => [Ro (eI .i64) 3 1 (.slice g.1 r.1.length g.2) r.1]) := by
 refine qla Tryz.func83 rfl Tryz.ntmps83 rfl hm (fun w => qH (l' := [(0, .pointer (some ⟨g1, 0, none⟩)), (1, .int .i64 x7), (2, .slice a9 x8.length c10), (3, .agg #[.int .i64 x11, .int .i64 x12, .int .i64 x13])]) rfl (qg (qa (qV rfl rfl rfl (fun g14 => qR rfl tf37 rfl (fun g15 => qR rfl tf4 rfl (fun g16 => qd (qc (qg (qa (qcD rfl rfl rfl (qke rfl rfl ?_))))))))))))
 refine qd (qc (qg (qa (qe rfl rfl rfl (qN rfl rfl rfl (qi rfl rfl qcr rfl (ql (i := 3) rfl rfl tf3 rfl rfl (fun _ => rfl) rfl rfl (qb rfl rfl rfl (qd (qc (qg (qa ?_))))))))))))
 refine qe rfl rfl rfl (qe rfl rfl rfl (qe rfl rfl rfl (ql (i := 2) rfl rfl tf26 rfl rfl (by simp) rfl rfl (kD ent107 rfl rfl rfl (fun x17 e17 => qdr F g1 x2 x3 a4 c5 x6 x7 x8 a9 c10 x11 x12 x13 x17 e17) (.cons 3 rfl .nil) .nil (.consF 0 rfl (.consF 1 rfl .nil)) (fun x18 _ => ?_) (fun x17 e17 => ?_)))))
 exact zi (qbL ent106 rfl (.cons 2 rfl (.cons 1 rfl .nil)) (qdT _ _ _ _) (q3 Int (eI .i64) 3 1 (zr (none, 0) (resL (rs := [.cell 8 37, .cell 9 4]) rfl (.cell (i := 0) rfl tf37 rfl rfl (fun _ => rfl) rfl (.cell (i := 1) rfl tf4 rfl rfl (fun _ => rfl) rfl ResOk.nil)) rfl) (hB := fun h => by subst h; exact (.cons 2 rfl .nil)) (hR := fun h => by subst h; exact (.cons 0 rfl .nil)))))
 rintro ⟨a19, c20⟩
 refine qu (i := 2) rfl rfl rfl tf37 rfl rfl rfl rfl rfl (qd (qc (qg (qa (ql (i := 2) rfl rfl tf37 rfl rfl (fun _ => rfl) rfl rfl (qx ent47 rfl rfl rfl (fun x21 e21 => qae F x17.1 a19 c20 x21 e21) (.consR 0 (Ro (eI .i64) 3 1 (.slice a19 x17.1.length c20) x17.1) rfl .nil) (fun x21 e21 => ?_)))))))
 intro _
 refine ku rfl rfl rfl rfl (kD ent108 rfl rfl rfl (fun x22 e22 => vw F ((x21 : Int) == 0) x22 e22) .nil .nil .nil (fun x23 _ => ?_) (fun x22 e22 => ?_))
 exact zi (qbL ent106 rfl (.cons 2 rfl (.cons 1 rfl .nil)) (qdT _ _ _ _) (q3 Int (eI .i64) 3 1 (zr (none, 0) (resL (rs := [.cell 8 37, .cell 9 4]) rfl (.cell (i := 0) rfl tf37 rfl rfl (fun _ => rfl) rfl (.cell (i := 1) rfl tf4 rfl rfl (fun _ => rfl) rfl ResOk.nil)) rfl) (hB := fun h => by subst h; exact (.cons 2 rfl .nil)) (hR := fun h => by subst h; exact (.cons 0 rfl .nil)))))
 intro _
 refine qd (qc (qg (qa (zv (cells := [.int .i64 0, .slice none 0 0, .bool false]) rfl st90 rfl (by kernel_rfl) rfl (qV rfl rfl rfl (fun g24 => qb rfl rfl rfl (qd (qc (qg (qa (qe rfl rfl rfl (qe rfl rfl rfl ?_))))))))))))
 refine ql (i := 3) rfl rfl tf37 rfl rfl (fun _ => rfl) rfl rfl (qe rfl rfl rfl (ql (i := 4) rfl rfl tf26 rfl rfl (by simp) rfl rfl (kv Int (eI .u8) 5 1 (qY ent49 rfl rfl rfl (fun x25 e25 => qbu F g24 0 ([] : List Int) none 0 false x7 x17.1 a19 c20 x8 a9 c10 x11 x12 x13 x25 e25) (.cons 0 rfl .nil) (.cons 0 rfl .nil) (.consR 0 (Ro (eI .i64) 3 1 (.slice a19 x17.1.length c20) x17.1) rfl (.consF 1 rfl .nil)) (fun x25 e25 => ?_)))))
 rintro ⟨a26, c27⟩
 refine qd (qc (qK (fun ((_, _) : (Unit × Unit)) => [(0, .pointer (some ⟨g1, 0, none⟩)), (8, .pointer (some ⟨g15, 0, none⟩)), (9, .pointer (some ⟨g16, 0, none⟩)), (10, .int .i64 x6), (11, .pointer (some ⟨g24, 0, none⟩))]) (fun ((_, _) : (Unit × Unit)) => [⟨g24, 90, [.int .i64 x25.1, .slice a26 x25.2.1.length c27, .bool x25.2.2]⟩, ⟨g1, 137, [.int .i64 x17.2.1, .slice a4 x3.length c5, .int .i64 x17.2.2]⟩, ⟨g16, 4, [.bool false]⟩, ⟨g15, 37, [.slice a19 x17.1.length c20]⟩]) (fun ((_, _) : (Unit × Unit)) => [Ro (eI .u8) 5 1 (.slice a26 x25.2.1.length c27) x25.2.1, Ro (eI .i64) 3 1 (.slice a19 x17.1.length c20) x17.1]) (fun ((_, _) : (Unit × Unit)) => [Sl (eI .u8) 1 (.slice a4 x3.length c5) x3]) (fun ((_, _) : (Unit × Unit)) => yN F x3 x6 x17 x25) ?_ ?_))
 refine qad (fun h97 => ?_) (fun h97 => ?_)
 refine qeq mixed [8, 9] [] [⟨g24, 90, [.int .i64 x25.1, .slice a26 x25.2.1.length c27, .bool x25.2.2]⟩, ⟨g1, 137, [.int .i64 x17.2.1, .slice a4 x3.length c5, .int .i64 x17.2.2]⟩, ⟨g16, 4, [.bool false]⟩, ⟨g15, 37, [.slice a19 x17.1.length c20]⟩, ⟨g14, 26, [.int .i64 x11, .int .i64 x12, .int .i64 x13]⟩] [Sl (eI .u8) 1 (.slice a4 x3.length c5) x3, Sl (eI .i64) 1 (.slice a9 x8.length c10) x8] (.cons 0 rfl (.cons 0 rfl (.cons 0 rfl (.cons 0 rfl (.cons 0 rfl .nil))))) (q8 0 rfl (q8 1 rfl qE)) 20 rfl (q2 0 (.pointer (some ⟨g24, 0, none⟩)) rfl rfl rfl (qj rfl) rfl (q2 1 (.pointer (some ⟨g24, 0, none⟩)) rfl rfl rfl (qj rfl) rfl (q2 2 (.pointer (some ⟨g24, 2, none⟩)) rfl rfl rfl (qt rfl qb6) rfl (qaF 3 (.bool x25.2.2) rfl rfl rfl (qQ (i := 0) rfl tf4 rfl rfl (fun _ => rfl) rfl) rfl (q2 4 (.bool (!x25.2.2)) rfl rfl rfl (qj rfl) rfl (q2 5 (.bool (!x25.2.2)) rfl rfl rfl (qj rfl) rfl (qJ (d := 40) (v := .bool true) rfl (by rw [h97] <;> rfl) (q2 6 (.pointer (some ⟨g24, 0, none⟩)) rfl rfl rfl (qj rfl) rfl (q2 7 (.pointer (some ⟨g24, 0, none⟩)) rfl rfl rfl (qj rfl) rfl (q2 8 (.pointer (some ⟨g24, 0, none⟩)) rfl rfl rfl (qt rfl qdy) rfl (q2 9 (.pointer (some ⟨g24, 0, none⟩)) rfl rfl rfl (qt rfl ky) rfl (qaF 10 (.int .i64 x25.1) rfl rfl rfl (qQ (i := 0) rfl tf3 rfl rfl (fun _ => rfl) rfl) rfl ?_))))))))))))
 refine q2 11 (.pointer (some ⟨g1, 0, none⟩)) rfl rfl rfl (qj rfl) rfl (q2 12 (.pointer (some ⟨g1, 0, none⟩)) rfl rfl rfl (qj rfl) rfl (q2 13 (.pointer (some ⟨g1, 2, none⟩)) rfl rfl rfl (qt rfl qcr) rfl (qaF 14 (.int .i64 x17.2.2) rfl rfl rfl (qQ (i := 1) rfl tf3 rfl rfl (fun _ => rfl) rfl) rfl (q2 15 (.int .i64 x6) rfl rfl rfl (qj rfl) rfl (q2 16 (.int .i64 (isub .i64 x17.2.2 x6)) rfl rfl rfl (qj rfl) rfl (q2 17 (.bool ((x25.1 : Int) == (isub .i64 x17.2.2 x6))) rfl rfl rfl (qj rfl) rfl (q2 18 (.bool ((x25.1 : Int) == (isub .i64 x17.2.2 x6))) rfl rfl rfl (qj rfl) rfl (qI 19 rfl (by kernel_rfl) rfl (kD ent108 rfl rfl rfl (fun x98 e98 => vw F ((x25.1 : Int) == (isub .i64 x17.2.2 x6)) x98 e98) .nil .nil .nil (fun x99 _ => ?_) (fun x98 e98 => ?_))))))))))
 exact zi (qg5 (l' := [(8, .pointer (some ⟨g15, 0, none⟩)), (9, .pointer (some ⟨g16, 0, none⟩))]) (qc4 rfl rfl (qc4 rfl rfl qih)) (zi (qbL ent106 rfl (.cons 3 rfl (.cons 2 rfl .nil)) (qdT _ _ _ _) (q3 Int (eI .i64) 3 1 (zr (none, 0) (resL (rs := [.cell 8 37, .cell 9 4]) rfl (.cell (i := 0) rfl tf37 rfl rfl (fun _ => rfl) rfl (.cell (i := 1) rfl tf4 rfl rfl (fun _ => rfl) rfl ResOk.nil)) rfl) (hB := fun h => by subst h; exact (.cons 3 rfl .nil)) (hR := fun h => by subst h; exact (.cons 0 rfl .nil)))))))
 intro _
 exact qd (qF (.cons 0 rfl (.cons 0 rfl (.cons 0 rfl (.cons 0 rfl (.cons 0 rfl .nil))))) (q8 0 rfl (q8 1 rfl qE)) (qO (by kernel_rfl) (qiH (qm ((), ()) (hB := (.cons 0 rfl (.cons 0 rfl (.cons 0 rfl (.cons 0 rfl .nil))))) (hR := (.cons 0 rfl (.cons 0 rfl .nil))) (hF := (qo 0 rfl qA))) (by intro c h; cases h))))
 refine qeq mixed [8, 9] [] [⟨g24, 90, [.int .i64 x25.1, .slice a26 x25.2.1.length c27, .bool x25.2.2]⟩, ⟨g1, 137, [.int .i64 x17.2.1, .slice a4 x3.length c5, .int .i64 x17.2.2]⟩, ⟨g16, 4, [.bool false]⟩, ⟨g15, 37, [.slice a19 x17.1.length c20]⟩, ⟨g14, 26, [.int .i64 x11, .int .i64 x12, .int .i64 x13]⟩] [Sl (eI .u8) 1 (.slice a4 x3.length c5) x3, Sl (eI .i64) 1 (.slice a9 x8.length c10) x8] (.cons 0 rfl (.cons 0 rfl (.cons 0 rfl (.cons 0 rfl (.cons 0 rfl .nil))))) (q8 0 rfl (q8 1 rfl qE)) 20 rfl (q2 0 (.pointer (some ⟨g24, 0, none⟩)) rfl rfl rfl (qj rfl) rfl (q2 1 (.pointer (some ⟨g24, 0, none⟩)) rfl rfl rfl (qj rfl) rfl (q2 2 (.pointer (some ⟨g24, 2, none⟩)) rfl rfl rfl (qt rfl qb6) rfl (qaF 3 (.bool x25.2.2) rfl rfl rfl (qQ (i := 0) rfl tf4 rfl rfl (fun _ => rfl) rfl) rfl (q2 4 (.bool (!x25.2.2)) rfl rfl rfl (qj rfl) rfl (q2 5 (.bool (!x25.2.2)) rfl rfl rfl (qj rfl) rfl (qJ (d := 40) (v := .bool false) rfl (by rw [h97] <;> rfl) (yY 6 rfl rfl rfl rfl (yY 7 rfl rfl rfl rfl (yY 8 rfl rfl rfl rfl (yY 9 rfl rfl rfl rfl (yY 10 rfl rfl rfl rfl ?_))))))))))))
 refine yY 11 rfl rfl rfl rfl (yY 12 rfl rfl rfl rfl (yY 13 rfl rfl rfl rfl (yY 14 rfl rfl rfl rfl (yY 15 rfl rfl rfl rfl (yY 16 rfl rfl rfl rfl (yY 17 rfl rfl rfl rfl (q2 18 (.bool false) rfl rfl rfl (qj rfl) rfl (qI 19 rfl (by kernel_rfl) rfl (kD ent108 rfl rfl rfl (fun x100 e100 => vw F false x100 e100) .nil .nil .nil (fun x101 _ => ?_) (fun x100 e100 => ?_))))))))))
 exact zi (qg5 (l' := [(8, .pointer (some ⟨g15, 0, none⟩)), (9, .pointer (some ⟨g16, 0, none⟩))]) (qc4 rfl rfl (qc4 rfl rfl qih)) (zi (qbL ent106 rfl (.cons 3 rfl (.cons 2 rfl .nil)) (qdT _ _ _ _) (q3 Int (eI .i64) 3 1 (zr (none, 0) (resL (rs := [.cell 8 37, .cell 9 4]) rfl (.cell (i := 0) rfl tf37 rfl rfl (fun _ => rfl) rfl (.cell (i := 1) rfl tf4 rfl rfl (fun _ => rfl) rfl ResOk.nil)) rfl) (hB := fun h => by subst h; exact (.cons 3 rfl .nil)) (hR := fun h => by subst h; exact (.cons 0 rfl .nil)))))))
 intro _
 exact qd (qF (.cons 0 rfl (.cons 0 rfl (.cons 0 rfl (.cons 0 rfl (.cons 0 rfl .nil))))) (q8 0 rfl (q8 1 rfl qE)) (qO (by kernel_rfl) (qiH (qm ((), ()) (hB := (.cons 0 rfl (.cons 0 rfl (.cons 0 rfl (.cons 0 rfl .nil))))) (hR := (.cons 0 rfl (.cons 0 rfl .nil))) (hF := (qo 0 rfl qA))) (by intro c h; cases h))))
 rintro ⟨_, _⟩
 try dsimp only
 refine qK (fun ((_, _) : (Unit × Unit)) => [(8, .pointer (some ⟨g15, 0, none⟩)), (9, .pointer (some ⟨g16, 0, none⟩))]) (fun ((_, _) : (Unit × Unit)) => [⟨g1, 137, [.int .i64 x17.2.1, .slice a4 x3.length c5, .int .i64 x17.2.2]⟩, ⟨g16, 4, [.bool false]⟩, ⟨g15, 37, [.slice a19 x17.1.length c20]⟩]) (fun ((_, _) : (Unit × Unit)) => [Ro (eI .i64) 3 1 (.slice a19 x17.1.length c20) x17.1]) (fun ((_, _) : (Unit × Unit)) => [Sl (eI .u8) 1 (.slice a4 x3.length c5) x3]) (fun ((_, _) : (Unit × Unit)) => qaz F x17) ?_ ?_
 refine qg (qa (qe rfl rfl rfl (qN rfl rfl rfl (qi rfl rfl qdy rfl (qi rfl rfl ky rfl (ql (i := 0) rfl rfl tf3 rfl rfl (fun _ => rfl) rfl rfl (qe rfl rfl rfl (qd (qc (qB (q7 (fun ((x75, _) : (Int × Unit)) => [(0, .pointer (some ⟨g1, 0, none⟩)), (8, .pointer (some ⟨g15, 0, none⟩)), (9, .pointer (some ⟨g16, 0, none⟩)), (10, .int .i64 x6), (11, .pointer (some ⟨g24, 0, none⟩)), (59, .int .i64 x25.1), (60, .int .i64 x75)]) (fun ((x75, _) : (Int × Unit)) => [⟨g24, 90, [.int .i64 x25.1, .slice a26 x25.2.1.length c27, .bool x25.2.2]⟩, ⟨g1, 137, [.int .i64 x17.2.1, .slice a4 x3.length c5, .int .i64 x17.2.2]⟩, ⟨g16, 4, [.bool false]⟩, ⟨g15, 37, [.slice a19 x17.1.length c20]⟩]) (fun ((x75, _) : (Int × Unit)) => [Ro (eI .u8) 5 1 (.slice a26 x25.2.1.length c27) x25.2.1, Ro (eI .i64) 3 1 (.slice a19 x17.1.length c20) x17.1]) (fun ((x75, _) : (Int × Unit)) => [Sl (eI .u8) 1 (.slice a4 x3.length c5) x3]) (fun k (s : (Int × Unit)) => zM F x3 x6 x17 x25 k s.1) (0, ()) F ?_ (hB := (.cons 0 rfl (.cons 0 rfl (.cons 0 rfl (.cons 0 rfl .nil))))) (hR := (.cons 0 rfl (.cons 0 rfl .nil))) (hF := (qo 0 rfl qA)))))))))))))
 intro k86
 rintro ⟨x75, _⟩
 try dsimp only
 refine zB (m' := yM F x3 x6 x17 x25 (zM F x3 x6 x17 x25 k86) x75) rfl (qg (qa (qZ rfl rfl rfl rfl (qd (qc (qg (qz rfl (fun h96 => ?_) (fun h96 => ?_))))))))
 refine qr (qc (qg (qB (qg (qa (qe rfl rfl rfl (qb rfl rfl rfl (qd (qc (qeq mixed [8, 9] [] [⟨g24, 90, [.int .i64 x25.1, .slice a26 x25.2.1.length c27, .bool x25.2.2]⟩, ⟨g1, 137, [.int .i64 x17.2.1, .slice a4 x3.length c5, .int .i64 x17.2.2]⟩, ⟨g16, 4, [.bool false]⟩, ⟨g15, 37, [.slice a19 x17.1.length c20]⟩] [Sl (eI .u8) 1 (.slice a4 x3.length c5) x3] (.cons 0 rfl (.cons 0 rfl (.cons 0 rfl (.cons 0 rfl .nil)))) (q8 0 rfl qE) 16 rfl (q2 0 (.pointer (some ⟨g24, 0, none⟩)) rfl rfl rfl (qj rfl) rfl (q2 1 (.pointer (some ⟨g24, 0, none⟩)) rfl rfl rfl (qj rfl) rfl ?_))))))))))))
 refine q2 2 (.pointer (some ⟨g24, 0, none⟩)) rfl rfl rfl (qt rfl qdy) rfl (qaF 3 (.agg #[.int .i64 x25.1, .slice a26 x25.2.1.length c27]) rfl rfl rfl (qQ (i := 0) rfl tf29 rfl rfl (by simp) rfl) rfl (q2 4 (.int .i64 x75) rfl rfl rfl (qj rfl) rfl (q2 6 (.pointer (some ⟨g1, 0, none⟩)) rfl rfl rfl (qj rfl) rfl (q2 7 (.pointer (some ⟨g1, 0, none⟩)) rfl rfl rfl (qj rfl) rfl (q2 8 (.pointer (some ⟨g1, 0, none⟩)) rfl rfl rfl (qt rfl qgA) rfl (qaF 9 (.agg #[.int .i64 x17.2.1, .slice a4 x3.length c5]) rfl rfl rfl (qQ (i := 1) rfl tf29 rfl rfl (by simp) rfl) rfl (q2 10 (.int .i64 x6) rfl rfl rfl (qj rfl) rfl (q2 11 (.int .i64 x75) rfl rfl rfl (qj rfl) rfl (q2 12 (.int .i64 (iadd .i64 x6 x75)) rfl rfl rfl (qj rfl) rfl (qI 5 rfl (by kernel_rfl) rfl (qx ent79 rfl rfl rfl (fun x92 e92 => qcc F x25.1 x25.2.1 a26 c27 x75 x92 e92) (.consR 0 (Ro (eI .u8) 5 1 (.slice a26 x25.2.1.length c27) x25.2.1) rfl .nil) (fun x92 e92 => ?_))))))))))))
 intro _
 refine qd (qF (.cons 0 rfl (.cons 0 rfl (.cons 0 rfl (.cons 0 rfl .nil)))) (q8 0 rfl qE) (qI 13 rfl (by kernel_rfl) rfl (qx ent79 rfl rfl rfl (fun x93 e93 => qcc F x17.2.1 x3 a4 c5 (iadd .i64 x6 x75) x93 e93) (.consF 0 rfl .nil) (fun x93 e93 => ?_))))
 intro _
 refine qd (qF (.cons 0 rfl (.cons 0 rfl (.cons 0 rfl (.cons 0 rfl .nil)))) (q8 0 rfl qE) (q2 14 (.bool ((x92 : Int) == x93)) rfl rfl rfl (qj rfl) rfl (qI 15 rfl (by kernel_rfl) rfl (kD ent108 rfl rfl rfl (fun x94 e94 => vw F ((x92 : Int) == x93) x94 e94) .nil .nil .nil (fun x95 _ => ?_) (fun x94 e94 => ?_)))))
 exact zi (qg5 (l' := [(8, .pointer (some ⟨g15, 0, none⟩)), (9, .pointer (some ⟨g16, 0, none⟩))]) (qc4 rfl rfl (qc4 rfl rfl qih)) (qa6 (zi (zi (qa6 (zi (qbL ent106 rfl (.cons 3 rfl (.cons 2 rfl .nil)) (qdT _ _ _ _) (q3 Int (eI .i64) 3 1 (zr (none, 0) (resL (rs := [.cell 8 37, .cell 9 4]) rfl (.cell (i := 0) rfl tf37 rfl rfl (fun _ => rfl) rfl (.cell (i := 1) rfl tf4 rfl rfl (fun _ => rfl) rfl ResOk.nil)) rfl) (hB := fun h => by subst h; exact (.cons 3 rfl .nil)) (hR := fun h => by subst h; exact (.cons 0 rfl .nil)))))))))))
 intro _
 exact qd (qF (.cons 0 rfl (.cons 0 rfl (.cons 0 rfl (.cons 0 rfl .nil)))) (q8 0 rfl qE) (qO (by kernel_rfl) (qiH (qU (qc (qa (qL rfl rfl rfl rfl (qe rfl rfl rfl (qd (qW (iadd .i64 x75 1, ()) (hB := (.cons 0 rfl (.cons 0 rfl (.cons 0 rfl (.cons 0 rfl .nil))))) (hR := (.cons 0 rfl (.cons 0 rfl .nil))) (hF := (qo 0 rfl qA))))))))) (by intro c h; cases h))))
 exact zj (qD (qD (zk (qm ((), ()) (hB := (.cons 1 rfl (.cons 1 rfl (.cons 1 rfl .nil)))) (hR := (.cons 1 rfl .nil)) (hF := (qo 0 rfl qA))))))
 rintro ⟨_, _⟩
 try dsimp only
 exact qg (qa (ql (i := 2) rfl rfl tf37 rfl rfl (fun _ => rfl) rfl rfl (qu (i := 2) rfl rfl rfl tf37 rfl rfl rfl rfl rfl (qu (i := 1) rfl rfl rfl tf4 rfl rfl rfl rfl rfl (qd (qc (qs (qiI (.inl rfl) ent106 rfl (ql8 _ _) (zr (a19, c20) (resL (rs := [.cell 8 37, .cell 9 4]) rfl (.cell (i := 2) rfl tf37 rfl rfl (fun _ => rfl) rfl (.cell (i := 1) rfl tf4 rfl rfl (fun _ => rfl) rfl ResOk.nil)) rfl) (hB := fun h => by subst h; exact (.cons 0 rfl .nil)) (hR := fun h => by subst h; exact (.cons 0 rfl .nil)))))))))))
theorem qez (F : Nat) (x1 : Int) (x2 : List Int) (a3 : Option Addr) (c4 : Nat) (x5 : Int) (x6 : Int) (x7 : List Int) (a8 : Option Addr) (c9 : Nat) (x10 : Int) (x11 : Int) (x12 : Int) (r : (List Int × Int × Int)) (hm : qab F x1 x2 x5 x6 x7 x10 x11 x12 = some r) :
    Pure Tryz.prog 57 [.agg #[.int .i64 x1, .slice a3 x2.length c4], .int .i64 x5, .int .i64 x6, .slice a8 x7.length c9, .agg #[.int .i64 x10, .int .i64 x11, .int .i64 x12]] [Sl (eI .u8) 1 (.slice a3 x2.length c4) x2, Sl (eI .i64) 1 (.slice a8 x7.length c9) x7] (Option Addr × Nat) (fun g => .tuple #[.slice g.1 r.1.length g.2, .int .i64 r.2.1, .int .i64 r.2.2]) (fun g => [Ro (eI .i64) 3 1 (.slice g.1 r.1.length g.2) r.1]) (fun _ => []) := by
 refine qS Tryz.func57 rfl Tryz.ntmps57 rfl hm (fun w => qH (l' := [(0, .agg #[.int .i64 x1, .slice a3 x2.length c4]), (1, .int .i64 x5), (2, .int .i64 x6), (3, .slice a8 x7.length c9), (4, .agg #[.int .i64 x10, .int .i64 x11, .int .i64 x12])]) rfl (qg (qa (qV rfl rfl rfl (fun g13 => qV rfl rfl rfl (fun g14 => qb rfl rfl rfl (qb rfl rfl rfl (qb rfl rfl rfl (qd (qc (qg (qa ?_))))))))))))
 refine ql (i := 1) rfl rfl tf29 rfl rfl (by simp) rfl rfl (qe rfl rfl rfl (zv (cells := [.int .i64 x1, .slice a3 x2.length c4, .int .i64 x5]) rfl st137 rfl (by kernel_rfl) rfl (qV rfl rfl rfl (fun g15 => qb rfl rfl rfl (qd (qc (qg (qa (qe rfl rfl rfl (qe rfl rfl rfl (qe rfl rfl rfl (ql (i := 1) rfl rfl tf26 rfl rfl (by simp) rfl rfl ?_))))))))))))
 refine qY ent83 rfl rfl rfl (fun x16 e16 => qds F g15 x1 x2 a3 c4 x5 x6 x7 a8 c9 x10 x11 x12 x16 e16) (.cons 0 rfl .nil) .nil (.consF 0 rfl (.consF 1 rfl .nil)) (fun x16 e16 => ?_)
 rintro ⟨a17, c18⟩
 refine qe rfl rfl rfl (qv rfl rfl rfl rfl (qv rfl rfl rfl rfl (qb rfl rfl rfl (qb rfl rfl rfl (qd (qc (qg (qg (qa (qe rfl rfl rfl (kw rfl rfl rfl (qd ?_))))))))))))
 refine qc (qz rfl (fun h20 => ?_) (fun h20 => ?_))
 exact qg (qa (qb rfl rfl rfl (qb rfl rfl rfl (qb rfl rfl rfl (qd (qc (qs (qp (q3 Int (eI .i64) 3 1 (qq (none, 0) (res3 rfl rfl rfl rfl) (fun h => by subst h; exact (.cons 0 rfl .nil))))))))))))
 refine qr (qc (qg (zg mixed [] [⟨g15, 137, [.int .i64 x16.2.2.1, .slice a3 x2.length c4, .int .i64 x16.2.2.2]⟩, ⟨g14, 26, [.int .i64 x10, .int .i64 x11, .int .i64 x12]⟩, ⟨g13, 29, [.int .i64 x1, .slice a3 x2.length c4]⟩] [Sl (eI .u8) 1 (.slice a3 x2.length c4) x2, Sl (eI .i64) 1 (.slice a8 x7.length c9) x7] (.cons 0 rfl (.cons 0 rfl (.cons 0 rfl .nil))) (q8 0 rfl (q8 1 rfl qE)) 8 rfl (qf 0 (.slice a17 x16.1.length c18) rfl rfl rfl (qj rfl) (qf 1 (.pointer (some ⟨g15, 0, none⟩)) rfl rfl rfl (qj rfl) (qf 2 (.pointer (some ⟨g15, 0, none⟩)) rfl rfl rfl (qj rfl) (qf 3 (.pointer (some ⟨g15, 2, none⟩)) rfl rfl rfl (qt rfl qcr) (qP 4 (.int .i64 x16.2.2.2) rfl rfl rfl (qQ (i := 0) rfl tf3 rfl rfl (fun _ => rfl) rfl) (qf 5 (.slice a17 x16.1.length c18) rfl rfl rfl (qj rfl) (qf 6 (.int .i64 x16.2.2.2) rfl rfl rfl (qj rfl) (qf 7 (.int .i64 0) rfl rfl rfl (qj rfl) (qO (by kernel_rfl) ?_))))))))))))
 exact zm (qc (qs (qq (a17, c18) (res3 rfl rfl rfl rfl) (fun h => by subst h; exact (.cons 0 rfl .nil))))) (by intro c h; cases h)
set_option maxHeartbeats 4000000 in
theorem qgo (F : Nat) (x1 : Int) (x2 : Int) (x3 : Int) (x4 : Int) (x5 : Int) (x6 : List Int) (a7 : Option Addr) (c8 : Nat) (r : (List (List Int) × Bool)) (hm : qcp F x1 x2 x3 x4 x5 x6 = some r) :
    Pure Tryz.prog 30 [.agg #[.int .i64 x1, .int .i64 x2, .int .i64 x3, .int .i64 x4, .int .i64 x5, .slice a7 x6.length c8]] [Sl (eI .u8) 1 (.slice a7 x6.length c8) x6] (Option Addr × (Nat × List (Option Addr × Nat))) (fun g => .tuple #[.slice g.1 r.1.length g.2.1, .bool r.2]) (fun g => [RoN eN37 rN37 37 1 (.slice g.1 r.1.length g.2.1) r.1 g.2.2 []]) (fun _ => []) := by
 refine qS Tryz.func30 rfl Tryz.ntmps30 rfl hm (fun w => qH (l' := [(0, .agg #[.int .i64 x1, .int .i64 x2, .int .i64 x3, .int .i64 x4, .int .i64 x5, .slice a7 x6.length c8])]) rfl (qg (qa (qV rfl rfl rfl (fun g9 => qb rfl rfl rfl (qb rfl rfl rfl (qd (qc (qg (qa (qb rfl rfl rfl (qd ?_))))))))))))
 refine qc (qK (fun (((x261, x262), (a259, c260)) : ((List (List Int) × Int) × (Option Addr × (Nat × List (Option Addr × Nat))))) => [(1, .pointer (some ⟨g9, 0, none⟩)), (2, .slice a259 x261.length c260.1), (4, .int .i64 x262)]) (fun (((x261, x262), (a259, c260)) : ((List (List Int) × Int) × (Option Addr × (Nat × List (Option Addr × Nat))))) => [⟨g9, 31, [.int .i64 x1, .int .i64 x2, .int .i64 x3, .int .i64 x4, .int .i64 x5, .slice a7 x6.length c8]⟩]) (fun (((x261, x262), (a259, c260)) : ((List (List Int) × Int) × (Option Addr × (Nat × List (Option Addr × Nat))))) => [RoN eN37 rN37 37 1 (.slice a259 x261.length c260.1) x261 c260.2 []]) (fun (((x261, x262), (a259, c260)) : ((List (List Int) × Int) × (Option Addr × (Nat × List (Option Addr × Nat))))) => [Sl (eI .u8) 1 (.slice a7 x6.length c8) x6]) (fun (((x261, x262), _) : ((List (List Int) × Int) × (Option Addr × (Nat × List (Option Addr × Nat))))) => qa8 F x5 x261 x262) ?_ ?_)
 refine qg (qa (qi rfl rfl qcS rfl (ql (i := 0) rfl rfl tf3 rfl rfl (fun _ => rfl) rfl rfl (qe rfl rfl rfl (qd (qc (qB (qly (List Int) (Option Addr × Nat) eN37 rN37 37 1 (q7 (fun (((x348, x349, x350), (a346, c347)) : ((List (List Int) × Int × Int) × (Option Addr × (Nat × List (Option Addr × Nat))))) => [(1, .pointer (some ⟨g9, 0, none⟩)), (2, .slice a346 x348.length c347.1), (4, .int .i64 x349), (14, .int .i64 x1), (15, .int .i64 x350)]) (fun (((x348, x349, x350), (a346, c347)) : ((List (List Int) × Int × Int) × (Option Addr × (Nat × List (Option Addr × Nat))))) => [⟨g9, 31, [.int .i64 x1, .int .i64 x2, .int .i64 x3, .int .i64 x4, .int .i64 x5, .slice a7 x6.length c8]⟩]) (fun (((x348, x349, x350), (a346, c347)) : ((List (List Int) × Int × Int) × (Option Addr × (Nat × List (Option Addr × Nat))))) => [RoN eN37 rN37 37 1 (.slice a346 x348.length c347.1) x348 c347.2 []]) (fun (((x348, x349, x350), (a346, c347)) : ((List (List Int) × Int × Int) × (Option Addr × (Nat × List (Option Addr × Nat))))) => [Sl (eI .u8) 1 (.slice a7 x6.length c8) x6]) (fun k (s : ((List (List Int) × Int × Int) × (Option Addr × (Nat × List (Option Addr × Nat))))) => kT F x1 x2 x3 x4 x5 x6 k s.1) ((([] : List (List Int)), 0, 0), (none, (0, ([] : List (Option Addr × Nat))))) F ?_ (hB := (.cons 0 rfl .nil)) (hR := (.cons 0 rfl .nil)) (hF := (qo 0 rfl qA)))))))))))
 intro k431
 rintro ⟨⟨x348, x349, x350⟩, ⟨a346, c347⟩⟩
 try dsimp only
 refine zB (m' := jZ F x1 x2 x3 x4 x5 x6 (kT F x1 x2 x3 x4 x5 x6 k431) x348 x349 x350) rfl (qg (qa (qZ rfl rfl rfl rfl (qd (qc (qg (qz rfl (fun h511 => ?_) (fun h511 => ?_))))))))
 refine qr (qc (qK (fun (((x472, x473), (a470, c471)) : ((List (List Int) × Int) × (Option Addr × (Nat × List (Option Addr × Nat))))) => [(1, .pointer (some ⟨g9, 0, none⟩)), (2, .slice a470 x472.length c471.1), (4, .int .i64 x473), (14, .int .i64 x1), (15, .int .i64 x350)]) (fun (((x472, x473), (a470, c471)) : ((List (List Int) × Int) × (Option Addr × (Nat × List (Option Addr × Nat))))) => [⟨g9, 31, [.int .i64 x1, .int .i64 x2, .int .i64 x3, .int .i64 x4, .int .i64 x5, .slice a7 x6.length c8]⟩]) (fun (((x472, x473), (a470, c471)) : ((List (List Int) × Int) × (Option Addr × (Nat × List (Option Addr × Nat))))) => [RoN eN37 rN37 37 1 (.slice a470 x472.length c471.1) x472 c471.2 []]) (fun (((x472, x473), (a470, c471)) : ((List (List Int) × Int) × (Option Addr × (Nat × List (Option Addr × Nat))))) => [Sl (eI .u8) 1 (.slice a7 x6.length c8) x6]) (fun (((x472, x473), _) : ((List (List Int) × Int) × (Option Addr × (Nat × List (Option Addr × Nat))))) => vQ F (kT F x1 x2 x3 x4 x5 x6 k431) x350 x472 x473) ?_ ?_))
 refine qB (qg (qa (qe rfl rfl rfl (qb rfl rfl rfl (qd (qc (qg (qa (ql (i := 0) rfl rfl tf31 rfl rfl (by simp) rfl rfl (qe rfl rfl rfl (qe rfl rfl rfl (qx ent56 rfl rfl rfl (fun x474 e474 => qia F x1 x2 x3 x4 x5 x6 a7 c8 x349 x350 x474 e474) (.consF 0 rfl .nil) (fun x474 e474 => ?_)))))))))))))
 intro _
 refine qe rfl rfl rfl (qv rfl rfl rfl rfl (qv rfl rfl rfl rfl (qv rfl rfl rfl rfl (qb rfl rfl rfl (qb rfl rfl rfl (qb rfl rfl rfl (qd (qc (qg (qg (qa (qe rfl rfl rfl ?_))))))))))))
 refine kw rfl rfl rfl (qd (qc (qz rfl (fun h510 => ?_) (fun h510 => ?_))))
 refine qg (qa (qb rfl rfl rfl (qb rfl rfl rfl (qd (qc (qs (qp (qM (qp (qp (qM (qp ?_))))))))))))
 exact qck (List Int) (Option Addr × Nat) eN37 rN37 37 1 (qq (none, (0, ([] : List (Option Addr × Nat)))) (res2 rfl rfl rfl) (fun h => by subst h; exact (.cons 0 rfl .nil)))
 refine qr (qc (qg (qa (qb rfl rfl rfl (qd (qc (qg (qg (qa (qe rfl rfl rfl (zG rfl rfl rfl rfl (qd ?_))))))))))))
 refine qc (qz rfl (fun h509 => ?_) (fun h509 => ?_))
 refine qa (qe rfl rfl rfl (qe rfl rfl rfl (qe rfl rfl rfl (zJ rfl rfl rfl rfl (qlC (j := 0) rfl Tryz.underlying22 tf37 rfl rfl rfl rfl (fun x482 e482 g483 h484 g485 h486 => qki (i := 0) rfl h484 (List.not_mem_nil) (qiD (j := 1) (p := (x482, g483)) yP rfl rfl tf37 rfl h486 h484 rfl (fun _ => rfl) rfl rfl (qb rfl rfl rfl (qd (qc (qg (qa ?_))))))))))))
 refine qi rfl rfl qbF rfl (ql (i := 0) rfl rfl tf26 rfl rfl (by simp) rfl rfl (qR rfl tf26 rfl (fun g487 => qu (i := 0) rfl rfl rfl tf26 rfl rfl rfl rfl rfl (qd (qc (qg (qa (qe rfl rfl rfl (qi rfl rfl qaC rfl (qu (i := 0) rfl rfl rfl tf3 rfl rfl rfl rfl rfl (qd (qc ?_))))))))))))
 refine qg (qa (qi rfl rfl qas rfl (ql (i := 1) rfl rfl tf29 rfl rfl (by simp) rfl rfl (qe rfl rfl rfl (qe rfl rfl rfl (qe rfl rfl rfl (ql (i := 0) rfl rfl tf26 rfl rfl (by simp) rfl rfl (qx ent57 rfl rfl rfl (fun x488 e488 => qez F x5 x6 a7 c8 x474.2.1 x350 x482 g483.1 g483.2 x474.1 x3 x4 x488 e488) (.consF 0 rfl (.consR 0 (Ro (eI .i64) 3 1 (.slice g483.1 x482.length g483.2) x482) rfl .nil)) (fun x488 e488 => ?_)))))))))
 rintro ⟨a489, c490⟩
 refine qe rfl rfl rfl (qv rfl rfl rfl rfl (qv rfl rfl rfl rfl (qv rfl rfl rfl rfl (qb rfl rfl rfl (qb rfl rfl rfl (qb rfl rfl rfl (qd (qc (qg (qg (qiA (rin := rN37) (p := (x482, g483)) (i := 1) (k := 0) (.cons 1 rfl .nil) rfl rfl h484 (qa ?_))))))))))))
 refine qe rfl rfl rfl (kQ rfl rfl rfl rfl (qd (qc (qz rfl (fun h497 => ?_) (fun h497 => ?_)))))
 refine qg (qa (qb rfl rfl rfl (qb rfl rfl rfl (qd (qc (qs (qp (qM (qp (qp (qM (qp ?_))))))))))))
 exact qck (List Int) (Option Addr × Nat) eN37 rN37 37 1 (qq (none, (0, ([] : List (Option Addr × Nat)))) (res2 rfl rfl rfl) (fun h => by subst h; exact (.cons 0 rfl .nil)))
 refine qr (qc (qa (qe rfl rfl rfl (qe rfl rfl rfl (zW (vs := [.slice a489 x488.1.length c490]) (ys := ([(x488.1, (a489, c490))] : List (List Int × (Option Addr × Nat)))) yP (by decide) rfl Tryz.underlying22 tf37 rfl rfl rfl rfl rfl (by decide) (fun a492 c493 => qdB (rin := rN37) (i := 0) ([x488.1] : List (List Int)) ([(a489, c490)] : List (Option Addr × Nat)) rfl rfl (.cons 1 rfl .nil) (qh4 yP rfl Tryz.underlying22 tf37 rfl rfl rfl rfl (.cons 1 rfl (.cons 0 rfl .nil)) rfl rfl (fun x494 e494 a495 c496 => qe rfl rfl rfl (qb rfl rfl rfl (qb rfl rfl rfl (qd (qU ?_))))))))))))
 exact qm ((x494, x488.2.1), (a495, (c496, (c347.2 ++ ([(a489, c490)] : List (Option Addr × Nat)))))) (hB := (.cons 1 rfl .nil)) (hR := (.cons 0 rfl .nil)) (hF := (qo 0 rfl qA))
 refine qr (qc (qg (qa (qi rfl rfl qbF rfl (ql (i := 0) rfl rfl tf26 rfl rfl (by simp) rfl rfl (qR rfl tf26 rfl (fun g498 => qu (i := 0) rfl rfl rfl tf26 rfl rfl rfl rfl rfl (qd (qc (qg (qa (qe rfl rfl rfl ?_))))))))))))
 refine qi rfl rfl qaC rfl (qu (i := 0) rfl rfl rfl tf3 rfl rfl rfl rfl rfl (qd (qc (qg (qa (qi rfl rfl qas rfl (ql (i := 1) rfl rfl tf29 rfl rfl (by simp) rfl rfl (qe rfl rfl rfl (qe rfl rfl rfl (qe rfl rfl rfl (ql (i := 0) rfl rfl tf26 rfl rfl (by simp) rfl rfl (kv Int (eI .i64) 3 1 ?_))))))))))))
 refine qx ent57 rfl rfl rfl (fun x499 e499 => qez F x5 x6 a7 c8 x474.2.1 x350 ([] : List Int) none 0 x474.1 x3 x4 x499 e499) (.consF 0 rfl (.consR 0 (Ro (eI .i64) 3 1 (.slice none ([] : List Int).length 0) ([] : List Int)) rfl .nil)) (fun x499 e499 => ?_)
 rintro ⟨a500, c501⟩
 refine qe rfl rfl rfl (qv rfl rfl rfl rfl (qv rfl rfl rfl rfl (qv rfl rfl rfl rfl (qb rfl rfl rfl (qb rfl rfl rfl (qb rfl rfl rfl (qd (qc (qg (qg (qa (qe rfl rfl rfl ?_))))))))))))
 refine kQ rfl rfl rfl rfl (qd (qc (qz rfl (fun h508 => ?_) (fun h508 => ?_))))
 refine qg (qa (qb rfl rfl rfl (qb rfl rfl rfl (qd (qc (qs (qp (qM (qp (qp (qM (qp ?_))))))))))))
 exact qck (List Int) (Option Addr × Nat) eN37 rN37 37 1 (qq (none, (0, ([] : List (Option Addr × Nat)))) (res2 rfl rfl rfl) (fun h => by subst h; exact (.cons 0 rfl .nil)))
 refine qr (qc (qa (qe rfl rfl rfl (qe rfl rfl rfl (zW (vs := [.slice a500 x499.1.length c501]) (ys := ([(x499.1, (a500, c501))] : List (List Int × (Option Addr × Nat)))) yP (by decide) rfl Tryz.underlying22 tf37 rfl rfl rfl rfl rfl (by decide) (fun a503 c504 => qdB (rin := rN37) (i := 0) ([x499.1] : List (List Int)) ([(a500, c501)] : List (Option Addr × Nat)) rfl rfl (.cons 0 rfl .nil) (qh4 yP rfl Tryz.underlying22 tf37 rfl rfl rfl rfl (.cons 2 rfl (.cons 0 rfl .nil)) rfl rfl (fun x505 e505 a506 c507 => qe rfl rfl rfl (qb rfl rfl rfl (qb rfl rfl rfl (qd (qU ?_))))))))))))
 exact qm ((x505, x499.2.1), (a506, (c507, (c347.2 ++ ([(a500, c501)] : List (Option Addr × Nat)))))) (hB := (.cons 1 rfl .nil)) (hR := (.cons 0 rfl .nil)) (hF := (qo 0 rfl qA))
 rintro ⟨⟨x472, x473⟩, ⟨a470, c471⟩⟩
 try dsimp only
 exact qa (qL rfl rfl rfl rfl (qe rfl rfl rfl (qd (qW ((x472, x473, iadd .i64 x350 1), (a470, c471)) (hB := (.cons 0 rfl .nil)) (hR := (.cons 0 rfl .nil)) (hF := (qo 0 rfl qA))))))
 exact zj (qD (qD (zk (qm ((x348, x349), (a346, c347)) (hB := (.cons 0 rfl .nil)) (hR := (.cons 0 rfl .nil)) (hF := (qo 0 rfl qA))))))
 rintro ⟨⟨x261, x262⟩, ⟨a259, c260⟩⟩
 try dsimp only
 refine qg (zg mixed [] [⟨g9, 31, [.int .i64 x1, .int .i64 x2, .int .i64 x3, .int .i64 x4, .int .i64 x5, .slice a7 x6.length c8]⟩] [Sl (eI .u8) 1 (.slice a7 x6.length c8) x6] (.cons 0 rfl .nil) (q8 0 rfl qE) 8 rfl (qf 0 (.slice a259 x261.length c260.1) rfl rfl rfl (qj rfl) (qf 1 (.int .i64 x262) rfl rfl rfl (qj rfl) (qf 2 (.pointer (some ⟨g9, 4, none⟩)) rfl rfl rfl (qt rfl qas) (qf 3 (.pointer (some ⟨g9, 4, none⟩)) rfl rfl rfl (qt rfl ky) (qP 4 (.int .i64 x5) rfl rfl rfl (qQ (i := 0) rfl tf3 rfl rfl (fun _ => rfl) rfl) (qf 5 (.bool ((x262 : Int) == x5)) rfl rfl rfl (qj rfl) (qf 6 (.slice a259 x261.length c260.1) rfl rfl rfl (qj rfl) (qf 7 (.bool ((x262 : Int) == x5)) rfl rfl rfl (qj rfl) (qO (by kernel_rfl) (zm (qc ?_) (by intro c h; cases h))))))))))))
 exact qs (qq (a259, c260) (res2 rfl rfl rfl) (fun h => by subst h; exact (.cons 0 rfl .nil)))
theorem qb2 (F : Nat) (x1 : List Int) (a2 : Option Addr) (c3 : Nat) (x4 : List Int) (a5 : Option Addr) (c6 : Nat) (r : Bool) (hm : yb F x1 x4 = some r) :
    Pure Tryz.prog 31 [.slice a2 x1.length c3, .slice a5 x4.length c6] [Sl (eI .u8) 1 (.slice a2 x1.length c3) x1, Sl (eI .u8) 1 (.slice a5 x4.length c6) x4] Unit (fun _ => .bool r) (fun _ => []) (fun _ => []) := by
  refine qS Tryz.func31 rfl Tryz.ntmps31 rfl hm (fun w => ?_)
  refine qH (l' := [(0, .slice a2 x1.length c3), (1, .slice a5 x4.length c6)]) rfl ?_
  refine qg ?_
  refine qa ?_
  refine qb rfl rfl rfl ?_
  refine qd ?_
  refine qc ?_
  refine qg ?_
  refine qg ?_
  refine qa ?_
  refine qe rfl rfl rfl ?_
  refine qX rfl Tryz.underlying27 rfl rfl ?_
  refine qe rfl rfl rfl ?_
  refine qX rfl Tryz.underlying27 rfl rfl ?_
  refine kQ rfl rfl rfl rfl ?_
  refine qd ?_
  refine qc ?_
  refine qz rfl (fun h228 => ?_) (fun h228 => ?_)
  · refine qg ?_
    refine qa ?_
    refine qb rfl rfl rfl ?_
    refine qd ?_
    refine qc ?_
    refine qs ?_
    refine qp ?_
    exact qq () (res1 rfl rfl)
  · refine qr ?_
    refine qc ?_
    refine qK (fun ((_, _) : (Unit × Unit)) => []) (fun ((_, _) : (Unit × Unit)) => []) (fun ((_, _) : (Unit × Unit)) => []) (fun ((_, _) : (Unit × Unit)) => []) (fun ((_, _) : (Unit × Unit)) => jv F) ?_ ?_
    · refine qg ?_
      refine qa ?_
      refine qe rfl rfl rfl ?_
      refine qX rfl Tryz.underlying27 rfl rfl ?_
      refine qe rfl rfl rfl ?_
      refine qd ?_
      refine qc ?_
      refine qB ?_
      refine q7 (fun ((x154, _) : (Int × Unit)) => [(0, .slice a2 x1.length c3), (1, .slice a5 x4.length c6), (12, .int .i64 (x1.length : Int)), (13, .int .i64 x154)]) (fun ((x154, _) : (Int × Unit)) => []) (fun ((x154, _) : (Int × Unit)) => []) (fun ((x154, _) : (Int × Unit)) => [Sl (eI .u8) 1 (.slice a2 x1.length c3) x1, Sl (eI .u8) 1 (.slice a5 x4.length c6) x4]) (fun k (s : (Int × Unit)) => zI F x1 x4 k s.1) (0, ()) F ?_ (hF := (qo 0 rfl (qo 1 rfl qA)))
      intro k191
      rintro ⟨x154, _⟩
      try dsimp only
      refine zB (m' := kE F x1 x4 (zI F x1 x4 k191) x154) rfl ?_
      refine qg ?_
      refine qa ?_
      refine qZ rfl rfl rfl rfl ?_
      refine qd ?_
      refine qc ?_
      refine qg ?_
      refine qz rfl (fun h227 => ?_) (fun h227 => ?_)
      · refine qr ?_
        refine qc ?_
        refine qg ?_
        refine qB ?_
        refine qg ?_
        refine qa ?_
        refine qe rfl rfl rfl ?_
        refine qb rfl rfl rfl ?_
        refine qd ?_
        refine qc ?_
        refine qg ?_
        refine jS (j := 0) (zb .u8) (by decide) rfl (fun x218 e218 b219 o220 h221 => ?_)
        replace h221 : a2 = some ⟨b219, o220, none⟩ := h221
        refine jS (j := 2) (zb .u8) (by decide) rfl (fun x222 e222 b223 o224 h225 => ?_)
        replace h225 : a5 = some ⟨b223, o224, none⟩ := h225
        refine zg mixed [] [] [zC b223 (o224 + x154.toNat * 1) ((eI .u8) x222), zC b219 (o220 + x154.toNat * 1) ((eI .u8) x218), Sl (eI .u8) 1 (.slice a2 x1.length c3) x1, Sl (eI .u8) 1 (.slice a5 x4.length c6) x4] .nil (q8 0 rfl (q8 1 rfl (q8 2 rfl (q8 3 rfl qE)))) 9 rfl ?_
        refine qf 0 (.slice a2 x1.length c3) rfl rfl rfl (qj rfl) ?_
        refine qf 1 (.int .i64 x154) rfl rfl rfl (qj rfl) ?_
        refine qJ (d := 16) (v := .slice (some ⟨b219, o220, none⟩) x1.length c3) rfl (by rw [h221] <;> rfl) ?_
        refine qf 2 (.pointer (some ⟨b219, (o220 + x154.toNat * 1), none⟩)) rfl rfl rfl (qbb Tryz.underlying27 tf5 rfl rfl (kj e218).1 (qaE e218)) ?_
        refine qJ (d := 16) (v := .slice a2 x1.length c3) rfl (by rw [h221] <;> rfl) ?_
        refine ko 3 (.int .u8 x218) [] rfl rfl rfl (vW (j := 1) rfl tf5 rfl rfl (fun _ => rfl) rfl) ?_
        refine qf 4 (.slice a5 x4.length c6) rfl rfl rfl (qj rfl) ?_
        refine qf 5 (.int .i64 x154) rfl rfl rfl (qj rfl) ?_
        refine qJ (d := 20) (v := .slice (some ⟨b223, o224, none⟩) x4.length c6) rfl (by rw [h225] <;> rfl) ?_
        refine qf 6 (.pointer (some ⟨b223, (o224 + x154.toNat * 1), none⟩)) rfl rfl rfl (qbb Tryz.underlying27 tf5 rfl rfl (kj e222).1 (qaE e222)) ?_
        refine qJ (d := 20) (v := .slice a5 x4.length c6) rfl (by rw [h225] <;> rfl) ?_
        refine ko 7 (.int .u8 x222) [] rfl rfl rfl (vW (j := 0) rfl tf5 rfl rfl (fun _ => rfl) rfl) ?_
        refine qf 8 (.bool ((x218 : Int) != x222)) rfl rfl rfl (qj rfl) ?_
        refine qO (by kernel_rfl) ?_
        refine zm ?_ (by intro c h; cases h)
        refine qc ?_
        refine qz rfl (fun h226 => ?_) (fun h226 => ?_)
        · refine qg ?_
          refine qa ?_
          refine qb rfl rfl rfl ?_
          refine qd ?_
          refine qc ?_
          refine qs ?_
          refine qM ?_
          refine qp ?_
          refine qp ?_
          refine qM ?_
          refine qp ?_
          exact qq () (res1 rfl rfl)
        · refine qr ?_
          refine qU ?_
          refine qc ?_
          refine qa ?_
          refine qL rfl rfl rfl rfl ?_
          refine qe rfl rfl rfl ?_
          refine qd ?_
          exact qW (iadd .i64 x154 1, ()) (hF := (qo 2 rfl (qo 3 rfl qA)))
      · refine zj ?_
        refine qD ?_
        refine qD ?_
        refine zk ?_
        exact qm ((), ())
    · rintro ⟨_, _⟩
      try dsimp only
      refine qg ?_
      refine qa ?_
      refine qb rfl rfl rfl ?_
      refine qd ?_
      refine qc ?_
      refine qs ?_
      exact qq () (res1 rfl rfl)
theorem qex (F : Nat) (x1 : Int) (x2 : Int) (x3 : Int) (x4 : Int) (x5 : Int) (x6 : List Int) (a7 : Option Addr) (c8 : Nat) (r : (List (List Int) × Int)) (hm : qa0 F x1 x2 x3 x4 x5 x6 = some r) :
    Pure Tryz.prog 10 [.agg #[.int .i64 x1, .int .i64 x2, .int .i64 x3, .int .i64 x4, .int .i64 x5, .slice a7 x6.length c8]] [Sl (eI .u8) 1 (.slice a7 x6.length c8) x6] (Option Addr × (Nat × List (Option Addr × Nat))) (fun g => .tuple #[.agg #[.slice g.1 r.1.length g.2.1], .int .i64 r.2]) (fun g => [RoN eN37 rN37 37 1 (.slice g.1 r.1.length g.2.1) r.1 g.2.2 []]) (fun _ => []) := by
  refine qS Tryz.func10 rfl Tryz.ntmps10 rfl hm (fun w => ?_)
  refine qH (l' := [(0, .agg #[.int .i64 x1, .int .i64 x2, .int .i64 x3, .int .i64 x4, .int .i64 x5, .slice a7 x6.length c8])]) rfl ?_
  refine qg ?_
  refine qa ?_
  refine qV rfl rfl rfl (fun g9 => ?_)
  refine qR rfl tf24 rfl (fun g10 => ?_)
  refine qb rfl rfl rfl ?_
  refine qd ?_
  refine qc ?_
  refine qg ?_
  refine qg ?_
  refine qa ?_
  refine ql (i := 1) rfl rfl tf31 rfl rfl (by simp) rfl rfl ?_
  refine qx ent29 rfl rfl rfl (fun x13 e13 => qgn F x1 x2 x3 x4 x5 x6 a7 c8 x13 e13) (.consF 0 rfl .nil) (fun x13 e13 => ?_)
  intro _
  refine qb rfl rfl rfl ?_
  refine qd ?_
  refine qc ?_
  refine qg ?_
  refine qa ?_
  refine qe rfl rfl rfl ?_
  refine kQ rfl rfl rfl rfl ?_
  refine qd ?_
  refine qc ?_
  refine qz rfl (fun h38 => ?_) (fun h38 => ?_)
  · refine qg ?_
    refine qa ?_
    refine zv (cells := [.slice none 0 0]) rfl st24 rfl (by kernel_rfl) rfl ?_
    refine qe rfl rfl rfl ?_
    refine qu (i := 0) rfl rfl rfl tf24 rfl rfl rfl rfl rfl ?_
    refine qb rfl rfl rfl ?_
    refine qd ?_
    refine qc ?_
    refine qs ?_
    refine qp ?_
    refine qck (List Int) (Option Addr × Nat) eN37 rN37 37 1 ?_
    exact qq (none, (0, ([] : List (Option Addr × Nat)))) (resL (rs := [.cell 2 24, .tmp 3]) rfl (.cell (i := 0) rfl tf24 rfl rfl (by simp) rfl (.tmp rfl ResOk.nil)) rfl) (fun h => by subst h; exact (.cons 0 rfl .nil))
  · refine qr ?_
    refine qc ?_
    refine qg ?_
    refine qa ?_
    refine ql (i := 1) rfl rfl tf31 rfl rfl (by simp) rfl rfl ?_
    refine qx ent30 rfl rfl rfl (fun x14 e14 => qgo F x1 x2 x3 x4 x5 x6 a7 c8 x14 e14) (.consF 0 rfl .nil) (fun x14 e14 => ?_)
    rintro ⟨a15, c16⟩
    refine qe rfl rfl rfl ?_
    refine qv rfl rfl rfl rfl ?_
    refine qv rfl rfl rfl rfl ?_
    refine qb rfl rfl rfl ?_
    refine qb rfl rfl rfl ?_
    refine qd ?_
    refine qc ?_
    refine qg ?_
    refine qg ?_
    refine qa ?_
    refine qe rfl rfl rfl ?_
    refine kw rfl rfl rfl ?_
    refine qd ?_
    refine qc ?_
    refine qz rfl (fun h37 => ?_) (fun h37 => ?_)
    · refine qg ?_
      refine qa ?_
      refine zv (cells := [.slice none 0 0]) rfl st24 rfl (by kernel_rfl) rfl ?_
      refine qu (i := 0) rfl rfl rfl tf24 rfl rfl rfl rfl rfl ?_
      refine qb rfl rfl rfl ?_
      refine qd ?_
      refine qc ?_
      refine qs ?_
      refine qp ?_
      refine qck (List Int) (Option Addr × Nat) eN37 rN37 37 1 ?_
      exact qq (none, (0, ([] : List (Option Addr × Nat)))) (resL (rs := [.cell 2 24, .tmp 3]) rfl (.cell (i := 0) rfl tf24 rfl rfl (by simp) rfl (.tmp rfl ResOk.nil)) rfl) (fun h => by subst h; exact (.cons 0 rfl .nil))
    · refine qr ?_
      refine qc ?_
      refine qg ?_
      refine qa ?_
      refine qe rfl rfl rfl ?_
      refine zv (cells := [.slice a15 x14.1.length c16.1]) rfl st24 rfl (by kernel_rfl) rfl ?_
      refine qR rfl tf24 rfl (fun g18 => ?_)
      refine qu (i := 0) rfl rfl rfl tf24 rfl rfl rfl rfl rfl ?_
      refine qd ?_
      refine qc ?_
      refine qg ?_
      refine qg ?_
      refine qa ?_
      refine ql (i := 0) rfl rfl tf24 rfl rfl (by simp) rfl rfl ?_
      refine qi rfl rfl qbF rfl ?_
      refine ql (i := 2) rfl rfl tf26 rfl rfl (by simp) rfl rfl ?_
      refine qx ent9 rfl rfl rfl (fun x28 e28 => vB F x14.1 a15 c16 x2 x3 x4 x28 e28) (.consG 0 rfl (qaW qaX) .nil) (fun x28 e28 => ?_)
      rintro ⟨a29, c30⟩
      refine qe rfl rfl rfl ?_
      refine qv rfl rfl rfl rfl ?_
      refine qv rfl rfl rfl rfl ?_
      refine qR rfl tf31 rfl (fun g31 => ?_)
      refine qu (i := 0) rfl rfl rfl tf31 rfl rfl rfl rfl rfl ?_
      refine qb rfl rfl rfl ?_
      refine qd ?_
      refine qc ?_
      refine qg ?_
      refine qa ?_
      refine qe rfl rfl rfl ?_
      refine kQ rfl rfl rfl rfl ?_
      refine qe rfl rfl rfl ?_
      refine vt 9 (fun ((x34, _) : (Bool × Unit)) => [(2, .pointer (some ⟨g10, 0, none⟩)), (7, .pointer (some ⟨g18, 0, none⟩)), (44, .bool x34)]) (fun ((x34, _) : (Bool × Unit)) => [⟨g18, 24, [.slice a15 x14.1.length c16.1]⟩, ⟨g10, 24, [.slice none 0 0]⟩]) (fun ((x34, _) : (Bool × Unit)) => [RoN eN37 rN37 37 1 (.slice a15 x14.1.length c16.1) x14.1 c16.2 []]) (fun ((x34, _) : (Bool × Unit)) => []) (fun ((x34, _) : (Bool × Unit)) => qan F x14 x34) ?_ ?_
      · refine qy (os := _) rfl ?_
        refine qba (fun h32 => ?_) (fun h32 => ?_)
        · refine zA (k := 35) rfl h32 ?_
          refine qn rfl rfl rfl ?_
          refine qn rfl rfl rfl ?_
          refine qn rfl rfl rfl ?_
          refine qn rfl rfl rfl ?_
          refine qn rfl rfl rfl ?_
          refine qn rfl rfl rfl ?_
          refine qn rfl rfl rfl ?_
          refine qn rfl rfl rfl ?_
          refine qG (b := true) rfl rfl rfl rfl ?_
          refine qd ?_
          exact qm (true, ()) (hB := (.cons 1 rfl (.cons 1 rfl .nil))) (hR := (.cons 1 rfl .nil))
        · refine zz (k := 35) rfl h32 ?_
          refine qi rfl rfl qas rfl ?_
          refine qi rfl rfl qa9 rfl ?_
          refine ql (i := 0) rfl rfl tf27 rfl rfl (fun _ => rfl) rfl rfl ?_
          refine qi rfl rfl qas rfl ?_
          refine qi rfl rfl qa9 rfl ?_
          refine ql (i := 3) rfl rfl tf27 rfl rfl (fun _ => rfl) rfl rfl ?_
          refine qx ent31 rfl rfl rfl (fun x36 e36 => qb2 F x28.2.2.2.2.2.1 a29 c30 x6 a7 c8 x36 e36) (.consR 0 (Ro (eI .u8) 5 1 (.slice a29 x28.2.2.2.2.2.1.length c30) x28.2.2.2.2.2.1) rfl (.consF 0 rfl .nil)) (fun x36 e36 => ?_)
          intro _
          refine kw rfl rfl rfl ?_
          refine qG (b := false) rfl rfl rfl rfl ?_
          refine qd ?_
          exact qm ((!x36), ()) (hB := (.cons 1 rfl (.cons 1 rfl .nil))) (hR := (.cons 1 rfl .nil))
      · rintro ⟨x34, _⟩
        try dsimp only
        refine qy (os := _) rfl ?_
        refine qd ?_
        refine qc ?_
        refine qz rfl (fun h35 => ?_) (fun h35 => ?_)
        · refine qg ?_
          refine qa ?_
          refine zv (cells := [.slice none 0 0]) rfl st24 rfl (by kernel_rfl) rfl ?_
          refine qu (i := 1) rfl rfl rfl tf24 rfl rfl rfl rfl rfl ?_
          refine qb rfl rfl rfl ?_
          refine qd ?_
          refine qc ?_
          refine qs ?_
          refine qp ?_
          refine qck (List Int) (Option Addr × Nat) eN37 rN37 37 1 ?_
          exact qq (none, (0, ([] : List (Option Addr × Nat)))) (resL (rs := [.cell 2 24, .tmp 3]) rfl (.cell (i := 1) rfl tf24 rfl rfl (by simp) rfl (.tmp rfl ResOk.nil)) rfl) (fun h => by subst h; exact (.cons 0 rfl .nil))
        · refine qr ?_
          refine qc ?_
          refine qg ?_
          refine qa ?_
          refine ql (i := 0) rfl rfl tf24 rfl rfl (by simp) rfl rfl ?_
          refine qu (i := 1) rfl rfl rfl tf24 rfl rfl rfl rfl rfl ?_
          refine qb rfl rfl rfl ?_
          refine qd ?_
          refine qc ?_
          refine qs ?_
          exact qq (a15, c16) (resL (rs := [.cell 2 24, .tmp 3]) rfl (.cell (i := 1) rfl tf24 rfl rfl (by simp) rfl (.tmp rfl ResOk.nil)) rfl) (fun h => by subst h; exact (.cons 0 rfl .nil))
end Go.Proofs.YtpnfijegoepiaaaGreat
