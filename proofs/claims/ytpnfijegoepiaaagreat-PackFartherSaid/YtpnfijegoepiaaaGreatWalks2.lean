/- Each Go function of this seat computes what its model says, part 2. -/
import Derived.Test.YtpnfijegoepiaaaGreatWalks
namespace Go.Proofs.YtpnfijegoepiaaaGreat
open Go SX
set_option maxHeartbeats 4000000 in
theorem qd5 (F : Nat) (g1 : Nat) (x2 : Int) (x3 : Int) (x4 : Int) (x5 : Int) (x6 : Int) (x7 : List Int) (a8 : Option Addr) (c9 : Nat) (x10 : List Int) (a11 : Option Addr) (c12 : Nat) (x13 : List Int) (a14 : Option Addr) (c15 : Nat) (x16 : List (List Int)) (a17 : Option Addr) (c18 : (Nat × List (Option Addr × Nat))) (r : (Bool × Int × Int × Int × Int × Int × List Int × List Int × List Int)) (hm : qav F x2 x3 x4 x5 x6 x7 x10 x13 x16 = some r) :
    PureM Tryz.prog 55 [.pointer (some ⟨g1, 0, none⟩), .agg #[.slice a17 x16.length c18.1]] [⟨g1, 66, [.int .i64 x2, .int .i64 x3, .int .i64 x4, .int .i64 x5, .int .i64 x6, .slice a8 x7.length c9, .slice a11 x10.length c12, .slice a14 x13.length c15]⟩] [Ro (eI .u8) 5 1 (.slice a8 x7.length c9) x7, Ro (eI .i64) 3 1 (.slice a11 x10.length c12) x10, Ro (eI .i64) 3 1 (.slice a14 x13.length c15) x13] [SlN eN37 iN37 1 (.slice a17 x16.length c18.1) x16 c18.2] ((Option Addr × Nat) × (Option Addr × Nat) × (Option Addr × Nat)) (fun _ => .bool r.1) (fun g => [⟨g1, 66, [.int .i64 r.2.1, .int .i64 r.2.2.1, .int .i64 r.2.2.2.1, .int .i64 r.2.2.2.2.1, .int .i64 r.2.2.2.2.2.1, .slice g.1.1 r.2.2.2.2.2.2.1.length g.1.2, .slice g.2.1.1 r.2.2.2.2.2.2.2.1.length g.2.1.2, .slice g.2.2.1 r.2.2.2.2.2.2.2.2.length g.2.2.2]⟩]) (fun g => [Ro (eI .u8) 5 1 (.slice g.1.1 r.2.2.2.2.2.2.1.length g.1.2) r.2.2.2.2.2.2.1, Ro (eI .i64) 3 1 (.slice g.2.1.1 r.2.2.2.2.2.2.2.1.length g.2.1.2) r.2.2.2.2.2.2.2.1, Ro (eI .i64) 3 1 (.slice g.2.2.1 r.2.2.2.2.2.2.2.2.length g.2.2.2) r.2.2.2.2.2.2.2.2]) := by
 refine kU Tryz.func55 rfl Tryz.ntmps55 rfl hm (fun w => qG (l' := [(0, .pointer (some ⟨g1, 0, none⟩)), (1, .agg #[.slice a17 x16.length c18.1])]) rfl (qf (qa (qW rfl rfl rfl (fun g19 => qb rfl rfl rfl (qc (qe (qH (fun (((x710, x713, x716, x719), (a711, c712, a714, c715, a717, c718)) : ((Int × List Int × List Int × List Int) × (Option Addr × Nat × Option Addr × Nat × Option Addr × Nat))) => []) (fun (((x710, x713, x716, x719), (a711, c712, a714, c715, a717, c718)) : ((Int × List Int × List Int × List Int) × (Option Addr × Nat × Option Addr × Nat × Option Addr × Nat))) => [⟨g1, 66, [.int .i64 x2, .int .i64 x3, .int .i64 x4, .int .i64 x5, .int .i64 x710, .slice a711 x713.length c712, .slice a714 x716.length c715, .slice a717 x719.length c718]⟩]) (fun (((x710, x713, x716, x719), (a711, c712, a714, c715, a717, c718)) : ((Int × List Int × List Int × List Int) × (Option Addr × Nat × Option Addr × Nat × Option Addr × Nat))) => [Ro (eI .u8) 5 1 (.slice a711 x713.length c712) x713, Ro (eI .i64) 3 1 (.slice a714 x716.length c715) x716, Ro (eI .i64) 3 1 (.slice a717 x719.length c718) x719]) (fun (((x710, x713, x716, x719), (a711, c712, a714, c715, a717, c718)) : ((Int × List Int × List Int × List Int) × (Option Addr × Nat × Option Addr × Nat × Option Addr × Nat))) => []) (fun (((x710, x713, x716, x719), _) : ((Int × List Int × List Int × List Int) × (Option Addr × Nat × Option Addr × Nat × Option Addr × Nat))) => vT F x2 x3 x4 x5 x710 x713 x716 x719) ?_ ?_))))))))
 refine qf (qa (qj rfl rfl qc0 rfl (qk (i := 0) rfl rfl tf22 rfl rfl (fun _ => rfl) rfl rfl (q3 rfl Tryz.underlying22 rfl rfl (qd rfl rfl rfl (qc (qe (qD (zi (fun (((x946, x947, x950, x953, x956), (a948, c949, a951, c952, a954, c955)) : ((Int × Int × List Int × List Int × List Int) × (Option Addr × Nat × Option Addr × Nat × Option Addr × Nat))) => [(0, .pointer (some ⟨g1, 0, none⟩)), (3, .pointer (some ⟨g19, 0, none⟩)), (10, .slice a17 x16.length c18.1), (11, .int .i64 (x16.length : Int)), (12, .int .i64 x946)]) (fun (((x946, x947, x950, x953, x956), (a948, c949, a951, c952, a954, c955)) : ((Int × Int × List Int × List Int × List Int) × (Option Addr × Nat × Option Addr × Nat × Option Addr × Nat))) => [⟨g19, 24, [.slice a17 x16.length c18.1]⟩, ⟨g1, 66, [.int .i64 x2, .int .i64 x3, .int .i64 x4, .int .i64 x5, .int .i64 x947, .slice a948 x950.length c949, .slice a951 x953.length c952, .slice a954 x956.length c955]⟩]) (fun (((x946, x947, x950, x953, x956), (a948, c949, a951, c952, a954, c955)) : ((Int × Int × List Int × List Int × List Int) × (Option Addr × Nat × Option Addr × Nat × Option Addr × Nat))) => [Ro (eI .u8) 5 1 (.slice a948 x950.length c949) x950, Ro (eI .i64) 3 1 (.slice a951 x953.length c952) x953, Ro (eI .i64) 3 1 (.slice a954 x956.length c955) x956]) (fun (((x946, x947, x950, x953, x956), (a948, c949, a951, c952, a954, c955)) : ((Int × Int × List Int × List Int × List Int) × (Option Addr × Nat × Option Addr × Nat × Option Addr × Nat))) => [SlN eN37 iN37 1 (.slice a17 x16.length c18.1) x16 c18.2]) (fun k (s : ((Int × Int × List Int × List Int × List Int) × (Option Addr × Nat × Option Addr × Nat × Option Addr × Nat))) => zg F x2 x3 x4 x5 x16 k s.1) ((0, x6, x7, x10, x13), (a8, c9, a11, c12, a14, c15)) F ?_ (hB := (.cons 0 rfl (.cons 0 rfl .nil))) (hR := (.cons 0 rfl (.cons 0 rfl (.cons 0 rfl .nil)))) (hF := (qo 0 rfl qA)))))))))))
 intro k1183
 rintro ⟨⟨x946, x947, x950, x953, x956⟩, ⟨a948, c949, a951, c952, a954, c955⟩⟩
 try dsimp only
 refine zF (m' := yD F x2 x3 x4 x5 x16 (zg F x2 x3 x4 x5 x16 k1183) x946 x947 x950 x953 x956) rfl (qf (qa (qZ rfl rfl rfl rfl (qc (qe (qf (qC rfl (fun h1409 => ?_) (fun h1409 => ?_))))))))
 refine qt (qe (qf (qD (qf (qa (qd rfl rfl rfl (qce (j := 0) yY (by decide) rfl Tryz.underlying22 tf37 rfl rfl rfl rfl (fun x1297 e1297 g1300 b1298 o1299 => kb (j := 0) rfl rfl tf37 rfl rfl (fun _ => rfl) rfl rfl (qb rfl rfl rfl (qb rfl rfl rfl (qc (qe ?_))))))))))))
 refine qH (fun (((x1316, x1317, x1318, x1321), (g1315, a1319, c1320)) : ((Bool × Int × Int × List Int) × (Nat × Option Addr × Nat))) => [(0, .pointer (some ⟨g1, 0, none⟩)), (3, .pointer (some ⟨g19, 0, none⟩)), (7, .pointer (some ⟨g1315, 0, none⟩)), (8, .bool x1316), (10, .slice a17 x16.length c18.1), (11, .int .i64 (x16.length : Int)), (12, .int .i64 x946)]) (fun (((x1316, x1317, x1318, x1321), (g1315, a1319, c1320)) : ((Bool × Int × Int × List Int) × (Nat × Option Addr × Nat))) => [⟨g19, 24, [.slice a17 x16.length c18.1]⟩, ⟨g1, 66, [.int .i64 x2, .int .i64 x3, .int .i64 x4, .int .i64 x5, .int .i64 x947, .slice a948 x950.length c949, .slice a951 x953.length c952, .slice a954 x956.length c955]⟩, ⟨g1315, 131, [.int .i64 x1317, .int .i64 x1318, .slice a1319 x1321.length c1320]⟩]) (fun (((x1316, x1317, x1318, x1321), (g1315, a1319, c1320)) : ((Bool × Int × Int × List Int) × (Nat × Option Addr × Nat))) => [Ro (eI .u8) 5 1 (.slice a948 x950.length c949) x950, Ro (eI .i64) 3 1 (.slice a951 x953.length c952) x953, Ro (eI .i64) 3 1 (.slice a954 x956.length c955) x956, Ro (eI .u8) 5 1 (.slice a1319 x1321.length c1320) x1321]) (fun (((x1316, x1317, x1318, x1321), (g1315, a1319, c1320)) : ((Bool × Int × Int × List Int) × (Nat × Option Addr × Nat))) => [SlN eN37 iN37 1 (.slice a17 x16.length c18.1) x16 c18.2]) (fun (((x1316, x1317, x1318, x1321), _) : ((Bool × Int × Int × List Int) × (Nat × Option Addr × Nat))) => yE F (zg F x2 x3 x4 x5 x16 k1183) x2 x3 x4 x5 x946 x947 x950 x953 x956 x1316 x1317 x1318 x1321) ?_ ?_
 refine qk2 2 yY rfl (fun x1395 e1395 a1396 c1397 g1398 h1399 h1400 => zm mixed [] [⟨g19, 24, [.slice a17 x16.length c18.1]⟩, ⟨g1, 66, [.int .i64 x2, .int .i64 x3, .int .i64 x4, .int .i64 x5, .int .i64 x947, .slice a948 x950.length c949, .slice a951 x953.length c952, .slice a954 x956.length c955]⟩] [SlN eN37 iN37 1 (.slice a1396 x1395.length c1397) x1395 g1398, zH b1298 o1299 (eN37 (x1297, g1300)), Sl (eI .i64) 1 (.slice g1300.1 x1297.length g1300.2) x1297, SlN eN37 iN37 1 (.slice a17 x16.length c18.1) x16 c18.2] (.cons 0 rfl (.cons 0 rfl .nil)) (q7 0 rfl (q7 1 rfl (q7 2 rfl (q7 3 rfl qI)))) 17 rfl (qg 0 (.pointer (some ⟨g19, 0, none⟩)) rfl rfl rfl (qz rfl qc0) (qX 1 (.slice a17 x16.length c18.1) rfl rfl rfl (qY (i := 0) rfl tf22 rfl rfl (fun _ => rfl) rfl) (qg 2 (.int .i64 x946) rfl rfl rfl (qm rfl) (qg 3 (.slice a1396 x1395.length c1397) rfl rfl rfl (qol Tryz.underlying22 tf37 rfl rfl rfl e1395 h1400 h1399) (qg 4 (.slice g1300.1 x1297.length g1300.2) rfl rfl rfl (qm rfl) (qg 5 (.pointer (some ⟨g1, 0, none⟩)) rfl rfl rfl (qm rfl) (qg 6 (.pointer (some ⟨g1, 0, none⟩)) rfl rfl rfl (qm rfl) (qg 7 (.pointer (some ⟨g1, 0, none⟩)) rfl rfl rfl (qz rfl qe2) (qg 8 (.pointer (some ⟨g1, 1, none⟩)) rfl rfl rfl (qz rfl qc1) (qX 9 (.agg #[.int .i64 x3, .int .i64 x4, .int .i64 x5]) rfl rfl rfl (qY (i := 1) rfl tf26 rfl rfl (by simp) rfl) (qcs 10 14 rfl rfl (by kernel_rfl) rfl rfl ?_ ?_))))))))))))
 refine qy ent81 rfl rfl rfl (fun x1401 e1401 => qfo F x1395 a1396 (c1397, g1398) x1297 g1300.1 g1300.2 x3 x4 x5 x1401 e1401) (.consF 0 rfl (.consF 2 rfl .nil)) (fun x1401 e1401 => ?_)
 rintro ⟨a1402, c1403⟩
 refine qc (qK (.cons 0 rfl (.cons 0 rfl .nil)) (q7 0 rfl (q7 1 rfl (q7 2 rfl (q7 3 rfl qI)))) (qg 11 (.tuple #[.agg #[.int .i64 x1401.1, .int .i64 x1401.2.1, .slice a1402 x1401.2.2.1.length c1403], .bool x1401.2.2.2]) rfl rfl rfl (qm rfl) (qg 12 (.agg #[.int .i64 x1401.1, .int .i64 x1401.2.1, .slice a1402 x1401.2.2.1.length c1403]) rfl rfl rfl (qm rfl) (qg 13 (.bool x1401.2.2.2) rfl rfl rfl (qm rfl) (qL 14 rfl (by kernel_rfl) rfl (qM rfl tf131 rfl (fun g1404 => qc (qK (.cons 1 rfl (.cons 1 rfl .nil)) (q7 0 rfl (q7 1 rfl (q7 2 rfl (q7 3 rfl qI)))) (qL 15 rfl (by kernel_rfl) rfl (qu (i := 0) rfl rfl rfl tf131 rfl rfl rfl rfl rfl (qc (qK (.cons 1 rfl (.cons 1 rfl .nil)) (q7 0 rfl (q7 1 rfl (q7 2 rfl (q7 3 rfl qI)))) ?_))))))))))))
 exact qg 16 (.bool x1401.2.2.2) rfl rfl rfl (qm rfl) (qV (by kernel_rfl) (zw (qn ((x1401.2.2.2, x1401.1, x1401.2.1, x1401.2.2.1), (g1404, a1402, c1403)) (hB := (.cons 1 rfl (.cons 1 rfl (.cons 0 rfl .nil)))) (hR := (.cons 1 rfl (.cons 1 rfl (.cons 1 rfl (.cons 0 rfl .nil))))) (hF := (qo 3 rfl qA))) (by intro c h; cases h)))
 refine qct (m' := ((qcl F x1395 x1297 x3 x4 x5).bind fun x1406 => yE F (zg F x2 x3 x4 x5 x16 k1183) x2 x3 x4 x5 x946 x947 x950 x953 x956 x1406.2.2.2 x1406.1 x1406.2.1 x1406.2.2.1)) (rfl) (qM rfl tf131 rfl (fun g1405 => qc (qK (.cons 1 rfl (.cons 1 rfl .nil)) (q7 0 rfl (q7 1 rfl (q7 2 rfl (q7 3 rfl qI)))) (qL 10 rfl (by kernel_rfl) rfl (qy ent81 rfl rfl rfl (fun x1406 e1406 => qfo F x1395 a1396 (c1397, g1398) x1297 g1300.1 g1300.2 x3 x4 x5 x1406 e1406) (.consF 0 rfl (.consF 2 rfl .nil)) (fun x1406 e1406 => ?_))))))
 rintro ⟨a1407, c1408⟩
 exact qc (qK (.cons 1 rfl (.cons 1 rfl .nil)) (q7 0 rfl (q7 1 rfl (q7 2 rfl (q7 3 rfl qI)))) (qg 11 (.tuple #[.agg #[.int .i64 x1406.1, .int .i64 x1406.2.1, .slice a1407 x1406.2.2.1.length c1408], .bool x1406.2.2.2]) rfl rfl rfl (qm rfl) (qg 12 (.agg #[.int .i64 x1406.1, .int .i64 x1406.2.1, .slice a1407 x1406.2.2.1.length c1408]) rfl rfl rfl (qm rfl) (qg 13 (.bool x1406.2.2.2) rfl rfl rfl (qm rfl) (qL 15 rfl (by kernel_rfl) rfl (qu (i := 0) rfl rfl rfl tf131 rfl rfl rfl rfl rfl (qc (qK (.cons 1 rfl (.cons 1 rfl .nil)) (q7 0 rfl (q7 1 rfl (q7 2 rfl (q7 3 rfl qI)))) (qg 16 (.bool x1406.2.2.2) rfl rfl rfl (qm rfl) (qV (by kernel_rfl) (zw (qn ((x1406.2.2.2, x1406.1, x1406.2.1, x1406.2.2.1), (g1405, a1407, c1408)) (hB := (.cons 1 rfl (.cons 1 rfl (.cons 0 rfl .nil)))) (hR := (.cons 1 rfl (.cons 1 rfl (.cons 1 rfl (.cons 0 rfl .nil))))) (hF := (qo 3 rfl qA))) (by intro c h; cases h))))))))))))
 rintro ⟨⟨x1316, x1317, x1318, x1321⟩, ⟨g1315, a1319, c1320⟩⟩
 try dsimp only
 refine qf (qH (fun ((x1327, _) : (Bool × Unit)) => [(0, .pointer (some ⟨g1, 0, none⟩)), (3, .pointer (some ⟨g19, 0, none⟩)), (7, .pointer (some ⟨g1315, 0, none⟩)), (10, .slice a17 x16.length c18.1), (11, .int .i64 (x16.length : Int)), (12, .int .i64 x946), (45, .bool x1327)]) (fun ((x1327, _) : (Bool × Unit)) => [⟨g19, 24, [.slice a17 x16.length c18.1]⟩, ⟨g1, 66, [.int .i64 x2, .int .i64 x3, .int .i64 x4, .int .i64 x5, .int .i64 x947, .slice a948 x950.length c949, .slice a951 x953.length c952, .slice a954 x956.length c955]⟩, ⟨g1315, 131, [.int .i64 x1317, .int .i64 x1318, .slice a1319 x1321.length c1320]⟩]) (fun ((x1327, _) : (Bool × Unit)) => [Ro (eI .u8) 5 1 (.slice a948 x950.length c949) x950, Ro (eI .i64) 3 1 (.slice a951 x953.length c952) x953, Ro (eI .i64) 3 1 (.slice a954 x956.length c955) x956, Ro (eI .u8) 5 1 (.slice a1319 x1321.length c1320) x1321]) (fun ((x1327, _) : (Bool × Unit)) => [SlN eN37 iN37 1 (.slice a17 x16.length c18.1) x16 c18.2]) (fun ((x1327, _) : (Bool × Unit)) => kK F (zg F x2 x3 x4 x5 x16 k1183) x2 x3 x4 x5 x946 x947 x950 x953 x956 x1317 x1318 x1321 x1327) ?_ ?_)
 refine qaz (fun h1394 => ?_) (fun h1394 => ?_)
 refine zm mixed [] [⟨g19, 24, [.slice a17 x16.length c18.1]⟩, ⟨g1, 66, [.int .i64 x2, .int .i64 x3, .int .i64 x4, .int .i64 x5, .int .i64 x947, .slice a948 x950.length c949, .slice a951 x953.length c952, .slice a954 x956.length c955]⟩, ⟨g1315, 131, [.int .i64 x1317, .int .i64 x1318, .slice a1319 x1321.length c1320]⟩] [SlN eN37 iN37 1 (.slice a17 x16.length c18.1) x16 c18.2] (.cons 0 rfl (.cons 0 rfl (.cons 0 rfl .nil))) (q7 0 rfl qI) 15 rfl (qg 0 (.bool x1316) rfl rfl rfl (qm rfl) (qg 1 (.bool (!x1316)) rfl rfl rfl (qm rfl) (qg 2 (.bool (!x1316)) rfl rfl rfl (qm rfl) (qJ (d := 33) (v := .bool true) rfl (by rw [h1394] <;> rfl) (ql 3 rfl rfl rfl (ql 4 rfl rfl rfl (ql 5 rfl rfl rfl (ql 6 rfl rfl rfl (ql 7 rfl rfl rfl (ql 8 rfl rfl rfl (ql 9 rfl rfl rfl (ql 10 rfl rfl rfl ?_))))))))))))
 exact ql 11 rfl rfl rfl (ql 12 rfl rfl rfl (ql 13 rfl rfl rfl (qg 14 (.bool true) rfl rfl rfl (qm rfl) (qV (by kernel_rfl) (zw (qn (true, ()) (hB := (.cons 0 rfl (.cons 0 rfl (.cons 0 rfl .nil)))) (hR := (.cons 0 rfl (.cons 0 rfl (.cons 0 rfl (.cons 0 rfl .nil))))) (hF := (qo 0 rfl qA))) (by intro c h; cases h))))))
 refine zm mixed [] [⟨g19, 24, [.slice a17 x16.length c18.1]⟩, ⟨g1, 66, [.int .i64 x2, .int .i64 x3, .int .i64 x4, .int .i64 x5, .int .i64 x947, .slice a948 x950.length c949, .slice a951 x953.length c952, .slice a954 x956.length c955]⟩, ⟨g1315, 131, [.int .i64 x1317, .int .i64 x1318, .slice a1319 x1321.length c1320]⟩] [SlN eN37 iN37 1 (.slice a17 x16.length c18.1) x16 c18.2] (.cons 0 rfl (.cons 0 rfl (.cons 0 rfl .nil))) (q7 0 rfl qI) 15 rfl (qg 0 (.bool x1316) rfl rfl rfl (qm rfl) (qg 1 (.bool (!x1316)) rfl rfl rfl (qm rfl) (qg 2 (.bool (!x1316)) rfl rfl rfl (qm rfl) (qJ (d := 33) (v := .bool false) rfl (by rw [h1394] <;> rfl) (qg 3 (.pointer (some ⟨g1, 0, none⟩)) rfl rfl rfl (qm rfl) (qg 4 (.pointer (some ⟨g1, 0, none⟩)) rfl rfl rfl (qm rfl) (qg 5 (.pointer (some ⟨g1, 0, none⟩)) rfl rfl rfl (qz rfl qe2) (qg 6 (.pointer (some ⟨g1, 4, none⟩)) rfl rfl rfl (qz rfl qbL) (qg 7 (.pointer (some ⟨g1, 4, none⟩)) rfl rfl rfl (qz rfl zX) (qX 8 (.int .i64 x947) rfl rfl rfl (qY (i := 1) rfl tf3 rfl rfl (fun _ => rfl) rfl) (qg 9 (.pointer (some ⟨g1315, 1, none⟩)) rfl rfl rfl (qz rfl qfC) (qg 10 (.pointer (some ⟨g1315, 1, none⟩)) rfl rfl rfl (qz rfl zX) ?_))))))))))))
 exact qX 11 (.int .i64 x1318) rfl rfl rfl (qY (i := 2) rfl tf3 rfl rfl (fun _ => rfl) rfl) (qg 12 (.int .i64 (iadd .i64 x947 x1318)) rfl rfl rfl (qm rfl) (qg 13 (.bool (decide (8192 < (iadd .i64 x947 x1318)))) rfl rfl rfl (qm rfl) (qg 14 (.bool (decide (8192 < (iadd .i64 x947 x1318)))) rfl rfl rfl (qm rfl) (qV (by kernel_rfl) (zw (qn ((decide (8192 < (iadd .i64 x947 x1318))), ()) (hB := (.cons 0 rfl (.cons 0 rfl (.cons 0 rfl .nil)))) (hR := (.cons 0 rfl (.cons 0 rfl (.cons 0 rfl (.cons 0 rfl .nil))))) (hF := (qo 0 rfl qA))) (by intro c h; cases h))))))
 rintro ⟨x1327, _⟩
 try dsimp only
 refine qC rfl (fun h1393 => ?_) (fun h1393 => ?_)
 exact qf (qa (qb rfl rfl rfl (qc (qe (qv (qq (qP (qq (qq (qP (qq (zz ((a948, c949), (a951, c952), (a954, c955)) (res1 rfl rfl) (hB := fun h => by subst h; exact (.cons 1 rfl .nil)) (hR := fun h => by subst h; exact (.cons 0 rfl (.cons 0 rfl (.cons 0 rfl .nil))))))))))))))))
 refine qt (qe (qH (fun (((x1358, x1361), (a1356, c1357, a1359, c1360)) : ((List Int × List Int) × (Option Addr × Nat × Option Addr × Nat))) => [(0, .pointer (some ⟨g1, 0, none⟩)), (3, .pointer (some ⟨g19, 0, none⟩)), (7, .pointer (some ⟨g1315, 0, none⟩)), (10, .slice a17 x16.length c18.1), (11, .int .i64 (x16.length : Int)), (12, .int .i64 x946)]) (fun (((x1358, x1361), (a1356, c1357, a1359, c1360)) : ((List Int × List Int) × (Option Addr × Nat × Option Addr × Nat))) => [⟨g19, 24, [.slice a17 x16.length c18.1]⟩, ⟨g1, 66, [.int .i64 x2, .int .i64 x3, .int .i64 x4, .int .i64 x5, .int .i64 x947, .slice a948 x950.length c949, .slice a1356 x1358.length c1357, .slice a1359 x1361.length c1360]⟩, ⟨g1315, 131, [.int .i64 x1317, .int .i64 x1318, .slice a1319 x1321.length c1320]⟩]) (fun (((x1358, x1361), (a1356, c1357, a1359, c1360)) : ((List Int × List Int) × (Option Addr × Nat × Option Addr × Nat))) => [Ro (eI .u8) 5 1 (.slice a948 x950.length c949) x950, Ro (eI .i64) 3 1 (.slice a1356 x1358.length c1357) x1358, Ro (eI .i64) 3 1 (.slice a1359 x1361.length c1360) x1361, Ro (eI .u8) 5 1 (.slice a1319 x1321.length c1320) x1321]) (fun (((x1358, x1361), (a1356, c1357, a1359, c1360)) : ((List Int × List Int) × (Option Addr × Nat × Option Addr × Nat))) => [SlN eN37 iN37 1 (.slice a17 x16.length c18.1) x16 c18.2]) (fun (((x1358, x1361), _) : ((List Int × List Int) × (Option Addr × Nat × Option Addr × Nat))) => kL F (zg F x2 x3 x4 x5 x16 k1183) x946 x947 x950 x1318 x1321 x1358 x1361) ?_ ?_))
 refine zm mixed [24, 27] [⟨g19, 24, [.slice a17 x16.length c18.1]⟩, ⟨g1315, 131, [.int .i64 x1317, .int .i64 x1318, .slice a1319 x1321.length c1320]⟩] [SlN eN37 iN37 1 (.slice a17 x16.length c18.1) x16 c18.2, (BlkD.is ⟨g1, 66, [.int .i64 x2, .int .i64 x3, .int .i64 x4, .int .i64 x5, .int .i64 x947, .slice a948 x950.length c949, .slice a951 x953.length c952, .slice a954 x956.length c955]⟩)] (.cons 0 rfl (.cons 1 rfl .nil)) (q7 0 rfl (qca 1 rfl qI)) 28 rfl (qg 0 (.pointer (some ⟨g1, 0, none⟩)) rfl rfl rfl (qm rfl) (qg 1 (.pointer (some ⟨g1, 0, none⟩)) rfl rfl rfl (qm rfl) (qg 2 (.pointer (some ⟨g1, 0, none⟩)) rfl rfl rfl (qm rfl) (qg 3 (.pointer (some ⟨g1, 0, none⟩)) rfl rfl rfl (qm rfl) (qg 4 (.pointer (some ⟨g1, 6, none⟩)) rfl rfl rfl (qz rfl qfY) (km 5 (.slice a951 x953.length c952) [[24], [27]] rfl rfl rfl (jZ (j := 1) rfl tf37 rfl rfl (fun _ => rfl) rfl) (qg 6 (.pointer (some ⟨g1315, 0, none⟩)) rfl rfl rfl (qz rfl qmQ) (qX 7 (.int .i64 x1317) rfl rfl rfl (qY (i := 1) rfl tf3 rfl rfl (fun _ => rfl) rfl) (qg 10 (.pointer (some ⟨g1, 0, none⟩)) rfl rfl rfl (qm rfl) (qg 11 (.pointer (some ⟨g1, 0, none⟩)) rfl rfl rfl (qm rfl) (qg 12 (.pointer (some ⟨g1, 7, none⟩)) rfl rfl rfl (qz rfl qfZ) (km 13 (.slice a954 x956.length c955) [[24], [27]] rfl rfl rfl (jZ (j := 1) rfl tf37 rfl rfl (fun _ => rfl) rfl) ?_))))))))))))
 refine qg 14 (.pointer (some ⟨g1, 0, none⟩)) rfl rfl rfl (qm rfl) (qg 15 (.pointer (some ⟨g1, 0, none⟩)) rfl rfl rfl (qm rfl) (qg 16 (.pointer (some ⟨g1, 0, none⟩)) rfl rfl rfl (qz rfl qe2) (qg 17 (.pointer (some ⟨g1, 4, none⟩)) rfl rfl rfl (qz rfl qbL) (qg 18 (.pointer (some ⟨g1, 4, none⟩)) rfl rfl rfl (qz rfl zX) (km 19 (.int .i64 x947) [[24], [27]] rfl rfl rfl (jZ (j := 1) rfl tf3 rfl rfl (fun _ => rfl) rfl) (qcs 8 20 rfl rfl (by kernel_rfl) rfl rfl ?_ ?_))))))
 refine zB (vs := [.int .i64 x1317]) (ys := ([x1317] : List Int)) (zd .i64) (by decide) rfl Tryz.underlying37 tf3 rfl rfl rfl rfl rfl (by decide) (fun a1365 c1366 => qc (qK (.cons 0 rfl (.cons 1 rfl .nil)) (q7 0 rfl (qca 1 rfl qI)) (qcs 9 20 rfl rfl (by kernel_rfl) rfl rfl ?_ ?_)))
 refine yw 2 (zd .i64) rfl Tryz.underlying37 tf3 rfl rfl rfl rfl rfl (.inl ⟨0, _, rfl⟩) rfl rfl (fun x1367 e1367 a1368 c1369 => qc (qK (.cons 0 rfl (.cons 1 rfl .nil)) (q7 0 rfl (qca 1 rfl qI)) (qL 20 rfl (by kernel_rfl) rfl (zB (vs := [.int .i64 x947]) (ys := ([x947] : List Int)) (zd .i64) (by decide) rfl Tryz.underlying37 tf3 rfl rfl rfl rfl rfl (by decide) (fun a1370 c1371 => qc (qK (.cons 0 rfl (.cons 1 rfl .nil)) (q7 0 rfl (qca 1 rfl qI)) (qL 21 rfl (by kernel_rfl) rfl (yw 4 (zd .i64) rfl Tryz.underlying37 tf3 rfl rfl rfl rfl rfl (.inl ⟨0, _, rfl⟩) rfl rfl (fun x1372 e1372 a1373 c1374 => qc (qK (.cons 0 rfl (.cons 1 rfl .nil)) (q7 0 rfl (qca 1 rfl qI)) (qg 22 (.pointer (some ⟨g1, 0, none⟩)) rfl rfl rfl (qm rfl) (qg 23 (.pointer (some ⟨g1, 6, none⟩)) rfl rfl rfl (qz rfl qfY) ?_))))))))))))
 exact qL 24 rfl (by kernel_rfl) rfl (qu (i := 1) rfl rfl rfl tf37 rfl rfl rfl rfl rfl (qc (vJ 24 rfl (by kernel_rfl) (.cons 0 rfl (.cons 1 rfl .nil)) (qg 25 (.pointer (some ⟨g1, 0, none⟩)) rfl rfl rfl (qm rfl) (qg 26 (.pointer (some ⟨g1, 7, none⟩)) rfl rfl rfl (qz rfl qfZ) (qL 27 rfl (by kernel_rfl) rfl (qu (i := 1) rfl rfl rfl tf37 rfl rfl rfl rfl rfl (qc (vJ 24 rfl (by kernel_rfl) (.cons 0 rfl (.cons 1 rfl .nil)) (qV (by kernel_rfl) (zw (qn ((x1367, x1372), (a1368, c1369, a1373, c1374)) (hB := (.cons 0 rfl (.cons 0 rfl (.cons 0 rfl .nil)))) (hR := (.cons 4 rfl (.cons 2 rfl (.cons 0 rfl (.cons 2 rfl .nil))))) (hF := (qo 0 rfl qA))) (by intro c h; cases h))))))))))))
 refine qct (m' := ((app 8796093022208 x953 ([x1317] : List Int)).bind fun x1377 => ((app 8796093022208 x956 ([x947] : List Int)).bind fun x1380 => kL F (zg F x2 x3 x4 x5 x16 k1183) x946 x947 x950 x1318 x1321 x1377 x1380))) (rfl) (zB (vs := [.int .i64 x947]) (ys := ([x947] : List Int)) (zd .i64) (by decide) rfl Tryz.underlying37 tf3 rfl rfl rfl rfl rfl (by decide) (fun a1375 c1376 => qc (qK (.cons 0 rfl (.cons 1 rfl .nil)) (q7 0 rfl (qca 1 rfl qI)) (qL 9 rfl (by kernel_rfl) rfl (yw 3 (zd .i64) rfl Tryz.underlying37 tf3 rfl rfl rfl rfl rfl (.inl ⟨1, _, rfl⟩) rfl rfl (fun x1377 e1377 a1378 c1379 => qc (qK (.cons 0 rfl (.cons 1 rfl .nil)) (q7 0 rfl (qca 1 rfl qI)) (qL 21 rfl (by kernel_rfl) rfl (yw 4 (zd .i64) rfl Tryz.underlying37 tf3 rfl rfl rfl rfl rfl (.inl ⟨1, _, rfl⟩) rfl rfl (fun x1380 e1380 a1381 c1382 => qc (qK (.cons 0 rfl (.cons 1 rfl .nil)) (q7 0 rfl (qca 1 rfl qI)) (qg 22 (.pointer (some ⟨g1, 0, none⟩)) rfl rfl rfl (qm rfl) ?_))))))))))))
 refine qg 23 (.pointer (some ⟨g1, 6, none⟩)) rfl rfl rfl (qz rfl qfY) (qL 24 rfl (by kernel_rfl) rfl (qu (i := 1) rfl rfl rfl tf37 rfl rfl rfl rfl rfl (qc (vJ 24 rfl (by kernel_rfl) (.cons 0 rfl (.cons 1 rfl .nil)) (qg 25 (.pointer (some ⟨g1, 0, none⟩)) rfl rfl rfl (qm rfl) (qg 26 (.pointer (some ⟨g1, 7, none⟩)) rfl rfl rfl (qz rfl qfZ) (qL 27 rfl (by kernel_rfl) rfl (qu (i := 1) rfl rfl rfl tf37 rfl rfl rfl rfl rfl (qc (vJ 24 rfl (by kernel_rfl) (.cons 0 rfl (.cons 1 rfl .nil)) (qV (by kernel_rfl) (zw ?_ (by intro c h; cases h)))))))))))))
 exact qn ((x1377, x1380), (a1378, c1379, a1381, c1382)) (hB := (.cons 0 rfl (.cons 0 rfl (.cons 0 rfl .nil)))) (hR := (.cons 4 rfl (.cons 1 rfl (.cons 0 rfl (.cons 2 rfl .nil))))) (hF := (qo 0 rfl qA))
 refine qct (m' := ((app 8796093022208 x953 ([x1317] : List Int)).bind fun x1387 => ((app 8796093022208 x956 ([x947] : List Int)).bind fun x1390 => kL F (zg F x2 x3 x4 x5 x16 k1183) x946 x947 x950 x1318 x1321 x1387 x1390))) (rfl) (zB (vs := [.int .i64 x947]) (ys := ([x947] : List Int)) (zd .i64) (by decide) rfl Tryz.underlying37 tf3 rfl rfl rfl rfl rfl (by decide) (fun a1383 c1384 => qc (qK (.cons 0 rfl (.cons 1 rfl .nil)) (q7 0 rfl (qca 1 rfl qI)) (qL 8 rfl (by kernel_rfl) rfl (zB (vs := [.int .i64 x1317]) (ys := ([x1317] : List Int)) (zd .i64) (by decide) rfl Tryz.underlying37 tf3 rfl rfl rfl rfl rfl (by decide) (fun a1385 c1386 => qc (qK (.cons 0 rfl (.cons 1 rfl .nil)) (q7 0 rfl (qca 1 rfl qI)) (qL 9 rfl (by kernel_rfl) rfl (yw 3 (zd .i64) rfl Tryz.underlying37 tf3 rfl rfl rfl rfl rfl (.inl ⟨0, _, rfl⟩) rfl rfl (fun x1387 e1387 a1388 c1389 => qc (qK (.cons 0 rfl (.cons 1 rfl .nil)) (q7 0 rfl (qca 1 rfl qI)) (qL 21 rfl (by kernel_rfl) rfl ?_))))))))))))
 refine yw 4 (zd .i64) rfl Tryz.underlying37 tf3 rfl rfl rfl rfl rfl (.inl ⟨2, _, rfl⟩) rfl rfl (fun x1390 e1390 a1391 c1392 => qc (qK (.cons 0 rfl (.cons 1 rfl .nil)) (q7 0 rfl (qca 1 rfl qI)) (qg 22 (.pointer (some ⟨g1, 0, none⟩)) rfl rfl rfl (qm rfl) (qg 23 (.pointer (some ⟨g1, 6, none⟩)) rfl rfl rfl (qz rfl qfY) (qL 24 rfl (by kernel_rfl) rfl (qu (i := 1) rfl rfl rfl tf37 rfl rfl rfl rfl rfl (qc (vJ 24 rfl (by kernel_rfl) (.cons 0 rfl (.cons 1 rfl .nil)) (qg 25 (.pointer (some ⟨g1, 0, none⟩)) rfl rfl rfl (qm rfl) (qg 26 (.pointer (some ⟨g1, 7, none⟩)) rfl rfl rfl (qz rfl qfZ) (qL 27 rfl (by kernel_rfl) rfl (qu (i := 1) rfl rfl rfl tf37 rfl rfl rfl rfl rfl ?_))))))))))))
 exact qc (vJ 24 rfl (by kernel_rfl) (.cons 0 rfl (.cons 1 rfl .nil)) (qV (by kernel_rfl) (zw (qn ((x1387, x1390), (a1388, c1389, a1391, c1392)) (hB := (.cons 0 rfl (.cons 0 rfl (.cons 0 rfl .nil)))) (hR := (.cons 4 rfl (.cons 1 rfl (.cons 0 rfl (.cons 2 rfl .nil))))) (hF := (qo 0 rfl qA))) (by intro c h; cases h))))
 rintro ⟨⟨x1358, x1361⟩, ⟨a1356, c1357, a1359, c1360⟩⟩
 try dsimp only
 refine zm mixed [12] [⟨g19, 24, [.slice a17 x16.length c18.1]⟩, ⟨g1315, 131, [.int .i64 x1317, .int .i64 x1318, .slice a1319 x1321.length c1320]⟩] [SlN eN37 iN37 1 (.slice a17 x16.length c18.1) x16 c18.2, (BlkD.is ⟨g1, 66, [.int .i64 x2, .int .i64 x3, .int .i64 x4, .int .i64 x5, .int .i64 x947, .slice a948 x950.length c949, .slice a1356 x1358.length c1357, .slice a1359 x1361.length c1360]⟩)] (.cons 0 rfl (.cons 1 rfl .nil)) (q7 0 rfl (qca 1 rfl qI)) 13 rfl (qg 0 (.pointer (some ⟨g1, 0, none⟩)) rfl rfl rfl (qm rfl) (qg 1 (.pointer (some ⟨g1, 0, none⟩)) rfl rfl rfl (qm rfl) (qg 2 (.pointer (some ⟨g1, 0, none⟩)) rfl rfl rfl (qm rfl) (qg 3 (.pointer (some ⟨g1, 0, none⟩)) rfl rfl rfl (qz rfl qe2) (qg 4 (.pointer (some ⟨g1, 4, none⟩)) rfl rfl rfl (qz rfl qbL) (km 5 (.agg #[.int .i64 x947, .slice a948 x950.length c949]) [[12]] rfl rfl rfl (jZ (j := 1) rfl tf29 rfl rfl (by simp) rfl) (qg 6 (.pointer (some ⟨g1315, 1, none⟩)) rfl rfl rfl (qz rfl qfC) (qX 7 (.agg #[.int .i64 x1318, .slice a1319 x1321.length c1320]) rfl rfl rfl (qY (i := 1) rfl tf29 rfl rfl (by simp) rfl) (qL 8 rfl (by kernel_rfl) rfl (q2 ent53 rfl rfl rfl (fun x1362 e1362 => qbw F x947 x950 a948 c949 x1318 x1321 a1319 c1320 x1362 e1362) .nil .nil (.consR 0 (Ro (eI .u8) 5 1 (.slice a948 x950.length c949) x950) rfl (.consR 3 (Ro (eI .u8) 5 1 (.slice a1319 x1321.length c1320) x1321) rfl .nil)) (fun x1362 e1362 => ?_)))))))))))
 rintro ⟨a1363, c1364⟩
 refine qc (qK (.cons 0 rfl (.cons 1 rfl .nil)) (q7 0 rfl (qca 1 rfl qI)) (qg 9 (.pointer (some ⟨g1, 0, none⟩)) rfl rfl rfl (qm rfl) (qg 10 (.pointer (some ⟨g1, 0, none⟩)) rfl rfl rfl (qz rfl qe2) (qg 11 (.pointer (some ⟨g1, 4, none⟩)) rfl rfl rfl (qz rfl qbL) (qL 12 rfl (by kernel_rfl) rfl (qu (i := 1) rfl rfl rfl tf29 rfl rfl rfl rfl rfl (qc (vJ 12 rfl (by kernel_rfl) (.cons 0 rfl (.cons 1 rfl .nil)) (qV (by kernel_rfl) (zw (qU (qe ?_)) (by intro c h; cases h)))))))))))
 exact qa (qN rfl rfl rfl rfl (qd rfl rfl rfl (qc (q4 ((iadd .i64 x946 1, x1362.1, x1362.2, x1358, x1361), (a1363, c1364, a1356, c1357, a1359, c1360)) (hB := (.cons 0 rfl (.cons 0 rfl .nil))) (hR := (.cons 0 rfl (.cons 1 rfl (.cons 1 rfl .nil)))) (hF := (qo 0 rfl qA))))))
 exact zn (qF (qF (zo (qn ((x947, x950, x953, x956), (a948, c949, a951, c952, a954, c955)) (hB := (.cons 1 rfl .nil)) (hR := (.cons 0 rfl (.cons 0 rfl (.cons 0 rfl .nil))))))))
 rintro ⟨⟨x710, x713, x716, x719⟩, ⟨a711, c712, a714, c715, a717, c718⟩⟩
 try dsimp only
 exact qf (qa (qb rfl rfl rfl (qc (qe (qv (zz ((a711, c712), (a714, c715), (a717, c718)) (res1 rfl rfl) (hB := fun h => by subst h; exact (.cons 0 rfl .nil)) (hR := fun h => by subst h; exact (.cons 0 rfl (.cons 0 rfl (.cons 0 rfl .nil))))))))))
theorem qdS (F : Nat) (x1 : List (List Int)) (a2 : Option Addr) (c3 : (Nat × List (Option Addr × Nat))) (x4 : Int) (x5 : Int) (x6 : Int) (r : (Int × Int × Int × Int × Int × List Int × List Int × List Int × Int)) (hm : qac F x1 x4 x5 x6 = some r) :
    PureM Tryz.prog 28 [.agg #[.slice a2 x1.length c3.1], .agg #[.int .i64 x4, .int .i64 x5, .int .i64 x6]] [] [] [SlN eN37 iN37 1 (.slice a2 x1.length c3.1) x1 c3.2] ((Option Addr × Nat) × (Option Addr × Nat) × (Option Addr × Nat) × Nat) (fun g => .tuple #[.pointer (some ⟨g.2.2.2, 0, none⟩), .int .i64 r.2.2.2.2.2.2.2.2]) (fun g => [⟨g.2.2.2, 66, [.int .i64 r.1, .int .i64 r.2.1, .int .i64 r.2.2.1, .int .i64 r.2.2.2.1, .int .i64 r.2.2.2.2.1, .slice g.1.1 r.2.2.2.2.2.1.length g.1.2, .slice g.2.1.1 r.2.2.2.2.2.2.1.length g.2.1.2, .slice g.2.2.1.1 r.2.2.2.2.2.2.2.1.length g.2.2.1.2]⟩]) (fun g => [Ro (eI .u8) 5 1 (.slice g.1.1 r.2.2.2.2.2.1.length g.1.2) r.2.2.2.2.2.1, Ro (eI .i64) 3 1 (.slice g.2.1.1 r.2.2.2.2.2.2.1.length g.2.1.2) r.2.2.2.2.2.2.1, Ro (eI .i64) 3 1 (.slice g.2.2.1.1 r.2.2.2.2.2.2.2.1.length g.2.2.1.2) r.2.2.2.2.2.2.2.1]) := by
 refine kU Tryz.func28 rfl Tryz.ntmps28 rfl hm (fun w => qG (l' := [(0, .agg #[.slice a2 x1.length c3.1]), (1, .agg #[.int .i64 x4, .int .i64 x5, .int .i64 x6])]) rfl (qf (qa (qW rfl rfl rfl (fun g7 => qW rfl rfl rfl (fun g8 => qb rfl rfl rfl (qb rfl rfl rfl (qc (qe (qf (qa (qk (i := 1) rfl rfl tf24 rfl rfl (by simp) rfl rfl ?_))))))))))))
 refine qy ent54 rfl rfl rfl (fun x9 e9 => qgI F x1 a2 c3 x9 e9) (.consF 0 rfl .nil) (fun x9 e9 _ => qb rfl rfl rfl (qc (qe (qH (fun ((x12, _) : (Int × Unit)) => [(2, .pointer (some ⟨g7, 0, none⟩)), (3, .pointer (some ⟨g8, 0, none⟩)), (6, .int .i64 x12)]) (fun ((x12, _) : (Int × Unit)) => [⟨g8, 26, [.int .i64 x4, .int .i64 x5, .int .i64 x6]⟩, ⟨g7, 24, [.slice a2 x1.length c3.1]⟩]) (fun ((x12, _) : (Int × Unit)) => []) (fun ((x12, _) : (Int × Unit)) => [SlN eN37 iN37 1 (.slice a2 x1.length c3.1) x1 c3.2]) (fun ((x12, _) : (Int × Unit)) => vE F x1 x4 x5 x6 x12) ?_ ?_))))
 refine qf (qa (qd rfl rfl rfl (zj rfl rfl rfl rfl (qc (qe (qC rfl (fun h98 => ?_) (fun h98 => ?_)))))))
 refine qa (qk (i := 0) rfl rfl tf26 rfl rfl (by simp) rfl rfl (qy ent43 rfl rfl rfl (fun x97 e97 => qaF F x4 x5 x6 x97 e97) .nil (fun x97 e97 => ?_)))
 intro _
 exact qb rfl rfl rfl (qc (qn (x97, ()) (hB := (.cons 0 rfl (.cons 0 rfl .nil))) (hF := (qo 0 rfl qA))))
 exact qt (qn (x9, ()) (hB := (.cons 0 rfl (.cons 0 rfl .nil))) (hF := (qo 0 rfl qA)))
 rintro ⟨x12, _⟩
 try dsimp only
 refine qf (qa (qj rfl rfl qc0 rfl (qk (i := 1) rfl rfl tf22 rfl rfl (fun _ => rfl) rfl rfl (q3 rfl Tryz.underlying22 rfl rfl (qk (i := 0) rfl rfl tf26 rfl rfl (by simp) rfl rfl (q6 (cells := [.int .i64 (x1.length : Int), .int .i64 x4, .int .i64 x5, .int .i64 x6, .int .i64 0, .slice none 0 0]) rfl st31 rfl (by kernel_rfl) rfl (q6 (cells := [.int .i64 (x1.length : Int), .int .i64 x4, .int .i64 x5, .int .i64 x6, .int .i64 0, .slice none 0 0, .slice none 0 0, .slice none 0 0]) rfl st66 rfl (by kernel_rfl) rfl (qW rfl rfl rfl (fun g13 => qb rfl rfl rfl (qc (qe (qH (fun (((x48, x49, x50, x51, x52, x53, x56, x59, x62), (a54, c55, a57, c58, a60, c61)) : ((Int × Int × Int × Int × Int × Int × List Int × List Int × List Int) × (Option Addr × Nat × Option Addr × Nat × Option Addr × Nat))) => [(6, .int .i64 x48), (7, .pointer (some ⟨g13, 0, none⟩))]) (fun (((x48, x49, x50, x51, x52, x53, x56, x59, x62), (a54, c55, a57, c58, a60, c61)) : ((Int × Int × Int × Int × Int × Int × List Int × List Int × List Int) × (Option Addr × Nat × Option Addr × Nat × Option Addr × Nat))) => [⟨g13, 66, [.int .i64 x49, .int .i64 x50, .int .i64 x51, .int .i64 x52, .int .i64 x53, .slice a54 x56.length c55, .slice a57 x59.length c58, .slice a60 x62.length c61]⟩]) (fun (((x48, x49, x50, x51, x52, x53, x56, x59, x62), (a54, c55, a57, c58, a60, c61)) : ((Int × Int × Int × Int × Int × Int × List Int × List Int × List Int) × (Option Addr × Nat × Option Addr × Nat × Option Addr × Nat))) => [Ro (eI .u8) 5 1 (.slice a54 x56.length c55) x56, Ro (eI .i64) 3 1 (.slice a57 x59.length c58) x59, Ro (eI .i64) 3 1 (.slice a60 x62.length c61) x62]) (fun (((x48, x49, x50, x51, x52, x53, x56, x59, x62), (a54, c55, a57, c58, a60, c61)) : ((Int × Int × Int × Int × Int × Int × List Int × List Int × List Int) × (Option Addr × Nat × Option Addr × Nat × Option Addr × Nat))) => []) (fun (((x48, x49, x50, x51, x52, x53, x56, x59, x62), _) : ((Int × Int × Int × Int × Int × Int × List Int × List Int × List Int) × (Option Addr × Nat × Option Addr × Nat × Option Addr × Nat))) => yI F x48 x49 x50 x51 x52 x53 x56 x59 x62) ?_ ?_))))))))))))
 refine qf (qa (qd rfl rfl rfl (zj rfl rfl rfl rfl (qd rfl rfl rfl (zZ 5 (fun (((x74, x75, x76, x77, x78, x79, x82, x85, x88), (a80, c81, a83, c84, a86, c87)) : ((Bool × Int × Int × Int × Int × Int × List Int × List Int × List Int) × (Option Addr × Nat × Option Addr × Nat × Option Addr × Nat))) => [(6, .int .i64 x12), (7, .pointer (some ⟨g13, 0, none⟩)), (28, .bool x74)]) (fun (((x74, x75, x76, x77, x78, x79, x82, x85, x88), (a80, c81, a83, c84, a86, c87)) : ((Bool × Int × Int × Int × Int × Int × List Int × List Int × List Int) × (Option Addr × Nat × Option Addr × Nat × Option Addr × Nat))) => [⟨g13, 66, [.int .i64 x75, .int .i64 x76, .int .i64 x77, .int .i64 x78, .int .i64 x79, .slice a80 x82.length c81, .slice a83 x85.length c84, .slice a86 x88.length c87]⟩]) (fun (((x74, x75, x76, x77, x78, x79, x82, x85, x88), (a80, c81, a83, c84, a86, c87)) : ((Bool × Int × Int × Int × Int × Int × List Int × List Int × List Int) × (Option Addr × Nat × Option Addr × Nat × Option Addr × Nat))) => [Ro (eI .u8) 5 1 (.slice a80 x82.length c81) x82, Ro (eI .i64) 3 1 (.slice a83 x85.length c84) x85, Ro (eI .i64) 3 1 (.slice a86 x88.length c87) x88]) (fun (((x74, x75, x76, x77, x78, x79, x82, x85, x88), (a80, c81, a83, c84, a86, c87)) : ((Bool × Int × Int × Int × Int × Int × List Int × List Int × List Int) × (Option Addr × Nat × Option Addr × Nat × Option Addr × Nat))) => []) (fun (((x74, x75, x76, x77, x78, x79, x82, x85, x88), _) : ((Bool × Int × Int × Int × Int × Int × List Int × List Int × List Int) × (Option Addr × Nat × Option Addr × Nat × Option Addr × Nat))) => yJ F x12 x74 x75 x76 x77 x78 x79 x82 x85 x88) ?_ ?_)))))
 refine qp (os := _) rfl (yA (fun h63 => ?_) (fun h63 => ?_))
 refine qR (k := 23) rfl h63 (qd rfl rfl rfl (qk (i := 2) rfl rfl tf24 rfl rfl (by simp) rfl rfl (zG Int (eI .u8) 5 1 (zG Int (eI .i64) 3 1 (zG Int (eI .i64) 3 1 (q2 ent55 rfl rfl rfl (fun x90 e90 => qd5 F g13 (x1.length : Int) x4 x5 x6 0 ([] : List Int) none 0 ([] : List Int) none 0 ([] : List Int) none 0 x1 a2 c3 x90 e90) (.cons 0 rfl .nil) (.cons 2 rfl (.cons 0 rfl (.cons 0 rfl .nil))) (.consF 0 rfl .nil) (fun x90 e90 => ?_)))))))
 rintro ⟨⟨a91, c92⟩, ⟨a93, c94⟩, ⟨a95, c96⟩⟩
 exact kn rfl rfl rfl (qw (b := true) rfl rfl rfl rfl (qc (qn (((!x90.1), x90.2.1, x90.2.2.1, x90.2.2.2.1, x90.2.2.2.2.1, x90.2.2.2.2.2.1, x90.2.2.2.2.2.2.1, x90.2.2.2.2.2.2.2.1, x90.2.2.2.2.2.2.2.2), (a91, c92, a93, c94, a95, c96)) (hB := (.cons 0 rfl .nil)) (hR := (.cons 0 rfl (.cons 0 rfl (.cons 0 rfl .nil)))))))
 exact qQ (k := 23) rfl h63 (qi rfl rfl rfl (qi rfl rfl rfl (qi rfl rfl rfl (qi rfl rfl rfl (qw (b := false) rfl rfl rfl rfl (qc (q5 Int (eI .u8) 5 1 (q5 Int (eI .i64) 3 1 (q5 Int (eI .i64) 3 1 (qn ((false, (x1.length : Int), x4, x5, x6, 0, ([] : List Int), ([] : List Int), ([] : List Int)), (none, 0, none, 0, none, 0)) (hB := (.cons 0 rfl .nil)) (hR := (.cons 2 rfl (.cons 0 rfl (.cons 0 rfl .nil))))))))))))))
 rintro ⟨⟨x74, x75, x76, x77, x78, x79, x82, x85, x88⟩, ⟨a80, c81, a83, c84, a86, c87⟩⟩
 try dsimp only
 refine qp (os := _) rfl (qc (qe (qC rfl (fun h89 => ?_) (fun h89 => ?_))))
 exact qa (qb rfl rfl rfl (qc (qn ((8, x75, x76, x77, x78, x79, x82, x85, x88), (a80, c81, a83, c84, a86, c87)) (hB := (.cons 0 rfl .nil)) (hR := (.cons 0 rfl (.cons 0 rfl (.cons 0 rfl .nil)))))))
 exact qt (qn ((x12, x75, x76, x77, x78, x79, x82, x85, x88), (a80, c81, a83, c84, a86, c87)) (hB := (.cons 0 rfl .nil)) (hR := (.cons 0 rfl (.cons 0 rfl (.cons 0 rfl .nil)))))
 rintro ⟨⟨x48, x49, x50, x51, x52, x53, x56, x59, x62⟩, ⟨a54, c55, a57, c58, a60, c61⟩⟩
 try dsimp only
 exact qf (qa (qd rfl rfl rfl (qd rfl rfl rfl (qb rfl rfl rfl (qb rfl rfl rfl (qc (qe (qv (zz ((a54, c55), (a57, c58), (a60, c61), g13) (res2 rfl rfl rfl) (hB := fun h => by subst h; exact (.cons 0 rfl .nil)) (hR := fun h => by subst h; exact (.cons 0 rfl (.cons 0 rfl (.cons 0 rfl .nil)))))))))))))
theorem qaE (F : Nat) (x1 : List (List Int)) (a2 : Option Addr) (c3 : (Nat × List (Option Addr × Nat))) (x4 : Int) (x5 : Int) (x6 : Int) (r : (Int × Int × Int × Int × Int × List Int × Int)) (hm : vn F x1 x4 x5 x6 = some r) :
    Pure Tryz.prog 9 [.agg #[.slice a2 x1.length c3.1], .agg #[.int .i64 x4, .int .i64 x5, .int .i64 x6]] [SlN eN37 iN37 1 (.slice a2 x1.length c3.1) x1 c3.2] (Option Addr × Nat) (fun g => .tuple #[.agg #[.int .i64 r.1, .int .i64 r.2.1, .int .i64 r.2.2.1, .int .i64 r.2.2.2.1, .int .i64 r.2.2.2.2.1, .slice g.1 r.2.2.2.2.2.1.length g.2], .int .i64 r.2.2.2.2.2.2]) (fun g => [Ro (eI .u8) 5 1 (.slice g.1 r.2.2.2.2.2.1.length g.2) r.2.2.2.2.2.1]) (fun _ => []) := by
 refine qT Tryz.func9 rfl Tryz.ntmps9 rfl hm (fun w => qG (l' := [(0, .agg #[.slice a2 x1.length c3.1]), (1, .agg #[.int .i64 x4, .int .i64 x5, .int .i64 x6])]) rfl (qf (qa (qW rfl rfl rfl (fun g7 => qW rfl rfl rfl (fun g8 => qM rfl tf31 rfl (fun g9 => qb rfl rfl rfl (qc (qe (qf (qa (qk (i := 2) rfl rfl tf24 rfl rfl (by simp) rfl rfl ?_))))))))))))
 refine qk (i := 1) rfl rfl tf26 rfl rfl (by simp) rfl rfl (q2 ent28 rfl rfl rfl (fun x10 e10 => qdS F x1 a2 c3 x4 x5 x6 x10 e10) .nil .nil (.consF 0 rfl .nil) (fun x10 e10 => ?_))
 rintro ⟨⟨a11, c12⟩, ⟨a13, c14⟩, ⟨a15, c16⟩, g17⟩
 refine qd rfl rfl rfl (qr rfl rfl rfl rfl (qr rfl rfl rfl rfl (qb rfl rfl rfl (qb rfl rfl rfl (qc (qe (qf (qf (qa (qd rfl rfl rfl (zN rfl rfl rfl rfl (qc ?_))))))))))))
 refine qe (qC rfl (fun h19 => ?_) (fun h19 => ?_))
 exact qf (qa (q6 (cells := [.int .i64 0, .int .i64 0, .int .i64 0, .int .i64 0, .int .i64 0, .slice none 0 0]) rfl st31 rfl (by kernel_rfl) rfl (qd rfl rfl rfl (qu (i := 1) rfl rfl rfl tf31 rfl rfl rfl rfl rfl (qb rfl rfl rfl (qc (qe (qv (qq (q5 Int (eI .u8) 5 1 (qs (none, 0) (resL (rs := [.cell 4 31, .tmp 5]) rfl (.cell (i := 1) rfl tf31 rfl rfl (by simp) rfl (.tmp rfl ResOk.nil)) rfl) (fun h => by subst h; exact (.cons 0 rfl .nil)))))))))))))
 refine qt (qe (qf (qa (qd rfl rfl rfl (qS rfl rfl rfl (qj rfl rfl qe2 rfl (qk (i := 0) rfl rfl tf31 rfl rfl (by simp) rfl rfl (qu (i := 1) rfl rfl rfl tf31 rfl rfl rfl rfl rfl (qb rfl rfl rfl (qc (qe (qv ?_))))))))))))
 exact qs (a11, c12) (resL (rs := [.cell 4 31, .tmp 5]) rfl (.cell (i := 1) rfl tf31 rfl rfl (by simp) rfl (.tmp rfl ResOk.nil)) rfl) (fun h => by subst h; exact (.cons 0 rfl .nil))
theorem qfn (F : Nat) (x1 : List (List Int)) (a2 : Option Addr) (c3 : (Nat × List (Option Addr × Nat))) (x4 : Int) (x5 : Int) (x6 : Int) (r : (List Int × List Int × Int)) (hm : qbA F x1 x4 x5 x6 = some r) :
    Pure Tryz.prog 11 [.agg #[.slice a2 x1.length c3.1], .agg #[.int .i64 x4, .int .i64 x5, .int .i64 x6]] [SlN eN37 iN37 1 (.slice a2 x1.length c3.1) x1 c3.2] ((Option Addr × Nat) × (Option Addr × Nat)) (fun g => .tuple #[.slice g.1.1 r.1.length g.1.2, .slice g.2.1 r.2.1.length g.2.2, .int .i64 r.2.2]) (fun g => [Ro (eI .i64) 3 1 (.slice g.1.1 r.1.length g.1.2) r.1, Ro (eI .i64) 3 1 (.slice g.2.1 r.2.1.length g.2.2) r.2.1]) (fun _ => []) := by
 refine qT Tryz.func11 rfl Tryz.ntmps11 rfl hm (fun w => qG (l' := [(0, .agg #[.slice a2 x1.length c3.1]), (1, .agg #[.int .i64 x4, .int .i64 x5, .int .i64 x6])]) rfl (qf (qa (qW rfl rfl rfl (fun g7 => qW rfl rfl rfl (fun g8 => qb rfl rfl rfl (qb rfl rfl rfl (qb rfl rfl rfl (qc (qe (qf (qa ?_))))))))))))
 refine qk (i := 1) rfl rfl tf24 rfl rfl (by simp) rfl rfl (qk (i := 0) rfl rfl tf26 rfl rfl (by simp) rfl rfl (q2 ent28 rfl rfl rfl (fun x9 e9 => qdS F x1 a2 c3 x4 x5 x6 x9 e9) .nil .nil (.consF 0 rfl .nil) (fun x9 e9 => ?_)))
 rintro ⟨⟨a10, c11⟩, ⟨a12, c13⟩, ⟨a14, c15⟩, g16⟩
 refine qd rfl rfl rfl (qr rfl rfl rfl rfl (qr rfl rfl rfl rfl (qb rfl rfl rfl (qb rfl rfl rfl (qc (qe (qf (qf (qa (qd rfl rfl rfl (zN rfl rfl rfl rfl (qc ?_))))))))))))
 refine qe (qC rfl (fun h18 => ?_) (fun h18 => ?_))
 exact qf (qa (qd rfl rfl rfl (qb rfl rfl rfl (qb rfl rfl rfl (qb rfl rfl rfl (qc (qe (qv (qq (q5 Int (eI .i64) 3 1 (q5 Int (eI .i64) 3 1 (qs ((none, 0), (none, 0)) (res3 rfl rfl rfl rfl) (fun h => by subst h; exact (.cons 0 rfl (.cons 0 rfl .nil)))))))))))))))
 refine qt (qe (qf (zm mixed [] [⟨g16, 66, [.int .i64 x9.1, .int .i64 x9.2.1, .int .i64 x9.2.2.1, .int .i64 x9.2.2.2.1, .int .i64 x9.2.2.2.2.1, .slice a10 x9.2.2.2.2.2.1.length c11, .slice a12 x9.2.2.2.2.2.2.1.length c13, .slice a14 x9.2.2.2.2.2.2.2.1.length c15]⟩, ⟨g8, 26, [.int .i64 x4, .int .i64 x5, .int .i64 x6]⟩, ⟨g7, 24, [.slice a2 x1.length c3.1]⟩] [SlN eN37 iN37 1 (.slice a2 x1.length c3.1) x1 c3.2] (.cons 0 rfl (.cons 0 rfl (.cons 0 rfl .nil))) (q7 0 rfl qI) 11 rfl (qg 0 (.pointer (some ⟨g16, 0, none⟩)) rfl rfl rfl (qm rfl) (qg 1 (.pointer (some ⟨g16, 0, none⟩)) rfl rfl rfl (qm rfl) (qg 2 (.pointer (some ⟨g16, 6, none⟩)) rfl rfl rfl (qz rfl qfY) (qX 3 (.slice a12 x9.2.2.2.2.2.2.1.length c13) rfl rfl rfl (qY (i := 0) rfl tf37 rfl rfl (fun _ => rfl) rfl) (qg 4 (.pointer (some ⟨g16, 0, none⟩)) rfl rfl rfl (qm rfl) (qg 5 (.pointer (some ⟨g16, 0, none⟩)) rfl rfl rfl (qm rfl) (qg 6 (.pointer (some ⟨g16, 7, none⟩)) rfl rfl rfl (qz rfl qfZ) (qX 7 (.slice a14 x9.2.2.2.2.2.2.2.1.length c15) rfl rfl rfl (qY (i := 0) rfl tf37 rfl rfl (fun _ => rfl) rfl) (qg 8 (.slice a12 x9.2.2.2.2.2.2.1.length c13) rfl rfl rfl (qm rfl) ?_))))))))))))
 exact qg 9 (.slice a14 x9.2.2.2.2.2.2.2.1.length c15) rfl rfl rfl (qm rfl) (qg 10 (.int .i64 0) rfl rfl rfl (qm rfl) (qV (by kernel_rfl) (zw (qe (qv (qs ((a12, c13), (a14, c15)) (res3 rfl rfl rfl rfl) (fun h => by subst h; exact (.cons 1 rfl (.cons 1 rfl .nil)))))) (by intro c h; cases h))))
theorem vg (F : Nat) (x1 : Int) (x2 : List Int) (a3 : Option Addr) (c4 : Nat) (r : Int) (hm : kJ F x1 x2 = some r) :
    Pure Tryz.prog 46 [.agg #[.int .i64 x1, .slice a3 x2.length c4]] [Sl (eI .u8) 1 (.slice a3 x2.length c4) x2] Unit (fun _ => .int .i64 r) (fun _ => []) (fun _ => []) := by
  refine qT Tryz.func46 rfl Tryz.ntmps46 rfl hm (fun w => ?_)
  refine qG (l' := [(0, .agg #[.int .i64 x1, .slice a3 x2.length c4])]) rfl ?_
  refine qf ?_
  refine qa ?_
  refine qW rfl rfl rfl (fun g5 => ?_)
  refine qb rfl rfl rfl ?_
  refine qc ?_
  refine qe ?_
  refine qf ?_
  refine qD ?_
  refine qf ?_
  refine qa ?_
  refine qj rfl rfl zX rfl ?_
  refine qk (i := 0) rfl rfl tf3 rfl rfl (fun _ => rfl) rfl rfl ?_
  refine qZ rfl rfl rfl rfl ?_
  refine qd rfl rfl rfl ?_
  refine q8 4 (decide (x1 < 0)) [(1, .pointer (some ⟨g5, 0, none⟩)), (11, .bool ((decide (x1 < 0)) || (decide (8192 < x1))))] (fun h27 => ?_) (fun h27 => ?_) ?_
  · refine qp (os := _) rfl ?_
    refine qR (k := 7) rfl h27 ?_
    refine qi rfl rfl rfl ?_
    refine qi rfl rfl rfl ?_
    refine qi rfl rfl rfl ?_
    refine qw (b := true) rfl rfl rfl rfl ?_
    refine qx (d := 11) (v := .bool ((decide (x1 < 0)) || (decide (8192 < x1)))) rfl (by rw [h27]; simp only [Bool.true_or]) ?_
    refine qc ?_
    exact qE (qh rfl (qh rfl qO))
  · refine qp (os := _) rfl ?_
    refine qQ (k := 7) rfl h27 ?_
    refine qj rfl rfl zX rfl ?_
    refine qk (i := 0) rfl rfl tf3 rfl rfl (fun _ => rfl) rfl rfl ?_
    refine zr rfl rfl rfl rfl ?_
    refine qw (b := false) rfl rfl rfl rfl ?_
    refine qx (d := 11) (v := .bool ((decide (x1 < 0)) || (decide (8192 < x1)))) rfl (by rw [h27]; simp only [Bool.false_or]) ?_
    refine qc ?_
    exact qE (qh rfl (qh rfl qO))
  refine qp (os := _) rfl ?_
  refine qb rfl rfl rfl ?_
  refine qc ?_
  refine qe ?_
  refine qC rfl (fun h47 => ?_) (fun h47 => ?_)
  · refine qf ?_
    refine qa ?_
    refine qb rfl rfl rfl ?_
    refine qc ?_
    refine qe ?_
    refine qv ?_
    refine qP ?_
    refine qq ?_
    exact qs () (res1 rfl rfl)
  · refine qf ?_
    refine qa ?_
    refine qj rfl rfl qbK rfl ?_
    refine qk (i := 0) rfl rfl tf27 rfl rfl (fun _ => rfl) rfl rfl ?_
    refine q3 rfl Tryz.underlying27 rfl rfl ?_
    refine qj rfl rfl zX rfl ?_
    refine qk (i := 0) rfl rfl tf3 rfl rfl (fun _ => rfl) rfl rfl ?_
    refine qN rfl rfl rfl rfl ?_
    refine qeQ rfl rfl rfl rfl rfl ?_
    refine zN rfl rfl rfl rfl ?_
    refine qb rfl rfl rfl ?_
    refine qc ?_
    refine qe ?_
    refine qC rfl (fun h46 => ?_) (fun h46 => ?_)
    · refine qf ?_
      refine qa ?_
      refine qb rfl rfl rfl ?_
      refine qc ?_
      refine qe ?_
      refine qv ?_
      refine qP ?_
      refine qq ?_
      exact qs () (res1 rfl rfl)
    · refine qH (fun ((x36, _) : (Bool × Unit)) => [(21, .bool x36)]) (fun ((x36, _) : (Bool × Unit)) => []) (fun ((x36, _) : (Bool × Unit)) => []) (fun ((x36, _) : (Bool × Unit)) => []) (fun ((x36, _) : (Bool × Unit)) => jc F x36) ?_ ?_
      · refine qaz (fun h38 => ?_) (fun h38 => ?_)
        · refine qai (j := 0) (zd .u8) (by decide) rfl (fun x39 e39 b40 o41 h42 => ?_)
          replace h42 : a3 = some ⟨b40, o41, none⟩ := h42
          refine qdK (fun h43 => ?_)
          refine zm mixed [] [⟨g5, 29, [.int .i64 x1, .slice a3 x2.length c4]⟩] [zH b40 (o41 + (isub .i64 (x2.length : Int) 1).toNat * 1) ((eI .u8) x39), Sl (eI .u8) 1 (.slice a3 x2.length c4) x2] (.cons 0 rfl .nil) (q7 0 rfl (q7 1 rfl qI)) 20 rfl ?_
          refine qg 0 (.pointer (some ⟨g5, 0, none⟩)) rfl rfl rfl (qz rfl zX) ?_
          refine qX 1 (.int .i64 x1) rfl rfl rfl (qY (i := 0) rfl tf3 rfl rfl (fun _ => rfl) rfl) ?_
          refine qg 2 (.int .i64 (irem x1 8)) rfl rfl rfl (qh4 rfl rfl rfl) ?_
          refine qg 3 (.bool (((irem x1 8) : Int) != 0)) rfl rfl rfl (qm rfl) ?_
          refine qg 4 (.bool (((irem x1 8) : Int) != 0)) rfl rfl rfl (qm rfl) ?_
          refine qJ (d := 26) (v := .bool true) rfl (by rw [h38] <;> rfl) ?_
          refine qg 5 (.pointer (some ⟨g5, 1, none⟩)) rfl rfl rfl (qz rfl qbK) ?_
          refine qX 6 (.slice a3 x2.length c4) rfl rfl rfl (qY (i := 0) rfl tf27 rfl rfl (fun _ => rfl) rfl) ?_
          refine qg 7 (.pointer (some ⟨g5, 1, none⟩)) rfl rfl rfl (qz rfl qbK) ?_
          refine qX 8 (.slice a3 x2.length c4) rfl rfl rfl (qY (i := 0) rfl tf27 rfl rfl (fun _ => rfl) rfl) ?_
          refine qg 9 (.int .i64 (x2.length : Int)) rfl rfl rfl (qfi Tryz.underlying27 rfl) ?_
          refine qg 10 (.int .i64 (isub .i64 (x2.length : Int) 1)) rfl rfl rfl (qm rfl) ?_
          refine qJ (d := 28) (v := .slice (some ⟨b40, o41, none⟩) x2.length c4) rfl (by rw [h42] <;> rfl) ?_
          refine qg 11 (.pointer (some ⟨b40, (o41 + (isub .i64 (x2.length : Int) 1).toNat * 1), none⟩)) rfl rfl rfl (qbc Tryz.underlying27 tf5 rfl rfl (ke e39).1 (qaU e39)) ?_
          refine qJ (d := 28) (v := .slice a3 x2.length c4) rfl (by rw [h42] <;> rfl) ?_
          refine km 12 (.int .u8 x39) [] rfl rfl rfl (vK (j := 0) rfl tf5 rfl rfl (fun _ => rfl) rfl) ?_
          refine qg 13 (.pointer (some ⟨g5, 0, none⟩)) rfl rfl rfl (qz rfl zX) ?_
          refine qX 14 (.int .i64 x1) rfl rfl rfl (qY (i := 0) rfl tf3 rfl rfl (fun _ => rfl) rfl) ?_
          refine qg 15 (.int .i64 (irem x1 8)) rfl rfl rfl (qh4 rfl rfl rfl) ?_
          refine qg 16 (.int .u8 (ishl .u8 x39 (irem x1 8))) rfl rfl rfl (qfj rfl rfl h43) ?_
          refine qg 17 (.bool (((ishl .u8 x39 (irem x1 8)) : Int) != 0)) rfl rfl rfl (qm rfl) ?_
          refine qg 18 (.bool (((ishl .u8 x39 (irem x1 8)) : Int) != 0)) rfl rfl rfl (qm rfl) ?_
          refine qg 19 (.bool (((ishl .u8 x39 (irem x1 8)) : Int) != 0)) rfl rfl rfl (qm rfl) ?_
          refine qV (by kernel_rfl) ?_
          refine zw ?_ (by intro c h; cases h)
          exact qn ((((ishl .u8 x39 (irem x1 8)) : Int) != 0), ())
        · refine zm mixed [] [⟨g5, 29, [.int .i64 x1, .slice a3 x2.length c4]⟩] [Sl (eI .u8) 1 (.slice a3 x2.length c4) x2] (.cons 0 rfl .nil) (q7 0 rfl qI) 20 rfl ?_
          refine qg 0 (.pointer (some ⟨g5, 0, none⟩)) rfl rfl rfl (qz rfl zX) ?_
          refine qX 1 (.int .i64 x1) rfl rfl rfl (qY (i := 0) rfl tf3 rfl rfl (fun _ => rfl) rfl) ?_
          refine qg 2 (.int .i64 (irem x1 8)) rfl rfl rfl (qh4 rfl rfl rfl) ?_
          refine qg 3 (.bool (((irem x1 8) : Int) != 0)) rfl rfl rfl (qm rfl) ?_
          refine qg 4 (.bool (((irem x1 8) : Int) != 0)) rfl rfl rfl (qm rfl) ?_
          refine qJ (d := 26) (v := .bool false) rfl (by rw [h38] <;> rfl) ?_
          refine ql 5 rfl rfl rfl ?_
          refine ql 6 rfl rfl rfl ?_
          refine ql 7 rfl rfl rfl ?_
          refine ql 8 rfl rfl rfl ?_
          refine ql 9 rfl rfl rfl ?_
          refine ql 10 rfl rfl rfl ?_
          refine ql 11 rfl rfl rfl ?_
          refine ql 12 rfl rfl rfl ?_
          refine ql 13 rfl rfl rfl ?_
          refine ql 14 rfl rfl rfl ?_
          refine ql 15 rfl rfl rfl ?_
          refine ql 16 rfl rfl rfl ?_
          refine ql 17 rfl rfl rfl ?_
          refine qg 18 (.bool false) rfl rfl rfl (qm rfl) ?_
          refine qg 19 (.bool false) rfl rfl rfl (qm rfl) ?_
          refine qV (by kernel_rfl) ?_
          refine zw ?_ (by intro c h; cases h)
          exact qn (false, ())
      · rintro ⟨x36, _⟩
        try dsimp only
        refine qC rfl (fun h37 => ?_) (fun h37 => ?_)
        · refine qf ?_
          refine qa ?_
          refine qb rfl rfl rfl ?_
          refine qc ?_
          refine qe ?_
          refine qv ?_
          refine qP ?_
          refine qq ?_
          exact qs () (res1 rfl rfl)
        · refine qt ?_
          refine qU ?_
          refine qe ?_
          refine qf ?_
          refine qa ?_
          refine qb rfl rfl rfl ?_
          refine qc ?_
          refine qe ?_
          refine qv ?_
          exact qs () (res1 rfl rfl)
theorem qho (F : Nat) (x1 : Int) (x2 : Int) (x3 : Int) (x4 : Int) (x5 : Int) (x6 : List Int) (a7 : Option Addr) (c8 : Nat) (r : Int) (hm : qbN F x1 x2 x3 x4 x5 x6 = some r) :
    Pure Tryz.prog 29 [.agg #[.int .i64 x1, .int .i64 x2, .int .i64 x3, .int .i64 x4, .int .i64 x5, .slice a7 x6.length c8]] [Sl (eI .u8) 1 (.slice a7 x6.length c8) x6] Unit (fun _ => .int .i64 r) (fun _ => []) (fun _ => []) := by
 refine qT Tryz.func29 rfl Tryz.ntmps29 rfl hm (fun w => qG (l' := [(0, .agg #[.int .i64 x1, .int .i64 x2, .int .i64 x3, .int .i64 x4, .int .i64 x5, .slice a7 x6.length c8])]) rfl (qf (qa (qW rfl rfl rfl (fun g9 => qb rfl rfl rfl (qc (qe (qf (qf (qa (qj rfl rfl qe1 rfl (qk (i := 0) rfl rfl tf3 rfl rfl (fun _ => rfl) rfl rfl ?_))))))))))))
 refine qZ rfl rfl rfl rfl (qd rfl rfl rfl (q8 4 (decide (x1 < 0)) [(1, .pointer (some ⟨g9, 0, none⟩)), (11, .bool ((decide (x1 < 0)) || (decide (100 < x1))))] (fun h12 => ?_) (fun h12 => ?_) ?_))
 exact qp (os := _) rfl (qR (k := 7) rfl h12 (qi rfl rfl rfl (qi rfl rfl rfl (qi rfl rfl rfl (qw (b := true) rfl rfl rfl rfl (qx (d := 11) (v := .bool ((decide (x1 < 0)) || (decide (100 < x1)))) rfl (by rw [h12]; simp only [Bool.true_or]) (qc (qE (qh rfl (qh rfl qO))))))))))
 exact qp (os := _) rfl (qQ (k := 7) rfl h12 (qj rfl rfl qe1 rfl (qk (i := 0) rfl rfl tf3 rfl rfl (fun _ => rfl) rfl rfl (zr rfl rfl rfl rfl (qw (b := false) rfl rfl rfl rfl (qx (d := 11) (v := .bool ((decide (x1 < 0)) || (decide (100 < x1)))) rfl (by rw [h12]; simp only [Bool.false_or]) (qc (qE (qh rfl (qh rfl qO))))))))))
 refine qp (os := _) rfl (qc (qe (qC rfl (fun h18 => ?_) (fun h18 => ?_))))
 exact qf (qa (qb rfl rfl rfl (qc (qe (qv (qq (qs () (res1 rfl rfl))))))))
 refine qt (qe (qf (qf (qa (qj rfl rfl qc1 rfl (qk (i := 0) rfl rfl tf26 rfl rfl (by simp) rfl rfl (qy ent43 rfl rfl rfl (fun x15 e15 => qaF F x2 x3 x4 x15 e15) .nil (fun x15 e15 => ?_))))))))
 intro _
 refine qb rfl rfl rfl (qc (qe (qf (qa (qd rfl rfl rfl (zN rfl rfl rfl rfl (qc (qe (qC rfl (fun h17 => ?_) (fun h17 => ?_))))))))))
 exact qf (qa (qd rfl rfl rfl (qb rfl rfl rfl (qc (qe (qv (qq (qs () (res1 rfl rfl)))))))))
 refine qt (qe (qf (qa (qj rfl rfl qbL rfl (qk (i := 0) rfl rfl tf29 rfl rfl (by simp) rfl rfl (qy ent46 rfl rfl rfl (fun x16 e16 => vg F x5 x6 a7 c8 x16 e16) (.consF 0 rfl .nil) (fun x16 e16 => ?_)))))))
 intro _
 exact qb rfl rfl rfl (qc (qe (qv (qs () (res1 rfl rfl)))))
theorem qet (F : Nat) (x1 : Int) (x2 : List Int) (a3 : Option Addr) (c4 : Nat) (x5 : Int) (r : (Int × Int × Bool)) (hm : qaR F x1 x2 x5 = some r) :
    Pure Tryz.prog 120 [.agg #[.int .i64 x1, .slice a3 x2.length c4], .int .i64 x5] [Sl (eI .u8) 1 (.slice a3 x2.length c4) x2] Unit (fun _ => .tuple #[.int .u64 r.1, .int .i64 r.2.1, .bool r.2.2]) (fun _ => []) (fun _ => []) := by
 refine qT Tryz.func120 rfl Tryz.ntmps120 rfl hm (fun w => qG (l' := [(0, .agg #[.int .i64 x1, .slice a3 x2.length c4]), (1, .int .i64 x5)]) rfl (qf (qa (qW rfl rfl rfl (fun g6 => qb rfl rfl rfl (qb rfl rfl rfl (qb rfl rfl rfl (qc (qe (qH (fun ((_, _) : (Unit × Unit)) => []) (fun ((_, _) : (Unit × Unit)) => []) (fun ((_, _) : (Unit × Unit)) => []) (fun ((_, _) : (Unit × Unit)) => []) (fun ((_, _) : (Unit × Unit)) => qdl F) ?_ ?_))))))))))
 refine qf (qa (qd rfl rfl rfl (qb rfl rfl rfl (qc (qe (qD (zi (fun ((x33, _) : (Int × Unit)) => [(1, .int .i64 x5), (2, .pointer (some ⟨g6, 0, none⟩)), (7, .int .i64 x33)]) (fun ((x33, _) : (Int × Unit)) => [⟨g6, 29, [.int .i64 x1, .slice a3 x2.length c4]⟩]) (fun ((x33, _) : (Int × Unit)) => []) (fun ((x33, _) : (Int × Unit)) => [Sl (eI .u8) 1 (.slice a3 x2.length c4) x2]) (fun k (s : (Int × Unit)) => vb F x1 x2 x5 k s.1) (x5, ()) F ?_ (hB := (.cons 0 rfl .nil)) (hF := (qo 0 rfl qA)))))))))
 intro k40
 rintro ⟨x33, _⟩
 try dsimp only
 refine zF (m' := qat F x1 x2 x5 (vb F x1 x2 x5 k40) x33) rfl (qf (qf (qa (qd rfl rfl rfl (qj rfl rfl zX rfl (qk (i := 0) rfl rfl tf3 rfl rfl (fun _ => rfl) rfl rfl (qZ rfl rfl rfl rfl (qc (qe (qC rfl (fun h46 => ?_) (fun h46 => ?_)))))))))))
 refine qt (qe (qf (qD (qf (qa (qk (i := 0) rfl rfl tf29 rfl rfl (by simp) rfl rfl (qd rfl rfl rfl (qy ent79 rfl rfl rfl (fun x44 e44 => qcK F x1 x2 a3 c4 x33 x44 e44) (.consF 0 rfl .nil) (fun x44 e44 => ?_)))))))))
 intro _
 refine zj rfl rfl rfl rfl (qc (qe (qC rfl (fun h45 => ?_) (fun h45 => ?_))))
 refine qf (qa (qd rfl rfl rfl (qd rfl rfl rfl (zO rfl rfl rfl rfl (zV rfl Tryz.underlying3 Tryz.underlying50 rfl rfl (qd rfl rfl rfl (qN rfl rfl rfl rfl (qb rfl rfl rfl (qb rfl rfl rfl (qb rfl rfl rfl (qc (qe ?_))))))))))))
 exact qv (qP (qq (qq (qP (qq (qs () (res3 rfl rfl rfl rfl)))))))
 exact qt (qU (qe (qa (qd rfl rfl rfl (qN rfl rfl rfl rfl (qb rfl rfl rfl (qc (q4 (iadd .i64 x33 1, ()) (hB := (.cons 0 rfl .nil)) (hF := (qo 0 rfl qA))))))))))
 exact zn (qF (qF (zo (qn ((), ())))))
 rintro ⟨_, _⟩
 try dsimp only
 exact qf (qa (qb rfl rfl rfl (qb rfl rfl rfl (qb rfl rfl rfl (qc (qe (qv (qs () (res3 rfl rfl rfl rfl)))))))))
theorem qdQ (F : Nat) (x1 : Int) (x2 : List Int) (a3 : Option Addr) (c4 : Nat) (x5 : Int) (r : (Int × Int × Int)) (hm : qaa F x1 x2 x5 = some r) :
    Pure Tryz.prog 104 [.agg #[.int .i64 x1, .slice a3 x2.length c4], .int .i64 x5] [Sl (eI .u8) 1 (.slice a3 x2.length c4) x2] Unit (fun _ => .tuple #[.int .u64 r.1, .int .i64 r.2.1, .int .i64 r.2.2]) (fun _ => []) (fun _ => []) := by
 refine qT Tryz.func104 rfl Tryz.ntmps104 rfl hm (fun w => qG (l' := [(0, .agg #[.int .i64 x1, .slice a3 x2.length c4]), (1, .int .i64 x5)]) rfl (qf (qa (qW rfl rfl rfl (fun g6 => qb rfl rfl rfl (qb rfl rfl rfl (qb rfl rfl rfl (qc (qe (qf (qa (qk (i := 0) rfl rfl tf29 rfl rfl (by simp) rfl rfl ?_))))))))))))
 refine qd rfl rfl rfl (qy ent120 rfl rfl rfl (fun x7 e7 => qet F x1 x2 a3 c4 x5 x7 e7) (.consF 0 rfl .nil) (fun x7 e7 => ?_))
 intro _
 refine qd rfl rfl rfl (qr rfl rfl rfl rfl (qr rfl rfl rfl rfl (qr rfl rfl rfl rfl (qb rfl rfl rfl (qb rfl rfl rfl (qb rfl rfl rfl (qc (qe (qf (qf (qa (qd rfl rfl rfl ?_))))))))))))
 refine kn rfl rfl rfl (qc (qe (qC rfl (fun h9 => ?_) (fun h9 => ?_))))
 exact qf (qa (qb rfl rfl rfl (qb rfl rfl rfl (qb rfl rfl rfl (qc (qe (qv (qq (qs () (res3 rfl rfl rfl rfl))))))))))
 exact qt (qe (qf (qa (qd rfl rfl rfl (qd rfl rfl rfl (qb rfl rfl rfl (qb rfl rfl rfl (qb rfl rfl rfl (qc (qe (qv (qs () (res3 rfl rfl rfl rfl)))))))))))))
theorem qcg (F : Nat) (x1 : Int) (x2 : List Int) (a3 : Option Addr) (c4 : Nat) (x5 : Int) (x6 : Int) (r : (Int × Bool)) (hm : vj F x1 x2 x5 x6 = some r) :
    Pure Tryz.prog 68 [.agg #[.int .i64 x1, .slice a3 x2.length c4], .int .i64 x5, .int .i64 x6] [Sl (eI .u8) 1 (.slice a3 x2.length c4) x2] Unit (fun _ => .tuple #[.int .u64 r.1, .bool r.2]) (fun _ => []) (fun _ => []) := by
 refine qT Tryz.func68 rfl Tryz.ntmps68 rfl hm (fun w => qG (l' := [(0, .agg #[.int .i64 x1, .slice a3 x2.length c4]), (1, .int .i64 x5), (2, .int .i64 x6)]) rfl (qf (qa (qW rfl rfl rfl (fun g7 => qb rfl rfl rfl (qb rfl rfl rfl (qc (qe (qf (qf (qa (qj rfl rfl zX rfl ?_))))))))))))
 refine qk (i := 0) rfl rfl tf3 rfl rfl (fun _ => rfl) rfl rfl (qd rfl rfl rfl (zO rfl rfl rfl rfl (qd rfl rfl rfl (qZ rfl rfl rfl rfl (qc (qe (qC rfl (fun h40 => ?_) (fun h40 => ?_))))))))
 exact qf (qa (qb rfl rfl rfl (qb rfl rfl rfl (qc (qe (qv (qq (qs () (res2 rfl rfl rfl)))))))))
 refine qt (qe (qH (fun ((x24, _) : (Int × Unit)) => [(6, .int .u64 x24)]) (fun ((x24, _) : (Int × Unit)) => []) (fun ((x24, _) : (Int × Unit)) => []) (fun ((x24, _) : (Int × Unit)) => []) (fun ((x24, _) : (Int × Unit)) => qb0 F x24) ?_ ?_))
 refine qf (qa (qd rfl rfl rfl (qd rfl rfl rfl (qc (qe (qD (zi (fun (((x29, x30), _) : ((Int × Int) × Unit)) => [(1, .int .i64 x5), (3, .pointer (some ⟨g7, 0, none⟩)), (6, .int .u64 x29), (15, .int .i64 x6), (16, .int .i64 x30)]) (fun (((x29, x30), _) : ((Int × Int) × Unit)) => [⟨g7, 29, [.int .i64 x1, .slice a3 x2.length c4]⟩]) (fun (((x29, x30), _) : ((Int × Int) × Unit)) => []) (fun (((x29, x30), _) : ((Int × Int) × Unit)) => [Sl (eI .u8) 1 (.slice a3 x2.length c4) x2]) (fun k (s : ((Int × Int) × Unit)) => vB F x1 x2 x5 x6 k s.1) ((0, 0), ()) F ?_ (hB := (.cons 0 rfl .nil)) (hF := (qo 0 rfl qA)))))))))
 intro k35
 rintro ⟨⟨x29, x30⟩, _⟩
 try dsimp only
 refine zF (m' := qaH F x1 x2 x5 x6 (vB F x1 x2 x5 x6 k35) x29 x30) rfl (qf (qa (qZ rfl rfl rfl rfl (qc (qe (qf (qC rfl (fun h39 => ?_) (fun h39 => ?_))))))))
 refine qt (qe (qf (qD (qf (qa (qd rfl rfl rfl (qb rfl rfl rfl (qc (qe (qa (qd rfl rfl rfl (qeR rfl rfl rfl rfl rfl ?_))))))))))))
 refine qk (i := 0) rfl rfl tf29 rfl rfl (by simp) rfl rfl (qd rfl rfl rfl (qd rfl rfl rfl (qN rfl rfl rfl rfl (qy ent79 rfl rfl rfl (fun x38 e38 => qcK F x1 x2 a3 c4 (iadd .i64 x5 x30) x38 e38) (.consF 0 rfl .nil) (fun x38 e38 => ?_)))))
 intro _
 exact qoj rfl rfl rfl rfl (qb rfl rfl rfl (qc (qU (qe (qa (qN rfl rfl rfl rfl (qd rfl rfl rfl (qc (q4 ((ior .u64 (ishl .u64 x29 1) x38, iadd .i64 x30 1), ()) (hB := (.cons 0 rfl .nil)) (hF := (qo 0 rfl qA)))))))))))
 exact zn (qF (qF (zo (qn (x29, ())))))
 rintro ⟨x24, _⟩
 try dsimp only
 exact qf (qa (qd rfl rfl rfl (qb rfl rfl rfl (qb rfl rfl rfl (qc (qe (qv (qs () (res2 rfl rfl rfl)))))))))
theorem jN (F : Nat) (x1 : Int) (x2 : List Int) (a3 : Option Addr) (c4 : Nat) (x5 : Int) (r : (Int × Int × Int)) (hm : ko F x1 x2 x5 = some r) :
    Pure Tryz.prog 105 [.func (.func 104) #[] #[], .agg #[.int .i64 x1, .slice a3 x2.length c4], .int .i64 x5] [Sl (eI .u8) 1 (.slice a3 x2.length c4) x2] Unit (fun _ => .tuple #[.int .u64 r.1, .int .i64 r.2.1, .int .i64 r.2.2]) (fun _ => []) (fun _ => []) := by
 refine qT Tryz.func105 rfl Tryz.ntmps105 rfl hm (fun w => qG (l' := [(0, .func (.func 104) #[] #[]), (1, .agg #[.int .i64 x1, .slice a3 x2.length c4]), (2, .int .i64 x5)]) rfl (qf (qa (qW rfl rfl rfl (fun g6 => qb rfl rfl rfl (qb rfl rfl rfl (qb rfl rfl rfl (qc (qe (qf (qa (qd rfl rfl rfl ?_))))))))))))
 refine qk (i := 0) rfl rfl tf29 rfl rfl (by simp) rfl rfl (qd rfl rfl rfl (qk3 ent104 rfl rfl rfl rfl (fun x7 e7 => qdQ F x1 x2 a3 c4 x5 x7 e7) (.consF 0 rfl .nil) (fun x7 e7 => ?_)))
 intro _
 refine qd rfl rfl rfl (qr rfl rfl rfl rfl (qr rfl rfl rfl rfl (qr rfl rfl rfl rfl (qb rfl rfl rfl (qb rfl rfl rfl (qb rfl rfl rfl (qc (qe (qf (qf (qa (qd rfl rfl rfl ?_))))))))))))
 refine zN rfl rfl rfl rfl (qc (qe (qC rfl (fun h20 => ?_) (fun h20 => ?_))))
 exact qf (qa (qd rfl rfl rfl (qb rfl rfl rfl (qb rfl rfl rfl (qb rfl rfl rfl (qc (qe (qv (qq (qs () (res3 rfl rfl rfl rfl)))))))))))
 refine qt (qe (qf (qf (qa (qd rfl rfl rfl (qbv rfl rfl rfl rfl (qc (qe (qC rfl (fun h19 => ?_) (fun h19 => ?_))))))))))
 exact qf (qa (qb rfl rfl rfl (qb rfl rfl rfl (qb rfl rfl rfl (qc (qe (qv (qq (qs () (res3 rfl rfl rfl rfl))))))))))
 refine qt (qe (qf (qa (qk (i := 0) rfl rfl tf29 rfl rfl (by simp) rfl rfl (qd rfl rfl rfl (qd rfl rfl rfl (zV rfl Tryz.underlying50 Tryz.underlying3 rfl rfl (qy ent68 rfl rfl rfl (fun x10 e10 => qcg F x1 x2 a3 c4 x7.2.1 (iconv .i64 x7.1) x10 e10) (.consF 0 rfl .nil) (fun x10 e10 => ?_)))))))))
 intro _
 refine qd rfl rfl rfl (qr rfl rfl rfl rfl (qr rfl rfl rfl rfl (qb rfl rfl rfl (qb rfl rfl rfl (qc (qe (qf (qf (qa (qd rfl rfl rfl (kn rfl rfl rfl (qc ?_))))))))))))
 refine qe (qC rfl (fun h18 => ?_) (fun h18 => ?_))
 exact qf (qa (qb rfl rfl rfl (qb rfl rfl rfl (qb rfl rfl rfl (qc (qe (qv (qq (qs () (res3 rfl rfl rfl rfl))))))))))
 refine qt (qe (qf (qf (qa (qd rfl rfl rfl (qd rfl rfl rfl (qbu (fun h15 => qeR rfl rfl rfl rfl h15 (zO rfl rfl rfl rfl (qN rfl rfl rfl rfl (qb rfl rfl rfl (qaj (fun x16 e16 => ?_)))))))))))))
 refine qx (d := 12) (v := .int .u64 x16) rfl (by rw [e16] <;> rfl) (qc (qe (qf (qa (qd rfl rfl rfl (zr rfl rfl rfl rfl (qc (qe (qC rfl (fun h17 => ?_) (fun h17 => ?_))))))))))
 exact qf (qa (qb rfl rfl rfl (qb rfl rfl rfl (qb rfl rfl rfl (qc (qe (qv (qq (qs () (res3 rfl rfl rfl rfl))))))))))
 refine qt (qe (qf (qa (qd rfl rfl rfl (qd rfl rfl rfl (qd rfl rfl rfl (zV rfl Tryz.underlying50 Tryz.underlying3 rfl rfl (qN rfl rfl rfl rfl (qb rfl rfl rfl (qb rfl rfl rfl (qb rfl rfl rfl (qc ?_))))))))))))
 exact qe (qv (qs () (res3 rfl rfl rfl rfl)))
theorem qch (F : Nat) (x1 : Int) (x2 : List Int) (a3 : Option Addr) (c4 : Nat) (x5 : Int) (r : (Int × Int × Int)) (hm : vl F x1 x2 x5 = some r) :
    Pure Tryz.prog 82 [.agg #[.int .i64 x1, .slice a3 x2.length c4], .int .i64 x5] [Sl (eI .u8) 1 (.slice a3 x2.length c4) x2] Unit (fun _ => .tuple #[.int .u64 r.1, .int .i64 r.2.1, .int .i64 r.2.2]) (fun _ => []) (fun _ => []) := by
 refine qT Tryz.func82 rfl Tryz.ntmps82 rfl hm (fun w => qG (l' := [(0, .agg #[.int .i64 x1, .slice a3 x2.length c4]), (1, .int .i64 x5)]) rfl (qf (qa (qW rfl rfl rfl (fun g6 => qb rfl rfl rfl (qb rfl rfl rfl (qb rfl rfl rfl (qc (qe (qf (qa (qk (i := 0) rfl rfl tf29 rfl rfl (by simp) rfl rfl ?_))))))))))))
 refine qd rfl rfl rfl (qy ent105 rfl rfl rfl (fun x7 e7 => jN F x1 x2 a3 c4 x5 x7 e7) (.consF 0 rfl .nil) (fun x7 e7 => ?_))
 intro _
 exact qr rfl rfl rfl rfl (qr rfl rfl rfl rfl (qr rfl rfl rfl rfl (qb rfl rfl rfl (qb rfl rfl rfl (qb rfl rfl rfl (qc (qe (qv (qs () (res3 rfl rfl rfl rfl))))))))))
theorem qiY (F : Nat) (x1 : Int) (x2 : Int) (x3 : Int) (x4 : Int) (x5 : Int) (x6 : List Int) (a7 : Option Addr) (c8 : Nat) (x9 : Int) (x10 : Int) (r : (Int × Int × Bool)) (hm : qcW F x1 x2 x3 x4 x5 x6 x9 x10 = some r) :
    Pure Tryz.prog 56 [.agg #[.int .i64 x1, .int .i64 x2, .int .i64 x3, .int .i64 x4, .int .i64 x5, .slice a7 x6.length c8], .int .i64 x9, .int .i64 x10] [Sl (eI .u8) 1 (.slice a7 x6.length c8) x6] Unit (fun _ => .tuple #[.int .i64 r.1, .int .i64 r.2.1, .bool r.2.2]) (fun _ => []) (fun _ => []) := by
 refine qT Tryz.func56 rfl Tryz.ntmps56 rfl hm (fun w => qG (l' := [(0, .agg #[.int .i64 x1, .int .i64 x2, .int .i64 x3, .int .i64 x4, .int .i64 x5, .slice a7 x6.length c8]), (1, .int .i64 x9), (2, .int .i64 x10)]) rfl (qf (qa (qW rfl rfl rfl (fun g11 => qb rfl rfl rfl (qb rfl rfl rfl (qb rfl rfl rfl (qc (qe (qf (qf (qa ?_))))))))))))
 refine qj rfl rfl qc1 rfl (qj rfl rfl qa7 rfl (qk (i := 0) rfl rfl tf3 rfl rfl (fun _ => rfl) rfl rfl (zj rfl rfl rfl rfl (qc (qe (qC rfl (fun h20 => ?_) (fun h20 => ?_)))))))
 exact qf (qa (qd rfl rfl rfl (qb rfl rfl rfl (qb rfl rfl rfl (qb rfl rfl rfl (qc (qe (qv (qq (qs () (res3 rfl rfl rfl rfl)))))))))))
 refine qt (qe (qf (qa (qj rfl rfl qbL rfl (qk (i := 0) rfl rfl tf29 rfl rfl (by simp) rfl rfl (qd rfl rfl rfl (qy ent82 rfl rfl rfl (fun x13 e13 => qch F x5 x6 a7 c8 x9 x13 e13) (.consF 0 rfl .nil) (fun x13 e13 => ?_))))))))
 intro _
 refine qd rfl rfl rfl (qr rfl rfl rfl rfl (qr rfl rfl rfl rfl (qr rfl rfl rfl rfl (qb rfl rfl rfl (qb rfl rfl rfl (qb rfl rfl rfl (qc (qe (qf (qf (qa (qd rfl rfl rfl ?_))))))))))))
 refine zN rfl rfl rfl rfl (qd rfl rfl rfl (zZ 9 (fun ((x18, _) : (Bool × Unit)) => [(7, .int .i64 x13.2.1), (9, .int .u64 x13.1), (35, .bool x18)]) (fun ((x18, _) : (Bool × Unit)) => []) (fun ((x18, _) : (Bool × Unit)) => []) (fun ((x18, _) : (Bool × Unit)) => []) (fun ((x18, _) : (Bool × Unit)) => qbq F x13 x18) ?_ ?_))
 refine qp (os := _) rfl (yA (fun h17 => ?_) (fun h17 => ?_))
 exact qR (k := 26) rfl h17 (qi rfl rfl rfl (qi rfl rfl rfl (qi rfl rfl rfl (qi rfl rfl rfl (qi rfl rfl rfl (qi rfl rfl rfl (qi rfl rfl rfl (qi rfl rfl rfl (qw (b := true) rfl rfl rfl rfl (qc (qn (true, ()))))))))))))
 exact qQ (k := 26) rfl h17 (qd rfl rfl rfl (qj rfl rfl qc1 rfl (qj rfl rfl qa7 rfl (qk (i := 0) rfl rfl tf3 rfl rfl (fun _ => rfl) rfl rfl (qd rfl rfl rfl (qdM rfl rfl rfl rfl (zV rfl Tryz.underlying3 Tryz.underlying50 rfl rfl (zr rfl rfl rfl rfl (qw (b := false) rfl rfl rfl rfl (qc (qn ((decide ((iconv .u64 (imin x2 x10)) < x13.1)), ()))))))))))))
 rintro ⟨x18, _⟩
 try dsimp only
 refine qp (os := _) rfl (qc (qe (qC rfl (fun h19 => ?_) (fun h19 => ?_))))
 exact qf (qa (qb rfl rfl rfl (qb rfl rfl rfl (qb rfl rfl rfl (qc (qe (qv (qq (qs () (res3 rfl rfl rfl rfl))))))))))
 refine qt (qe (qf (qa (qd rfl rfl rfl (zV rfl Tryz.underlying50 Tryz.underlying3 rfl rfl (qd rfl rfl rfl (qb rfl rfl rfl (qb rfl rfl rfl (qb rfl rfl rfl (qc (qe (qv ?_))))))))))))
 exact qs () (res3 rfl rfl rfl rfl)
theorem vM (F : Nat) (x1 : Bool) (r : (Unit ⊕ Unit)) (hm : kZ F x1 = some r) :
    PureL Tryz.prog 108 [.bool x1] [] [] [] lostCh Unit (fun (_ : Unit) (_ : Unit) => .tuple #[]) (fun (_ : Unit) (_ : Unit) => []) (fun (_ : Unit) (_ : Unit) => []) (fun (_ : Unit) => []) r := by
 refine qdy Tryz.func108 rfl Tryz.ntmps108 rfl hm (fun w => qG (l' := [(0, .bool x1)]) rfl (qf (qa (qd rfl rfl rfl (kn rfl rfl rfl (qc (qe (qC rfl (fun h2 => ?_) (fun h2 => ?_)))))))))
 exact qa (q6 (cells := []) rfl st168 rfl (by kernel_rfl) rfl (qk6 rfl rfl (qm4 _) rfl (qk9 rfl rfl (yK .nil))))
 exact qt (qba () (.inr rfl) (res0 rfl) rfl .nil .nil)
theorem kW (F : Nat) (g1 : Nat) (x2 : Int) (x3 : List Int) (a4 : Option Addr) (c5 : Nat) (x6 : Int) (x7 : Int) (r : ((Int × Int × Int) ⊕ (Int × Int))) (hm : zT F x2 x3 x6 x7 = some r) :
    PureL Tryz.prog 121 [.pointer (some ⟨g1, 0, none⟩), .int .i64 x7] [⟨g1, 137, [.int .i64 x2, .slice a4 x3.length c5, .int .i64 x6]⟩] [] [Sl (eI .u8) 1 (.slice a4 x3.length c5) x3] lostCh Unit (fun (r : (Int × Int × Int)) (_ : Unit) => .int .i64 r.1) (fun (r : (Int × Int × Int)) (_ : Unit) => [⟨g1, 137, [.int .i64 r.2.1, .slice a4 x3.length c5, .int .i64 r.2.2]⟩]) (fun (_ : (Int × Int × Int)) (_ : Unit) => []) (fun (z : (Int × Int)) => [⟨g1, 137, [.int .i64 z.1, .slice a4 x3.length c5, .int .i64 z.2]⟩]) r := by
 refine qdy Tryz.func121 rfl Tryz.ntmps121 rfl hm (fun w => qG (l' := [(0, .pointer (some ⟨g1, 0, none⟩)), (1, .int .i64 x7)]) rfl (qf (qa (qb rfl rfl rfl (qc (qe (qf (zm mixed [] [⟨g1, 137, [.int .i64 x2, .slice a4 x3.length c5, .int .i64 x6]⟩] [Sl (eI .u8) 1 (.slice a4 x3.length c5) x3] (.cons 0 rfl .nil) (q7 0 rfl qI) 16 rfl (qg 0 (.pointer (some ⟨g1, 0, none⟩)) rfl rfl rfl (qm rfl) (qg 1 (.pointer (some ⟨g1, 0, none⟩)) rfl rfl rfl (qm rfl) (qg 2 (.pointer (some ⟨g1, 0, none⟩)) rfl rfl rfl (qz rfl qhx) (qX 3 (.agg #[.int .i64 x2, .slice a4 x3.length c5]) rfl rfl rfl (qY (i := 0) rfl tf29 rfl rfl (by simp) rfl) ?_))))))))))))
 refine qg 4 (.pointer (some ⟨g1, 0, none⟩)) rfl rfl rfl (qm rfl) (qg 5 (.pointer (some ⟨g1, 0, none⟩)) rfl rfl rfl (qm rfl) (qg 6 (.pointer (some ⟨g1, 2, none⟩)) rfl rfl rfl (qz rfl qcZ) (qX 7 (.int .i64 x6) rfl rfl rfl (qY (i := 0) rfl tf3 rfl rfl (fun _ => rfl) rfl) (qL 8 rfl (by kernel_rfl) rfl (qy ent82 rfl rfl rfl (fun x9 e9 => qch F x2 x3 a4 c5 x6 x9 e9) (.consF 0 rfl .nil) (fun x9 e9 => ?_))))))
 intro _
 refine qc (qK (.cons 0 rfl .nil) (q7 0 rfl qI) (qg 9 (.tuple #[.int .u64 x9.1, .int .i64 x9.2.1, .int .i64 x9.2.2]) rfl rfl rfl (qm rfl) (qg 10 (.int .u64 x9.1) rfl rfl rfl (qm rfl) (qg 11 (.int .i64 x9.2.1) rfl rfl rfl (qm rfl) (qg 12 (.int .i64 x9.2.2) rfl rfl rfl (qm rfl) (qg 13 (.int .u64 x9.1) rfl rfl rfl (qm rfl) (qg 14 (.int .i64 x9.2.1) rfl rfl rfl (qm rfl) (qg 15 (.int .i64 x9.2.2) rfl rfl rfl (qm rfl) (qV (by kernel_rfl) (zw (qe (qf ?_)) (by intro c h; cases h)))))))))))
 refine qa (qd rfl rfl rfl (zj rfl rfl rfl rfl (qd rfl rfl rfl (q8 5 ((x9.2.2 : Int) == 0) [(0, .pointer (some ⟨g1, 0, none⟩)), (5, .int .u64 x9.1), (6, .int .i64 x9.2.1), (28, .bool (((x9.2.2 : Int) == 0) && (decide (x9.1 ≤ (iconv .u64 x7)))))] (fun h10 => ?_) (fun h10 => ?_) ?_))))
 exact qp (os := _) rfl (qR (k := 23) rfl h10 (qd rfl rfl rfl (qd rfl rfl rfl (zV rfl Tryz.underlying3 Tryz.underlying50 rfl rfl (qde rfl rfl rfl rfl (qw (b := true) rfl rfl rfl rfl (qx (d := 28) (v := .bool (((x9.2.2 : Int) == 0) && (decide (x9.1 ≤ (iconv .u64 x7))))) rfl (by rw [h10]; simp only [Bool.true_and]) (qc (qE (qh rfl (qh rfl (qh rfl (qh rfl qO)))))))))))))
 exact qp (os := _) rfl (qQ (k := 23) rfl h10 (qi rfl rfl rfl (qi rfl rfl rfl (qi rfl rfl rfl (qi rfl rfl rfl (qw (b := false) rfl rfl rfl rfl (qx (d := 28) (v := .bool (((x9.2.2 : Int) == 0) && (decide (x9.1 ≤ (iconv .u64 x7))))) rfl (by rw [h10]; simp only [Bool.false_and]) (qc (qE (qh rfl (qh rfl (qh rfl (qh rfl qO)))))))))))))
 refine qp (os := _) rfl (kH ent108 rfl rfl rfl (fun x11 e11 => vM F (((x9.2.2 : Int) == 0) && (decide (x9.1 ≤ (iconv .u64 x7)))) x11 e11) .nil .nil .nil (fun x12 _ => ?_) (fun x11 e11 => ?_))
 exact zp (yK (.cons 0 rfl .nil))
 intro _
 refine qc (qe (qf (qa (qd rfl rfl rfl (qd rfl rfl rfl (qS rfl rfl rfl (qj rfl rfl qcZ rfl (qu (i := 0) rfl rfl rfl tf3 rfl rfl rfl rfl rfl (qc (qe (qf (qa ?_))))))))))))
 exact qd rfl rfl rfl (zV rfl Tryz.underlying50 Tryz.underlying3 rfl rfl (qb rfl rfl rfl (qc (qe (qv (qba () (.inl rfl) (res1 rfl rfl) rfl (.cons 0 rfl .nil) .nil))))))
theorem qgJ (F : Nat) (x1 : List Int) (a2 : Option Addr) (c3 : Nat) (x4 : Int) (r : Int) (hm : qbr F x1 x4 = some r) :
    Pure Tryz.prog 136 [.slice a2 x1.length c3, .int .i64 x4] [Sl (eI .i64) 1 (.slice a2 x1.length c3) x1] Unit (fun _ => .int .i64 r) (fun _ => []) (fun _ => []) := by
 refine qT Tryz.func136 rfl Tryz.ntmps136 rfl hm (fun w => qG (l' := [(0, .slice a2 x1.length c3), (1, .int .i64 x4)]) rfl (qf (qa (qb rfl rfl rfl (qc (qe (qf (qf (qa (qd rfl rfl rfl (q3 rfl Tryz.underlying37 rfl rfl (qd rfl rfl rfl ?_))))))))))))
 refine qN rfl rfl rfl rfl (zr rfl rfl rfl rfl (qc (qe (qC rfl (fun h195 => ?_) (fun h195 => ?_)))))
 exact qf (qa (qb rfl rfl rfl (qc (qe (qv (qq (qs () (res1 rfl rfl))))))))
 refine qt (qe (qf (qa (qb rfl rfl rfl (qc (qe (qH (fun ((x99, _) : (Int × Unit)) => [(1, .int .i64 x4), (5, .int .i64 x99)]) (fun ((x99, _) : (Int × Unit)) => []) (fun ((x99, _) : (Int × Unit)) => []) (fun ((x99, _) : (Int × Unit)) => []) (fun ((x99, _) : (Int × Unit)) => qaO F x4 x99) ?_ ?_)))))))
 refine qf (qa (qd rfl rfl rfl (q3 rfl Tryz.underlying37 rfl rfl (qd rfl rfl rfl (qc (qe (qD (zi (fun (((x132, x133), _) : ((Int × Int) × Unit)) => [(1, .int .i64 x4), (5, .int .i64 x132), (13, .slice a2 x1.length c3), (14, .int .i64 (x1.length : Int)), (15, .int .i64 x133)]) (fun (((x132, x133), _) : ((Int × Int) × Unit)) => []) (fun (((x132, x133), _) : ((Int × Int) × Unit)) => []) (fun (((x132, x133), _) : ((Int × Int) × Unit)) => [Sl (eI .i64) 1 (.slice a2 x1.length c3) x1]) (fun k (s : ((Int × Int) × Unit)) => kM F x1 x4 k s.1) ((0, 0), ()) F ?_ (hF := (qo 0 rfl qA))))))))))
 intro k164
 rintro ⟨⟨x132, x133⟩, _⟩
 try dsimp only
 refine zF (m' := jz F x1 x4 (kM F x1 x4 k164) x132 x133) rfl (qf (qa (qZ rfl rfl rfl rfl (qc (qe (qf (qC rfl (fun h194 => ?_) (fun h194 => ?_))))))))
 refine qt (qe (qf (qD (qf (qa (qd rfl rfl rfl (kh (j := 0) (zd .i64) (by decide) rfl Tryz.underlying37 tf3 rfl rfl rfl rfl (fun x180 e180 b181 o182 => kb (j := 0) rfl rfl tf3 rfl rfl (fun _ => rfl) rfl rfl (qb rfl rfl rfl (qb rfl rfl rfl (qc (qe ?_))))))))))))
 refine qf (qf (qa (qd rfl rfl rfl (qZ rfl rfl rfl rfl (qd rfl rfl rfl (zZ 7 (fun ((x190, _) : (Bool × Unit)) => [(1, .int .i64 x4), (5, .int .i64 x132), (7, .int .i64 x180), (13, .slice a2 x1.length c3), (14, .int .i64 (x1.length : Int)), (15, .int .i64 x133), (29, .bool x190)]) (fun ((x190, _) : (Bool × Unit)) => []) (fun ((x190, _) : (Bool × Unit)) => []) (fun ((x190, _) : (Bool × Unit)) => [Sl (eI .i64) 1 (.slice a2 x1.length c3) x1]) (fun ((x190, _) : (Bool × Unit)) => jA F (kM F x1 x4 k164) x4 x132 x133 x180 x190) ?_ ?_))))))
 refine qp (os := _) rfl (yA (fun h188 => ?_) (fun h188 => ?_))
 exact qR (k := 22) rfl h188 (qi rfl rfl rfl (qi rfl rfl rfl (qi rfl rfl rfl (qi rfl rfl rfl (qi rfl rfl rfl (qi rfl rfl rfl (qw (b := true) rfl rfl rfl rfl (qc (qn (true, ()) (hF := (qo 1 rfl qA)))))))))))
 refine qQ (k := 22) rfl h188 (qd rfl rfl rfl (qZ rfl rfl rfl rfl (qd rfl rfl rfl (q8 3 (decide (x180 < 1)) [(1, .int .i64 x4), (5, .int .i64 x132), (13, .slice a2 x1.length c3), (14, .int .i64 (x1.length : Int)), (15, .int .i64 x133), (7, .int .i64 x180), (22, .bool false), (23, .int .i64 x180), (24, .bool (decide (x180 < 1))), (25, .bool (decide (x180 < 1))), (28, .bool ((decide (x180 < 1)) && (decide (0 < x133))))] (fun h193 => ?_) (fun h193 => ?_) ?_))))
 exact qp (os := _) rfl (qR (k := 25) rfl h193 (qd rfl rfl rfl (zr rfl rfl rfl rfl (qw (b := true) rfl rfl rfl rfl (qx (d := 28) (v := .bool ((decide (x180 < 1)) && (decide (0 < x133)))) rfl (by rw [h193]; simp only [Bool.true_and]) (qx (d := 25) (v := .bool (decide (x180 < 1))) rfl (by rw [h193] <;> rfl) (qc (qE (qh rfl (qh rfl (qh rfl (qh rfl (qh rfl (qh rfl (qh rfl (qh rfl (qh rfl (qh rfl (qh rfl qO)))))))))))))))))))
 exact qp (os := _) rfl (qQ (k := 25) rfl h193 (qi rfl rfl rfl (qi rfl rfl rfl (qw (b := false) rfl rfl rfl rfl (qx (d := 28) (v := .bool ((decide (x180 < 1)) && (decide (0 < x133)))) rfl (by rw [h193]; simp only [Bool.false_and]) (qx (d := 25) (v := .bool (decide (x180 < 1))) rfl (by rw [h193] <;> rfl) (qc (qE (qh rfl (qh rfl (qh rfl (qh rfl (qh rfl (qh rfl (qh rfl (qh rfl (qh rfl (qh rfl (qh rfl qO)))))))))))))))))))
 exact qp (os := _) rfl (qw (b := false) rfl rfl rfl rfl (qc (qn (((decide (x180 < 1)) && (decide (0 < x133))), ()) (hF := (qo 1 rfl qA)))))
 rintro ⟨x190, _⟩
 try dsimp only
 refine qp (os := _) rfl (qc (qe (qC rfl (fun h192 => ?_) (fun h192 => ?_))))
 exact qf (qa (qb rfl rfl rfl (qc (qe (qv (qq (qP (qq (qq (qP (qq (qs () (res1 rfl rfl)))))))))))))
 refine qt (qe (qa (qd rfl rfl rfl (qd rfl rfl rfl (qd rfl rfl rfl (qN rfl rfl rfl rfl (qdM rfl rfl rfl rfl (qN rfl rfl rfl rfl (qd rfl rfl rfl (qN rfl rfl rfl rfl (qdM rfl rfl rfl rfl (qb rfl rfl rfl ?_))))))))))))
 exact qaj (fun x191 e191 => qx (d := 5) (v := .int .i64 x191) rfl (by rw [e191] <;> rfl) (qc (qU (qe (qa (qN rfl rfl rfl rfl (qd rfl rfl rfl (qc (q4 ((x191, iadd .i64 x133 1), ()) (hF := (qo 0 rfl qA)))))))))))
 exact zn (qF (qF (zo (qn (x132, ())))))
 rintro ⟨x99, _⟩
 try dsimp only
 refine qf (qf (qa (qd rfl rfl rfl (qd rfl rfl rfl (zr rfl rfl rfl rfl (qc (qe (qC rfl (fun h101 => ?_) (fun h101 => ?_)))))))))
 exact qf (qa (qb rfl rfl rfl (qc (qe (qv (qq (qs () (res1 rfl rfl))))))))
 exact qt (qe (qf (qa (qb rfl rfl rfl (qc (qe (qv (qs () (res1 rfl rfl)))))))))
theorem qfR (F : Nat) (x1 : List Int) (a2 : Option Addr) (c3 : Nat) (x4 : List Int) (a5 : Option Addr) (c6 : Nat) (r : List Int) (hm : qb7 F x1 x4 = some r) :
    Pure Tryz.prog 137 [.slice a2 x1.length c3, .slice a5 x4.length c6] [Sl (eI .i64) 1 (.slice a2 x1.length c3) x1, Sl (eI .i64) 1 (.slice a5 x4.length c6) x4] (Option Addr × Nat) (fun g => .slice g.1 r.length g.2) (fun g => [Ro (eI .i64) 3 1 (.slice g.1 r.length g.2) r]) (fun _ => []) := by
 refine qT Tryz.func137 rfl Tryz.ntmps137 rfl hm (fun w => qG (l' := [(0, .slice a2 x1.length c3), (1, .slice a5 x4.length c6)]) rfl (qf (qa (qb rfl rfl rfl (qc (qe (qf (qa (qb rfl rfl rfl (qc (qe (qf ?_))))))))))))
 refine qa (qb rfl rfl rfl (qc (qe (qH (fun (((x158, x161, x162), (a156, c157, a159, c160)) : ((List Int × List Int × Bool) × (Option Addr × Nat × Option Addr × Nat))) => [(0, .slice a156 x158.length c157), (5, .slice a159 x161.length c160), (6, .bool x162)]) (fun (((x158, x161, x162), (a156, c157, a159, c160)) : ((List Int × List Int × Bool) × (Option Addr × Nat × Option Addr × Nat))) => []) (fun (((x158, x161, x162), (a156, c157, a159, c160)) : ((List Int × List Int × Bool) × (Option Addr × Nat × Option Addr × Nat))) => [Ro (eI .i64) 3 1 (.slice a159 x161.length c160) x161]) (fun (((x158, x161, x162), (a156, c157, a159, c160)) : ((List Int × List Int × Bool) × (Option Addr × Nat × Option Addr × Nat))) => [Sl (eI .i64) 1 (.slice a156 x158.length c157) x158]) (fun (((x158, x161, x162), _) : ((List Int × List Int × Bool) × (Option Addr × Nat × Option Addr × Nat))) => qaP F x158 x161 x162) ?_ ?_))))
 refine qf (qa (qd rfl rfl rfl (q3 rfl Tryz.underlying37 rfl rfl (qd rfl rfl rfl (qc (qe (qD (yR Int (eI .i64) 3 1 (zi (fun (((x217, x220, x221, x222), (a215, c216, a218, c219)) : ((List Int × List Int × Bool × Int) × (Option Addr × Nat × Option Addr × Nat))) => [(0, .slice a215 x217.length c216), (5, .slice a218 x220.length c219), (6, .bool x221), (9, .slice a5 x4.length c6), (10, .int .i64 (x4.length : Int)), (11, .int .i64 x222)]) (fun (((x217, x220, x221, x222), (a215, c216, a218, c219)) : ((List Int × List Int × Bool × Int) × (Option Addr × Nat × Option Addr × Nat))) => []) (fun (((x217, x220, x221, x222), (a215, c216, a218, c219)) : ((List Int × List Int × Bool × Int) × (Option Addr × Nat × Option Addr × Nat))) => [Ro (eI .i64) 3 1 (.slice a218 x220.length c219) x220]) (fun (((x217, x220, x221, x222), (a215, c216, a218, c219)) : ((List Int × List Int × Bool × Int) × (Option Addr × Nat × Option Addr × Nat))) => [Sl (eI .i64) 1 (.slice a215 x217.length c216) x217, Sl (eI .i64) 1 (.slice a5 x4.length c6) x4]) (fun k (s : ((List Int × List Int × Bool × Int) × (Option Addr × Nat × Option Addr × Nat))) => kE F x4 k s.1) ((x1, ([] : List Int), true, 0), (a2, c3, none, 0)) F ?_ (hR := (.cons 0 rfl .nil)) (hF := (qo 0 rfl (qo 1 rfl qA))))))))))))
 intro k271
 rintro ⟨⟨x217, x220, x221, x222⟩, ⟨a215, c216, a218, c219⟩⟩
 try dsimp only
 refine zF (m' := vU F x4 (kE F x4 k271) x217 x220 x221 x222) rfl (qf (qa (qZ rfl rfl rfl rfl (qc (qe (qf (qC rfl (fun h319 => ?_) (fun h319 => ?_))))))))
 refine qt (qe (qf (qD (qf (qa (kh (j := 1) (zd .i64) (by decide) rfl Tryz.underlying37 tf3 rfl rfl rfl rfl (fun x296 e296 b297 o298 => kb (j := 0) rfl rfl tf3 rfl rfl (fun _ => rfl) rfl rfl (qb rfl rfl rfl (qc (qe (qH (fun ((x308, (a306, c307)) : (List Int × (Option Addr × Nat))) => [(0, .slice a215 x217.length c216), (5, .slice a306 x308.length c307), (6, .bool x221), (8, .int .i64 x296), (9, .slice a5 x4.length c6), (10, .int .i64 (x4.length : Int)), (11, .int .i64 x222)]) (fun ((x308, (a306, c307)) : (List Int × (Option Addr × Nat))) => []) (fun ((x308, (a306, c307)) : (List Int × (Option Addr × Nat))) => [Ro (eI .i64) 3 1 (.slice a306 x308.length c307) x308]) (fun ((x308, (a306, c307)) : (List Int × (Option Addr × Nat))) => [Sl (eI .i64) 1 (.slice a215 x217.length c216) x217, Sl (eI .i64) 1 (.slice a5 x4.length c6) x4]) (fun ((x308, _) : (List Int × (Option Addr × Nat))) => vV F (kE F x4 k271) x217 x221 x222 x296 x308) ?_ ?_)))))))))))
 refine qf (qa (qd rfl rfl rfl (qc (qe (qC rfl (fun h318 => ?_) (fun h318 => ?_))))))
 exact qa (qd rfl rfl rfl (qd rfl rfl rfl (qd rfl rfl rfl (qkw (j := 1) (zd .i64) rfl Tryz.underlying37 tf3 rfl rfl rfl rfl rfl (fun x312 e312 a313 c314 => yw 0 (zd .i64) rfl Tryz.underlying37 tf3 rfl rfl rfl rfl rfl (.inr ⟨0, rfl⟩) rfl rfl (fun x315 e315 a316 c317 => qb rfl rfl rfl (qc (qn (x315, (a316, c317)) (hR := (.cons 0 rfl .nil)) (hF := (qo 2 rfl (qo 3 rfl qA)))))))))))
 exact qt (qn (x220, (a218, c219)) (hR := (.cons 0 rfl .nil)) (hF := (qo 1 rfl (qo 2 rfl qA))))
 rintro ⟨x308, ⟨a306, c307⟩⟩
 try dsimp only
 refine qa (qd rfl rfl rfl (qd rfl rfl rfl (qkw (j := 0) (zd .i64) rfl Tryz.underlying37 tf3 rfl rfl rfl rfl rfl (fun x309 e309 a310 c311 => qd rfl rfl rfl (kn rfl rfl rfl (qb rfl rfl rfl (qb rfl rfl rfl (qc (qU (qe (qa (qN rfl rfl rfl rfl ?_))))))))))))
 exact qd rfl rfl rfl (qc (q4 ((x309, x308, (!x221), iadd .i64 x222 1), (a310, c311, a306, c307)) (hR := (.cons 0 rfl .nil)) (hF := (qo 0 rfl (qo 2 rfl qA)))))
 exact zn (qF (qF (zo (qn ((x217, x220, x221), (a215, c216, a218, c219)) (hR := (.cons 0 rfl .nil)) (hF := (qo 0 rfl qA))))))
 rintro ⟨⟨x158, x161, x162⟩, ⟨a156, c157, a159, c160⟩⟩
 try dsimp only
 refine qH (fun ((x169, (a167, c168)) : (List Int × (Option Addr × Nat))) => [(5, .slice a167 x169.length c168)]) (fun ((x169, (a167, c168)) : (List Int × (Option Addr × Nat))) => []) (fun ((x169, (a167, c168)) : (List Int × (Option Addr × Nat))) => [Ro (eI .i64) 3 1 (.slice a167 x169.length c168) x169]) (fun ((x169, (a167, c168)) : (List Int × (Option Addr × Nat))) => []) (fun ((x169, _) : (List Int × (Option Addr × Nat))) => jB F x169) ?_ ?_
 refine qf (qa (qd rfl rfl rfl (qc (qe (qC rfl (fun h173 => ?_) (fun h173 => ?_))))))
 exact qa (qd rfl rfl rfl (qd rfl rfl rfl (yw 0 (zd .i64) rfl Tryz.underlying37 tf3 rfl rfl rfl rfl rfl (.inr ⟨0, rfl⟩) rfl rfl (fun x170 e170 a171 c172 => qb rfl rfl rfl (qc (qn (x170, (a171, c172)) (hR := (.cons 0 rfl .nil))))))))
 exact qt (qn (x161, (a159, c160)) (hR := (.cons 0 rfl .nil)))
 rintro ⟨x169, ⟨a167, c168⟩⟩
 try dsimp only
 exact qf (qa (qd rfl rfl rfl (qb rfl rfl rfl (qc (qe (qv (qs (a167, c168) (res1 rfl rfl) (fun h => by subst h; exact (.cons 0 rfl .nil)))))))))
theorem qhq (F : Nat) (x1 : List Int) (a2 : Option Addr) (c3 : Nat) (x4 : List Int) (a5 : Option Addr) (c6 : Nat) (r : (List Int × Int)) (hm : qbO F x1 x4 = some r) :
    Pure Tryz.prog 122 [.slice a2 x1.length c3, .slice a5 x4.length c6] [Sl (eI .i64) 1 (.slice a2 x1.length c3) x1, Sl (eI .i64) 1 (.slice a5 x4.length c6) x4] (Option Addr × Nat) (fun g => .tuple #[.slice g.1 r.1.length g.2, .int .i64 r.2]) (fun g => [Ro (eI .i64) 3 1 (.slice g.1 r.1.length g.2) r.1]) (fun _ => []) := by
 refine qT Tryz.func122 rfl Tryz.ntmps122 rfl hm (fun w => qG (l' := [(0, .slice a2 x1.length c3), (1, .slice a5 x4.length c6)]) rfl (qf (qa (qb rfl rfl rfl (qb rfl rfl rfl (qc (qe (qf (qa (qd rfl rfl rfl (qy ent47 rfl rfl rfl (fun x7 e7 => qaC F x1 a2 c3 x7 e7) (.consF 0 rfl .nil) (fun x7 e7 => ?_))))))))))))
 intro _
 refine qb rfl rfl rfl (qc (qe (qH (fun ((x10, _) : (Int × Unit)) => [(0, .slice a2 x1.length c3), (1, .slice a5 x4.length c6), (6, .int .i64 x10)]) (fun ((x10, _) : (Int × Unit)) => []) (fun ((x10, _) : (Int × Unit)) => []) (fun ((x10, _) : (Int × Unit)) => [Sl (eI .i64) 1 (.slice a2 x1.length c3) x1, Sl (eI .i64) 1 (.slice a5 x4.length c6) x4]) (fun ((x10, _) : (Int × Unit)) => je F x1 x4 x10) ?_ ?_)))
 refine qf (qa (qd rfl rfl rfl (zj rfl rfl rfl rfl (qc (qe (qC rfl (fun h17 => ?_) (fun h17 => ?_)))))))
 refine qa (qd rfl rfl rfl (qd rfl rfl rfl (q3 rfl Tryz.underlying37 rfl rfl (qy ent136 rfl rfl rfl (fun x16 e16 => qgJ F x4 a5 c6 (x1.length : Int) x16 e16) (.consF 1 rfl .nil) (fun x16 e16 => ?_)))))
 intro _
 exact qb rfl rfl rfl (qc (qn (x16, ()) (hF := (qo 0 rfl (qo 1 rfl qA)))))
 exact qt (qn (x7, ()) (hF := (qo 0 rfl (qo 1 rfl qA))))
 rintro ⟨x10, _⟩
 try dsimp only
 refine qf (qf (qa (qd rfl rfl rfl (zN rfl rfl rfl rfl (qc (qe (qC rfl (fun h15 => ?_) (fun h15 => ?_))))))))
 exact qf (qa (qd rfl rfl rfl (qb rfl rfl rfl (qb rfl rfl rfl (qc (qe (qv (qq (q5 Int (eI .i64) 3 1 (qs (none, 0) (res2 rfl rfl rfl) (fun h => by subst h; exact (.cons 0 rfl .nil))))))))))))
 refine qt (qe (qf (qa (qd rfl rfl rfl (qd rfl rfl rfl (qy ent137 rfl rfl rfl (fun x12 e12 => qfR F x1 a2 c3 x4 a5 c6 x12 e12) (.consF 0 rfl (.consF 1 rfl .nil)) (fun x12 e12 => ?_)))))))
 rintro ⟨a13, c14⟩
 exact qb rfl rfl rfl (qb rfl rfl rfl (qc (qe (qv (qs (a13, c14) (res2 rfl rfl rfl) (fun h => by subst h; exact (.cons 0 rfl .nil)))))))
theorem qdq (F : Nat) (g1 : Nat) (x2 : Int) (x3 : List Int) (a4 : Option Addr) (c5 : Nat) (x6 : Int) (x7 : Int) (r : ((List Int × Int × Int) ⊕ (Int × Int))) (hm : vr F x2 x3 x6 x7 = some r) :
    PureL Tryz.prog 123 [.pointer (some ⟨g1, 0, none⟩), .int .i64 x7] [⟨g1, 137, [.int .i64 x2, .slice a4 x3.length c5, .int .i64 x6]⟩] [] [Sl (eI .u8) 1 (.slice a4 x3.length c5) x3] lostCh (Option Addr × Nat) (fun (r : (List Int × Int × Int)) (g : (Option Addr × Nat)) => .slice g.1 r.1.length g.2) (fun (r : (List Int × Int × Int)) (_ : (Option Addr × Nat)) => [⟨g1, 137, [.int .i64 r.2.1, .slice a4 x3.length c5, .int .i64 r.2.2]⟩]) (fun (r : (List Int × Int × Int)) (g : (Option Addr × Nat)) => [Ro (eI .i64) 3 1 (.slice g.1 r.1.length g.2) r.1]) (fun (z : (Int × Int)) => [⟨g1, 137, [.int .i64 z.1, .slice a4 x3.length c5, .int .i64 z.2]⟩]) r := by
 refine qdy Tryz.func123 rfl Tryz.ntmps123 rfl hm (fun w => qG (l' := [(0, .pointer (some ⟨g1, 0, none⟩)), (1, .int .i64 x7)]) rfl (qf (qa (qb rfl rfl rfl (qc (qe (qf (qa (qd rfl rfl rfl (qd rfl rfl rfl (qN rfl rfl rfl rfl (kH ent121 rfl rfl rfl (fun x8 e8 => kW F g1 x2 x3 a4 c5 x6 (iadd .i64 x7 1) x8 e8) (.cons 0 rfl .nil) .nil (.consF 0 rfl .nil) (fun x9 _ => ?_) (fun x8 e8 => ?_)))))))))))))
 exact zp (yK (.cons 0 rfl .nil))
 intro _
 refine qmx (zd .i64) rfl Tryz.underlying37 tf3 rfl rfl rfl rfl rfl rfl rfl (fun x10 e10 a11 c12 => qb rfl rfl rfl (qc (qe (qH (fun (((x72, x73, x74), _) : ((List Int × Int × Int) × Unit)) => [(5, .slice a11 x72.length c12)]) (fun (((x72, x73, x74), _) : ((List Int × Int × Int) × Unit)) => [⟨g1, 137, [.int .i64 x73, .slice a4 x3.length c5, .int .i64 x74]⟩]) (fun (((x72, x73, x74), _) : ((List Int × Int × Int) × Unit)) => [Ro (eI .i64) 3 1 (.slice a11 x72.length c12) x72]) (fun (((x72, x73, x74), _) : ((List Int × Int × Int) × Unit)) => [Sl (eI .u8) 1 (.slice a4 x3.length c5) x3]) (fun (((x72, x73, x74), _) : ((List Int × Int × Int) × Unit)) => vF F x72 x73 x74) ?_ ?_))))
 refine qf (qa (qd rfl rfl rfl (q3 rfl Tryz.underlying37 rfl rfl (qd rfl rfl rfl (qc (qe (qD (zi (fun (((x93, x94, x95, x96), _) : ((List Int × Int × Int × Int) × Unit)) => [(0, .pointer (some ⟨g1, 0, none⟩)), (1, .int .i64 x7), (5, .slice a11 x93.length c12), (13, .int .i64 (x10.length : Int)), (14, .int .i64 x94)]) (fun (((x93, x94, x95, x96), _) : ((List Int × Int × Int × Int) × Unit)) => [⟨g1, 137, [.int .i64 x95, .slice a4 x3.length c5, .int .i64 x96]⟩]) (fun (((x93, x94, x95, x96), _) : ((List Int × Int × Int × Int) × Unit)) => [Ro (eI .i64) 3 1 (.slice a11 x93.length c12) x93]) (fun (((x93, x94, x95, x96), _) : ((List Int × Int × Int × Int) × Unit)) => [Sl (eI .u8) 1 (.slice a4 x3.length c5) x3]) (fun k (s : ((List Int × Int × Int × Int) × Unit)) => kr F x3 x7 x10 k s.1) ((x10, 0, x8.2.1, x8.2.2), ()) F ?_ (hB := (.cons 0 rfl .nil)) (hR := (.cons 0 rfl .nil)) (hF := (qo 0 rfl qA))))))))))
 intro k115
 rintro ⟨⟨x93, x94, x95, x96⟩, _⟩
 try dsimp only
 refine zF (m' := yq F x3 x7 x10 (kr F x3 x7 x10 k115) x93 x94 x95 x96) rfl (qf (qa (qZ rfl rfl rfl rfl (qc (qe (qf (qC rfl (fun h133 => ?_) (fun h133 => ?_))))))))
 refine qt (qe (qf (qD (qf (qa (qd rfl rfl rfl (qb rfl rfl rfl (qc (qe (qa (qd rfl rfl rfl (qd rfl rfl rfl ?_))))))))))))
 refine qd rfl rfl rfl (qd rfl rfl rfl (kH ent121 rfl rfl rfl (fun x125 e125 => kW F g1 x95 x3 a4 c5 x96 x7 x125 e125) (.cons 0 rfl .nil) .nil (.consF 0 rfl .nil) (fun x126 _ => ?_) (fun x125 e125 => ?_)))
 exact qbH (zp (zp (qbH (zp (yK (.cons 0 rfl .nil))))))
 intro _
 refine qd rfl rfl rfl (qdM rfl rfl rfl rfl (qN rfl rfl rfl rfl (jX (j := 0) rfl Tryz.underlying37 tf3 rfl rfl rfl rfl (fun x127 e127 g128 h129 => qel (j := 0) (y' := iadd .i64 x125.1 (imin x94 1)) (zd .i64) rfl rfl rfl tf3 rfl h129 (ke e127).2.1 rfl (fun x130 e130 h131 => ?_)))))
 have h132 : x130.length = x93.length := by rw [← e130, List.length_set]
 exact qx (d := 5) (v := .slice a11 x130.length c12) rfl h131 (qx (d := 17) (v := .slice a11 x130.length c12) rfl h131 (qc (qU (qe (qa (qN rfl rfl rfl rfl (qd rfl rfl rfl (qc (q4 ((x130, iadd .i64 x94 1, x125.2.1, x125.2.2), ()) (hB := (.cons 0 rfl .nil)) (hR := (.cons 0 rfl .nil)) (hF := (qo 0 rfl qA)))))))))))
 exact zn (qF (qF (zo (qn ((x93, x95, x96), ()) (hB := (.cons 0 rfl .nil)) (hR := (.cons 0 rfl .nil)) (hF := (qo 0 rfl qA))))))
 rintro ⟨⟨x72, x73, x74⟩, _⟩
 try dsimp only
 exact qf (qa (qd rfl rfl rfl (qb rfl rfl rfl (qc (qe (qv (qba (a11, c12) (.inl rfl) (res1 rfl rfl) rfl (.cons 0 rfl .nil) (.cons 0 rfl .nil))))))))
theorem qdi (F : Nat) (x1 : Int) (r : Int) (hm : ji F x1 = some r) :
    Pure Tryz.prog 138 [.int .u64 x1] [] Unit (fun _ => .int .i64 r) (fun _ => []) (fun _ => []) := by
 refine qT Tryz.func138 rfl Tryz.ntmps138 rfl hm (fun w => qG (l' := [(0, .int .u64 x1)]) rfl (qf (qa (qb rfl rfl rfl (qc (qe (qf (qa (qd rfl rfl rfl (qbW rfl rfl rfl rfl rfl (zV rfl Tryz.underlying50 Tryz.underlying2 rfl rfl (qd rfl rfl rfl ?_))))))))))))
 exact qfJ rfl rfl rfl rfl (zV rfl Tryz.underlying50 Tryz.underlying2 rfl rfl (qnu rfl rfl rfl (qkz rfl rfl rfl rfl (qb rfl rfl rfl (qaj (fun x2 e2 => qx (d := 2) (v := .int .i64 x2) rfl (by rw [e2] <;> rfl) (qc (qe (qv (qs () (res1 rfl rfl)))))))))))
theorem qd9 (F : Nat) (g1 : Nat) (x2 : Int) (x3 : List Int) (a4 : Option Addr) (c5 : Nat) (x6 : Int) (x7 : Int) (x8 : Int) (x9 : Int) (r : ((List (Int × Int) × Int × Int) ⊕ (Int × Int))) (hm : vY F x2 x3 x6 x7 x8 x9 = some r) :
    PureL Tryz.prog 124 [.pointer (some ⟨g1, 0, none⟩), .int .i64 x7, .int .i64 x8, .int .i64 x9] [⟨g1, 137, [.int .i64 x2, .slice a4 x3.length c5, .int .i64 x6]⟩] [] [Sl (eI .u8) 1 (.slice a4 x3.length c5) x3] lostCh (Option Addr × Nat) (fun (r : (List (Int × Int) × Int × Int)) (g : (Option Addr × Nat)) => .slice g.1 r.1.length g.2) (fun (r : (List (Int × Int) × Int × Int)) (_ : (Option Addr × Nat)) => [⟨g1, 137, [.int .i64 r.2.1, .slice a4 x3.length c5, .int .i64 r.2.2]⟩]) (fun (r : (List (Int × Int) × Int × Int)) (g : (Option Addr × Nat)) => [Ro eS141 141 2 (.slice g.1 r.1.length g.2) r.1]) (fun (z : (Int × Int)) => [⟨g1, 137, [.int .i64 z.1, .slice a4 x3.length c5, .int .i64 z.2]⟩]) r := by
 refine qdy Tryz.func124 rfl Tryz.ntmps124 rfl hm (fun w => qG (l' := [(0, .pointer (some ⟨g1, 0, none⟩)), (1, .int .i64 x7), (2, .int .i64 x8), (3, .int .i64 x9)]) rfl (qf (qa (qb rfl rfl rfl (qc (qe (qf (qa (qd rfl rfl rfl (qd rfl rfl rfl (qd rfl rfl rfl (qbu (fun h10 => ?_)))))))))))))
 refine qeQ rfl rfl rfl rfl h10 (kH ent121 rfl rfl rfl (fun x11 e11 => kW F g1 x2 x3 a4 c5 x6 (iquo .i64 x9 x8) x11 e11) (.cons 0 rfl .nil) .nil (.consF 0 rfl .nil) (fun x12 _ => ?_) (fun x11 e11 => ?_))
 exact zp (yK (.cons 0 rfl .nil))
 intro _
 refine qns qbD (by decide) rfl Tryz.underlying117 tf141 rfl rfl rfl rfl rfl rfl (fun x13 e13 a14 c15 => qb rfl rfl rfl (qc (qe (qf (qa (qd rfl rfl rfl (qb rfl rfl rfl (qc (qe (qH (fun (((x136, x137, x138), _) : ((List (Int × Int) × Int × Int) × Unit)) => [(9, .slice a14 x136.length c15)]) (fun (((x136, x137, x138), _) : ((List (Int × Int) × Int × Int) × Unit)) => [⟨g1, 137, [.int .i64 x137, .slice a4 x3.length c5, .int .i64 x138]⟩]) (fun (((x136, x137, x138), _) : ((List (Int × Int) × Int × Int) × Unit)) => [Ro eS141 141 2 (.slice a14 x136.length c15) x136]) (fun (((x136, x137, x138), _) : ((List (Int × Int) × Int × Int) × Unit)) => [Sl (eI .u8) 1 (.slice a4 x3.length c5) x3]) (fun (((x136, x137, x138), _) : ((List (Int × Int) × Int × Int) × Unit)) => jq F x136 x137 x138) ?_ ?_))))))))))
 refine qf (qa (qd rfl rfl rfl (q3 rfl Tryz.underlying117 rfl rfl (qd rfl rfl rfl (qc (qe (qD (zi (fun (((x177, x178, x179, x180, x181), _) : ((List (Int × Int) × Int × Int × Int × Int) × Unit)) => [(0, .pointer (some ⟨g1, 0, none⟩)), (2, .int .i64 x8), (3, .int .i64 x9), (9, .slice a14 x177.length c15), (10, .int .i64 x178), (21, .int .i64 (x13.length : Int)), (22, .int .i64 x179)]) (fun (((x177, x178, x179, x180, x181), _) : ((List (Int × Int) × Int × Int × Int × Int) × Unit)) => [⟨g1, 137, [.int .i64 x180, .slice a4 x3.length c5, .int .i64 x181]⟩]) (fun (((x177, x178, x179, x180, x181), _) : ((List (Int × Int) × Int × Int × Int × Int) × Unit)) => [Ro eS141 141 2 (.slice a14 x177.length c15) x177]) (fun (((x177, x178, x179, x180, x181), _) : ((List (Int × Int) × Int × Int × Int × Int) × Unit)) => [Sl (eI .u8) 1 (.slice a4 x3.length c5) x3]) (fun k (s : ((List (Int × Int) × Int × Int × Int × Int) × Unit)) => zK F x3 x8 x9 x13 k s.1) ((x13, x7, 0, x11.2.1, x11.2.2), ()) F ?_ (hB := (.cons 0 rfl .nil)) (hR := (.cons 0 rfl .nil)) (hF := (qo 0 rfl qA))))))))))
 intro k220
 rintro ⟨⟨x177, x178, x179, x180, x181⟩, _⟩
 try dsimp only
 refine zF (m' := yG F x3 x8 x9 x13 (zK F x3 x8 x9 x13 k220) x177 x178 x179 x180 x181) rfl (qf (qa (qZ rfl rfl rfl rfl (qc (qe (qf (qC rfl (fun h258 => ?_) (fun h258 => ?_))))))))
 refine qt (qe (qf (qD (qf (qa (qd rfl rfl rfl (qb rfl rfl rfl (qc (qe (qf (qa (qd rfl rfl rfl ?_))))))))))))
 refine kH ent121 rfl rfl rfl (fun x240 e240 => kW F g1 x180 x3 a4 c5 x181 2097152 x240 e240) (.cons 0 rfl .nil) .nil (.consF 0 rfl .nil) (fun x241 _ => ?_) (fun x240 e240 => ?_)
 exact zp (qbH (zp (zp (qbH (zp (yK (.cons 0 rfl .nil)))))))
 intro _
 refine qb rfl rfl rfl (qc (qe (qH (fun ((x244, _) : (Int × Unit)) => [(0, .pointer (some ⟨g1, 0, none⟩)), (2, .int .i64 x8), (3, .int .i64 x9), (9, .slice a14 x177.length c15), (10, .int .i64 x244), (11, .int .i64 x179), (21, .int .i64 (x13.length : Int)), (22, .int .i64 x179)]) (fun ((x244, _) : (Int × Unit)) => [⟨g1, 137, [.int .i64 x240.2.1, .slice a4 x3.length c5, .int .i64 x240.2.2]⟩]) (fun ((x244, _) : (Int × Unit)) => [Ro eS141 141 2 (.slice a14 x177.length c15) x177]) (fun ((x244, _) : (Int × Unit)) => [Sl (eI .u8) 1 (.slice a4 x3.length c5) x3]) (fun ((x244, _) : (Int × Unit)) => kT F (zK F x3 x8 x9 x13 k220) x3 x8 x9 x177 x179 x240 x244) ?_ ?_)))
 refine qf (qa (qd rfl rfl rfl (zj rfl rfl rfl rfl (qc (qe (qC rfl (fun h257 => ?_) (fun h257 => ?_)))))))
 refine qa (qd rfl rfl rfl (qd rfl rfl rfl (zV rfl Tryz.underlying3 Tryz.underlying50 rfl rfl (qy ent138 rfl rfl rfl (fun x256 e256 => qdi F (iconv .u64 x240.1) x256 e256) .nil (fun x256 e256 => ?_)))))
 intro _
 exact qN rfl rfl rfl rfl (qb rfl rfl rfl (qc (qn (iadd .i64 x178 x256, ()) (hB := (.cons 0 rfl .nil)) (hR := (.cons 0 rfl .nil)) (hF := (qo 0 rfl qA)))))
 exact qa (qd rfl rfl rfl (qd rfl rfl rfl (qN rfl rfl rfl rfl (qN rfl rfl rfl rfl (qb rfl rfl rfl (qc (qn (iadd .i64 x178 (iadd .i64 x240.1 2), ()) (hB := (.cons 0 rfl .nil)) (hR := (.cons 0 rfl .nil)) (hF := (qo 0 rfl qA)))))))))
 rintro ⟨x244, _⟩
 try dsimp only
 refine qf (qa (qd rfl rfl rfl (qd rfl rfl rfl (qd rfl rfl rfl (qd rfl rfl rfl (qd rfl rfl rfl (kH ent121 rfl rfl rfl (fun x245 e245 => kW F g1 x240.2.1 x3 a4 c5 x240.2.2 x9 x245 e245) (.cons 0 rfl .nil) .nil (.consF 0 rfl .nil) (fun x246 _ => ?_) (fun x245 e245 => ?_))))))))
 exact zp (qbH (zp (zp (qbH (zp (yK (.cons 0 rfl .nil)))))))
 intro _
 refine qd rfl rfl rfl (qN rfl rfl rfl rfl (q6 (cells := [.int .i64 x244, .int .i64 (iadd .i64 x245.1 x8)]) rfl st141 rfl (by kernel_rfl) rfl (jX (j := 0) rfl Tryz.underlying117 tf141 rfl rfl rfl rfl (fun x247 e247 g248 h249 => qel (j := 0) (y' := (x244, iadd .i64 x245.1 x8)) qbD rfl rfl rfl tf141 rfl h249 (ke e247).2.1 rfl (fun x250 e250 h251 => ?_)))))
 have h252 : x250.length = x177.length := by rw [← e250, List.length_set]
 refine qx (d := 9) (v := .slice a14 x250.length c15) rfl h251 (qx (d := 38) (v := .slice a14 x250.length c15) rfl h251 (qc (qe (qa (qd rfl rfl rfl (qd rfl rfl rfl (qd rfl rfl rfl (jX (j := 0) rfl Tryz.underlying117 tf141 rfl rfl rfl rfl (fun x253 e253 g254 h255 => qj rfl rfl qbR rfl (qjw (j := 0) (y := x253) (off := 1) qbD rfl rfl tf3 rfl h255 (ke e253).2.2 rfl (fun _ => rfl) rfl rfl (zO rfl rfl rfl rfl (qN rfl rfl rfl rfl ?_))))))))))))
 exact qb rfl rfl rfl (qc (qU (qe (qa (qN rfl rfl rfl rfl (qd rfl rfl rfl (qc (q4 ((x250, iadd .i64 x244 (isub .i64 x253.2 1), iadd .i64 x179 1, x245.2.1, x245.2.2), ()) (hB := (.cons 0 rfl .nil)) (hR := (.cons 0 rfl .nil)) (hF := (qo 0 rfl qA))))))))))
 exact zn (qF (qF (zo (qn ((x177, x180, x181), ()) (hB := (.cons 0 rfl .nil)) (hR := (.cons 0 rfl .nil)) (hF := (qo 0 rfl qA))))))
 rintro ⟨⟨x136, x137, x138⟩, _⟩
 try dsimp only
 exact qf (qa (qd rfl rfl rfl (qb rfl rfl rfl (qc (qe (qv (qba (a14, c15) (.inl rfl) (res1 rfl rfl) rfl (.cons 0 rfl .nil) (.cons 0 rfl .nil))))))))
theorem qdm (F : Nat) (x1 : List Int) (a2 : Option Addr) (c3 : Nat) (x4 : Int) (r : List Int) (hm : yU F x1 c3 x4 = some r) :
    PureM Tryz.prog 144 [.slice a2 x1.length c3, .int .i64 x4] [] [Ro (eI .i64) 3 1 (.slice a2 x1.length c3) x1] [] (Option Addr × Nat) (fun g => .slice g.1 r.length g.2) (fun _ => []) (fun g => [Ro (eI .i64) 3 1 (.slice g.1 r.length g.2) r]) := by
 refine kU Tryz.func144 rfl Tryz.ntmps144 rfl hm (fun w => qG (l' := [(0, .slice a2 x1.length c3), (1, .int .i64 x4)]) rfl (qf (qa (qb rfl rfl rfl (qc (qe (qf (qf (qa (qd rfl rfl rfl (qZ rfl rfl rfl rfl (qc ?_))))))))))))
 refine qe (qC rfl (fun h23 => ?_) (fun h23 => ?_))
 exact qiQ
 refine qt (qe (qH (fun ((x15, (a13, c14)) : (List Int × (Option Addr × Nat))) => [(0, .slice a13 x15.length c14)]) (fun ((x15, (a13, c14)) : (List Int × (Option Addr × Nat))) => []) (fun ((x15, (a13, c14)) : (List Int × (Option Addr × Nat))) => [Ro (eI .i64) 3 1 (.slice a13 x15.length c14) x15]) (fun ((x15, (a13, c14)) : (List Int × (Option Addr × Nat))) => []) (fun ((x15, _) : (List Int × (Option Addr × Nat))) => vw F x15) ?_ ?_))
 refine qf (qa (qd rfl rfl rfl (qd rfl rfl rfl (qkv rfl Tryz.underlying37 rfl rfl (qd rfl rfl rfl (q3 rfl Tryz.underlying37 rfl rfl (zO rfl rfl rfl rfl (zO rfl rfl rfl rfl (qb rfl rfl rfl (qaj (fun x16 e16 => qx (d := 1) (v := .int .i64 x16) rfl (by rw [e16] <;> rfl) (qc ?_))))))))))))
 refine qe (qf (qa (qd rfl rfl rfl (zr rfl rfl rfl rfl (qc (qe (qC rfl (fun h22 => ?_) (fun h22 => ?_))))))))
 exact qa (qd rfl rfl rfl (qd rfl rfl rfl (qkv rfl Tryz.underlying37 rfl rfl (qiS (i := 0) (zd .i64) rfl Tryz.underlying37 tf3 rfl rfl rfl rfl (fun x17 e17 => qd rfl rfl rfl (qmt (y := (0 : Int)) 0 (zd .i64) rfl Tryz.underlying37 Tryz.underlying3 tf3 rfl rfl rfl rfl rfl rfl rfl rfl rfl (fun x18 e18 a19 c20 => qd rfl rfl rfl (q3 rfl Tryz.underlying37 rfl rfl (qiS (i := 0) (zd .i64) rfl Tryz.underlying37 tf3 rfl rfl rfl rfl (fun x21 e21 => qb rfl rfl rfl (qc (qn (x21, (a19, c20)) (hR := (.cons 0 rfl .nil))))))))))))))
 exact qt (qn (x1, (a2, c3)) (hR := (.cons 0 rfl .nil)))
 rintro ⟨x15, ⟨a13, c14⟩⟩
 try dsimp only
 exact qf (qa (qd rfl rfl rfl (qb rfl rfl rfl (qc (qe (qv (zz (a13, c14) (res1 rfl rfl) (hR := fun h => by subst h; exact (.cons 0 rfl .nil)))))))))
theorem qax (F : Nat) (x1 : List (List Int)) (a2 : Option Addr) (c3 : (Nat × List (Option Addr × Nat))) (r : List Int) (hm : zU F x1 = some r) :
    Pure Tryz.prog 127 [.slice a2 x1.length c3.1] [SlN eN37 iN37 1 (.slice a2 x1.length c3.1) x1 c3.2] (Option Addr × Nat) (fun g => .slice g.1 r.length g.2) (fun g => [Ro (eI .i64) 3 1 (.slice g.1 r.length g.2) r]) (fun _ => []) := by
 refine qT Tryz.func127 rfl Tryz.ntmps127 rfl hm (fun w => qG (l' := [(0, .slice a2 x1.length c3.1)]) rfl (qf (qa (qb rfl rfl rfl (qc (qe (qf (qa (qb rfl rfl rfl (qc (qe (qH (fun ((x43, _) : (Int × Unit)) => [(0, .slice a2 x1.length c3.1), (3, .int .i64 x43)]) (fun ((x43, _) : (Int × Unit)) => []) (fun ((x43, _) : (Int × Unit)) => []) (fun ((x43, _) : (Int × Unit)) => [SlN eN37 iN37 1 (.slice a2 x1.length c3.1) x1 c3.2]) (fun ((x43, _) : (Int × Unit)) => kx F x1 x43) ?_ ?_))))))))))))
 refine qf (qa (qd rfl rfl rfl (q3 rfl Tryz.underlying22 rfl rfl (qd rfl rfl rfl (qc (qe (qD (zi (fun (((x168, x169), _) : ((Int × Int) × Unit)) => [(0, .slice a2 x1.length c3.1), (3, .int .i64 x168), (9, .slice a2 x1.length c3.1), (10, .int .i64 (x1.length : Int)), (11, .int .i64 x169)]) (fun (((x168, x169), _) : ((Int × Int) × Unit)) => []) (fun (((x168, x169), _) : ((Int × Int) × Unit)) => []) (fun (((x168, x169), _) : ((Int × Int) × Unit)) => [SlN eN37 iN37 1 (.slice a2 x1.length c3.1) x1 c3.2]) (fun k (s : ((Int × Int) × Unit)) => zl F x1 k s.1) ((0, 0), ()) F ?_ (hF := (qo 0 rfl qA))))))))))
 intro k182
 rintro ⟨⟨x168, x169⟩, _⟩
 try dsimp only
 refine zF (m' := zb F x1 (zl F x1 k182) x168 x169) rfl (qf (qa (qZ rfl rfl rfl rfl (qc (qe (qf (qC rfl (fun h194 => ?_) (fun h194 => ?_))))))))
 refine qt (qe (qf (qD (qf (qa (qce (j := 0) yY (by decide) rfl Tryz.underlying22 tf37 rfl rfl rfl rfl (fun x189 e189 g192 b190 o191 => kb (j := 0) rfl rfl tf37 rfl rfl (fun _ => rfl) rfl rfl (qb rfl rfl rfl (qc (qe (qf (qa ?_))))))))))))
 refine qd rfl rfl rfl (qd rfl rfl rfl (q3 rfl Tryz.underlying37 rfl rfl (qN rfl rfl rfl rfl (qb rfl rfl rfl (qc (qe (qf (qa (qd rfl rfl rfl (qZ rfl rfl rfl rfl (qc (qe ?_))))))))))))
 refine qC rfl (fun h193 => ?_) (fun h193 => ?_)
 exact qiQ
 exact qt (qU (qe (qa (qN rfl rfl rfl rfl (qd rfl rfl rfl (qc (q4 ((iadd .i64 x168 (x189.length : Int), iadd .i64 x169 1), ()) (hF := (qo 2 rfl qA)))))))))
 exact zn (qF (qF (zo (qn (x168, ()) (hF := (qo 0 rfl qA))))))
 rintro ⟨x43, _⟩
 try dsimp only
 refine qf (qa (qd rfl rfl rfl (zG Int (eI .i64) 3 1 (q2 ent144 rfl rfl rfl (fun x44 e44 => qdm F ([] : List Int) none 0 x43 x44 e44) .nil (.cons 0 rfl .nil) .nil (fun x44 e44 => ?_)))))
 rintro ⟨a45, c46⟩
 refine qb rfl rfl rfl (qc (qe (qH (fun ((x102, (a100, c101)) : (List Int × (Option Addr × Nat))) => [(6, .slice a100 x102.length c101)]) (fun ((x102, (a100, c101)) : (List Int × (Option Addr × Nat))) => []) (fun ((x102, (a100, c101)) : (List Int × (Option Addr × Nat))) => [Ro (eI .i64) 3 1 (.slice a100 x102.length c101) x102]) (fun ((x102, (a100, c101)) : (List Int × (Option Addr × Nat))) => []) (fun ((x102, _) : (List Int × (Option Addr × Nat))) => yN F x102) ?_ ?_)))
 refine qf (qa (qd rfl rfl rfl (q3 rfl Tryz.underlying22 rfl rfl (qd rfl rfl rfl (qc (qe (qD (zi (fun (((x121, x122), (a119, c120)) : ((List Int × Int) × (Option Addr × Nat))) => [(6, .slice a119 x121.length c120), (25, .slice a2 x1.length c3.1), (26, .int .i64 (x1.length : Int)), (27, .int .i64 x122)]) (fun (((x121, x122), (a119, c120)) : ((List Int × Int) × (Option Addr × Nat))) => []) (fun (((x121, x122), (a119, c120)) : ((List Int × Int) × (Option Addr × Nat))) => [Ro (eI .i64) 3 1 (.slice a119 x121.length c120) x121]) (fun (((x121, x122), (a119, c120)) : ((List Int × Int) × (Option Addr × Nat))) => [SlN eN37 iN37 1 (.slice a2 x1.length c3.1) x1 c3.2]) (fun k (s : ((List Int × Int) × (Option Addr × Nat))) => zk F x1 k s.1) ((x44, 0), (a45, c46)) F ?_ (hR := (.cons 0 rfl .nil)) (hF := (qo 0 rfl qA))))))))))
 intro k139
 rintro ⟨⟨x121, x122⟩, ⟨a119, c120⟩⟩
 try dsimp only
 refine zF (m' := za F x1 (zk F x1 k139) x121 x122) rfl (qf (qa (qZ rfl rfl rfl rfl (qc (qe (qf (qC rfl (fun h155 => ?_) (fun h155 => ?_))))))))
 refine qt (qe (qf (qD (qf (qa (qce (j := 0) yY (by decide) rfl Tryz.underlying22 tf37 rfl rfl rfl rfl (fun x148 e148 g151 b149 o150 => kb (j := 0) rfl rfl tf37 rfl rfl (fun _ => rfl) rfl rfl (qb rfl rfl rfl (qc (qe (qa (qd rfl rfl rfl ?_))))))))))))
 exact qd rfl rfl rfl (yw 0 (zd .i64) rfl Tryz.underlying37 tf3 rfl rfl rfl rfl rfl (.inr ⟨1, rfl⟩) rfl rfl (fun x152 e152 a153 c154 => qb rfl rfl rfl (qc (qU (qe (qa (qN rfl rfl rfl rfl (qd rfl rfl rfl (qc (q4 ((x152, iadd .i64 x122 1), (a153, c154)) (hR := (.cons 0 rfl .nil)) (hF := (qo 2 rfl qA))))))))))))
 exact zn (qF (qF (zo (qn (x121, (a119, c120)) (hR := (.cons 0 rfl .nil))))))
 rintro ⟨x102, ⟨a100, c101⟩⟩
 try dsimp only
 exact qf (qa (qd rfl rfl rfl (qb rfl rfl rfl (qc (qe (qv (qs (a100, c101) (res1 rfl rfl) (fun h => by subst h; exact (.cons 0 rfl .nil)))))))))
theorem qaZ (F : Nat) (x1 : List Int) (a2 : Option Addr) (c3 : Nat) (r : List Int) (hm : zQ F x1 = some r) :
    PureM Tryz.prog 128 [.slice a2 x1.length c3] [] [Ro (eI .i64) 3 1 (.slice a2 x1.length c3) x1] [] Unit (fun _ => .tuple #[]) (fun _ => []) (fun _ => [Ro (eI .i64) 3 1 (.slice a2 r.length c3) r]) := by
  unfold zQ at hm
  split at hm
  · cases hm
    exact qjp Tryz.slices_Sort_int Tryz.slices_Sort_int_none (by assumption)
  · simp at hm
theorem qdT (F : Nat) (x1 : Int) (x2 : Int) (x3 : Int) (r : Bool) (hm : qaf F x1 x2 x3 = some r) :
    Pure Tryz.prog 148 [.int .i64 x1, .int .i64 x2, .int .i64 x3] [] Unit (fun _ => .bool r) (fun _ => []) (fun _ => []) := by
 refine qT Tryz.func148 rfl Tryz.ntmps148 rfl hm (fun w => qG (l' := [(0, .int .i64 x1), (1, .int .i64 x2), (2, .int .i64 x3)]) rfl (qf (qa (qb rfl rfl rfl (qc (qe (qf (qa (qd rfl rfl rfl (qd rfl rfl rfl (qbv rfl rfl rfl rfl (qd rfl rfl rfl ?_))))))))))))
 refine q8 4 (decide (x2 ≤ x1)) [(14, .bool ((decide (x2 ≤ x1)) && (decide (x1 ≤ x3))))] (fun h4 => ?_) (fun h4 => ?_) ?_
 exact qp (os := _) rfl (qR (k := 10) rfl h4 (qd rfl rfl rfl (qd rfl rfl rfl (qde rfl rfl rfl rfl (qw (b := true) rfl rfl rfl rfl (qx (d := 14) (v := .bool ((decide (x2 ≤ x1)) && (decide (x1 ≤ x3)))) rfl (by rw [h4]; simp only [Bool.true_and]) (qc (qE (qh rfl qO)))))))))
 exact qp (os := _) rfl (qQ (k := 10) rfl h4 (qi rfl rfl rfl (qi rfl rfl rfl (qi rfl rfl rfl (qw (b := false) rfl rfl rfl rfl (qx (d := 14) (v := .bool ((decide (x2 ≤ x1)) && (decide (x1 ≤ x3)))) rfl (by rw [h4]; simp only [Bool.false_and]) (qc (qE (qh rfl qO)))))))))
 exact qp (os := _) rfl (qb rfl rfl rfl (qc (qe (qv (qs () (res1 rfl rfl))))))
set_option maxHeartbeats 4000000 in
theorem qgL (F : Nat) (x1 : List (Int × Int)) (a2 : Option Addr) (c3 : Nat) (r : (List Int × Int)) (hm : qbt F x1 = some r) :
    Pure Tryz.prog 139 [.slice a2 x1.length c3] [Sl eS141 2 (.slice a2 x1.length c3) x1] (Option Addr × Nat) (fun g => .tuple #[.slice g.1 r.1.length g.2, .int .i64 r.2]) (fun g => [Ro (eI .i64) 3 1 (.slice g.1 r.1.length g.2) r.1]) (fun _ => []) := by
 refine qT Tryz.func139 rfl Tryz.ntmps139 rfl hm (fun w => qG (l' := [(0, .slice a2 x1.length c3)]) rfl (qf (qa (qb rfl rfl rfl (qb rfl rfl rfl (qc (qe (qf (qf (qa (qd rfl rfl rfl (q3 rfl Tryz.underlying117 rfl rfl ?_))))))))))))
 refine zr rfl rfl rfl rfl (qc (qe (qC rfl (fun h918 => ?_) (fun h918 => ?_))))
 exact qf (qa (qb rfl rfl rfl (qb rfl rfl rfl (qc (qe (qv (qq (q5 Int (eI .i64) 3 1 (qs (none, 0) (res2 rfl rfl rfl) (fun h => by subst h; exact (.cons 0 rfl .nil)))))))))))
 refine qt (qe (qf (qa (qb rfl rfl rfl (qc (qe (qH (fun ((_, _) : (Unit × Unit)) => [(0, .slice a2 x1.length c3)]) (fun ((_, _) : (Unit × Unit)) => []) (fun ((_, _) : (Unit × Unit)) => []) (fun ((_, _) : (Unit × Unit)) => [Sl eS141 2 (.slice a2 x1.length c3) x1]) (fun ((_, _) : (Unit × Unit)) => jJ F x1) ?_ ?_)))))))
 refine qf (qa (qd rfl rfl rfl (q3 rfl Tryz.underlying117 rfl rfl (qd rfl rfl rfl (qc (qe (qD (zi (fun (((x807, x808), _) : ((Int × Int) × Unit)) => [(0, .slice a2 x1.length c3), (4, .int .i64 x807), (14, .slice a2 x1.length c3), (15, .int .i64 (x1.length : Int)), (16, .int .i64 x808)]) (fun (((x807, x808), _) : ((Int × Int) × Unit)) => []) (fun (((x807, x808), _) : ((Int × Int) × Unit)) => []) (fun (((x807, x808), _) : ((Int × Int) × Unit)) => [Sl eS141 2 (.slice a2 x1.length c3) x1]) (fun k (s : ((Int × Int) × Unit)) => kO F x1 k s.1) ((-2, 0), ()) F ?_ (hF := (qo 0 rfl qA))))))))))
 intro k863
 rintro ⟨⟨x807, x808⟩, _⟩
 try dsimp only
 refine zF (m' := jI F x1 (kO F x1 k863) x807 x808) rfl (qf (qa (qZ rfl rfl rfl rfl (qc (qe (qf (qC rfl (fun h917 => ?_) (fun h917 => ?_))))))))
 refine qt (qe (qf (qD (qf (qa (kh (j := 0) qbD (by decide) rfl Tryz.underlying117 tf141 rfl rfl rfl rfl (fun x891 e891 b892 o893 => kb (j := 0) rfl rfl tf141 rfl rfl (by simp) rfl rfl (qM rfl tf141 rfl (fun g894 => qu (i := 0) rfl rfl rfl tf141 rfl rfl rfl rfl rfl (qc (qe (qf ?_))))))))))))
 refine qD (qH (fun ((x910, _) : (Bool × Unit)) => [(0, .slice a2 x1.length c3), (4, .int .i64 x807), (6, .pointer (some ⟨g894, 0, none⟩)), (14, .slice a2 x1.length c3), (15, .int .i64 (x1.length : Int)), (16, .int .i64 x808), (20, .bool x910)]) (fun ((x910, _) : (Bool × Unit)) => [⟨g894, 141, [.int .i64 x891.1, .int .i64 x891.2]⟩]) (fun ((x910, _) : (Bool × Unit)) => []) (fun ((x910, _) : (Bool × Unit)) => [Sl eS141 2 (.slice a2 x1.length c3) x1]) (fun ((x910, _) : (Bool × Unit)) => vo F (kO F x1 k863) x807 x808 x891 x910) ?_ ?_)
 refine qf (qa (qj rfl rfl qbQ rfl (qk (i := 0) rfl rfl tf3 rfl rfl (fun _ => rfl) rfl rfl (qy ent148 rfl rfl rfl (fun x913 e913 => qdT F x891.1 0 1048576 x913 e913) .nil (fun x913 e913 => ?_)))))
 intro _
 refine kn rfl rfl rfl (qb rfl rfl rfl (qc (qe (qC rfl (fun h916 => ?_) (fun h916 => ?_)))))
 exact qt (qn ((!x913), ()) (hB := (.cons 0 rfl .nil)) (hF := (qo 1 rfl qA)))
 refine qf (qa (qj rfl rfl qbR rfl (qk (i := 0) rfl rfl tf3 rfl rfl (fun _ => rfl) rfl rfl (qy ent148 rfl rfl rfl (fun x914 e914 => qdT F x891.2 1 300 x914 e914) .nil (fun x914 e914 => ?_)))))
 intro _
 refine kn rfl rfl rfl (qb rfl rfl rfl (qc (qe (qC rfl (fun h915 => ?_) (fun h915 => ?_)))))
 exact qt (qn ((!x914), ()) (hB := (.cons 0 rfl .nil)) (hF := (qo 1 rfl qA)))
 exact qa (qj rfl rfl qbQ rfl (qk (i := 0) rfl rfl tf3 rfl rfl (fun _ => rfl) rfl rfl (qj rfl rfl qbR rfl (qk (i := 0) rfl rfl tf3 rfl rfl (fun _ => rfl) rfl rfl (qN rfl rfl rfl rfl (zO rfl rfl rfl rfl (zr rfl rfl rfl rfl (qb rfl rfl rfl (qc (qn ((decide (1048576 < (isub .i64 (iadd .i64 x891.1 x891.2) 1))), ()) (hB := (.cons 0 rfl .nil)) (hF := (qo 1 rfl qA))))))))))))
 rintro ⟨x910, _⟩
 try dsimp only
 refine qC rfl (fun h912 => ?_) (fun h912 => ?_)
 refine qf (qa (qb rfl rfl rfl (qb rfl rfl rfl (qc (qe (qv (qP (qq (qP (qq (qq (qP ?_))))))))))))
 exact qq (q5 Int (eI .i64) 3 1 (qs (none, 0) (res2 rfl rfl rfl) (fun h => by subst h; exact (.cons 0 rfl .nil))))
 refine qf (qa (qj rfl rfl qbQ rfl (qk (i := 0) rfl rfl tf3 rfl rfl (fun _ => rfl) rfl rfl (qd rfl rfl rfl (qN rfl rfl rfl rfl (qZ rfl rfl rfl rfl (qb rfl rfl rfl (qc (qe (qC rfl (fun h911 => ?_) (fun h911 => ?_)))))))))))
 refine qf (qa (qb rfl rfl rfl (qb rfl rfl rfl (qc (qe (qv (qP (qq (qP (qq (qq (qP ?_))))))))))))
 exact qq (q5 Int (eI .i64) 3 1 (qs (none, 0) (res2 rfl rfl rfl) (fun h => by subst h; exact (.cons 0 rfl .nil))))
 refine qt (qU (qe (qa (qj rfl rfl qbQ rfl (qk (i := 0) rfl rfl tf3 rfl rfl (fun _ => rfl) rfl rfl (qj rfl rfl qbR rfl (qk (i := 0) rfl rfl tf3 rfl rfl (fun _ => rfl) rfl rfl (qN rfl rfl rfl rfl (zO rfl rfl rfl rfl (qb rfl rfl rfl (qc (qU ?_))))))))))))
 exact qe (qa (qN rfl rfl rfl rfl (qd rfl rfl rfl (qc (q4 ((isub .i64 (iadd .i64 x891.1 x891.2) 1, iadd .i64 x808 1), ()) (hF := (qo 0 rfl qA)))))))
 exact zn (qF (qF (zo (qn ((), ()) (hF := (qo 0 rfl qA))))))
 rintro ⟨_, _⟩
 try dsimp only
 refine qf (qa (qb rfl rfl rfl (qc (qe (qH (fun ((x462, (a460, c461)) : (List Int × (Option Addr × Nat))) => [(7, .slice a460 x462.length c461)]) (fun ((x462, (a460, c461)) : (List Int × (Option Addr × Nat))) => []) (fun ((x462, (a460, c461)) : (List Int × (Option Addr × Nat))) => [Ro (eI .i64) 3 1 (.slice a460 x462.length c461) x462]) (fun ((x462, (a460, c461)) : (List Int × (Option Addr × Nat))) => []) (fun ((x462, _) : (List Int × (Option Addr × Nat))) => qco F x462) ?_ ?_)))))
 refine qf (qa (qd rfl rfl rfl (q3 rfl Tryz.underlying117 rfl rfl (qd rfl rfl rfl (qc (qe (qD (yR Int (eI .i64) 3 1 (zi (fun (((x560, x561), (a558, c559)) : ((List Int × Int) × (Option Addr × Nat))) => [(7, .slice a558 x560.length c559), (49, .slice a2 x1.length c3), (50, .int .i64 (x1.length : Int)), (51, .int .i64 x561)]) (fun (((x560, x561), (a558, c559)) : ((List Int × Int) × (Option Addr × Nat))) => []) (fun (((x560, x561), (a558, c559)) : ((List Int × Int) × (Option Addr × Nat))) => [Ro (eI .i64) 3 1 (.slice a558 x560.length c559) x560]) (fun (((x560, x561), (a558, c559)) : ((List Int × Int) × (Option Addr × Nat))) => [Sl eS141 2 (.slice a2 x1.length c3) x1]) (fun k (s : ((List Int × Int) × (Option Addr × Nat))) => zJ F x1 k s.1) ((([] : List Int), 0), (none, 0)) F ?_ (hR := (.cons 0 rfl .nil)) (hF := (qo 0 rfl qA)))))))))))
 intro k657
 rintro ⟨⟨x560, x561⟩, ⟨a558, c559⟩⟩
 try dsimp only
 refine zF (m' := jG F x1 (zJ F x1 k657) x560 x561) rfl (qf (qa (qZ rfl rfl rfl rfl (qc (qe (qf (qC rfl (fun h752 => ?_) (fun h752 => ?_))))))))
 refine qt (qe (qH (fun ((x706, (a704, c705)) : (List Int × (Option Addr × Nat))) => [(7, .slice a704 x706.length c705), (49, .slice a2 x1.length c3), (50, .int .i64 (x1.length : Int)), (51, .int .i64 x561)]) (fun ((x706, (a704, c705)) : (List Int × (Option Addr × Nat))) => []) (fun ((x706, (a704, c705)) : (List Int × (Option Addr × Nat))) => [Ro (eI .i64) 3 1 (.slice a704 x706.length c705) x706]) (fun ((x706, (a704, c705)) : (List Int × (Option Addr × Nat))) => [Sl eS141 2 (.slice a2 x1.length c3) x1]) (fun ((x706, _) : (List Int × (Option Addr × Nat))) => jK F (zJ F x1 k657) x561 x706) ?_ ?_))
 refine qD (qf (qa (kh (j := 0) qbD (by decide) rfl Tryz.underlying117 tf141 rfl rfl rfl rfl (fun x707 e707 b708 o709 => kb (j := 0) rfl rfl tf141 rfl rfl (by simp) rfl rfl (qM rfl tf141 rfl (fun g710 => qu (i := 0) rfl rfl rfl tf141 rfl rfl rfl rfl rfl (qc (qe (qf (qa (qj rfl rfl qbR rfl (qk (i := 0) rfl rfl tf3 rfl rfl (fun _ => rfl) rfl rfl ?_))))))))))))
 refine qd rfl rfl rfl (qc (qe (qD (zi (fun (((x725, x726), (a723, c724)) : ((List Int × Int) × (Option Addr × Nat))) => [(7, .slice a723 x725.length c724), (9, .pointer (some ⟨g710, 0, none⟩)), (49, .slice a2 x1.length c3), (50, .int .i64 (x1.length : Int)), (51, .int .i64 x561), (56, .int .i64 x707.2), (57, .int .i64 x726)]) (fun (((x725, x726), (a723, c724)) : ((List Int × Int) × (Option Addr × Nat))) => [⟨g710, 141, [.int .i64 x707.1, .int .i64 x707.2]⟩]) (fun (((x725, x726), (a723, c724)) : ((List Int × Int) × (Option Addr × Nat))) => [Ro (eI .i64) 3 1 (.slice a723 x725.length c724) x725]) (fun (((x725, x726), (a723, c724)) : ((List Int × Int) × (Option Addr × Nat))) => [Sl eS141 2 (.slice a2 x1.length c3) x1]) (fun k (s : ((List Int × Int) × (Option Addr × Nat))) => yp F (zJ F x1 k657) x561 x707 k s.1) ((x560, 0), (a558, c559)) F ?_ (hB := (.cons 0 rfl .nil)) (hR := (.cons 0 rfl .nil)) (hF := (qo 1 rfl qA))))))
 intro k739
 rintro ⟨⟨x725, x726⟩, ⟨a723, c724⟩⟩
 try dsimp only
 refine zF (m' := jH F (zJ F x1 k657) x561 x707 (yp F (zJ F x1 k657) x561 x707 k739) x725 x726) rfl (qf (qa (qZ rfl rfl rfl rfl (qc (qe (qf (qC rfl (fun h751 => ?_) (fun h751 => ?_))))))))
 refine qt (qe (qf (qD (qf (qa (qd rfl rfl rfl (qb rfl rfl rfl (qc (qe (qa (qd rfl rfl rfl (qj rfl rfl qbQ rfl ?_))))))))))))
 refine qk (i := 0) rfl rfl tf3 rfl rfl (fun _ => rfl) rfl rfl (qd rfl rfl rfl (qN rfl rfl rfl rfl (zB (vs := [.int .i64 (iadd .i64 x707.1 x726)]) (ys := ([iadd .i64 x707.1 x726] : List Int)) (zd .i64) (by decide) rfl Tryz.underlying37 tf3 rfl rfl rfl rfl rfl (by decide) (fun a746 c747 => yw 1 (zd .i64) rfl Tryz.underlying37 tf3 rfl rfl rfl rfl rfl (.inl ⟨0, _, rfl⟩) rfl rfl (fun x748 e748 a749 c750 => qb rfl rfl rfl (qc (qU (qe (qa (qN rfl rfl rfl rfl (qd rfl rfl rfl (qc ?_))))))))))))
 exact q4 ((x748, iadd .i64 x726 1), (a749, c750)) (hB := (.cons 0 rfl .nil)) (hR := (.cons 0 rfl .nil)) (hF := (qo 0 rfl qA))
 exact zn (qF (qF (zo (qU (qn (x725, (a723, c724)) (hR := (.cons 0 rfl .nil)) (hF := (qo 0 rfl qA)))))))
 rintro ⟨x706, ⟨a704, c705⟩⟩
 try dsimp only
 exact qa (qN rfl rfl rfl rfl (qd rfl rfl rfl (qc (q4 ((x706, iadd .i64 x561 1), (a704, c705)) (hR := (.cons 0 rfl .nil)) (hF := (qo 0 rfl qA))))))
 exact zn (qF (qF (zo (qn (x560, (a558, c559)) (hR := (.cons 0 rfl .nil))))))
 rintro ⟨x462, ⟨a460, c461⟩⟩
 try dsimp only
 exact qf (qa (qd rfl rfl rfl (qb rfl rfl rfl (qb rfl rfl rfl (qc (qe (qv (qs (a460, c461) (res2 rfl rfl rfl) (fun h => by subst h; exact (.cons 0 rfl .nil))))))))))
theorem qcv (F : Nat) (x1 : List Int) (a2 : Option Addr) (c3 : Nat) (r : List Int) (hm : kB F x1 = some r) :
    PureM Tryz.prog 140 [.slice a2 x1.length c3] [] [Ro (eI .i64) 3 1 (.slice a2 x1.length c3) x1] [] (Option Addr × Nat) (fun g => .slice g.1 r.length g.2) (fun _ => []) (fun g => [Ro (eI .i64) 3 1 (.slice g.1 r.length g.2) r]) := by
  unfold kB at hm
  split at hm
  · cases hm
    exact qgM Tryz.slices_Compact_int Tryz.slices_Compact_int_empty (by assumption)
  · simp at hm
theorem qcV (F : Nat) (x1 : List Int) (a2 : Option Addr) (c3 : Nat) (r : List Int) (hm : yF F x1 = some r) :
    Pure Tryz.prog 141 [.slice a2 x1.length c3] [Sl (eI .i64) 1 (.slice a2 x1.length c3) x1] (Option Addr × Nat) (fun g => .slice g.1 r.length g.2) (fun g => [Ro (eI .i64) 3 1 (.slice g.1 r.length g.2) r]) (fun _ => []) := by
 refine qT Tryz.func141 rfl Tryz.ntmps141 rfl hm (fun w => qG (l' := [(0, .slice a2 x1.length c3)]) rfl (qf (qa (qb rfl rfl rfl (qc (qe (qf (qf (qa (qd rfl rfl rfl (qhg rfl Tryz.underlying37 rfl rfl rfl (qc ?_))))))))))))
 refine qe (qaY rfl (fun h11 => ?_) (fun h11 => ?_))
 refine qiP 0 (zd .i64) (by decide) rfl h11 (fun h12 => ?_)
 subst h12
 exact zF (m' := some ([] : List Int)) rfl (qf (qa (qb rfl rfl rfl (qc (qe (qv (qq (q5 Int (eI .i64) 3 1 (qs (none, 0) (res1 rfl rfl) (fun h => by subst h; exact (.cons 0 rfl .nil)))))))))))
 exact qt (qe (qf (qa (zB (vs := []) (ys := ([] : List Int)) (zd .i64) (by decide) rfl Tryz.underlying37 tf3 rfl rfl rfl rfl rfl (by decide) (fun a6 c7 => qd rfl rfl rfl (yw 0 (zd .i64) rfl Tryz.underlying37 tf3 rfl rfl rfl rfl rfl (.inr ⟨0, rfl⟩) rfl rfl (fun x8 e8 a9 c10 => qb rfl rfl rfl (qc (qe (qv (qs (a9, c10) (res1 rfl rfl) (fun h => by subst h; exact (.cons 0 rfl .nil)))))))))))))
theorem qhr (F : Nat) (x1 : List (Int × Int)) (a2 : Option Addr) (c3 : Nat) (x4 : List Int) (a5 : Option Addr) (c6 : Nat) (r : (List Int × Int)) (hm : qbP F x1 x4 = some r) :
    Pure Tryz.prog 125 [.slice a2 x1.length c3, .slice a5 x4.length c6] [Sl eS141 2 (.slice a2 x1.length c3) x1, Sl (eI .i64) 1 (.slice a5 x4.length c6) x4] (Option Addr × Nat) (fun g => .tuple #[.slice g.1 r.1.length g.2, .int .i64 r.2]) (fun g => [Ro (eI .i64) 3 1 (.slice g.1 r.1.length g.2) r.1]) (fun _ => []) := by
  refine qT Tryz.func125 rfl Tryz.ntmps125 rfl hm (fun w => ?_)
  refine qG (l' := [(0, .slice a2 x1.length c3), (1, .slice a5 x4.length c6)]) rfl ?_
  refine qf ?_
  refine qa ?_
  refine qb rfl rfl rfl ?_
  refine qb rfl rfl rfl ?_
  refine qc ?_
  refine qe ?_
  refine qf ?_
  refine qa ?_
  refine qd rfl rfl rfl ?_
  refine qy ent139 rfl rfl rfl (fun x7 e7 => qgL F x1 a2 c3 x7 e7) (.consF 0 rfl .nil) (fun x7 e7 => ?_)
  rintro ⟨a8, c9⟩
  refine qd rfl rfl rfl ?_
  refine qr rfl rfl rfl rfl ?_
  refine qr rfl rfl rfl rfl ?_
  refine qb rfl rfl rfl ?_
  refine qb rfl rfl rfl ?_
  refine qc ?_
  refine qe ?_
  refine qH (fun ((x12, _) : (Int × Unit)) => [(1, .slice a5 x4.length c6), (6, .slice a8 x7.1.length c9), (7, .int .i64 x12)]) (fun ((x12, _) : (Int × Unit)) => []) (fun ((x12, _) : (Int × Unit)) => [Ro (eI .i64) 3 1 (.slice a8 x7.1.length c9) x7.1]) (fun ((x12, _) : (Int × Unit)) => [Sl (eI .i64) 1 (.slice a5 x4.length c6) x4]) (fun ((x12, _) : (Int × Unit)) => jf F x4 x7 x12) ?_ ?_
  · refine qf ?_
    refine qa ?_
    refine qd rfl rfl rfl ?_
    refine zj rfl rfl rfl rfl ?_
    refine qc ?_
    refine qe ?_
    refine qC rfl (fun h39 => ?_) (fun h39 => ?_)
    · refine qa ?_
      refine qd rfl rfl rfl ?_
      refine qy ent47 rfl rfl rfl (fun x38 e38 => qaC F x4 a5 c6 x38 e38) (.consF 1 rfl .nil) (fun x38 e38 => ?_)
      intro _
      refine qb rfl rfl rfl ?_
      refine qc ?_
      exact qn (x38, ()) (hR := (.cons 0 rfl .nil)) (hF := (qo 1 rfl qA))
    · refine qt ?_
      exact qn (x7.2, ()) (hR := (.cons 0 rfl .nil)) (hF := (qo 1 rfl qA))
  · rintro ⟨x12, _⟩
    try dsimp only
    refine qf ?_
    refine qf ?_
    refine qa ?_
    refine qd rfl rfl rfl ?_
    refine zN rfl rfl rfl rfl ?_
    refine qc ?_
    refine qe ?_
    refine qC rfl (fun h37 => ?_) (fun h37 => ?_)
    · refine qf ?_
      refine qa ?_
      refine qd rfl rfl rfl ?_
      refine qb rfl rfl rfl ?_
      refine qb rfl rfl rfl ?_
      refine qc ?_
      refine qe ?_
      refine qv ?_
      refine qq ?_
      refine q5 Int (eI .i64) 3 1 ?_
      exact qs (none, 0) (res2 rfl rfl rfl) (fun h => by subst h; exact (.cons 0 rfl .nil))
    · refine qt ?_
      refine qe ?_
      refine qf ?_
      refine qa ?_
      refine qd rfl rfl rfl ?_
      refine qd rfl rfl rfl ?_
      refine qdd 0 rfl ?_
      refine zB (vs := [.slice a8 x7.1.length c9, .slice a5 x4.length c6]) (ys := ([(x7.1, (a8, c9)), (x4, (a5, c6))] : List (List Int × (Option Addr × Nat)))) yY (by decide) rfl Tryz.underlying22 tf37 rfl rfl rfl rfl rfl (by decide) (fun a14 c15 => ?_)
      refine qhh (inn := iN37) ([x7.1, x4] : List (List Int)) ([(a8, c9), (a5, c6)] : List (Option Addr × Nat)) 0 rfl rfl (qo 0 rfl (qo 1 rfl qA)) ?_
      refine qy ent127 rfl rfl rfl (fun x16 e16 => qax F ([x7.1, x4] : List (List Int)) a14 (c15, ([(a8, c9), (a5, c6)] : List (Option Addr × Nat))) x16 e16) (.consF 0 rfl .nil) (fun x16 e16 => ?_)
      rintro ⟨a17, c18⟩
      refine qb rfl rfl rfl ?_
      refine qc ?_
      refine qe ?_
      refine qf ?_
      refine qa ?_
      refine qd rfl rfl rfl ?_
      refine q2 ent128 rfl rfl rfl (fun x19 e19 => qaZ F x16 a17 c18 x19 e19) .nil (.cons 0 rfl .nil) .nil (fun x19 e19 => ?_)
      intro _
      refine qbu (fun h20 => ?_)
      replace h20 := of_decide_eq_true h20
      refine qx (d := 8) (v := .slice a17 x19.length c18) rfl (by rw [h20] <;> rfl) ?_
      refine qx (d := 24) (v := .slice a17 x19.length c18) rfl (by rw [h20] <;> rfl) ?_
      refine qx (d := 25) (v := .slice a17 x19.length c18) rfl (by rw [h20] <;> rfl) ?_
      refine qc ?_
      refine qe ?_
      refine qf ?_
      refine qD ?_
      refine qf ?_
      refine qa ?_
      refine qd rfl rfl rfl ?_
      refine qy ent141 rfl rfl rfl (fun x29 e29 => qcV F x19 a17 c18 x29 e29) (.consR 0 (Ro (eI .i64) 3 1 (.slice a17 x19.length c18) x19) rfl .nil) (fun x29 e29 => ?_)
      rintro ⟨a30, c31⟩
      refine q2 ent140 rfl rfl rfl (fun x32 e32 => qcv F x29 a30 c31 x32 e32) .nil (.cons 0 rfl .nil) .nil (fun x32 e32 => ?_)
      rintro ⟨a33, c34⟩
      refine q3 rfl Tryz.underlying37 rfl rfl ?_
      refine qd rfl rfl rfl ?_
      refine q3 rfl Tryz.underlying37 rfl rfl ?_
      refine qZ rfl rfl rfl rfl ?_
      refine qb rfl rfl rfl ?_
      refine qc ?_
      refine qe ?_
      refine qC rfl (fun h36 => ?_) (fun h36 => ?_)
      · refine qf ?_
        refine qa ?_
        refine qb rfl rfl rfl ?_
        refine qb rfl rfl rfl ?_
        refine qc ?_
        refine qe ?_
        refine qv ?_
        refine qP ?_
        refine qq ?_
        refine q5 Int (eI .i64) 3 1 ?_
        exact qs (none, 0) (res2 rfl rfl rfl) (fun h => by subst h; exact (.cons 0 rfl .nil))
      · refine qf ?_
        refine qa ?_
        refine qd rfl rfl rfl ?_
        refine q3 rfl Tryz.underlying37 rfl rfl ?_
        refine zr rfl rfl rfl rfl ?_
        refine qb rfl rfl rfl ?_
        refine qc ?_
        refine qe ?_
        refine qC rfl (fun h35 => ?_) (fun h35 => ?_)
        · refine qf ?_
          refine qa ?_
          refine qb rfl rfl rfl ?_
          refine qb rfl rfl rfl ?_
          refine qc ?_
          refine qe ?_
          refine qv ?_
          refine qP ?_
          refine qq ?_
          refine q5 Int (eI .i64) 3 1 ?_
          exact qs (none, 0) (res2 rfl rfl rfl) (fun h => by subst h; exact (.cons 0 rfl .nil))
        · refine qt ?_
          refine qU ?_
          refine qe ?_
          refine qf ?_
          refine qa ?_
          refine qd rfl rfl rfl ?_
          refine qb rfl rfl rfl ?_
          refine qb rfl rfl rfl ?_
          refine qc ?_
          refine qe ?_
          refine qv ?_
          exact qs (a17, c18) (res2 rfl rfl rfl) (fun h => by subst h; exact (.cons 1 rfl .nil))
theorem qd4 (F : Nat) (x1 : Int) (x2 : List Int) (a3 : Option Addr) (c4 : Nat) (x5 : Int) (x6 : Int) (r : (Int × Int × Bool)) (hm : zL F x1 x2 x5 x6 = some r) :
    Pure Tryz.prog 149 [.agg #[.int .i64 x1, .slice a3 x2.length c4], .int .i64 x5, .int .u64 x6] [Sl (eI .u8) 1 (.slice a3 x2.length c4) x2] Unit (fun _ => .tuple #[.int .u64 r.1, .int .i64 r.2.1, .bool r.2.2]) (fun _ => []) (fun _ => []) := by
 refine qT Tryz.func149 rfl Tryz.ntmps149 rfl hm (fun w => qG (l' := [(0, .agg #[.int .i64 x1, .slice a3 x2.length c4]), (1, .int .i64 x5), (2, .int .u64 x6)]) rfl (qf (qa (qW rfl rfl rfl (fun g7 => qb rfl rfl rfl (qb rfl rfl rfl (qb rfl rfl rfl (qc (qe (qf (qa (qd rfl rfl rfl ?_))))))))))))
 refine qy ent135 rfl rfl rfl (fun x8 e8 => qdo F x6 x8 e8) .nil (fun x8 e8 _ => qd rfl rfl rfl (qr rfl rfl rfl rfl (qr rfl rfl rfl rfl (qb rfl rfl rfl (qb rfl rfl rfl (qc (qe (qH (fun ((_, _) : (Unit × Unit)) => [(1, .int .i64 x5), (3, .pointer (some ⟨g7, 0, none⟩)), (9, .int .i64 x8.1), (10, .int .u64 x8.2)]) (fun ((_, _) : (Unit × Unit)) => [⟨g7, 29, [.int .i64 x1, .slice a3 x2.length c4]⟩]) (fun ((_, _) : (Unit × Unit)) => []) (fun ((_, _) : (Unit × Unit)) => [Sl (eI .u8) 1 (.slice a3 x2.length c4) x2]) (fun ((_, _) : (Unit × Unit)) => zP F x1 x2 x5 x8) ?_ ?_))))))))
 refine qf (qa (qd rfl rfl rfl (zr rfl rfl rfl rfl (qc (qe (qC rfl (fun h19 => ?_) (fun h19 => ?_)))))))
 refine qf (qa (qk (i := 0) rfl rfl tf29 rfl rfl (by simp) rfl rfl (qd rfl rfl rfl (qd rfl rfl rfl (zO rfl rfl rfl rfl (qy ent68 rfl rfl rfl (fun x15 e15 => qcg F x1 x2 a3 c4 x5 (isub .i64 x8.1 1) x15 e15) (.consF 0 rfl .nil) (fun x15 e15 => ?_)))))))
 intro _
 refine qd rfl rfl rfl (qr rfl rfl rfl rfl (qr rfl rfl rfl rfl (qb rfl rfl rfl (qb rfl rfl rfl (qc (qe (qf (qf (qa (qd rfl rfl rfl (kn rfl rfl rfl (qc ?_))))))))))))
 refine qe (qC rfl (fun h18 => ?_) (fun h18 => ?_))
 exact qf (qa (qb rfl rfl rfl (qb rfl rfl rfl (qb rfl rfl rfl (qc (qe (qv (qq (qq (qs () (res3 rfl rfl rfl rfl)))))))))))
 refine qt (qe (qf (qa (qd rfl rfl rfl (qd rfl rfl rfl (qZ rfl rfl rfl rfl (qc (qe (qC rfl (fun h17 => ?_) (fun h17 => ?_))))))))))
 refine qf (qa (qd rfl rfl rfl (qd rfl rfl rfl (qd rfl rfl rfl (qN rfl rfl rfl rfl (zO rfl rfl rfl rfl (qb rfl rfl rfl (qb rfl rfl rfl (qb rfl rfl rfl (qc (qe (qv ?_))))))))))))
 exact qq (qs () (res3 rfl rfl rfl rfl))
 exact qt (qn ((), ()) (hB := (.cons 0 rfl .nil)) (hF := (qo 0 rfl qA)))
 exact qt (qn ((), ()) (hB := (.cons 0 rfl .nil)) (hF := (qo 0 rfl qA)))
 rintro ⟨_, _⟩
 try dsimp only
 refine qf (qa (qk (i := 0) rfl rfl tf29 rfl rfl (by simp) rfl rfl (qd rfl rfl rfl (qd rfl rfl rfl (qy ent68 rfl rfl rfl (fun x14 e14 => qcg F x1 x2 a3 c4 x5 x8.1 x14 e14) (.consF 0 rfl .nil) (fun x14 e14 => ?_))))))
 intro _
 refine qd rfl rfl rfl (qr rfl rfl rfl rfl (qr rfl rfl rfl rfl (qb rfl rfl rfl (qb rfl rfl rfl (qc (qe (qf (qa (qd rfl rfl rfl (qd rfl rfl rfl (zO rfl rfl rfl rfl (qd rfl rfl rfl ?_))))))))))))
 exact qd rfl rfl rfl (qN rfl rfl rfl rfl (qd rfl rfl rfl (qb rfl rfl rfl (qb rfl rfl rfl (qb rfl rfl rfl (qc (qe (qv (qs () (res3 rfl rfl rfl rfl))))))))))
theorem qfQ (F : Nat) (x1 : Int) (x2 : Int) (x3 : Bool) (r : (Int × Int × Int)) (hm : qaK F x1 x2 x3 = some r) :
    Pure Tryz.prog 150 [.int .u64 x1, .int .i64 x2, .bool x3] [] Unit (fun _ => .tuple #[.int .u64 r.1, .int .i64 r.2.1, .int .i64 r.2.2]) (fun _ => []) (fun _ => []) := by
 refine qT Tryz.func150 rfl Tryz.ntmps150 rfl hm (fun w => qG (l' := [(0, .int .u64 x1), (1, .int .i64 x2), (2, .bool x3)]) rfl (qf (qa (qb rfl rfl rfl (qb rfl rfl rfl (qb rfl rfl rfl (qc (qe (qf (qD (qf (qa ?_))))))))))))
 refine qd rfl rfl rfl (kn rfl rfl rfl (qb rfl rfl rfl (qc (qe (qC rfl (fun h7 => ?_) (fun h7 => ?_))))))
 exact qf (qa (qb rfl rfl rfl (qb rfl rfl rfl (qb rfl rfl rfl (qc (qe (qv (qP (qq (qs () (res3 rfl rfl rfl rfl)))))))))))
 refine qf (qa (qd rfl rfl rfl (zr rfl rfl rfl rfl (qb rfl rfl rfl (qc (qe (qC rfl (fun h6 => ?_) (fun h6 => ?_))))))))
 exact qf (qa (qb rfl rfl rfl (qb rfl rfl rfl (qb rfl rfl rfl (qc (qe (qv (qP (qq (qs () (res3 rfl rfl rfl rfl)))))))))))
 refine qt (qU (qe (qf (qa (qd rfl rfl rfl (qd rfl rfl rfl (qb rfl rfl rfl (qb rfl rfl rfl (qb rfl rfl rfl (qc (qe (qv ?_))))))))))))
 exact qs () (res3 rfl rfl rfl rfl)
theorem qeq (F : Nat) (x1 : Int) (x2 : List Int) (a3 : Option Addr) (c4 : Nat) (x5 : Int) (x6 : Int) (r : (Int × Int × Int)) (hm : ju F x1 x2 x5 x6 = some r) :
    Pure Tryz.prog 142 [.agg #[.int .i64 x1, .slice a3 x2.length c4], .int .i64 x5, .int .i64 x6] [Sl (eI .u8) 1 (.slice a3 x2.length c4) x2] Unit (fun _ => .tuple #[.int .u64 r.1, .int .i64 r.2.1, .int .i64 r.2.2]) (fun _ => []) (fun _ => []) := by
 refine qT Tryz.func142 rfl Tryz.ntmps142 rfl hm (fun w => qG (l' := [(0, .agg #[.int .i64 x1, .slice a3 x2.length c4]), (1, .int .i64 x5), (2, .int .i64 x6)]) rfl (qf (qa (qW rfl rfl rfl (fun g7 => qb rfl rfl rfl (qb rfl rfl rfl (qb rfl rfl rfl (qc (qe (qf (qa (qk (i := 0) rfl rfl tf29 rfl rfl (by simp) rfl rfl ?_))))))))))))
 refine qd rfl rfl rfl (qy ent120 rfl rfl rfl (fun x8 e8 => qet F x1 x2 a3 c4 x5 x8 e8) (.consF 0 rfl .nil) (fun x8 e8 => ?_))
 intro _
 refine qd rfl rfl rfl (qr rfl rfl rfl rfl (qr rfl rfl rfl rfl (qr rfl rfl rfl rfl (qb rfl rfl rfl (qb rfl rfl rfl (qb rfl rfl rfl (qc (qe (qf (qf (qa (qd rfl rfl rfl ?_))))))))))))
 refine kn rfl rfl rfl (qc (qe (qC rfl (fun h23 => ?_) (fun h23 => ?_))))
 exact qf (qa (qb rfl rfl rfl (qb rfl rfl rfl (qb rfl rfl rfl (qc (qe (qv (qq (qs () (res3 rfl rfl rfl rfl))))))))))
 refine qt (qe (qf (qf (qa (qd rfl rfl rfl (qd rfl rfl rfl (zV rfl Tryz.underlying3 Tryz.underlying50 rfl rfl (qkx rfl rfl rfl rfl (qbv rfl rfl rfl rfl (qc (qe (qC rfl (fun h22 => ?_) (fun h22 => ?_)))))))))))))
 exact qf (qa (qb rfl rfl rfl (qb rfl rfl rfl (qb rfl rfl rfl (qc (qe (qv (qq (qs () (res3 rfl rfl rfl rfl))))))))))
 refine qt (qe (qf (qa (qd rfl rfl rfl (zV rfl Tryz.underlying50 Tryz.underlying3 rfl rfl (qd rfl rfl rfl (qkx rfl rfl rfl rfl (qbu (fun h11 => qeR rfl rfl rfl rfl h11 (qb rfl rfl rfl (qaj (fun x12 e12 => qx (d := 12) (v := .int .u64 x12) rfl (by rw [e12] <;> rfl) ?_))))))))))))
 refine qc (qe (qf (qdK (fun h17 => zm mixed [] [⟨g7, 29, [.int .i64 x1, .slice a3 x2.length c4]⟩] [Sl (eI .u8) 1 (.slice a3 x2.length c4) x2] (.cons 0 rfl .nil) (q7 0 rfl qI) 15 rfl (qX 0 (.agg #[.int .i64 x1, .slice a3 x2.length c4]) rfl rfl rfl (qY (i := 0) rfl tf29 rfl rfl (by simp) rfl) (qg 1 (.int .i64 x8.2.1) rfl rfl rfl (qm rfl) (qg 2 (.int .u64 x12) rfl rfl rfl (qm rfl) (qg 3 (.int .i64 x6) rfl rfl rfl (qm rfl) (qg 4 (.int .u64 (ishl .u64 x12 x6)) rfl rfl rfl (qfj rfl rfl h17) (qg 5 (.int .u64 x12) rfl rfl rfl (qm rfl) (qg 6 (.int .u64 (isub .u64 (ishl .u64 x12 x6) x12)) rfl rfl rfl (qm rfl) (qL 7 rfl (by kernel_rfl) rfl ?_))))))))))))
 refine qy ent149 rfl rfl rfl (fun x20 e20 => qd4 F x1 x2 a3 c4 x8.2.1 (isub .u64 (ishl .u64 x12 x6) x12) x20 e20) (.consF 0 rfl .nil) (fun x20 e20 _ => qc (qK (.cons 0 rfl .nil) (q7 0 rfl qI) (qg 8 (.tuple #[.int .u64 x20.1, .int .i64 x20.2.1, .bool x20.2.2]) rfl rfl rfl (qm rfl) (qg 9 (.int .u64 x20.1) rfl rfl rfl (qm rfl) (qg 10 (.int .i64 x20.2.1) rfl rfl rfl (qm rfl) (qg 11 (.bool x20.2.2) rfl rfl rfl (qm rfl) (qg 12 (.int .u64 x20.1) rfl rfl rfl (qm rfl) (qg 13 (.int .i64 x20.2.1) rfl rfl rfl (qm rfl) (qg 14 (.bool x20.2.2) rfl rfl rfl (qm rfl) (qV (by kernel_rfl) (zw (qe ?_) (by intro c h; cases h))))))))))))
 refine qf (qa (qd rfl rfl rfl (qd rfl rfl rfl (qN rfl rfl rfl rfl (zO rfl rfl rfl rfl (qd rfl rfl rfl (qd rfl rfl rfl (qy ent150 rfl rfl rfl (fun x21 e21 => qfQ F (isub .u64 (iadd .u64 x12 x20.1) 1) x20.2.1 x20.2.2 x21 e21) .nil (fun x21 e21 => ?_)))))))))
 intro _
 exact qr rfl rfl rfl rfl (qr rfl rfl rfl rfl (qr rfl rfl rfl rfl (qb rfl rfl rfl (qb rfl rfl rfl (qb rfl rfl rfl (qc (qe (qv (qs () (res3 rfl rfl rfl rfl))))))))))
theorem qd3 (F : Nat) (g1 : Nat) (x2 : Int) (x3 : Bool) (x4 : Int) (r : (Bool × Int × Bool)) (hm : kD F x2 x3 x4 = some r) :
    PureM Tryz.prog 143 [.pointer (some ⟨g1, 0, none⟩), .int .u64 x4] [⟨g1, 162, [.int .i64 x2, .bool x3]⟩] [] [] Unit (fun _ => .bool r.1) (fun _ => [⟨g1, 162, [.int .i64 r.2.1, .bool r.2.2]⟩]) (fun _ => []) := by
 refine kU Tryz.func143 rfl Tryz.ntmps143 rfl hm (fun w => qG (l' := [(0, .pointer (some ⟨g1, 0, none⟩)), (1, .int .u64 x4)]) rfl (qf (qa (qb rfl rfl rfl (qc (qe (qf (qf (qa (qd rfl rfl rfl (zr rfl rfl rfl rfl (qc ?_))))))))))))
 refine qe (qC rfl (fun h12 => ?_) (fun h12 => ?_))
 exact qf (qa (qb rfl rfl rfl (qc (qe (qv (qq (zz () (res1 rfl rfl) (hB := fun h => by subst h; exact (.cons 0 rfl .nil)))))))))
 refine qt (qe (qH (fun ((x8, _) : (Int × Unit)) => [(0, .pointer (some ⟨g1, 0, none⟩))]) (fun ((x8, _) : (Int × Unit)) => [⟨g1, 162, [.int .i64 x8, .bool x3]⟩]) (fun ((x8, _) : (Int × Unit)) => []) (fun ((x8, _) : (Int × Unit)) => []) (fun ((x8, _) : (Int × Unit)) => k7 F x8) ?_ ?_))
 refine qf (qa (qd rfl rfl rfl (qS rfl rfl rfl (qj rfl rfl qfE rfl (qk (i := 0) rfl rfl tf4 rfl rfl (fun _ => rfl) rfl rfl (qc (qe (qC rfl (fun h11 => ?_) (fun h11 => ?_)))))))))
 refine qa (qd rfl rfl rfl (qS rfl rfl rfl (qj rfl rfl qbS rfl (qk (i := 0) rfl rfl tf3 rfl rfl (fun _ => rfl) rfl rfl (qd rfl rfl rfl (zV rfl Tryz.underlying50 Tryz.underlying3 rfl rfl (qN rfl rfl rfl rfl (qN rfl rfl rfl rfl (qS rfl rfl rfl (qj rfl rfl qbS rfl (qu (i := 0) rfl rfl rfl tf3 rfl rfl rfl rfl rfl (qc ?_))))))))))))
 exact qn (iadd .i64 x2 (iadd .i64 (iconv .i64 x4) 1), ()) (hB := (.cons 0 rfl .nil))
 refine zm mixed [9] [] [(BlkD.is ⟨g1, 162, [.int .i64 x2, .bool x3]⟩)] .nil (qca 0 rfl qI) 10 rfl (qg 0 (.pointer (some ⟨g1, 0, none⟩)) rfl rfl rfl (qm rfl) (qg 1 (.pointer (some ⟨g1, 0, none⟩)) rfl rfl rfl (qm rfl) (qg 2 (.pointer (some ⟨g1, 0, none⟩)) rfl rfl rfl (qz rfl qbS) (km 3 (.int .i64 x2) [[9]] rfl rfl rfl (jZ (j := 0) rfl tf3 rfl rfl (fun _ => rfl) rfl) (qg 4 (.int .u64 x4) rfl rfl rfl (qm rfl) (qL 5 rfl (by kernel_rfl) rfl (qy ent138 rfl rfl rfl (fun x10 e10 => qdi F x4 x10 e10) .nil (fun x10 e10 => ?_))))))))
 intro _
 exact qc (qK .nil (qca 0 rfl qI) (qg 6 (.int .i64 (iadd .i64 x2 x10)) rfl rfl rfl (qm rfl) (qg 7 (.pointer (some ⟨g1, 0, none⟩)) rfl rfl rfl (qm rfl) (qg 8 (.pointer (some ⟨g1, 0, none⟩)) rfl rfl rfl (qz rfl qbS) (qL 9 rfl (by kernel_rfl) rfl (qu (i := 0) rfl rfl rfl tf3 rfl rfl rfl rfl rfl (qc (vJ 9 rfl (by kernel_rfl) .nil (qV (by kernel_rfl) (zw (qn (iadd .i64 x2 x10, ()) (hB := (.cons 0 rfl .nil))) (by intro c h; cases h)))))))))))
 rintro ⟨x8, _⟩
 try dsimp only
 refine qf (qa (qd rfl rfl rfl (qS rfl rfl rfl (qj rfl rfl qfE rfl (qu (i := 0) rfl rfl rfl tf4 rfl rfl rfl rfl rfl (qc (qe (qf (qa (qd rfl rfl rfl (qS rfl rfl rfl (qj rfl rfl qbS rfl ?_))))))))))))
 refine qk (i := 0) rfl rfl tf3 rfl rfl (fun _ => rfl) rfl rfl (qy ent69 rfl rfl rfl (fun x9 e9 => qfl F x8 x9 e9) .nil (fun x9 e9 => ?_))
 intro _
 exact qb rfl rfl rfl (qc (qe (qv (zz () (res1 rfl rfl) (hB := fun h => by subst h; exact (.cons 0 rfl .nil))))))
theorem qh7 (F : Nat) (x1 : Int) (x2 : List Int) (a3 : Option Addr) (c4 : Nat) (x5 : Int) (x6 : Int) (x7 : Int) (x8 : Int) (r : (List Int × Int × Int)) (hm : qck F x1 x2 x5 x6 x7 x8 = some r) :
    Pure Tryz.prog 126 [.agg #[.int .i64 x1, .slice a3 x2.length c4], .int .i64 x5, .int .i64 x6, .int .i64 x7, .int .i64 x8] [Sl (eI .u8) 1 (.slice a3 x2.length c4) x2] (Option Addr × Nat) (fun g => .tuple #[.slice g.1 r.1.length g.2, .int .i64 r.2.1, .int .i64 r.2.2]) (fun g => [Ro (eI .i64) 3 1 (.slice g.1 r.1.length g.2) r.1]) (fun _ => []) := by
 refine qT Tryz.func126 rfl Tryz.ntmps126 rfl hm (fun w => qG (l' := [(0, .agg #[.int .i64 x1, .slice a3 x2.length c4]), (1, .int .i64 x5), (2, .int .i64 x6), (3, .int .i64 x7), (4, .int .i64 x8)]) rfl (qf (qa (qW rfl rfl rfl (fun g9 => qb rfl rfl rfl (qb rfl rfl rfl (qb rfl rfl rfl (qc (qe (qf (qa (qd rfl rfl rfl ?_))))))))))))
 refine q6 (cells := [.int .i64 x6, .bool false]) rfl st162 rfl (by kernel_rfl) rfl (qW rfl rfl rfl (fun g10 => qb rfl rfl rfl (qc (qe (qH (fun (((x105, x108), (a106, c107)) : ((Int × List Int) × (Option Addr × Nat))) => [(1, .int .i64 x105), (10, .slice a106 x108.length c107)]) (fun (((x105, x108), (a106, c107)) : ((Int × List Int) × (Option Addr × Nat))) => []) (fun (((x105, x108), (a106, c107)) : ((Int × List Int) × (Option Addr × Nat))) => [Ro (eI .i64) 3 1 (.slice a106 x108.length c107) x108]) (fun (((x105, x108), (a106, c107)) : ((Int × List Int) × (Option Addr × Nat))) => []) (fun (((x105, x108), _) : ((Int × List Int) × (Option Addr × Nat))) => qb2 F x105 x108) ?_ ?_)))))
 refine qf (qa (qd rfl rfl rfl (qd rfl rfl rfl (qc (qe (qD (yR Int (eI .i64) 3 1 (zi (fun (((x138, x141, x142, x143, x144), (a139, c140)) : ((Int × List Int × Int × Int × Bool) × (Option Addr × Nat))) => [(1, .int .i64 x138), (3, .int .i64 x7), (5, .pointer (some ⟨g9, 0, none⟩)), (10, .slice a139 x141.length c140), (13, .pointer (some ⟨g10, 0, none⟩)), (18, .int .i64 x8), (19, .int .i64 x142)]) (fun (((x138, x141, x142, x143, x144), (a139, c140)) : ((Int × List Int × Int × Int × Bool) × (Option Addr × Nat))) => [⟨g10, 162, [.int .i64 x143, .bool x144]⟩, ⟨g9, 29, [.int .i64 x1, .slice a3 x2.length c4]⟩]) (fun (((x138, x141, x142, x143, x144), (a139, c140)) : ((Int × List Int × Int × Int × Bool) × (Option Addr × Nat))) => [Ro (eI .i64) 3 1 (.slice a139 x141.length c140) x141]) (fun (((x138, x141, x142, x143, x144), (a139, c140)) : ((Int × List Int × Int × Int × Bool) × (Option Addr × Nat))) => [Sl (eI .u8) 1 (.slice a3 x2.length c4) x2]) (fun k (s : ((Int × List Int × Int × Int × Bool) × (Option Addr × Nat))) => vD F x1 x2 x7 x8 k s.1) ((x5, ([] : List Int), 0, x6, false), (none, 0)) F ?_ (hB := (.cons 0 rfl (.cons 0 rfl .nil))) (hR := (.cons 0 rfl .nil)) (hF := (qo 0 rfl qA))))))))))
 intro k173
 rintro ⟨⟨x138, x141, x142, x143, x144⟩, ⟨a139, c140⟩⟩
 try dsimp only
 refine zF (m' := qaJ F x1 x2 x7 x8 (vD F x1 x2 x7 x8 k173) x138 x141 x142 x143 x144) rfl (qf (qa (qZ rfl rfl rfl rfl (qc (qe (qf (qC rfl (fun h201 => ?_) (fun h201 => ?_))))))))
 refine qt (qe (qf (qD (qf (qa (qb rfl rfl rfl (qc (qe (qf (qf (qa (qk (i := 1) rfl rfl tf29 rfl rfl (by simp) rfl rfl ?_))))))))))))
 refine qd rfl rfl rfl (qd rfl rfl rfl (qy ent142 rfl rfl rfl (fun x190 e190 => qeq F x1 x2 a3 c4 x138 x7 x190 e190) (.consF 0 rfl .nil) (fun x190 e190 => ?_)))
 intro _
 refine qd rfl rfl rfl (qr rfl rfl rfl rfl (qr rfl rfl rfl rfl (qr rfl rfl rfl rfl (qb rfl rfl rfl (qb rfl rfl rfl (qb rfl rfl rfl (qc (qe (qf (qa (qd rfl rfl rfl (zN rfl rfl rfl rfl ?_))))))))))))
 refine qc (qe (qC rfl (fun h200 => ?_) (fun h200 => ?_)))
 refine qf (qa (qd rfl rfl rfl (qb rfl rfl rfl (qb rfl rfl rfl (qb rfl rfl rfl (qc (qe (qv (qq (qP (qq (qq ?_))))))))))))
 exact qP (qq (q5 Int (eI .i64) 3 1 (qs (none, 0) (res3 rfl rfl rfl rfl) (fun h => by subst h; exact (.cons 0 rfl .nil)))))
 refine qt (qe (qf (qf (qa (qd rfl rfl rfl (qd rfl rfl rfl (q2 ent143 rfl rfl rfl (fun x193 e193 => qd3 F g10 x143 x144 x190.1 x193 e193) (.cons 0 rfl .nil) .nil .nil (fun x193 e193 => ?_))))))))
 intro _
 refine kn rfl rfl rfl (qc (qe (qC rfl (fun h199 => ?_) (fun h199 => ?_))))
 refine qf (qa (qb rfl rfl rfl (qb rfl rfl rfl (qb rfl rfl rfl (qc (qe (qv (qq (qP (qq (qq (qP ?_))))))))))))
 exact qq (q5 Int (eI .i64) 3 1 (qs (none, 0) (res3 rfl rfl rfl rfl) (fun h => by subst h; exact (.cons 0 rfl .nil))))
 refine qt (qe (qa (qd rfl rfl rfl (qd rfl rfl rfl (qS rfl rfl rfl (qj rfl rfl qbS rfl (qk (i := 0) rfl rfl tf3 rfl rfl (fun _ => rfl) rfl rfl (zB (vs := [.int .i64 x193.2.1]) (ys := ([x193.2.1] : List Int)) (zd .i64) (by decide) rfl Tryz.underlying37 tf3 rfl rfl rfl rfl rfl (by decide) (fun a194 c195 => yw 1 (zd .i64) rfl Tryz.underlying37 tf3 rfl rfl rfl rfl rfl (.inl ⟨0, _, rfl⟩) rfl rfl (fun x196 e196 a197 c198 => qb rfl rfl rfl (qc (qU ?_))))))))))))
 exact qe (qa (qN rfl rfl rfl rfl (qd rfl rfl rfl (qc (q4 ((x190.2.1, x196, iadd .i64 x142 1, x193.2.1, x193.2.2), (a197, c198)) (hB := (.cons 0 rfl (.cons 0 rfl .nil))) (hR := (.cons 0 rfl .nil)) (hF := (qo 0 rfl qA)))))))
 exact zn (qF (qF (zo (qn ((x138, x141), (a139, c140)) (hR := (.cons 0 rfl .nil))))))
 rintro ⟨⟨x105, x108⟩, ⟨a106, c107⟩⟩
 try dsimp only
 exact qf (qa (qd rfl rfl rfl (qd rfl rfl rfl (qb rfl rfl rfl (qb rfl rfl rfl (qb rfl rfl rfl (qc (qe (qv (qs (a106, c107) (res3 rfl rfl rfl rfl) (fun h => by subst h; exact (.cons 0 rfl .nil))))))))))))
set_option maxHeartbeats 4000000 in
theorem qd7 (F : Nat) (g1 : Nat) (x2 : Int) (x3 : List Int) (a4 : Option Addr) (c5 : Nat) (x6 : Int) (x7 : Int) (x8 : List Int) (a9 : Option Addr) (c10 : Nat) (x11 : Int) (x12 : Int) (x13 : Int) (r : ((List Int × Int × Int) ⊕ (Int × Int))) (hm : yO F x2 x3 x6 x7 x8 x11 x12 x13 = some r) :
    PureL Tryz.prog 107 [.pointer (some ⟨g1, 0, none⟩), .int .i64 x7, .slice a9 x8.length c10, .agg #[.int .i64 x11, .int .i64 x12, .int .i64 x13]] [⟨g1, 137, [.int .i64 x2, .slice a4 x3.length c5, .int .i64 x6]⟩] [] [Sl (eI .u8) 1 (.slice a4 x3.length c5) x3, Sl (eI .i64) 1 (.slice a9 x8.length c10) x8] lostCh (Option Addr × Nat) (fun (r : (List Int × Int × Int)) (g : (Option Addr × Nat)) => .slice g.1 r.1.length g.2) (fun (r : (List Int × Int × Int)) (_ : (Option Addr × Nat)) => [⟨g1, 137, [.int .i64 r.2.1, .slice a4 x3.length c5, .int .i64 r.2.2]⟩]) (fun (r : (List Int × Int × Int)) (g : (Option Addr × Nat)) => [Ro (eI .i64) 3 1 (.slice g.1 r.1.length g.2) r.1]) (fun (z : (Int × Int)) => [⟨g1, 137, [.int .i64 z.1, .slice a4 x3.length c5, .int .i64 z.2]⟩]) r := by
  refine qdy Tryz.func107 rfl Tryz.ntmps107 rfl hm (fun w => ?_)
  refine qG (l' := [(0, .pointer (some ⟨g1, 0, none⟩)), (1, .int .i64 x7), (2, .slice a9 x8.length c10), (3, .agg #[.int .i64 x11, .int .i64 x12, .int .i64 x13])]) rfl ?_
  refine qf ?_
  refine qa ?_
  refine qW rfl rfl rfl (fun g14 => ?_)
  refine qb rfl rfl rfl ?_
  refine qc ?_
  refine qe ?_
  refine qf ?_
  refine qa ?_
  refine qd rfl rfl rfl ?_
  refine kH ent121 rfl rfl rfl (fun x15 e15 => kW F g1 x2 x3 a4 c5 x6 300 x15 e15) (.cons 1 rfl .nil) .nil (.consF 0 rfl .nil) (fun x16 _ => ?_) (fun x15 e15 => ?_)
  · refine zp ?_
    exact yK (.cons 0 rfl .nil)
  intro _
  refine qb rfl rfl rfl ?_
  refine qc ?_
  refine qe ?_
  refine qf ?_
  refine qf ?_
  refine qa ?_
  refine qd rfl rfl rfl ?_
  refine zj rfl rfl rfl rfl ?_
  refine qc ?_
  refine qe ?_
  refine qC rfl (fun h83 => ?_) (fun h83 => ?_)
  · refine qf ?_
    refine qa ?_
    refine qb rfl rfl rfl ?_
    refine qc ?_
    refine qe ?_
    refine qv ?_
    refine qq ?_
    refine q5 Int (eI .i64) 3 1 ?_
    exact qba (none, 0) (.inl rfl) (res1 rfl rfl) rfl (.cons 0 rfl .nil) (.cons 0 rfl .nil)
  · refine qt ?_
    refine qe ?_
    refine qf ?_
    refine qa ?_
    refine qb rfl rfl rfl ?_
    refine qc ?_
    refine qe ?_
    refine qH (fun (((x31, x32, x33), (a29, c30)) : ((List Int × Int × Int) × (Option Addr × Nat))) => [(0, .pointer (some ⟨g1, 0, none⟩)), (1, .int .i64 x7), (7, .pointer (some ⟨g14, 0, none⟩)), (9, .int .i64 x15.1), (10, .slice a29 x31.length c30)]) (fun (((x31, x32, x33), (a29, c30)) : ((List Int × Int × Int) × (Option Addr × Nat))) => [⟨g1, 137, [.int .i64 x32, .slice a4 x3.length c5, .int .i64 x33]⟩, ⟨g14, 26, [.int .i64 x11, .int .i64 x12, .int .i64 x13]⟩]) (fun (((x31, x32, x33), (a29, c30)) : ((List Int × Int × Int) × (Option Addr × Nat))) => [Ro (eI .i64) 3 1 (.slice a29 x31.length c30) x31]) (fun (((x31, x32, x33), (a29, c30)) : ((List Int × Int × Int) × (Option Addr × Nat))) => [Sl (eI .u8) 1 (.slice a4 x3.length c5) x3]) (fun (((x31, x32, x33), _) : ((List Int × Int × Int) × (Option Addr × Nat))) => k8 F x3 x7 x12 x13 x15 x31 x32 x33) ?_ ?_
    · refine qf ?_
      refine qa ?_
      refine qj rfl rfl qa7 rfl ?_
      refine qk (i := 1) rfl rfl tf3 rfl rfl (fun _ => rfl) rfl rfl ?_
      refine zr rfl rfl rfl rfl ?_
      refine qc ?_
      refine qe ?_
      refine qC rfl (fun h82 => ?_) (fun h82 => ?_)
      · refine qf ?_
        refine qa ?_
        refine qb rfl rfl rfl ?_
        refine qc ?_
        refine qe ?_
        refine qf ?_
        refine qa ?_
        refine qd rfl rfl rfl ?_
        refine qd rfl rfl rfl ?_
        refine qd rfl rfl rfl ?_
        refine q3 rfl Tryz.underlying37 rfl rfl ?_
        refine kH ent123 rfl rfl rfl (fun x72 e72 => qdq F g1 x15.2.1 x3 a4 c5 x15.2.2 (x8.length : Int) x72 e72) (.cons 0 rfl .nil) .nil (.consF 0 rfl .nil) (fun x73 _ => ?_) (fun x72 e72 => ?_)
        · refine zp ?_
          refine zp ?_
          exact yK (.cons 0 rfl .nil)
        rintro ⟨a74, c75⟩
        refine qy ent122 rfl rfl rfl (fun x76 e76 => qhq F x8 a9 c10 x72.1 a74 c75 x76 e76) (.consF 1 rfl (.consR 0 (Ro (eI .i64) 3 1 (.slice a74 x72.1.length c75) x72.1) rfl .nil)) (fun x76 e76 => ?_)
        rintro ⟨a77, c78⟩
        refine qd rfl rfl rfl ?_
        refine qr rfl rfl rfl rfl ?_
        refine qr rfl rfl rfl rfl ?_
        refine qb rfl rfl rfl ?_
        refine qb rfl rfl rfl ?_
        refine qc ?_
        refine qe ?_
        refine qa ?_
        refine qd rfl rfl rfl ?_
        refine zj rfl rfl rfl rfl ?_
        refine qd rfl rfl rfl ?_
        refine q8 5 ((x76.2 : Int) == 0) [(0, .pointer (some ⟨g1, 0, none⟩)), (1, .int .i64 x7), (7, .pointer (some ⟨g14, 0, none⟩)), (9, .int .i64 x15.1), (10, .slice a77 x76.1.length c78), (41, .bool (((x76.2 : Int) == 0) && (decide ((x76.1.length : Int) ≤ x15.1))))] (fun h79 => ?_) (fun h79 => ?_) ?_
        · refine qp (os := _) rfl ?_
          refine qR (k := 36) rfl h79 ?_
          refine qd rfl rfl rfl ?_
          refine q3 rfl Tryz.underlying37 rfl rfl ?_
          refine qd rfl rfl rfl ?_
          refine qde rfl rfl rfl rfl ?_
          refine qw (b := true) rfl rfl rfl rfl ?_
          refine qx (d := 41) (v := .bool (((x76.2 : Int) == 0) && (decide ((x76.1.length : Int) ≤ x15.1)))) rfl (by rw [h79]; simp only [Bool.true_and]) ?_
          refine qc ?_
          exact qE (qh rfl (qh rfl (qh rfl (qh rfl (qh rfl (qh rfl qO))))))
        · refine qp (os := _) rfl ?_
          refine qQ (k := 36) rfl h79 ?_
          refine qi rfl rfl rfl ?_
          refine qi rfl rfl rfl ?_
          refine qi rfl rfl rfl ?_
          refine qi rfl rfl rfl ?_
          refine qw (b := false) rfl rfl rfl rfl ?_
          refine qx (d := 41) (v := .bool (((x76.2 : Int) == 0) && (decide ((x76.1.length : Int) ≤ x15.1)))) rfl (by rw [h79]; simp only [Bool.false_and]) ?_
          refine qc ?_
          exact qE (qh rfl (qh rfl (qh rfl (qh rfl (qh rfl (qh rfl qO))))))
        refine qp (os := _) rfl ?_
        refine kH ent108 rfl rfl rfl (fun x80 e80 => vM F (((x76.2 : Int) == 0) && (decide ((x76.1.length : Int) ≤ x15.1))) x80 e80) .nil .nil .nil (fun x81 _ => ?_) (fun x80 e80 => ?_)
        · refine zp ?_
          exact yK (.cons 0 rfl .nil)
        intro _
        refine qc ?_
        exact qn ((x76.1, x72.2.1, x72.2.2), (a77, c78)) (hB := (.cons 0 rfl (.cons 0 rfl .nil))) (hR := (.cons 0 rfl .nil)) (hF := (qo 0 rfl qA))
      · refine qt ?_
        refine q5 Int (eI .i64) 3 1 ?_
        exact qn ((([] : List Int), x15.2.1, x15.2.2), (none, 0)) (hB := (.cons 0 rfl (.cons 0 rfl .nil))) (hR := (.cons 0 rfl .nil)) (hF := (qo 0 rfl qA))
    · rintro ⟨⟨x31, x32, x33⟩, ⟨a29, c30⟩⟩
      try dsimp only
      refine qf ?_
      refine qa ?_
      refine qd rfl rfl rfl ?_
      refine qd rfl rfl rfl ?_
      refine q3 rfl Tryz.underlying37 rfl rfl ?_
      refine zO rfl rfl rfl rfl ?_
      refine qb rfl rfl rfl ?_
      refine qc ?_
      refine qe ?_
      refine qf ?_
      refine qf ?_
      refine qa ?_
      refine qd rfl rfl rfl ?_
      refine zj rfl rfl rfl rfl ?_
      refine qc ?_
      refine qe ?_
      refine qC rfl (fun h71 => ?_) (fun h71 => ?_)
      · refine qf ?_
        refine qa ?_
        refine qd rfl rfl rfl ?_
        refine qb rfl rfl rfl ?_
        refine qc ?_
        refine qe ?_
        refine qv ?_
        refine qq ?_
        exact qba (a29, c30) (.inl rfl) (res1 rfl rfl) rfl (.cons 0 rfl .nil) (.cons 0 rfl .nil)
      · refine qt ?_
        refine qe ?_
        refine qf ?_
        refine qa ?_
        refine qb rfl rfl rfl ?_
        refine qc ?_
        refine qe ?_
        refine qH (fun (((x42, x43, x44), (a40, c41)) : ((List (Int × Int) × Int × Int) × (Option Addr × Nat))) => [(0, .pointer (some ⟨g1, 0, none⟩)), (1, .int .i64 x7), (7, .pointer (some ⟨g14, 0, none⟩)), (10, .slice a29 x31.length c30), (12, .int .i64 (isub .i64 x15.1 (x31.length : Int))), (13, .slice a40 x42.length c41)]) (fun (((x42, x43, x44), (a40, c41)) : ((List (Int × Int) × Int × Int) × (Option Addr × Nat))) => [⟨g1, 137, [.int .i64 x43, .slice a4 x3.length c5, .int .i64 x44]⟩, ⟨g14, 26, [.int .i64 x11, .int .i64 x12, .int .i64 x13]⟩]) (fun (((x42, x43, x44), (a40, c41)) : ((List (Int × Int) × Int × Int) × (Option Addr × Nat))) => [Ro (eI .i64) 3 1 (.slice a29 x31.length c30) x31, Ro eS141 141 2 (.slice a40 x42.length c41) x42]) (fun (((x42, x43, x44), (a40, c41)) : ((List (Int × Int) × Int × Int) × (Option Addr × Nat))) => [Sl (eI .u8) 1 (.slice a4 x3.length c5) x3]) (fun (((x42, x43, x44), _) : ((List (Int × Int) × Int × Int) × (Option Addr × Nat))) => k9 F x3 x7 x13 x15 x31 x42 x43 x44) ?_ ?_
        · refine qf ?_
          refine qa ?_
          refine qj rfl rfl qdt rfl ?_
          refine qk (i := 1) rfl rfl tf3 rfl rfl (fun _ => rfl) rfl rfl ?_
          refine zr rfl rfl rfl rfl ?_
          refine qc ?_
          refine qe ?_
          refine qC rfl (fun h70 => ?_) (fun h70 => ?_)
          · refine qa ?_
            refine qd rfl rfl rfl ?_
            refine qd rfl rfl rfl ?_
            refine qj rfl rfl qdt rfl ?_
            refine qk (i := 1) rfl rfl tf3 rfl rfl (fun _ => rfl) rfl rfl ?_
            refine qd rfl rfl rfl ?_
            refine kH ent124 rfl rfl rfl (fun x66 e66 => qd9 F g1 x32 x3 a4 c5 x33 x7 x12 (isub .i64 x15.1 (x31.length : Int)) x66 e66) (.cons 0 rfl .nil) .nil (.consF 0 rfl .nil) (fun x67 _ => ?_) (fun x66 e66 => ?_)
            · refine zp ?_
              exact yK (.cons 0 rfl .nil)
            rintro ⟨a68, c69⟩
            refine qb rfl rfl rfl ?_
            refine qc ?_
            exact qn ((x66.1, x66.2.1, x66.2.2), (a68, c69)) (hB := (.cons 0 rfl (.cons 0 rfl .nil))) (hR := (.cons 1 rfl (.cons 0 rfl .nil))) (hF := (qo 0 rfl qA))
          · refine qt ?_
            refine q5 (Int × Int) eS141 141 2 ?_
            exact qn ((([] : List (Int × Int)), x32, x33), (none, 0)) (hB := (.cons 0 rfl (.cons 0 rfl .nil))) (hR := (.cons 1 rfl (.cons 0 rfl .nil))) (hF := (qo 0 rfl qA))
        · rintro ⟨⟨x42, x43, x44⟩, ⟨a40, c41⟩⟩
          try dsimp only
          refine qf ?_
          refine qa ?_
          refine qd rfl rfl rfl ?_
          refine zG Int (eI .i64) 3 1 ?_
          refine qy ent125 rfl rfl rfl (fun x45 e45 => qhr F x42 a40 c41 ([] : List Int) none 0 x45 e45) (.consR 2 (Ro eS141 141 2 (.slice a40 x42.length c41) x42) rfl (.consR 0 (Ro (eI .i64) 3 1 (.slice none ([] : List Int).length 0) ([] : List Int)) rfl .nil)) (fun x45 e45 => ?_)
          rintro ⟨a46, c47⟩
          refine qd rfl rfl rfl ?_
          refine qr rfl rfl rfl rfl ?_
          refine qr rfl rfl rfl rfl ?_
          refine qb rfl rfl rfl ?_
          refine qb rfl rfl rfl ?_
          refine qc ?_
          refine qe ?_
          refine qf ?_
          refine qa ?_
          refine qd rfl rfl rfl ?_
          refine zj rfl rfl rfl rfl ?_
          refine qd rfl rfl rfl ?_
          refine q8 5 ((x45.2 : Int) == 0) [(0, .pointer (some ⟨g1, 0, none⟩)), (1, .int .i64 x7), (7, .pointer (some ⟨g14, 0, none⟩)), (10, .slice a29 x31.length c30), (12, .int .i64 (isub .i64 x15.1 (x31.length : Int))), (14, .slice a46 x45.1.length c47), (71, .bool (((x45.2 : Int) == 0) && (decide ((x45.1.length : Int) ≤ (isub .i64 x15.1 (x31.length : Int))))))] (fun h48 => ?_) (fun h48 => ?_) ?_
          · refine qp (os := _) rfl ?_
            refine qR (k := 66) rfl h48 ?_
            refine qd rfl rfl rfl ?_
            refine q3 rfl Tryz.underlying37 rfl rfl ?_
            refine qd rfl rfl rfl ?_
            refine qde rfl rfl rfl rfl ?_
            refine qw (b := true) rfl rfl rfl rfl ?_
            refine qx (d := 71) (v := .bool (((x45.2 : Int) == 0) && (decide ((x45.1.length : Int) ≤ (isub .i64 x15.1 (x31.length : Int)))))) rfl (by rw [h48]; simp only [Bool.true_and]) ?_
            refine qc ?_
            exact qE (qh rfl (qh rfl (qh rfl (qh rfl (qh rfl (qh rfl (qh rfl qO)))))))
          · refine qp (os := _) rfl ?_
            refine qQ (k := 66) rfl h48 ?_
            refine qi rfl rfl rfl ?_
            refine qi rfl rfl rfl ?_
            refine qi rfl rfl rfl ?_
            refine qi rfl rfl rfl ?_
            refine qw (b := false) rfl rfl rfl rfl ?_
            refine qx (d := 71) (v := .bool (((x45.2 : Int) == 0) && (decide ((x45.1.length : Int) ≤ (isub .i64 x15.1 (x31.length : Int)))))) rfl (by rw [h48]; simp only [Bool.false_and]) ?_
            refine qc ?_
            exact qE (qh rfl (qh rfl (qh rfl (qh rfl (qh rfl (qh rfl (qh rfl qO)))))))
          refine qp (os := _) rfl ?_
          refine kH ent108 rfl rfl rfl (fun x49 e49 => vM F (((x45.2 : Int) == 0) && (decide ((x45.1.length : Int) ≤ (isub .i64 x15.1 (x31.length : Int))))) x49 e49) .nil .nil .nil (fun x50 _ => ?_) (fun x49 e49 => ?_)
          · refine zp ?_
            exact yK (.cons 0 rfl .nil)
          intro _
          refine qc ?_
          refine qe ?_
          refine qf ?_
          refine zm mixed [] [⟨g1, 137, [.int .i64 x43, .slice a4 x3.length c5, .int .i64 x44]⟩, ⟨g14, 26, [.int .i64 x11, .int .i64 x12, .int .i64 x13]⟩] [Sl (eI .u8) 1 (.slice a4 x3.length c5) x3] (.cons 0 rfl (.cons 0 rfl .nil)) (q7 0 rfl qI) 23 rfl ?_
          refine qg 0 (.pointer (some ⟨g1, 0, none⟩)) rfl rfl rfl (qm rfl) ?_
          refine qg 1 (.pointer (some ⟨g1, 0, none⟩)) rfl rfl rfl (qm rfl) ?_
          refine qg 2 (.pointer (some ⟨g1, 0, none⟩)) rfl rfl rfl (qz rfl qhx) ?_
          refine qX 3 (.agg #[.int .i64 x43, .slice a4 x3.length c5]) rfl rfl rfl (qY (i := 0) rfl tf29 rfl rfl (by simp) rfl) ?_
          refine qg 4 (.pointer (some ⟨g1, 0, none⟩)) rfl rfl rfl (qm rfl) ?_
          refine qg 5 (.pointer (some ⟨g1, 0, none⟩)) rfl rfl rfl (qm rfl) ?_
          refine qg 6 (.pointer (some ⟨g1, 2, none⟩)) rfl rfl rfl (qz rfl qcZ) ?_
          refine qX 7 (.int .i64 x44) rfl rfl rfl (qY (i := 0) rfl tf3 rfl rfl (fun _ => rfl) rfl) ?_
          refine qg 8 (.int .i64 x7) rfl rfl rfl (qm rfl) ?_
          refine qg 9 (.pointer (some ⟨g14, 2, none⟩)) rfl rfl rfl (qz rfl qhz) ?_
          refine qX 10 (.int .i64 x13) rfl rfl rfl (qY (i := 1) rfl tf3 rfl rfl (fun _ => rfl) rfl) ?_
          refine qg 11 (.int .i64 (isub .i64 x15.1 (x31.length : Int))) rfl rfl rfl (qm rfl) ?_
          refine qg 12 (.slice a46 x45.1.length c47) rfl rfl rfl (qm rfl) ?_
          refine qg 13 (.int .i64 (x45.1.length : Int)) rfl rfl rfl (qfi Tryz.underlying37 rfl) ?_
          refine qg 14 (.int .i64 (isub .i64 (isub .i64 x15.1 (x31.length : Int)) (x45.1.length : Int))) rfl rfl rfl (qm rfl) ?_
          refine qL 15 rfl (by kernel_rfl) rfl ?_
          refine qy ent126 rfl rfl rfl (fun x54 e54 => qh7 F x43 x3 a4 c5 x44 x7 x13 (isub .i64 (isub .i64 x15.1 (x31.length : Int)) (x45.1.length : Int)) x54 e54) (.consF 0 rfl .nil) (fun x54 e54 => ?_)
          rintro ⟨a55, c56⟩
          refine qc ?_
          refine qK (.cons 0 rfl (.cons 0 rfl .nil)) (q7 0 rfl qI) ?_
          refine qg 16 (.tuple #[.slice a55 x54.1.length c56, .int .i64 x54.2.1, .int .i64 x54.2.2]) rfl rfl rfl (qm rfl) ?_
          refine qg 17 (.slice a55 x54.1.length c56) rfl rfl rfl (qm rfl) ?_
          refine qg 18 (.int .i64 x54.2.1) rfl rfl rfl (qm rfl) ?_
          refine qg 19 (.int .i64 x54.2.2) rfl rfl rfl (qm rfl) ?_
          refine qg 20 (.slice a55 x54.1.length c56) rfl rfl rfl (qm rfl) ?_
          refine qg 21 (.int .i64 x54.2.1) rfl rfl rfl (qm rfl) ?_
          refine qg 22 (.int .i64 x54.2.2) rfl rfl rfl (qm rfl) ?_
          refine qV (by kernel_rfl) ?_
          refine zw ?_ (by intro c h; cases h)
          refine qe ?_
          refine qf ?_
          refine qa ?_
          refine qd rfl rfl rfl ?_
          refine zj rfl rfl rfl rfl ?_
          refine kH ent108 rfl rfl rfl (fun x57 e57 => vM F ((x54.2.2 : Int) == 0) x57 e57) .nil .nil .nil (fun x58 _ => ?_) (fun x57 e57 => ?_)
          · refine zp ?_
            exact yK (.cons 0 rfl .nil)
          intro _
          refine qc ?_
          refine qe ?_
          refine qf ?_
          refine qa ?_
          refine qd rfl rfl rfl ?_
          refine qd rfl rfl rfl ?_
          refine qS rfl rfl rfl ?_
          refine qj rfl rfl qcZ rfl ?_
          refine qu (i := 0) rfl rfl rfl tf3 rfl rfl rfl rfl rfl ?_
          refine qc ?_
          refine qe ?_
          refine qf ?_
          refine qa ?_
          refine qd rfl rfl rfl ?_
          refine qd rfl rfl rfl ?_
          refine qd rfl rfl rfl ?_
          refine qdd 3 rfl ?_
          refine qdd 1 rfl ?_
          refine qdd 0 rfl ?_
          refine zB (vs := [.slice a29 x31.length c30, .slice a46 x45.1.length c47, .slice a55 x54.1.length c56]) (ys := ([(x31, (a29, c30)), (x45.1, (a46, c47)), (x54.1, (a55, c56))] : List (List Int × (Option Addr × Nat)))) yY (by decide) rfl Tryz.underlying22 tf37 rfl rfl rfl rfl rfl (by decide) (fun a59 c60 => ?_)
          refine qhh (inn := iN37) ([x31, x45.1, x54.1] : List (List Int)) ([(a29, c30), (a46, c47), (a55, c56)] : List (Option Addr × Nat)) 0 rfl rfl (qo 2 rfl (qo 1 rfl (qo 0 rfl qA))) ?_
          refine qy ent127 rfl rfl rfl (fun x61 e61 => qax F ([x31, x45.1, x54.1] : List (List Int)) a59 (c60, ([(a29, c30), (a46, c47), (a55, c56)] : List (Option Addr × Nat))) x61 e61) (.consF 0 rfl .nil) (fun x61 e61 => ?_)
          rintro ⟨a62, c63⟩
          refine qb rfl rfl rfl ?_
          refine qc ?_
          refine qe ?_
          refine qf ?_
          refine qa ?_
          refine qd rfl rfl rfl ?_
          refine q2 ent128 rfl rfl rfl (fun x64 e64 => qaZ F x61 a62 c63 x64 e64) .nil (.cons 0 rfl .nil) .nil (fun x64 e64 => ?_)
          intro _
          refine qbu (fun h65 => ?_)
          replace h65 := of_decide_eq_true h65
          refine qx (d := 10) (v := .slice a62 x64.length c63) rfl (by rw [h65] <;> rfl) ?_
          refine qx (d := 104) (v := .slice a62 x64.length c63) rfl (by rw [h65] <;> rfl) ?_
          refine qx (d := 105) (v := .slice a62 x64.length c63) rfl (by rw [h65] <;> rfl) ?_
          refine qc ?_
          refine qe ?_
          refine qf ?_
          refine qa ?_
          refine qd rfl rfl rfl ?_
          refine qb rfl rfl rfl ?_
          refine qc ?_
          refine qe ?_
          refine qv ?_
          exact qba (a62, c63) (.inl rfl) (res1 rfl rfl) rfl (.cons 0 rfl .nil) (.cons 0 rfl .nil)
set_option maxHeartbeats 4000000 in
theorem qd8 (F : Nat) (g1 : Nat) (x2 : Int) (x3 : List Int) (a4 : Option Addr) (c5 : Nat) (x6 : Int) (x7 : Int) (x8 : List Int) (a9 : Option Addr) (c10 : Nat) (x11 : Int) (x12 : Int) (x13 : Int) (r : (List Int × Bool × Int × Int)) (hm : yP F x2 x3 x6 x7 x8 x11 x12 x13 = some r) :
    PureM Tryz.prog 83 [.pointer (some ⟨g1, 0, none⟩), .int .i64 x7, .slice a9 x8.length c10, .agg #[.int .i64 x11, .int .i64 x12, .int .i64 x13]] [⟨g1, 137, [.int .i64 x2, .slice a4 x3.length c5, .int .i64 x6]⟩] [] [Sl (eI .u8) 1 (.slice a4 x3.length c5) x3, Sl (eI .i64) 1 (.slice a9 x8.length c10) x8] (Option Addr × Nat) (fun g => .tuple #[.slice g.1 r.1.length g.2, .bool r.2.1]) (fun _ => [⟨g1, 137, [.int .i64 r.2.2.1, .slice a4 x3.length c5, .int .i64 r.2.2.2]⟩]) (fun g => [Ro (eI .i64) 3 1 (.slice g.1 r.1.length g.2) r.1]) := by
 refine ql1 Tryz.func83 rfl Tryz.ntmps83 rfl hm (fun w => qG (l' := [(0, .pointer (some ⟨g1, 0, none⟩)), (1, .int .i64 x7), (2, .slice a9 x8.length c10), (3, .agg #[.int .i64 x11, .int .i64 x12, .int .i64 x13])]) rfl (qf (qa (qW rfl rfl rfl (fun g14 => qM rfl tf37 rfl (fun g15 => qM rfl tf4 rfl (fun g16 => qc (qe (qf (qa (qdf rfl rfl rfl (qk4 rfl rfl ?_))))))))))))
 refine qc (qe (qf (qa (qd rfl rfl rfl (qS rfl rfl rfl (qj rfl rfl qcZ rfl (qk (i := 3) rfl rfl tf3 rfl rfl (fun _ => rfl) rfl rfl (qb rfl rfl rfl (qc (qe (qf (qa ?_))))))))))))
 refine qd rfl rfl rfl (qd rfl rfl rfl (qd rfl rfl rfl (qk (i := 2) rfl rfl tf26 rfl rfl (by simp) rfl rfl (kH ent107 rfl rfl rfl (fun x17 e17 => qd7 F g1 x2 x3 a4 c5 x6 x7 x8 a9 c10 x11 x12 x13 x17 e17) (.cons 3 rfl .nil) .nil (.consF 0 rfl (.consF 1 rfl .nil)) (fun x18 _ => ?_) (fun x17 e17 => ?_)))))
 exact zp (qcf ent106 rfl (.cons 2 rfl (.cons 1 rfl .nil)) (qeF _ _ _ _) (q5 Int (eI .i64) 3 1 (zz (none, 0) (resL (rs := [.cell 8 37, .cell 9 4]) rfl (.cell (i := 0) rfl tf37 rfl rfl (fun _ => rfl) rfl (.cell (i := 1) rfl tf4 rfl rfl (fun _ => rfl) rfl ResOk.nil)) rfl) (hB := fun h => by subst h; exact (.cons 2 rfl .nil)) (hR := fun h => by subst h; exact (.cons 0 rfl .nil)))))
 rintro ⟨a19, c20⟩
 refine qu (i := 2) rfl rfl rfl tf37 rfl rfl rfl rfl rfl (qc (qe (qf (qa (qk (i := 2) rfl rfl tf37 rfl rfl (fun _ => rfl) rfl rfl (qy ent47 rfl rfl rfl (fun x21 e21 => qaC F x17.1 a19 c20 x21 e21) (.consR 0 (Ro (eI .i64) 3 1 (.slice a19 x17.1.length c20) x17.1) rfl .nil) (fun x21 e21 => ?_)))))))
 intro _
 refine zj rfl rfl rfl rfl (kH ent108 rfl rfl rfl (fun x22 e22 => vM F ((x21 : Int) == 0) x22 e22) .nil .nil .nil (fun x23 _ => ?_) (fun x22 e22 => ?_))
 exact zp (qcf ent106 rfl (.cons 2 rfl (.cons 1 rfl .nil)) (qeF _ _ _ _) (q5 Int (eI .i64) 3 1 (zz (none, 0) (resL (rs := [.cell 8 37, .cell 9 4]) rfl (.cell (i := 0) rfl tf37 rfl rfl (fun _ => rfl) rfl (.cell (i := 1) rfl tf4 rfl rfl (fun _ => rfl) rfl ResOk.nil)) rfl) (hB := fun h => by subst h; exact (.cons 2 rfl .nil)) (hR := fun h => by subst h; exact (.cons 0 rfl .nil)))))
 intro _
 refine qc (qe (qf (qa (q6 (cells := [.int .i64 0, .slice none 0 0, .bool false]) rfl st90 rfl (by kernel_rfl) rfl (qW rfl rfl rfl (fun g24 => qb rfl rfl rfl (qc (qe (qf (qa (qd rfl rfl rfl (qd rfl rfl rfl ?_))))))))))))
 refine qk (i := 3) rfl rfl tf37 rfl rfl (fun _ => rfl) rfl rfl (qd rfl rfl rfl (qk (i := 4) rfl rfl tf26 rfl rfl (by simp) rfl rfl (zG Int (eI .u8) 5 1 (q2 ent49 rfl rfl rfl (fun x25 e25 => qbZ F g24 0 ([] : List Int) none 0 false x7 x17.1 a19 c20 x8 a9 c10 x11 x12 x13 x25 e25) (.cons 0 rfl .nil) (.cons 0 rfl .nil) (.consR 0 (Ro (eI .i64) 3 1 (.slice a19 x17.1.length c20) x17.1) rfl (.consF 1 rfl .nil)) (fun x25 e25 => ?_)))))
 rintro ⟨a26, c27⟩
 refine qc (qe (qH (fun ((_, _) : (Unit × Unit)) => [(0, .pointer (some ⟨g1, 0, none⟩)), (8, .pointer (some ⟨g15, 0, none⟩)), (9, .pointer (some ⟨g16, 0, none⟩)), (10, .int .i64 x6), (11, .pointer (some ⟨g24, 0, none⟩))]) (fun ((_, _) : (Unit × Unit)) => [⟨g24, 90, [.int .i64 x25.1, .slice a26 x25.2.1.length c27, .bool x25.2.2]⟩, ⟨g1, 137, [.int .i64 x17.2.1, .slice a4 x3.length c5, .int .i64 x17.2.2]⟩, ⟨g16, 4, [.bool false]⟩, ⟨g15, 37, [.slice a19 x17.1.length c20]⟩]) (fun ((_, _) : (Unit × Unit)) => [Ro (eI .u8) 5 1 (.slice a26 x25.2.1.length c27) x25.2.1, Ro (eI .i64) 3 1 (.slice a19 x17.1.length c20) x17.1]) (fun ((_, _) : (Unit × Unit)) => [Sl (eI .u8) 1 (.slice a4 x3.length c5) x3]) (fun ((_, _) : (Unit × Unit)) => yW F x3 x6 x17 x25) ?_ ?_))
 refine qaz (fun h97 => ?_) (fun h97 => ?_)
 refine qfe mixed [8, 9] [] [⟨g24, 90, [.int .i64 x25.1, .slice a26 x25.2.1.length c27, .bool x25.2.2]⟩, ⟨g1, 137, [.int .i64 x17.2.1, .slice a4 x3.length c5, .int .i64 x17.2.2]⟩, ⟨g16, 4, [.bool false]⟩, ⟨g15, 37, [.slice a19 x17.1.length c20]⟩, ⟨g14, 26, [.int .i64 x11, .int .i64 x12, .int .i64 x13]⟩] [Sl (eI .u8) 1 (.slice a4 x3.length c5) x3, Sl (eI .i64) 1 (.slice a9 x8.length c10) x8] (.cons 0 rfl (.cons 0 rfl (.cons 0 rfl (.cons 0 rfl (.cons 0 rfl .nil))))) (q7 0 rfl (q7 1 rfl qI)) 20 rfl (q9 0 (.pointer (some ⟨g24, 0, none⟩)) rfl rfl rfl (qm rfl) rfl (q9 1 (.pointer (some ⟨g24, 0, none⟩)) rfl rfl rfl (qm rfl) rfl (q9 2 (.pointer (some ⟨g24, 2, none⟩)) rfl rfl rfl (qz rfl qcE) rfl (qa9 3 (.bool x25.2.2) rfl rfl rfl (qY (i := 0) rfl tf4 rfl rfl (fun _ => rfl) rfl) rfl (q9 4 (.bool (!x25.2.2)) rfl rfl rfl (qm rfl) rfl (q9 5 (.bool (!x25.2.2)) rfl rfl rfl (qm rfl) rfl (qJ (d := 40) (v := .bool true) rfl (by rw [h97] <;> rfl) (q9 6 (.pointer (some ⟨g24, 0, none⟩)) rfl rfl rfl (qm rfl) rfl (q9 7 (.pointer (some ⟨g24, 0, none⟩)) rfl rfl rfl (qm rfl) rfl (q9 8 (.pointer (some ⟨g24, 0, none⟩)) rfl rfl rfl (qz rfl qeg) rfl (q9 9 (.pointer (some ⟨g24, 0, none⟩)) rfl rfl rfl (qz rfl zX) rfl (qa9 10 (.int .i64 x25.1) rfl rfl rfl (qY (i := 0) rfl tf3 rfl rfl (fun _ => rfl) rfl) rfl ?_))))))))))))
 refine q9 11 (.pointer (some ⟨g1, 0, none⟩)) rfl rfl rfl (qm rfl) rfl (q9 12 (.pointer (some ⟨g1, 0, none⟩)) rfl rfl rfl (qm rfl) rfl (q9 13 (.pointer (some ⟨g1, 2, none⟩)) rfl rfl rfl (qz rfl qcZ) rfl (qa9 14 (.int .i64 x17.2.2) rfl rfl rfl (qY (i := 1) rfl tf3 rfl rfl (fun _ => rfl) rfl) rfl (q9 15 (.int .i64 x6) rfl rfl rfl (qm rfl) rfl (q9 16 (.int .i64 (isub .i64 x17.2.2 x6)) rfl rfl rfl (qm rfl) rfl (q9 17 (.bool ((x25.1 : Int) == (isub .i64 x17.2.2 x6))) rfl rfl rfl (qm rfl) rfl (q9 18 (.bool ((x25.1 : Int) == (isub .i64 x17.2.2 x6))) rfl rfl rfl (qm rfl) rfl (qL 19 rfl (by kernel_rfl) rfl (kH ent108 rfl rfl rfl (fun x98 e98 => vM F ((x25.1 : Int) == (isub .i64 x17.2.2 x6)) x98 e98) .nil .nil .nil (fun x99 _ => ?_) (fun x98 e98 => ?_))))))))))
 exact zp (qhW (l' := [(8, .pointer (some ⟨g15, 0, none⟩)), (9, .pointer (some ⟨g16, 0, none⟩))]) (qdF rfl rfl (qdF rfl rfl qi7)) (zp (qcf ent106 rfl (.cons 3 rfl (.cons 2 rfl .nil)) (qeF _ _ _ _) (q5 Int (eI .i64) 3 1 (zz (none, 0) (resL (rs := [.cell 8 37, .cell 9 4]) rfl (.cell (i := 0) rfl tf37 rfl rfl (fun _ => rfl) rfl (.cell (i := 1) rfl tf4 rfl rfl (fun _ => rfl) rfl ResOk.nil)) rfl) (hB := fun h => by subst h; exact (.cons 3 rfl .nil)) (hR := fun h => by subst h; exact (.cons 0 rfl .nil)))))))
 intro _
 exact qc (qK (.cons 0 rfl (.cons 0 rfl (.cons 0 rfl (.cons 0 rfl (.cons 0 rfl .nil))))) (q7 0 rfl (q7 1 rfl qI)) (qV (by kernel_rfl) (qjz (qn ((), ()) (hB := (.cons 0 rfl (.cons 0 rfl (.cons 0 rfl (.cons 0 rfl .nil))))) (hR := (.cons 0 rfl (.cons 0 rfl .nil))) (hF := (qo 0 rfl qA))) (by intro c h; cases h))))
 refine qfe mixed [8, 9] [] [⟨g24, 90, [.int .i64 x25.1, .slice a26 x25.2.1.length c27, .bool x25.2.2]⟩, ⟨g1, 137, [.int .i64 x17.2.1, .slice a4 x3.length c5, .int .i64 x17.2.2]⟩, ⟨g16, 4, [.bool false]⟩, ⟨g15, 37, [.slice a19 x17.1.length c20]⟩, ⟨g14, 26, [.int .i64 x11, .int .i64 x12, .int .i64 x13]⟩] [Sl (eI .u8) 1 (.slice a4 x3.length c5) x3, Sl (eI .i64) 1 (.slice a9 x8.length c10) x8] (.cons 0 rfl (.cons 0 rfl (.cons 0 rfl (.cons 0 rfl (.cons 0 rfl .nil))))) (q7 0 rfl (q7 1 rfl qI)) 20 rfl (q9 0 (.pointer (some ⟨g24, 0, none⟩)) rfl rfl rfl (qm rfl) rfl (q9 1 (.pointer (some ⟨g24, 0, none⟩)) rfl rfl rfl (qm rfl) rfl (q9 2 (.pointer (some ⟨g24, 2, none⟩)) rfl rfl rfl (qz rfl qcE) rfl (qa9 3 (.bool x25.2.2) rfl rfl rfl (qY (i := 0) rfl tf4 rfl rfl (fun _ => rfl) rfl) rfl (q9 4 (.bool (!x25.2.2)) rfl rfl rfl (qm rfl) rfl (q9 5 (.bool (!x25.2.2)) rfl rfl rfl (qm rfl) rfl (qJ (d := 40) (v := .bool false) rfl (by rw [h97] <;> rfl) (vf 6 rfl rfl rfl rfl (vf 7 rfl rfl rfl rfl (vf 8 rfl rfl rfl rfl (vf 9 rfl rfl rfl rfl (vf 10 rfl rfl rfl rfl ?_))))))))))))
 refine vf 11 rfl rfl rfl rfl (vf 12 rfl rfl rfl rfl (vf 13 rfl rfl rfl rfl (vf 14 rfl rfl rfl rfl (vf 15 rfl rfl rfl rfl (vf 16 rfl rfl rfl rfl (vf 17 rfl rfl rfl rfl (q9 18 (.bool false) rfl rfl rfl (qm rfl) rfl (qL 19 rfl (by kernel_rfl) rfl (kH ent108 rfl rfl rfl (fun x100 e100 => vM F false x100 e100) .nil .nil .nil (fun x101 _ => ?_) (fun x100 e100 => ?_))))))))))
 exact zp (qhW (l' := [(8, .pointer (some ⟨g15, 0, none⟩)), (9, .pointer (some ⟨g16, 0, none⟩))]) (qdF rfl rfl (qdF rfl rfl qi7)) (zp (qcf ent106 rfl (.cons 3 rfl (.cons 2 rfl .nil)) (qeF _ _ _ _) (q5 Int (eI .i64) 3 1 (zz (none, 0) (resL (rs := [.cell 8 37, .cell 9 4]) rfl (.cell (i := 0) rfl tf37 rfl rfl (fun _ => rfl) rfl (.cell (i := 1) rfl tf4 rfl rfl (fun _ => rfl) rfl ResOk.nil)) rfl) (hB := fun h => by subst h; exact (.cons 3 rfl .nil)) (hR := fun h => by subst h; exact (.cons 0 rfl .nil)))))))
 intro _
 exact qc (qK (.cons 0 rfl (.cons 0 rfl (.cons 0 rfl (.cons 0 rfl (.cons 0 rfl .nil))))) (q7 0 rfl (q7 1 rfl qI)) (qV (by kernel_rfl) (qjz (qn ((), ()) (hB := (.cons 0 rfl (.cons 0 rfl (.cons 0 rfl (.cons 0 rfl .nil))))) (hR := (.cons 0 rfl (.cons 0 rfl .nil))) (hF := (qo 0 rfl qA))) (by intro c h; cases h))))
 rintro ⟨_, _⟩
 try dsimp only
 refine qH (fun ((_, _) : (Unit × Unit)) => [(8, .pointer (some ⟨g15, 0, none⟩)), (9, .pointer (some ⟨g16, 0, none⟩))]) (fun ((_, _) : (Unit × Unit)) => [⟨g1, 137, [.int .i64 x17.2.1, .slice a4 x3.length c5, .int .i64 x17.2.2]⟩, ⟨g16, 4, [.bool false]⟩, ⟨g15, 37, [.slice a19 x17.1.length c20]⟩]) (fun ((_, _) : (Unit × Unit)) => [Ro (eI .i64) 3 1 (.slice a19 x17.1.length c20) x17.1]) (fun ((_, _) : (Unit × Unit)) => [Sl (eI .u8) 1 (.slice a4 x3.length c5) x3]) (fun ((_, _) : (Unit × Unit)) => qa0 F x17) ?_ ?_
 refine qf (qa (qd rfl rfl rfl (qS rfl rfl rfl (qj rfl rfl qeg rfl (qj rfl rfl zX rfl (qk (i := 0) rfl rfl tf3 rfl rfl (fun _ => rfl) rfl rfl (qd rfl rfl rfl (qc (qe (qD (zi (fun ((x75, _) : (Int × Unit)) => [(0, .pointer (some ⟨g1, 0, none⟩)), (8, .pointer (some ⟨g15, 0, none⟩)), (9, .pointer (some ⟨g16, 0, none⟩)), (10, .int .i64 x6), (11, .pointer (some ⟨g24, 0, none⟩)), (59, .int .i64 x25.1), (60, .int .i64 x75)]) (fun ((x75, _) : (Int × Unit)) => [⟨g24, 90, [.int .i64 x25.1, .slice a26 x25.2.1.length c27, .bool x25.2.2]⟩, ⟨g1, 137, [.int .i64 x17.2.1, .slice a4 x3.length c5, .int .i64 x17.2.2]⟩, ⟨g16, 4, [.bool false]⟩, ⟨g15, 37, [.slice a19 x17.1.length c20]⟩]) (fun ((x75, _) : (Int × Unit)) => [Ro (eI .u8) 5 1 (.slice a26 x25.2.1.length c27) x25.2.1, Ro (eI .i64) 3 1 (.slice a19 x17.1.length c20) x17.1]) (fun ((x75, _) : (Int × Unit)) => [Sl (eI .u8) 1 (.slice a4 x3.length c5) x3]) (fun k (s : (Int × Unit)) => zR F x3 x6 x17 x25 k s.1) (0, ()) F ?_ (hB := (.cons 0 rfl (.cons 0 rfl (.cons 0 rfl (.cons 0 rfl .nil))))) (hR := (.cons 0 rfl (.cons 0 rfl .nil))) (hF := (qo 0 rfl qA)))))))))))))
 intro k86
 rintro ⟨x75, _⟩
 try dsimp only
 refine zF (m' := yV F x3 x6 x17 x25 (zR F x3 x6 x17 x25 k86) x75) rfl (qf (qa (qZ rfl rfl rfl rfl (qc (qe (qf (qC rfl (fun h96 => ?_) (fun h96 => ?_))))))))
 refine qt (qe (qf (qD (qf (qa (qd rfl rfl rfl (qb rfl rfl rfl (qc (qe (qfe mixed [8, 9] [] [⟨g24, 90, [.int .i64 x25.1, .slice a26 x25.2.1.length c27, .bool x25.2.2]⟩, ⟨g1, 137, [.int .i64 x17.2.1, .slice a4 x3.length c5, .int .i64 x17.2.2]⟩, ⟨g16, 4, [.bool false]⟩, ⟨g15, 37, [.slice a19 x17.1.length c20]⟩] [Sl (eI .u8) 1 (.slice a4 x3.length c5) x3] (.cons 0 rfl (.cons 0 rfl (.cons 0 rfl (.cons 0 rfl .nil)))) (q7 0 rfl qI) 16 rfl (q9 0 (.pointer (some ⟨g24, 0, none⟩)) rfl rfl rfl (qm rfl) rfl (q9 1 (.pointer (some ⟨g24, 0, none⟩)) rfl rfl rfl (qm rfl) rfl ?_))))))))))))
 refine q9 2 (.pointer (some ⟨g24, 0, none⟩)) rfl rfl rfl (qz rfl qeg) rfl (qa9 3 (.agg #[.int .i64 x25.1, .slice a26 x25.2.1.length c27]) rfl rfl rfl (qY (i := 0) rfl tf29 rfl rfl (by simp) rfl) rfl (q9 4 (.int .i64 x75) rfl rfl rfl (qm rfl) rfl (q9 6 (.pointer (some ⟨g1, 0, none⟩)) rfl rfl rfl (qm rfl) rfl (q9 7 (.pointer (some ⟨g1, 0, none⟩)) rfl rfl rfl (qm rfl) rfl (q9 8 (.pointer (some ⟨g1, 0, none⟩)) rfl rfl rfl (qz rfl qhx) rfl (qa9 9 (.agg #[.int .i64 x17.2.1, .slice a4 x3.length c5]) rfl rfl rfl (qY (i := 1) rfl tf29 rfl rfl (by simp) rfl) rfl (q9 10 (.int .i64 x6) rfl rfl rfl (qm rfl) rfl (q9 11 (.int .i64 x75) rfl rfl rfl (qm rfl) rfl (q9 12 (.int .i64 (iadd .i64 x6 x75)) rfl rfl rfl (qm rfl) rfl (qL 5 rfl (by kernel_rfl) rfl (qy ent79 rfl rfl rfl (fun x92 e92 => qcK F x25.1 x25.2.1 a26 c27 x75 x92 e92) (.consR 0 (Ro (eI .u8) 5 1 (.slice a26 x25.2.1.length c27) x25.2.1) rfl .nil) (fun x92 e92 => ?_))))))))))))
 intro _
 refine qc (qK (.cons 0 rfl (.cons 0 rfl (.cons 0 rfl (.cons 0 rfl .nil)))) (q7 0 rfl qI) (qL 13 rfl (by kernel_rfl) rfl (qy ent79 rfl rfl rfl (fun x93 e93 => qcK F x17.2.1 x3 a4 c5 (iadd .i64 x6 x75) x93 e93) (.consF 0 rfl .nil) (fun x93 e93 => ?_))))
 intro _
 refine qc (qK (.cons 0 rfl (.cons 0 rfl (.cons 0 rfl (.cons 0 rfl .nil)))) (q7 0 rfl qI) (q9 14 (.bool ((x92 : Int) == x93)) rfl rfl rfl (qm rfl) rfl (qL 15 rfl (by kernel_rfl) rfl (kH ent108 rfl rfl rfl (fun x94 e94 => vM F ((x92 : Int) == x93) x94 e94) .nil .nil .nil (fun x95 _ => ?_) (fun x94 e94 => ?_)))))
 exact zp (qhW (l' := [(8, .pointer (some ⟨g15, 0, none⟩)), (9, .pointer (some ⟨g16, 0, none⟩))]) (qdF rfl rfl (qdF rfl rfl qi7)) (qbH (zp (zp (qbH (zp (qcf ent106 rfl (.cons 3 rfl (.cons 2 rfl .nil)) (qeF _ _ _ _) (q5 Int (eI .i64) 3 1 (zz (none, 0) (resL (rs := [.cell 8 37, .cell 9 4]) rfl (.cell (i := 0) rfl tf37 rfl rfl (fun _ => rfl) rfl (.cell (i := 1) rfl tf4 rfl rfl (fun _ => rfl) rfl ResOk.nil)) rfl) (hB := fun h => by subst h; exact (.cons 3 rfl .nil)) (hR := fun h => by subst h; exact (.cons 0 rfl .nil)))))))))))
 intro _
 exact qc (qK (.cons 0 rfl (.cons 0 rfl (.cons 0 rfl (.cons 0 rfl .nil)))) (q7 0 rfl qI) (qV (by kernel_rfl) (qjz (qU (qe (qa (qN rfl rfl rfl rfl (qd rfl rfl rfl (qc (q4 (iadd .i64 x75 1, ()) (hB := (.cons 0 rfl (.cons 0 rfl (.cons 0 rfl (.cons 0 rfl .nil))))) (hR := (.cons 0 rfl (.cons 0 rfl .nil))) (hF := (qo 0 rfl qA))))))))) (by intro c h; cases h))))
 exact zn (qF (qF (zo (qn ((), ()) (hB := (.cons 1 rfl (.cons 1 rfl (.cons 1 rfl .nil)))) (hR := (.cons 1 rfl .nil)) (hF := (qo 0 rfl qA))))))
 rintro ⟨_, _⟩
 try dsimp only
 exact qf (qa (qk (i := 2) rfl rfl tf37 rfl rfl (fun _ => rfl) rfl rfl (qu (i := 2) rfl rfl rfl tf37 rfl rfl rfl rfl rfl (qu (i := 1) rfl rfl rfl tf4 rfl rfl rfl rfl rfl (qc (qe (qv (qjA (.inl rfl) ent106 rfl (qmZ _ _) (zz (a19, c20) (resL (rs := [.cell 8 37, .cell 9 4]) rfl (.cell (i := 2) rfl tf37 rfl rfl (fun _ => rfl) rfl (.cell (i := 1) rfl tf4 rfl rfl (fun _ => rfl) rfl ResOk.nil)) rfl) (hB := fun h => by subst h; exact (.cons 0 rfl .nil)) (hR := fun h => by subst h; exact (.cons 0 rfl .nil)))))))))))
theorem qdp (F : Nat) (x1 : Int) (x2 : List Int) (a3 : Option Addr) (c4 : Nat) (x5 : Int) (x6 : Int) (x7 : List Int) (a8 : Option Addr) (c9 : Nat) (x10 : Int) (x11 : Int) (x12 : Int) (r : (List Int × Int × Int)) (hm : jU F x1 x2 x5 x6 x7 x10 x11 x12 = some r) :
    Pure Tryz.prog 57 [.agg #[.int .i64 x1, .slice a3 x2.length c4], .int .i64 x5, .int .i64 x6, .slice a8 x7.length c9, .agg #[.int .i64 x10, .int .i64 x11, .int .i64 x12]] [Sl (eI .u8) 1 (.slice a3 x2.length c4) x2, Sl (eI .i64) 1 (.slice a8 x7.length c9) x7] (Option Addr × Nat) (fun g => .tuple #[.slice g.1 r.1.length g.2, .int .i64 r.2.1, .int .i64 r.2.2]) (fun g => [Ro (eI .i64) 3 1 (.slice g.1 r.1.length g.2) r.1]) (fun _ => []) := by
 refine qT Tryz.func57 rfl Tryz.ntmps57 rfl hm (fun w => qG (l' := [(0, .agg #[.int .i64 x1, .slice a3 x2.length c4]), (1, .int .i64 x5), (2, .int .i64 x6), (3, .slice a8 x7.length c9), (4, .agg #[.int .i64 x10, .int .i64 x11, .int .i64 x12])]) rfl (qf (qa (qW rfl rfl rfl (fun g13 => qW rfl rfl rfl (fun g14 => qb rfl rfl rfl (qb rfl rfl rfl (qb rfl rfl rfl (qc (qe (qf (qa ?_))))))))))))
 refine qk (i := 1) rfl rfl tf29 rfl rfl (by simp) rfl rfl (qd rfl rfl rfl (q6 (cells := [.int .i64 x1, .slice a3 x2.length c4, .int .i64 x5]) rfl st137 rfl (by kernel_rfl) rfl (qW rfl rfl rfl (fun g15 => qb rfl rfl rfl (qc (qe (qf (qa (qd rfl rfl rfl (qd rfl rfl rfl (qd rfl rfl rfl (qk (i := 1) rfl rfl tf26 rfl rfl (by simp) rfl rfl ?_))))))))))))
 refine q2 ent83 rfl rfl rfl (fun x16 e16 => qd8 F g15 x1 x2 a3 c4 x5 x6 x7 a8 c9 x10 x11 x12 x16 e16) (.cons 0 rfl .nil) .nil (.consF 0 rfl (.consF 1 rfl .nil)) (fun x16 e16 => ?_)
 rintro ⟨a17, c18⟩
 refine qd rfl rfl rfl (qr rfl rfl rfl rfl (qr rfl rfl rfl rfl (qb rfl rfl rfl (qb rfl rfl rfl (qc (qe (qf (qf (qa (qd rfl rfl rfl (kn rfl rfl rfl (qc ?_))))))))))))
 refine qe (qC rfl (fun h20 => ?_) (fun h20 => ?_))
 exact qf (qa (qb rfl rfl rfl (qb rfl rfl rfl (qb rfl rfl rfl (qc (qe (qv (qq (q5 Int (eI .i64) 3 1 (qs (none, 0) (res3 rfl rfl rfl rfl) (fun h => by subst h; exact (.cons 0 rfl .nil))))))))))))
 refine qt (qe (qf (zm mixed [] [⟨g15, 137, [.int .i64 x16.2.2.1, .slice a3 x2.length c4, .int .i64 x16.2.2.2]⟩, ⟨g14, 26, [.int .i64 x10, .int .i64 x11, .int .i64 x12]⟩, ⟨g13, 29, [.int .i64 x1, .slice a3 x2.length c4]⟩] [Sl (eI .u8) 1 (.slice a3 x2.length c4) x2, Sl (eI .i64) 1 (.slice a8 x7.length c9) x7] (.cons 0 rfl (.cons 0 rfl (.cons 0 rfl .nil))) (q7 0 rfl (q7 1 rfl qI)) 8 rfl (qg 0 (.slice a17 x16.1.length c18) rfl rfl rfl (qm rfl) (qg 1 (.pointer (some ⟨g15, 0, none⟩)) rfl rfl rfl (qm rfl) (qg 2 (.pointer (some ⟨g15, 0, none⟩)) rfl rfl rfl (qm rfl) (qg 3 (.pointer (some ⟨g15, 2, none⟩)) rfl rfl rfl (qz rfl qcZ) (qX 4 (.int .i64 x16.2.2.2) rfl rfl rfl (qY (i := 0) rfl tf3 rfl rfl (fun _ => rfl) rfl) (qg 5 (.slice a17 x16.1.length c18) rfl rfl rfl (qm rfl) (qg 6 (.int .i64 x16.2.2.2) rfl rfl rfl (qm rfl) (qg 7 (.int .i64 0) rfl rfl rfl (qm rfl) (qV (by kernel_rfl) ?_))))))))))))
 exact zw (qe (qv (qs (a17, c18) (res3 rfl rfl rfl rfl) (fun h => by subst h; exact (.cons 0 rfl .nil))))) (by intro c h; cases h)
set_option maxHeartbeats 4000000 in
theorem qhp (F : Nat) (x1 : Int) (x2 : Int) (x3 : Int) (x4 : Int) (x5 : Int) (x6 : List Int) (a7 : Option Addr) (c8 : Nat) (r : (List (List Int) × Bool)) (hm : qcX F x1 x2 x3 x4 x5 x6 = some r) :
    Pure Tryz.prog 30 [.agg #[.int .i64 x1, .int .i64 x2, .int .i64 x3, .int .i64 x4, .int .i64 x5, .slice a7 x6.length c8]] [Sl (eI .u8) 1 (.slice a7 x6.length c8) x6] (Option Addr × (Nat × List (Option Addr × Nat))) (fun g => .tuple #[.slice g.1 r.1.length g.2.1, .bool r.2]) (fun g => [RoN eN37 rN37 37 1 (.slice g.1 r.1.length g.2.1) r.1 g.2.2 []]) (fun _ => []) := by
 refine qT Tryz.func30 rfl Tryz.ntmps30 rfl hm (fun w => qG (l' := [(0, .agg #[.int .i64 x1, .int .i64 x2, .int .i64 x3, .int .i64 x4, .int .i64 x5, .slice a7 x6.length c8])]) rfl (qf (qa (qW rfl rfl rfl (fun g9 => qb rfl rfl rfl (qb rfl rfl rfl (qc (qe (qf (qa (qb rfl rfl rfl (qc ?_))))))))))))
 refine qe (qH (fun (((x261, x262), (a259, c260)) : ((List (List Int) × Int) × (Option Addr × (Nat × List (Option Addr × Nat))))) => [(1, .pointer (some ⟨g9, 0, none⟩)), (2, .slice a259 x261.length c260.1), (4, .int .i64 x262)]) (fun (((x261, x262), (a259, c260)) : ((List (List Int) × Int) × (Option Addr × (Nat × List (Option Addr × Nat))))) => [⟨g9, 31, [.int .i64 x1, .int .i64 x2, .int .i64 x3, .int .i64 x4, .int .i64 x5, .slice a7 x6.length c8]⟩]) (fun (((x261, x262), (a259, c260)) : ((List (List Int) × Int) × (Option Addr × (Nat × List (Option Addr × Nat))))) => [RoN eN37 rN37 37 1 (.slice a259 x261.length c260.1) x261 c260.2 []]) (fun (((x261, x262), (a259, c260)) : ((List (List Int) × Int) × (Option Addr × (Nat × List (Option Addr × Nat))))) => [Sl (eI .u8) 1 (.slice a7 x6.length c8) x6]) (fun (((x261, x262), _) : ((List (List Int) × Int) × (Option Addr × (Nat × List (Option Addr × Nat))))) => qbJ F x5 x261 x262) ?_ ?_)
 refine qf (qa (qj rfl rfl qe1 rfl (qk (i := 0) rfl rfl tf3 rfl rfl (fun _ => rfl) rfl rfl (qd rfl rfl rfl (qc (qe (qD (qms (List Int) (Option Addr × Nat) eN37 rN37 37 1 (zi (fun (((x348, x349, x350), (a346, c347)) : ((List (List Int) × Int × Int) × (Option Addr × (Nat × List (Option Addr × Nat))))) => [(1, .pointer (some ⟨g9, 0, none⟩)), (2, .slice a346 x348.length c347.1), (4, .int .i64 x349), (14, .int .i64 x1), (15, .int .i64 x350)]) (fun (((x348, x349, x350), (a346, c347)) : ((List (List Int) × Int × Int) × (Option Addr × (Nat × List (Option Addr × Nat))))) => [⟨g9, 31, [.int .i64 x1, .int .i64 x2, .int .i64 x3, .int .i64 x4, .int .i64 x5, .slice a7 x6.length c8]⟩]) (fun (((x348, x349, x350), (a346, c347)) : ((List (List Int) × Int × Int) × (Option Addr × (Nat × List (Option Addr × Nat))))) => [RoN eN37 rN37 37 1 (.slice a346 x348.length c347.1) x348 c347.2 []]) (fun (((x348, x349, x350), (a346, c347)) : ((List (List Int) × Int × Int) × (Option Addr × (Nat × List (Option Addr × Nat))))) => [Sl (eI .u8) 1 (.slice a7 x6.length c8) x6]) (fun k (s : ((List (List Int) × Int × Int) × (Option Addr × (Nat × List (Option Addr × Nat))))) => kY F x1 x2 x3 x4 x5 x6 k s.1) ((([] : List (List Int)), 0, 0), (none, (0, ([] : List (Option Addr × Nat))))) F ?_ (hB := (.cons 0 rfl .nil)) (hR := (.cons 0 rfl .nil)) (hF := (qo 0 rfl qA)))))))))))
 intro k431
 rintro ⟨⟨x348, x349, x350⟩, ⟨a346, c347⟩⟩
 try dsimp only
 refine zF (m' := qap F x1 x2 x3 x4 x5 x6 (kY F x1 x2 x3 x4 x5 x6 k431) x348 x349 x350) rfl (qf (qa (qZ rfl rfl rfl rfl (qc (qe (qf (qC rfl (fun h511 => ?_) (fun h511 => ?_))))))))
 refine qt (qe (qH (fun (((x472, x473), (a470, c471)) : ((List (List Int) × Int) × (Option Addr × (Nat × List (Option Addr × Nat))))) => [(1, .pointer (some ⟨g9, 0, none⟩)), (2, .slice a470 x472.length c471.1), (4, .int .i64 x473), (14, .int .i64 x1), (15, .int .i64 x350)]) (fun (((x472, x473), (a470, c471)) : ((List (List Int) × Int) × (Option Addr × (Nat × List (Option Addr × Nat))))) => [⟨g9, 31, [.int .i64 x1, .int .i64 x2, .int .i64 x3, .int .i64 x4, .int .i64 x5, .slice a7 x6.length c8]⟩]) (fun (((x472, x473), (a470, c471)) : ((List (List Int) × Int) × (Option Addr × (Nat × List (Option Addr × Nat))))) => [RoN eN37 rN37 37 1 (.slice a470 x472.length c471.1) x472 c471.2 []]) (fun (((x472, x473), (a470, c471)) : ((List (List Int) × Int) × (Option Addr × (Nat × List (Option Addr × Nat))))) => [Sl (eI .u8) 1 (.slice a7 x6.length c8) x6]) (fun (((x472, x473), _) : ((List (List Int) × Int) × (Option Addr × (Nat × List (Option Addr × Nat))))) => jd F (kY F x1 x2 x3 x4 x5 x6 k431) x350 x472 x473) ?_ ?_))
 refine qD (qf (qa (qd rfl rfl rfl (qb rfl rfl rfl (qc (qe (qf (qa (qk (i := 0) rfl rfl tf31 rfl rfl (by simp) rfl rfl (qd rfl rfl rfl (qd rfl rfl rfl (qy ent56 rfl rfl rfl (fun x474 e474 => qiY F x1 x2 x3 x4 x5 x6 a7 c8 x349 x350 x474 e474) (.consF 0 rfl .nil) (fun x474 e474 => ?_)))))))))))))
 intro _
 refine qd rfl rfl rfl (qr rfl rfl rfl rfl (qr rfl rfl rfl rfl (qr rfl rfl rfl rfl (qb rfl rfl rfl (qb rfl rfl rfl (qb rfl rfl rfl (qc (qe (qf (qf (qa (qd rfl rfl rfl ?_))))))))))))
 refine kn rfl rfl rfl (qc (qe (qC rfl (fun h510 => ?_) (fun h510 => ?_))))
 refine qf (qa (qb rfl rfl rfl (qb rfl rfl rfl (qc (qe (qv (qq (qP (qq (qq (qP (qq ?_))))))))))))
 exact qcU (List Int) (Option Addr × Nat) eN37 rN37 37 1 (qs (none, (0, ([] : List (Option Addr × Nat)))) (res2 rfl rfl rfl) (fun h => by subst h; exact (.cons 0 rfl .nil)))
 refine qt (qe (qf (qa (qb rfl rfl rfl (qc (qe (qf (qf (qa (qd rfl rfl rfl (zr rfl rfl rfl rfl (qc ?_))))))))))))
 refine qe (qC rfl (fun h509 => ?_) (fun h509 => ?_))
 refine qa (qd rfl rfl rfl (qd rfl rfl rfl (qd rfl rfl rfl (zO rfl rfl rfl rfl (qmv (j := 0) rfl Tryz.underlying22 tf37 rfl rfl rfl rfl (fun x482 e482 g483 h484 g485 h486 => qk8 (i := 0) rfl h484 (List.not_mem_nil) (qjv (j := 1) (p := (x482, g483)) yY rfl rfl tf37 rfl h486 h484 rfl (fun _ => rfl) rfl rfl (qb rfl rfl rfl (qc (qe (qf (qa ?_))))))))))))
 refine qj rfl rfl qc1 rfl (qk (i := 0) rfl rfl tf26 rfl rfl (by simp) rfl rfl (qM rfl tf26 rfl (fun g487 => qu (i := 0) rfl rfl rfl tf26 rfl rfl rfl rfl rfl (qc (qe (qf (qa (qd rfl rfl rfl (qj rfl rfl qa7 rfl (qu (i := 0) rfl rfl rfl tf3 rfl rfl rfl rfl rfl (qc (qe ?_))))))))))))
 refine qf (qa (qj rfl rfl qbL rfl (qk (i := 1) rfl rfl tf29 rfl rfl (by simp) rfl rfl (qd rfl rfl rfl (qd rfl rfl rfl (qd rfl rfl rfl (qk (i := 0) rfl rfl tf26 rfl rfl (by simp) rfl rfl (qy ent57 rfl rfl rfl (fun x488 e488 => qdp F x5 x6 a7 c8 x474.2.1 x350 x482 g483.1 g483.2 x474.1 x3 x4 x488 e488) (.consF 0 rfl (.consR 0 (Ro (eI .i64) 3 1 (.slice g483.1 x482.length g483.2) x482) rfl .nil)) (fun x488 e488 => ?_)))))))))
 rintro ⟨a489, c490⟩
 refine qd rfl rfl rfl (qr rfl rfl rfl rfl (qr rfl rfl rfl rfl (qr rfl rfl rfl rfl (qb rfl rfl rfl (qb rfl rfl rfl (qb rfl rfl rfl (qc (qe (qf (qf (qjs (rin := rN37) (p := (x482, g483)) (i := 1) (k := 0) (.cons 1 rfl .nil) rfl rfl h484 (qa ?_))))))))))))
 refine qd rfl rfl rfl (zN rfl rfl rfl rfl (qc (qe (qC rfl (fun h497 => ?_) (fun h497 => ?_)))))
 refine qf (qa (qb rfl rfl rfl (qb rfl rfl rfl (qc (qe (qv (qq (qP (qq (qq (qP (qq ?_))))))))))))
 exact qcU (List Int) (Option Addr × Nat) eN37 rN37 37 1 (qs (none, (0, ([] : List (Option Addr × Nat)))) (res2 rfl rfl rfl) (fun h => by subst h; exact (.cons 0 rfl .nil)))
 refine qt (qe (qa (qd rfl rfl rfl (qd rfl rfl rfl (zB (vs := [.slice a489 x488.1.length c490]) (ys := ([(x488.1, (a489, c490))] : List (List Int × (Option Addr × Nat)))) yY (by decide) rfl Tryz.underlying22 tf37 rfl rfl rfl rfl rfl (by decide) (fun a492 c493 => qek (rin := rN37) (i := 0) ([x488.1] : List (List Int)) ([(a489, c490)] : List (Option Addr × Nat)) rfl rfl (.cons 1 rfl .nil) (qiR yY rfl Tryz.underlying22 tf37 rfl rfl rfl rfl (.cons 1 rfl (.cons 0 rfl .nil)) rfl rfl (fun x494 e494 a495 c496 => qd rfl rfl rfl (qb rfl rfl rfl (qb rfl rfl rfl (qc (qU ?_))))))))))))
 exact qn ((x494, x488.2.1), (a495, (c496, (c347.2 ++ ([(a489, c490)] : List (Option Addr × Nat)))))) (hB := (.cons 1 rfl .nil)) (hR := (.cons 0 rfl .nil)) (hF := (qo 0 rfl qA))
 refine qt (qe (qf (qa (qj rfl rfl qc1 rfl (qk (i := 0) rfl rfl tf26 rfl rfl (by simp) rfl rfl (qM rfl tf26 rfl (fun g498 => qu (i := 0) rfl rfl rfl tf26 rfl rfl rfl rfl rfl (qc (qe (qf (qa (qd rfl rfl rfl ?_))))))))))))
 refine qj rfl rfl qa7 rfl (qu (i := 0) rfl rfl rfl tf3 rfl rfl rfl rfl rfl (qc (qe (qf (qa (qj rfl rfl qbL rfl (qk (i := 1) rfl rfl tf29 rfl rfl (by simp) rfl rfl (qd rfl rfl rfl (qd rfl rfl rfl (qd rfl rfl rfl (qk (i := 0) rfl rfl tf26 rfl rfl (by simp) rfl rfl (zG Int (eI .i64) 3 1 ?_))))))))))))
 refine qy ent57 rfl rfl rfl (fun x499 e499 => qdp F x5 x6 a7 c8 x474.2.1 x350 ([] : List Int) none 0 x474.1 x3 x4 x499 e499) (.consF 0 rfl (.consR 0 (Ro (eI .i64) 3 1 (.slice none ([] : List Int).length 0) ([] : List Int)) rfl .nil)) (fun x499 e499 => ?_)
 rintro ⟨a500, c501⟩
 refine qd rfl rfl rfl (qr rfl rfl rfl rfl (qr rfl rfl rfl rfl (qr rfl rfl rfl rfl (qb rfl rfl rfl (qb rfl rfl rfl (qb rfl rfl rfl (qc (qe (qf (qf (qa (qd rfl rfl rfl ?_))))))))))))
 refine zN rfl rfl rfl rfl (qc (qe (qC rfl (fun h508 => ?_) (fun h508 => ?_))))
 refine qf (qa (qb rfl rfl rfl (qb rfl rfl rfl (qc (qe (qv (qq (qP (qq (qq (qP (qq ?_))))))))))))
 exact qcU (List Int) (Option Addr × Nat) eN37 rN37 37 1 (qs (none, (0, ([] : List (Option Addr × Nat)))) (res2 rfl rfl rfl) (fun h => by subst h; exact (.cons 0 rfl .nil)))
 refine qt (qe (qa (qd rfl rfl rfl (qd rfl rfl rfl (zB (vs := [.slice a500 x499.1.length c501]) (ys := ([(x499.1, (a500, c501))] : List (List Int × (Option Addr × Nat)))) yY (by decide) rfl Tryz.underlying22 tf37 rfl rfl rfl rfl rfl (by decide) (fun a503 c504 => qek (rin := rN37) (i := 0) ([x499.1] : List (List Int)) ([(a500, c501)] : List (Option Addr × Nat)) rfl rfl (.cons 0 rfl .nil) (qiR yY rfl Tryz.underlying22 tf37 rfl rfl rfl rfl (.cons 2 rfl (.cons 0 rfl .nil)) rfl rfl (fun x505 e505 a506 c507 => qd rfl rfl rfl (qb rfl rfl rfl (qb rfl rfl rfl (qc (qU ?_))))))))))))
 exact qn ((x505, x499.2.1), (a506, (c507, (c347.2 ++ ([(a500, c501)] : List (Option Addr × Nat)))))) (hB := (.cons 1 rfl .nil)) (hR := (.cons 0 rfl .nil)) (hF := (qo 0 rfl qA))
 rintro ⟨⟨x472, x473⟩, ⟨a470, c471⟩⟩
 try dsimp only
 exact qa (qN rfl rfl rfl rfl (qd rfl rfl rfl (qc (q4 ((x472, x473, iadd .i64 x350 1), (a470, c471)) (hB := (.cons 0 rfl .nil)) (hR := (.cons 0 rfl .nil)) (hF := (qo 0 rfl qA))))))
 exact zn (qF (qF (zo (qn ((x348, x349), (a346, c347)) (hB := (.cons 0 rfl .nil)) (hR := (.cons 0 rfl .nil)) (hF := (qo 0 rfl qA))))))
 rintro ⟨⟨x261, x262⟩, ⟨a259, c260⟩⟩
 try dsimp only
 refine qf (zm mixed [] [⟨g9, 31, [.int .i64 x1, .int .i64 x2, .int .i64 x3, .int .i64 x4, .int .i64 x5, .slice a7 x6.length c8]⟩] [Sl (eI .u8) 1 (.slice a7 x6.length c8) x6] (.cons 0 rfl .nil) (q7 0 rfl qI) 8 rfl (qg 0 (.slice a259 x261.length c260.1) rfl rfl rfl (qm rfl) (qg 1 (.int .i64 x262) rfl rfl rfl (qm rfl) (qg 2 (.pointer (some ⟨g9, 4, none⟩)) rfl rfl rfl (qz rfl qbL) (qg 3 (.pointer (some ⟨g9, 4, none⟩)) rfl rfl rfl (qz rfl zX) (qX 4 (.int .i64 x5) rfl rfl rfl (qY (i := 0) rfl tf3 rfl rfl (fun _ => rfl) rfl) (qg 5 (.bool ((x262 : Int) == x5)) rfl rfl rfl (qm rfl) (qg 6 (.slice a259 x261.length c260.1) rfl rfl rfl (qm rfl) (qg 7 (.bool ((x262 : Int) == x5)) rfl rfl rfl (qm rfl) (qV (by kernel_rfl) (zw (qe ?_) (by intro c h; cases h))))))))))))
 exact qv (qs (a259, c260) (res2 rfl rfl rfl) (fun h => by subst h; exact (.cons 0 rfl .nil)))
theorem qcw (F : Nat) (x1 : List Int) (a2 : Option Addr) (c3 : Nat) (x4 : List Int) (a5 : Option Addr) (c6 : Nat) (r : Bool) (hm : yf F x1 x4 = some r) :
    Pure Tryz.prog 31 [.slice a2 x1.length c3, .slice a5 x4.length c6] [Sl (eI .u8) 1 (.slice a2 x1.length c3) x1, Sl (eI .u8) 1 (.slice a5 x4.length c6) x4] Unit (fun _ => .bool r) (fun _ => []) (fun _ => []) := by
  refine qT Tryz.func31 rfl Tryz.ntmps31 rfl hm (fun w => ?_)
  refine qG (l' := [(0, .slice a2 x1.length c3), (1, .slice a5 x4.length c6)]) rfl ?_
  refine qf ?_
  refine qa ?_
  refine qb rfl rfl rfl ?_
  refine qc ?_
  refine qe ?_
  refine qf ?_
  refine qf ?_
  refine qa ?_
  refine qd rfl rfl rfl ?_
  refine q3 rfl Tryz.underlying27 rfl rfl ?_
  refine qd rfl rfl rfl ?_
  refine q3 rfl Tryz.underlying27 rfl rfl ?_
  refine zN rfl rfl rfl rfl ?_
  refine qc ?_
  refine qe ?_
  refine qC rfl (fun h228 => ?_) (fun h228 => ?_)
  · refine qf ?_
    refine qa ?_
    refine qb rfl rfl rfl ?_
    refine qc ?_
    refine qe ?_
    refine qv ?_
    refine qq ?_
    exact qs () (res1 rfl rfl)
  · refine qt ?_
    refine qe ?_
    refine qH (fun ((_, _) : (Unit × Unit)) => []) (fun ((_, _) : (Unit × Unit)) => []) (fun ((_, _) : (Unit × Unit)) => []) (fun ((_, _) : (Unit × Unit)) => []) (fun ((_, _) : (Unit × Unit)) => jL F) ?_ ?_
    · refine qf ?_
      refine qa ?_
      refine qd rfl rfl rfl ?_
      refine q3 rfl Tryz.underlying27 rfl rfl ?_
      refine qd rfl rfl rfl ?_
      refine qc ?_
      refine qe ?_
      refine qD ?_
      refine zi (fun ((x154, _) : (Int × Unit)) => [(0, .slice a2 x1.length c3), (1, .slice a5 x4.length c6), (12, .int .i64 (x1.length : Int)), (13, .int .i64 x154)]) (fun ((x154, _) : (Int × Unit)) => []) (fun ((x154, _) : (Int × Unit)) => []) (fun ((x154, _) : (Int × Unit)) => [Sl (eI .u8) 1 (.slice a2 x1.length c3) x1, Sl (eI .u8) 1 (.slice a5 x4.length c6) x4]) (fun k (s : (Int × Unit)) => zM F x1 x4 k s.1) (0, ()) F ?_ (hF := (qo 0 rfl (qo 1 rfl qA)))
      intro k191
      rintro ⟨x154, _⟩
      try dsimp only
      refine zF (m' := kI F x1 x4 (zM F x1 x4 k191) x154) rfl ?_
      refine qf ?_
      refine qa ?_
      refine qZ rfl rfl rfl rfl ?_
      refine qc ?_
      refine qe ?_
      refine qf ?_
      refine qC rfl (fun h227 => ?_) (fun h227 => ?_)
      · refine qt ?_
        refine qe ?_
        refine qf ?_
        refine qD ?_
        refine qf ?_
        refine qa ?_
        refine qd rfl rfl rfl ?_
        refine qb rfl rfl rfl ?_
        refine qc ?_
        refine qe ?_
        refine qf ?_
        refine qai (j := 0) (zd .u8) (by decide) rfl (fun x218 e218 b219 o220 h221 => ?_)
        replace h221 : a2 = some ⟨b219, o220, none⟩ := h221
        refine qai (j := 2) (zd .u8) (by decide) rfl (fun x222 e222 b223 o224 h225 => ?_)
        replace h225 : a5 = some ⟨b223, o224, none⟩ := h225
        refine zm mixed [] [] [zH b223 (o224 + x154.toNat * 1) ((eI .u8) x222), zH b219 (o220 + x154.toNat * 1) ((eI .u8) x218), Sl (eI .u8) 1 (.slice a2 x1.length c3) x1, Sl (eI .u8) 1 (.slice a5 x4.length c6) x4] .nil (q7 0 rfl (q7 1 rfl (q7 2 rfl (q7 3 rfl qI)))) 9 rfl ?_
        refine qg 0 (.slice a2 x1.length c3) rfl rfl rfl (qm rfl) ?_
        refine qg 1 (.int .i64 x154) rfl rfl rfl (qm rfl) ?_
        refine qJ (d := 16) (v := .slice (some ⟨b219, o220, none⟩) x1.length c3) rfl (by rw [h221] <;> rfl) ?_
        refine qg 2 (.pointer (some ⟨b219, (o220 + x154.toNat * 1), none⟩)) rfl rfl rfl (qbc Tryz.underlying27 tf5 rfl rfl (ke e218).1 (qaU e218)) ?_
        refine qJ (d := 16) (v := .slice a2 x1.length c3) rfl (by rw [h221] <;> rfl) ?_
        refine km 3 (.int .u8 x218) [] rfl rfl rfl (vK (j := 1) rfl tf5 rfl rfl (fun _ => rfl) rfl) ?_
        refine qg 4 (.slice a5 x4.length c6) rfl rfl rfl (qm rfl) ?_
        refine qg 5 (.int .i64 x154) rfl rfl rfl (qm rfl) ?_
        refine qJ (d := 20) (v := .slice (some ⟨b223, o224, none⟩) x4.length c6) rfl (by rw [h225] <;> rfl) ?_
        refine qg 6 (.pointer (some ⟨b223, (o224 + x154.toNat * 1), none⟩)) rfl rfl rfl (qbc Tryz.underlying27 tf5 rfl rfl (ke e222).1 (qaU e222)) ?_
        refine qJ (d := 20) (v := .slice a5 x4.length c6) rfl (by rw [h225] <;> rfl) ?_
        refine km 7 (.int .u8 x222) [] rfl rfl rfl (vK (j := 0) rfl tf5 rfl rfl (fun _ => rfl) rfl) ?_
        refine qg 8 (.bool ((x218 : Int) != x222)) rfl rfl rfl (qm rfl) ?_
        refine qV (by kernel_rfl) ?_
        refine zw ?_ (by intro c h; cases h)
        refine qe ?_
        refine qC rfl (fun h226 => ?_) (fun h226 => ?_)
        · refine qf ?_
          refine qa ?_
          refine qb rfl rfl rfl ?_
          refine qc ?_
          refine qe ?_
          refine qv ?_
          refine qP ?_
          refine qq ?_
          refine qq ?_
          refine qP ?_
          refine qq ?_
          exact qs () (res1 rfl rfl)
        · refine qt ?_
          refine qU ?_
          refine qe ?_
          refine qa ?_
          refine qN rfl rfl rfl rfl ?_
          refine qd rfl rfl rfl ?_
          refine qc ?_
          exact q4 (iadd .i64 x154 1, ()) (hF := (qo 2 rfl (qo 3 rfl qA)))
      · refine zn ?_
        refine qF ?_
        refine qF ?_
        refine zo ?_
        exact qn ((), ())
    · rintro ⟨_, _⟩
      try dsimp only
      refine qf ?_
      refine qa ?_
      refine qb rfl rfl rfl ?_
      refine qc ?_
      refine qe ?_
      refine qv ?_
      exact qs () (res1 rfl rfl)
end Go.Proofs.YtpnfijegoepiaaaGreat
