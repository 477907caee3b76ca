/- Each Go function of this seat computes what its model says, part 5. -/
import Derived.Test.YtpnfijegoepiaaaGreatWalks4
namespace Go.Proofs.YtpnfijegoepiaaaGreat
open Go SX
set_option maxHeartbeats 4000000 in
theorem qi5 {F : Nat} {x1 : List Int} {a2 : Option Addr} {c3 : Nat} {x4 : Int} {x5 : Int} {x6 : List Int} {a7 : Option Addr} {c8 : Nat} {x9 : Int} {x10 : Int} {x11 : Int} {r : (List Int × Bool)} (hm : qcY F x1 x4 x5 x6 x9 x10 x11 = some r) :
    Pure Tryz.prog 64 [.slice a2 x1.length c3, .int .i64 x4, .int .i64 x5, .slice a7 x6.length c8, .agg #[.int .i64 x9, .int .i64 x10, .int .i64 x11]] [Sl (eI .i64) 1 (.slice a2 x1.length c3) x1, Sl (eI .i64) 1 (.slice a7 x6.length c8) x6] (Option Addr × Nat) (fun g => .tuple #[.slice g.1 r.1.length g.2, .bool r.2]) (fun g => [Ro (eI .i64) 3 1 (.slice g.1 r.1.length g.2) r.1]) (fun _ => []) := by
 refine qi Tryz.func64 rfl Tryz.ntmps64 rfl hm (fun w => ?_)
 refine au [28,6,3,4,24,3] ?_
 intro g12
 refine au [5,5,0,2,3,4,1,1,28,1] ?_
 intro x13 e13 _
 refine au [1,17,17,17,5,5,5,0,2,3,3,4,1,25,3,1] ?_
 refine qB 3 ((x13.2.2 : Int) != 0) [(0, .slice a2 x1.length c3), (1, .int .i64 x13.2.1), (2, .int .i64 x5), (3, .slice a7 x6.length c8), (9, .pointer (some ⟨g12, 0, none⟩)), (12, .int .u64 x13.1), (40, .bool (((x13.2.2 : Int) != 0) || (decide (300 < x13.1))))] (fun h16 => ?_) (fun h16 => ?_) ?_
 refine qb (os := _) rfl (qq (k := 37) rfl h16 ?_)
 refine au [7,7,24,8] ?_
 refine qe (d := 40) (v := .bool (((x13.2.2 : Int) != 0) || (decide (300 < x13.1)))) rfl (by rw [h16]; simp only [Bool.true_or]) ?_
 exact az [0,24,1]
 refine qb (os := _) rfl (qp (k := 37) rfl h16 ?_)
 refine au [1,24,6,24,9] ?_
 refine qe (d := 40) (v := .bool (((x13.2.2 : Int) != 0) || (decide (300 < x13.1)))) rfl (by rw [h16]; simp only [Bool.false_or]) ?_
 exact az [0,24,1]
 refine qb (os := _) rfl ?_
 refine av [0,2,9] ?_ ?_
 intro _
 refine au [3,4,5,5,0,2,12,11,24,14] ?_
 exact qj (none, 0)
 intro _
 refine av [10,2,3,3,4,1,24,15,0,2,9] ?_ ?_
 intro _
 refine au [3,4,5,5,0,2,12,11,24,14] ?_
 exact qj (none, 0)
 intro _
 refine au [10,2,3,4,5,0,2] ?_
 refine qc (fun (((x217, x220), (a218, c219)) : ((Int × List Int) × (Option Addr × Nat))) => ([(0, .slice a2 x1.length c3), (1, .int .i64 x217), (2, .int .i64 x5), (9, .pointer (some ⟨g12, 0, none⟩)), (12, .int .u64 x13.1), (14, .slice a218 x220.length c219)], [⟨g12, 26, [.int .i64 x9, .int .i64 x10, .int .i64 x11]⟩], [Ro (eI .i64) 3 1 (.slice a218 x220.length c219) x220], [Sl (eI .i64) 1 (.slice a2 x1.length c3) x1], vq F x1 x5 x10 x11 x13 x217 x220)) ?_ ?_
 refine av [3,4,13,23,24,6,0,2,9] ?_ ?_
 intro _
 refine au [3,4,5,0,2,3,4,1,1,28,1] ?_
 intro x1590 e1590 _
 refine au [1,17,17,17,5,5,5,0,2,3,3,4,1,25,3,1] ?_
 refine qB 7 ((x1590.2.2 : Int) != 0) [(0, .slice a2 x1.length c3), (1, .int .i64 x1590.2.1), (2, .int .i64 x5), (3, .slice a7 x6.length c8), (9, .pointer (some ⟨g12, 0, none⟩)), (12, .int .u64 x13.1), (15, .int .u64 x1590.1), (62, .bool (((x1590.2.2 : Int) != 0) || (decide ((iconv .u64 (iadd .i64 (x6.length : Int) 1)) < x1590.1))))] (fun h1593 => ?_) (fun h1593 => ?_) ?_
 refine qb (os := _) rfl (qq (k := 55) rfl h1593 ?_)
 refine au [7,7,7,7,7,7,24,8] ?_
 refine qe (d := 62) (v := .bool (((x1590.2.2 : Int) != 0) || (decide ((iconv .u64 (iadd .i64 (x6.length : Int) 1)) < x1590.1)))) rfl (by rw [h1593]; simp only [Bool.true_or]) ?_
 exact az [0,24,1]
 refine qb (os := _) rfl (qp (k := 55) rfl h1593 ?_)
 refine au [1,1,19,15,24,12,24,6,24,9] ?_
 refine qe (d := 62) (v := .bool (((x1590.2.2 : Int) != 0) || (decide ((iconv .u64 (iadd .i64 (x6.length : Int) 1)) < x1590.1)))) rfl (by rw [h1593]; simp only [Bool.false_or]) ?_
 exact az [0,24,1]
 refine qb (os := _) rfl ?_
 refine av [0,2,9] ?_ ?_
 intro _
 refine au [3,4,5,5,0,2,12,11,11,24,14] ?_
 exact qj (none, 0)
 intro _
 refine au [10,2,3,4,5,0,2] ?_
 refine qc (fun (((x1686, x1689), (a1687, c1688)) : ((Int × List Int) × (Option Addr × Nat))) => ([(0, .slice a2 x1.length c3), (1, .int .i64 x1686), (2, .int .i64 x5), (3, .slice a7 x6.length c8), (9, .pointer (some ⟨g12, 0, none⟩)), (12, .int .u64 x13.1), (16, .slice a1687 x1689.length c1688)], [⟨g12, 26, [.int .i64 x9, .int .i64 x10, .int .i64 x11]⟩], [Ro (eI .i64) 3 1 (.slice a1687 x1689.length c1688) x1689], [Sl (eI .i64) 1 (.slice a2 x1.length c3) x1, Sl (eI .i64) 1 (.slice a7 x6.length c8) x6], vv F x1 x5 x6 x10 x11 x13 x1686 x1689)) ?_ ?_
 refine au [3,4,5,0,2,14,25,14] ?_
 refine qk (fun (((x1724, x1727, x1728), (a1725, c1726)) : ((Int × List Int × Int) × (Option Addr × Nat))) => ([(0, .slice a2 x1.length c3), (1, .int .i64 x1724), (2, .int .i64 x5), (3, .slice a7 x6.length c8), (9, .pointer (some ⟨g12, 0, none⟩)), (12, .int .u64 x13.1), (15, .int .u64 x1590.1), (16, .slice a1725 x1727.length c1726), (17, .int .u64 x1728)], [⟨g12, 26, [.int .i64 x9, .int .i64 x10, .int .i64 x11]⟩], [Ro (eI .i64) 3 1 (.slice a1725 x1727.length c1726) x1727], [Sl (eI .i64) 1 (.slice a2 x1.length c3) x1, Sl (eI .i64) 1 (.slice a7 x6.length c8) x6])) (fun k (s : ((Int × List Int × Int) × (Option Addr × Nat))) => zY F x1 x5 x6 x10 x11 x13 x1590 k s.1) ((x1590.2.1, ([] : List Int), 0), (none, 0)) F ?_
 intro k1757
 rintro ⟨⟨x1724, x1727, x1728⟩, ⟨a1725, c1726⟩⟩
 try dsimp only
 refine ql (m' := qai F x1 x5 x6 x10 x11 x13 x1590 (zY F x1 x5 x6 x10 x11 x13 x1590 k1757) x1724 x1727 x1728) rfl ?_
 refine av [3,3,4,1,1,22,0,2,9] ?_ ?_
 intro _
 refine au [10,2,3,14,3,4,5,0,2,3,4,1,1,28,1] ?_
 intro x1772 e1772 _
 refine au [1,17,17,17,5,5,5,0,2,3,3,4,1,25,3,1] ?_
 refine qB 3 ((x1772.2.2 : Int) != 0) [(0, .slice a2 x1.length c3), (1, .int .i64 x1772.2.1), (2, .int .i64 x5), (3, .slice a7 x6.length c8), (9, .pointer (some ⟨g12, 0, none⟩)), (12, .int .u64 x13.1), (15, .int .u64 x1590.1), (16, .slice a1725 x1727.length c1726), (17, .int .u64 x1728), (18, .int .u64 x1772.1), (80, .bool (((x1772.2.2 : Int) != 0) || (decide (1000 < x1772.1))))] (fun h1775 => ?_) (fun h1775 => ?_) ?_
 refine qb (os := _) rfl (qq (k := 77) rfl h1775 ?_)
 refine au [7,7,24,8] ?_
 refine qe (d := 80) (v := .bool (((x1772.2.2 : Int) != 0) || (decide (1000 < x1772.1)))) rfl (by rw [h1775]; simp only [Bool.true_or]) ?_
 exact az [0,24,1]
 refine qb (os := _) rfl (qp (k := 77) rfl h1775 ?_)
 refine au [1,24,6,24,9] ?_
 refine qe (d := 80) (v := .bool (((x1772.2.2 : Int) != 0) || (decide (1000 < x1772.1)))) rfl (by rw [h1775]; simp only [Bool.false_or]) ?_
 exact az [0,24,1]
 refine qb (os := _) rfl ?_
 refine av [0,2,9] ?_ ?_
 intro _
 refine au [3,4,5,5,0,2,12,11,20,11,11,20,11,11,24,14] ?_
 exact qj (none, 0)
 intro _
 refine au [10,2] ?_
 refine qc (fun ((x1777, _) : (Int × Unit)) => ([(0, .slice a2 x1.length c3), (1, .int .i64 x1772.2.1), (2, .int .i64 x5), (3, .slice a7 x6.length c8), (9, .pointer (some ⟨g12, 0, none⟩)), (12, .int .u64 x13.1), (15, .int .u64 x1590.1), (16, .slice a1725 x1727.length c1726), (17, .int .u64 x1728), (18, .int .u64 x1777)], [⟨g12, 26, [.int .i64 x9, .int .i64 x10, .int .i64 x11]⟩], [Ro (eI .i64) 3 1 (.slice a1725 x1727.length c1726) x1727], [Sl (eI .i64) 1 (.slice a2 x1.length c3) x1, Sl (eI .i64) 1 (.slice a7 x6.length c8) x6], vw F (zY F x1 x5 x6 x10 x11 x13 x1590 k1757) x1727 x1728 x1772 x1777)) ?_ ?_
 refine av [3,4,1,24,6,0,2,9] ?_ ?_
 intro _
 refine au [4,1,15,5,0] ?_
 exact qa (iadd .u64 x1772.1 1, ())
 intro _
 refine au [10] ?_
 exact qa (x1772.1, ())
 rintro ⟨x1777, _⟩
 try dsimp only
 refine au [4,1,1,24,12] ?_
 refine qy (vs := [.int .i64 (iconv .i64 x1777)]) (ys := ([iconv .i64 x1777] : List Int)) (qo .i64) (by decide) rfl Tryz.underlying37 tf3 rfl rfl rfl rfl rfl (by decide) (fun a1778 c1779 => qA 1 (qo .i64) rfl Tryz.underlying37 tf3 rfl rfl rfl rfl rfl (.inl ⟨0, _, rfl⟩) rfl rfl (fun x1780 e1780 a1781 c1782 => ?_))
 refine au [5,0,21,2,4,1,15,5,0] ?_
 exact qh ((x1772.2.1, x1780, iadd .u64 x1728 1), (a1781, c1782))
 intro _
 refine au [24,4,16,16,24,5] ?_
 exact qa ((x1724, x1727), (a1725, c1726))
 rintro ⟨⟨x1686, x1689⟩, ⟨a1687, c1688⟩⟩
 try dsimp only
 refine au [3,4,1,1] ?_
 refine qg qiX ?_
 rintro x1690 e1690 ⟨a1691, c1692⟩
 refine au [1,17,17,5,5,0,2,3,4,1,25,3,1] ?_
 refine qB 6 ((x1690.2 : Int) != 0) [(0, .slice a2 x1.length c3), (1, .int .i64 x1686), (2, .int .i64 x5), (9, .pointer (some ⟨g12, 0, none⟩)), (12, .int .u64 x13.1), (14, .slice a1691 x1690.1.length c1692), (104, .bool (((x1690.2 : Int) != 0) || (decide ((iconv .i64 x13.1) < (x1690.1.length : Int)))))] (fun h1693 => ?_) (fun h1693 => ?_) ?_
 refine qb (os := _) rfl (qq (k := 98) rfl h1693 ?_)
 refine au [7,7,7,7,7,24,8] ?_
 refine qe (d := 104) (v := .bool (((x1690.2 : Int) != 0) || (decide ((iconv .i64 x13.1) < (x1690.1.length : Int))))) rfl (by rw [h1693]; simp only [Bool.true_or]) ?_
 exact az [0,24,1]
 refine qb (os := _) rfl (qp (k := 98) rfl h1693 ?_)
 refine au [1,19,1,24,12,24,6,24,9] ?_
 refine qe (d := 104) (v := .bool (((x1690.2 : Int) != 0) || (decide ((iconv .i64 x13.1) < (x1690.1.length : Int))))) rfl (by rw [h1693]; simp only [Bool.false_or]) ?_
 exact az [0,24,1]
 refine qb (os := _) rfl ?_
 refine av [0,2,9] ?_ ?_
 intro _
 refine au [3,4,5,5,0,2,12,11,24,14] ?_
 exact qj (none, 0)
 intro _
 refine au [10] ?_
 exact qa ((x1686, x1690.1), (a1691, c1692))
 intro _
 refine au [10,24,14] ?_
 exact qa ((x13.2.1, ([] : List Int)), (none, 0))
 rintro ⟨⟨x217, x220⟩, ⟨a218, c219⟩⟩
 try dsimp only
 refine av [3,3,4,1,19,1,24,12,24,15,0,2,9] ?_ ?_
 intro _
 refine au [3,4,1,5,5,0,2,12,11] ?_
 exact qj (a218, c219)
 intro _
 refine au [10,2] ?_
 refine qc (fun (((x898, x901), (a899, c900)) : ((Int × List Int) × (Option Addr × Nat))) => ([(0, .slice a2 x1.length c3), (1, .int .i64 x898), (2, .int .i64 x5), (9, .pointer (some ⟨g12, 0, none⟩)), (12, .int .u64 x13.1), (14, .slice a899 x901.length c900)], [⟨g12, 26, [.int .i64 x9, .int .i64 x10, .int .i64 x11]⟩], [Ro (eI .i64) 3 1 (.slice a899 x901.length c900) x901], [Sl (eI .i64) 1 (.slice a2 x1.length c3) x1], vr F x1 x5 x11 x13 x898 x901)) ?_ ?_
 refine av [3,4,13,23,24,6,0,2,9] ?_ ?_
 intro _
 refine au [3,4,5,0,2,3,4,1,1,28,1] ?_
 intro x913 e913 _
 refine au [1,17,17,17,5,5,5,0,2,3,3,4,1,25,3,1] ?_
 refine qB 3 ((x913.2.2 : Int) != 0) [(0, .slice a2 x1.length c3), (1, .int .i64 x913.2.1), (2, .int .i64 x5), (9, .pointer (some ⟨g12, 0, none⟩)), (12, .int .u64 x13.1), (14, .slice a218 x220.length c219), (19, .int .u64 x913.1), (126, .bool (((x913.2.2 : Int) != 0) || (decide (300 < x913.1))))] (fun h916 => ?_) (fun h916 => ?_) ?_
 refine qb (os := _) rfl (qq (k := 123) rfl h916 ?_)
 refine au [7,7,24,8] ?_
 refine qe (d := 126) (v := .bool (((x913.2.2 : Int) != 0) || (decide (300 < x913.1)))) rfl (by rw [h916]; simp only [Bool.true_or]) ?_
 exact az [0,24,1]
 refine qb (os := _) rfl (qp (k := 123) rfl h916 ?_)
 refine au [1,24,6,24,9] ?_
 refine qe (d := 126) (v := .bool (((x913.2.2 : Int) != 0) || (decide (300 < x913.1)))) rfl (by rw [h916]; simp only [Bool.false_or]) ?_
 exact az [0,24,1]
 refine qb (os := _) rfl ?_
 refine av [0,2,9] ?_ ?_
 intro _
 refine au [3,4,5,5,0,2,12,11,11,24,14] ?_
 exact qj (none, 0)
 intro _
 refine au [10,2,3,4,1,5,0,2,3,4,5,0,2,14] ?_
 refine qk (fun (((x1138, x1141, x1142, x1143), (a1139, c1140)) : ((Int × List Int × Int × Int) × (Option Addr × Nat))) => ([(0, .slice a2 x1.length c3), (1, .int .i64 x1138), (2, .int .i64 x5), (9, .pointer (some ⟨g12, 0, none⟩)), (12, .int .u64 x13.1), (14, .slice a1139 x1141.length c1140), (19, .int .u64 x913.1), (20, .int .i64 x1142), (21, .int .u64 x1143)], [⟨g12, 26, [.int .i64 x9, .int .i64 x10, .int .i64 x11]⟩], [Ro (eI .i64) 3 1 (.slice a1139 x1141.length c1140) x1141], [Sl (eI .i64) 1 (.slice a2 x1.length c3) x1])) (fun k (s : ((Int × List Int × Int × Int) × (Option Addr × Nat))) => qI F x1 x5 x10 x11 x13 x913 k s.1) ((x913.2.1, x220, x5, 0), (a218, c219)) F ?_
 intro k1365
 rintro ⟨⟨x1138, x1141, x1142, x1143⟩, ⟨a1139, c1140⟩⟩
 try dsimp only
 refine ql (m' := qag F x1 x5 x10 x11 x13 x913 (qI F x1 x5 x10 x11 x13 x913 k1365) x1138 x1141 x1142 x1143) rfl ?_
 refine av [3,3,4,1,1,22,0,2,9] ?_ ?_
 intro _
 refine au [10,2] ?_
 refine qc (fun (((x1474, x1477, x1478), (a1475, c1476)) : ((Int × List Int × Int) × (Option Addr × Nat))) => ([(0, .slice a2 x1.length c3), (1, .int .i64 x1474), (2, .int .i64 x5), (9, .pointer (some ⟨g12, 0, none⟩)), (12, .int .u64 x13.1), (14, .slice a1475 x1477.length c1476), (19, .int .u64 x913.1), (20, .int .i64 x1478), (21, .int .u64 x1143)], [⟨g12, 26, [.int .i64 x9, .int .i64 x10, .int .i64 x11]⟩], [Ro (eI .i64) 3 1 (.slice a1475 x1477.length c1476) x1477], [Sl (eI .i64) 1 (.slice a2 x1.length c3) x1], qce F (qI F x1 x5 x10 x11 x13 x913 k1365) x1143 x1474 x1477 x1478)) ?_ ?_
 refine au [14,3,4,5,5,0,2,3,4,1,1,28,1] ?_
 intro x1479 e1479 _
 refine au [1,17,17,17,5,5,5,0,2,3,3,4,1,25,3,1] ?_
 refine qB 3 ((x1479.2.2 : Int) != 0) [(0, .slice a2 x1.length c3), (1, .int .i64 x1479.2.1), (2, .int .i64 x5), (9, .pointer (some ⟨g12, 0, none⟩)), (12, .int .u64 x13.1), (14, .slice a1139 x1141.length c1140), (19, .int .u64 x913.1), (20, .int .i64 x1142), (21, .int .u64 x1143), (22, .int .u64 x1479.1), (145, .bool (((x1479.2.2 : Int) != 0) || (decide (4194304 < x1479.1))))] (fun h1482 => ?_) (fun h1482 => ?_) ?_
 refine qb (os := _) rfl (qq (k := 142) rfl h1482 ?_)
 refine au [7,7,24,8] ?_
 refine qe (d := 145) (v := .bool (((x1479.2.2 : Int) != 0) || (decide (4194304 < x1479.1)))) rfl (by rw [h1482]; simp only [Bool.true_or]) ?_
 exact az [0,24,1]
 refine qb (os := _) rfl (qp (k := 142) rfl h1482 ?_)
 refine au [1,24,6,24,9] ?_
 refine qe (d := 145) (v := .bool (((x1479.2.2 : Int) != 0) || (decide (4194304 < x1479.1)))) rfl (by rw [h1482]; simp only [Bool.false_or]) ?_
 exact az [0,24,1]
 refine qb (os := _) rfl ?_
 refine av [0,2,9] ?_ ?_
 intro _
 refine au [3,4,5,5,0,2,12,11,20,11,11,20,11,24,14] ?_
 exact qj (none, 0)
 intro _
 refine au [10,2,3,4,1,1,28,1] ?_
 intro x1483 e1483 _
 refine au [1,17,17,17,5,5,5,0,2,3,3,4,1,25,3,1] ?_
 refine qB 3 ((x1483.2.2 : Int) != 0) [(0, .slice a2 x1.length c3), (1, .int .i64 x1483.2.1), (2, .int .i64 x5), (9, .pointer (some ⟨g12, 0, none⟩)), (12, .int .u64 x13.1), (14, .slice a1139 x1141.length c1140), (19, .int .u64 x913.1), (20, .int .i64 x1142), (21, .int .u64 x1143), (22, .int .u64 x1479.1), (23, .int .u64 x1483.1), (158, .bool (((x1483.2.2 : Int) != 0) || (decide (1000 < x1483.1))))] (fun h1486 => ?_) (fun h1486 => ?_) ?_
 refine qb (os := _) rfl (qq (k := 155) rfl h1486 ?_)
 refine au [7,7,24,8] ?_
 refine qe (d := 158) (v := .bool (((x1483.2.2 : Int) != 0) || (decide (1000 < x1483.1)))) rfl (by rw [h1486]; simp only [Bool.true_or]) ?_
 exact az [0,24,1]
 refine qb (os := _) rfl (qp (k := 155) rfl h1486 ?_)
 refine au [1,24,6,24,9] ?_
 refine qe (d := 158) (v := .bool (((x1483.2.2 : Int) != 0) || (decide (1000 < x1483.1)))) rfl (by rw [h1486]; simp only [Bool.false_or]) ?_
 exact az [0,24,1]
 refine qb (os := _) rfl ?_
 refine av [0,2,9] ?_ ?_
 intro _
 refine au [3,4,5,5,0,2,12,11,20,11,11,20,11,24,14] ?_
 exact qj (none, 0)
 intro _
 refine au [10,2,3,4,1,1,24,12,15,15,5,26,0] ?_
 intro x1487 e1487
 refine qe (d := 24) (v := .int .i64 x1487) rfl (by rw [e1487] <;> rfl) ?_
 refine au [0,2] ?_
 refine qc (fun ((x1490, _) : (Int × Unit)) => ([(0, .slice a2 x1.length c3), (1, .int .i64 x1483.2.1), (2, .int .i64 x5), (9, .pointer (some ⟨g12, 0, none⟩)), (12, .int .u64 x13.1), (14, .slice a1139 x1141.length c1140), (19, .int .u64 x913.1), (21, .int .u64 x1143), (23, .int .u64 x1483.1), (24, .int .i64 x1490)], [⟨g12, 26, [.int .i64 x9, .int .i64 x10, .int .i64 x11]⟩], [Ro (eI .i64) 3 1 (.slice a1139 x1141.length c1140) x1141], [Sl (eI .i64) 1 (.slice a2 x1.length c3) x1], vt F (qI F x1 x5 x10 x11 x13 x913 k1365) x10 x13 x1141 x1143 x1483 x1490)) ?_ ?_
 refine av [3,4,1,24,15,0,2,9] ?_ ?_
 intro _
 refine au [4,1,1,35,4] ?_
 intro x1582 e1582 _
 refine au [5,0] ?_
 exact qa (x1582, ())
 intro _
 refine au [10] ?_
 exact qa (x1487, ())
 rintro ⟨x1490, _⟩
 try dsimp only
 refine au [3,3,4,1,22,1] ?_
 refine qB 3 (decide (x1490 < 0)) [(0, .slice a2 x1.length c3), (1, .int .i64 x1483.2.1), (2, .int .i64 x5), (9, .pointer (some ⟨g12, 0, none⟩)), (12, .int .u64 x13.1), (14, .slice a1139 x1141.length c1140), (19, .int .u64 x913.1), (21, .int .u64 x1143), (23, .int .u64 x1483.1), (24, .int .i64 x1490), (174, .bool ((decide (x1490 < 0)) || (decide (1048576 < x1490))))] (fun h1493 => ?_) (fun h1493 => ?_) ?_
 refine qb (os := _) rfl (qq (k := 171) rfl h1493 ?_)
 refine au [7,7,24,8] ?_
 refine qe (d := 174) (v := .bool ((decide (x1490 < 0)) || (decide (1048576 < x1490)))) rfl (by rw [h1493]; simp only [Bool.true_or]) ?_
 exact az [0,24,1]
 refine qb (os := _) rfl (qp (k := 171) rfl h1493 ?_)
 refine au [1,24,6,24,9] ?_
 refine qe (d := 174) (v := .bool ((decide (x1490 < 0)) || (decide (1048576 < x1490)))) rfl (by rw [h1493]; simp only [Bool.false_or]) ?_
 exact az [0,24,1]
 refine qb (os := _) rfl ?_
 refine av [0,2,9] ?_ ?_
 intro _
 refine au [3,4,5,5,0,2,12,11,20,11,11,20,11,24,14] ?_
 exact qj (none, 0)
 intro _
 refine au [10,2] ?_
 refine qc (fun ((x1537, (a1535, c1536)) : (List Int × (Option Addr × Nat))) => ([(0, .slice a2 x1.length c3), (1, .int .i64 x1483.2.1), (2, .int .i64 x5), (9, .pointer (some ⟨g12, 0, none⟩)), (12, .int .u64 x13.1), (14, .slice a1535 x1537.length c1536), (19, .int .u64 x913.1), (21, .int .u64 x1143), (23, .int .u64 x1483.1), (24, .int .i64 x1490)], [⟨g12, 26, [.int .i64 x9, .int .i64 x10, .int .i64 x11]⟩], [Ro (eI .i64) 3 1 (.slice a1535 x1537.length c1536) x1537], [Sl (eI .i64) 1 (.slice a2 x1.length c3) x1], vu F (qI F x1 x5 x10 x11 x13 x913 k1365) x10 x13 x1143 x1483 x1490 x1537)) ?_ ?_
 refine au [3,4,5,0,2,14] ?_
 refine qk (fun (((x1554, x1555), (a1552, c1553)) : ((List Int × Int) × (Option Addr × Nat))) => ([(0, .slice a2 x1.length c3), (1, .int .i64 x1483.2.1), (2, .int .i64 x5), (9, .pointer (some ⟨g12, 0, none⟩)), (12, .int .u64 x13.1), (14, .slice a1552 x1554.length c1553), (19, .int .u64 x913.1), (21, .int .u64 x1143), (23, .int .u64 x1483.1), (24, .int .i64 x1490), (25, .int .i64 x1555)], [⟨g12, 26, [.int .i64 x9, .int .i64 x10, .int .i64 x11]⟩], [Ro (eI .i64) 3 1 (.slice a1552 x1554.length c1553) x1554], [Sl (eI .i64) 1 (.slice a2 x1.length c3) x1])) (fun k (s : ((List Int × Int) × (Option Addr × Nat))) => ku F (qI F x1 x5 x10 x11 x13 x913 k1365) x10 x13 x1143 x1483 x1490 k s.1) ((x1141, 0), (a1139, c1140)) F ?_
 intro k1568
 rintro ⟨⟨x1554, x1555⟩, ⟨a1552, c1553⟩⟩
 try dsimp only
 refine ql (m' := qah F (qI F x1 x5 x10 x11 x13 x913 k1365) x10 x13 x1143 x1483 x1490 (ku F (qI F x1 x5 x10 x11 x13 x913 k1365) x10 x13 x1143 x1483 x1490 k1568) x1554 x1555) rfl ?_
 refine av [3,3,4,1,1,24,12,13,23,15,22,0,2,9] ?_ ?_
 intro _
 refine au [10,2,3,14,4,1,1,1,15] ?_
 refine qy (vs := [.int .i64 (iadd .i64 x1490 x1555)]) (ys := ([iadd .i64 x1490 x1555] : List Int)) (qo .i64) (by decide) rfl Tryz.underlying37 tf3 rfl rfl rfl rfl rfl (by decide) (fun a1575 c1576 => qA 1 (qo .i64) rfl Tryz.underlying37 tf3 rfl rfl rfl rfl rfl (.inl ⟨0, _, rfl⟩) rfl rfl (fun x1577 e1577 a1578 c1579 => ?_))
 refine au [5,0,21,2,4,1,15,5,0] ?_
 exact qh ((x1577, iadd .i64 x1555 1), (a1578, c1579))
 intro _
 refine au [24,4,16,16,24,5] ?_
 exact qa (x1554, (a1552, c1553))
 rintro ⟨x1537, ⟨a1535, c1536⟩⟩
 try dsimp only
 refine au [3,4,1,1,24,12,15,13,23,15,24,10,5,26,0] ?_
 intro x1538 e1538
 refine qe (d := 20) (v := .int .i64 x1538) rfl (by rw [e1538] <;> rfl) ?_
 refine av [0,2,3,4,1,19,1,24,12,24,6,0,2,9] ?_ ?_
 intro _
 refine au [3,4,5,5,0,2,12,20,11,11,20,11,24,14] ?_
 exact qj (none, 0)
 intro _
 refine au [10,21] ?_
 exact qa ((x1483.2.1, x1537, x1538), (a1535, c1536))
 rintro ⟨⟨x1474, x1477, x1478⟩, ⟨a1475, c1476⟩⟩
 try dsimp only
 refine au [4,1,15,5,0] ?_
 exact qh ((x1474, x1477, x1478, iadd .u64 x1143 1), (a1475, c1476))
 intro _
 refine au [24,4,16,16,24,5] ?_
 exact qa ((x1138, x1141), (a1139, c1140))
 intro _
 refine au [10] ?_
 exact qa ((x217, x220), (a218, c219))
 rintro ⟨⟨x898, x901⟩, ⟨a899, c900⟩⟩
 try dsimp only
 refine au [3,4,1,1,1,13,23,1,24,12,1,19,24,10] ?_
 refine qg qkd ?_
 rintro x902 e902 ⟨a903, c904⟩
 refine av [1,17,17,17,5,5,5,0,2,3,3,4,1,25,3,0,2,9] ?_ ?_
 intro _
 refine au [3,4,5,5,0,2,12,11,24,14] ?_
 exact qj (none, 0)
 intro _
 refine au [10,2,3,4,1,1] ?_
 refine qA 1 (qo .i64) rfl Tryz.underlying37 tf3 rfl rfl rfl rfl rfl (.inl ⟨0, _, rfl⟩) rfl rfl (fun x906 e906 a907 c908 => qg qmQ ?_)
 rintro x909 e909 ⟨a910, c911⟩
 refine au [5,5,0,2,12] ?_
 exact qj (a910, c911)
set_option maxHeartbeats 4000000 in
theorem qkl {F : Nat} {x1 : Int} {x2 : List Int} {a3 : Option Addr} {c4 : Nat} {x5 : Int} {x6 : Int} {x7 : List Int} {a8 : Option Addr} {c9 : Nat} {x10 : Int} {x11 : Int} {x12 : Int} {r : (List Int × Int × Int)} (hm : qa6 F x1 x2 x5 x6 x7 x10 x11 x12 = some r) :
    Pure Tryz.prog 37 [.agg #[.int .i64 x1, .slice a3 x2.length c4], .int .i64 x5, .int .i64 x6, .slice a8 x7.length c9, .agg #[.int .i64 x10, .int .i64 x11, .int .i64 x12]] [Sl (eI .u8) 1 (.slice a3 x2.length c4) x2, Sl (eI .i64) 1 (.slice a8 x7.length c9) x7] (Option Addr × Nat) (fun g => .tuple #[.slice g.1 r.1.length g.2, .int .i64 r.2.1, .int .i64 r.2.2]) (fun g => [Ro (eI .i64) 3 1 (.slice g.1 r.1.length g.2) r.1]) (fun _ => []) := by
 refine qi Tryz.func37 rfl Tryz.ntmps37 rfl hm (fun w => ?_)
 refine au [28,6,3,4,24,3] ?_
 intro g13
 refine au [24,3] ?_
 intro g14
 refine au [5,5,5,0,2,3,4,25,2,30,15] ?_
 intro x15 e15 _
 refine au [5,0,2] ?_
 refine qc (fun ((x18, _) : (Int × Unit)) => ([(1, .int .i64 x5), (2, .int .i64 x6), (3, .slice a8 x7.length c9), (5, .pointer (some ⟨g13, 0, none⟩)), (9, .pointer (some ⟨g14, 0, none⟩)), (13, .int .i64 x18)], [⟨g14, 26, [.int .i64 x10, .int .i64 x11, .int .i64 x12]⟩, ⟨g13, 29, [.int .i64 x1, .slice a3 x2.length c4]⟩], [], [Sl (eI .i64) 1 (.slice a8 x7.length c9) x7, Sl (eI .u8) 1 (.slice a3 x2.length c4) x2], jS F x1 x2 x5 x6 x7 x10 x11 x12 x18)) ?_ ?_
 refine av [3,4,1,24,15,0,2,9] ?_ ?_
 intro _
 refine au [4,25,7,1] ?_
 refine qg qlx ?_
 intro x67 e67 _
 refine au [5,0] ?_
 exact qa (x67, ())
 intro _
 refine au [10] ?_
 exact qa (x15, ())
 rintro ⟨x18, _⟩
 try dsimp only
 refine qc (fun ((x21, _) : (Int × Unit)) => ([(1, .int .i64 x5), (2, .int .i64 x6), (3, .slice a8 x7.length c9), (5, .pointer (some ⟨g13, 0, none⟩)), (9, .pointer (some ⟨g14, 0, none⟩)), (13, .int .i64 x21)], [⟨g14, 26, [.int .i64 x10, .int .i64 x11, .int .i64 x12]⟩, ⟨g13, 29, [.int .i64 x1, .slice a3 x2.length c4]⟩], [], [Sl (eI .i64) 1 (.slice a8 x7.length c9) x7, Sl (eI .u8) 1 (.slice a3 x2.length c4) x2], jT F x1 x2 x5 x6 x7 x10 x11 x12 x21)) ?_ ?_
 refine av [3,4,1,24,15,0,2,9] ?_ ?_
 intro _
 refine au [4,1,1,25,2] ?_
 refine qg qly ?_
 intro x65 e65 _
 refine au [5,0] ?_
 exact qa (x65, ())
 intro _
 refine au [10] ?_
 exact qa (x18, ())
 rintro ⟨x21, _⟩
 try dsimp only
 refine av [3,3,4,1,25,3,0,2,9] ?_ ?_
 intro _
 refine au [3,4,1,5,5,5,0,2,12,11,24,14] ?_
 exact qj (none, 0)
 intro _
 refine au [10,2,3,4,25,7,31,1] ?_
 rintro x23 e23 ⟨a24, c25⟩
 refine au [5,0,2,3,4,1,1,1,1,25,2] ?_
 refine qg qi5 ?_
 rintro x26 e26 ⟨a27, c28⟩
 refine au [1,17,17,5,5,0,2,3,3,4,1,25,4,1] ?_
 refine q7 4 (fun ((x36, _) : (Bool × Unit)) => ([(1, .int .i64 x5), (2, .int .i64 x6), (3, .slice a8 x7.length c9), (9, .pointer (some ⟨g14, 0, none⟩)), (14, .slice a24 x23.length c25), (15, .slice a27 x26.1.length c28), (51, .bool x36)], [⟨g14, 26, [.int .i64 x10, .int .i64 x11, .int .i64 x12]⟩], [Ro (eI .i64) 3 1 (.slice a24 x23.length c25) x23, Ro (eI .i64) 3 1 (.slice a27 x26.1.length c28) x26.1], [Sl (eI .i64) 1 (.slice a8 x7.length c9) x7], vb F x5 x6 x7 x10 x11 x12 x23 x26 x36)) ?_ ?_
 refine qb (os := _) rfl ?_
 refine av [25,11] ?_ ?_
 intro h34
 refine qq (k := 47) rfl h34 ?_
 refine au [7,7,7,24,8,0] ?_
 exact qa (true, ())
 intro h34
 refine qp (k := 47) rfl h34 ?_
 refine au [1,31,2] ?_
 intro x63 e63 _
 refine au [25,3,24,9,0] ?_
 exact qa (((x63 : Int) != 0), ())
 rintro ⟨x36, _⟩
 try dsimp only
 refine qb (os := _) rfl ?_
 refine av [0,2,9] ?_ ?_
 intro _
 refine au [3,4,5,5,5,0,2,12,11,24,14] ?_
 exact qj (none, 0)
 intro _
 refine au [10,2,3,4,1,1,1,25,2,35,1] ?_
 rintro x37 e37 ⟨a38, c39⟩
 refine au [5,0,2,3,3,4,1,19,1,19,1,24,10,24,6,1] ?_
 refine q7 11 (fun ((x56, _) : (Bool × Unit)) => ([(1, .int .i64 x5), (15, .slice a27 x26.1.length c28), (17, .slice a38 x37.length c39), (75, .bool x56)], [], [Ro (eI .i64) 3 1 (.slice a27 x26.1.length c28) x26.1, Ro (eI .i64) 3 1 (.slice a38 x37.length c39) x37], [], jU F x5 x26 x37 x56)) ?_ ?_
 refine qb (os := _) rfl ?_
 refine av [25,11] ?_ ?_
 intro h51
 refine qq (k := 64) rfl h51 ?_
 refine au [7,7,7,7,7,7,7,7,7,7,24,8,0] ?_
 exact qa (true, ())
 intro h51
 refine qp (k := 64) rfl h51 ?_
 refine au [1,1,1,1,19,15,33,14,30,7] ?_
 intro x58 e58 a59 c60
 refine au [1,29,2] ?_
 intro x61 e61 _
 refine au [25,4,24,9,0] ?_
 exact qa ((!x61), ())
 rintro ⟨x56, _⟩
 try dsimp only
 refine qb (os := _) rfl ?_
 refine av [0,2,9] ?_ ?_
 intro _
 refine au [3,4,5,5,5,0,2,12,11,24,14] ?_
 exact qj (none, 0)
 intro _
 refine au [10,2,3,4,1,1,1,19,15,5,5,5,0,2,12] ?_
 exact qj (a27, c28)
set_option maxHeartbeats 4000000 in
theorem qkh {F : Nat} {x1 : Int} {x2 : Int} {x3 : Int} {x4 : Int} {x5 : Int} {x6 : List Int} {a7 : Option Addr} {c8 : Nat} {r : (List (List Int) × Int)} (hm : qdp F x1 x2 x3 x4 x5 x6 = some r) :
    Pure Tryz.prog 14 [.agg #[.int .i64 x1, .int .i64 x2, .int .i64 x3, .int .i64 x4, .int .i64 x5, .slice a7 x6.length c8]] [Sl (eI .u8) 1 (.slice a7 x6.length c8) x6] (Option Addr × (Nat × List (Option Addr × Nat))) (fun g => .tuple #[.agg #[.slice g.1 r.1.length g.2.1], .int .i64 r.2]) (fun g => [RoN eN37 rN37 37 1 (.slice g.1 r.1.length g.2.1) r.1 g.2.2 []]) (fun _ => []) := by
 refine qi Tryz.func14 rfl Tryz.ntmps14 rfl hm (fun w => ?_)
 refine au [25,5,3,4,24,3] ?_
 intro g9
 refine au [25,0] ?_
 intro g10
 refine au [5,0,2,3,4,25,7] ?_
 refine qg qiW ?_
 intro x11 e11 _
 refine av [5,0,2,3,3,4,1,25,3,0,2,9] ?_ ?_
 intro _
 refine au [3,4] ?_
 refine qD (cells := [.slice none 0 0]) rfl st24 rfl (by kernel_rfl) rfl ?_
 refine au [1,24,11,5,0,2,12,11,26,11] ?_
 exact qN (none, (0, ([] : List (Option Addr × Nat)))) (resL (rs := [.cell 2 24, .tmp 3]) rfl (.cell (i := 0) rfl tf24 rfl rfl (by simp) rfl (.tmp rfl ResOk.nil)) rfl) (fun h => by subst h; exact (.cons 0 rfl .nil))
 intro _
 refine au [10,2,3,4,13,25,7,31,1] ?_
 rintro x13 e13 ⟨a14, c15⟩
 refine au [5,0,2,3,4,5,0,2,3,4,25,0] ?_
 intro g16
 refine au [0,2] ?_
 refine qc (fun ((x315, (a313, c314)) : (List (List Int) × (Option Addr × (Nat × List (Option Addr × Nat))))) => ([(1, .pointer (some ⟨g9, 0, none⟩)), (2, .pointer (some ⟨g10, 0, none⟩)), (5, .slice a14 x13.length c15), (7, .pointer (some ⟨g16, 0, none⟩))], [⟨g16, 24, [.slice a313 x315.length c314.1]⟩, ⟨g10, 24, [.slice none 0 0]⟩, ⟨g9, 31, [.int .i64 x1, .int .i64 x2, .int .i64 x3, .int .i64 x4, .int .i64 x5, .slice a7 x6.length c8]⟩], [Ro (eI .i64) 3 1 (.slice a14 x13.length c15) x13, RoN eN37 rN37 37 1 (.slice a313 x315.length c314.1) x315 c314.2 []], [Sl (eI .u8) 1 (.slice a7 x6.length c8) x6], yF F x2 x3 x4 x13 x315)) ?_ ?_
 refine au [3,4,5,0,2,14,34,7] ?_
 refine qk (fun (((x435, x436, x439), (a437, c438)) : ((Int × Int × List (List Int)) × (Option Addr × (Nat × List (Option Addr × Nat))))) => ([(1, .pointer (some ⟨g9, 0, none⟩)), (2, .pointer (some ⟨g10, 0, none⟩)), (5, .slice a14 x13.length c15), (6, .int .i64 x435), (7, .pointer (some ⟨g16, 0, none⟩)), (8, .int .i64 x436)], [⟨g16, 24, [.slice a437 x439.length c438.1]⟩, ⟨g10, 24, [.slice none 0 0]⟩, ⟨g9, 31, [.int .i64 x1, .int .i64 x2, .int .i64 x3, .int .i64 x4, .int .i64 x5, .slice a7 x6.length c8]⟩], [Ro (eI .i64) 3 1 (.slice a14 x13.length c15) x13, RoN eN37 rN37 37 1 (.slice a437 x439.length c438.1) x439 c438.2 []], [Sl (eI .u8) 1 (.slice a7 x6.length c8) x6])) (fun k (s : ((Int × Int × List (List Int)) × (Option Addr × (Nat × List (Option Addr × Nat))))) => zn F x1 x2 x3 x4 x5 x6 x13 k s.1) ((0, 0, ([] : List (List Int))), (none, (0, ([] : List (Option Addr × Nat))))) F ?_
 intro k534
 rintro ⟨⟨x435, x436, x439⟩, ⟨a437, c438⟩⟩
 try dsimp only
 refine ql (m' := qaX F x1 x2 x3 x4 x5 x6 x13 (zn F x1 x2 x3 x4 x5 x6 x13 k534) x435 x436 x439) rfl ?_
 refine av [3,3,4,1,13,26,6,22,0,2,9] ?_ ?_
 intro _
 refine au [10,2] ?_
 refine qc (fun (((x580, x583), (a581, c582)) : ((Int × List (List Int)) × (Option Addr × (Nat × List (Option Addr × Nat))))) => ([(1, .pointer (some ⟨g9, 0, none⟩)), (2, .pointer (some ⟨g10, 0, none⟩)), (5, .slice a14 x13.length c15), (6, .int .i64 x580), (7, .pointer (some ⟨g16, 0, none⟩)), (8, .int .i64 x436)], [⟨g16, 24, [.slice a581 x583.length c582.1]⟩, ⟨g10, 24, [.slice none 0 0]⟩, ⟨g9, 31, [.int .i64 x1, .int .i64 x2, .int .i64 x3, .int .i64 x4, .int .i64 x5, .slice a7 x6.length c8]⟩], [Ro (eI .i64) 3 1 (.slice a14 x13.length c15) x13, RoN eN37 rN37 37 1 (.slice a581 x583.length c582.1) x583 c582.2 []], [Sl (eI .u8) 1 (.slice a7 x6.length c8) x6], jc F (zn F x1 x2 x3 x4 x5 x6 x13 k534) x436 x580 x583)) ?_ ?_
 refine au [14,3,4,5,0,2] ?_
 refine qc (fun (((x589, x590), _) : ((Int × Int) × Unit)) => ([(1, .pointer (some ⟨g9, 0, none⟩)), (2, .pointer (some ⟨g10, 0, none⟩)), (5, .slice a14 x13.length c15), (6, .int .i64 x589), (7, .pointer (some ⟨g16, 0, none⟩)), (8, .int .i64 x436), (9, .int .u64 x590)], [⟨g16, 24, [.slice a437 x439.length c438.1]⟩, ⟨g10, 24, [.slice none 0 0]⟩, ⟨g9, 31, [.int .i64 x1, .int .i64 x2, .int .i64 x3, .int .i64 x4, .int .i64 x5, .slice a7 x6.length c8]⟩], [Ro (eI .i64) 3 1 (.slice a14 x13.length c15) x13, RoN eN37 rN37 37 1 (.slice a437 x439.length c438.1) x439 c438.2 []], [Sl (eI .u8) 1 (.slice a7 x6.length c8) x6], jd F (zn F x1 x2 x3 x4 x5 x6 x13 k534) x3 x4 x5 x6 x436 x439 x589 x590)) ?_ ?_
 refine av [3,4,13,13,26,6,24,6,0,2,9] ?_ ?_
 intro _
 refine au [3,4,1,1,28,1] ?_
 intro x623 e623 _
 refine au [1,17,17,17,5,5,5,0,2,3,4,1,25,3,1] ?_
 refine qB 7 ((x623.2.2 : Int) != 0) [(1, .pointer (some ⟨g9, 0, none⟩)), (2, .pointer (some ⟨g10, 0, none⟩)), (5, .slice a14 x13.length c15), (6, .int .i64 x623.2.1), (7, .pointer (some ⟨g16, 0, none⟩)), (8, .int .i64 x436), (9, .int .u64 x623.1), (52, .bool (((x623.2.2 : Int) != 0) || (decide ((iconv .u64 x2) < x623.1))))] (fun h624 => ?_) (fun h624 => ?_) ?_
 refine qb (os := _) rfl (qq (k := 45) rfl h624 ?_)
 refine au [7,7,7,7,7,7,24,8] ?_
 refine qe (d := 52) (v := .bool (((x623.2.2 : Int) != 0) || (decide ((iconv .u64 x2) < x623.1)))) rfl (by rw [h624]; simp only [Bool.true_or]) ?_
 exact az [0,24,1]
 refine qb (os := _) rfl (qp (k := 45) rfl h624 ?_)
 refine au [1,13,13,26,6,24,12,24,6,24,9] ?_
 refine qe (d := 52) (v := .bool (((x623.2.2 : Int) != 0) || (decide ((iconv .u64 x2) < x623.1)))) rfl (by rw [h624]; simp only [Bool.false_or]) ?_
 exact az [0,24,1]
 refine qb (os := _) rfl ?_
 refine au [1] ?_
 refine qB 5 (((x623.2.2 : Int) != 0) || (decide ((iconv .u64 x2) < x623.1))) [(1, .pointer (some ⟨g9, 0, none⟩)), (2, .pointer (some ⟨g10, 0, none⟩)), (5, .slice a14 x13.length c15), (6, .int .i64 x623.2.1), (7, .pointer (some ⟨g16, 0, none⟩)), (8, .int .i64 x436), (9, .int .u64 x623.1), (58, .bool ((((x623.2.2 : Int) != 0) || (decide ((iconv .u64 x2) < x623.1))) || (decide (x436 < (iconv .i64 x623.1)))))] (fun h625 => ?_) (fun h625 => ?_) ?_
 refine qb (os := _) rfl (qq (k := 53) rfl h625 ?_)
 refine au [7,7,7,7,24,8] ?_
 refine qe (d := 58) (v := .bool ((((x623.2.2 : Int) != 0) || (decide ((iconv .u64 x2) < x623.1))) || (decide (x436 < (iconv .i64 x623.1))))) rfl (by rw [h625]; simp only [Bool.true_or]) ?_
 exact az [0,24,1]
 refine qb (os := _) rfl (qp (k := 53) rfl h625 ?_)
 refine au [1,24,12,1,24,6,24,9] ?_
 refine qe (d := 58) (v := .bool ((((x623.2.2 : Int) != 0) || (decide ((iconv .u64 x2) < x623.1))) || (decide (x436 < (iconv .i64 x623.1))))) rfl (by rw [h625]; simp only [Bool.false_or]) ?_
 exact az [0,24,1]
 refine qb (os := _) rfl ?_
 refine av [0,2,9] ?_ ?_
 intro _
 refine au [3,4] ?_
 refine qD (cells := [.slice none 0 0]) rfl st24 rfl (by kernel_rfl) rfl ?_
 refine au [25,10,5,0,2,12,11,20,11,11,20,11,26,11] ?_
 exact qN (none, (0, ([] : List (Option Addr × Nat)))) (resL (rs := [.cell 2 24, .tmp 3]) rfl (.cell (i := 1) rfl tf24 rfl rfl (by simp) rfl (.tmp rfl ResOk.nil)) rfl) (fun h => by subst h; exact (.cons 0 rfl .nil))
 intro _
 refine au [10] ?_
 exact qa ((x623.2.1, x623.1), ())
 intro _
 refine au [10] ?_
 exact qa ((x435, (0 : Int)), ())
 rintro ⟨⟨x589, x590⟩, _⟩
 try dsimp only
 refine av [3,4,5,0,2,3,3,4,1,24,6,0,2,9] ?_ ?_
 intro _
 refine au [4,13,23,1,1,24,12,24,10] ?_
 refine qmD (j := 1) rfl UnF.u inferInstance rfl rfl rfl rfl ?_
 intro x597 e597 g598 h599 g600 h601
 refine qj3 (i := 1) rfl h599 (List.not_mem_nil) (qiJ (j := 1) (p := (x597, g598)) kY rfl rfl tf37 rfl h601 h599 rfl (fun _ => rfl) rfl rfl ?_)
 refine au [5,0,2,3,4,13,26,5,1,1,1,1,24,12,13,13,26,6,13,13,26,6] ?_
 refine qD (cells := [.int .i64 (iconv .i64 x590), .int .i64 x3, .int .i64 x4]) rfl st26 rfl (by kernel_rfl) rfl ?_
 refine au [35,6] ?_
 rintro x602 e602 ⟨a603, c604⟩
 refine au [1,17,17,17,5,5,5,0,2,3,3] ?_
 refine qiC (rin := rN37) (p := (x597, g598)) (i := 1) (k := 0) (.cons 1 rfl .nil) rfl rfl h599 ?_
 refine av [4,1,25,3,0,2,9] ?_ ?_
 intro _
 refine au [3,4] ?_
 refine qD (cells := [.slice none 0 0]) rfl st24 rfl (by kernel_rfl) rfl ?_
 refine au [25,10,5,0,2,12,11,20,11,11,20,11,26,11] ?_
 exact qN (none, (0, ([] : List (Option Addr × Nat)))) (resL (rs := [.cell 2 24, .tmp 3]) rfl (.cell (i := 1) rfl tf24 rfl rfl (by simp) rfl (.tmp rfl ResOk.nil)) rfl) (fun h => by subst h; exact (.cons 0 rfl .nil))
 intro _
 refine au [10,2,3,4,13,23,1] ?_
 refine qy (vs := [.slice a603 x602.1.length c604]) (ys := ([(x602.1, (a603, c604))] : List (List Int × (Option Addr × Nat)))) kY (by decide) rfl Tryz.underlying22 tf37 rfl rfl rfl rfl rfl (by decide) (fun a606 c607 => qd0 (rin := rN37) (i := 0) ([x602.1] : List (List Int)) ([(a603, c604)] : List (Option Addr × Nat)) rfl rfl (.cons 1 rfl .nil) ?_)
 refine au [34,9] ?_
 intro x608 e608 a609 c610
 refine au [13,24,11,0,2,4,1,5,0,21] ?_
 exact qa ((x602.2.1, x608), (a609, (c610, (c438.2 ++ ([(a603, c604)] : List (Option Addr × Nat))))))
 intro _
 refine au [10,2,3,4,13,26,5,1,1,1,1,24,12,13,13,26,6,13,13,26,6] ?_
 refine qD (cells := [.int .i64 (iconv .i64 x590), .int .i64 x3, .int .i64 x4]) rfl st26 rfl (by kernel_rfl) rfl ?_
 refine au [27,15,35,6] ?_
 rintro x612 e612 ⟨a613, c614⟩
 refine av [1,17,17,17,5,5,5,0,2,3,3,4,1,25,3,0,2,9] ?_ ?_
 intro _
 refine au [3,4] ?_
 refine qD (cells := [.slice none 0 0]) rfl st24 rfl (by kernel_rfl) rfl ?_
 refine au [25,10,5,0,2,12,11,20,11,11,20,11,26,11] ?_
 exact qN (none, (0, ([] : List (Option Addr × Nat)))) (resL (rs := [.cell 2 24, .tmp 3]) rfl (.cell (i := 1) rfl tf24 rfl rfl (by simp) rfl (.tmp rfl ResOk.nil)) rfl) (fun h => by subst h; exact (.cons 0 rfl .nil))
 intro _
 refine au [10,2,3,4,13,23,1] ?_
 refine qy (vs := [.slice a613 x612.1.length c614]) (ys := ([(x612.1, (a613, c614))] : List (List Int × (Option Addr × Nat)))) kY (by decide) rfl Tryz.underlying22 tf37 rfl rfl rfl rfl rfl (by decide) (fun a616 c617 => qd0 (rin := rN37) (i := 0) ([x612.1] : List (List Int)) ([(a613, c614)] : List (Option Addr × Nat)) rfl rfl (.cons 0 rfl .nil) (qiF kY rfl UnF.u inferInstance rfl rfl rfl rfl (.cons 3 rfl (.cons 0 rfl .nil)) rfl rfl ?_))
 intro x618 e618 a619 c620
 refine au [13,24,11,0,2,4,1,5,0,21] ?_
 exact qa ((x612.2.1, x618), (a619, (c620, (c438.2 ++ ([(a613, c614)] : List (Option Addr × Nat))))))
 rintro ⟨⟨x580, x583⟩, ⟨a581, c582⟩⟩
 try dsimp only
 refine au [4,1,15,5,0] ?_
 exact qh ((x580, iadd .i64 x436 1, x583), (a581, c582))
 intro _
 refine au [24,4,16,16,24,5] ?_
 exact qa (x439, (a437, c438))
 rintro ⟨x315, ⟨a313, c314⟩⟩
 try dsimp only
 refine au [3,4,25,2,13,26,5,35,7] ?_
 rintro x316 e316 ⟨⟨a317, c318⟩, ⟨a319, c320⟩, ⟨a321, c322⟩⟩
 refine au [1,17,17,17,17,5,5,5,5,0,2,3,3,4,1,25,3,1] ?_
 refine q7 5 (fun ((x330, _) : (Bool × Unit)) => ([(2, .pointer (some ⟨g10, 0, none⟩)), (7, .pointer (some ⟨g16, 0, none⟩)), (115, .bool x330)], [⟨g16, 24, [.slice a313 x315.length c314.1]⟩, ⟨g10, 24, [.slice none 0 0]⟩], [RoN eN37 rN37 37 1 (.slice a313 x315.length c314.1) x315 c314.2 []], [], qaY F x315 x330)) ?_ ?_
 refine qb (os := _) rfl ?_
 refine av [25,11] ?_ ?_
 intro h328
 refine qq (k := 110) rfl h328 ?_
 refine au [7,7,7,7,24,8,0] ?_
 exact qa (true, ())
 intro h328
 refine qp (k := 110) rfl h328 ?_
 refine au [1,1,29,2] ?_
 intro x332 e332 _
 refine au [25,4,24,9,0] ?_
 exact qa ((!x332), ())
 rintro ⟨x330, _⟩
 try dsimp only
 refine qb (os := _) rfl ?_
 refine av [0,2,9] ?_ ?_
 intro _
 refine au [3,4] ?_
 refine qD (cells := [.slice none 0 0]) rfl st24 rfl (by kernel_rfl) rfl ?_
 refine au [25,10,5,0,2,12,11,26,11] ?_
 exact qN (none, (0, ([] : List (Option Addr × Nat)))) (resL (rs := [.cell 2 24, .tmp 3]) rfl (.cell (i := 1) rfl tf24 rfl rfl (by simp) rfl (.tmp rfl ResOk.nil)) rfl) (fun h => by subst h; exact (.cons 0 rfl .nil))
 intro _
 refine au [10,2,3,4,25,2,25,10,5,0,2,12] ?_
 exact qN (a313, c314) (resL (rs := [.cell 2 24, .tmp 3]) rfl (.cell (i := 1) rfl tf24 rfl rfl (by simp) rfl (.tmp rfl ResOk.nil)) rfl) (fun h => by subst h; exact (.cons 0 rfl .nil))
theorem qi1 {F : Nat} {x1 : List (List Int)} {a2 : Option Addr} {c3 : Nat} {s3 : List (Option Addr × Nat)} {x4 : List (List Int)} {a5 : Option Addr} {c6 : Nat} {s6 : List (Option Addr × Nat)} {r : Bool} (hm : qcV F x1 x4 = some r) :
    Pure Tryz.prog 39 [.slice a2 x1.length c3, .slice a5 x4.length c6] [SlN eN37 iN37 1 (.slice a2 x1.length c3) x1 s3, SlN eN37 iN37 1 (.slice a5 x4.length c6) x4 s6] Unit (fun _ => .bool r) (fun _ => []) (fun _ => []) := by
 refine qi Tryz.func39 rfl Tryz.ntmps39 rfl hm (fun w => ?_)
 refine av [24,13,3,4,5,0,2,3,3,4,1,19,1,19,25,3,0,2,9] ?_ ?_
 intro _
 exact az [3,4,5,0,2,12,11,18]
 intro _
 refine au [10,2] ?_
 refine qc (fun ((_, _) : (Unit × Unit)) => ([], [], [], [], qeC F)) ?_ ?_
 refine au [3,4,5,0,2,14] ?_
 refine qk (fun ((x202, _) : (Int × Unit)) => ([(0, .slice a2 x1.length c3), (1, .slice a5 x4.length c6), (5, .int .i64 x202)], [], [], [SlN eN37 iN37 1 (.slice a2 x1.length c3) x1 s3, SlN eN37 iN37 1 (.slice a5 x4.length c6) x4 s6])) (fun k (s : (Int × Unit)) => yH F x1 x4 k s.1) (0, ()) F ?_
 intro k251
 rintro ⟨x202, _⟩
 try dsimp only
 refine ql (m' := qa3 F x1 x4 (yH F x1 x4 k251) x202) rfl ?_
 refine av [3,3,4,1,1,19,22,0,2,9] ?_ ?_
 intro _
 refine au [10,2,3,14,3] ?_
 refine qfD (j := 0) kY (by decide) rfl ?_
 intro x287 e287 g291 b288 o289 h290
 replace h290 : a2 = some ⟨b288, o289, none⟩ := h290
 refine qfD (j := 3) kY (by decide) rfl ?_
 intro x292 e292 g296 b293 o294 h295
 replace h295 : a5 = some ⟨b293, o294, none⟩ := h295
 refine qw mixed [] [] [qt b293 (o294 + x202.toNat * 1) (eN37 (x292, g296)), Sl (eI .i64) 1 (.slice g296.1 x292.length g296.2) x292, qt b288 (o289 + x202.toNat * 1) (eN37 (x287, g291)), Sl (eI .i64) 1 (.slice g291.1 x287.length g291.2) x287, SlN eN37 iN37 1 (.slice a2 x1.length c3) x1 s3, SlN eN37 iN37 1 (.slice a5 x4.length c6) x4 s6] .nil (qC 0 rfl (qC 1 rfl (qC 2 rfl (qC 3 rfl (qC 4 rfl (qC 5 rfl qu)))))) 10 rfl ?_
 refine au [6,0,6,1] ?_
 refine qf (d := 17) (v := .slice (some ⟨b288, o289, none⟩) x1.length c3) rfl (by rw [h290] <;> rfl) (qm 2 (.pointer (some ⟨b288, (o289 + x202.toNat * 1), none⟩)) rfl rfl rfl (yq Tryz.underlying22 tf37 rfl rfl (qJ e287).1 (kj e287)) (qf (d := 17) (v := .slice a2 x1.length c3) rfl (by rw [h290] <;> rfl) (qK 3 (.slice g291.1 x287.length g291.2) [] rfl rfl rfl (zx (j := 2) rfl tf37 rfl rfl (fun _ => rfl) rfl) ?_)))
 refine au [6,4,6,5] ?_
 refine qf (d := 21) (v := .slice (some ⟨b293, o294, none⟩) x4.length c6) rfl (by rw [h295] <;> rfl) (qm 6 (.pointer (some ⟨b293, (o294 + x202.toNat * 1), none⟩)) rfl rfl rfl (yq Tryz.underlying22 tf37 rfl rfl (qJ e292).1 (kj e292)) (qf (d := 21) (v := .slice a5 x4.length c6) rfl (by rw [h295] <;> rfl) (qK 7 (.slice g296.1 x292.length g296.2) [] rfl rfl rfl (zx (j := 0) rfl tf37 rfl rfl (fun _ => rfl) rfl) ?_)))
 refine au [24,0,8,29,2] ?_
 intro x297 e297 _
 refine au [0] ?_
 refine zG .nil (qC 0 rfl (qC 1 rfl (qC 2 rfl (qC 3 rfl (qC 4 rfl (qC 5 rfl qu)))))) ?_
 refine au [6,9,24,7] ?_
 refine qz ?_ (by intro c h; cases h)
 refine av [2,9] ?_ ?_
 intro _
 exact az [3,4,5,0,2,12,20,11,11,20,11,18]
 intro _
 refine au [10,21,2,4,1,15,5,0] ?_
 exact qh (iadd .i64 x202 1, ())
 intro _
 exact az [24,4,16,16,24,5,26,1]
 rintro ⟨_, _⟩
 try dsimp only
 exact az [3,4,5,0,2,12,18]
theorem qi0 {F : Nat} {x1 : List (List Int)} {a2 : Option Addr} {c3 : Nat} {s3 : List (Option Addr × Nat)} {x4 : List (List Int)} {a5 : Option Addr} {c6 : Nat} {s6 : List (Option Addr × Nat)} {r : Bool} (hm : qbn F x1 x4 = some r) :
    Pure Tryz.prog 17 [.agg #[.slice a2 x1.length c3], .agg #[.slice a5 x4.length c6]] [SlN eN37 iN37 1 (.slice a2 x1.length c3) x1 s3, SlN eN37 iN37 1 (.slice a5 x4.length c6) x4 s6] Unit (fun _ => .bool r) (fun _ => []) (fun _ => []) := by
 refine qi Tryz.func17 rfl Tryz.ntmps17 rfl hm (fun w => ?_)
 refine au [24,13,3,4,24,3] ?_
 intro g7
 refine au [24,3] ?_
 intro g8
 refine au [5,0,2,3,4,13,25,12,13,23] ?_
 refine qg qi1 ?_
 intro x9 e9 _
 exact az [5,0,2,12,18]
theorem qiP (F : Nat)  (r : List (List Int)) (hm : j4 F  = some r) :
    Pure Tryz.prog 38 [] [] (Option Addr × (Nat × List (Option Addr × Nat))) (fun g => .agg #[.slice g.1 r.length g.2.1]) (fun g => [RoN eN37 rN37 37 1 (.slice g.1 r.length g.2.1) r g.2.2 []]) (fun _ => []) := by
 refine qi Tryz.func38 rfl Tryz.ntmps38 rfl hm (fun w => ?_)
 refine au [35,8,3,4,25,0] ?_
 intro g1
 refine au [0,2,3,4] ?_
 refine qy (vs := [.int .i64 1, .int .i64 2, .int .i64 3, .int .i64 5]) (ys := ([1, 2, 3, 5] : List Int)) (qo .i64) (by decide) rfl Tryz.underlying37 tf3 rfl rfl rfl rfl rfl (by decide) (fun a2 c3 => qy (vs := [.int .i64 1, .int .i64 2, .int .i64 3, .int .i64 5]) (ys := ([1, 2, 3, 5] : List Int)) (qo .i64) (by decide) rfl Tryz.underlying37 tf3 rfl rfl rfl rfl rfl (by decide) (fun a4 c5 => qy (vs := [.int .i64 0, .int .i64 1, .int .i64 2, .int .i64 3, .int .i64 5]) (ys := ([0, 1, 2, 3, 5] : List Int)) (qo .i64) (by decide) rfl Tryz.underlying37 tf3 rfl rfl rfl rfl rfl (by decide) (fun a6 c7 => qy (vs := [.int .i64 4]) (ys := ([4] : List Int)) (qo .i64) (by decide) rfl Tryz.underlying37 tf3 rfl rfl rfl rfl rfl (by decide) (fun a8 c9 => qy (vs := [.int .i64 1, .int .i64 2, .int .i64 3]) (ys := ([1, 2, 3] : List Int)) (qo .i64) (by decide) rfl Tryz.underlying37 tf3 rfl rfl rfl rfl rfl (by decide) (fun a10 c11 => ?_)))))
 refine au [27,15] ?_
 refine qy (vs := [.slice a2 ([1, 2, 3, 5] : List Int).length c3, .slice a4 ([1, 2, 3, 5] : List Int).length c5, .slice a6 ([0, 1, 2, 3, 5] : List Int).length c7, .slice none ([] : List Int).length 0, .slice a8 ([4] : List Int).length c9, .slice a10 ([1, 2, 3] : List Int).length c11]) (ys := ([(([1, 2, 3, 5] : List Int), (a2, c3)), (([1, 2, 3, 5] : List Int), (a4, c5)), (([0, 1, 2, 3, 5] : List Int), (a6, c7)), (([] : List Int), (none, 0)), (([4] : List Int), (a8, c9)), (([1, 2, 3] : List Int), (a10, c11))] : List (List Int × (Option Addr × Nat)))) kY (by decide) rfl Tryz.underlying22 tf37 rfl rfl rfl rfl rfl (by decide) (fun a12 c13 => qd0 (rin := rN37) (i := 0) ([([1, 2, 3, 5] : List Int), ([1, 2, 3, 5] : List Int), ([0, 1, 2, 3, 5] : List Int), ([] : List Int), ([4] : List Int), ([1, 2, 3] : List Int)] : List (List Int)) ([(a2, c3), (a4, c5), (a6, c7), (none, 0), (a8, c9), (a10, c11)] : List (Option Addr × Nat)) rfl rfl (.cons 5 rfl (.cons 4 rfl (.cons 3 rfl (.cons 0 rfl (.cons 1 rfl (.cons 0 rfl .nil)))))) (qD (cells := [.slice a12 ([([1, 2, 3, 5] : List Int), ([1, 2, 3, 5] : List Int), ([0, 1, 2, 3, 5] : List Int), ([] : List Int), ([4] : List Int), ([1, 2, 3] : List Int)] : List (List Int)).length c13]) rfl st24 rfl (by kernel_rfl) rfl ?_))
 refine au [24,11,0,2,12] ?_
 exact qN (a12, (c13, ([(a2, c3), (a4, c5), (a6, c7), (none, 0), (a8, c9), (a10, c11)] : List (Option Addr × Nat)))) (resL (rs := [.cell 0 24]) rfl (.cell (i := 0) rfl tf24 rfl rfl (by simp) rfl ResOk.nil) rfl) (fun h => by subst h; exact (.cons 0 rfl .nil))
set_option maxHeartbeats 4000000 in
theorem qiO (F : Nat)  (r : Bool) (hm : qcL F  = some r) :
    Pure Tryz.prog 15 [] [] Unit (fun _ => .bool r) (fun _ => []) (fun _ => []) := by
 refine qi Tryz.func15 rfl Tryz.ntmps15 rfl hm (fun w => ?_)
 refine au [35,8,3,4,5,0,2,3,4] ?_
 refine qD (cells := [.int .i64 3, .int .i64 3, .int .i64 2]) rfl st26 rfl (by kernel_rfl) rfl ?_
 refine au [25,0] ?_
 intro g1
 refine au [24,11,0,2] ?_
 refine qc (fun (((x21, x22, x23, x24, x25, x26, x29), (g20, a27, c28)) : ((Int × Int × Int × Int × Int × Int × List Int) × (Nat × Option Addr × Nat))) => ([(1, .pointer (some ⟨g1, 0, none⟩)), (2, .pointer (some ⟨g20, 0, none⟩)), (3, .int .i64 x21)], [⟨g1, 26, [.int .i64 3, .int .i64 3, .int .i64 2]⟩, ⟨g20, 31, [.int .i64 x22, .int .i64 x23, .int .i64 x24, .int .i64 x25, .int .i64 x26, .slice a27 x29.length c28]⟩], [Ro (eI .u8) 5 1 (.slice a27 x29.length c28) x29], [], vZ F x21 x22 x23 x24 x25 x26 x29)) ?_ ?_
 refine qw mixed [] [⟨g1, 26, [.int .i64 3, .int .i64 3, .int .i64 2]⟩] [] (.cons 0 rfl .nil) qu 9 rfl (kH 1 (.agg #[.int .i64 3, .int .i64 3, .int .i64 2]) rfl rfl rfl (zw (i := 0) rfl tf26 rfl rfl (by simp) rfl) (qdB 0 6 rfl rfl (by kernel_rfl) rfl rfl ?_ ?_))
 refine au [29,9] ?_
 rintro x103 e103 ⟨a104, c105⟩
 refine au [0,35,9] ?_
 refine qdB 2 6 rfl rfl (by kernel_rfl) rfl rfl ?_ ?_
 refine au [29,0] ?_
 rintro x106 e106 ⟨a107, c108⟩
 refine au [0,35,9,6,3,6,4,6,5,24,0,6,25,0] ?_
 intro g109
 refine au [0,27,3,24,0,7,24,11,0,27,3,6,8,24,7] ?_
 exact qz (qa ((x106.2.2.2.2.2.2, x106.1, x106.2.1, x106.2.2.1, x106.2.2.2.1, x106.2.2.2.2.1, x106.2.2.2.2.2.1), (g109, a107, c108))) (by intro c h; cases h)
 refine qdC (m' := ((vB F x103 3 3 2).bind fun x111 => vZ F x111.2.2.2.2.2.2 x111.1 x111.2.1 x111.2.2.1 x111.2.2.2.1 x111.2.2.2.2.1 x111.2.2.2.2.2.1)) (rfl) ?_
 refine au [25,0] ?_
 intro g110
 refine au [0,27,3,24,0,2,29,0] ?_
 rintro x111 e111 ⟨a112, c113⟩
 refine au [0,27,3,6,3,6,4,6,5,24,0,7,24,11,0,27,3,6,8,24,7] ?_
 exact qz (qa ((x111.2.2.2.2.2.2, x111.1, x111.2.1, x111.2.2.1, x111.2.2.2.1, x111.2.2.2.2.1, x111.2.2.2.2.2.1), (g110, a112, c113))) (by intro c h; cases h)
 refine qdC (m' := ((j4 F).bind fun x115 => ((vB F x115 3 3 2).bind fun x118 => vZ F x118.2.2.2.2.2.2 x118.1 x118.2.1 x118.2.2.1 x118.2.2.2.1 x118.2.2.2.2.1 x118.2.2.2.2.2.1))) (rfl) ?_
 refine au [25,0] ?_
 intro g114
 refine au [0,27,3,24,0,0,29,9] ?_
 rintro x115 e115 ⟨a116, c117⟩
 refine au [0,27,3,24,0,2,29,0] ?_
 rintro x118 e118 ⟨a119, c120⟩
 refine au [0,27,3,6,3,6,4,6,5,24,0,7,24,11,0,27,3,6,8,24,7] ?_
 exact qz (qa ((x118.2.2.2.2.2.2, x118.1, x118.2.1, x118.2.2.1, x118.2.2.2.1, x118.2.2.2.2.1, x118.2.2.2.2.2.1), (g114, a119, c120))) (by intro c h; cases h)
 rintro ⟨⟨x21, x22, x23, x24, x25, x26, x29⟩, ⟨g20, a27, c28⟩⟩
 try dsimp only
 refine au [3,4,25,7,31,3] ?_
 rintro x30 e30 ⟨a31, c32⟩
 refine au [1,17,17,25,0] ?_
 intro g33
 refine au [24,11,5,0,2,3] ?_
 refine qw mixed [] [⟨g33, 24, [.slice a31 x30.1.length c32.1]⟩, ⟨g1, 26, [.int .i64 3, .int .i64 3, .int .i64 2]⟩, ⟨g20, 31, [.int .i64 x22, .int .i64 x23, .int .i64 x24, .int .i64 x25, .int .i64 x26, .slice a27 x29.length c28]⟩] [] (.cons 0 rfl (.cons 0 rfl (.cons 0 rfl .nil))) qu 10 rfl (kH 1 (.agg #[.int .i64 3, .int .i64 3, .int .i64 2]) rfl rfl rfl (zw (i := 1) rfl tf26 rfl rfl (by simp) rfl) ?_)
 refine au [24,0,0,29,9] ?_
 rintro x42 e42 ⟨a43, c44⟩
 refine au [0,35,10,24,0,2,35,11] ?_
 rintro x45 e45 ⟨⟨a46, c47⟩, ⟨a48, c49⟩⟩
 refine au [0,35,10,6,3,6,4,6,5,6,6,6,7,6,8,6,9,24,7] ?_
 refine qz ?_ (by intro c h; cases h)
 refine au [2,3,4,25,7] ?_
 refine qD (cells := [.int .i64 1, .int .i64 3, .int .i64 3, .int .i64 2, .int .i64 0, .slice none 0 0]) rfl st31 rfl (by kernel_rfl) rfl ?_
 refine au [27,14,31,3] ?_
 rintro x50 e50 ⟨a51, c52⟩
 refine au [1,17,17,25,0] ?_
 intro g53
 refine au [24,11,5,0,2] ?_
 refine qc (fun ((x78, _) : (Bool × Unit)) => ([(0, .bool x78)], [], [], [], qW F x78)) ?_ ?_
 refine av [26,10] ?_ ?_
 intro h79
 refine av [26,10] ?_ ?_
 intro h80
 refine av [26,10] ?_ ?_
 intro h81
 refine qw mixed [] [⟨g53, 24, [.slice a51 x50.1.length c52.1]⟩, ⟨g33, 24, [.slice a31 x30.1.length c32.1]⟩, ⟨g1, 26, [.int .i64 3, .int .i64 3, .int .i64 2]⟩, ⟨g20, 31, [.int .i64 x22, .int .i64 x23, .int .i64 x24, .int .i64 x25, .int .i64 x26, .slice a27 x29.length c28]⟩] [] (.cons 0 rfl (.cons 0 rfl (.cons 0 rfl (.cons 0 rfl .nil)))) qu 59 rfl ?_
 refine au [6,0,6,1,6,2] ?_
 refine qf (d := 38) (v := .bool true) rfl (by rw [h79] <;> rfl) ?_
 refine au [24,2,3,29,7,4,6,5,6,6,6,7] ?_
 refine qf (d := 43) (v := .bool true) rfl (by rw [h80] <;> rfl) ?_
 refine au [24,2,8] ?_
 refine kH 9 (.agg #[.int .i64 x23, .int .i64 x24, .int .i64 x25]) rfl rfl rfl (zw (i := 3) rfl tf26 rfl rfl (by simp) rfl) (kH 10 (.agg #[.int .i64 3, .int .i64 3, .int .i64 2]) rfl rfl rfl (zw (i := 2) rfl tf26 rfl rfl (by simp) rfl) (qm 11 (.bool (((x23 : Int) == 3) && (((x24 : Int) == 3) && ((x25 : Int) == 2)))) rfl rfl rfl (qoK rfl rfl se26) ?_))
 refine au [6,12,6,13] ?_
 refine qf (d := 49) (v := .bool true) rfl (by rw [h81] <;> rfl) (kH 14 (.agg #[.slice a31 x30.1.length c32.1]) rfl rfl rfl (zw (i := 1) rfl tf24 rfl rfl (by simp) rfl) ?_)
 refine au [24,0,15,29,9] ?_
 rintro x82 e82 ⟨a83, c84⟩
 refine au [0,27,8,24,0,16,35,12] ?_
 intro x85 e85 _
 refine av [0,27,8,6,17,6,18,27,9] ?_ ?_
 intro h86
 refine qf (d := 54) (v := .bool true) rfl (by rw [h86] <;> rfl) ?_
 refine av [6,19,6,20,6,21,6,22,27,9] ?_ ?_
 intro h87
 refine qf (d := 58) (v := .bool true) rfl (by rw [h87] <;> rfl) ?_
 refine av [6,23,27,13,24,6,25,6,26,6,27,27,9] ?_ ?_
 intro h88
 refine qf (d := 63) (v := .bool true) rfl (by rw [h88] <;> rfl) ?_
 refine au [6,28,24,0,29,35,13] ?_
 intro x89 e89 g90 h91
 refine au [0,27,8,24,0,30] ?_
 refine qeM (j := 3) (y := x89) (qo .i64) rfl rfl tf3 rfl h91 (qJ e89).2.2 (fun _ => rfl) rfl rfl ?_
 refine av [0,27,8,6,31,6,32,6,33,27,9] ?_ ?_
 intro h92
 refine qf (d := 69) (v := .bool true) rfl (by rw [h92] <;> rfl) ?_
 refine au [6,34,24,0,35,35,13] ?_
 intro x93 e93 g94 h95
 refine au [0,27,8,24,0,36] ?_
 refine qeM (j := 3) (y := x93) (qo .i64) rfl rfl tf3 rfl h95 (qJ e93).2.2 (fun _ => rfl) rfl rfl ?_
 refine av [0,27,8,6,37,6,38,6,39,27,9] ?_ ?_
 intro h96
 refine qf (d := 75) (v := .bool true) rfl (by rw [h96] <;> rfl) ?_
 refine av [6,40,27,13,41,6,42,6,43,6,44,27,9] ?_ ?_
 intro h97
 refine qf (d := 80) (v := .bool true) rfl (by rw [h97] <;> rfl) ?_
 refine au [6,45,24,0,46] ?_
 refine qdZ (j := 4) rfl UnF.u inferInstance rfl rfl rfl rfl ?_
 intro x98 e98 g99 h100
 refine au [0,27,8,24,0,47] ?_
 refine qeM (j := 4) (y := x98) (qo .i64) rfl rfl tf3 rfl h100 (qJ e98).2.2 (fun _ => rfl) rfl rfl ?_
 refine av [0,27,8,6,48,6,49,6,50,27,9] ?_ ?_
 intro h101
 refine qf (d := 86) (v := .bool true) rfl (by rw [h101] <;> rfl) ?_
 refine av [6,51,6,52,6,53,6,54,27,9] ?_ ?_
 intro h102
 refine qf (d := 90) (v := .bool true) rfl (by rw [h102] <;> rfl) ?_
 refine au [6,55,6,56,6,57,6,58,24,7] ?_
 exact qz (qa (((x50.2 : Int) == 1), ())) (by intro c h; cases h)
 intro h102
 refine qf (d := 90) (v := .bool false) rfl (by rw [h102] <;> rfl) ?_
 refine au [8,55,8,56,6,57,6,58,24,7] ?_
 exact qz (qa (false, ())) (by intro c h; cases h)
 intro h101
 refine qf (d := 86) (v := .bool false) rfl (by rw [h101] <;> rfl) ?_
 refine au [8,51,8,52,6,53,6,54,8,55,8,56,6,57,6,58,24,7] ?_
 exact qz (qa (false, ())) (by intro c h; cases h)
 intro h97
 refine qf (d := 80) (v := .bool false) rfl (by rw [h97] <;> rfl) ?_
 refine au [8,45,8,46,8,47,8,48,6,49,6,50,8,51,8,52,6,53,6,54,8,55,8,56,6,57,6,58,24,7] ?_
 exact qz (qa (false, ())) (by intro c h; cases h)
 intro h96
 refine qf (d := 75) (v := .bool false) rfl (by rw [h96] <;> rfl) ?_
 refine au [8,40,8,41,8,42,6,43,6,44,8,45,8,46,8,47,8,48,6,49,6,50,8,51,8,52,6,53,6,54,8,55,8,56,6,57,6,58,24,7] ?_
 exact qz (qa (false, ())) (by intro c h; cases h)
 intro h92
 refine qf (d := 69) (v := .bool false) rfl (by rw [h92] <;> rfl) ?_
 refine au [8,34,8,35,8,36,8,37,6,38,6,39,8,40,8,41,8,42,6,43,6,44,8,45,8,46,8,47,8,48,6,49,6,50,8,51,8,52,6,53,6,54,8,55,8,56,6,57,6,58,24,7] ?_
 exact qz (qa (false, ())) (by intro c h; cases h)
 intro h88
 refine qf (d := 63) (v := .bool false) rfl (by rw [h88] <;> rfl) ?_
 refine au [8,28,8,29,8,30,8,31,6,32,6,33,8,34,8,35,8,36,8,37,6,38,6,39,8,40,8,41,8,42,6,43,6,44,8,45,8,46,8,47,8,48,6,49,6,50,8,51,8,52,6,53,6,54,8,55,8,56,6,57,6,58,24,7] ?_
 exact qz (qa (false, ())) (by intro c h; cases h)
 intro h87
 refine qf (d := 58) (v := .bool false) rfl (by rw [h87] <;> rfl) ?_
 refine au [8,23,8,24,8,25,6,26,6,27,8,28,8,29,8,30,8,31,6,32,6,33,8,34,8,35,8,36,8,37,6,38,6,39,8,40,8,41,8,42,6,43,6,44,8,45,8,46,8,47,8,48,6,49,6,50,8,51,8,52,6,53,6,54,8,55,8,56,6,57,6,58,24,7] ?_
 exact qz (qa (false, ())) (by intro c h; cases h)
 intro h86
 refine qf (d := 54) (v := .bool false) rfl (by rw [h86] <;> rfl) ?_
 refine au [8,19,8,20,6,21,6,22,8,23,8,24,8,25,6,26,6,27,8,28,8,29,8,30,8,31,6,32,6,33,8,34,8,35,8,36,8,37,6,38,6,39,8,40,8,41,8,42,6,43,6,44,8,45,8,46,8,47,8,48,6,49,6,50,8,51,8,52,6,53,6,54,8,55,8,56,6,57,6,58,24,7] ?_
 exact qz (qa (false, ())) (by intro c h; cases h)
 intro h81
 refine qw mixed [] [⟨g53, 24, [.slice a51 x50.1.length c52.1]⟩, ⟨g33, 24, [.slice a31 x30.1.length c32.1]⟩, ⟨g1, 26, [.int .i64 3, .int .i64 3, .int .i64 2]⟩, ⟨g20, 31, [.int .i64 x22, .int .i64 x23, .int .i64 x24, .int .i64 x25, .int .i64 x26, .slice a27 x29.length c28]⟩] [] (.cons 0 rfl (.cons 0 rfl (.cons 0 rfl (.cons 0 rfl .nil)))) qu 59 rfl ?_
 refine au [6,0,6,1,6,2] ?_
 refine qf (d := 38) (v := .bool true) rfl (by rw [h79] <;> rfl) ?_
 refine au [24,2,3,29,7,4,6,5,6,6,6,7] ?_
 refine qf (d := 43) (v := .bool true) rfl (by rw [h80] <;> rfl) ?_
 refine au [24,2,8] ?_
 refine kH 9 (.agg #[.int .i64 x23, .int .i64 x24, .int .i64 x25]) rfl rfl rfl (zw (i := 3) rfl tf26 rfl rfl (by simp) rfl) (kH 10 (.agg #[.int .i64 3, .int .i64 3, .int .i64 2]) rfl rfl rfl (zw (i := 2) rfl tf26 rfl rfl (by simp) rfl) (qm 11 (.bool (((x23 : Int) == 3) && (((x24 : Int) == 3) && ((x25 : Int) == 2)))) rfl rfl rfl (qoK rfl rfl se26) ?_))
 refine au [6,12,6,13] ?_
 refine qf (d := 49) (v := .bool false) rfl (by rw [h81] <;> rfl) ?_
 refine au [8,14,8,15,8,16,6,17,6,18,8,19,8,20,6,21,6,22,8,23,8,24,8,25,6,26,6,27,8,28,8,29,8,30,8,31,6,32,6,33,8,34,8,35,8,36,8,37,6,38,6,39,8,40,8,41,8,42,6,43,6,44,8,45,8,46,8,47,8,48,6,49,6,50,8,51,8,52,6,53,6,54,8,55,8,56,6,57,6,58,24,7] ?_
 exact qz (qa (false, ())) (by intro c h; cases h)
 intro h80
 refine qw mixed [] [⟨g53, 24, [.slice a51 x50.1.length c52.1]⟩, ⟨g33, 24, [.slice a31 x30.1.length c32.1]⟩, ⟨g1, 26, [.int .i64 3, .int .i64 3, .int .i64 2]⟩, ⟨g20, 31, [.int .i64 x22, .int .i64 x23, .int .i64 x24, .int .i64 x25, .int .i64 x26, .slice a27 x29.length c28]⟩] [] (.cons 0 rfl (.cons 0 rfl (.cons 0 rfl (.cons 0 rfl .nil)))) qu 59 rfl ?_
 refine au [6,0,6,1,6,2] ?_
 refine qf (d := 38) (v := .bool true) rfl (by rw [h79] <;> rfl) ?_
 refine au [24,2,3,29,7,4,6,5,6,6,6,7] ?_
 refine qf (d := 43) (v := .bool false) rfl (by rw [h80] <;> rfl) ?_
 refine au [8,8,8,9,8,10,8,11,6,12,6,13,8,14,8,15,8,16,6,17,6,18,8,19,8,20,6,21,6,22,8,23,8,24,8,25,6,26,6,27,8,28,8,29,8,30,8,31,6,32,6,33,8,34,8,35,8,36,8,37,6,38,6,39,8,40,8,41,8,42,6,43,6,44,8,45,8,46,8,47,8,48,6,49,6,50,8,51,8,52,6,53,6,54,8,55,8,56,6,57,6,58,24,7] ?_
 exact qz (qa (false, ())) (by intro c h; cases h)
 intro h79
 refine qw mixed [] [⟨g53, 24, [.slice a51 x50.1.length c52.1]⟩, ⟨g33, 24, [.slice a31 x30.1.length c32.1]⟩, ⟨g1, 26, [.int .i64 3, .int .i64 3, .int .i64 2]⟩, ⟨g20, 31, [.int .i64 x22, .int .i64 x23, .int .i64 x24, .int .i64 x25, .int .i64 x26, .slice a27 x29.length c28]⟩] [] (.cons 0 rfl (.cons 0 rfl (.cons 0 rfl (.cons 0 rfl .nil)))) qu 59 rfl ?_
 refine au [6,0,6,1,6,2] ?_
 refine qf (d := 38) (v := .bool false) rfl (by rw [h79] <;> rfl) ?_
 refine au [8,3,8,4,8,5,6,6,6,7,8,8,8,9,8,10,8,11,6,12,6,13,8,14,8,15,8,16,6,17,6,18,8,19,8,20,6,21,6,22,8,23,8,24,8,25,6,26,6,27,8,28,8,29,8,30,8,31,6,32,6,33,8,34,8,35,8,36,8,37,6,38,6,39,8,40,8,41,8,42,6,43,6,44,8,45,8,46,8,47,8,48,6,49,6,50,8,51,8,52,6,53,6,54,8,55,8,56,6,57,6,58,24,7] ?_
 exact qz (qa (false, ())) (by intro c h; cases h)
 rintro ⟨x78, _⟩
 try dsimp only
 exact az [12,18]
theorem qiZ {F : Nat} {x1 : List Int} {a2 : Option Addr} {c3 : Nat} {x4 : List Int} {a5 : Option Addr} {c6 : Nat} {r : Bool} (hm : qcU F x1 x4 = some r) :
    Pure Tryz.prog 52 [.slice a2 x1.length c3, .slice a5 x4.length c6] [Sl (eI .u8) 1 (.slice a2 x1.length c3) x1, Sl (eI .u8) 1 (.slice a5 x4.length c6) x4] Unit (fun _ => .bool r) (fun _ => []) (fun _ => []) := by
 refine qi Tryz.func52 rfl Tryz.ntmps52 rfl hm (fun w => ?_)
 refine av [24,13,3,4,5,0,2,3,3,4,1,19,1,19,25,3,0,2,9] ?_ ?_
 intro _
 exact az [3,4,5,0,2,12,11,18]
 intro _
 refine au [10,2] ?_
 refine qc (fun ((_, _) : (Unit × Unit)) => ([], [], [], [], qeB F)) ?_ ?_
 refine au [3,4,5,0,2,14] ?_
 refine qk (fun ((x154, _) : (Int × Unit)) => ([(0, .slice a2 x1.length c3), (1, .slice a5 x4.length c6), (5, .int .i64 x154)], [], [], [Sl (eI .u8) 1 (.slice a2 x1.length c3) x1, Sl (eI .u8) 1 (.slice a5 x4.length c6) x4])) (fun k (s : (Int × Unit)) => yG F x1 x4 k s.1) (0, ()) F ?_
 intro k191
 rintro ⟨x154, _⟩
 try dsimp only
 refine ql (m' := qa2 F x1 x4 (yG F x1 x4 k191) x154) rfl ?_
 refine av [3,3,4,1,1,19,22,0,2,9] ?_ ?_
 intro _
 refine au [10,2,3,14,3,30,5] ?_
 intro x218 e218 b219 o220 h221
 replace h221 : a2 = some ⟨b219, o220, none⟩ := h221
 refine au [34,10] ?_
 intro x222 e222 b223 o224 h225
 replace h225 : a5 = some ⟨b223, o224, none⟩ := h225
 refine qw mixed [] [] [qt b223 (o224 + x154.toNat * 1) ((eI .u8) x222), qt b219 (o220 + x154.toNat * 1) ((eI .u8) x218), Sl (eI .u8) 1 (.slice a2 x1.length c3) x1, Sl (eI .u8) 1 (.slice a5 x4.length c6) x4] .nil (qC 0 rfl (qC 1 rfl (qC 2 rfl (qC 3 rfl qu)))) 9 rfl ?_
 refine au [6,0,6,1] ?_
 refine qf (d := 17) (v := .slice (some ⟨b219, o220, none⟩) x1.length c3) rfl (by rw [h221] <;> rfl) (qm 2 (.pointer (some ⟨b219, (o220 + x154.toNat * 1), none⟩)) rfl rfl rfl (yq Tryz.underlying27 tf5 rfl rfl (qJ e218).1 (kj e218)) (qf (d := 17) (v := .slice a2 x1.length c3) rfl (by rw [h221] <;> rfl) (qK 3 (.int .u8 x218) [] rfl rfl rfl (zx (j := 1) rfl tf5 rfl rfl (fun _ => rfl) rfl) ?_)))
 refine au [6,4,6,5] ?_
 refine qf (d := 21) (v := .slice (some ⟨b223, o224, none⟩) x4.length c6) rfl (by rw [h225] <;> rfl) (qm 6 (.pointer (some ⟨b223, (o224 + x154.toNat * 1), none⟩)) rfl rfl rfl (yq Tryz.underlying27 tf5 rfl rfl (qJ e222).1 (kj e222)) (qf (d := 21) (v := .slice a5 x4.length c6) rfl (by rw [h225] <;> rfl) (qK 7 (.int .u8 x222) [] rfl rfl rfl (zx (j := 0) rfl tf5 rfl rfl (fun _ => rfl) rfl) ?_)))
 refine au [6,8,24,7] ?_
 refine qz ?_ (by intro c h; cases h)
 refine av [2,9] ?_ ?_
 intro _
 exact az [3,4,5,0,2,12,20,11,11,20,11,18]
 intro _
 refine au [10,21,2,4,1,15,5,0] ?_
 exact qh (iadd .i64 x154 1, ())
 intro _
 exact az [24,4,16,16,24,5,26,1]
 rintro ⟨_, _⟩
 try dsimp only
 exact az [3,4,5,0,2,12,18]
theorem qki {F : Nat} {x1 : Int} {x2 : List Int} {a3 : Option Addr} {c4 : Nat} {x5 : Int} {x6 : List Int} {a7 : Option Addr} {c8 : Nat} {r : Bool} (hm : qcb F x1 x2 x5 x6 = some r) :
    Pure Tryz.prog 26 [.agg #[.int .i64 x1, .slice a3 x2.length c4], .agg #[.int .i64 x5, .slice a7 x6.length c8]] [Sl (eI .u8) 1 (.slice a3 x2.length c4) x2, Sl (eI .u8) 1 (.slice a7 x6.length c8) x6] Unit (fun _ => .bool r) (fun _ => []) (fun _ => []) := by
 refine qi Tryz.func26 rfl Tryz.ntmps26 rfl hm (fun w => ?_)
 refine au [24,13,3,4,24,3] ?_
 intro g9
 refine au [24,3] ?_
 intro g10
 refine au [5,0,2,3,4,13,25,12,13,23,24,15,1] ?_
 refine q7 6 (fun ((x13, _) : (Bool × Unit)) => ([(16, .bool x13)], [], [], [], jQ F x13)) ?_ ?_
 refine qb (os := _) rfl ?_
 refine av [25,11] ?_ ?_
 intro h11
 refine qq (k := 10) rfl h11 ?_
 refine au [13,25,12,13,23] ?_
 refine qg qiZ ?_
 intro x14 e14 _
 refine au [24,8,0] ?_
 exact qa (x14, ())
 intro h11
 refine qp (k := 10) rfl h11 ?_
 refine au [7,7,7,7,7,24,9,0] ?_
 exact qa (false, ())
 rintro ⟨x13, _⟩
 try dsimp only
 refine qb (os := _) rfl ?_
 exact az [5,0,2,12,18]
theorem qhS {F : Nat} {x1 : Int} {x2 : Int} {x3 : Int} {x4 : Int} {x5 : Int} {x6 : List Int} {a7 : Option Addr} {c8 : Nat} {x9 : Int} {x10 : Int} {x11 : Int} {x12 : Int} {x13 : Int} {x14 : List Int} {a15 : Option Addr} {c16 : Nat} {r : Bool} (hm : qcc F x1 x2 x3 x4 x5 x6 x9 x10 x11 x12 x13 x14 = some r) :
    Pure Tryz.prog 16 [.agg #[.int .i64 x1, .int .i64 x2, .int .i64 x3, .int .i64 x4, .int .i64 x5, .slice a7 x6.length c8], .agg #[.int .i64 x9, .int .i64 x10, .int .i64 x11, .int .i64 x12, .int .i64 x13, .slice a15 x14.length c16]] [Sl (eI .u8) 1 (.slice a7 x6.length c8) x6, Sl (eI .u8) 1 (.slice a15 x14.length c16) x14] Unit (fun _ => .bool r) (fun _ => []) (fun _ => []) := by
 refine qi Tryz.func16 rfl Tryz.ntmps16 rfl hm (fun w => ?_)
 refine au [24,13,3,4,24,3] ?_
 intro g17
 refine au [24,3] ?_
 intro g18
 refine au [5,0,2,3,4,13,25,12,13,23,24,15,1] ?_
 refine qB 6 ((x1 : Int) == x9) [(2, .pointer (some ⟨g17, 0, none⟩)), (3, .pointer (some ⟨g18, 0, none⟩)), (16, .bool (((x1 : Int) == x9) && (((x2 : Int) == x10) && (((x3 : Int) == x11) && ((x4 : Int) == x12)))))] (fun h19 => ?_) (fun h19 => ?_) ?_
 refine qb (os := _) rfl (qq (k := 10) rfl h19 ?_)
 refine au [13,25,7,13,25,2] ?_
 refine qrb rfl rfl rfl inferInstance rfl ?_
 refine au [24,8] ?_
 refine qe (d := 16) (v := .bool (((x1 : Int) == x9) && (((x2 : Int) == x10) && (((x3 : Int) == x11) && ((x4 : Int) == x12))))) rfl (by rw [h19]; simp only [Bool.true_and]) ?_
 exact az [0,24,1]
 refine qb (os := _) rfl (qp (k := 10) rfl h19 ?_)
 refine au [7,7,7,7,7,24,9] ?_
 refine qe (d := 16) (v := .bool (((x1 : Int) == x9) && (((x2 : Int) == x10) && (((x3 : Int) == x11) && ((x4 : Int) == x12))))) rfl (by rw [h19]; simp only [Bool.false_and]) ?_
 exact az [0,24,1]
 refine qb (os := _) rfl ?_
 refine au [1] ?_
 refine q7 6 (fun ((x22, _) : (Bool × Unit)) => ([(23, .bool x22)], [], [], [], vp F x22)) ?_ ?_
 refine qb (os := _) rfl ?_
 refine av [25,11] ?_ ?_
 intro h20
 refine qq (k := 17) rfl h20 ?_
 refine au [13,25,7,13,25,2] ?_
 refine qg qki ?_
 intro x23 e23 _
 refine au [24,8,0] ?_
 exact qa (x23, ())
 intro h20
 refine qp (k := 17) rfl h20 ?_
 refine au [7,7,7,7,7,24,9,0] ?_
 exact qa (false, ())
 rintro ⟨x22, _⟩
 try dsimp only
 refine qb (os := _) rfl ?_
 exact az [5,0,2,12,18]
set_option maxHeartbeats 4000000 in
theorem qiN (F : Nat) (x1 : List (List Int)) (a2 : Option Addr) (c3 : (Nat × List (Option Addr × Nat))) (x4 : Int) (x5 : Int) (x6 : Int) (x7 : Int) (x8 : Int) (x9 : Int) (x10 : Int) (x11 : Int) (x12 : List Int) (a13 : Option Addr) (c14 : Nat) (r : Bool) (hm : qem F x1 x4 x5 x6 x7 x8 x9 x10 x11 x12 = some r) :
    Pure Tryz.prog 3 [.agg #[.slice a2 x1.length c3.1], .agg #[.int .i64 x4, .int .i64 x5, .int .i64 x6], .agg #[.int .i64 x7, .int .i64 x8, .int .i64 x9, .int .i64 x10, .int .i64 x11, .slice a13 x12.length c14]] [SlN eN37 iN37 1 (.slice a2 x1.length c3.1) x1 c3.2, Sl (eI .u8) 1 (.slice a13 x12.length c14) x12] Unit (fun _ => .bool r) (fun _ => []) (fun _ => []) := by
 refine qi Tryz.func3 rfl Tryz.ntmps3 rfl hm (fun w => ?_)
 refine au [25,13,3,4,24,3] ?_
 intro g15
 refine au [24,3] ?_
 intro g16
 refine au [24,3] ?_
 intro g17
 refine au [5,0,2,3,4,26,5,25,7,29,0] ?_
 rintro x18 e18 ⟨a19, c20⟩
 refine au [1,17,17,25,0] ?_
 intro g21
 refine au [24,11,5,0,2,3,4,25,7,31,3] ?_
 rintro x22 e22 ⟨a23, c24⟩
 refine au [1,17,17,25,0] ?_
 intro g25
 refine au [24,11,5,0,2,3,4,30,9,28,9,35,11] ?_
 rintro x26 e26 ⟨⟨a27, c28⟩, ⟨a29, c30⟩⟩
 refine au [1,17,17,17,5,5,5,0,2,3,4,30,9,28,9,35,7] ?_
 rintro x31 e31 ⟨⟨a32, c33⟩, ⟨a34, c35⟩, ⟨a36, c37⟩⟩
 refine au [1,17,17,17,17,5,5,5,5,0,2,3,4,25,0] ?_
 intro g38
 refine au [0,2] ?_
 refine qc (fun (((x43, x44, x45, x46, x47, x50), (a48, c49)) : ((Int × Int × Int × Int × Int × List Int) × (Option Addr × Nat))) => ([(5, .pointer (some ⟨g17, 0, none⟩)), (7, .pointer (some ⟨g21, 0, none⟩)), (8, .int .i64 x18.2.2.2.2.2.2), (9, .pointer (some ⟨g25, 0, none⟩)), (10, .int .i64 x22.2), (11, .slice a27 x26.1.length c28), (12, .slice a29 x26.2.1.length c30), (13, .int .i64 x26.2.2), (15, .slice a34 x31.2.1.length c35), (16, .slice a36 x31.2.2.1.length c37), (17, .int .i64 x31.2.2.2), (18, .pointer (some ⟨g38, 0, none⟩))], [⟨g38, 31, [.int .i64 x43, .int .i64 x44, .int .i64 x45, .int .i64 x46, .int .i64 x47, .slice a48 x50.length c49]⟩, ⟨g25, 24, [.slice a23 x22.1.length c24.1]⟩, ⟨g21, 31, [.int .i64 x18.1, .int .i64 x18.2.1, .int .i64 x18.2.2.1, .int .i64 x18.2.2.2.1, .int .i64 x18.2.2.2.2.1, .slice a19 x18.2.2.2.2.2.1.length c20]⟩, ⟨g17, 31, [.int .i64 x7, .int .i64 x8, .int .i64 x9, .int .i64 x10, .int .i64 x11, .slice a13 x12.length c14]⟩], [Ro (eI .i64) 3 1 (.slice a27 x26.1.length c28) x26.1, Ro (eI .i64) 3 1 (.slice a29 x26.2.1.length c30) x26.2.1, Ro (eI .i64) 3 1 (.slice a34 x31.2.1.length c35) x31.2.1, Ro (eI .i64) 3 1 (.slice a36 x31.2.2.1.length c37) x31.2.2.1, Ro (eI .u8) 5 1 (.slice a48 x50.length c49) x50, RoN eN37 rN37 37 1 (.slice a23 x22.1.length c24.1) x22.1 c24.2 [], Ro (eI .u8) 5 1 (.slice a19 x18.2.2.2.2.2.1.length c20) x18.2.2.2.2.2.1], [Sl (eI .u8) 1 (.slice a13 x12.length c14) x12], vV F x7 x8 x9 x10 x11 x12 x18 x22 x26 x31 x43 x44 x45 x46 x47 x50)) ?_ ?_
 refine av [3,4,1,24,15,0,2,9] ?_ ?_
 intro _
 refine qw mixed [] [⟨g25, 24, [.slice a23 x22.1.length c24.1]⟩, ⟨g21, 31, [.int .i64 x18.1, .int .i64 x18.2.1, .int .i64 x18.2.2.1, .int .i64 x18.2.2.2.1, .int .i64 x18.2.2.2.2.1, .slice a19 x18.2.2.2.2.2.1.length c20]⟩, ⟨g17, 31, [.int .i64 x7, .int .i64 x8, .int .i64 x9, .int .i64 x10, .int .i64 x11, .slice a13 x12.length c14]⟩, ⟨g16, 26, [.int .i64 x4, .int .i64 x5, .int .i64 x6]⟩, ⟨g15, 24, [.slice a2 x1.length c3.1]⟩] [SlN eN37 iN37 1 (.slice a2 x1.length c3.1) x1 c3.2, Sl (eI .u8) 1 (.slice a13 x12.length c14) x12] (.cons 1 rfl (.cons 1 rfl (.cons 1 rfl (.cons 1 rfl (.cons 1 rfl .nil))))) (qC 0 rfl (qC 1 rfl qu)) 8 rfl ?_
 refine au [24,2,0] ?_
 refine kH 1 _ rfl rfl rfl (zw (i := 4) rfl inferInstance rfl rfl (fun _ => rfl) rfl) ?_
 refine au [27,13,2] ?_
 refine kH 3 (.agg #[.int .i64 x4, .int .i64 x5, .int .i64 x6]) rfl rfl rfl (zw (i := 3) rfl tf26 rfl rfl (by simp) rfl) ?_
 refine au [6,4,24,0,5] ?_
 refine qg qkf ?_
 rintro x75 e75 ⟨a76, c77⟩
 refine au [0,35,14] ?_
 refine qm 6 (.agg #[.int .i64 (x1.length : Int), .int .i64 x4, .int .i64 x5, .int .i64 x6, .int .i64 x75.1, .slice a76 x75.2.length c77]) rfl rfl rfl (qfH (cells := [.int .i64 (x1.length : Int), .int .i64 x4, .int .i64 x5, .int .i64 x6, .int .i64 x75.1, .slice a76 x75.2.length c77]) st31 rfl (by kernel_rfl)) ?_
 refine au [24,0,7,24,11,0,35,14,24,7] ?_
 exact qz (qa (((x1.length : Int), x4, x5, x6, x75.1, x75.2), (a76, c77))) (by intro c h; cases h)
 intro _
 refine au [10,26,12] ?_
 exact qa (((0 : Int), (0 : Int), (0 : Int), (0 : Int), (0 : Int), ([] : List Int)), (none, 0))
 rintro ⟨⟨x43, x44, x45, x46, x47, x50⟩, ⟨a48, c49⟩⟩
 try dsimp only
 refine au [3,4,28,9] ?_
 refine qg qkh ?_
 rintro x51 e51 ⟨a52, c53⟩
 refine au [1,17,17,25,0] ?_
 intro g54
 refine au [24,11,5,0,2,3,4] ?_
 refine qg (fun h => qiO F _ h) ?_
 intro x55 e55 _
 refine au [1] ?_
 refine q7 4 (fun ((x58, _) : (Bool × Unit)) => ([(8, .int .i64 x18.2.2.2.2.2.2), (9, .pointer (some ⟨g25, 0, none⟩)), (10, .int .i64 x22.2), (11, .slice a27 x26.1.length c28), (12, .slice a29 x26.2.1.length c30), (13, .int .i64 x26.2.2), (15, .slice a34 x31.2.1.length c35), (16, .slice a36 x31.2.2.1.length c37), (17, .int .i64 x31.2.2.2), (19, .pointer (some ⟨g54, 0, none⟩)), (20, .int .i64 x51.2), (66, .bool x58)], [⟨g54, 24, [.slice a52 x51.1.length c53.1]⟩, ⟨g25, 24, [.slice a23 x22.1.length c24.1]⟩], [Ro (eI .i64) 3 1 (.slice a27 x26.1.length c28) x26.1, Ro (eI .i64) 3 1 (.slice a29 x26.2.1.length c30) x26.2.1, Ro (eI .i64) 3 1 (.slice a34 x31.2.1.length c35) x31.2.1, Ro (eI .i64) 3 1 (.slice a36 x31.2.2.1.length c37) x31.2.2.1, RoN eN37 rN37 37 1 (.slice a52 x51.1.length c53.1) x51.1 c53.2 [], RoN eN37 rN37 37 1 (.slice a23 x22.1.length c24.1) x22.1 c24.2 []], [], vW F x18 x22 x26 x31 x51 x58)) ?_ ?_
 refine qb (os := _) rfl ?_
 refine av [25,11] ?_ ?_
 intro h56
 refine qq (k := 62) rfl h56 ?_
 refine au [28,9,25,7] ?_
 refine qg qhS ?_
 intro x74 e74 _
 refine au [24,8,0] ?_
 exact qa (x74, ())
 intro h56
 refine qp (k := 62) rfl h56 ?_
 refine au [7,7,7,24,9,0] ?_
 exact qa (false, ())
 rintro ⟨x58, _⟩
 try dsimp only
 refine qb (os := _) rfl ?_
 refine au [1] ?_
 refine qB 4 x58 [(9, .pointer (some ⟨g25, 0, none⟩)), (10, .int .i64 x22.2), (11, .slice a27 x26.1.length c28), (12, .slice a29 x26.2.1.length c30), (13, .int .i64 x26.2.2), (15, .slice a34 x31.2.1.length c35), (16, .slice a36 x31.2.2.1.length c37), (17, .int .i64 x31.2.2.2), (19, .pointer (some ⟨g54, 0, none⟩)), (20, .int .i64 x51.2), (71, .bool (x58 && ((x18.2.2.2.2.2.2 : Int) == x31.2.2.2)))] (fun h59 => ?_) (fun h59 => ?_) ?_
 refine qb (os := _) rfl (qq (k := 67) rfl h59 ?_)
 refine au [1,1,24,15,24,8] ?_
 refine qe (d := 71) (v := .bool (x58 && ((x18.2.2.2.2.2.2 : Int) == x31.2.2.2))) rfl (by rw [h59]; simp only [Bool.true_and]) ?_
 exact az [0,24,1]
 refine qb (os := _) rfl (qp (k := 67) rfl h59 ?_)
 refine au [7,7,7,24,9] ?_
 refine qe (d := 71) (v := .bool (x58 && ((x18.2.2.2.2.2.2 : Int) == x31.2.2.2))) rfl (by rw [h59]; simp only [Bool.false_and]) ?_
 exact az [0,24,1]
 refine qb (os := _) rfl ?_
 refine au [1] ?_
 refine q7 4 (fun ((x62, _) : (Bool × Unit)) => ([(10, .int .i64 x22.2), (11, .slice a27 x26.1.length c28), (12, .slice a29 x26.2.1.length c30), (13, .int .i64 x26.2.2), (15, .slice a34 x31.2.1.length c35), (16, .slice a36 x31.2.2.1.length c37), (17, .int .i64 x31.2.2.2), (20, .int .i64 x51.2), (76, .bool x62)], [], [Ro (eI .i64) 3 1 (.slice a27 x26.1.length c28) x26.1, Ro (eI .i64) 3 1 (.slice a29 x26.2.1.length c30) x26.2.1, Ro (eI .i64) 3 1 (.slice a34 x31.2.1.length c35) x31.2.1, Ro (eI .i64) 3 1 (.slice a36 x31.2.2.1.length c37) x31.2.2.1], [], vX F x22 x26 x31 x51 x62)) ?_ ?_
 refine qb (os := _) rfl ?_
 refine av [25,11] ?_ ?_
 intro h60
 refine qq (k := 72) rfl h60 ?_
 refine au [25,7,25,2,35,12] ?_
 intro x73 e73 _
 refine au [24,8,0] ?_
 exact qa (x73, ())
 intro h60
 refine qp (k := 72) rfl h60 ?_
 refine au [7,7,7,24,9,0] ?_
 exact qa (false, ())
 rintro ⟨x62, _⟩
 try dsimp only
 refine qb (os := _) rfl ?_
 refine au [1] ?_
 refine qB 4 x62 [(11, .slice a27 x26.1.length c28), (12, .slice a29 x26.2.1.length c30), (13, .int .i64 x26.2.2), (15, .slice a34 x31.2.1.length c35), (16, .slice a36 x31.2.2.1.length c37), (17, .int .i64 x31.2.2.2), (81, .bool (x62 && ((x22.2 : Int) == x51.2)))] (fun h63 => ?_) (fun h63 => ?_) ?_
 refine qb (os := _) rfl (qq (k := 77) rfl h63 ?_)
 refine au [1,1,24,15,24,8] ?_
 refine qe (d := 81) (v := .bool (x62 && ((x22.2 : Int) == x51.2))) rfl (by rw [h63]; simp only [Bool.true_and]) ?_
 exact az [0,24,1]
 refine qb (os := _) rfl (qp (k := 77) rfl h63 ?_)
 refine au [7,7,7,24,9] ?_
 refine qe (d := 81) (v := .bool (x62 && ((x22.2 : Int) == x51.2))) rfl (by rw [h63]; simp only [Bool.false_and]) ?_
 exact az [0,24,1]
 refine qb (os := _) rfl ?_
 refine au [1] ?_
 refine q7 4 (fun ((x66, _) : (Bool × Unit)) => ([(12, .slice a29 x26.2.1.length c30), (13, .int .i64 x26.2.2), (16, .slice a36 x31.2.2.1.length c37), (17, .int .i64 x31.2.2.2), (86, .bool x66)], [], [Ro (eI .i64) 3 1 (.slice a29 x26.2.1.length c30) x26.2.1, Ro (eI .i64) 3 1 (.slice a36 x31.2.2.1.length c37) x31.2.2.1], [], vY F x26 x31 x66)) ?_ ?_
 refine qb (os := _) rfl ?_
 refine av [25,11] ?_ ?_
 intro h64
 refine qq (k := 82) rfl h64 ?_
 refine au [1,1,29,2] ?_
 intro x72 e72 _
 refine au [24,8,0] ?_
 exact qa (x72, ())
 intro h64
 refine qp (k := 82) rfl h64 ?_
 refine au [7,7,7,24,9,0] ?_
 exact qa (false, ())
 rintro ⟨x66, _⟩
 try dsimp only
 refine qb (os := _) rfl ?_
 refine au [1] ?_
 refine q7 4 (fun ((x69, _) : (Bool × Unit)) => ([(13, .int .i64 x26.2.2), (17, .int .i64 x31.2.2.2), (91, .bool x69)], [], [], [], qaN F x26 x31 x69)) ?_ ?_
 refine qb (os := _) rfl ?_
 refine av [25,11] ?_ ?_
 intro h67
 refine qq (k := 87) rfl h67 ?_
 refine au [1,1,29,2] ?_
 intro x71 e71 _
 refine au [24,8,0] ?_
 exact qa (x71, ())
 intro h67
 refine qp (k := 87) rfl h67 ?_
 refine au [7,7,7,24,9,0] ?_
 exact qa (false, ())
 rintro ⟨x69, _⟩
 try dsimp only
 refine qb (os := _) rfl ?_
 refine au [1] ?_
 refine qB 4 x69 [(96, .bool (x69 && ((x26.2.2 : Int) == x31.2.2.2)))] (fun h70 => ?_) (fun h70 => ?_) ?_
 refine qb (os := _) rfl (qq (k := 92) rfl h70 ?_)
 refine au [1,1,24,15,24,8] ?_
 refine qe (d := 96) (v := .bool (x69 && ((x26.2.2 : Int) == x31.2.2.2))) rfl (by rw [h70]; simp only [Bool.true_and]) ?_
 exact az [0,24,1]
 refine qb (os := _) rfl (qp (k := 92) rfl h70 ?_)
 refine au [7,7,7,24,9] ?_
 refine qe (d := 96) (v := .bool (x69 && ((x26.2.2 : Int) == x31.2.2.2))) rfl (by rw [h70]; simp only [Bool.false_and]) ?_
 exact az [0,24,1]
 refine qb (os := _) rfl ?_
 exact az [5,0,2,12,18]
end Go.Proofs.YtpnfijegoepiaaaGreat
