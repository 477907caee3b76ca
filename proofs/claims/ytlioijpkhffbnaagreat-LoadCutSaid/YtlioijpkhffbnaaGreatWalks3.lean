/- Each Go function of this seat computes what its model says, part 3. -/
import Derived.Test.YtlioijpkhffbnaaGreatWalks2
namespace Go.Proofs.YtlioijpkhffbnaaGreat
open Go SX
set_option maxHeartbeats 4000000 in
theorem qfv {F : Nat} {x1 : List Int} {a2 : Option Addr} {c3 : Nat} {x4 : Int} {r : Int} (hm : qaK F x1 x4 = some r) :
    Pure Tryz.prog 138 [.slice a2 x1.length c3, .int .i64 x4] [Sl (eI .i64) 1 (.slice a2 x1.length c3) x1] Unit (fun _ => .int .i64 r) (fun _ => []) (fun _ => []) := by
 refine qh Tryz.func138 rfl Tryz.ntmps138 rfl hm (fun w => ?_)
 refine av [24,12,2,4,5,0,1,2,2,4,3,23,3,16,24,13,0,1,9] ?_ ?_
 intro _
 exact az [2,4,5,0,1,8,11,17]
 intro _
 refine au [12,1,2,4,5,0,1] ?_
 refine qe (fun ((x99, _) : (Int × Unit)) => ([(1, .int .i64 x4), (5, .int .i64 x99)], [], [], [], qah F x4 x99)) ?_ ?_
 refine au [2,4,3,23,3,0,1,15] ?_
 refine qk (fun (((x132, x133), _) : ((Int × Int) × Unit)) => ([(1, .int .i64 x4), (5, .int .i64 x132), (13, .slice a2 x1.length c3), (14, .int .i64 (x1.length : Int)), (15, .int .i64 x133)], [], [], [Sl (eI .i64) 1 (.slice a2 x1.length c3) x1])) (fun k (s : ((Int × Int) × Unit)) => ka F x1 x4 k s.1) ((0, 0), ()) F ?_
 intro k164
 rintro ⟨⟨x132, x133⟩, _⟩
 try dsimp only
 refine qz (m' := vU F x1 x4 (ka F x1 x4 k164) x132 x133) rfl ?_
 refine av [2,4,24,2,0,1,2,9] ?_ ?_
 intro _
 refine au [12,1,2,15,2,4,3,26,12] ?_
 intro x180 e180 b181 o182
 refine au [25,9,5,5,0,1,2,2,4,3,24,2,3] ?_
 refine y9 7 (fun ((x190, _) : (Bool × Unit)) => ([(1, .int .i64 x4), (5, .int .i64 x132), (7, .int .i64 x180), (13, .slice a2 x1.length c3), (14, .int .i64 (x1.length : Int)), (15, .int .i64 x133), (29, .bool x190)], [], [], [Sl (eI .i64) 1 (.slice a2 x1.length c3) x1], vV F (ka F x1 x4 k164) x4 x132 x133 x180 x190)) ?_ ?_
 refine qc (os := _) rfl ?_
 refine av [26,8] ?_ ?_
 intro h188
 refine qE (k := 22) rfl h188 ?_
 refine au [10,10,10,10,10,10,24,10,0] ?_
 exact qa (true, ())
 intro h188
 refine qD (k := 22) rfl h188 ?_
 refine au [3,24,2,3] ?_
 refine qN 3 (decide (x180 < 1)) [(1, .int .i64 x4), (5, .int .i64 x132), (13, .slice a2 x1.length c3), (14, .int .i64 (x1.length : Int)), (15, .int .i64 x133), (7, .int .i64 x180), (22, .bool false), (23, .int .i64 x180), (24, .bool (decide (x180 < 1))), (25, .bool (decide (x180 < 1))), (28, .bool ((decide (x180 < 1)) && (decide (0 < x133))))] (fun h193 => ?_) (fun h193 => ?_) ?_
 refine qc (os := _) rfl (qE (k := 25) rfl h193 ?_)
 refine au [3,24,13,24,10] ?_
 refine qd (d := 28) (v := .bool ((decide (x180 < 1)) && (decide (0 < x133)))) rfl (by rw [h193]; simp only [Bool.true_and]) (qd (d := 25) (v := .bool (decide (x180 < 1))) rfl (by rw [h193] <;> rfl) ?_)
 exact az [0,24,3]
 refine qc (os := _) rfl (qD (k := 25) rfl h193 ?_)
 refine au [10,10,24,11] ?_
 refine qd (d := 28) (v := .bool ((decide (x180 < 1)) && (decide (0 < x133)))) rfl (by rw [h193]; simp only [Bool.false_and]) (qd (d := 25) (v := .bool (decide (x180 < 1))) rfl (by rw [h193] <;> rfl) ?_)
 exact az [0,24,3]
 refine qc (os := _) rfl ?_
 refine au [24,11,0] ?_
 exact qa (((decide (x180 < 1)) && (decide (0 < x133))), ())
 rintro ⟨x190, _⟩
 try dsimp only
 refine qc (os := _) rfl ?_
 refine av [0,1,9] ?_ ?_
 intro _
 exact az [2,4,5,0,1,8,11,22,11,11,22,11,17]
 intro _
 refine au [12,1,4,3,3,3,16,27,11,16,3,16,27,11,5,26,6] ?_
 intro x191 e191
 refine qd (d := 5) (v := .int .i64 x191) rfl (by rw [e191] <;> rfl) ?_
 refine au [0,24,4,1,4,16,3,0] ?_
 exact qi ((x191, iadd .i64 x133 1), ())
 intro _
 refine au [24,8,18,18,24,9] ?_
 exact qa (x132, ())
 rintro ⟨x99, _⟩
 try dsimp only
 refine av [2,2,4,3,3,24,13,0,1,9] ?_ ?_
 intro _
 exact az [2,4,5,0,1,8,11,17]
 intro _
 exact az [12,1,2,4,5,0,1,8,17]
set_option maxHeartbeats 4000000 in
theorem qeJ {F : Nat} {x1 : List Int} {a2 : Option Addr} {c3 : Nat} {x4 : List Int} {a5 : Option Addr} {c6 : Nat} {r : List Int} (hm : qbf F x1 x4 = some r) :
    Pure Tryz.prog 139 [.slice a2 x1.length c3, .slice a5 x4.length c6] [Sl (eI .i64) 1 (.slice a2 x1.length c3) x1, Sl (eI .i64) 1 (.slice a5 x4.length c6) x4] (Option Addr × Nat) (fun g => .slice g.1 r.length g.2) (fun g => [Ro (eI .i64) 3 1 (.slice g.1 r.length g.2) r]) (fun _ => []) := by
 refine qh Tryz.func139 rfl Tryz.ntmps139 rfl hm (fun w => ?_)
 refine au [24,12,2,4,5,0,1,2,4,5,0,1,2,4,5,0,1] ?_
 refine qe (fun (((x158, x161, x162), (a156, c157, a159, c160)) : ((List Int × List Int × Bool) × (Option Addr × Nat × Option Addr × Nat))) => ([(0, .slice a156 x158.length c157), (5, .slice a159 x161.length c160), (6, .bool x162)], [], [Ro (eI .i64) 3 1 (.slice a159 x161.length c160) x161], [Sl (eI .i64) 1 (.slice a156 x158.length c157) x158], qai F x158 x161 x162)) ?_ ?_
 refine au [2,4,3,23,3,0,1,15,27,6] ?_
 refine qk (fun (((x217, x220, x221, x222), (a215, c216, a218, c219)) : ((List Int × List Int × Bool × Int) × (Option Addr × Nat × Option Addr × Nat))) => ([(0, .slice a215 x217.length c216), (5, .slice a218 x220.length c219), (6, .bool x221), (9, .slice a5 x4.length c6), (10, .int .i64 (x4.length : Int)), (11, .int .i64 x222)], [], [Ro (eI .i64) 3 1 (.slice a218 x220.length c219) x220], [Sl (eI .i64) 1 (.slice a215 x217.length c216) x217, Sl (eI .i64) 1 (.slice a5 x4.length c6) x4])) (fun k (s : ((List Int × List Int × Bool × Int) × (Option Addr × Nat × Option Addr × Nat))) => zQ F x4 k s.1) ((x1, ([] : List Int), true, 0), (a2, c3, none, 0)) F ?_
 intro k271
 rintro ⟨⟨x217, x220, x221, x222⟩, ⟨a215, c216, a218, c219⟩⟩
 try dsimp only
 refine qz (m' := vm F x4 (zQ F x4 k271) x217 x220 x221 x222) rfl ?_
 refine av [2,4,24,2,0,1,2,9] ?_ ?_
 intro _
 refine au [12,1,2,15,2,4,29,9] ?_
 intro x296 e296 b297 o298
 refine au [25,9,5,0,1] ?_
 refine qe (fun ((x308, (a306, c307)) : (List Int × (Option Addr × Nat))) => ([(0, .slice a215 x217.length c216), (5, .slice a306 x308.length c307), (6, .bool x221), (8, .int .i64 x296), (9, .slice a5 x4.length c6), (10, .int .i64 (x4.length : Int)), (11, .int .i64 x222)], [], [Ro (eI .i64) 3 1 (.slice a306 x308.length c307) x308], [Sl (eI .i64) 1 (.slice a215 x217.length c216) x217, Sl (eI .i64) 1 (.slice a5 x4.length c6) x4], vo F (zQ F x4 k271) x217 x221 x222 x296 x308)) ?_ ?_
 refine av [2,4,3,0,1,9] ?_ ?_
 intro _
 refine au [4,3,3,3] ?_
 refine qhj (j := 1) (qr .i64) rfl UnF.u inferInstance rfl rfl rfl rfl rfl ?_
 intro x312 e312 a313 c314
 refine au [30,1] ?_
 intro x315 e315 a316 c317
 refine au [5,0] ?_
 exact qa (x315, (a316, c317))
 intro _
 refine au [12] ?_
 exact qa (x220, (a218, c219))
 rintro ⟨x308, ⟨a306, c307⟩⟩
 try dsimp only
 refine au [4,3,3] ?_
 refine qhj (j := 0) (qr .i64) rfl UnF.u inferInstance rfl rfl rfl rfl rfl ?_
 intro x309 e309 a310 c311
 refine au [3,25,1,5,5,0,24,4,1,4,16,3,0] ?_
 exact qi ((x309, x308, (!x221), iadd .i64 x222 1), (a310, c311, a306, c307))
 intro _
 refine au [24,8,18,18,24,9] ?_
 exact qa ((x217, x220, x221), (a215, c216, a218, c219))
 rintro ⟨⟨x158, x161, x162⟩, ⟨a156, c157, a159, c160⟩⟩
 try dsimp only
 refine qe (fun ((x169, (a167, c168)) : (List Int × (Option Addr × Nat))) => ([(5, .slice a167 x169.length c168)], [], [Ro (eI .i64) 3 1 (.slice a167 x169.length c168) x169], [], vW F x169)) ?_ ?_
 refine av [2,4,3,0,1,9] ?_ ?_
 intro _
 refine au [4,3,3,30,1] ?_
 intro x170 e170 a171 c172
 refine au [5,0] ?_
 exact qa (x170, (a171, c172))
 intro _
 refine au [12] ?_
 exact qa (x161, (a159, c160))
 rintro ⟨x169, ⟨a167, c168⟩⟩
 try dsimp only
 refine au [2,4,3,5,0,1,8] ?_
 exact qn (a167, c168)
set_option maxHeartbeats 4000000 in
theorem qgx {F : Nat} {x1 : List Int} {a2 : Option Addr} {c3 : Nat} {x4 : List Int} {a5 : Option Addr} {c6 : Nat} {r : (List Int × Int)} (hm : qa0 F x1 x4 = some r) :
    Pure Tryz.prog 122 [.slice a2 x1.length c3, .slice a5 x4.length c6] [Sl (eI .i64) 1 (.slice a2 x1.length c3) x1, Sl (eI .i64) 1 (.slice a5 x4.length c6) x4] (Option Addr × Nat) (fun g => .tuple #[.slice g.1 r.1.length g.2, .int .i64 r.2]) (fun g => [Ro (eI .i64) 3 1 (.slice g.1 r.1.length g.2) r.1]) (fun _ => []) := by
 refine qh Tryz.func122 rfl Tryz.ntmps122 rfl hm (fun w => ?_)
 refine au [24,12,2,4,5,5,0,1,2,4,3,28,6] ?_
 intro x7 e7 _
 refine au [5,0,1] ?_
 refine qe (fun ((x10, _) : (Int × Unit)) => ([(0, .slice a2 x1.length c3), (1, .slice a5 x4.length c6), (6, .int .i64 x10)], [], [], [Sl (eI .i64) 1 (.slice a2 x1.length c3) x1, Sl (eI .i64) 1 (.slice a5 x4.length c6) x4], vz F x1 x4 x10)) ?_ ?_
 refine av [2,4,3,25,2,0,1,9] ?_ ?_
 intro _
 refine au [4,3,3,23] ?_
 refine qg qfv ?_
 intro x16 e16 _
 refine au [5,0] ?_
 exact qa (x16, ())
 intro _
 refine au [12] ?_
 exact qa (x7, ())
 rintro ⟨x10, _⟩
 try dsimp only
 refine av [2,2,4,3,25,3,0,1,9] ?_ ?_
 intro _
 refine au [2,4,3,5,5,0,1,8,11,25,10] ?_
 exact qn (none, 0)
 intro _
 refine au [12,1,2,4,3,3] ?_
 refine qg qeJ ?_
 rintro x12 e12 ⟨a13, c14⟩
 refine au [5,5,0,1,8] ?_
 exact qn (a13, c14)
set_option maxHeartbeats 4000000 in
theorem qcl (F : Nat) (g1 : Nat) (x2 : Int) (x3 : List Int) (a4 : Option Addr) (c5 : Nat) (x6 : Int) (x7 : Int) (r : ((List Int × Int × Int) ⊕ (Int × Int))) (hm : yG F x2 x3 x6 x7 = some r) :
    PureL Tryz.prog 123 [.pointer (some ⟨g1, 0, none⟩), .int .i64 x7] [⟨g1, 166, [.int .i64 x2, .slice a4 x3.length c5, .int .i64 x6]⟩] [] [Sl (eI .u8) 1 (.slice a4 x3.length c5) x3] lostCh (Option Addr × Nat) (fun (r : (List Int × Int × Int)) (g : (Option Addr × Nat)) => .slice g.1 r.1.length g.2) (fun (r : (List Int × Int × Int)) (_ : (Option Addr × Nat)) => [⟨g1, 166, [.int .i64 r.2.1, .slice a4 x3.length c5, .int .i64 r.2.2]⟩]) (fun (r : (List Int × Int × Int)) (g : (Option Addr × Nat)) => [Ro (eI .i64) 3 1 (.slice g.1 r.1.length g.2) r.1]) (fun (z : (Int × Int)) => [⟨g1, 166, [.int .i64 z.1, .slice a4 x3.length c5, .int .i64 z.2]⟩]) r := by
 refine qcv Tryz.func123 rfl Tryz.ntmps123 rfl hm (fun w => ?_)
 refine au [24,12,2,4,5,0,1,2,4,3,3,16] ?_
 refine zS ent121 rfl rfl rfl (fun x8 e8 => kn F g1 x2 x3 a4 c5 x6 (iadd .i64 x7 1) x8 e8) (.cons 0 rfl .nil) .nil (.consF 0 rfl .nil) (fun x9 _ => ?_) (fun x8 e8 => ?_)
 exact az [25,4,26,5]
 intro _
 refine qnq (qr .i64) rfl UnF.u inferInstance rfl rfl rfl rfl rfl rfl rfl ?_
 intro x10 e10 a11 c12
 refine au [5,0,1] ?_
 refine qe (fun (((x72, x73, x74), _) : ((List Int × Int × Int) × Unit)) => ([(5, .slice a11 x72.length c12)], [⟨g1, 166, [.int .i64 x73, .slice a4 x3.length c5, .int .i64 x74]⟩], [Ro (eI .i64) 3 1 (.slice a11 x72.length c12) x72], [Sl (eI .u8) 1 (.slice a4 x3.length c5) x3], yY F x72 x73 x74)) ?_ ?_
 refine au [2,4,3,23,3,0,1,15] ?_
 refine qk (fun (((x93, x94, x95, x96), _) : ((List Int × Int × Int × Int) × Unit)) => ([(0, .pointer (some ⟨g1, 0, none⟩)), (1, .int .i64 x7), (5, .slice a11 x93.length c12), (13, .int .i64 (x10.length : Int)), (14, .int .i64 x94)], [⟨g1, 166, [.int .i64 x95, .slice a4 x3.length c5, .int .i64 x96]⟩], [Ro (eI .i64) 3 1 (.slice a11 x93.length c12) x93], [Sl (eI .u8) 1 (.slice a4 x3.length c5) x3])) (fun k (s : ((List Int × Int × Int × Int) × Unit)) => zx F x3 x7 x10 k s.1) ((x10, 0, x8.2.1, x8.2.2), ()) F ?_
 intro k115
 rintro ⟨⟨x93, x94, x95, x96⟩, _⟩
 try dsimp only
 refine qz (m' := kN F x3 x7 x10 (zx F x3 x7 x10 k115) x93 x94 x95 x96) rfl ?_
 refine av [2,4,24,2,0,1,2,9] ?_ ?_
 intro _
 refine au [12,1,2,15,2,4,3,5,0,1,4,3,3,3,3] ?_
 refine zS ent121 rfl rfl rfl (fun x125 e125 => kn F g1 x95 x3 a4 c5 x96 x7 x125 e125) (.cons 0 rfl .nil) .nil (.consF 0 rfl .nil) (fun x126 _ => ?_) (fun x125 e125 => ?_)
 exact az [27,2,25,4,25,4,27,2,25,4,26,5]
 intro _
 refine au [3,27,11,16,30,2] ?_
 intro x127 e127 g128 h129
 refine qdj (j := 0) (y' := iadd .i64 x125.1 (imin x94 1)) (qr .i64) rfl rfl rfl tf3 rfl h129 (zF e127).2.1 rfl (fun x130 e130 h131 => ?_)
 have h132 : x130.length = x93.length := by rw [← e130, List.length_set]
 refine qd (d := 5) (v := .slice a11 x130.length c12) rfl h131 (qd (d := 17) (v := .slice a11 x130.length c12) rfl h131 ?_)
 refine au [0,24,4,1,4,16,3,0] ?_
 exact qi ((x130, iadd .i64 x94 1, x125.2.1, x125.2.2), ())
 intro _
 refine au [24,8,18,18,24,9] ?_
 exact qa ((x93, x95, x96), ())
 rintro ⟨⟨x72, x73, x74⟩, _⟩
 try dsimp only
 refine au [2,4,3,5,0,1,8] ?_
 exact qaz (a11, c12) (.inl rfl) (res1 rfl rfl) rfl (.cons 0 rfl .nil) (.cons 0 rfl .nil)
set_option maxHeartbeats 4000000 in
theorem qc8 (F : Nat) (g1 : Nat) (x2 : Int) (x3 : List Int) (a4 : Option Addr) (c5 : Nat) (x6 : Int) (x7 : Int) (x8 : Int) (x9 : Int) (r : ((List (Int × Int) × Int × Int) ⊕ (Int × Int))) (hm : vr F x2 x3 x6 x7 x8 x9 = some r) :
    PureL Tryz.prog 124 [.pointer (some ⟨g1, 0, none⟩), .int .i64 x7, .int .i64 x8, .int .i64 x9] [⟨g1, 166, [.int .i64 x2, .slice a4 x3.length c5, .int .i64 x6]⟩] [] [Sl (eI .u8) 1 (.slice a4 x3.length c5) x3] lostCh (Option Addr × Nat) (fun (r : (List (Int × Int) × Int × Int)) (g : (Option Addr × Nat)) => .slice g.1 r.1.length g.2) (fun (r : (List (Int × Int) × Int × Int)) (_ : (Option Addr × Nat)) => [⟨g1, 166, [.int .i64 r.2.1, .slice a4 x3.length c5, .int .i64 r.2.2]⟩]) (fun (r : (List (Int × Int) × Int × Int)) (g : (Option Addr × Nat)) => [Ro eS129 129 2 (.slice g.1 r.1.length g.2) r.1]) (fun (z : (Int × Int)) => [⟨g1, 166, [.int .i64 z.1, .slice a4 x3.length c5, .int .i64 z.2]⟩]) r := by
 refine qcv Tryz.func124 rfl Tryz.ntmps124 rfl hm (fun w => ?_)
 refine au [27,8,2,4,5,0,1,2,4,3,3,3,26,9] ?_
 intro h10
 refine qhn rfl rfl rfl rfl h10 (zS ent121 rfl rfl rfl (fun x11 e11 => kn F g1 x2 x3 a4 c5 x6 (iquo .i64 x9 x8) x11 e11) (.cons 0 rfl .nil) .nil (.consF 0 rfl .nil) (fun x12 _ => ?_) (fun x11 e11 => ?_))
 exact az [25,4,26,5]
 intro _
 refine qoI qbO (by decide) rfl UnF.u inferInstance rfl rfl rfl rfl rfl rfl ?_
 intro x13 e13 a14 c15
 refine au [5,0,1,2,4,3,5,0,1] ?_
 refine qe (fun (((x136, x137, x138), _) : ((List (Int × Int) × Int × Int) × Unit)) => ([(9, .slice a14 x136.length c15)], [⟨g1, 166, [.int .i64 x137, .slice a4 x3.length c5, .int .i64 x138]⟩], [Ro eS129 129 2 (.slice a14 x136.length c15) x136], [Sl (eI .u8) 1 (.slice a4 x3.length c5) x3], vM F x136 x137 x138)) ?_ ?_
 refine au [2,4,3,23,3,0,1,15] ?_
 refine qk (fun (((x177, x178, x179, x180, x181), _) : ((List (Int × Int) × Int × Int × Int × Int) × Unit)) => ([(0, .pointer (some ⟨g1, 0, none⟩)), (2, .int .i64 x8), (3, .int .i64 x9), (9, .slice a14 x177.length c15), (10, .int .i64 x178), (21, .int .i64 (x13.length : Int)), (22, .int .i64 x179)], [⟨g1, 166, [.int .i64 x180, .slice a4 x3.length c5, .int .i64 x181]⟩], [Ro eS129 129 2 (.slice a14 x177.length c15) x177], [Sl (eI .u8) 1 (.slice a4 x3.length c5) x3])) (fun k (s : ((List (Int × Int) × Int × Int × Int × Int) × Unit)) => qV F x3 x8 x9 x13 k s.1) ((x13, x7, 0, x11.2.1, x11.2.2), ()) F ?_
 intro k220
 rintro ⟨⟨x177, x178, x179, x180, x181⟩, _⟩
 try dsimp only
 refine qz (m' := kX F x3 x8 x9 x13 (qV F x3 x8 x9 x13 k220) x177 x178 x179 x180 x181) rfl ?_
 refine av [2,4,24,2,0,1,2,9] ?_ ?_
 intro _
 refine au [12,1,2,15,2,4,3,5,0,1,2,4,3] ?_
 refine zS ent121 rfl rfl rfl (fun x240 e240 => kn F g1 x180 x3 a4 c5 x181 2097152 x240 e240) (.cons 0 rfl .nil) .nil (.consF 0 rfl .nil) (fun x241 _ => ?_) (fun x240 e240 => ?_)
 exact az [25,4,27,2,25,4,25,4,27,2,25,4,26,5]
 intro _
 refine au [5,0,1] ?_
 refine qe (fun ((x244, _) : (Int × Unit)) => ([(0, .pointer (some ⟨g1, 0, none⟩)), (2, .int .i64 x8), (3, .int .i64 x9), (9, .slice a14 x177.length c15), (10, .int .i64 x244), (11, .int .i64 x179), (21, .int .i64 (x13.length : Int)), (22, .int .i64 x179)], [⟨g1, 166, [.int .i64 x240.2.1, .slice a4 x3.length c5, .int .i64 x240.2.2]⟩], [Ro eS129 129 2 (.slice a14 x177.length c15) x177], [Sl (eI .u8) 1 (.slice a4 x3.length c5) x3], kj F (qV F x3 x8 x9 x13 k220) x3 x8 x9 x177 x179 x240 x244)) ?_ ?_
 refine av [2,4,3,25,2,0,1,9] ?_ ?_
 intro _
 refine au [4,3,3,24,14,30,11] ?_
 intro x256 e256 _
 refine au [16,5,0] ?_
 exact qa (iadd .i64 x178 x256, ())
 intro _
 refine au [4,3,3,16,16,5,0] ?_
 exact qa (iadd .i64 x178 (iadd .i64 x240.1 2), ())
 rintro ⟨x244, _⟩
 try dsimp only
 refine au [2,4,3,3,3,3,3] ?_
 refine zS ent121 rfl rfl rfl (fun x245 e245 => kn F g1 x240.2.1 x3 a4 c5 x240.2.2 x9 x245 e245) (.cons 0 rfl .nil) .nil (.consF 0 rfl .nil) (fun x246 _ => ?_) (fun x245 e245 => ?_)
 exact az [25,4,27,2,25,4,25,4,27,2,25,4,26,5]
 intro _
 refine au [3,16] ?_
 refine qj (cells := [.int .i64 x244, .int .i64 (iadd .i64 x245.1 x8)]) rfl st129 rfl (by kernel_rfl) rfl ?_
 refine au [30,2] ?_
 intro x247 e247 g248 h249
 refine qdj (j := 0) (y' := (x244, iadd .i64 x245.1 x8)) qbO rfl rfl rfl tf129 rfl h249 (zF e247).2.1 rfl (fun x250 e250 h251 => ?_)
 have h252 : x250.length = x177.length := by rw [← e250, List.length_set]
 refine qd (d := 9) (v := .slice a14 x250.length c15) rfl h251 (qd (d := 38) (v := .slice a14 x250.length c15) rfl h251 ?_)
 refine au [0,1,4,3,3,3,30,2] ?_
 intro x253 e253 g254 h255
 refine au [13] ?_
 refine qju (j := 0) (y := x253) (off := 1) qbO rfl rfl tf3 rfl h255 (zF e253).2.2 rfl (fun _ => rfl) rfl rfl ?_
 refine au [24,15,16,5,0,24,4,1,4,16,3,0] ?_
 exact qi ((x250, iadd .i64 x244 (isub .i64 x253.2 1), iadd .i64 x179 1, x245.2.1, x245.2.2), ())
 intro _
 refine au [24,8,18,18,24,9] ?_
 exact qa ((x177, x180, x181), ())
 rintro ⟨⟨x136, x137, x138⟩, _⟩
 try dsimp only
 refine au [2,4,3,5,0,1,8] ?_
 exact qaz (a14, c15) (.inl rfl) (res1 rfl rfl) rfl (.cons 0 rfl .nil) (.cons 0 rfl .nil)
set_option maxHeartbeats 4000000 in
theorem qch {F : Nat} {x1 : List Int} {a2 : Option Addr} {c3 : Nat} {x4 : Int} {r : List Int} (hm : yl F x1 c3 x4 = some r) :
    PureM Tryz.prog 144 [.slice a2 x1.length c3, .int .i64 x4] [] [Ro (eI .i64) 3 1 (.slice a2 x1.length c3) x1] [] (Option Addr × Nat) (fun g => .slice g.1 r.length g.2) (fun _ => []) (fun g => [Ro (eI .i64) 3 1 (.slice g.1 r.length g.2) r]) := by
 refine zp Tryz.func144 rfl Tryz.ntmps144 rfl hm (fun w => ?_)
 refine av [24,12,2,4,5,0,1,2,2,4,3,24,2,0,1,9] ?_ ?_
 intro _
 exact az [32,13]
 intro _
 refine au [12,1] ?_
 refine qe (fun ((x15, (a13, c14)) : (List Int × (Option Addr × Nat))) => ([(0, .slice a13 x15.length c14)], [], [Ro (eI .i64) 3 1 (.slice a13 x15.length c14) x15], [], yN F x15)) ?_ ?_
 refine au [2,4,3,3,32,14,3,23,24,15,24,15,5,26,6] ?_
 intro x16 e16
 refine qd (d := 1) (v := .int .i64 x16) rfl (by rw [e16] <;> rfl) ?_
 refine av [0,1,2,4,3,24,13,0,1,9] ?_ ?_
 intro _
 refine au [4,3,3,32,14,32,15] ?_
 intro x17 e17
 refine au [3] ?_
 refine qni (y := (0 : Int)) 0 (qr .i64) rfl UnF.u UnF.u inferInstance rfl rfl rfl rfl rfl rfl rfl rfl rfl ?_
 intro x18 e18 a19 c20
 refine au [3,23,32,15] ?_
 intro x21 e21
 refine au [5,0] ?_
 exact qa (x21, (a19, c20))
 intro _
 refine au [12] ?_
 exact qa (x1, (a2, c3))
 rintro ⟨x15, ⟨a13, c14⟩⟩
 try dsimp only
 refine au [2,4,3,5,0,1,8] ?_
 exact zl (a13, c14)
set_option maxHeartbeats 4000000 in
theorem qbK {F : Nat} {x1 : List (List Int)} {a2 : Option Addr} {c3 : Nat} {s3 : List (Option Addr × Nat)} {r : List Int} (hm : zd F x1 = some r) :
    Pure Tryz.prog 127 [.slice a2 x1.length c3] [SlN eN59 iN59 1 (.slice a2 x1.length c3) x1 s3] (Option Addr × Nat) (fun g => .slice g.1 r.length g.2) (fun g => [Ro (eI .i64) 3 1 (.slice g.1 r.length g.2) r]) (fun _ => []) := by
 refine qh Tryz.func127 rfl Tryz.ntmps127 rfl hm (fun w => ?_)
 refine au [25,5,2,4,5,0,1,2,4,5,0,1] ?_
 refine qe (fun ((x43, _) : (Int × Unit)) => ([(0, .slice a2 x1.length c3), (3, .int .i64 x43)], [], [], [SlN eN59 iN59 1 (.slice a2 x1.length c3) x1 s3], zD F x1 x43)) ?_ ?_
 refine au [2,4,3,23,3,0,1,15] ?_
 refine qk (fun (((x168, x169), _) : ((Int × Int) × Unit)) => ([(0, .slice a2 x1.length c3), (3, .int .i64 x168), (9, .slice a2 x1.length c3), (10, .int .i64 (x1.length : Int)), (11, .int .i64 x169)], [], [], [SlN eN59 iN59 1 (.slice a2 x1.length c3) x1 s3])) (fun k (s : ((Int × Int) × Unit)) => qx F x1 k s.1) ((0, 0), ()) F ?_
 intro k182
 rintro ⟨⟨x168, x169⟩, _⟩
 try dsimp only
 refine qz (m' := qp F x1 (qx F x1 k182) x168 x169) rfl ?_
 refine av [2,4,24,2,0,1,2,9] ?_ ?_
 intro _
 refine au [12,1,2,15,2,4,27,3] ?_
 intro x189 e189 g192 b190 o191
 refine av [25,9,5,0,1,2,4,3,3,23,16,5,0,1,2,4,3,24,2,0,1,9] ?_ ?_
 intro _
 exact az [32,13]
 intro _
 refine au [12,24,4,1,4,16,3,0] ?_
 exact qi ((iadd .i64 x168 (x189.length : Int), iadd .i64 x169 1), ())
 intro _
 refine au [24,8,18,18,24,9] ?_
 exact qa (x168, ())
 rintro ⟨x43, _⟩
 try dsimp only
 refine au [2,4,3,27,1] ?_
 refine qT qch ?_
 rintro x44 e44 ⟨a45, c46⟩
 refine au [5,0,1] ?_
 refine qe (fun ((x102, (a100, c101)) : (List Int × (Option Addr × Nat))) => ([(6, .slice a100 x102.length c101)], [], [Ro (eI .i64) 3 1 (.slice a100 x102.length c101) x102], [], yf F x102)) ?_ ?_
 refine au [2,4,3,23,3,0,1,15] ?_
 refine qk (fun (((x121, x122), (a119, c120)) : ((List Int × Int) × (Option Addr × Nat))) => ([(6, .slice a119 x121.length c120), (25, .slice a2 x1.length c3), (26, .int .i64 (x1.length : Int)), (27, .int .i64 x122)], [], [Ro (eI .i64) 3 1 (.slice a119 x121.length c120) x121], [SlN eN59 iN59 1 (.slice a2 x1.length c3) x1 s3])) (fun k (s : ((List Int × Int) × (Option Addr × Nat))) => qw F x1 k s.1) ((x44, 0), (a45, c46)) F ?_
 intro k139
 rintro ⟨⟨x121, x122⟩, ⟨a119, c120⟩⟩
 try dsimp only
 refine qz (m' := qo F x1 (qw F x1 k139) x121 x122) rfl ?_
 refine av [2,4,24,2,0,1,2,9] ?_ ?_
 intro _
 refine au [12,1,2,15,2,4,27,3] ?_
 intro x148 e148 g151 b149 o150
 refine au [25,9,5,0,1,4,3,3] ?_
 refine zW 0 (qr .i64) rfl UnF.u inferInstance rfl rfl rfl rfl rfl (.inr ⟨1, rfl⟩) rfl rfl ?_
 intro x152 e152 a153 c154
 refine au [5,0,24,4,1,4,16,3,0] ?_
 exact qi ((x152, iadd .i64 x122 1), (a153, c154))
 intro _
 refine au [24,8,18,18,24,9] ?_
 exact qa (x121, (a119, c120))
 rintro ⟨x102, ⟨a100, c101⟩⟩
 try dsimp only
 refine au [2,4,3,5,0,1,8] ?_
 exact qn (a100, c101)
theorem qci {F : Nat} {x1 : List Int} {a2 : Option Addr} {c3 : Nat} {r : List Int} (hm : q8 F x1 = some r) :
    PureM Tryz.prog 128 [.slice a2 x1.length c3] [] [Ro (eI .i64) 3 1 (.slice a2 x1.length c3) x1] [] Unit (fun _ => .tuple #[]) (fun _ => []) (fun _ => [Ro (eI .i64) 3 1 (.slice a2 r.length c3) r]) := by
  unfold q8 at hm
  split at hm
  · cases hm
    exact qjm Tryz.slices_Sort_int Tryz.slices_Sort_int_none (by assumption)
  · simp at hm
theorem qfy {F : Nat} {x1 : Int} {x2 : Int} {x3 : Int} {r : Bool} (hm : jI F x1 x2 x3 = some r) :
    Pure Tryz.prog 151 [.int .i64 x1, .int .i64 x2, .int .i64 x3] [] Unit (fun _ => .bool r) (fun _ => []) (fun _ => []) := by
 refine qh Tryz.func151 rfl Tryz.ntmps151 rfl hm (fun w => ?_)
 refine au [25,12,2,4,5,0,1,2,4,3,3,26,0,3] ?_
 refine qN 4 (decide (x2 ≤ x1)) [(14, .bool ((decide (x2 ≤ x1)) && (decide (x1 ≤ x3))))] (fun h4 => ?_) (fun h4 => ?_) ?_
 refine qc (os := _) rfl (qE (k := 10) rfl h4 ?_)
 refine au [3,3,27,4,24,10] ?_
 refine qd (d := 14) (v := .bool ((decide (x2 ≤ x1)) && (decide (x1 ≤ x3)))) rfl (by rw [h4]; simp only [Bool.true_and]) ?_
 exact az [0,24,3]
 refine qc (os := _) rfl (qD (k := 10) rfl h4 ?_)
 refine au [10,10,10,24,11] ?_
 refine qd (d := 14) (v := .bool ((decide (x2 ≤ x1)) && (decide (x1 ≤ x3)))) rfl (by rw [h4]; simp only [Bool.false_and]) ?_
 exact az [0,24,3]
 refine qc (os := _) rfl ?_
 exact az [5,0,1,8,17]
set_option maxHeartbeats 4000000 in
theorem qfx {F : Nat} {x1 : List (Int × Int)} {a2 : Option Addr} {c3 : Nat} {r : (List Int × Int)} (hm : qaM F x1 = some r) :
    Pure Tryz.prog 140 [.slice a2 x1.length c3] [Sl eS129 2 (.slice a2 x1.length c3) x1] (Option Addr × Nat) (fun g => .tuple #[.slice g.1 r.1.length g.2, .int .i64 r.2]) (fun g => [Ro (eI .i64) 3 1 (.slice g.1 r.1.length g.2) r.1]) (fun _ => []) := by
 refine qh Tryz.func140 rfl Tryz.ntmps140 rfl hm (fun w => ?_)
 refine av [25,5,2,4,5,5,0,1,2,2,4,3,23,24,13,0,1,9] ?_ ?_
 intro _
 refine au [2,4,5,5,0,1,8,11,25,10] ?_
 exact qn (none, 0)
 intro _
 refine au [12,1,2,4,5,0,1] ?_
 refine qe (fun ((_, _) : (Unit × Unit)) => ([(0, .slice a2 x1.length c3)], [], [], [Sl eS129 2 (.slice a2 x1.length c3) x1], jb F x1)) ?_ ?_
 refine au [2,4,3,23,3,0,1,15] ?_
 refine qk (fun (((x807, x808), _) : ((Int × Int) × Unit)) => ([(0, .slice a2 x1.length c3), (4, .int .i64 x807), (14, .slice a2 x1.length c3), (15, .int .i64 (x1.length : Int)), (16, .int .i64 x808)], [], [], [Sl eS129 2 (.slice a2 x1.length c3) x1])) (fun k (s : ((Int × Int) × Unit)) => kd F x1 k s.1) ((-2, 0), ()) F ?_
 intro k863
 rintro ⟨⟨x807, x808⟩, _⟩
 try dsimp only
 refine qz (m' := ja F x1 (kd F x1 k863) x807 x808) rfl ?_
 refine av [2,4,24,2,0,1,2,9] ?_ ?_
 intro _
 refine au [12,1,2,15,2,4,29,10] ?_
 intro x891 e891 b892 o893
 refine au [29,11,24,6] ?_
 intro g894
 refine au [24,0,0,1,2,15] ?_
 refine qe (fun ((x910, _) : (Bool × Unit)) => ([(0, .slice a2 x1.length c3), (4, .int .i64 x807), (6, .pointer (some ⟨g894, 0, none⟩)), (14, .slice a2 x1.length c3), (15, .int .i64 (x1.length : Int)), (16, .int .i64 x808), (20, .bool x910)], [⟨g894, 129, [.int .i64 x891.1, .int .i64 x891.2]⟩], [], [Sl eS129 2 (.slice a2 x1.length c3) x1], yF F (kd F x1 k863) x807 x808 x891 x910)) ?_ ?_
 refine au [2,4,13,21,33,0] ?_
 intro x913 e913 _
 refine av [25,1,5,0,1,9] ?_ ?_
 intro _
 refine au [12] ?_
 exact qa ((!x913), ())
 intro _
 refine au [2,4,13,21,33,0] ?_
 intro x914 e914 _
 refine av [25,1,5,0,1,9] ?_ ?_
 intro _
 refine au [12] ?_
 exact qa ((!x914), ())
 intro _
 refine au [4,13,21,13,21,16,24,15,24,13,5,0] ?_
 exact qa ((decide (1048576 < (isub .i64 (iadd .i64 x891.1 x891.2) 1))), ())
 rintro ⟨x910, _⟩
 try dsimp only
 refine av [9] ?_ ?_
 intro _
 refine au [2,4,5,5,0,1,8,22,11,22,11,11,22,11,25,10] ?_
 exact qn (none, 0)
 intro _
 refine av [2,4,13,21,3,16,24,2,5,0,1,9] ?_ ?_
 intro _
 refine au [2,4,5,5,0,1,8,22,11,22,11,11,22,11,25,10] ?_
 exact qn (none, 0)
 intro _
 refine au [12,24,4,1,4,13,21,13,21,16,24,15,5,0,24,4,1,4,16,3,0] ?_
 exact qi ((isub .i64 (iadd .i64 x891.1 x891.2) 1, iadd .i64 x808 1), ())
 intro _
 exact az [24,8,18,18,24,9,25,13]
 rintro ⟨_, _⟩
 try dsimp only
 refine au [2,4,5,0,1] ?_
 refine qe (fun ((x462, (a460, c461)) : (List Int × (Option Addr × Nat))) => ([(7, .slice a460 x462.length c461)], [], [Ro (eI .i64) 3 1 (.slice a460 x462.length c461) x462], [], qbw F x462)) ?_ ?_
 refine au [2,4,3,23,3,0,1,15,27,6] ?_
 refine qk (fun (((x560, x561), (a558, c559)) : ((List Int × Int) × (Option Addr × Nat))) => ([(7, .slice a558 x560.length c559), (49, .slice a2 x1.length c3), (50, .int .i64 (x1.length : Int)), (51, .int .i64 x561)], [], [Ro (eI .i64) 3 1 (.slice a558 x560.length c559) x560], [Sl eS129 2 (.slice a2 x1.length c3) x1])) (fun k (s : ((List Int × Int) × (Option Addr × Nat))) => qU F x1 k s.1) ((([] : List Int), 0), (none, 0)) F ?_
 intro k657
 rintro ⟨⟨x560, x561⟩, ⟨a558, c559⟩⟩
 try dsimp only
 refine qz (m' := v7 F x1 (qU F x1 k657) x560 x561) rfl ?_
 refine av [2,4,24,2,0,1,2,9] ?_ ?_
 intro _
 refine au [12,1] ?_
 refine qe (fun ((x706, (a704, c705)) : (List Int × (Option Addr × Nat))) => ([(7, .slice a704 x706.length c705), (49, .slice a2 x1.length c3), (50, .int .i64 (x1.length : Int)), (51, .int .i64 x561)], [], [Ro (eI .i64) 3 1 (.slice a704 x706.length c705) x706], [Sl eS129 2 (.slice a2 x1.length c3) x1], jc F (qU F x1 k657) x561 x706)) ?_ ?_
 refine au [15,2,4,29,10] ?_
 intro x707 e707 b708 o709
 refine au [29,11,24,6] ?_
 intro g710
 refine au [24,0,0,1,2,4,13,21,3,0,1,15] ?_
 refine qk (fun (((x725, x726), (a723, c724)) : ((List Int × Int) × (Option Addr × Nat))) => ([(7, .slice a723 x725.length c724), (9, .pointer (some ⟨g710, 0, none⟩)), (49, .slice a2 x1.length c3), (50, .int .i64 (x1.length : Int)), (51, .int .i64 x561), (56, .int .i64 x707.2), (57, .int .i64 x726)], [⟨g710, 129, [.int .i64 x707.1, .int .i64 x707.2]⟩], [Ro (eI .i64) 3 1 (.slice a723 x725.length c724) x725], [Sl eS129 2 (.slice a2 x1.length c3) x1])) (fun k (s : ((List Int × Int) × (Option Addr × Nat))) => kM F (qU F x1 k657) x561 x707 k s.1) ((x560, 0), (a558, c559)) F ?_
 intro k739
 rintro ⟨⟨x725, x726⟩, ⟨a723, c724⟩⟩
 try dsimp only
 refine qz (m' := v8 F (qU F x1 k657) x561 x707 (kM F (qU F x1 k657) x561 x707 k739) x725 x726) rfl ?_
 refine av [2,4,24,2,0,1,2,9] ?_ ?_
 intro _
 refine au [12,1,2,15,2,4,3,5,0,1,4,3,13,21,3,16] ?_
 refine qu (vs := [.int .i64 (iadd .i64 x707.1 x726)]) (ys := ([iadd .i64 x707.1 x726] : List Int)) (qr .i64) (by decide) rfl Tryz.underlying59 tf3 rfl rfl rfl rfl rfl (by decide) (fun a746 c747 => zW 1 (qr .i64) rfl Tryz.underlying59 tf3 rfl rfl rfl rfl rfl (.inl ⟨0, _, rfl⟩) rfl rfl (fun x748 e748 a749 c750 => ?_))
 refine au [5,0,24,4,1,4,16,3,0] ?_
 exact qi ((x748, iadd .i64 x726 1), (a749, c750))
 intro _
 refine au [24,8,18,18,24,9,24,4] ?_
 exact qa (x725, (a723, c724))
 rintro ⟨x706, ⟨a704, c705⟩⟩
 try dsimp only
 refine au [4,16,3,0] ?_
 exact qi ((x706, iadd .i64 x561 1), (a704, c705))
 intro _
 refine au [24,8,18,18,24,9] ?_
 exact qa (x560, (a558, c559))
 rintro ⟨x462, ⟨a460, c461⟩⟩
 try dsimp only
 refine au [2,4,3,5,5,0,1,8] ?_
 exact qn (a460, c461)
theorem qbC {F : Nat} {x1 : List Int} {a2 : Option Addr} {c3 : Nat} {r : List Int} (hm : zL F x1 = some r) :
    PureM Tryz.prog 141 [.slice a2 x1.length c3] [] [Ro (eI .i64) 3 1 (.slice a2 x1.length c3) x1] [] (Option Addr × Nat) (fun g => .slice g.1 r.length g.2) (fun _ => []) (fun g => [Ro (eI .i64) 3 1 (.slice g.1 r.length g.2) r]) := by
  unfold zL at hm
  split at hm
  · cases hm
    exact qfB Tryz.slices_Compact_int Tryz.slices_Compact_int_empty (by assumption)
  · simp at hm
theorem qbV {F : Nat} {x1 : List Int} {a2 : Option Addr} {c3 : Nat} {r : List Int} (hm : kW F x1 = some r) :
    Pure Tryz.prog 142 [.slice a2 x1.length c3] [Sl (eI .i64) 1 (.slice a2 x1.length c3) x1] (Option Addr × Nat) (fun g => .slice g.1 r.length g.2) (fun g => [Ro (eI .i64) 3 1 (.slice g.1 r.length g.2) r]) (fun _ => []) := by
 refine qh Tryz.func142 rfl Tryz.ntmps142 rfl hm (fun w => ?_)
 refine av [25,5,2,4,5,0,1,2,2,4,3,31,1,0,1,31,2] ?_ ?_
 intro h11
 refine qiH 0 (qr .i64) (by decide) rfl h11 (fun h12 => ?_)
 subst h12
 refine qz (m' := some ([] : List Int)) rfl ?_
 refine au [2,4,5,0,1,8,11,25,10] ?_
 exact qn (none, 0)
 intro _
 refine au [12,1,2,4] ?_
 refine qu (vs := []) (ys := ([] : List Int)) (qr .i64) (by decide) rfl UnF.u inferInstance rfl rfl rfl rfl rfl (by decide) ?_
 intro a6 c7
 refine au [3,30,1] ?_
 intro x8 e8 a9 c10
 refine au [5,0,1,8] ?_
 exact qn (a9, c10)
set_option maxHeartbeats 4000000 in
theorem qgy {F : Nat} {x1 : List (Int × Int)} {a2 : Option Addr} {c3 : Nat} {x4 : List Int} {a5 : Option Addr} {c6 : Nat} {r : (List Int × Int)} (hm : qa1 F x1 x4 = some r) :
    Pure Tryz.prog 125 [.slice a2 x1.length c3, .slice a5 x4.length c6] [Sl eS129 2 (.slice a2 x1.length c3) x1, Sl (eI .i64) 1 (.slice a5 x4.length c6) x4] (Option Addr × Nat) (fun g => .tuple #[.slice g.1 r.1.length g.2, .int .i64 r.2]) (fun g => [Ro (eI .i64) 3 1 (.slice g.1 r.1.length g.2) r.1]) (fun _ => []) := by
 refine qh Tryz.func125 rfl Tryz.ntmps125 rfl hm (fun w => ?_)
 refine au [24,12,2,4,5,5,0,1,2,4,3] ?_
 refine qg qfx ?_
 rintro x7 e7 ⟨a8, c9⟩
 refine au [3,14,14,5,5,0,1] ?_
 refine qe (fun ((x12, _) : (Int × Unit)) => ([(1, .slice a5 x4.length c6), (6, .slice a8 x7.1.length c9), (7, .int .i64 x12)], [], [Ro (eI .i64) 3 1 (.slice a8 x7.1.length c9) x7.1], [Sl (eI .i64) 1 (.slice a5 x4.length c6) x4], vA F x4 x7 x12)) ?_ ?_
 refine av [2,4,3,25,2,0,1,9] ?_ ?_
 intro _
 refine au [4,3,28,6] ?_
 intro x38 e38 _
 refine au [5,0] ?_
 exact qa (x38, ())
 intro _
 refine au [12] ?_
 exact qa (x7.2, ())
 rintro ⟨x12, _⟩
 try dsimp only
 refine av [2,2,4,3,25,3,0,1,9] ?_ ?_
 intro _
 refine au [2,4,3,5,5,0,1,8,11,25,10] ?_
 exact qn (none, 0)
 intro _
 refine au [12,1,2,4,3,3,28,8] ?_
 refine qu (vs := [.slice a8 x7.1.length c9, .slice a5 x4.length c6]) (ys := ([(x7.1, (a8, c9)), (x4, (a5, c6))] : List (List Int × (Option Addr × Nat)))) vu (by decide) rfl Tryz.underlying22 tf59 rfl rfl rfl rfl rfl (by decide) (fun a14 c15 => qcM (inn := iN59) ([x7.1, x4] : List (List Int)) ([(a8, c9), (a5, c6)] : List (Option Addr × Nat)) 0 rfl rfl (qB 0 rfl (qB 1 rfl js)) ?_)
 refine au [33,1] ?_
 rintro x16 e16 ⟨a17, c18⟩
 refine au [5,0,1,2,4,3,33,2] ?_
 intro x19 e19 _
 refine au [26,9] ?_
 intro h20
 replace h20 := of_decide_eq_true h20
 refine qd (d := 8) (v := .slice a17 x19.length c18) rfl (by rw [h20] <;> rfl) (qd (d := 24) (v := .slice a17 x19.length c18) rfl (by rw [h20] <;> rfl) (qd (d := 25) (v := .slice a17 x19.length c18) rfl (by rw [h20] <;> rfl) ?_))
 refine au [0,1,2,15,2,4,3] ?_
 refine qg qbV ?_
 rintro x29 e29 ⟨a30, c31⟩
 refine qT qbC ?_
 rintro x32 e32 ⟨a33, c34⟩
 refine av [23,3,23,24,2,5,0,1,9] ?_ ?_
 intro _
 refine au [2,4,5,5,0,1,8,22,11,25,10] ?_
 exact qn (none, 0)
 intro _
 refine av [2,4,3,23,24,13,5,0,1,9] ?_ ?_
 intro _
 refine au [2,4,5,5,0,1,8,22,11,25,10] ?_
 exact qn (none, 0)
 intro _
 refine au [12,24,4,1,2,4,3,5,5,0,1,8] ?_
 exact qn (a17, c18)
set_option maxHeartbeats 4000000 in
theorem qcZ {F : Nat} {x1 : Int} {x2 : List Int} {a3 : Option Addr} {c4 : Nat} {x5 : Int} {x6 : Int} {r : (Int × Int × Bool)} (hm : qX F x1 x2 x5 x6 = some r) :
    Pure Tryz.prog 152 [.agg #[.int .i64 x1, .slice a3 x2.length c4], .int .i64 x5, .int .u64 x6] [Sl (eI .u8) 1 (.slice a3 x2.length c4) x2] Unit (fun _ => .tuple #[.int .u64 r.1, .int .i64 r.2.1, .bool r.2.2]) (fun _ => []) (fun _ => []) := by
 refine qh Tryz.func152 rfl Tryz.ntmps152 rfl hm (fun w => ?_)
 refine au [25,12,2,4,24,5] ?_
 intro g7
 refine au [5,5,5,0,1,2,4,3,32,6] ?_
 intro x8 e8 _
 refine au [3,14,14,5,5,0,1] ?_
 refine qe (fun ((_, _) : (Unit × Unit)) => ([(1, .int .i64 x5), (3, .pointer (some ⟨g7, 0, none⟩)), (9, .int .i64 x8.1), (10, .int .u64 x8.2)], [⟨g7, 65, [.int .i64 x1, .slice a3 x2.length c4]⟩], [], [Sl (eI .u8) 1 (.slice a3 x2.length c4) x2], q6 F x1 x2 x5 x8)) ?_ ?_
 refine av [2,4,3,24,13,0,1,9] ?_ ?_
 intro _
 refine au [2,4,25,0,3,3,24,15,30,0] ?_
 intro x15 e15 _
 refine av [3,14,14,5,5,0,1,2,2,4,3,25,1,0,1,9] ?_ ?_
 intro _
 exact az [2,4,5,5,5,0,1,8,11,11,17]
 intro _
 refine av [12,1,2,4,3,3,24,2,0,1,9] ?_ ?_
 intro _
 exact az [2,4,3,3,3,16,24,15,5,5,5,0,1,8,11,17]
 intro _
 exact az [12,25,13]
 intro _
 exact az [12,25,13]
 rintro ⟨_, _⟩
 try dsimp only
 refine au [2,4,25,0,3,3,30,0] ?_
 intro x14 e14 _
 exact az [3,14,14,5,5,0,1,2,4,3,3,24,15,3,3,16,3,5,5,5,0,1,8,17]
theorem qeH {F : Nat} {x1 : Int} {x2 : Int} {x3 : Bool} {r : (Int × Int × Int)} (hm : qaa F x1 x2 x3 = some r) :
    Pure Tryz.prog 153 [.int .u64 x1, .int .i64 x2, .bool x3] [] Unit (fun _ => .tuple #[.int .u64 r.1, .int .i64 r.2.1, .int .i64 r.2.2]) (fun _ => []) (fun _ => []) := by
 refine qh Tryz.func153 rfl Tryz.ntmps153 rfl hm (fun w => ?_)
 refine av [25,12,2,4,5,5,5,0,1,2,15,2,4,3,25,1,5,0,1,9] ?_ ?_
 intro _
 exact az [2,4,5,5,5,0,1,8,22,11,17]
 intro _
 refine av [2,4,3,24,13,5,0,1,9] ?_ ?_
 intro _
 exact az [2,4,5,5,5,0,1,8,22,11,17]
 intro _
 exact az [12,24,4,1,2,4,3,3,5,5,5,0,1,8,17]
set_option maxHeartbeats 4000000 in
theorem qdp {F : Nat} {x1 : Int} {x2 : List Int} {a3 : Option Addr} {c4 : Nat} {x5 : Int} {x6 : Int} {r : (Int × Int × Int)} (hm : vP F x1 x2 x5 x6 = some r) :
    Pure Tryz.prog 143 [.agg #[.int .i64 x1, .slice a3 x2.length c4], .int .i64 x5, .int .i64 x6] [Sl (eI .u8) 1 (.slice a3 x2.length c4) x2] Unit (fun _ => .tuple #[.int .u64 r.1, .int .i64 r.2.1, .int .i64 r.2.2]) (fun _ => []) (fun _ => []) := by
 refine qh Tryz.func143 rfl Tryz.ntmps143 rfl hm (fun w => ?_)
 refine au [25,12,2,4,24,5] ?_
 intro g7
 refine au [5,5,5,0,1,2,4,25,0,3,32,11] ?_
 intro x8 e8 _
 refine av [3,14,14,14,5,5,5,0,1,2,2,4,3,25,1,0,1,9] ?_ ?_
 intro _
 exact az [2,4,5,5,5,0,1,8,11,17]
 intro _
 refine av [12,1,2,2,4,3,3,24,14,28,15,26,0,0,1,9] ?_ ?_
 intro _
 exact az [2,4,5,5,5,0,1,8,11,17]
 intro _
 refine au [12,1,2,4,3,24,14,3,28,15,26,9] ?_
 intro h11
 refine qdP rfl rfl rfl rfl h11 ?_
 refine au [5,26,6] ?_
 intro x12 e12
 refine qd (d := 12) (v := .int .u64 x12) rfl (by rw [e12] <;> rfl) ?_
 refine au [0,1,2,27,10] ?_
 intro h17
 refine qq mixed [] [⟨g7, 65, [.int .i64 x1, .slice a3 x2.length c4]⟩] [Sl (eI .u8) 1 (.slice a3 x2.length c4) x2] (.cons 0 rfl .nil) (qF 0 rfl qm) 15 rfl (zG 0 (.agg #[.int .i64 x1, .slice a3 x2.length c4]) rfl rfl rfl (qZ (i := 0) rfl tf65 rfl rfl (by simp) rfl) ?_)
 refine au [6,1,6,2,6,3] ?_
 refine qv 4 (.int .u64 (ishl .u64 x12 x6)) rfl rfl rfl (qei rfl rfl h17) ?_
 refine au [6,5,6,6,20,7] ?_
 refine qg qcZ ?_
 intro x20 e20 _
 refine au [0,26,10,6,8,6,9,6,10,6,11,6,12,6,13,6,14,24,1] ?_
 refine qt ?_ (by intro c h; cases h)
 refine au [1,2,4,3,3,16,24,15,3,3] ?_
 refine qg qeH ?_
 intro x21 e21 _
 exact az [14,14,14,5,5,5,0,1,8,17]
set_option maxHeartbeats 4000000 in
theorem qhE {F : Nat} {x1 : Int} {x2 : List Int} {a3 : Option Addr} {c4 : Nat} {x5 : Int} {x6 : Int} {x7 : Int} {x8 : Int} {r : (List Int × Int × Int)} (hm : qbq F x1 x2 x5 x6 x7 x8 = some r) :
    Pure Tryz.prog 126 [.agg #[.int .i64 x1, .slice a3 x2.length c4], .int .i64 x5, .int .i64 x6, .int .i64 x7, .int .i64 x8] [Sl (eI .u8) 1 (.slice a3 x2.length c4) x2] (Option Addr × Nat) (fun g => .tuple #[.slice g.1 r.1.length g.2, .int .i64 r.2.1, .int .i64 r.2.2]) (fun g => [Ro (eI .i64) 3 1 (.slice g.1 r.1.length g.2) r.1]) (fun _ => []) := by
 refine qh Tryz.func126 rfl Tryz.ntmps126 rfl hm (fun w => ?_)
 refine au [29,12,2,4,24,5] ?_
 intro g9
 refine au [5,5,5,0,1,2,4,3] ?_
 refine qj (cells := [.int .i64 x6, .bool false]) rfl st101 rfl (by kernel_rfl) rfl ?_
 refine au [24,5] ?_
 intro g10
 refine au [5,0,1] ?_
 refine qe (fun (((x105, x108), (a106, c107)) : ((Int × List Int) × (Option Addr × Nat))) => ([(1, .int .i64 x105), (10, .slice a106 x108.length c107)], [], [Ro (eI .i64) 3 1 (.slice a106 x108.length c107) x108], [], qba F x105 x108)) ?_ ?_
 refine au [2,4,3,3,0,1,15,27,6] ?_
 refine qk (fun (((x138, x141, x142, x143, x144), (a139, c140)) : ((Int × List Int × Int × Int × Bool) × (Option Addr × Nat))) => ([(1, .int .i64 x138), (3, .int .i64 x7), (5, .pointer (some ⟨g9, 0, none⟩)), (10, .slice a139 x141.length c140), (13, .pointer (some ⟨g10, 0, none⟩)), (18, .int .i64 x8), (19, .int .i64 x142)], [⟨g10, 101, [.int .i64 x143, .bool x144]⟩, ⟨g9, 65, [.int .i64 x1, .slice a3 x2.length c4]⟩], [Ro (eI .i64) 3 1 (.slice a139 x141.length c140) x141], [Sl (eI .u8) 1 (.slice a3 x2.length c4) x2])) (fun k (s : ((Int × List Int × Int × Int × Bool) × (Option Addr × Nat))) => yV F x1 x2 x7 x8 k s.1) ((x5, ([] : List Int), 0, x6, false), (none, 0)) F ?_
 intro k173
 rintro ⟨⟨x138, x141, x142, x143, x144⟩, ⟨a139, c140⟩⟩
 try dsimp only
 refine qz (m' := j9 F x1 x2 x7 x8 (yV F x1 x2 x7 x8 k173) x138 x141 x142 x143 x144) rfl ?_
 refine av [2,4,24,2,0,1,2,9] ?_ ?_
 intro _
 refine au [12,1,2,15,2,4,5,0,1,2,2,4,25,8,3,3] ?_
 refine qg qdp ?_
 intro x190 e190 _
 refine av [3,14,14,14,5,5,5,0,1,2,4,3,25,3,0,1,9] ?_ ?_
 intro _
 refine au [2,4,3,5,5,5,0,1,8,11,22,11,11,22,11,25,10] ?_
 exact qn (none, 0)
 intro _
 refine au [12,1,2,2,4,3,3,30,13] ?_
 intro x193 e193 _
 refine av [25,1,0,1,9] ?_ ?_
 intro _
 refine au [2,4,5,5,5,0,1,8,11,22,11,11,22,11,25,10] ?_
 exact qn (none, 0)
 intro _
 refine au [12,1,4,3,3,24,7,13,21] ?_
 refine qu (vs := [.int .i64 x193.2.1]) (ys := ([x193.2.1] : List Int)) (qr .i64) (by decide) rfl Tryz.underlying59 tf3 rfl rfl rfl rfl rfl (by decide) (fun a194 c195 => zW 1 (qr .i64) rfl Tryz.underlying59 tf3 rfl rfl rfl rfl rfl (.inl ⟨0, _, rfl⟩) rfl rfl (fun x196 e196 a197 c198 => ?_))
 refine au [5,0,24,4,1,4,16,3,0] ?_
 exact qi ((x190.2.1, x196, iadd .i64 x142 1, x193.2.1, x193.2.2), (a197, c198))
 intro _
 refine au [24,8,18,18,24,9] ?_
 exact qa ((x138, x141), (a139, c140))
 rintro ⟨⟨x105, x108⟩, ⟨a106, c107⟩⟩
 try dsimp only
 refine au [2,4,3,3,5,5,5,0,1,8] ?_
 exact qn (a106, c107)
set_option maxHeartbeats 4000000 in
theorem qc6 (F : Nat) (g1 : Nat) (x2 : Int) (x3 : List Int) (a4 : Option Addr) (c5 : Nat) (x6 : Int) (x7 : Int) (x8 : List Int) (a9 : Option Addr) (c10 : Nat) (x11 : Int) (x12 : Int) (x13 : Int) (r : ((List Int × Int × Int) ⊕ (Int × Int))) (hm : yg F x2 x3 x6 x7 x8 x11 x12 x13 = some r) :
    PureL Tryz.prog 108 [.pointer (some ⟨g1, 0, none⟩), .int .i64 x7, .slice a9 x8.length c10, .agg #[.int .i64 x11, .int .i64 x12, .int .i64 x13]] [⟨g1, 166, [.int .i64 x2, .slice a4 x3.length c5, .int .i64 x6]⟩] [] [Sl (eI .u8) 1 (.slice a4 x3.length c5) x3, Sl (eI .i64) 1 (.slice a9 x8.length c10) x8] lostCh (Option Addr × Nat) (fun (r : (List Int × Int × Int)) (g : (Option Addr × Nat)) => .slice g.1 r.1.length g.2) (fun (r : (List Int × Int × Int)) (_ : (Option Addr × Nat)) => [⟨g1, 166, [.int .i64 r.2.1, .slice a4 x3.length c5, .int .i64 r.2.2]⟩]) (fun (r : (List Int × Int × Int)) (g : (Option Addr × Nat)) => [Ro (eI .i64) 3 1 (.slice g.1 r.1.length g.2) r.1]) (fun (z : (Int × Int)) => [⟨g1, 166, [.int .i64 z.1, .slice a4 x3.length c5, .int .i64 z.2]⟩]) r := by
 refine qcv Tryz.func108 rfl Tryz.ntmps108 rfl hm (fun w => ?_)
 refine au [27,8,2,4,24,5] ?_
 intro g14
 refine au [5,0,1,2,4,3] ?_
 refine zS ent121 rfl rfl rfl (fun x15 e15 => kn F g1 x2 x3 a4 c5 x6 300 x15 e15) (.cons 1 rfl .nil) .nil (.consF 0 rfl .nil) (fun x16 _ => ?_) (fun x15 e15 => ?_)
 exact az [25,4,26,5]
 intro _
 refine av [5,0,1,2,2,4,3,25,2,0,1,9] ?_ ?_
 intro _
 refine au [2,4,5,0,1,8,11,25,10] ?_
 exact qaz (none, 0) (.inl rfl) (res1 rfl rfl) rfl (.cons 0 rfl .nil) (.cons 0 rfl .nil)
 intro _
 refine au [12,1,2,4,5,0,1] ?_
 refine qe (fun (((x31, x32, x33), (a29, c30)) : ((List Int × Int × Int) × (Option Addr × Nat))) => ([(0, .pointer (some ⟨g1, 0, none⟩)), (1, .int .i64 x7), (7, .pointer (some ⟨g14, 0, none⟩)), (9, .int .i64 x15.1), (10, .slice a29 x31.length c30)], [⟨g1, 166, [.int .i64 x32, .slice a4 x3.length c5, .int .i64 x33]⟩, ⟨g14, 26, [.int .i64 x11, .int .i64 x12, .int .i64 x13]⟩], [Ro (eI .i64) 3 1 (.slice a29 x31.length c30) x31], [Sl (eI .u8) 1 (.slice a4 x3.length c5) x3], kw F x3 x7 x12 x13 x15 x31 x32 x33)) ?_ ?_
 refine av [2,4,13,25,11,24,13,0,1,9] ?_ ?_
 intro _
 refine au [2,4,5,0,1,2,4,3,3,3,23] ?_
 refine zS ent123 rfl rfl rfl (fun x72 e72 => qcl F g1 x15.2.1 x3 a4 c5 x15.2.2 (x8.length : Int) x72 e72) (.cons 0 rfl .nil) .nil (.consF 0 rfl .nil) (fun x73 _ => ?_) (fun x72 e72 => ?_)
 exact az [25,4,25,4,26,5]
 rintro ⟨a74, c75⟩
 refine qg qgx ?_
 rintro x76 e76 ⟨a77, c78⟩
 refine au [3,14,14,5,5,0,1,4,3,25,2,3] ?_
 refine qN 5 ((x76.2 : Int) == 0) [(0, .pointer (some ⟨g1, 0, none⟩)), (1, .int .i64 x7), (7, .pointer (some ⟨g14, 0, none⟩)), (9, .int .i64 x15.1), (10, .slice a77 x76.1.length c78), (41, .bool (((x76.2 : Int) == 0) && (decide ((x76.1.length : Int) ≤ x15.1))))] (fun h79 => ?_) (fun h79 => ?_) ?_
 refine qc (os := _) rfl (qE (k := 36) rfl h79 ?_)
 refine au [3,23,3,27,4,24,10] ?_
 refine qd (d := 41) (v := .bool (((x76.2 : Int) == 0) && (decide ((x76.1.length : Int) ≤ x15.1)))) rfl (by rw [h79]; simp only [Bool.true_and]) ?_
 exact az [0,24,3]
 refine qc (os := _) rfl (qD (k := 36) rfl h79 ?_)
 refine au [10,10,10,10,24,11] ?_
 refine qd (d := 41) (v := .bool (((x76.2 : Int) == 0) && (decide ((x76.1.length : Int) ≤ x15.1)))) rfl (by rw [h79]; simp only [Bool.false_and]) ?_
 exact az [0,24,3]
 refine qc (os := _) rfl (zS ent109 rfl rfl rfl (fun x80 e80 => vc F (((x76.2 : Int) == 0) && (decide ((x76.1.length : Int) ≤ x15.1))) x80 e80) .nil .nil .nil (fun x81 _ => ?_) (fun x80 e80 => ?_))
 exact az [25,4,26,5]
 intro _
 refine au [0] ?_
 exact qa ((x76.1, x72.2.1, x72.2.2), (a77, c78))
 intro _
 refine au [12,25,10] ?_
 exact qa ((([] : List Int), x15.2.1, x15.2.2), (none, 0))
 rintro ⟨⟨x31, x32, x33⟩, ⟨a29, c30⟩⟩
 try dsimp only
 refine av [2,4,3,3,23,24,15,5,0,1,2,2,4,3,25,2,0,1,9] ?_ ?_
 intro _
 refine au [2,4,3,5,0,1,8,11] ?_
 exact qaz (a29, c30) (.inl rfl) (res1 rfl rfl) rfl (.cons 0 rfl .nil) (.cons 0 rfl .nil)
 intro _
 refine au [12,1,2,4,5,0,1] ?_
 refine qe (fun (((x42, x43, x44), (a40, c41)) : ((List (Int × Int) × Int × Int) × (Option Addr × Nat))) => ([(0, .pointer (some ⟨g1, 0, none⟩)), (1, .int .i64 x7), (7, .pointer (some ⟨g14, 0, none⟩)), (10, .slice a29 x31.length c30), (12, .int .i64 (isub .i64 x15.1 (x31.length : Int))), (13, .slice a40 x42.length c41)], [⟨g1, 166, [.int .i64 x43, .slice a4 x3.length c5, .int .i64 x44]⟩, ⟨g14, 26, [.int .i64 x11, .int .i64 x12, .int .i64 x13]⟩], [Ro (eI .i64) 3 1 (.slice a29 x31.length c30) x31, Ro eS129 129 2 (.slice a40 x42.length c41) x42], [Sl (eI .u8) 1 (.slice a4 x3.length c5) x3], kx F x3 x7 x13 x15 x31 x42 x43 x44)) ?_ ?_
 refine av [2,4,13,25,11,24,13,0,1,9] ?_ ?_
 intro _
 refine au [4,3,3,13,25,11,3] ?_
 refine zS ent124 rfl rfl rfl (fun x66 e66 => qc8 F g1 x32 x3 a4 c5 x33 x7 x12 (isub .i64 x15.1 (x31.length : Int)) x66 e66) (.cons 0 rfl .nil) .nil (.consF 0 rfl .nil) (fun x67 _ => ?_) (fun x66 e66 => ?_)
 exact az [25,4,26,5]
 rintro ⟨a68, c69⟩
 refine au [5,0] ?_
 exact qa ((x66.1, x66.2.1, x66.2.2), (a68, c69))
 intro _
 refine au [12] ?_
 exact qdk (Int × Int) eS129 129 2 (qa ((([] : List (Int × Int)), x32, x33), (none, 0)))
 rintro ⟨⟨x42, x43, x44⟩, ⟨a40, c41⟩⟩
 try dsimp only
 refine au [2,4,3,27,1] ?_
 refine qg qgy ?_
 rintro x45 e45 ⟨a46, c47⟩
 refine au [3,14,14,5,5,0,1,2,4,3,25,2,3] ?_
 refine qN 5 ((x45.2 : Int) == 0) [(0, .pointer (some ⟨g1, 0, none⟩)), (1, .int .i64 x7), (7, .pointer (some ⟨g14, 0, none⟩)), (10, .slice a29 x31.length c30), (12, .int .i64 (isub .i64 x15.1 (x31.length : Int))), (14, .slice a46 x45.1.length c47), (71, .bool (((x45.2 : Int) == 0) && (decide ((x45.1.length : Int) ≤ (isub .i64 x15.1 (x31.length : Int))))))] (fun h48 => ?_) (fun h48 => ?_) ?_
 refine qc (os := _) rfl (qE (k := 66) rfl h48 ?_)
 refine au [3,23,3,27,4,24,10] ?_
 refine qd (d := 71) (v := .bool (((x45.2 : Int) == 0) && (decide ((x45.1.length : Int) ≤ (isub .i64 x15.1 (x31.length : Int)))))) rfl (by rw [h48]; simp only [Bool.true_and]) ?_
 exact az [0,24,3]
 refine qc (os := _) rfl (qD (k := 66) rfl h48 ?_)
 refine au [10,10,10,10,24,11] ?_
 refine qd (d := 71) (v := .bool (((x45.2 : Int) == 0) && (decide ((x45.1.length : Int) ≤ (isub .i64 x15.1 (x31.length : Int)))))) rfl (by rw [h48]; simp only [Bool.false_and]) ?_
 exact az [0,24,3]
 refine qc (os := _) rfl (zS ent109 rfl rfl rfl (fun x49 e49 => vc F (((x45.2 : Int) == 0) && (decide ((x45.1.length : Int) ≤ (isub .i64 x15.1 (x31.length : Int))))) x49 e49) .nil .nil .nil (fun x50 _ => ?_) (fun x49 e49 => ?_))
 exact az [25,4,26,5]
 intro _
 refine au [0,1,2] ?_
 refine qq mixed [] [⟨g1, 166, [.int .i64 x43, .slice a4 x3.length c5, .int .i64 x44]⟩, ⟨g14, 26, [.int .i64 x11, .int .i64 x12, .int .i64 x13]⟩] [Sl (eI .u8) 1 (.slice a4 x3.length c5) x3] (.cons 0 rfl (.cons 0 rfl .nil)) (qF 0 rfl qm) 23 rfl ?_
 refine au [6,0,6,1,19,2] ?_
 refine zG 3 (.agg #[.int .i64 x43, .slice a4 x3.length c5]) rfl rfl rfl (qZ (i := 0) rfl tf65 rfl rfl (by simp) rfl) ?_
 refine au [6,4,6,5,19,6,25,7,7,6,8,19,9,26,1,10,6,11,6,12,26,7,13,6,14,20,15] ?_
 refine qg qhE ?_
 rintro x54 e54 ⟨a55, c56⟩
 refine au [0,27,7,6,16,6,17,6,18,6,19,6,20,6,21,6,22,24,1] ?_
 refine qt ?_ (by intro c h; cases h)
 refine au [1,2,4,3,25,2] ?_
 refine zS ent109 rfl rfl rfl (fun x57 e57 => vc F ((x54.2.2 : Int) == 0) x57 e57) .nil .nil .nil (fun x58 _ => ?_) (fun x57 e57 => ?_)
 exact az [25,4,26,5]
 intro _
 refine au [0,1,2,4,3,3,24,7,13,24,0,0,1,2,4,3,3,3] ?_
 refine qdh 3 rfl (qdh 1 rfl ?_)
 refine au [28,8] ?_
 refine qu (vs := [.slice a29 x31.length c30, .slice a46 x45.1.length c47, .slice a55 x54.1.length c56]) (ys := ([(x31, (a29, c30)), (x45.1, (a46, c47)), (x54.1, (a55, c56))] : List (List Int × (Option Addr × Nat)))) vu (by decide) rfl Tryz.underlying22 tf59 rfl rfl rfl rfl rfl (by decide) (fun a59 c60 => qcM (inn := iN59) ([x31, x45.1, x54.1] : List (List Int)) ([(a29, c30), (a46, c47), (a55, c56)] : List (Option Addr × Nat)) 0 rfl rfl (qB 2 rfl (qB 1 rfl (qB 0 rfl js))) ?_)
 refine au [33,1] ?_
 rintro x61 e61 ⟨a62, c63⟩
 refine au [5,0,1,2,4,3,33,2] ?_
 intro x64 e64 _
 refine au [26,9] ?_
 intro h65
 replace h65 := of_decide_eq_true h65
 refine qd (d := 10) (v := .slice a62 x64.length c63) rfl (by rw [h65] <;> rfl) (qd (d := 104) (v := .slice a62 x64.length c63) rfl (by rw [h65] <;> rfl) (qd (d := 105) (v := .slice a62 x64.length c63) rfl (by rw [h65] <;> rfl) ?_))
 refine au [0,1,2,4,3,5,0,1,8] ?_
 exact qaz (a62, c63) (.inl rfl) (res1 rfl rfl) rfl (.cons 0 rfl .nil) (.cons 0 rfl .nil)
set_option maxHeartbeats 4000000 in
theorem qc7 {F : Nat} {g1 : Nat} {x2 : Int} {x3 : List Int} {a4 : Option Addr} {c5 : Nat} {x6 : Int} {x7 : Int} {x8 : List Int} {a9 : Option Addr} {c10 : Nat} {x11 : Int} {x12 : Int} {x13 : Int} {r : (List Int × Bool × Int × Int)} (hm : yh F x2 x3 x6 x7 x8 x11 x12 x13 = some r) :
    PureM Tryz.prog 96 [.pointer (some ⟨g1, 0, none⟩), .int .i64 x7, .slice a9 x8.length c10, .agg #[.int .i64 x11, .int .i64 x12, .int .i64 x13]] [⟨g1, 166, [.int .i64 x2, .slice a4 x3.length c5, .int .i64 x6]⟩] [] [Sl (eI .u8) 1 (.slice a4 x3.length c5) x3, Sl (eI .i64) 1 (.slice a9 x8.length c10) x8] (Option Addr × Nat) (fun g => .tuple #[.slice g.1 r.1.length g.2, .bool r.2.1]) (fun _ => [⟨g1, 166, [.int .i64 r.2.2.1, .slice a4 x3.length c5, .int .i64 r.2.2.2]⟩]) (fun g => [Ro (eI .i64) 3 1 (.slice g.1 r.1.length g.2) r.1]) := by
 refine qmF Tryz.func96 rfl Tryz.ntmps96 rfl hm (fun w => ?_)
 refine au [27,8,2,4,24,5] ?_
 intro g14
 refine au [24,6] ?_
 intro g15
 refine au [24,6] ?_
 intro g16
 refine au [0,1,2,4,29,7] ?_
 refine qlr rfl rfl ?_
 refine au [0,1,2,4,3,24,7,13,28,4,5,0,1,2,4,3,3,3,26,14] ?_
 refine zS ent108 rfl rfl rfl (fun x17 e17 => qc6 F g1 x2 x3 a4 c5 x6 x7 x8 a9 c10 x11 x12 x13 x17 e17) (.cons 3 rfl .nil) .nil (.consF 0 rfl (.consF 1 rfl .nil)) (fun x18 _ => ?_) (fun x17 e17 => ?_)
 refine au [25,4] ?_
 refine qbm ent107 rfl (.cons 2 rfl (.cons 1 rfl .nil)) (qdB _ _ _ _) ?_
 refine au [25,10] ?_
 exact yc (none, 0) (resL (rs := [.cell 8 59, .cell 9 4]) rfl (.cell (i := 0) rfl tf59 rfl rfl (fun _ => rfl) rfl (.cell (i := 1) rfl tf4 rfl rfl (fun _ => rfl) rfl ResOk.nil)) rfl) (hB := fun h => by subst h; exact (.cons 2 rfl .nil)) (hR := fun h => by subst h; exact (.cons 0 rfl .nil))
 rintro ⟨a19, c20⟩
 refine au [25,15,0,1,2,4,28,5,28,6] ?_
 intro x21 e21 _
 refine au [25,2] ?_
 refine zS ent109 rfl rfl rfl (fun x22 e22 => vc F ((x21 : Int) == 0) x22 e22) .nil .nil .nil (fun x23 _ => ?_) (fun x22 e22 => ?_)
 refine au [25,4] ?_
 refine qbm ent107 rfl (.cons 2 rfl (.cons 1 rfl .nil)) (qdB _ _ _ _) ?_
 refine au [25,10] ?_
 exact yc (none, 0) (resL (rs := [.cell 8 59, .cell 9 4]) rfl (.cell (i := 0) rfl tf59 rfl rfl (fun _ => rfl) rfl (.cell (i := 1) rfl tf4 rfl rfl (fun _ => rfl) rfl ResOk.nil)) rfl) (hB := fun h => by subst h; exact (.cons 2 rfl .nil)) (hR := fun h => by subst h; exact (.cons 0 rfl .nil))
 intro _
 refine au [0,1,2,4] ?_
 refine qj (cells := [.int .i64 0, .slice none 0 0, .bool false]) rfl st183 rfl (by kernel_rfl) rfl ?_
 refine au [24,5] ?_
 intro g24
 refine au [5,0,1,2,4,3,3,28,4,3,33,3,27,14,32,8] ?_
 rintro x25 e25 ⟨a26, c27⟩
 refine au [0,1] ?_
 refine qe (fun ((_, _) : (Unit × Unit)) => ([(0, .pointer (some ⟨g1, 0, none⟩)), (8, .pointer (some ⟨g15, 0, none⟩)), (9, .pointer (some ⟨g16, 0, none⟩)), (10, .int .i64 x6), (11, .pointer (some ⟨g24, 0, none⟩))], [⟨g24, 183, [.int .i64 x25.1, .slice a26 x25.2.1.length c27, .bool x25.2.2]⟩, ⟨g1, 166, [.int .i64 x17.2.1, .slice a4 x3.length c5, .int .i64 x17.2.2]⟩, ⟨g16, 4, [.bool false]⟩, ⟨g15, 59, [.slice a19 x17.1.length c20]⟩], [Ro (eI .u8) 5 1 (.slice a26 x25.2.1.length c27) x25.2.1, Ro (eI .i64) 3 1 (.slice a19 x17.1.length c20) x17.1], [Sl (eI .u8) 1 (.slice a4 x3.length c5) x3], yn F x3 x6 x17 x25)) ?_ ?_
 refine av [26,13] ?_ ?_
 intro h97
 refine qee mixed [8, 9] [] [⟨g24, 183, [.int .i64 x25.1, .slice a26 x25.2.1.length c27, .bool x25.2.2]⟩, ⟨g1, 166, [.int .i64 x17.2.1, .slice a4 x3.length c5, .int .i64 x17.2.2]⟩, ⟨g16, 4, [.bool false]⟩, ⟨g15, 59, [.slice a19 x17.1.length c20]⟩, ⟨g14, 26, [.int .i64 x11, .int .i64 x12, .int .i64 x13]⟩] [Sl (eI .u8) 1 (.slice a4 x3.length c5) x3, Sl (eI .i64) 1 (.slice a9 x8.length c10) x8] (.cons 0 rfl (.cons 0 rfl (.cons 0 rfl (.cons 0 rfl (.cons 0 rfl .nil))))) (qF 0 rfl (qF 1 rfl qm)) 20 rfl ?_
 refine au [30,3,30,4,30,5] ?_
 refine qax 3 (.bool x25.2.2) rfl rfl rfl (qZ (i := 0) rfl tf4 rfl rfl (fun _ => rfl) rfl) rfl ?_
 refine au [30,6,33,4] ?_
 refine qf (d := 40) (v := .bool true) rfl (by rw [h97] <;> rfl) ?_
 refine au [33,5,33,6,33,7] ?_
 refine zn 9 _ rfl rfl rfl (qaq rfl inferInstance) rfl (qax 10 (.int .i64 x25.1) rfl rfl rfl (qZ (i := 0) rfl tf3 rfl rfl (fun _ => rfl) rfl) rfl ?_)
 refine au [33,8,33,9] ?_
 refine zn 13 _ rfl rfl rfl (qaq rfl inferInstance) rfl (qax 14 (.int .i64 x17.2.2) rfl rfl rfl (qZ (i := 1) rfl tf3 rfl rfl (fun _ => rfl) rfl) rfl (zn 15 _ rfl rfl rfl (qbn rfl) rfl (zn 16 _ rfl rfl rfl (qbn rfl) rfl (zn 17 _ rfl rfl rfl (qbn rfl) rfl ?_))))
 refine au [33,10,20,19] ?_
 refine zS ent109 rfl rfl rfl (fun x98 e98 => vc F ((x25.1 : Int) == (isub .i64 x17.2.2 x6)) x98 e98) .nil .nil .nil (fun x99 _ => ?_) (fun x98 e98 => ?_)
 refine au [25,4] ?_
 refine qhp (l' := [(8, .pointer (some ⟨g15, 0, none⟩)), (9, .pointer (some ⟨g16, 0, none⟩))]) (qcD rfl rfl (qcD rfl rfl qi4)) ?_
 refine au [25,4] ?_
 refine qbm ent107 rfl (.cons 3 rfl (.cons 2 rfl .nil)) (qdB _ _ _ _) ?_
 refine au [25,10] ?_
 exact yc (none, 0) (resL (rs := [.cell 8 59, .cell 9 4]) rfl (.cell (i := 0) rfl tf59 rfl rfl (fun _ => rfl) rfl (.cell (i := 1) rfl tf4 rfl rfl (fun _ => rfl) rfl ResOk.nil)) rfl) (hB := fun h => by subst h; exact (.cons 3 rfl .nil)) (hR := fun h => by subst h; exact (.cons 0 rfl .nil))
 intro _
 refine au [0,33,11,24,1] ?_
 refine qjx ?_ (by intro c h; cases h)
 exact az [25,13]
 intro h97
 refine qee mixed [8, 9] [] [⟨g24, 183, [.int .i64 x25.1, .slice a26 x25.2.1.length c27, .bool x25.2.2]⟩, ⟨g1, 166, [.int .i64 x17.2.1, .slice a4 x3.length c5, .int .i64 x17.2.2]⟩, ⟨g16, 4, [.bool false]⟩, ⟨g15, 59, [.slice a19 x17.1.length c20]⟩, ⟨g14, 26, [.int .i64 x11, .int .i64 x12, .int .i64 x13]⟩] [Sl (eI .u8) 1 (.slice a4 x3.length c5) x3, Sl (eI .i64) 1 (.slice a9 x8.length c10) x8] (.cons 0 rfl (.cons 0 rfl (.cons 0 rfl (.cons 0 rfl (.cons 0 rfl .nil))))) (qF 0 rfl (qF 1 rfl qm)) 20 rfl ?_
 refine au [30,3,30,4,30,5] ?_
 refine qax 3 (.bool x25.2.2) rfl rfl rfl (qZ (i := 0) rfl tf4 rfl rfl (fun _ => rfl) rfl) rfl ?_
 refine au [30,6,33,4] ?_
 refine qf (d := 40) (v := .bool false) rfl (by rw [h97] <;> rfl) (yA 6 rfl rfl rfl rfl (yA 7 rfl rfl rfl rfl (yA 8 rfl rfl rfl rfl (yA 9 rfl rfl rfl rfl (yA 10 rfl rfl rfl rfl (yA 11 rfl rfl rfl rfl (yA 12 rfl rfl rfl rfl (yA 13 rfl rfl rfl rfl (yA 14 rfl rfl rfl rfl (yA 15 rfl rfl rfl rfl (yA 16 rfl rfl rfl rfl (yA 17 rfl rfl rfl rfl ?_))))))))))))
 refine au [33,10,20,19] ?_
 refine zS ent109 rfl rfl rfl (fun x100 e100 => vc F false x100 e100) .nil .nil .nil (fun x101 _ => ?_) (fun x100 e100 => ?_)
 refine au [25,4] ?_
 refine qhp (l' := [(8, .pointer (some ⟨g15, 0, none⟩)), (9, .pointer (some ⟨g16, 0, none⟩))]) (qcD rfl rfl (qcD rfl rfl qi4)) ?_
 refine au [25,4] ?_
 refine qbm ent107 rfl (.cons 3 rfl (.cons 2 rfl .nil)) (qdB _ _ _ _) ?_
 refine au [25,10] ?_
 exact yc (none, 0) (resL (rs := [.cell 8 59, .cell 9 4]) rfl (.cell (i := 0) rfl tf59 rfl rfl (fun _ => rfl) rfl (.cell (i := 1) rfl tf4 rfl rfl (fun _ => rfl) rfl ResOk.nil)) rfl) (hB := fun h => by subst h; exact (.cons 3 rfl .nil)) (hR := fun h => by subst h; exact (.cons 0 rfl .nil))
 intro _
 refine au [0,33,11,24,1] ?_
 refine qjx ?_ (by intro c h; cases h)
 exact az [25,13]
 rintro ⟨_, _⟩
 try dsimp only
 refine qe (fun ((_, _) : (Unit × Unit)) => ([(8, .pointer (some ⟨g15, 0, none⟩)), (9, .pointer (some ⟨g16, 0, none⟩))], [⟨g1, 166, [.int .i64 x17.2.1, .slice a4 x3.length c5, .int .i64 x17.2.2]⟩, ⟨g16, 4, [.bool false]⟩, ⟨g15, 59, [.slice a19 x17.1.length c20]⟩], [Ro (eI .i64) 3 1 (.slice a19 x17.1.length c20) x17.1], [Sl (eI .u8) 1 (.slice a4 x3.length c5) x3], qar F x17)) ?_ ?_
 refine au [2,4,3,24,7,13,13,21,3,0,1,15] ?_
 refine qk (fun ((x75, _) : (Int × Unit)) => ([(0, .pointer (some ⟨g1, 0, none⟩)), (8, .pointer (some ⟨g15, 0, none⟩)), (9, .pointer (some ⟨g16, 0, none⟩)), (10, .int .i64 x6), (11, .pointer (some ⟨g24, 0, none⟩)), (59, .int .i64 x25.1), (60, .int .i64 x75)], [⟨g24, 183, [.int .i64 x25.1, .slice a26 x25.2.1.length c27, .bool x25.2.2]⟩, ⟨g1, 166, [.int .i64 x17.2.1, .slice a4 x3.length c5, .int .i64 x17.2.2]⟩, ⟨g16, 4, [.bool false]⟩, ⟨g15, 59, [.slice a19 x17.1.length c20]⟩], [Ro (eI .u8) 5 1 (.slice a26 x25.2.1.length c27) x25.2.1, Ro (eI .i64) 3 1 (.slice a19 x17.1.length c20) x17.1], [Sl (eI .u8) 1 (.slice a4 x3.length c5) x3])) (fun k (s : (Int × Unit)) => q9 F x3 x6 x17 x25 k s.1) (0, ()) F ?_
 intro k86
 rintro ⟨x75, _⟩
 try dsimp only
 refine qz (m' := ym F x3 x6 x17 x25 (q9 F x3 x6 x17 x25 k86) x75) rfl ?_
 refine av [2,4,24,2,0,1,2,9] ?_ ?_
 intro _
 refine au [12,1,2,15,2,4,3,5,0,1] ?_
 refine qee mixed [8, 9] [] [⟨g24, 183, [.int .i64 x25.1, .slice a26 x25.2.1.length c27, .bool x25.2.2]⟩, ⟨g1, 166, [.int .i64 x17.2.1, .slice a4 x3.length c5, .int .i64 x17.2.2]⟩, ⟨g16, 4, [.bool false]⟩, ⟨g15, 59, [.slice a19 x17.1.length c20]⟩] [Sl (eI .u8) 1 (.slice a4 x3.length c5) x3] (.cons 0 rfl (.cons 0 rfl (.cons 0 rfl (.cons 0 rfl .nil)))) (qF 0 rfl qm) 16 rfl ?_
 refine au [30,3,30,4,30,5] ?_
 refine qax 3 (.agg #[.int .i64 x25.1, .slice a26 x25.2.1.length c27]) rfl rfl rfl (qZ (i := 0) rfl tf65 rfl rfl (by simp) rfl) rfl ?_
 refine au [30,6,33,5,33,6,33,7] ?_
 refine qax 9 (.agg #[.int .i64 x17.2.1, .slice a4 x3.length c5]) rfl rfl rfl (qZ (i := 1) rfl tf65 rfl rfl (by simp) rfl) rfl (zn 10 _ rfl rfl rfl (qbn rfl) rfl ?_)
 refine au [33,8,33,9,20,5,28,3] ?_
 intro x92 e92 _
 refine au [0,30,7,20,13,28,3] ?_
 intro x93 e93 _
 refine au [0,30,7] ?_
 refine zn 14 _ rfl rfl rfl (qbn rfl) rfl ?_
 refine au [20,15] ?_
 refine zS ent109 rfl rfl rfl (fun x94 e94 => vc F ((x92 : Int) == x93) x94 e94) .nil .nil .nil (fun x95 _ => ?_) (fun x94 e94 => ?_)
 refine au [25,4] ?_
 refine qhp (l' := [(8, .pointer (some ⟨g15, 0, none⟩)), (9, .pointer (some ⟨g16, 0, none⟩))]) (qcD rfl rfl (qcD rfl rfl qi4)) ?_
 refine au [27,2,25,4,25,4,27,2,25,4] ?_
 refine qbm ent107 rfl (.cons 3 rfl (.cons 2 rfl .nil)) (qdB _ _ _ _) ?_
 refine au [25,10] ?_
 exact yc (none, 0) (resL (rs := [.cell 8 59, .cell 9 4]) rfl (.cell (i := 0) rfl tf59 rfl rfl (fun _ => rfl) rfl (.cell (i := 1) rfl tf4 rfl rfl (fun _ => rfl) rfl ResOk.nil)) rfl) (hB := fun h => by subst h; exact (.cons 3 rfl .nil)) (hR := fun h => by subst h; exact (.cons 0 rfl .nil))
 intro _
 refine au [0,30,7,24,1] ?_
 refine qjx ?_ (by intro c h; cases h)
 refine au [24,4,1,4,16,3,0] ?_
 exact qi (iadd .i64 x75 1, ())
 intro _
 exact az [24,8,18,18,24,9,25,13]
 rintro ⟨_, _⟩
 try dsimp only
 refine au [2,4,28,5,25,15,25,6,0,1,8] ?_
 exact qjy (.inl rfl) ent107 rfl (qnZ _ _) (yc (a19, c20) (resL (rs := [.cell 8 59, .cell 9 4]) rfl (.cell (i := 2) rfl tf59 rfl rfl (fun _ => rfl) rfl (.cell (i := 1) rfl tf4 rfl rfl (fun _ => rfl) rfl ResOk.nil)) rfl) (hB := fun h => by subst h; exact (.cons 0 rfl .nil)) (hR := fun h => by subst h; exact (.cons 0 rfl .nil)))
theorem qhQ {F : Nat} {x1 : Int} {x2 : List Int} {a3 : Option Addr} {c4 : Nat} {x5 : Int} {x6 : Int} {x7 : List Int} {a8 : Option Addr} {c9 : Nat} {x10 : Int} {x11 : Int} {x12 : Int} {r : (List Int × Int × Int)} (hm : j4 F x1 x2 x5 x6 x7 x10 x11 x12 = some r) :
    Pure Tryz.prog 83 [.agg #[.int .i64 x1, .slice a3 x2.length c4], .int .i64 x5, .int .i64 x6, .slice a8 x7.length c9, .agg #[.int .i64 x10, .int .i64 x11, .int .i64 x12]] [Sl (eI .u8) 1 (.slice a3 x2.length c4) x2, Sl (eI .i64) 1 (.slice a8 x7.length c9) x7] (Option Addr × Nat) (fun g => .tuple #[.slice g.1 r.1.length g.2, .int .i64 r.2.1, .int .i64 r.2.2]) (fun g => [Ro (eI .i64) 3 1 (.slice g.1 r.1.length g.2) r.1]) (fun _ => []) := by
 refine qh Tryz.func83 rfl Tryz.ntmps83 rfl hm (fun w => ?_)
 refine au [29,12,2,4,24,5] ?_
 intro g13
 refine au [24,5] ?_
 intro g14
 refine au [5,5,5,0,1,2,4,25,8,3] ?_
 refine qj (cells := [.int .i64 x1, .slice a3 x2.length c4, .int .i64 x5]) rfl st166 rfl (by kernel_rfl) rfl ?_
 refine au [24,5] ?_
 intro g15
 refine au [5,0,1,2,4,3,3,3,25,8] ?_
 refine qT qc7 ?_
 rintro x16 e16 ⟨a17, c18⟩
 refine av [3,14,14,5,5,0,1,2,2,4,3,25,1,0,1,9] ?_ ?_
 intro _
 refine au [2,4,5,5,5,0,1,8,11,25,10] ?_
 exact qn (none, 0)
 intro _
 refine au [12,1,2] ?_
 refine qq mixed [] [⟨g15, 166, [.int .i64 x16.2.2.1, .slice a3 x2.length c4, .int .i64 x16.2.2.2]⟩, ⟨g14, 26, [.int .i64 x10, .int .i64 x11, .int .i64 x12]⟩, ⟨g13, 65, [.int .i64 x1, .slice a3 x2.length c4]⟩] [Sl (eI .u8) 1 (.slice a3 x2.length c4) x2, Sl (eI .i64) 1 (.slice a8 x7.length c9) x7] (.cons 0 rfl (.cons 0 rfl (.cons 0 rfl .nil))) (qF 0 rfl (qF 1 rfl qm)) 8 rfl ?_
 refine au [6,0,6,1,6,2,19,3,25,7,4,6,5,6,6,6,7,24,1] ?_
 refine qt ?_ (by intro c h; cases h)
 refine au [1,8] ?_
 exact qn (a17, c18)
set_option maxHeartbeats 4000000 in
theorem qgw {F : Nat} {x1 : Int} {x2 : Int} {x3 : Int} {x4 : Int} {x5 : Int} {x6 : List Int} {a7 : Option Addr} {c8 : Nat} {r : (List (List Int) × Bool)} (hm : qbX F x1 x2 x3 x4 x5 x6 = some r) :
    Pure Tryz.prog 65 [.agg #[.int .i64 x1, .int .i64 x2, .int .i64 x3, .int .i64 x4, .int .i64 x5, .slice a7 x6.length c8]] [Sl (eI .u8) 1 (.slice a7 x6.length c8) x6] (Option Addr × (Nat × List (Option Addr × Nat))) (fun g => .tuple #[.slice g.1 r.1.length g.2.1, .bool r.2]) (fun g => [RoN eN59 rN59 59 1 (.slice g.1 r.1.length g.2.1) r.1 g.2.2 []]) (fun _ => []) := by
 refine qh Tryz.func65 rfl Tryz.ntmps65 rfl hm (fun w => ?_)
 refine au [25,5,2,4,24,5] ?_
 intro g9
 refine au [5,5,0,1,2,4,5,0,1] ?_
 refine qe (fun (((x261, x262), (a259, c260)) : ((List (List Int) × Int) × (Option Addr × (Nat × List (Option Addr × Nat))))) => ([(1, .pointer (some ⟨g9, 0, none⟩)), (2, .slice a259 x261.length c260.1), (4, .int .i64 x262)], [⟨g9, 75, [.int .i64 x1, .int .i64 x2, .int .i64 x3, .int .i64 x4, .int .i64 x5, .slice a7 x6.length c8]⟩], [RoN eN59 rN59 59 1 (.slice a259 x261.length c260.1) x261 c260.2 []], [Sl (eI .u8) 1 (.slice a7 x6.length c8) x6], qaU F x5 x261 x262)) ?_ ?_
 refine au [2,4,13,21,3,0,1,15,30,15] ?_
 refine qk (fun (((x348, x349, x350), (a346, c347)) : ((List (List Int) × Int × Int) × (Option Addr × (Nat × List (Option Addr × Nat))))) => ([(1, .pointer (some ⟨g9, 0, none⟩)), (2, .slice a346 x348.length c347.1), (4, .int .i64 x349), (14, .int .i64 x1), (15, .int .i64 x350)], [⟨g9, 75, [.int .i64 x1, .int .i64 x2, .int .i64 x3, .int .i64 x4, .int .i64 x5, .slice a7 x6.length c8]⟩], [RoN eN59 rN59 59 1 (.slice a346 x348.length c347.1) x348 c347.2 []], [Sl (eI .u8) 1 (.slice a7 x6.length c8) x6])) (fun k (s : ((List (List Int) × Int × Int) × (Option Addr × (Nat × List (Option Addr × Nat))))) => kp F x1 x2 x3 x4 x5 x6 k s.1) ((([] : List (List Int)), 0, 0), (none, (0, ([] : List (Option Addr × Nat))))) F ?_
 intro k431
 rintro ⟨⟨x348, x349, x350⟩, ⟨a346, c347⟩⟩
 try dsimp only
 refine qz (m' := jR F x1 x2 x3 x4 x5 x6 (kp F x1 x2 x3 x4 x5 x6 k431) x348 x349 x350) rfl ?_
 refine av [2,4,24,2,0,1,2,9] ?_ ?_
 intro _
 refine au [12,1] ?_
 refine qe (fun (((x472, x473), (a470, c471)) : ((List (List Int) × Int) × (Option Addr × (Nat × List (Option Addr × Nat))))) => ([(1, .pointer (some ⟨g9, 0, none⟩)), (2, .slice a470 x472.length c471.1), (4, .int .i64 x473), (14, .int .i64 x1), (15, .int .i64 x350)], [⟨g9, 75, [.int .i64 x1, .int .i64 x2, .int .i64 x3, .int .i64 x4, .int .i64 x5, .slice a7 x6.length c8]⟩], [RoN eN59 rN59 59 1 (.slice a470 x472.length c471.1) x472 c471.2 []], [Sl (eI .u8) 1 (.slice a7 x6.length c8) x6], vy F (kp F x1 x2 x3 x4 x5 x6 k431) x350 x472 x473)) ?_ ?_
 refine au [15,2,4,3,5,0,1,2,4,25,0,3,3] ?_
 refine qg qiX ?_
 intro x474 e474 _
 refine av [3,14,14,14,5,5,5,0,1,2,2,4,3,25,1,0,1,9] ?_ ?_
 intro _
 refine au [2,4,5,5,0,1,8,11,22,11,11,22,11,25,14] ?_
 exact qn (none, (0, ([] : List (Option Addr × Nat))))
 intro _
 refine av [12,1,2,4,5,0,1,2,2,4,3,24,13,0,1,9] ?_ ?_
 intro _
 refine au [4,3,3,3,24,15] ?_
 refine qnn (j := 0) rfl UnF.u inferInstance rfl rfl rfl rfl ?_
 intro x482 e482 g483 h484 g485 h486
 refine qlw (i := 0) rfl h484 (List.not_mem_nil) (qjt (j := 1) (p := (x482, g483)) vu rfl rfl tf59 rfl h486 h484 rfl (fun _ => rfl) rfl rfl ?_)
 refine au [5,0,1,2,4,13,25,0,24,6] ?_
 intro g487
 refine au [24,0,0,1,2,4,3,13,24,0,0,1,2,4,13,25,8,3,3,3,25,0,33,12] ?_
 rintro x488 e488 ⟨a489, c490⟩
 refine au [3,14,14,14,5,5,5,0,1,2,2] ?_
 refine qjo (rin := rN59) (p := (x482, g483)) (i := 1) (k := 0) (.cons 1 rfl .nil) rfl rfl h484 ?_
 refine av [4,3,25,3,0,1,9] ?_ ?_
 intro _
 refine au [2,4,5,5,0,1,8,11,22,11,11,22,11,25,14] ?_
 exact qn (none, (0, ([] : List (Option Addr × Nat))))
 intro _
 refine au [12,1,4,3,3] ?_
 refine qu (vs := [.slice a489 x488.1.length c490]) (ys := ([(x488.1, (a489, c490))] : List (List Int × (Option Addr × Nat)))) vu (by decide) rfl Tryz.underlying22 tf59 rfl rfl rfl rfl rfl (by decide) (fun a492 c493 => qca (rin := rN59) (i := 0) ([x488.1] : List (List Int)) ([(a489, c490)] : List (Option Addr × Nat)) rfl rfl (.cons 1 rfl .nil) ?_)
 refine au [31,0] ?_
 intro x494 e494 a495 c496
 refine au [3,5,5,0,24,4] ?_
 exact qa ((x494, x488.2.1), (a495, (c496, (c347.2 ++ ([(a489, c490)] : List (Option Addr × Nat))))))
 intro _
 refine au [12,1,2,4,13,25,0,24,6] ?_
 intro g498
 refine au [24,0,0,1,2,4,3,13,24,0,0,1,2,4,13,25,8,3,3,3,25,0,27,1,33,12] ?_
 rintro x499 e499 ⟨a500, c501⟩
 refine av [3,14,14,14,5,5,5,0,1,2,2,4,3,25,3,0,1,9] ?_ ?_
 intro _
 refine au [2,4,5,5,0,1,8,11,22,11,11,22,11,25,14] ?_
 exact qn (none, (0, ([] : List (Option Addr × Nat))))
 intro _
 refine au [12,1,4,3,3] ?_
 refine qu (vs := [.slice a500 x499.1.length c501]) (ys := ([(x499.1, (a500, c501))] : List (List Int × (Option Addr × Nat)))) vu (by decide) rfl Tryz.underlying22 tf59 rfl rfl rfl rfl rfl (by decide) (fun a503 c504 => qca (rin := rN59) (i := 0) ([x499.1] : List (List Int)) ([(a500, c501)] : List (Option Addr × Nat)) rfl rfl (.cons 0 rfl .nil) (qiI vu rfl UnF.u inferInstance rfl rfl rfl rfl (.cons 2 rfl (.cons 0 rfl .nil)) rfl rfl ?_))
 intro x505 e505 a506 c507
 refine au [3,5,5,0,24,4] ?_
 exact qa ((x505, x499.2.1), (a506, (c507, (c347.2 ++ ([(a500, c501)] : List (Option Addr × Nat))))))
 rintro ⟨⟨x472, x473⟩, ⟨a470, c471⟩⟩
 try dsimp only
 refine au [4,16,3,0] ?_
 exact qi ((x472, x473, iadd .i64 x350 1), (a470, c471))
 intro _
 refine au [24,8,18,18,24,9] ?_
 exact qa ((x348, x349), (a346, c347))
 rintro ⟨⟨x261, x262⟩, ⟨a259, c260⟩⟩
 try dsimp only
 refine au [2] ?_
 refine qq mixed [] [⟨g9, 75, [.int .i64 x1, .int .i64 x2, .int .i64 x3, .int .i64 x4, .int .i64 x5, .slice a7 x6.length c8]⟩] [Sl (eI .u8) 1 (.slice a7 x6.length c8) x6] (.cons 0 rfl .nil) (qF 0 rfl qm) 8 rfl ?_
 refine au [6,0,6,1,19,2,19,3,25,7,4,6,5,6,6,6,7,24,1] ?_
 refine qt ?_ (by intro c h; cases h)
 refine au [1,8] ?_
 exact qn (a259, c260)
set_option maxHeartbeats 4000000 in
theorem qbD {F : Nat} {x1 : List Int} {a2 : Option Addr} {c3 : Nat} {x4 : List Int} {a5 : Option Addr} {c6 : Nat} {r : Bool} (hm : kD F x1 x4 = some r) :
    Pure Tryz.prog 66 [.slice a2 x1.length c3, .slice a5 x4.length c6] [Sl (eI .u8) 1 (.slice a2 x1.length c3) x1, Sl (eI .u8) 1 (.slice a5 x4.length c6) x4] Unit (fun _ => .bool r) (fun _ => []) (fun _ => []) := by
 refine qh Tryz.func66 rfl Tryz.ntmps66 rfl hm (fun w => ?_)
 refine av [24,12,2,4,5,0,1,2,2,4,3,23,3,23,25,3,0,1,9] ?_ ?_
 intro _
 exact az [2,4,5,0,1,8,11,17]
 intro _
 refine au [12,1] ?_
 refine qe (fun ((_, _) : (Unit × Unit)) => ([], [], [], [], jd F)) ?_ ?_
 refine au [2,4,3,23,3,0,1,15] ?_
 refine qk (fun ((x154, _) : (Int × Unit)) => ([(0, .slice a2 x1.length c3), (1, .slice a5 x4.length c6), (12, .int .i64 (x1.length : Int)), (13, .int .i64 x154)], [], [], [Sl (eI .u8) 1 (.slice a2 x1.length c3) x1, Sl (eI .u8) 1 (.slice a5 x4.length c6) x4])) (fun k (s : (Int × Unit)) => qY F x1 x4 k s.1) (0, ()) F ?_
 intro k191
 rintro ⟨x154, _⟩
 try dsimp only
 refine qz (m' := zU F x1 x4 (qY F x1 x4 k191) x154) rfl ?_
 refine av [2,4,24,2,0,1,2,9] ?_ ?_
 intro _
 refine au [12,1,2,15,2,4,3,5,0,1,2,29,6] ?_
 intro x218 e218 b219 o220 h221
 replace h221 : a2 = some ⟨b219, o220, none⟩ := h221
 refine au [33,13] ?_
 intro x222 e222 b223 o224 h225
 replace h225 : a5 = some ⟨b223, o224, none⟩ := h225
 refine qq mixed [] [] [qR b223 (o224 + x154.toNat * 1) ((eI .u8) x222), qR b219 (o220 + x154.toNat * 1) ((eI .u8) x218), Sl (eI .u8) 1 (.slice a2 x1.length c3) x1, Sl (eI .u8) 1 (.slice a5 x4.length c6) x4] .nil (qF 0 rfl (qF 1 rfl (qF 2 rfl (qF 3 rfl qm)))) 9 rfl ?_
 refine au [6,0,6,1] ?_
 refine qf (d := 16) (v := .slice (some ⟨b219, o220, none⟩) x1.length c3) rfl (by rw [h221] <;> rfl) (qv 2 (.pointer (some ⟨b219, (o220 + x154.toNat * 1), none⟩)) rfl rfl rfl (qaW Tryz.underlying27 tf5 rfl rfl (zF e218).1 (qaw e218)) (qf (d := 16) (v := .slice a2 x1.length c3) rfl (by rw [h221] <;> rfl) (zr 3 (.int .u8 x218) [] rfl rfl rfl (vF (j := 1) rfl tf5 rfl rfl (fun _ => rfl) rfl) ?_)))
 refine au [6,4,6,5] ?_
 refine qf (d := 20) (v := .slice (some ⟨b223, o224, none⟩) x4.length c6) rfl (by rw [h225] <;> rfl) (qv 6 (.pointer (some ⟨b223, (o224 + x154.toNat * 1), none⟩)) rfl rfl rfl (qaW Tryz.underlying27 tf5 rfl rfl (zF e222).1 (qaw e222)) (qf (d := 20) (v := .slice a5 x4.length c6) rfl (by rw [h225] <;> rfl) (zr 7 (.int .u8 x222) [] rfl rfl rfl (vF (j := 0) rfl tf5 rfl rfl (fun _ => rfl) rfl) ?_)))
 refine au [6,8,24,1] ?_
 refine qt ?_ (by intro c h; cases h)
 refine av [1,9] ?_ ?_
 intro _
 exact az [2,4,5,0,1,8,22,11,11,22,11,17]
 intro _
 refine au [12,24,4,1,4,16,3,0] ?_
 exact qi (iadd .i64 x154 1, ())
 intro _
 exact az [24,8,18,18,24,9,25,13]
 rintro ⟨_, _⟩
 try dsimp only
 exact az [2,4,5,0,1,8,17]
set_option maxHeartbeats 4000000 in
theorem qhL {F : Nat} {x1 : Int} {x2 : Int} {x3 : Int} {x4 : Int} {x5 : Int} {x6 : List Int} {a7 : Option Addr} {c8 : Nat} {r : (List (List Int) × Int)} (hm : qbs F x1 x2 x3 x4 x5 x6 = some r) :
    Pure Tryz.prog 51 [.agg #[.int .i64 x1, .int .i64 x2, .int .i64 x3, .int .i64 x4, .int .i64 x5, .slice a7 x6.length c8]] [Sl (eI .u8) 1 (.slice a7 x6.length c8) x6] (Option Addr × (Nat × List (Option Addr × Nat))) (fun g => .tuple #[.agg #[.slice g.1 r.1.length g.2.1], .int .i64 r.2]) (fun g => [RoN eN59 rN59 59 1 (.slice g.1 r.1.length g.2.1) r.1 g.2.2 []]) (fun _ => []) := by
 refine qh Tryz.func51 rfl Tryz.ntmps51 rfl hm (fun w => ?_)
 refine au [25,5,2,4,24,5] ?_
 intro g9
 refine au [24,6] ?_
 intro g10
 refine au [5,0,1,2,2,4,25,8] ?_
 refine qg qgu ?_
 intro x13 e13 _
 refine av [5,0,1,2,4,3,25,3,0,1,9] ?_ ?_
 intro _
 refine au [2,4] ?_
 refine qj (cells := [.slice none 0 0]) rfl st24 rfl (by kernel_rfl) rfl ?_
 refine au [3,24,0,5,0,1,8,11,25,14] ?_
 exact qy (none, (0, ([] : List (Option Addr × Nat)))) (resL (rs := [.cell 2 24, .tmp 3]) rfl (.cell (i := 0) rfl tf24 rfl rfl (by simp) rfl (.tmp rfl ResOk.nil)) rfl) (fun h => by subst h; exact (.cons 0 rfl .nil))
 intro _
 refine au [12,1,2,4,25,8] ?_
 refine qg qgw ?_
 rintro x14 e14 ⟨a15, c16⟩
 refine av [3,14,14,5,5,0,1,2,2,4,3,25,1,0,1,9] ?_ ?_
 intro _
 refine au [2,4] ?_
 refine qj (cells := [.slice none 0 0]) rfl st24 rfl (by kernel_rfl) rfl ?_
 refine au [24,0,5,0,1,8,11,25,14] ?_
 exact qy (none, (0, ([] : List (Option Addr × Nat)))) (resL (rs := [.cell 2 24, .tmp 3]) rfl (.cell (i := 0) rfl tf24 rfl rfl (by simp) rfl (.tmp rfl ResOk.nil)) rfl) (fun h => by subst h; exact (.cons 0 rfl .nil))
 intro _
 refine au [12,1,2,4,3] ?_
 refine qj (cells := [.slice a15 x14.1.length c16.1]) rfl st24 rfl (by kernel_rfl) rfl ?_
 refine au [24,6] ?_
 intro g18
 refine au [24,0,0,1,2,2,4,25,0,13,26,14,33,14] ?_
 rintro x28 e28 ⟨a29, c30⟩
 refine au [3,14,14,24,6] ?_
 intro g31
 refine au [24,0,5,0,1,2,4,3,25,3,3] ?_
 refine y9 9 (fun ((x34, _) : (Bool × Unit)) => ([(2, .pointer (some ⟨g10, 0, none⟩)), (7, .pointer (some ⟨g18, 0, none⟩)), (44, .bool x34)], [⟨g18, 24, [.slice a15 x14.1.length c16.1]⟩, ⟨g10, 24, [.slice none 0 0]⟩], [RoN eN59 rN59 59 1 (.slice a15 x14.1.length c16.1) x14.1 c16.2 []], [], qaf F x14 x34)) ?_ ?_
 refine qc (os := _) rfl ?_
 refine av [26,8] ?_ ?_
 intro h32
 refine qE (k := 35) rfl h32 ?_
 refine au [10,10,10,10,10,10,10,10,24,10,0] ?_
 exact qa (true, ())
 intro h32
 refine qD (k := 35) rfl h32 ?_
 refine au [13,13,21,13,13,28,4] ?_
 refine qg qbD ?_
 intro x36 e36 _
 refine au [25,1,24,11,0] ?_
 exact qa ((!x36), ())
 rintro ⟨x34, _⟩
 try dsimp only
 refine qc (os := _) rfl ?_
 refine av [0,1,9] ?_ ?_
 intro _
 refine au [2,4] ?_
 refine qj (cells := [.slice none 0 0]) rfl st24 rfl (by kernel_rfl) rfl ?_
 refine au [25,6,5,0,1,8,11,25,14] ?_
 exact qy (none, (0, ([] : List (Option Addr × Nat)))) (resL (rs := [.cell 2 24, .tmp 3]) rfl (.cell (i := 1) rfl tf24 rfl rfl (by simp) rfl (.tmp rfl ResOk.nil)) rfl) (fun h => by subst h; exact (.cons 0 rfl .nil))
 intro _
 refine au [12,1,2,4,25,0,25,6,5,0,1,8] ?_
 exact qy (a15, c16) (resL (rs := [.cell 2 24, .tmp 3]) rfl (.cell (i := 1) rfl tf24 rfl rfl (by simp) rfl (.tmp rfl ResOk.nil)) rfl) (fun h => by subst h; exact (.cons 0 rfl .nil))
set_option maxHeartbeats 4000000 in
theorem qc0 (F : Nat) (g1 : Nat) (x2 : List Int) (a3 : Option Addr) (c4 : Nat) (x5 : Int) (x6 : Int) (x7 : Bool) (r : (List (List Int) × Bool × Int × Int × Bool)) (hm : vj F x2 x5 x6 x7 = some r) :
    PureM Tryz.prog 37 [.pointer (some ⟨g1, 0, none⟩)] [⟨g1, 80, [.slice a3 x2.length c4, .int .i64 x5, .int .i64 x6, .bool x7]⟩] [] [Sl (eI .u8) 1 (.slice a3 x2.length c4) x2] (Option Addr × (Nat × List (Option Addr × Nat))) (fun g => .tuple #[.agg #[.slice g.1 r.1.length g.2.1], .bool r.2.1]) (fun _ => [⟨g1, 80, [.slice a3 x2.length c4, .int .i64 r.2.2.1, .int .i64 r.2.2.2.1, .bool r.2.2.2.2]⟩]) (fun g => [RoN eN59 rN59 59 1 (.slice g.1 r.1.length g.2.1) r.1 g.2.2 []]) := by
 refine zp Tryz.func37 rfl Tryz.ntmps37 rfl hm (fun w => ?_)
 refine au [25,5,2,4,24,6] ?_
 intro g8
 refine au [5,0,1,2,4,3,27,0] ?_
 intro x9 e9 _
 refine qj (cells := [.int .i64 x9.1, .int .i64 0, .int .i64 0, .int .i64 0, .int .i64 0, .slice none 0 0]) rfl st75 rfl (by kernel_rfl) rfl ?_
 refine au [24,6] ?_
 intro g10
 refine au [24,0,0,1,2,4,3,27,0] ?_
 intro x11 e11 _
 refine au [3,27,0] ?_
 intro x12 e12 _
 refine au [3,27,0] ?_
 intro x13 e13 _
 refine qj (cells := [.int .i64 x11.1, .int .i64 x12.1, .int .i64 x13.1]) rfl st26 rfl (by kernel_rfl) rfl ?_
 refine au [13,25,6,0,1,2,4,3,27,0] ?_
 intro x14 e14 _
 refine av [13,13,25,6,0,1,2,2,4,3,24,7,13,21,0,1,9] ?_ ?_
 intro _
 refine au [2,4] ?_
 refine qj (cells := [.slice none 0 0]) rfl st24 rfl (by kernel_rfl) rfl ?_
 refine au [25,15,5,0,1,8,11,25,14] ?_
 exact yc (none, (0, ([] : List (Option Addr × Nat)))) (resL (rs := [.cell 2 24, .tmp 3]) rfl (.cell (i := 2) rfl tf24 rfl rfl (by simp) rfl (.tmp rfl ResOk.nil)) rfl) (hB := fun h => by subst h; exact (.cons 0 rfl .nil)) (hR := fun h => by subst h; exact (.cons 0 rfl .nil))
 intro _
 refine au [12,1,2] ?_
 refine qiE 0 (qr .u8) rfl ?_
 intro x24 e24 a25 c26 h27 h28
 refine qq mixed [] [⟨g1, 80, [.slice a3 x2.length c4, .int .i64 x14.2.1, .int .i64 x14.2.2.1, .bool x14.2.2.2]⟩, ⟨g8, 24, [.slice none 0 0]⟩] [Sl (eI .u8) 1 (.slice a25 x24.length c26) x24, Sl (eI .u8) 1 (.slice a3 x2.length c4) x2] (.cons 0 rfl (.cons 1 rfl .nil)) (qF 0 rfl (qF 1 rfl qm)) 13 rfl ?_
 refine au [6,0,6,1,19,2,25,7,3,6,4,6,5,19,6,25,7,7] ?_
 refine qv 8 (.slice a25 x24.length c26) rfl rfl rfl (qnE Tryz.underlying27 tf5 rfl rfl rfl e24 h28 h27) ?_
 refine au [20,9,31,5] ?_
 rintro x29 e29 ⟨a30, c31⟩
 refine au [0,33,15,19,10,19,11,20,12,25,6,0,33,15,24,1] ?_
 refine qt ?_ (by intro c h; cases h)
 refine au [1,2,2,4,13,25,8,32,10] ?_
 intro x34 e34 _
 refine av [25,3,0,1,9] ?_ ?_
 intro _
 refine au [2,4] ?_
 refine qj (cells := [.slice none 0 0]) rfl st24 rfl (by kernel_rfl) rfl ?_
 refine au [25,15,5,0,1,8,11,25,14] ?_
 exact yc (none, (0, ([] : List (Option Addr × Nat)))) (resL (rs := [.cell 2 24, .tmp 3]) rfl (.cell (i := 2) rfl tf24 rfl rfl (by simp) rfl (.tmp rfl ResOk.nil)) rfl) (hB := fun h => by subst h; exact (.cons 0 rfl .nil)) (hR := fun h => by subst h; exact (.cons 0 rfl .nil))
 intro _
 refine au [12,1,2,4,3,13,13,25,11,24,7,13,24,0,0,1,2,4,25,8] ?_
 refine qg qhL ?_
 rintro x35 e35 ⟨a36, c37⟩
 refine au [3,14,14,24,6] ?_
 intro g38
 refine au [24,0,5,0,1,2,4,25,0,3,25,2,27,13,5,0,1,8] ?_
 exact yc (a36, c37) (resL (rs := [.cell 2 24, .tmp 3]) rfl (.cell (i := 3) rfl tf24 rfl rfl (by simp) rfl (.tmp rfl ResOk.nil)) rfl) (hB := fun h => by subst h; exact (.cons 1 rfl .nil)) (hR := fun h => by subst h; exact (.cons 0 rfl .nil))
set_option maxHeartbeats 4000000 in
theorem qhK {F : Nat} {x1 : List Int} {a2 : Option Addr} {c3 : Nat} {r : (List (List Int) × Int × Int)} (hm : qaQ F x1 = some r) :
    Pure Tryz.prog 21 [.slice a2 x1.length c3] [Sl (eI .u8) 1 (.slice a2 x1.length c3) x1] (Option Addr × (Nat × List (Option Addr × Nat))) (fun g => .tuple #[.agg #[.slice g.1 r.1.length g.2.1], .int .i64 r.2.1, .int .i64 r.2.2]) (fun g => [RoN eN59 rN59 59 1 (.slice g.1 r.1.length g.2.1) r.1 g.2.2 []]) (fun _ => []) := by
 refine qh Tryz.func21 rfl Tryz.ntmps21 rfl hm (fun w => ?_)
 refine au [25,5,2,4,24,6] ?_
 intro g4
 refine av [5,5,0,1,2,2,4,3,23,24,13,0,1,9] ?_ ?_
 intro _
 refine au [2,4] ?_
 refine qj (cells := [.slice none 0 0]) rfl st24 rfl (by kernel_rfl) rfl ?_
 refine au [24,0,5,5,0,1,8,11,25,14] ?_
 exact qy (none, (0, ([] : List (Option Addr × Nat)))) (resL (rs := [.cell 2 24, .tmp 3, .tmp 4]) rfl (.cell (i := 0) rfl tf24 rfl rfl (by simp) rfl (.tmp rfl (.tmp rfl ResOk.nil))) rfl) (fun h => by subst h; exact (.cons 0 rfl .nil))
 intro _
 refine au [12,1,2,2,4,3,23,24,2,3] ?_
 refine y9 5 (fun ((x19, _) : (Bool × Unit)) => ([(0, .slice a2 x1.length c3), (2, .pointer (some ⟨g4, 0, none⟩)), (22, .bool x19)], [⟨g4, 24, [.slice none 0 0]⟩], [], [Sl (eI .u8) 1 (.slice a2 x1.length c3) x1], qae F x1 x19)) ?_ ?_
 refine qc (os := _) rfl ?_
 refine av [26,8] ?_ ?_
 intro h15
 refine qE (k := 17) rfl h15 ?_
 refine au [10,10,10,10,24,10,0] ?_
 exact qa (true, ())
 intro h15
 refine qD (k := 17) rfl h15 ?_
 refine au [3,34,0] ?_
 intro x38 e38 a39 c40
 refine qlq (j := 0) rfl UnF.u UnF.u UnF.u rfl rfl rfl (qns rfl UnF.u rfl rfl rfl ?_)
 refine au [24,11,0] ?_
 exact qa ((!(bstr x38 == bstr ([76, 87] : List Int))), ())
 rintro ⟨x19, _⟩
 try dsimp only
 refine qc (os := _) rfl ?_
 refine av [0,1,9] ?_ ?_
 intro _
 refine au [2,4] ?_
 refine qj (cells := [.slice none 0 0]) rfl st24 rfl (by kernel_rfl) rfl ?_
 refine au [24,0,5,5,0,1,8,11,25,14] ?_
 exact qy (none, (0, ([] : List (Option Addr × Nat)))) (resL (rs := [.cell 2 24, .tmp 3, .tmp 4]) rfl (.cell (i := 0) rfl tf24 rfl rfl (by simp) rfl (.tmp rfl (.tmp rfl ResOk.nil))) rfl) (fun h => by subst h; exact (.cons 0 rfl .nil))
 intro _
 refine au [12,1,2,4,3] ?_
 refine qj (cells := [.slice a2 x1.length c3, .int .i64 3, .int .i64 0, .bool false]) rfl st80 rfl (by kernel_rfl) rfl ?_
 refine au [24,5] ?_
 intro g20
 refine au [5,0,1,2,4] ?_
 refine qhl .u8 rfl rfl ?_
 intro g21
 refine au [3,34,1] ?_
 refine qeo (i := 0) rfl Tryz.underlying82 Tryz.underlying5 rfl rfl rfl rfl rfl ?_
 refine au [3,34,1] ?_
 refine qeo (i := 0) rfl Tryz.underlying82 Tryz.underlying5 rfl rfl rfl rfl rfl ?_
 refine au [3,5,0,1,2,4,3,3,28,14] ?_
 intro x22 e22 b23 o24
 refine au [25,9] ?_
 refine qiL (i := 0) rfl Tryz.underlying82 Tryz.underlying5 tf81 rfl rfl rfl rfl ?_ ?_ ?_
 refine au [3,14,14,5,5,0,1,2,2,4,3,25,1,0,1] ?_
 refine ju (b := false) rfl (fun h => by cases h) (fun _ => ?_)
 refine au [12,1,2,4,3] ?_
 refine qfg ent36 rfl rfl rfl rfl (fun x25 e25 => qc1 F g20 x1 a2 c3 3 0 false x25 e25) (.cons 1 rfl .nil) .nil (.consF 1 rfl .nil) (fun x25 e25 => ?_)
 rintro ⟨a26, c27⟩
 refine au [3,14,14,24,6] ?_
 intro g28
 refine av [24,0,5,0,1,2,2,4,3,25,1,0,1,9] ?_ ?_
 intro _
 refine au [2,4] ?_
 refine qj (cells := [.slice none 0 0]) rfl st24 rfl (by kernel_rfl) rfl ?_
 refine au [27,13,5,5,0,1,8,11,25,14] ?_
 exact qy (none, (0, ([] : List (Option Addr × Nat)))) (resL (rs := [.cell 2 24, .tmp 3, .tmp 4]) rfl (.cell (i := 3) rfl tf24 rfl rfl (by simp) rfl (.tmp rfl (.tmp rfl ResOk.nil))) rfl) (fun h => by subst h; exact (.cons 0 rfl .nil))
 intro _
 refine au [12,1,2] ?_
 refine qq mixed [] [⟨g28, 24, [.slice a26 x25.1.length c27.1]⟩, ⟨g20, 80, [.slice a2 x1.length c3, .int .i64 x25.2.2.1, .int .i64 x25.2.2.2.1, .bool x25.2.2.2.2]⟩, (blkO g21 (mapF .u8 [(1, .func (.func 36) #[.pointer (some ⟨g20, 0, none⟩)] #[]), (2, .func (.func 37) #[.pointer (some ⟨g20, 0, none⟩)] #[])]))] [qR b23 o24 ((eI .u8) x22), Sl (eI .u8) 1 (.slice a2 x1.length c3) x1] (.cons 0 rfl (.cons 0 rfl (.cons 0 rfl .nil))) (qF 0 rfl (qF 1 rfl qm)) 8 rfl (zG 0 (.agg #[.slice a26 x25.1.length c27.1]) rfl rfl rfl (qZ (i := 0) rfl tf24 rfl rfl (by simp) rfl) ?_)
 refine au [6,1,6,2,19,3,26,1,4,20,5,27,13,0,34,2,6,6,6,7,24,1] ?_
 refine qt ?_ (by intro c h; cases h)
 refine au [1,8] ?_
 exact qy (a26, c27) (resL (rs := [.cell 2 24, .tmp 3, .tmp 4]) rfl (.cell (i := 3) rfl tf24 rfl rfl (by simp) rfl (.tmp rfl (.tmp rfl ResOk.nil))) rfl) (fun h => by subst h; exact (.cons 0 rfl .nil))
 refine au [3,14,14,5,5,0,1,2,2,4,3,25,1,0,1] ?_
 refine ju (b := false) rfl (fun h => by cases h) (fun _ => ?_)
 refine au [12,1,2,4,3] ?_
 refine qfg ent37 rfl rfl rfl rfl (fun x31 e31 => qc0 F g20 x1 a2 c3 3 0 false x31 e31) (.cons 1 rfl .nil) .nil (.consF 1 rfl .nil) (fun x31 e31 => ?_)
 rintro ⟨a32, c33⟩
 refine au [3,14,14,24,6] ?_
 intro g34
 refine av [24,0,5,0,1,2,2,4,3,25,1,0,1,9] ?_ ?_
 intro _
 refine au [2,4] ?_
 refine qj (cells := [.slice none 0 0]) rfl st24 rfl (by kernel_rfl) rfl ?_
 refine au [27,13,5,5,0,1,8,11,25,14] ?_
 exact qy (none, (0, ([] : List (Option Addr × Nat)))) (resL (rs := [.cell 2 24, .tmp 3, .tmp 4]) rfl (.cell (i := 3) rfl tf24 rfl rfl (by simp) rfl (.tmp rfl (.tmp rfl ResOk.nil))) rfl) (fun h => by subst h; exact (.cons 0 rfl .nil))
 intro _
 refine au [12,1,2] ?_
 refine qq mixed [] [⟨g34, 24, [.slice a32 x31.1.length c33.1]⟩, ⟨g20, 80, [.slice a2 x1.length c3, .int .i64 x31.2.2.1, .int .i64 x31.2.2.2.1, .bool x31.2.2.2.2]⟩, (blkO g21 (mapF .u8 [(1, .func (.func 36) #[.pointer (some ⟨g20, 0, none⟩)] #[]), (2, .func (.func 37) #[.pointer (some ⟨g20, 0, none⟩)] #[])]))] [qR b23 o24 ((eI .u8) x22), Sl (eI .u8) 1 (.slice a2 x1.length c3) x1] (.cons 0 rfl (.cons 0 rfl (.cons 0 rfl .nil))) (qF 0 rfl (qF 1 rfl qm)) 8 rfl (zG 0 (.agg #[.slice a32 x31.1.length c33.1]) rfl rfl rfl (qZ (i := 0) rfl tf24 rfl rfl (by simp) rfl) ?_)
 refine au [6,1,6,2,19,3,26,1,4,20,5,27,13,0,34,2,6,6,6,7,24,1] ?_
 refine qt ?_ (by intro c h; cases h)
 refine au [1,8] ?_
 exact qy (a32, c33) (resL (rs := [.cell 2 24, .tmp 3, .tmp 4]) rfl (.cell (i := 3) rfl tf24 rfl rfl (by simp) rfl (.tmp rfl (.tmp rfl ResOk.nil))) rfl) (fun h => by subst h; exact (.cons 0 rfl .nil))
 refine au [3,14,14,5,5,0,1,2,2,4,3,25,1,0,1] ?_
 refine ju (b := true) rfl (fun _ => ?_) (fun h => by cases h)
 refine au [2,4] ?_
 refine qj (cells := [.slice none 0 0]) rfl st24 rfl (by kernel_rfl) rfl ?_
 refine au [25,15,5,5,0,1,8,11,25,14] ?_
 exact qy (none, (0, ([] : List (Option Addr × Nat)))) (resL (rs := [.cell 2 24, .tmp 3, .tmp 4]) rfl (.cell (i := 2) rfl tf24 rfl rfl (by simp) rfl (.tmp rfl (.tmp rfl ResOk.nil))) rfl) (fun h => by subst h; exact (.cons 0 rfl .nil))
theorem qhJ {F : Nat} {x1 : List (List Int)} {a2 : Option Addr} {c3 : Nat} {s3 : List (Option Addr × Nat)} {r : Int} (hm : qbr F x1 = some r) :
    Pure Tryz.prog 22 [.agg #[.slice a2 x1.length c3]] [SlN eN59 iN59 1 (.slice a2 x1.length c3) x1 s3] Unit (fun _ => .int .i64 r) (fun _ => []) (fun _ => []) := by
 refine qh Tryz.func22 rfl Tryz.ntmps22 rfl hm (fun w => ?_)
 refine au [25,5,2,4,24,5] ?_
 intro g4
 refine au [5,0,1] ?_
 refine qe (fun ((x38, _) : (Int × Unit)) => ([(2, .int .i64 x38)], [], [], [], qbb F x38)) ?_ ?_
 refine au [2,4,13,21,23,3,0,1,15] ?_
 refine qk (fun (((x49, x50), _) : ((Int × Int) × Unit)) => ([(2, .int .i64 x49), (6, .slice a2 x1.length c3), (7, .int .i64 (x1.length : Int)), (8, .int .i64 x50)], [], [], [SlN eN59 iN59 1 (.slice a2 x1.length c3) x1 s3])) (fun k (s : ((Int × Int) × Unit)) => yW F x1 k s.1) ((0, 0), ()) F ?_
 intro k61
 rintro ⟨⟨x49, x50⟩, _⟩
 try dsimp only
 refine qz (m' := qad F x1 (yW F x1 k61) x49 x50) rfl ?_
 refine av [2,4,24,2,0,1,2,9] ?_ ?_
 intro _
 refine au [12,1,2,15,2,4,27,3] ?_
 intro x67 e67 g70 b68 o69
 refine au [25,9,5,0,1,4,3,3,23,16,5,0,24,4,1,4,16,3,0] ?_
 exact qi ((iadd .i64 x49 (x67.length : Int), iadd .i64 x50 1), ())
 intro _
 refine au [24,8,18,18,24,9] ?_
 exact qa (x49, ())
 rintro ⟨x38, _⟩
 try dsimp only
 exact az [2,4,3,5,0,1,8,17]
set_option maxHeartbeats 4000000 in
theorem qhG {F : Nat} {x1 : List Int} {a2 : Option Addr} {c3 : Nat} {r : (Int × Int × Int × Int × Int)} (hm : kZ F x1 = some r) :
    Pure Tryz.prog 12 [.slice a2 x1.length c3] [Sl (eI .u8) 1 (.slice a2 x1.length c3) x1] Unit (fun _ => .tuple #[.agg #[.int .i64 r.1, .int .i64 r.2.1, .int .i64 r.2.2.1, .int .i64 r.2.2.2.1], .int .i64 r.2.2.2.2]) (fun _ => []) (fun _ => []) := by
 refine qh Tryz.func12 rfl Tryz.ntmps12 rfl hm (fun w => ?_)
 refine au [25,5,2,4,24,6] ?_
 intro g4
 refine au [5,0,1,2,4,3,34,3] ?_
 rintro x5 e5 ⟨a6, c7⟩
 refine au [3,14,14,14,24,6] ?_
 intro g8
 refine av [24,0,5,5,0,1,2,2,4,3,25,3,0,1,9] ?_ ?_
 intro _
 refine au [2,4] ?_
 refine qj (cells := [.int .i64 0, .int .i64 0, .int .i64 0, .int .i64 0]) rfl st29 rfl (by kernel_rfl) rfl ?_
 refine au [3,25,6,5,0,1,8,11] ?_
 exact qy () (resL (rs := [.cell 2 29, .tmp 3]) rfl (.cell (i := 1) rfl tf29 rfl rfl (by simp) rfl (.tmp rfl ResOk.nil)) rfl)
 intro _
 refine au [12,1,2] ?_
 refine qq mixed [] [⟨g8, 24, [.slice a6 x5.1.length c7.1]⟩] [Sl (eI .u8) 1 (.slice a2 x1.length c3) x1] (.cons 0 rfl .nil) (qF 0 rfl qm) 11 rfl ?_
 refine au [6,0,26,7,1,19,2,25,7,3,26,7,4] ?_
 refine zG 5 (.agg #[.slice a6 x5.1.length c7.1]) rfl rfl rfl (qZ (i := 0) rfl tf24 rfl rfl (by simp) rfl) ?_
 refine au [6,7,20,6,34,4] ?_
 intro x11 e11 _
 refine au [0,26,10] ?_
 refine qv 8 (.agg #[.int .i64 (x1.length : Int), .int .i64 (x5.1.length : Int), .int .i64 x11, .int .i64 x5.2.1]) rfl rfl rfl (qcz (cells := [.int .i64 (x1.length : Int), .int .i64 (x5.1.length : Int), .int .i64 x11, .int .i64 x5.2.1]) st29 rfl (by kernel_rfl)) ?_
 refine au [20,9,25,6,0,26,10,6,10,24,1] ?_
 refine qt ?_ (by intro c h; cases h)
 refine au [1,8] ?_
 exact qy () (resL (rs := [.cell 2 29, .tmp 3]) rfl (.cell (i := 1) rfl tf29 rfl rfl (by simp) rfl (.tmp rfl ResOk.nil)) rfl)
theorem qgD {F : Nat} {x1 : List Int} {a2 : Option Addr} {c3 : Nat} {x4 : Int} {r : List Int} (hm : kY F x1 x4 = some r) :
    PureM Tryz.prog 33 [.slice a2 x1.length c3, .int .u64 x4] [] [Ro (eI .u8) 5 1 (.slice a2 x1.length c3) x1] [] (Option Addr × Nat) (fun g => .slice g.1 r.length g.2) (fun _ => []) (fun g => [Ro (eI .u8) 5 1 (.slice g.1 r.length g.2) r]) := by
 refine zp Tryz.func33 rfl Tryz.ntmps33 rfl hm (fun w => ?_)
 refine au [24,12,2,4,5,0,1] ?_
 refine qe (fun (((x48, x49), (a46, c47)) : ((List Int × Int) × (Option Addr × Nat))) => ([(0, .slice a46 x48.length c47), (1, .int .u64 x49)], [], [Ro (eI .u8) 5 1 (.slice a46 x48.length c47) x48], [], qaV F x48 x49)) ?_ ?_
 refine au [15] ?_
 refine qk (fun (((x69, x70), (a67, c68)) : ((List Int × Int) × (Option Addr × Nat))) => ([(0, .slice a67 x69.length c68), (1, .int .u64 x70)], [], [Ro (eI .u8) 5 1 (.slice a67 x69.length c68) x69], [])) (fun k (s : ((List Int × Int) × (Option Addr × Nat))) => yx F k s.1) ((x1, x4), (a2, c3)) F ?_
 intro k83
 rintro ⟨⟨x69, x70⟩, ⟨a67, c68⟩⟩
 try dsimp only
 refine qz (m' := jW F (yx F k83) x69 x70) rfl ?_
 refine av [2,2,4,3,26,0,0,1,9] ?_ ?_
 intro _
 refine au [12,1,2,15,4,3,3,24,14,29,0] ?_
 refine qu (vs := [.int .u8 (ior .u8 (iconv .u8 x70) 128)]) (ys := ([ior .u8 (iconv .u8 x70) 128] : List Int)) (qr .u8) (by decide) rfl Tryz.underlying27 tf5 rfl rfl rfl rfl rfl (by decide) (fun a90 c91 => zW 1 (qr .u8) rfl Tryz.underlying27 tf5 rfl rfl rfl rfl rfl (.inl ⟨0, _, rfl⟩) rfl rfl (fun x92 e92 a93 c94 => ?_))
 refine au [5,0,24,4,1,4,3,27,5,5,0] ?_
 exact qi ((x92, ishr .u64 x70 7), (a93, c94))
 intro _
 refine au [24,8,18,18,24,9] ?_
 exact qa ((x69, x70), (a67, c68))
 rintro ⟨⟨x48, x49⟩, ⟨a46, c47⟩⟩
 try dsimp only
 refine au [2,4,3,3,24,14] ?_
 refine qu (vs := [.int .u8 (iconv .u8 x49)]) (ys := ([iconv .u8 x49] : List Int)) (qr .u8) (by decide) rfl Tryz.underlying27 tf5 rfl rfl rfl rfl rfl (by decide) (fun a50 c51 => zW 1 (qr .u8) rfl Tryz.underlying27 tf5 rfl rfl rfl rfl rfl (.inl ⟨0, _, rfl⟩) rfl rfl (fun x52 e52 a53 c54 => ?_))
 refine au [5,0,1,8] ?_
 exact zl (a53, c54)
set_option maxHeartbeats 4000000 in
theorem qew {F : Nat} {x1 : List (List Int)} {a2 : Option Addr} {c3 : Nat} {s3 : List (Option Addr × Nat)} {r : List Int} (hm : jO F x1 = some r) :
    Pure Tryz.prog 19 [.agg #[.slice a2 x1.length c3]] [SlN eN59 iN59 1 (.slice a2 x1.length c3) x1 s3] (Option Addr × Nat) (fun g => .slice g.1 r.length g.2) (fun g => [Ro (eI .u8) 5 1 (.slice g.1 r.length g.2) r]) (fun _ => []) := by
 refine qh Tryz.func19 rfl Tryz.ntmps19 rfl hm (fun w => ?_)
 refine au [25,5,2,4,24,5] ?_
 intro g4
 refine au [5,0,1] ?_
 refine qe (fun ((x33, (a31, c32)) : (List Int × (Option Addr × Nat))) => ([(1, .pointer (some ⟨g4, 0, none⟩)), (3, .slice a31 x33.length c32)], [⟨g4, 24, [.slice a2 x1.length c3]⟩], [Ro (eI .u8) 5 1 (.slice a31 x33.length c32) x33], [SlN eN59 iN59 1 (.slice a2 x1.length c3) x1 s3], ye F x1 x33)) ?_ ?_
 refine qq mixed [] [⟨g4, 24, [.slice a2 x1.length c3]⟩] [SlN eN59 iN59 1 (.slice a2 x1.length c3) x1 s3] (.cons 0 rfl .nil) (qF 0 rfl qm) 10 rfl ?_
 refine au [19,4,25,7,5,26,7,6,31,8,7] ?_
 refine qb7 0 2 rfl rfl (by kernel_rfl) rfl rfl ?_ ?_
 refine qef (vs := [.int .u8 76, .int .u8 87]) (ys := ([76, 87] : List Int)) (qr .u8) (by decide) rfl Tryz.underlying27 tf5 rfl rfl rfl rfl rfl (by decide) (by decide) (fun g761 => ?_)
 refine au [0,26,10] ?_
 refine qb7 1 2 rfl rfl (by kernel_rfl) rfl rfl ?_ ?_
 refine au [30,8,0,26,11,20,2] ?_
 refine qu (vs := [.int .u8 1]) (ys := ([1] : List Int)) (qr .u8) (by decide) rfl Tryz.underlying27 tf5 rfl rfl rfl rfl rfl (by decide) (fun a762 c763 => ?_)
 refine au [0,26,11,20,3] ?_
 refine qdN 0 rfl Tryz.underlying27 tf5 rfl rfl rfl rfl rfl (.inl ⟨0, _, rfl⟩) (by decide) rfl rfl (fun x764 e764 a765 c766 => ?_)
 refine au [0,26,11,20,8,28,0] ?_
 rintro x767 e767 ⟨a768, c769⟩
 refine au [0,26,11,6,9,24,1] ?_
 exact qt (qa (x767, (a768, c769))) (by intro c h; cases h)
 refine qb9 (m' := ((app 140737488355328 ([76, 87] : List Int) ([1] : List Int)).bind fun x772 => ((kY F x772 (iconv .u64 (x1.length : Int))).bind fun x775 => ye F x1 x775))) (rfl) (qu (vs := [.int .u8 1]) (ys := ([1] : List Int)) (qr .u8) (by decide) rfl Tryz.underlying27 tf5 rfl rfl rfl rfl rfl (by decide) (fun a770 c771 => ?_))
 refine au [0,26,10,20,1] ?_
 refine qgf (j := 1) rfl UnF.u UnF.u rfl rfl rfl ?_
 refine au [0,26,11,20,3] ?_
 refine qdN 0 rfl Tryz.underlying27 tf5 rfl rfl rfl rfl rfl (.inl ⟨0, _, rfl⟩) (by decide) rfl rfl (fun x772 e772 a773 c774 => ?_)
 refine au [0,26,11,20,8,28,0] ?_
 rintro x775 e775 ⟨a776, c777⟩
 refine au [0,26,11,6,9,24,1] ?_
 exact qt (qa (x775, (a776, c777))) (by intro c h; cases h)
 refine qb9 (m' := ((app 140737488355328 ([76, 87] : List Int) ([1] : List Int)).bind fun x781 => ((kY F x781 (iconv .u64 (x1.length : Int))).bind fun x784 => ye F x1 x784))) (rfl) (qu (vs := [.int .u8 1]) (ys := ([1] : List Int)) (qr .u8) (by decide) rfl Tryz.underlying27 tf5 rfl rfl rfl rfl rfl (by decide) (fun a778 c779 => ?_))
 refine au [0,26,10,20,0] ?_
 refine qef (vs := [.int .u8 76, .int .u8 87]) (ys := ([76, 87] : List Int)) (qr .u8) (by decide) rfl Tryz.underlying27 tf5 rfl rfl rfl rfl rfl (by decide) (by decide) (fun g780 => ?_)
 refine au [0,26,10,20,1,30,8,0,26,11,20,3] ?_
 refine qdN 0 rfl Tryz.underlying27 tf5 rfl rfl rfl rfl rfl (.inl ⟨0, _, rfl⟩) (by decide) rfl rfl (fun x781 e781 a782 c783 => ?_)
 refine au [0,26,11,20,8,28,0] ?_
 rintro x784 e784 ⟨a785, c786⟩
 refine au [0,26,11,6,9,24,1] ?_
 exact qt (qa (x784, (a785, c786))) (by intro c h; cases h)
 rintro ⟨x33, ⟨a31, c32⟩⟩
 try dsimp only
 refine qe (fun ((x398, (a396, c397)) : (List Int × (Option Addr × Nat))) => ([(3, .slice a396 x398.length c397)], [], [Ro (eI .u8) 5 1 (.slice a396 x398.length c397) x398], [], jD F x398)) ?_ ?_
 refine au [2,4,13,21,23,3,0,1,15] ?_
 refine qk (fun (((x520, x521), (a518, c519)) : ((List Int × Int) × (Option Addr × Nat))) => ([(3, .slice a518 x520.length c519), (18, .slice a2 x1.length c3), (19, .int .i64 (x1.length : Int)), (20, .int .i64 x521)], [], [Ro (eI .u8) 5 1 (.slice a518 x520.length c519) x520], [SlN eN59 iN59 1 (.slice a2 x1.length c3) x1 s3])) (fun k (s : ((List Int × Int) × (Option Addr × Nat))) => qL F x1 k s.1) ((x33, 0), (a31, c32)) F ?_
 intro k641
 rintro ⟨⟨x520, x521⟩, ⟨a518, c519⟩⟩
 try dsimp only
 refine qz (m' := yO F x1 (qL F x1 k641) x520 x521) rfl ?_
 refine av [2,4,24,2,0,1,2,9] ?_ ?_
 intro _
 refine au [12,1] ?_
 refine qe (fun ((x702, (a700, c701)) : (List Int × (Option Addr × Nat))) => ([(3, .slice a700 x702.length c701), (18, .slice a2 x1.length c3), (19, .int .i64 (x1.length : Int)), (20, .int .i64 x521)], [], [Ro (eI .u8) 5 1 (.slice a700 x702.length c701) x702], [SlN eN59 iN59 1 (.slice a2 x1.length c3) x1 s3], yQ F (qL F x1 k641) x521 x702)) ?_ ?_
 refine au [15,2,4,3,27,3] ?_
 intro x703 e703 g706 b704 o705
 refine au [25,9,5,5,0,1,2,4,3,3,23,24,14,28,0] ?_
 rintro x707 e707 ⟨a708, c709⟩
 refine au [5,0,1,2,4,3,3,29,13] ?_
 rintro x710 e710 ⟨a711, c712⟩
 refine au [23,3,0,1,15] ?_
 refine qk (fun (((x729, x730), (a727, c728)) : ((List Int × Int) × (Option Addr × Nat))) => ([(3, .slice a727 x729.length c728), (18, .slice a2 x1.length c3), (19, .int .i64 (x1.length : Int)), (20, .int .i64 x521), (32, .slice a711 x710.length c712), (33, .int .i64 (x710.length : Int)), (34, .int .i64 x730)], [], [Ro (eI .u8) 5 1 (.slice a727 x729.length c728) x729, Ro (eI .u64) 58 1 (.slice a711 x710.length c712) x710], [SlN eN59 iN59 1 (.slice a2 x1.length c3) x1 s3])) (fun k (s : ((List Int × Int) × (Option Addr × Nat))) => ko F (qL F x1 k641) x521 x710 k s.1) ((x707, 0), (a708, c709)) F ?_
 intro k745
 rintro ⟨⟨x729, x730⟩, ⟨a727, c728⟩⟩
 try dsimp only
 refine qz (m' := yP F (qL F x1 k641) x521 x710 (ko F (qL F x1 k641) x521 x710 k745) x729 x730) rfl ?_
 refine av [2,4,24,2,0,1,2,9] ?_ ?_
 intro _
 refine au [12,1,2,15,2,4,34,5] ?_
 intro x753 e753 g754 h755
 refine qgh (j := 1) (y := x753) (qr .u64) rfl rfl tf58 rfl h755 (zF e753).2.2 (fun _ => rfl) rfl rfl ?_
 refine au [5,0,1,4,3,3,28,0] ?_
 rintro x756 e756 ⟨a757, c758⟩
 refine au [5,0,24,4,1,4,16,3,0] ?_
 exact qi ((x756, iadd .i64 x730 1), (a757, c758))
 intro _
 refine au [24,8,18,18,24,9,24,4] ?_
 exact qa (x729, (a727, c728))
 rintro ⟨x702, ⟨a700, c701⟩⟩
 try dsimp only
 refine au [4,16,3,0] ?_
 exact qi ((x702, iadd .i64 x521 1), (a700, c701))
 intro _
 refine au [24,8,18,18,24,9] ?_
 exact qa (x520, (a518, c519))
 rintro ⟨x398, ⟨a396, c397⟩⟩
 try dsimp only
 refine au [2,4,3,5,0,1,8] ?_
 exact qn (a396, c397)
set_option maxHeartbeats 4000000 in
theorem qev {F : Nat} {x1 : List (List Int)} {a2 : Option Addr} {c3 : Nat} {s3 : List (Option Addr × Nat)} {x4 : Int} {x5 : Int} {x6 : Int} {r : (List Int × Int)} (hm : jN F x1 x4 x5 x6 = some r) :
    Pure Tryz.prog 20 [.agg #[.slice a2 x1.length c3], .agg #[.int .i64 x4, .int .i64 x5, .int .i64 x6]] [SlN eN59 iN59 1 (.slice a2 x1.length c3) x1 s3] (Option Addr × Nat) (fun g => .tuple #[.slice g.1 r.1.length g.2, .int .i64 r.2]) (fun g => [Ro (eI .u8) 5 1 (.slice g.1 r.1.length g.2) r.1]) (fun _ => []) := by
 refine qh Tryz.func20 rfl Tryz.ntmps20 rfl hm (fun w => ?_)
 refine au [24,12,2,4,24,5] ?_
 intro g7
 refine au [24,5] ?_
 intro g8
 refine au [5,5,0,1,2,4,25,8,25,0,33,14] ?_
 rintro x9 e9 ⟨a10, c11⟩
 refine au [3,14,14,24,6] ?_
 intro g12
 refine av [24,0,5,0,1,2,2,4,3,25,3,0,1,9] ?_ ?_
 intro _
 refine au [2,4,3,5,5,0,1,8,11,26,2] ?_
 exact qn (none, 0)
 intro _
 refine au [12,1,2,4] ?_
 refine qef (vs := [.int .u8 76, .int .u8 87]) (ys := ([76, 87] : List Int)) (qr .u8) (by decide) rfl Tryz.underlying27 tf5 rfl rfl rfl rfl rfl (by decide) (by decide) (fun g14 => ?_)
 refine au [30,8] ?_
 refine qu (vs := [.int .u8 2]) (ys := ([2] : List Int)) (qr .u8) (by decide) rfl Tryz.underlying27 tf5 rfl rfl rfl rfl rfl (by decide) (fun a15 c16 => qdN 0 rfl Tryz.underlying27 tf5 rfl rfl rfl rfl rfl (.inl ⟨0, _, rfl⟩) (by decide) rfl rfl (fun x17 e17 a18 c19 => ?_))
 refine au [5,0,1] ?_
 refine qe (fun ((x71, (a69, c70)) : (List Int × (Option Addr × Nat))) => ([(6, .pointer (some ⟨g12, 0, none⟩)), (8, .slice a69 x71.length c70)], [⟨g12, 75, [.int .i64 x9.1, .int .i64 x9.2.1, .int .i64 x9.2.2.1, .int .i64 x9.2.2.2.1, .int .i64 x9.2.2.2.2.1, .slice a10 x9.2.2.2.2.2.1.length c11]⟩], [Ro (eI .u8) 5 1 (.slice a69 x71.length c70) x71, Ro (eI .u8) 5 1 (.slice a10 x9.2.2.2.2.2.1.length c11) x9.2.2.2.2.2.1], [], jZ F x9 x71)) ?_ ?_
 refine au [2,4,13,21,13,25,11,13,25,11,13,25,11,13,13,21] ?_
 refine qu (vs := [.int .i64 x9.1, .int .i64 x4, .int .i64 x5, .int .i64 x6, .int .i64 x9.2.2.2.2.1]) (ys := ([x9.1, x4, x5, x6, x9.2.2.2.2.1] : List Int)) (qr .i64) (by decide) rfl Tryz.underlying59 tf3 rfl rfl rfl rfl rfl (by decide) (fun a75 c76 => ?_)
 refine au [23,3,0,1,15] ?_
 refine qk (fun (((x93, x94), (a91, c92)) : ((List Int × Int) × (Option Addr × Nat))) => ([(6, .pointer (some ⟨g12, 0, none⟩)), (8, .slice a91 x93.length c92), (35, .slice a75 ([x9.1, x4, x5, x6, x9.2.2.2.2.1] : List Int).length c76), (36, .int .i64 (([x9.1, x4, x5, x6, x9.2.2.2.2.1] : List Int).length : Int)), (37, .int .i64 x94)], [⟨g12, 75, [.int .i64 x9.1, .int .i64 x9.2.1, .int .i64 x9.2.2.1, .int .i64 x9.2.2.2.1, .int .i64 x9.2.2.2.2.1, .slice a10 x9.2.2.2.2.2.1.length c11]⟩], [Ro (eI .u8) 5 1 (.slice a91 x93.length c92) x93, Ro (eI .i64) 3 1 (.slice a75 ([x9.1, x4, x5, x6, x9.2.2.2.2.1] : List Int).length c76) ([x9.1, x4, x5, x6, x9.2.2.2.2.1] : List Int), Ro (eI .u8) 5 1 (.slice a10 x9.2.2.2.2.2.1.length c11) x9.2.2.2.2.2.1], [])) (fun k (s : ((List Int × Int) × (Option Addr × Nat))) => zj F x4 x5 x6 x9 k s.1) ((x17, 0), (a18, c19)) F ?_
 intro k109
 rintro ⟨⟨x93, x94⟩, ⟨a91, c92⟩⟩
 try dsimp only
 refine qz (m' := kC F x4 x5 x6 x9 (zj F x4 x5 x6 x9 k109) x93 x94) rfl ?_
 refine av [2,4,24,2,0,1,2,9] ?_ ?_
 intro _
 refine au [12,1,2,15,2,4,34,5] ?_
 intro x117 e117 g118 h119
 refine qgh (j := 1) (y := x117) (qr .i64) rfl rfl tf3 rfl h119 (zF e117).2.2 (fun _ => rfl) rfl rfl ?_
 refine au [5,0,1,4,3,3,24,14,28,0] ?_
 rintro x120 e120 ⟨a121, c122⟩
 refine au [5,0,24,4,1,4,16,3,0] ?_
 exact qi ((x120, iadd .i64 x94 1), (a121, c122))
 intro _
 refine au [24,8,18,18,24,9] ?_
 exact qa (x93, (a91, c92))
 rintro ⟨x71, ⟨a69, c70⟩⟩
 try dsimp only
 refine au [2,4,3,13,13,21] ?_
 refine zW 0 (qr .u8) rfl Tryz.underlying27 tf5 rfl rfl rfl rfl rfl (.inl ⟨1, _, rfl⟩) rfl rfl (fun x72 e72 a73 c74 => ?_)
 refine au [5,5,0,1,8] ?_
 exact qn (a73, c74)
set_option maxHeartbeats 4000000 in
theorem qhI {F : Nat} {x1 : List (List Int)} {a2 : Option Addr} {c3 : Nat} {s3 : List (Option Addr × Nat)} {x4 : Int} {x5 : Int} {x6 : Int} {x7 : Int} {r : (List Int × Int)} (hm : qaP F x1 x4 x5 x6 x7 = some r) :
    Pure Tryz.prog 10 [.agg #[.slice a2 x1.length c3], .int .i64 x4, .agg #[.int .i64 x5, .int .i64 x6, .int .i64 x7]] [SlN eN59 iN59 1 (.slice a2 x1.length c3) x1 s3] (Option Addr × Nat) (fun g => .tuple #[.slice g.1 r.1.length g.2, .int .i64 r.2]) (fun g => [Ro (eI .u8) 5 1 (.slice g.1 r.1.length g.2) r.1]) (fun _ => []) := by
 refine qh Tryz.func10 rfl Tryz.ntmps10 rfl hm (fun w => ?_)
 refine au [25,12,2,4,24,5] ?_
 intro g8
 refine au [24,5] ?_
 intro g9
 refine au [5,5,0,1,2,4,25,8,29,4] ?_
 intro x10 e10 _
 refine au [5,0,1] ?_
 refine qe (fun (((x22, x23), (a20, c21)) : ((List Int × Int) × (Option Addr × Nat))) => ([(6, .slice a20 x22.length c21), (7, .int .i64 x23)], [], [Ro (eI .u8) 5 1 (.slice a20 x22.length c21) x22], [], zX F x22 x23)) ?_ ?_
 refine av [15,2,4,3,25,3,5,0,1,9] ?_ ?_
 intro _
 refine au [12,24,4,26,2] ?_
 exact qa ((([] : List Int), x10), (none, 0))
 intro _
 refine av [2,4,3,25,2,5,0,1,9] ?_ ?_
 intro _
 refine au [4,25,8] ?_
 refine qg qew ?_
 rintro x31 e31 ⟨a32, c33⟩
 refine au [5,0,24,4] ?_
 exact qa ((x31, x10), (a32, c33))
 intro _
 refine av [2,4,3,25,2,5,0,1,9] ?_ ?_
 intro _
 refine au [4,25,8,25,0] ?_
 refine qg qev ?_
 rintro x34 e34 ⟨a35, c36⟩
 refine au [3,14,14,5,5,0,24,4] ?_
 exact qa ((x34.1, x34.2), (a35, c36))
 intro _
 refine au [4,5,0,24,4,26,2] ?_
 exact qa ((([] : List Int), (3 : Int)), (none, 0))
 rintro ⟨⟨x22, x23⟩, ⟨a20, c21⟩⟩
 try dsimp only
 refine qe (fun ((x26, _) : (Int × Unit)) => ([(6, .slice a20 x22.length c21), (7, .int .i64 x26)], [], [Ro (eI .u8) 5 1 (.slice a20 x22.length c21) x22], [], jo F x22 x26)) ?_ ?_
 refine au [2,4,3,25,2,3] ?_
 refine qN 4 ((x23 : Int) == 0) [(6, .slice a20 x22.length c21), (7, .int .i64 x23), (33, .bool (((x23 : Int) == 0) && (decide (4096 < (x22.length : Int)))))] (fun h29 => ?_) (fun h29 => ?_) ?_
 refine qc (os := _) rfl (qE (k := 29) rfl h29 ?_)
 refine au [3,23,24,13,24,10] ?_
 refine qd (d := 33) (v := .bool (((x23 : Int) == 0) && (decide (4096 < (x22.length : Int))))) rfl (by rw [h29]; simp only [Bool.true_and]) ?_
 exact az [0,24,3]
 refine qc (os := _) rfl (qD (k := 29) rfl h29 ?_)
 refine au [10,10,10,24,11] ?_
 refine qd (d := 33) (v := .bool (((x23 : Int) == 0) && (decide (4096 < (x22.length : Int))))) rfl (by rw [h29]; simp only [Bool.false_and]) ?_
 exact az [0,24,3]
 refine qc (os := _) rfl ?_
 refine av [0,1,9] ?_ ?_
 intro _
 refine au [4,5,0] ?_
 exact qa ((2 : Int), ())
 intro _
 refine au [12] ?_
 exact qa (x23, ())
 rintro ⟨x26, _⟩
 try dsimp only
 refine av [2,2,4,3,25,3,0,1,9] ?_ ?_
 intro _
 refine au [2,4,3,5,5,0,1,8,11,26,2] ?_
 exact qn (none, 0)
 intro _
 refine au [12,1,2,4,3,5,5,0,1,8] ?_
 exact qn (a20, c21)
end Go.Proofs.YtlioijpkhffbnaaGreat
