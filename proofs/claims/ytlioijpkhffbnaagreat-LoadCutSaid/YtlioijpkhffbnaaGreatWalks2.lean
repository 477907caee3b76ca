/- Each Go function of this seat computes what its model says, part 2. -/
import Derived.Test.YtlioijpkhffbnaaGreatWalks
namespace Go.Proofs.YtlioijpkhffbnaaGreat
open Go SX
theorem qcQ {F : Nat} {g1 : Nat} {x2 : Int} {x3 : List Int} {a4 : Option Addr} {c5 : Nat} {x6 : Bool} {x7 : Int} {r : (Int × List Int × Bool)} (hm : qM F x2 x3 x6 x7 = some r) :
    PureM Tryz.prog 129 [.pointer (some ⟨g1, 0, none⟩), .int .i64 x7] [⟨g1, 183, [.int .i64 x2, .slice a4 x3.length c5, .bool x6]⟩] [Ro (eI .u8) 5 1 (.slice a4 x3.length c5) x3] [] (Option Addr × Nat) (fun _ => .tuple #[]) (fun g => [⟨g1, 183, [.int .i64 r.1, .slice g.1 r.2.1.length g.2, .bool r.2.2]⟩]) (fun g => [Ro (eI .u8) 5 1 (.slice g.1 r.2.1.length g.2) r.2.1]) := by
 refine zp Tryz.func129 rfl Tryz.ntmps129 rfl hm (fun w => ?_)
 refine au [24,12,4,3,3,24,14,31,15] ?_
 rintro x8 e8 ⟨a9, c10⟩
 refine au [32,0] ?_
 rintro x11 e11 ⟨a12, c13⟩
 refine au [0] ?_
 exact zl (a12, c13)
theorem qeu {F : Nat} {x1 : Int} {r : Bool} (hm : jL F x1 = some r) :
    Pure Tryz.prog 174 [.int .i64 x1] [] Unit (fun _ => .bool r) (fun _ => []) (fun _ => []) := by
 refine qh Tryz.func174 rfl Tryz.ntmps174 rfl hm (fun w => ?_)
 exact az [25,5,2,4,5,0,1,2,4,3,3,25,3,5,0,1,8,17]
set_option maxHeartbeats 4000000 in
theorem qeG {F : Nat} {x1 : Int} {x2 : Int} {r : Bool} (hm : j7 F x1 x2 = some r) :
    Pure Tryz.prog 160 [.int .i64 x1, .int .i64 x2] [] Unit (fun _ => .bool r) (fun _ => []) (fun _ => []) := by
 refine qh Tryz.func160 rfl Tryz.ntmps160 rfl hm (fun w => ?_)
 refine au [24,12,2,4,5,0,1,2,4,3,32,1] ?_
 intro x3 e3 _
 refine au [3] ?_
 refine y9 4 (fun ((x6, _) : (Bool × Unit)) => ([(0, .int .i64 x1), (1, .int .i64 x2), (11, .bool x6)], [], [], [], vN F x1 x2 x6)) ?_ ?_
 refine qc (os := _) rfl ?_
 refine av [26,8] ?_ ?_
 intro h4
 refine qE (k := 7) rfl h4 ?_
 refine au [3,32,1] ?_
 intro x8 e8 _
 refine au [25,1,24,10,0] ?_
 exact qa ((!x8), ())
 intro h4
 refine qD (k := 7) rfl h4 ?_
 refine au [10,10,10,24,11,0] ?_
 exact qa (false, ())
 rintro ⟨x6, _⟩
 try dsimp only
 refine qc (os := _) rfl ?_
 refine au [3] ?_
 refine qN 4 x6 [(16, .bool (x6 || (decide (x1 < x2))))] (fun h7 => ?_) (fun h7 => ?_) ?_
 refine qc (os := _) rfl (qE (k := 12) rfl h7 ?_)
 refine au [10,10,10,24,10] ?_
 refine qd (d := 16) (v := .bool (x6 || (decide (x1 < x2)))) rfl (by rw [h7]; simp only [Bool.true_or]) ?_
 exact az [0,24,3]
 refine qc (os := _) rfl (qD (k := 12) rfl h7 ?_)
 refine au [3,3,24,2,24,11] ?_
 refine qd (d := 16) (v := .bool (x6 || (decide (x1 < x2)))) rfl (by rw [h7]; simp only [Bool.false_or]) ?_
 exact az [0,24,3]
 refine qc (os := _) rfl ?_
 exact az [5,0,1,8,17]
theorem qc5 {F : Nat} {x1 : Int} {r : Bool} (hm : vq F x1 = some r) :
    Pure Tryz.prog 164 [.int .i64 x1] [] Unit (fun _ => .bool r) (fun _ => []) (fun _ => []) := by
 refine qh Tryz.func164 rfl Tryz.ntmps164 rfl hm (fun w => ?_)
 exact az [25,5,2,4,5,0,1,2,4,3,3,25,3,5,0,1,8,17]
set_option maxHeartbeats 4000000 in
theorem qaO {F : Nat} {x1 : List Int} {a2 : Option Addr} {c3 : Nat} {x4 : Int} {r : (Int × Bool)} (hm : zi F x1 x4 = some r) :
    Pure Tryz.prog 147 [.slice a2 x1.length c3, .int .i64 x4] [Sl (eI .i64) 1 (.slice a2 x1.length c3) x1] Unit (fun _ => .tuple #[.int .i64 r.1, .bool r.2]) (fun _ => []) (fun _ => []) := by
 refine qh Tryz.func147 rfl Tryz.ntmps147 rfl hm (fun w => ?_)
 refine au [24,12,2,4,5,5,0,1,2,4,3,23,5,0,1,2,4,3,5,5,0,1] ?_
 refine qe (fun ((x32, _) : (Int × Unit)) => ([(0, .slice a2 x1.length c3), (1, .int .i64 x4), (6, .int .i64 (x1.length : Int)), (7, .int .i64 x32)], [], [], [Sl (eI .i64) 1 (.slice a2 x1.length c3) x1], ke F x1 x4 x32)) ?_ ?_
 refine au [15] ?_
 refine qk (fun (((x85, x86), _) : ((Int × Int) × Unit)) => ([(0, .slice a2 x1.length c3), (1, .int .i64 x4), (6, .int .i64 (x1.length : Int)), (7, .int .i64 x85), (8, .int .i64 x86)], [], [], [Sl (eI .i64) 1 (.slice a2 x1.length c3) x1])) (fun k (s : ((Int × Int) × Unit)) => qG F x1 x4 k s.1) ((0, (x1.length : Int)), ()) F ?_
 intro k95
 rintro ⟨⟨x85, x86⟩, _⟩
 try dsimp only
 refine qz (m' := zk F x1 x4 (qG F x1 x4 k95) x85 x86) rfl ?_
 refine av [2,2,4,3,3,24,2,0,1,9] ?_ ?_
 intro _
 refine au [12,1,15,2,4,3,3,16,24,14,27,5,24,14,5,26,6] ?_
 intro x97 e97
 refine qd (d := 9) (v := .int .i64 x97) rfl (by rw [e97] <;> rfl) ?_
 refine au [0,1,2,4,3,3,26,12] ?_
 intro x98 e98 b99 o100
 refine au [25,9,3] ?_
 refine qg qeG ?_
 intro x101 e101 _
 refine av [0,1,9] ?_ ?_
 intro _
 refine au [4,3,16,5,0,24,4] ?_
 exact qi ((iadd .i64 x97 1, x86), ())
 intro _
 refine au [4,3,5,0,24,4] ?_
 exact qi ((x85, x97), ())
 intro _
 refine au [24,8,18,18,24,9] ?_
 exact qa (x85, ())
 rintro ⟨x32, _⟩
 try dsimp only
 refine au [2,4,3,3,3,24,2,3] ?_
 refine y9 18 (fun ((x55, _) : (Bool × Unit)) => ([(31, .int .i64 x32), (53, .bool x55)], [], [], [], kf F x32 x55)) ?_ ?_
 refine qc (os := _) rfl ?_
 refine av [26,8] ?_ ?_
 intro h33
 refine qE (k := 35) rfl h33 ?_
 refine au [3,3,26,12] ?_
 intro x56 e56 b57 o58
 refine au [25,9,3,25,2,3] ?_
 refine y9 10 (fun ((x68, _) : (Bool × Unit)) => ([(31, .int .i64 x32), (35, .bool true), (52, .bool x68)], [], [], [], kg F x32 x68)) ?_ ?_
 refine qc (os := _) rfl ?_
 refine av [26,8] ?_ ?_
 intro h59
 refine qE (k := 42) rfl h59 ?_
 refine au [10,10,10,10,10,10,10,10,10,24,10,0] ?_
 exact qa (true, ())
 intro h59
 refine qD (k := 42) rfl h59 ?_
 refine au [3,3,29,9] ?_
 intro x69 e69 b70 o71
 refine au [25,9,32,2] ?_
 intro x72 e72 _
 refine au [3] ?_
 refine y9 3 (fun ((x75, _) : (Bool × Unit)) => ([(31, .int .i64 x32), (35, .bool true), (42, .bool false), (51, .bool x75)], [], [], [], kh F x32 x75)) ?_ ?_
 refine qc (os := _) rfl ?_
 refine av [26,8] ?_ ?_
 intro h73
 refine qE (k := 48) rfl h73 ?_
 refine au [3,32,2] ?_
 intro x76 e76 _
 refine au [24,10,0] ?_
 exact qa (x76, ())
 intro h73
 refine qD (k := 48) rfl h73 ?_
 refine au [10,10,24,11,0] ?_
 exact qa (false, ())
 rintro ⟨x75, _⟩
 try dsimp only
 refine qc (os := _) rfl ?_
 refine au [24,11,0] ?_
 exact qa (x75, ())
 rintro ⟨x68, _⟩
 try dsimp only
 refine qc (os := _) rfl ?_
 refine au [24,10,0] ?_
 exact qa (x68, ())
 intro h33
 refine qD (k := 35) rfl h33 ?_
 refine au [10,10,10,10,10,10,10,10,10,10,10,10,10,10,10,10,10,24,11,0] ?_
 exact qa (false, ())
 rintro ⟨x55, _⟩
 try dsimp only
 refine qc (os := _) rfl ?_
 exact az [5,5,0,1,8,17]
set_option maxHeartbeats 4000000 in
theorem qc4 {F : Nat} {g1 : Nat} {x2 : List Int} {a3 : Option Addr} {c4 : Nat} {x5 : Bool} {x6 : Int} {x7 : Bool} {r : (List Int × Bool × Int)} (hm : vp F x2 x5 x6 x7 = some r) :
    PureM Tryz.prog 148 [.pointer (some ⟨g1, 0, none⟩), .bool x7] [⟨g1, 214, [.slice a3 x2.length c4, .bool x5, .int .i64 x6]⟩] [Ro (eI .i64) 3 1 (.slice a3 x2.length c4) x2] [] (Option Addr × Nat) (fun _ => .tuple #[]) (fun g => [⟨g1, 214, [.slice g.1 r.1.length g.2, .bool r.2.1, .int .i64 r.2.2]⟩]) (fun g => [Ro (eI .i64) 3 1 (.slice g.1 r.1.length g.2) r.1]) := by
 refine zp Tryz.func148 rfl Tryz.ntmps148 rfl hm (fun w => ?_)
 refine au [24,12] ?_
 refine qe (fun (((x21, x22, x23), (a19, c20)) : ((List Int × Bool × Int) × (Option Addr × Nat))) => ([(0, .pointer (some ⟨g1, 0, none⟩))], [⟨g1, 214, [.slice a19 x21.length c20, .bool x22, .int .i64 x23]⟩], [Ro (eI .i64) 3 1 (.slice a19 x21.length c20) x21], [], yk F x21 x22 x23)) ?_ ?_
 refine au [2,4,3,3,24,7,13,21] ?_
 refine qoK rfl UnF.u rfl rfl rfl ?_
 refine av [0,1,9] ?_ ?_
 intro _
 refine au [2] ?_
 refine qq mixed [13] [] [(BlkD.is ⟨g1, 214, [.slice a3 x2.length c4, .bool x5, .int .i64 x6]⟩)] .nil (qey 0 rfl qm) 14 rfl ?_
 refine au [6,0,6,1,6,2,19,3] ?_
 refine zr 4 (.slice a3 x2.length c4) [[13]] rfl rfl rfl (vG (j := 0) rfl tf59 rfl rfl (fun _ => rfl) rfl) ?_
 refine au [6,5,6,6,19,7] ?_
 refine zr 8 (.int .i64 x6) [[13]] rfl rfl rfl (vG (j := 0) rfl tf3 rfl rfl (fun _ => rfl) rfl) ?_
 refine au [20,9] ?_
 refine qu (vs := [.int .i64 x6]) (ys := ([x6] : List Int)) (qr .i64) (by decide) rfl Tryz.underlying59 tf3 rfl rfl rfl rfl rfl (by decide) (fun a29 c30 => ?_)
 refine au [0,29,1,20,10] ?_
 refine zW 1 (qr .i64) rfl Tryz.underlying59 tf3 rfl rfl rfl rfl rfl (.inl ⟨0, _, rfl⟩) rfl rfl (fun x31 e31 a32 c33 => ?_)
 refine au [0,29,1,6,11,19,12,20,13,24,0,0] ?_
 refine qaS 13 rfl (by kernel_rfl) .nil ?_
 refine au [24,1] ?_
 refine qt ?_ (by intro c h; cases h)
 refine au [1,4,3,3,3,24,7,13,24,0,24,7,13,24,0,0] ?_
 exact qa ((x31, x7, (0 : Int)), (a32, c33))
 intro _
 refine au [12] ?_
 exact qa ((x2, x5, x6), (a3, c4))
 rintro ⟨⟨x21, x22, x23⟩, ⟨a19, c20⟩⟩
 try dsimp only
 refine au [4,3,24,7,13,21,16,24,7,13,24,0,0] ?_
 exact zl (a19, c20)
set_option maxHeartbeats 4000000 in
theorem qhO {F : Nat} {x1 : List Int} {a2 : Option Addr} {c3 : Nat} {x4 : List Int} {a5 : Option Addr} {c6 : Nat} {r : (List Int × List Int)} (hm : qbv F x1 x4 = some r) :
    Pure Tryz.prog 130 [.slice a2 x1.length c3, .slice a5 x4.length c6] [Sl (eI .i64) 1 (.slice a2 x1.length c3) x1, Sl (eI .i64) 1 (.slice a5 x4.length c6) x4] ((Option Addr × Nat) × (Option Addr × Nat)) (fun g => .tuple #[.slice g.1.1 r.1.length g.1.2, .slice g.2.1 r.2.length g.2.2]) (fun g => [Ro (eI .i64) 3 1 (.slice g.1.1 r.1.length g.1.2) r.1, Ro (eI .i64) 3 1 (.slice g.2.1 r.2.length g.2.2) r.2]) (fun _ => []) := by
 refine qh Tryz.func130 rfl Tryz.ntmps130 rfl hm (fun w => ?_)
 refine au [24,12,2,4,5,5,0,1,2,4] ?_
 refine qj (cells := [.slice none 0 0, .bool true, .int .i64 0]) rfl st214 rfl (by kernel_rfl) rfl ?_
 refine au [24,5] ?_
 intro g7
 refine au [5,0,1] ?_
 refine qe (fun (((x66, x67, x68), (a64, c65)) : ((List Int × Bool × Int) × (Option Addr × Nat))) => ([(0, .slice a2 x1.length c3), (1, .slice a5 x4.length c6), (5, .slice none 0 0), (6, .pointer (some ⟨g7, 0, none⟩))], [⟨g7, 214, [.slice a64 x66.length c65, .bool x67, .int .i64 x68]⟩], [Ro (eI .i64) 3 1 (.slice a64 x66.length c65) x66], [Sl (eI .i64) 1 (.slice a2 x1.length c3) x1, Sl (eI .i64) 1 (.slice a5 x4.length c6) x4], qbd F x1 x4 x66 x67 x68)) ?_ ?_
 refine au [2,4,3,23,3,0,1,15,27,6] ?_
 refine qk (fun (((x249, x252, x253, x254), (a250, c251)) : ((Int × List Int × Bool × Int) × (Option Addr × Nat))) => ([(0, .slice a2 x1.length c3), (1, .slice a5 x4.length c6), (5, .slice none 0 0), (6, .pointer (some ⟨g7, 0, none⟩)), (17, .slice a2 x1.length c3), (18, .int .i64 (x1.length : Int)), (19, .int .i64 x249)], [⟨g7, 214, [.slice a250 x252.length c251, .bool x253, .int .i64 x254]⟩], [Ro (eI .i64) 3 1 (.slice a250 x252.length c251) x252], [Sl (eI .i64) 1 (.slice a2 x1.length c3) x1, Sl (eI .i64) 1 (.slice a5 x4.length c6) x4])) (fun k (s : ((Int × List Int × Bool × Int) × (Option Addr × Nat))) => yr F x1 x4 k s.1) ((0, ([] : List Int), true, 0), (none, 0)) F ?_
 intro k271
 rintro ⟨⟨x249, x252, x253, x254⟩, ⟨a250, c251⟩⟩
 try dsimp only
 refine qz (m' := jT F x1 x4 (yr F x1 x4 k271) x249 x252 x253 x254) rfl ?_
 refine av [2,4,24,2,0,1,2,9] ?_ ?_
 intro _
 refine au [12,1,2,15,2,4,26,12] ?_
 intro x280 e280 b281 o282
 refine au [25,9,5,0,1,2,4,3,3,32,3] ?_
 intro x283 e283 _
 refine au [3,14,14,5,5,0,1,4,3,3] ?_
 refine qT qc4 ?_
 rintro x284 e284 ⟨a285, c286⟩
 refine au [0,24,4,1,4,16,3,0] ?_
 exact qi ((iadd .i64 x249 1, x284.1, x284.2.1, x284.2.2), (a285, c286))
 intro _
 refine au [24,8,18,18,24,9] ?_
 exact qa ((x252, x253, x254), (a250, c251))
 rintro ⟨⟨x66, x67, x68⟩, ⟨a64, c65⟩⟩
 try dsimp only
 refine qe (fun ((x151, (a149, c150)) : (List Int × (Option Addr × Nat))) => ([(5, .slice a149 x151.length c150), (6, .pointer (some ⟨g7, 0, none⟩))], [⟨g7, 214, [.slice a64 x66.length c65, .bool x67, .int .i64 x68]⟩], [Ro (eI .i64) 3 1 (.slice a149 x151.length c150) x151, Ro (eI .i64) 3 1 (.slice a64 x66.length c65) x66], [], qbe F x66 x151)) ?_ ?_
 refine au [2,4,3,23,3,0,1,15,27,6] ?_
 refine qk (fun (((x179, x180), (a177, c178)) : ((List Int × Int) × (Option Addr × Nat))) => ([(0, .slice a2 x1.length c3), (5, .slice a177 x179.length c178), (6, .pointer (some ⟨g7, 0, none⟩)), (33, .slice a5 x4.length c6), (34, .int .i64 (x4.length : Int)), (35, .int .i64 x180)], [⟨g7, 214, [.slice a64 x66.length c65, .bool x67, .int .i64 x68]⟩], [Ro (eI .i64) 3 1 (.slice a177 x179.length c178) x179, Ro (eI .i64) 3 1 (.slice a64 x66.length c65) x66], [Sl (eI .i64) 1 (.slice a2 x1.length c3) x1, Sl (eI .i64) 1 (.slice a5 x4.length c6) x4])) (fun k (s : ((List Int × Int) × (Option Addr × Nat))) => kS F x1 x4 x66 k s.1) ((([] : List Int), 0), (none, 0)) F ?_
 intro k206
 rintro ⟨⟨x179, x180⟩, ⟨a177, c178⟩⟩
 try dsimp only
 refine qz (m' := jS F x1 x4 x66 (kS F x1 x4 x66 k206) x179 x180) rfl ?_
 refine av [2,4,24,2,0,1,2,9] ?_ ?_
 intro _
 refine au [12,1] ?_
 refine qe (fun ((x220, (a218, c219)) : (List Int × (Option Addr × Nat))) => ([(0, .slice a2 x1.length c3), (5, .slice a218 x220.length c219), (6, .pointer (some ⟨g7, 0, none⟩)), (33, .slice a5 x4.length c6), (34, .int .i64 (x4.length : Int)), (35, .int .i64 x180)], [⟨g7, 214, [.slice a64 x66.length c65, .bool x67, .int .i64 x68]⟩], [Ro (eI .i64) 3 1 (.slice a218 x220.length c219) x220, Ro (eI .i64) 3 1 (.slice a64 x66.length c65) x66], [Sl (eI .i64) 1 (.slice a2 x1.length c3) x1, Sl (eI .i64) 1 (.slice a5 x4.length c6) x4], jU F (kS F x1 x4 x66 k206) x180 x220)) ?_ ?_
 refine au [15,2,4,29,9] ?_
 intro x221 e221 b222 o223
 refine au [25,9,5,0,1,2,4,3,3,32,3] ?_
 intro x224 e224 _
 refine av [3,14,14,5,5,0,1,2,4,3,25,1,0,1,9] ?_ ?_
 intro _
 refine au [4,3,3] ?_
 refine qu (vs := [.int .i64 x221]) (ys := ([x221] : List Int)) (qr .i64) (by decide) rfl Tryz.underlying59 tf3 rfl rfl rfl rfl rfl (by decide) (fun a225 c226 => zW 1 (qr .i64) rfl Tryz.underlying59 tf3 rfl rfl rfl rfl rfl (.inl ⟨0, _, rfl⟩) rfl rfl (fun x227 e227 a228 c229 => ?_))
 refine au [5,0,24,4] ?_
 exact qa (x227, (a228, c229))
 intro _
 refine au [12,24,4] ?_
 exact qa (x179, (a177, c178))
 rintro ⟨x220, ⟨a218, c219⟩⟩
 try dsimp only
 refine au [4,16,3,0] ?_
 exact qi ((x220, iadd .i64 x180 1), (a218, c219))
 intro _
 refine au [24,8,18,18,24,9] ?_
 exact qa (x179, (a177, c178))
 rintro ⟨x151, ⟨a149, c150⟩⟩
 try dsimp only
 refine au [2,4,3,24,7,13,21,3,5,5,0,1,8] ?_
 exact qn ((a64, c65), (a149, c150))
theorem qcm {F : Nat} {g1 : Nat} {x2 : Int} {x3 : List Int} {a4 : Option Addr} {c5 : Nat} {x6 : Bool} {x7 : List Int} {a8 : Option Addr} {c9 : Nat} {r : (Int × List Int × Bool)} (hm : yH F x2 x3 x6 x7 = some r) :
    PureM Tryz.prog 131 [.pointer (some ⟨g1, 0, none⟩), .slice a8 x7.length c9] [⟨g1, 183, [.int .i64 x2, .slice a4 x3.length c5, .bool x6]⟩] [Ro (eI .u8) 5 1 (.slice a4 x3.length c5) x3] [Sl (eI .i64) 1 (.slice a8 x7.length c9) x7] (Option Addr × Nat) (fun _ => .tuple #[]) (fun g => [⟨g1, 183, [.int .i64 r.1, .slice g.1 r.2.1.length g.2, .bool r.2.2]⟩]) (fun g => [Ro (eI .u8) 5 1 (.slice g.1 r.2.1.length g.2) r.2.1]) := by
 refine zp Tryz.func131 rfl Tryz.ntmps131 rfl hm (fun w => ?_)
 refine au [24,12,2,4,3,3,23,27,9] ?_
 rintro x10 e10 ⟨a11, c12⟩
 refine au [0,1,2,4,3,23,3,0,1,15] ?_
 refine qk (fun (((x27, x28, x31, x32), (a29, c30)) : ((Int × Int × List Int × Bool) × (Option Addr × Nat))) => ([(0, .pointer (some ⟨g1, 0, none⟩)), (10, .slice a8 x7.length c9), (11, .int .i64 (x7.length : Int)), (12, .int .i64 x27)], [⟨g1, 183, [.int .i64 x28, .slice a29 x31.length c30, .bool x32]⟩], [Ro (eI .u8) 5 1 (.slice a29 x31.length c30) x31], [Sl (eI .i64) 1 (.slice a8 x7.length c9) x7])) (fun k (s : ((Int × Int × List Int × Bool) × (Option Addr × Nat))) => zy F x7 k s.1) ((0, x10.1, x10.2.1, x10.2.2), (a11, c12)) F ?_
 intro k47
 rintro ⟨⟨x27, x28, x31, x32⟩, ⟨a29, c30⟩⟩
 try dsimp only
 refine qz (m' := kP F x7 (zy F x7 k47) x27 x28 x31 x32) rfl ?_
 refine av [2,4,24,2,0,1,2,9] ?_ ?_
 intro _
 refine au [12,1,2,15,2,4,3,26,12] ?_
 intro x55 e55 b56 o57
 refine au [25,9,5,5,0,1,4,3,3,3,27,11,24,15,27,9] ?_
 rintro x58 e58 ⟨a59, c60⟩
 refine au [0,24,4,1,4,16,3,0] ?_
 exact qi ((iadd .i64 x27 1, x58.1, x58.2.1, x58.2.2), (a59, c60))
 intro _
 refine au [24,8,18,18,24,9] ?_
 exact zl (a29, c30)
theorem qhP {F : Nat} {x1 : List Int} {a2 : Option Addr} {c3 : Nat} {r : Unit} (hm : qco F x1 = some r) :
    PureM Tryz.prog 149 [.slice a2 x1.length c3] [] [] [Sl (eI .i64) 1 (.slice a2 x1.length c3) x1] Nat (fun g => .func (.func 165) #[] #[.pointer (some ⟨g, 0, none⟩)]) (fun g => [⟨g, 59, [.slice a2 x1.length c3]⟩]) (fun _ => []) := by
 refine zp Tryz.func149 rfl Tryz.ntmps149 rfl hm (fun w => ?_)
 refine au [25,5,2,4,24,5] ?_
 intro g4
 refine au [5,0,1,2,4,29,7,5,0,1,8] ?_
 exact zl g4
set_option maxHeartbeats 4000000 in
theorem qfw (F : Nat) {σ τ : Type} {J : Rounds σ τ} {yy : σ → (Int × Int) → Option (σ ⊕ τ)} {L : Nat} (hY : YieldC Tryz.prog L (fun (p : (Int × Int)) => [.agg #[.int .i64 p.1, .int .i64 p.2]]) J yy) (s0 : σ) (gs0 : J.γ) (g1 : Nat) (x2 : List Int) (a3 : Option Addr) (c4 : Nat) (r : σ ⊕ τ) (hm : jH F yy x2 s0 = some r) :
    PureM Tryz.prog 165 ([.func (.yield L) #[] #[], .pointer (some ⟨g1, 0, none⟩)]) ([⟨g1, 59, [.slice a3 x2.length c4]⟩] ++ J.IB s0 gs0) (J.IR s0 gs0) [J.F, Sl (eI .i64) 1 (.slice a3 x2.length c4) x2] (J.G r) (fun _ => .tuple #[]) (fun g => [⟨g1, 59, [.slice a3 x2.length c4]⟩] ++ J.bs r g) (fun g => J.rs r g) := by
 refine zp Tryz.func165 rfl Tryz.ntmps165 rfl hm (fun w => ?_)
 refine au [24,12,2,4,5,0,1,15] ?_
 refine qcL (fun (((x266, x267), g268) : ((Int × σ) × J.γ)) => [(0, .func (.yield L) #[] #[]), (1, .pointer (some ⟨g1, 0, none⟩)), (3, .int .i64 x266)]) (fun (((x266, x267), g268) : ((Int × σ) × J.γ)) => [⟨g1, 59, [.slice a3 x2.length c4]⟩] ++ J.IB x267 g268) (fun (((x266, x267), g268) : ((Int × σ) × J.γ)) => [] ++ J.IR x267 g268) (fun (((x266, x267), g268) : ((Int × σ) × J.γ)) => [Sl (eI .i64) 1 (.slice a3 x2.length c4) x2, J.F]) (fun k (s : ((Int × σ) × J.γ)) => qI F yy x2 k s.1) ((0, s0), gs0) F ?_ (hB := (.cons 0 rfl (qO 0 rfl))) (hR := (qO 0 rfl)) (hF := (qB 1 rfl (qB 0 rfl js)))
 intro k530
 rintro ⟨⟨x266, x267⟩, g268⟩
 try dsimp only
 refine qz (m' := vX F yy x2 (qI F yy x2 k530) x266 x267) rfl ?_
 refine av [2,2,4,3,21,23,24,2,0,1,9] ?_ ?_
 intro _
 refine au [12,1,15,2,4,5,0,1] ?_
 refine qfe (fun ((x654, _) : (Int × Unit)) => [(0, .func (.yield L) #[] #[]), (1, .pointer (some ⟨g1, 0, none⟩)), (3, .int .i64 x266), (4, .int .i64 x654)]) (fun ((x654, _) : (Int × Unit)) => [⟨g1, 59, [.slice a3 x2.length c4]⟩] ++ J.IB x267 g268) (fun ((x654, _) : (Int × Unit)) => [] ++ J.IR x267 g268) (fun ((x654, _) : (Int × Unit)) => [Sl (eI .i64) 1 (.slice a3 x2.length c4) x2, J.F]) (fun ((x654, _) : (Int × Unit)) => vZ F yy (qI F yy x2 k530) x2 x266 x267 x654) ?_ ?_
 refine au [15] ?_
 refine qcL (fun ((x709, _) : (Int × Unit)) => [(0, .func (.yield L) #[] #[]), (1, .pointer (some ⟨g1, 0, none⟩)), (3, .int .i64 x266), (4, .int .i64 x709)]) (fun ((x709, _) : (Int × Unit)) => [⟨g1, 59, [.slice a3 x2.length c4]⟩] ++ J.IB x267 g268) (fun ((x709, _) : (Int × Unit)) => [] ++ J.IR x267 g268) (fun ((x709, _) : (Int × Unit)) => [Sl (eI .i64) 1 (.slice a3 x2.length c4) x2, J.F]) (fun k (s : (Int × Unit)) => kb F yy (qI F yy x2 k530) x2 x266 x267 k s.1) (1, ()) F ?_ (hB := (.cons 0 rfl (qO 0 rfl))) (hR := (qO 0 rfl)) (hF := (qB 0 rfl (qB 1 rfl js)))
 intro k750
 rintro ⟨x709, _⟩
 try dsimp only
 refine qz (m' := vY F yy (qI F yy x2 k530) x2 x266 x267 (kb F yy (qI F yy x2 k530) x2 x266 x267 k750) x709) rfl ?_
 refine au [2] ?_
 refine qfe (fun ((x780, _) : (Bool × Unit)) => [(0, .func (.yield L) #[] #[]), (1, .pointer (some ⟨g1, 0, none⟩)), (3, .int .i64 x266), (4, .int .i64 x709), (29, .bool x780)]) (fun ((x780, _) : (Bool × Unit)) => [⟨g1, 59, [.slice a3 x2.length c4]⟩] ++ J.IB x267 g268) (fun ((x780, _) : (Bool × Unit)) => [] ++ J.IR x267 g268) (fun ((x780, _) : (Bool × Unit)) => [Sl (eI .i64) 1 (.slice a3 x2.length c4) x2, J.F]) (fun ((x780, _) : (Bool × Unit)) => v6 F yy (qI F yy x2 k530) (kb F yy (qI F yy x2 k530) x2 x266 x267 k750) x2 x266 x267 x709 x780) ?_ ?_
 refine av [26,13] ?_ ?_
 intro h782
 refine au [32,4] ?_
 intro x783 e783 b784 o785 h786
 replace h786 : a3 = some ⟨b784, o785, none⟩ := h786
 refine qbU (j := 1) (qr .i64) (by decide) rfl ?_
 intro x787 e787 b788 o789 h790
 replace h790 : a3 = some ⟨b788, o789, none⟩ := h790
 refine qq mixed [] [⟨g1, 59, [.slice a3 x2.length c4]⟩] [qR b788 (o789 + x266.toNat * 1) ((eI .i64) x787), qR b784 (o785 + (iadd .i64 x266 x709).toNat * 1) ((eI .i64) x783), Sl (eI .i64) 1 (.slice a3 x2.length c4) x2, J.F] (.cons 0 rfl .nil) (qF 0 rfl (qF 1 rfl (qF 2 rfl (qF 3 rfl qm)))) 21 rfl ?_
 refine au [6,0,6,1,6,2,25,7,3,26,7,4,6,5,6,6] ?_
 refine qf (d := 15) (v := .bool true) rfl (by rw [h782] <;> rfl) ?_
 refine au [25,7,7,6,8,6,9,6,10] ?_
 refine qf (d := 16) (v := .slice (some ⟨b784, o785, none⟩) x2.length c4) rfl (by rw [h786] <;> rfl) (qv 11 (.pointer (some ⟨b784, (o785 + (iadd .i64 x266 x709).toNat * 1), none⟩)) rfl rfl rfl (qaW Tryz.underlying59 tf3 rfl rfl (zF e783).1 (qaw e783)) (qf (d := 16) (v := .slice a3 x2.length c4) rfl (by rw [h786] <;> rfl) (zr 12 (.int .i64 x783) [] rfl rfl rfl (vF (j := 1) rfl tf3 rfl rfl (fun _ => rfl) rfl) ?_)))
 refine au [25,7,13,6,14] ?_
 refine qf (d := 22) (v := .slice (some ⟨b788, o789, none⟩) x2.length c4) rfl (by rw [h790] <;> rfl) (qv 15 (.pointer (some ⟨b788, (o789 + x266.toNat * 1), none⟩)) rfl rfl rfl (qaW Tryz.underlying59 tf3 rfl rfl (zF e787).1 (qaw e787)) (qf (d := 22) (v := .slice a3 x2.length c4) rfl (by rw [h790] <;> rfl) (zr 16 (.int .i64 x787) [] rfl rfl rfl (vF (j := 0) rfl tf3 rfl rfl (fun _ => rfl) rfl) ?_)))
 refine au [6,17,6,18,6,19,6,20,24,1] ?_
 exact qt (qcO (((x783 : Int) == (iadd .i64 x787 x709)), ()) (hB := (.cons 0 rfl (qO 0 rfl))) (hR := (qO 0 rfl)) (hF := (qB 2 rfl (qB 3 rfl js)))) (by intro c h; cases h)
 intro h782
 refine qq mixed [] [⟨g1, 59, [.slice a3 x2.length c4]⟩] [Sl (eI .i64) 1 (.slice a3 x2.length c4) x2, J.F] (.cons 0 rfl .nil) (qF 0 rfl (qF 1 rfl qm)) 21 rfl ?_
 refine au [6,0,6,1,6,2,25,7,3,26,7,4,6,5,6,6] ?_
 refine qf (d := 15) (v := .bool false) rfl (by rw [h782] <;> rfl) ?_
 refine au [7,7,7,8,7,9,7,10,7,11,7,12,7,13,7,14,7,15,7,16,7,17,7,18,7,19,6,20,24,1] ?_
 exact qt (qcO (false, ()) (hB := (.cons 0 rfl (qO 0 rfl))) (hR := (qO 0 rfl)) (hF := (qB 0 rfl (qB 1 rfl js)))) (by intro c h; cases h)
 rintro ⟨x780, _⟩
 try dsimp only
 refine av [9] ?_ ?_
 intro _
 refine au [12,1,15,4,3,16,5,0,24,4] ?_
 exact qcb (iadd .i64 x709 1, ()) (hB := (.cons 0 rfl (qO 0 rfl))) (hR := (qO 0 rfl)) (hF := (qB 0 rfl (qB 1 rfl js)))
 intro _
 refine au [24,8,18,18,24,9] ?_
 exact qcO (x709, ()) (hB := (.cons 0 rfl (qO 0 rfl))) (hR := (qO 0 rfl)) (hF := (qB 0 rfl (qB 1 rfl js)))
 rintro ⟨x654, _⟩
 try dsimp only
 refine au [2,2,4,3,21,3,26,12] ?_
 intro x662 e662 b663 o664
 refine au [25,9,3] ?_
 refine qj (cells := [.int .i64 x662, .int .i64 x654]) rfl st129 rfl (by kernel_rfl) rfl (qgi hY x267 (x662, x654) g268 (B1 := [⟨g1, 59, [.slice a3 x2.length c4]⟩]) (R1 := []) (j := 2) rfl rfl rfl rfl rfl rfl rfl (fun x665 _ g667 => ?_) (fun x666 _ g667 => ?_))
 refine au [25,1,0,1] ?_
 refine ju (b := false) rfl (fun h => by cases h) (fun _ => ?_)
 refine au [12,1,4,3,3,16,5,0,24,4] ?_
 exact qcb ((iadd .i64 x266 x654, x665), g667) (hB := (.cons 0 rfl (qO 0 rfl))) (hR := (qO 0 rfl)) (hF := (qB 1 rfl (qB 2 rfl js)))
 refine au [25,1,0,1] ?_
 refine ju (b := true) rfl (fun _ => ?_) (fun h => by cases h)
 refine au [8,11,22,11,22] ?_
 exact qcN (B0 := [⟨g1, 59, [.slice a3 x2.length c4]⟩]) (x := .inr x666) g667 (.inl rfl) (res0 rfl) (.cons 0 rfl (qO 0 rfl)) (qO 0 rfl)
 intro _
 refine au [24,8,18,18,24,9] ?_
 exact qcN (B0 := [⟨g1, 59, [.slice a3 x2.length c4]⟩]) (x := .inl x267) g268 (.inr rfl) (res0 rfl) (.cons 0 rfl (qO 0 rfl)) (qO 0 rfl)
set_option maxHeartbeats 4000000 in
theorem qiY {F : Nat} {x1 : List Int} {a2 : Option Addr} {c3 : Nat} {x4 : Int} {r : (List (Int × Int) × List Int)} (hm : qbY F x1 x4 = some r) :
    PureM Tryz.prog 132 [.slice a2 x1.length c3, .int .i64 x4] [] [] [Sl (eI .i64) 1 (.slice a2 x1.length c3) x1] ((Option Addr × Nat) × (Option Addr × Nat)) (fun g => .tuple #[.slice g.1.1 r.1.length g.1.2, .slice g.2.1 r.2.length g.2.2]) (fun _ => []) (fun g => [Ro eS129 129 2 (.slice g.1.1 r.1.length g.1.2) r.1, Ro (eI .i64) 3 1 (.slice g.2.1 r.2.length g.2.2) r.2]) := by
 refine qir Tryz.func132 rfl Tryz.ntmps132 rfl hm (fun w => ?_)
 refine au [24,12,2,4,24,5] ?_
 intro g5
 refine au [24,6] ?_
 intro g6
 refine au [24,6] ?_
 intro g7
 refine au [0,1,2,2,4,3] ?_
 refine qT qhP ?_
 intro x188 e188 g189
 refine au [0,1,15,27,6] ?_
 refine qb8 (Int × Int) eS129 129 2 (qgd (encs := (fun (p : (Int × Int)) => [.agg #[.int .i64 p.1, .int .i64 p.2]])) (y := (fun ((x252, x255) : (List Int × List (Int × Int))) ((x312, x313) : (Int × Int)) => jG F x4 x252 x255 x312 x313)) (lb := [.pointer (some ⟨g189, 0, none⟩)]) (fun ((x252, x255) : (List Int × List (Int × Int))) ((a250, c251, a253, c254) : (Option Addr × Nat × Option Addr × Nat)) => [⟨g7, 59, [.slice a250 x252.length c251]⟩, ⟨g6, 125, [.slice a253 x255.length c254]⟩, ⟨g5, 3, [.int .i64 x4]⟩]) (fun ((x252, x255) : (List Int × List (Int × Int))) ((a250, c251, a253, c254) : (Option Addr × Nat × Option Addr × Nat)) => [Ro (eI .i64) 3 1 (.slice a250 x252.length c251) x252, Ro eS129 129 2 (.slice a253 x255.length c254) x255]) (fun (_ : Empty) (_ : Unit) => []) (fun (_ : Empty) (_ : Unit) => []) (fun _ => .skip) (([] : List Int), ([] : List (Int × Int))) (none, 0, none, 0) rfl ent165 (fun _ => rfl) rfl (.cons 0 rfl .nil) (.cons 0 rfl (.cons 0 rfl (.cons 0 rfl .nil))) (.cons 1 rfl (.cons 0 rfl .nil)) (.consF 0 rfl .nil) (fun z hz _ _ _ hY => qfw F hY (([] : List Int), ([] : List (Int × Int))) (none, 0, none, 0) g189 x1 a2 c3 z hz) ?_ ?_ ?_)
 rintro rc1 L1 D1 ⟨x252, x255⟩ ⟨a250, c251, a253, c254⟩ ⟨x312, x313⟩ z w M _
 try dsimp only
 refine qiG [(0, .slice a2 x1.length c3), (1, .int .i64 x4), (3, .pointer (some ⟨g5, 0, none⟩)), (4, .pointer (some ⟨g6, 0, none⟩)), (5, .pointer (some ⟨g7, 0, none⟩)), (8, .slice a2 x1.length c3), (9, .func (.func 165) #[] #[.pointer (some ⟨g189, 0, none⟩)]), (10, .agg #[.int .i64 x312, .int .i64 x313])] (zO rfl (zO rfl (zO rfl (zO rfl (zO rfl (zO rfl (zO rfl (zO rfl qd5)))))))) ?_
 refine au [4,24,6] ?_
 intro g314
 refine au [24,0,0] ?_
 refine qgj (i := 4) rfl ?_
 refine av [15,2,2,4,13,21,28,4,26,0,0,1,9] ?_ ?_
 intro _
 refine au [2,4,28,5,25,0] ?_
 refine qu (vs := [.agg #[.int .i64 x312, .int .i64 x313]]) (ys := ([(x312, x313)] : List (Int × Int))) qbO (by decide) rfl Tryz.underlying125 tf129 rfl rfl rfl rfl rfl (by decide) (fun a321 c322 => zW 2 qbO rfl Tryz.underlying125 tf129 rfl rfl rfl rfl rfl (.inl ⟨0, _, rfl⟩) rfl rfl (fun x323 e323 a324 c325 => ?_))
 refine au [25,15,0,1,24,8,18,24,9] ?_
 exact qeg (rc := rc1) rfl (.cons 4 rfl .nil) rfl (a250, c251, a324, c325) (.cons 2 rfl (.cons 2 rfl (.cons 2 rfl (.cons 0 rfl (.cons 1 rfl .nil))))) (.cons 2 rfl (.cons 0 rfl .nil))
 intro _
 refine au [12,1,2,4,13,21,3,0,1,15] ?_
 refine qk (fun (((x338, x341), (a339, c340)) : ((Int × List Int) × (Option Addr × Nat))) => ([(3, .pointer (some ⟨g5, 0, none⟩)), (4, .pointer (some ⟨g6, 0, none⟩)), (5, .pointer (some ⟨g7, 0, none⟩)), (6, .pointer (some ⟨g314, 0, none⟩)), (20, .int .i64 x313), (21, .int .i64 x338)], [⟨g314, 129, [.int .i64 x312, .int .i64 x313]⟩, ⟨g7, 59, [.slice a339 x341.length c340]⟩, ⟨g6, 125, [.slice a253 x255.length c254]⟩, ⟨g5, 3, [.int .i64 x4]⟩, (blkO L1 (.loop (bsy rc1))), (dblk D1)], [Ro (eI .i64) 3 1 (.slice a339 x341.length c340) x341, Ro eS129 129 2 (.slice a253 x255.length c254) x255], [])) (fun k (s : ((Int × List Int) × (Option Addr × Nat))) => vK F x255 x312 x313 k s.1) ((0, x252), (a250, c251)) F ?_
 intro k354
 rintro ⟨⟨x338, x341⟩, ⟨a339, c340⟩⟩
 try dsimp only
 refine qz (m' := qaL F x255 x312 x313 (vK F x255 x312 x313 k354) x338 x341) rfl ?_
 refine av [2,4,24,2,0,1,2,9] ?_ ?_
 intro _
 refine au [12,1,2,15,2,4,3,5,0,1,4,25,11,13,21,3,16] ?_
 refine qu (vs := [.int .i64 (iadd .i64 x312 x338)]) (ys := ([iadd .i64 x312 x338] : List Int)) (qr .i64) (by decide) rfl Tryz.underlying59 tf3 rfl rfl rfl rfl rfl (by decide) (fun a361 c362 => zW 1 (qr .i64) rfl Tryz.underlying59 tf3 rfl rfl rfl rfl rfl (.inl ⟨0, _, rfl⟩) rfl rfl (fun x363 e363 a364 c365 => ?_))
 refine au [25,6,0,24,4,1,4,16,3,0] ?_
 exact qi ((iadd .i64 x338 1, x363), (a364, c365))
 intro _
 refine au [24,8,18,18,24,9,24,4] ?_
 exact qeg (rc := rc1) rfl (.cons 4 rfl .nil) rfl (a339, c340, a253, c254) (.cons 2 rfl (.cons 2 rfl (.cons 2 rfl (.cons 0 rfl (.cons 1 rfl .nil))))) (.cons 0 rfl (.cons 0 rfl .nil))
 rintro ⟨x252, x255⟩ _ ⟨a250, c251, a253, c254⟩ D1
 try dsimp only
 refine au [24,4,1,2] ?_
 refine qq mixed [] [(dblk D1), ⟨g189, 59, [.slice a2 x1.length c3]⟩, ⟨g7, 59, [.slice a250 x252.length c251]⟩, ⟨g6, 125, [.slice a253 x255.length c254]⟩, ⟨g5, 3, [.int .i64 x4]⟩] [Sl (eI .i64) 1 (.slice a2 x1.length c3) x1] (.cons 0 rfl (.cons 0 rfl (.cons 0 rfl (.cons 0 rfl (.cons 0 rfl .nil))))) (qF 0 rfl qm) 4 rfl (zG 0 _ rfl rfl rfl (qZ (i := 3) rfl inferInstance rfl rfl (fun _ => rfl) rfl) ?_)
 refine au [27,12,1,20,2,27,13,0,32,5,20,3,25,15,0,32,5,24,1] ?_
 refine qt ?_ (by intro c h; cases h)
 refine au [1,8] ?_
 exact qgk [D1] ((a253, c254), (a250, c251)) (.inl rfl) rfl (.cons 0 rfl .nil) (resL (rs := [.cell 4 125, .cell 5 59]) rfl (.cell (i := 2) rfl tf125 rfl rfl (fun _ => rfl) rfl (.cell (i := 1) rfl tf59 rfl rfl (fun _ => rfl) rfl ResOk.nil)) rfl) (fun h => by subst h; rfl) (fun h => by subst h; exact .nil) (fun h => by subst h; exact (.cons 1 rfl (.cons 0 rfl .nil)))
 intro t; exact t.elim
set_option maxHeartbeats 4000000 in
theorem qda {F : Nat} {g1 : Nat} {x2 : Int} {x3 : List Int} {a4 : Option Addr} {c5 : Nat} {x6 : Bool} {x7 : Int} {x8 : Int} {x9 : List (Int × Int)} {a10 : Option Addr} {c11 : Nat} {r : (Int × List Int × Bool)} (hm : vt F x2 x3 x6 x7 x8 x9 = some r) :
    PureM Tryz.prog 133 [.pointer (some ⟨g1, 0, none⟩), .int .i64 x7, .int .i64 x8, .slice a10 x9.length c11] [⟨g1, 183, [.int .i64 x2, .slice a4 x3.length c5, .bool x6]⟩] [Ro (eI .u8) 5 1 (.slice a4 x3.length c5) x3] [Sl eS129 2 (.slice a10 x9.length c11) x9] (Option Addr × Nat) (fun _ => .tuple #[]) (fun g => [⟨g1, 183, [.int .i64 r.1, .slice g.1 r.2.1.length g.2, .bool r.2.2]⟩]) (fun g => [Ro (eI .u8) 5 1 (.slice g.1 r.2.1.length g.2) r.2.1]) := by
 refine zp Tryz.func133 rfl Tryz.ntmps133 rfl hm (fun w => ?_)
 refine au [27,8,2,4,3,3,23,27,9] ?_
 rintro x12 e12 ⟨a13, c14⟩
 refine au [0,1,2,4,3,5,0,1,2,4,3,23,3,0,1,15] ?_
 refine qk (fun (((x73, x74, x75, x78, x79), (a76, c77)) : ((Int × Int × Int × List Int × Bool) × (Option Addr × Nat))) => ([(0, .pointer (some ⟨g1, 0, none⟩)), (2, .int .i64 x8), (8, .int .i64 x73), (16, .slice a10 x9.length c11), (17, .int .i64 (x9.length : Int)), (18, .int .i64 x74)], [⟨g1, 183, [.int .i64 x75, .slice a76 x78.length c77, .bool x79]⟩], [Ro (eI .u8) 5 1 (.slice a76 x78.length c77) x78], [Sl eS129 2 (.slice a10 x9.length c11) x9])) (fun k (s : ((Int × Int × Int × List Int × Bool) × (Option Addr × Nat))) => za F x8 x9 k s.1) ((x7, 0, x12.1, x12.2.1, x12.2.2), (a13, c14)) F ?_
 intro k138
 rintro ⟨⟨x73, x74, x75, x78, x79⟩, ⟨a76, c77⟩⟩
 try dsimp only
 refine qz (m' := yo F x8 x9 (za F x8 x9 k138) x73 x74 x75 x78 x79) rfl ?_
 refine av [2,4,24,2,0,1,2,9] ?_ ?_
 intro _
 refine au [12,1,2,15,2,4,3,29,10] ?_
 intro x168 e168 b169 o170
 refine au [29,11,24,6] ?_
 intro g171
 refine au [5,24,0,0,1] ?_
 refine qe (fun (((x180, x183, x184), (a181, c182)) : ((Int × List Int × Bool) × (Option Addr × Nat))) => ([(0, .pointer (some ⟨g1, 0, none⟩)), (2, .int .i64 x8), (10, .pointer (some ⟨g171, 0, none⟩)), (16, .slice a10 x9.length c11), (17, .int .i64 (x9.length : Int)), (18, .int .i64 x74)], [⟨g1, 183, [.int .i64 x180, .slice a181 x183.length c182, .bool x184]⟩, ⟨g171, 129, [.int .i64 x168.1, .int .i64 x168.2]⟩], [Ro (eI .u8) 5 1 (.slice a181 x183.length c182) x183], [Sl eS129 2 (.slice a10 x9.length c11) x9], kB F (za F x8 x9 k138) x8 x74 x168 x180 x183 x184)) ?_ ?_
 refine av [2,4,3,25,2,0,1,9] ?_ ?_
 intro _
 refine au [4,3,13,21,3,24,15,31,13] ?_
 intro x188 e188 _
 refine au [24,14,27,9] ?_
 rintro x189 e189 ⟨a190, c191⟩
 refine au [0] ?_
 exact qa ((x189.1, x189.2.1, x189.2.2), (a190, c191))
 intro _
 refine au [4,3,13,21,3,24,15,24,15,27,9] ?_
 rintro x192 e192 ⟨a193, c194⟩
 refine au [0] ?_
 exact qa ((x192.1, x192.2.1, x192.2.2), (a193, c194))
 rintro ⟨⟨x180, x183, x184⟩, ⟨a181, c182⟩⟩
 try dsimp only
 refine au [2,4,3,13,25,11,3,24,15,27,9] ?_
 rintro x185 e185 ⟨a186, c187⟩
 refine au [0,1,4,13,25,11,13,25,11,16,24,15,5,0,24,4,1,4,16,3,0] ?_
 exact qi ((isub .i64 (iadd .i64 x168.1 x168.2) 1, iadd .i64 x74 1, x185.1, x185.2.1, x185.2.2), (a186, c187))
 intro _
 refine au [24,8,18,18,24,9] ?_
 exact zl (a76, c77)
theorem qfs {F : Nat} {x1 : Int} {x2 : Int} {r : (Int × Int × Int)} (hm : qaH F x1 x2 = some r) :
    Pure Tryz.prog 166 [.int .u64 x1, .int .i64 x2] [] Unit (fun _ => .tuple #[.int .i64 r.1, .int .u64 r.2.1, .int .u64 r.2.2]) (fun _ => []) (fun _ => []) := by
 refine qh Tryz.func166 rfl Tryz.ntmps166 rfl hm (fun w => ?_)
 refine au [24,12,2,4,5,5,5,0,1,2,4,3,16,29,8] ?_
 intro x3 e3 _
 refine au [24,15,3,26,9] ?_
 intro h4
 refine qhn rfl rfl rfl rfl h4 ?_
 refine au [5,0,1,2,27,10] ?_
 intro h11
 refine au [27,10] ?_
 intro h13
 refine qq mixed [] [] [] .nil qm 14 rfl ?_
 refine au [6,0,6,1,6,2,6,3] ?_
 refine qv 4 (.int .u64 (ishl .u64 1 (imul .i64 (iquo .i64 (isub .i64 x3 1) x2) x2))) rfl rfl rfl (qei rfl rfl h11) ?_
 refine au [6,5,6,6,6,7,6,8,6,9] ?_
 refine qv 10 (.int .u64 (ishl .u64 1 (iadd .i64 (imul .i64 (iquo .i64 (isub .i64 x3 1) x2) x2) x2))) rfl rfl rfl (qei rfl rfl h13) ?_
 refine au [6,11,6,12,6,13,24,1] ?_
 refine qt ?_ (by intro c h; cases h)
 exact az [1,8,17]
theorem qeI {F : Nat} {x1 : Int} {r : (Int × Int)} (hm : jm F x1 = some r) :
    Pure Tryz.prog 168 [.int .u64 x1] [] Unit (fun _ => .tuple #[.int .i64 r.1, .int .u64 r.2]) (fun _ => []) (fun _ => []) := by
 refine qh Tryz.func168 rfl Tryz.ntmps168 rfl hm (fun w => ?_)
 refine au [25,5,2,4,5,5,0,1,2,4,3,24,15,29,8] ?_
 intro x2 e2 _
 refine au [5,0,1,2,27,10] ?_
 intro h6
 refine qq mixed [] [] [] .nil qm 7 rfl ?_
 refine au [6,0,6,1] ?_
 refine qv 2 (.int .u64 (ishl .u64 1 x2)) rfl rfl rfl (qei rfl rfl h6) ?_
 refine au [6,3,6,4,6,5,6,6,24,1] ?_
 refine qt ?_ (by intro c h; cases h)
 exact az [1,8,17]
theorem qdq {F : Nat} {x1 : Int} {x2 : List Int} {a3 : Option Addr} {c4 : Nat} {x5 : Int} {x6 : Int} {r : (Int × List Int)} (hm : vQ F x1 x2 x5 x6 = some r) :
    Pure Tryz.prog 167 [.agg #[.int .i64 x1, .slice a3 x2.length c4], .int .u64 x5, .int .u64 x6] [Sl (eI .u8) 1 (.slice a3 x2.length c4) x2] (Option Addr × Nat) (fun g => .agg #[.int .i64 r.1, .slice g.1 r.2.length g.2]) (fun g => [Ro (eI .u8) 5 1 (.slice g.1 r.2.length g.2) r.2]) (fun _ => []) := by
 refine qh Tryz.func167 rfl Tryz.ntmps167 rfl hm (fun w => ?_)
 refine au [25,12,2,4,24,5] ?_
 intro g7
 refine au [24,6] ?_
 intro g8
 refine au [0,1,2,4,3,32,6] ?_
 intro x9 e9 _
 refine av [3,14,14,5,5,0,1,2,2,4,3,3,24,2,0,1,9] ?_ ?_
 intro _
 refine au [2,4,25,8,3,3,24,15,28,9] ?_
 rintro x14 e14 ⟨a15, c16⟩
 refine au [24,0,0,1,8,11] ?_
 exact qy (a15, c16) (resL (rs := [.cell 6 65]) rfl (.cell (i := 0) rfl tf65 rfl rfl (by simp) rfl ResOk.nil) rfl) (fun h => by subst h; exact (.cons 0 rfl .nil))
 intro _
 refine au [12,1,2,4,25,8,3,3,16,3,28,9] ?_
 rintro x17 e17 ⟨a18, c19⟩
 refine au [24,0,0,1,8] ?_
 exact qy (a18, c19) (resL (rs := [.cell 6 65]) rfl (.cell (i := 0) rfl tf65 rfl rfl (by simp) rfl ResOk.nil) rfl) (fun h => by subst h; exact (.cons 0 rfl .nil))
set_option maxHeartbeats 4000000 in
theorem qfr {F : Nat} {x1 : Int} {x2 : Int} {r : (Int × List Int × Int)} (hm : qaG F x1 x2 = some r) :
    Pure Tryz.prog 150 [.int .u64 x1, .int .i64 x2] [] (Option Addr × Nat) (fun g => .tuple #[.agg #[.int .i64 r.1, .slice g.1 r.2.1.length g.2], .int .i64 r.2.2]) (fun g => [Ro (eI .u8) 5 1 (.slice g.1 r.2.1.length g.2) r.2.1]) (fun _ => []) := by
 refine qh Tryz.func150 rfl Tryz.ntmps150 rfl hm (fun w => ?_)
 refine au [24,12,2,4,24,6] ?_
 intro g3
 refine au [5,0,1,2,2,4,3,24,2,3] ?_
 refine qN 3 (decide (x2 < 1)) [(0, .int .u64 x1), (1, .int .i64 x2), (4, .pointer (some ⟨g3, 0, none⟩)), (14, .bool ((decide (x2 < 1)) || (decide (16 < x2))))] (fun h7 => ?_) (fun h7 => ?_) ?_
 refine qc (os := _) rfl (qE (k := 11) rfl h7 ?_)
 refine au [10,10,24,10] ?_
 refine qd (d := 14) (v := .bool ((decide (x2 < 1)) || (decide (16 < x2)))) rfl (by rw [h7]; simp only [Bool.true_or]) ?_
 exact az [0,24,3]
 refine qc (os := _) rfl (qD (k := 11) rfl h7 ?_)
 refine au [3,24,13,24,11] ?_
 refine qd (d := 14) (v := .bool ((decide (x2 < 1)) || (decide (16 < x2)))) rfl (by rw [h7]; simp only [Bool.false_or]) ?_
 exact az [0,24,3]
 refine qc (os := _) rfl ?_
 refine au [3] ?_
 refine qN 3 ((decide (x2 < 1)) || (decide (16 < x2))) [(0, .int .u64 x1), (1, .int .i64 x2), (4, .pointer (some ⟨g3, 0, none⟩)), (18, .bool (((decide (x2 < 1)) || (decide (16 < x2))) || (decide (1099511627776 < x1))))] (fun h8 => ?_) (fun h8 => ?_) ?_
 refine qc (os := _) rfl (qE (k := 15) rfl h8 ?_)
 refine au [10,10,24,10] ?_
 refine qd (d := 18) (v := .bool (((decide (x2 < 1)) || (decide (16 < x2))) || (decide (1099511627776 < x1)))) rfl (by rw [h8]; simp only [Bool.true_or]) ?_
 exact az [0,24,3]
 refine qc (os := _) rfl (qD (k := 15) rfl h8 ?_)
 refine au [3,24,13,24,11] ?_
 refine qd (d := 18) (v := .bool (((decide (x2 < 1)) || (decide (16 < x2))) || (decide (1099511627776 < x1)))) rfl (by rw [h8]; simp only [Bool.false_or]) ?_
 exact az [0,24,3]
 refine qc (os := _) rfl ?_
 refine av [0,1,9] ?_ ?_
 intro _
 refine au [2,4] ?_
 refine qj (cells := [.int .i64 0, .slice none 0 0]) rfl st65 rfl (by kernel_rfl) rfl ?_
 refine au [24,0,5,0,1,8,11,26,2] ?_
 exact qy (none, 0) (resL (rs := [.cell 4 65, .tmp 5]) rfl (.cell (i := 0) rfl tf65 rfl rfl (by simp) rfl (.tmp rfl ResOk.nil)) rfl) (fun h => by subst h; exact (.cons 0 rfl .nil))
 intro _
 refine au [12,1,2,4,3,3] ?_
 refine qg qfs ?_
 intro x9 e9 _
 refine au [3,14,14,14,5,5,5,0,1,2,4,3,24,14,31,11] ?_
 rintro x10 e10 ⟨a11, c12⟩
 refine au [3,16,3,24,15,3,3,24,15] ?_
 refine qg qdq ?_
 rintro x13 e13 ⟨a14, c15⟩
 refine au [24,0,5,0,1,8] ?_
 exact qy (a14, c15) (resL (rs := [.cell 4 65, .tmp 5]) rfl (.cell (i := 0) rfl tf65 rfl rfl (by simp) rfl (.tmp rfl ResOk.nil)) rfl) (fun h => by subst h; exact (.cons 0 rfl .nil))
set_option maxHeartbeats 4000000 in
theorem qiV {F : Nat} {x1 : Int} {x2 : List Int} {a3 : Option Addr} {c4 : Nat} {x5 : List Int} {a6 : Option Addr} {c7 : Nat} {x8 : Int} {r : (Int × List Int × Bool)} (hm : jY F x1 x2 x5 x8 = some r) :
    PureM Tryz.prog 134 [.agg #[.int .i64 x1, .slice a3 x2.length c4], .slice a6 x5.length c7, .int .i64 x8] [] [Ro (eI .u8) 5 1 (.slice a3 x2.length c4) x2] [Sl (eI .u64) 1 (.slice a6 x5.length c7) x5] (Option Addr × Nat) (fun g => .tuple #[.agg #[.int .i64 r.1, .slice g.1 r.2.1.length g.2], .bool r.2.2]) (fun _ => []) (fun g => [Ro (eI .u8) 5 1 (.slice g.1 r.2.1.length g.2) r.2.1]) := by
 refine zp Tryz.func134 rfl Tryz.ntmps134 rfl hm (fun w => ?_)
 refine au [25,12,2,4,24,5] ?_
 intro g9
 refine au [24,6] ?_
 intro g10
 refine au [5,0,1] ?_
 refine qe (fun (((x107, x110), (a108, c109)) : ((Int × List Int) × (Option Addr × Nat))) => ([(3, .pointer (some ⟨g9, 0, none⟩)), (6, .pointer (some ⟨g10, 0, none⟩))], [⟨g10, 65, [.int .i64 0, .slice none 0 0]⟩, ⟨g9, 65, [.int .i64 x107, .slice a108 x110.length c109]⟩], [Ro (eI .u8) 5 1 (.slice a108 x110.length c109) x110], [], qcR F x107 x110)) ?_ ?_
 refine au [2,4,3,23,3,0,1,15] ?_
 refine qk (fun (((x141, x142, x145), (a143, c144)) : ((Int × Int × List Int) × (Option Addr × Nat))) => ([(2, .int .i64 x8), (3, .pointer (some ⟨g9, 0, none⟩)), (6, .pointer (some ⟨g10, 0, none⟩)), (12, .slice a6 x5.length c7), (13, .int .i64 (x5.length : Int)), (14, .int .i64 x141)], [⟨g10, 65, [.int .i64 0, .slice none 0 0]⟩, ⟨g9, 65, [.int .i64 x142, .slice a143 x145.length c144]⟩], [Ro (eI .u8) 5 1 (.slice a143 x145.length c144) x145], [Sl (eI .u64) 1 (.slice a6 x5.length c7) x5])) (fun k (s : ((Int × Int × List Int) × (Option Addr × Nat))) => vH F x5 x8 k s.1) ((0, x1, x2), (a3, c4)) F ?_
 intro k176
 rintro ⟨⟨x141, x142, x145⟩, ⟨a143, c144⟩⟩
 try dsimp only
 refine qz (m' := qaE F x5 x8 (vH F x5 x8 k176) x141 x142 x145) rfl ?_
 refine av [2,4,24,2,0,1,2,9] ?_ ?_
 intro _
 refine au [12,1,2,15,2,4,30,12] ?_
 intro x192 e192 b193 o194
 refine au [25,9,5,0,1,2,4,3,3] ?_
 refine qg qfr ?_
 rintro x195 e195 ⟨a196, c197⟩
 refine au [3,14,14,24,6] ?_
 intro g198
 refine au [24,0,5,0,1,2,2,4,3,25,3,3] ?_
 refine qN 7 ((x195.2.2 : Int) != 0) [(2, .int .i64 x8), (3, .pointer (some ⟨g9, 0, none⟩)), (6, .pointer (some ⟨g10, 0, none⟩)), (12, .slice a6 x5.length c7), (13, .int .i64 (x5.length : Int)), (14, .int .i64 x141), (10, .pointer (some ⟨g198, 0, none⟩)), (33, .bool (((x195.2.2 : Int) != 0) || (decide (8192 < (iadd .i64 x142 x195.1)))))] (fun h201 => ?_) (fun h201 => ?_) ?_
 refine qc (os := _) rfl (qE (k := 26) rfl h201 ?_)
 refine au [10,10,10,10,10,10,24,10] ?_
 refine qd (d := 33) (v := .bool (((x195.2.2 : Int) != 0) || (decide (8192 < (iadd .i64 x142 x195.1))))) rfl (by rw [h201]; simp only [Bool.true_or]) ?_
 exact az [0,24,3]
 refine qc (os := _) rfl (qD (k := 26) rfl h201 ?_)
 refine au [13,28,5,13,21,16,24,13,24,11] ?_
 refine qd (d := 33) (v := .bool (((x195.2.2 : Int) != 0) || (decide (8192 < (iadd .i64 x142 x195.1))))) rfl (by rw [h201]; simp only [Bool.false_or]) ?_
 exact az [0,24,3]
 refine qc (os := _) rfl ?_
 refine av [0,1,9] ?_ ?_
 intro _
 refine au [2,4] ?_
 refine qj (cells := [.int .i64 0, .slice none 0 0]) rfl st65 rfl (by kernel_rfl) rfl ?_
 refine au [25,6,5,0,1,8,11,22,11,11,22,11,26,2] ?_
 exact yc (none, 0) (resL (rs := [.cell 6 65, .tmp 7]) rfl (.cell (i := 1) rfl tf65 rfl rfl (by simp) rfl (.tmp rfl ResOk.nil)) rfl) (hR := fun h => by subst h; exact (.cons 0 rfl .nil))
 intro _
 refine au [12,1,4,26,14,25,0,28,10] ?_
 rintro x202 e202 ⟨a203, c204⟩
 refine au [25,15,0,24,4,1,4,16,3,0] ?_
 exact qi ((iadd .i64 x141 1, x202.1, x202.2), (a203, c204))
 intro _
 refine au [24,8,18,18,24,9] ?_
 exact qa ((x142, x145), (a143, c144))
 rintro ⟨⟨x107, x110⟩, ⟨a108, c109⟩⟩
 try dsimp only
 refine au [2,4,25,8,24,0,5,0,1,8] ?_
 exact yc (a108, c109) (resL (rs := [.cell 6 65, .tmp 7]) rfl (.cell (i := 0) rfl tf65 rfl rfl (by simp) rfl (.tmp rfl ResOk.nil)) rfl) (hR := fun h => by subst h; exact (.cons 0 rfl .nil))
set_option maxHeartbeats 4000000 in
theorem qc9 {F : Nat} {g1 : Nat} {x2 : Int} {x3 : List Int} {a4 : Option Addr} {c5 : Nat} {x6 : Bool} {x7 : Int} {x8 : List Int} {a9 : Option Addr} {c10 : Nat} {x11 : List Int} {a12 : Option Addr} {c13 : Nat} {x14 : Int} {x15 : Int} {x16 : Int} {r : (Int × List Int × Bool)} (hm : yi F x2 x3 x6 x7 x8 x11 x14 x15 x16 = some r) :
    PureM Tryz.prog 111 [.pointer (some ⟨g1, 0, none⟩), .int .i64 x7, .slice a9 x8.length c10, .slice a12 x11.length c13, .agg #[.int .i64 x14, .int .i64 x15, .int .i64 x16]] [⟨g1, 183, [.int .i64 x2, .slice a4 x3.length c5, .bool x6]⟩] [Ro (eI .u8) 5 1 (.slice a4 x3.length c5) x3] [Sl (eI .i64) 1 (.slice a9 x8.length c10) x8, Sl (eI .i64) 1 (.slice a12 x11.length c13) x11] (Option Addr × Nat) (fun _ => .tuple #[]) (fun g => [⟨g1, 183, [.int .i64 r.1, .slice g.1 r.2.1.length g.2, .bool r.2.2]⟩]) (fun g => [Ro (eI .u8) 5 1 (.slice g.1 r.2.1.length g.2) r.2.1]) := by
 refine zp Tryz.func111 rfl Tryz.ntmps111 rfl hm (fun w => ?_)
 refine au [29,12,2,4,24,5] ?_
 intro g17
 refine au [0,1,2,4,3,3,23,27,9] ?_
 rintro x18 e18 ⟨a19, c20⟩
 refine av [0,1,2,2,4,3,23,25,2,0,1,9] ?_ ?_
 intro _
 refine au [8,11] ?_
 exact zl (a19, c20)
 intro _
 refine au [12,1,2,4,3,5,0,1] ?_
 refine qe (fun (((x33, x34, x37, x38), (a31, c32, a35, c36)) : ((List Int × Int × List Int × Bool) × (Option Addr × Nat × Option Addr × Nat))) => ([(0, .pointer (some ⟨g1, 0, none⟩)), (1, .int .i64 x7), (9, .pointer (some ⟨g17, 0, none⟩)), (10, .slice a31 x33.length c32)], [⟨g1, 183, [.int .i64 x34, .slice a35 x37.length c36, .bool x38]⟩, ⟨g17, 26, [.int .i64 x14, .int .i64 x15, .int .i64 x16]⟩], [Ro (eI .u8) 5 1 (.slice a35 x37.length c36) x37], [Sl (eI .i64) 1 (.slice a31 x33.length c32) x33], ky F x7 x15 x16 x33 x34 x37 x38)) ?_ ?_
 refine av [2,4,13,25,11,24,13,0,1,9] ?_ ?_
 intro _
 refine au [2,4,5,0,1,2,4,3,3] ?_
 refine qg qhO ?_
 rintro x113 e113 ⟨⟨a114, c115⟩, ⟨a116, c117⟩⟩
 refine au [3,14,14,5,5,0,1,4,3,3] ?_
 refine qT qcm ?_
 rintro x118 e118 ⟨a119, c120⟩
 refine au [0,32,7] ?_
 exact qa ((x113.2, x118.1, x118.2.1, x118.2.2), (a116, c117, a119, c120))
 intro _
 refine au [12] ?_
 exact qa ((x8, x18.1, x18.2.1, x18.2.2), (a9, c10, a19, c20))
 rintro ⟨⟨x33, x34, x37, x38⟩, ⟨a31, c32, a35, c36⟩⟩
 try dsimp only
 refine av [2,2,4,3,23,25,2,0,1,9] ?_ ?_
 intro _
 refine au [8,11] ?_
 exact zl (a35, c36)
 intro _
 refine au [12,1] ?_
 refine qe (fun (((x51, x52, x55, x56), (a49, c50, a53, c54)) : ((List Int × Int × List Int × Bool) × (Option Addr × Nat × Option Addr × Nat))) => ([(0, .pointer (some ⟨g1, 0, none⟩)), (1, .int .i64 x7), (9, .pointer (some ⟨g17, 0, none⟩)), (10, .slice a49 x51.length c50)], [⟨g1, 183, [.int .i64 x52, .slice a53 x55.length c54, .bool x56]⟩, ⟨g17, 26, [.int .i64 x14, .int .i64 x15, .int .i64 x16]⟩], [Ro (eI .u8) 5 1 (.slice a53 x55.length c54) x55], [Sl (eI .i64) 1 (.slice a49 x51.length c50) x51], kz F x7 x16 x51 x52 x55 x56)) ?_ ?_
 refine av [2,4,13,25,11,24,13,0,1,9] ?_ ?_
 intro _
 refine au [2,4,5,0,1,2,4,3,13,25,11] ?_
 refine qT qiY ?_
 rintro x103 e103 ⟨⟨a104, c105⟩, ⟨a106, c107⟩⟩
 refine au [3,14,14,5,5,0,1,4,3,3,13,25,11,3] ?_
 refine qT qda ?_
 rintro x108 e108 ⟨a109, c110⟩
 refine au [0,32,7] ?_
 exact qa ((x103.2, x108.1, x108.2.1, x108.2.2), (a106, c107, a109, c110))
 intro _
 refine au [12] ?_
 exact qa ((x33, x34, x37, x38), (a31, c32, a35, c36))
 rintro ⟨⟨x51, x52, x55, x56⟩, ⟨a49, c50, a53, c54⟩⟩
 try dsimp only
 refine qe (fun (((x76, x77, x80), (g75, a78, c79)) : ((Bool × Int × List Int) × (Nat × Option Addr × Nat))) => ([(0, .pointer (some ⟨g1, 0, none⟩)), (13, .pointer (some ⟨g75, 0, none⟩)), (14, .bool x76)], [⟨g1, 183, [.int .i64 x52, .slice a53 x55.length c54, .bool x56]⟩, ⟨g75, 65, [.int .i64 x77, .slice a78 x80.length c79]⟩], [Ro (eI .u8) 5 1 (.slice a53 x55.length c54) x55, Ro (eI .u8) 5 1 (.slice a78 x80.length c79) x80], [], kA F x52 x55 x56 x76 x77 x80)) ?_ ?_
 refine qq mixed [] [⟨g1, 183, [.int .i64 x52, .slice a53 x55.length c54, .bool x56]⟩, ⟨g17, 26, [.int .i64 x14, .int .i64 x15, .int .i64 x16]⟩] [Sl (eI .i64) 1 (.slice a49 x51.length c50) x51] (.cons 0 rfl (.cons 0 rfl .nil)) (qF 0 rfl qm) 13 rfl (qv 0 (.agg #[.int .i64 0, .slice none 0 0]) rfl rfl rfl (qcz (cells := [.int .i64 0, .slice none 0 0]) st65 rfl (by kernel_rfl)) ?_)
 refine au [6,1,6,2,19,4,26,1,5] ?_
 refine qb7 3 10 rfl rfl (by kernel_rfl) rfl rfl ?_ ?_
 refine au [29,13] ?_
 rintro x85 e85 ⟨a86, c87⟩
 refine au [0,27,7] ?_
 refine qb7 6 10 rfl rfl (by kernel_rfl) rfl rfl ?_ ?_
 refine au [27,14,29,14] ?_
 rintro x88 e88 ⟨a89, c90⟩
 refine au [0,27,7,6,7,6,8,6,9,20,10,24,6] ?_
 intro g91
 refine au [0,26,15,20,11,24,0,0,26,15,6,12,24,1] ?_
 exact qt (qa ((x88.2.2, x88.1, x88.2.1), (g91, a89, c90))) (by intro c h; cases h)
 refine qb9 (m' := ((jY F 0 ([] : List Int) x85 x16).bind fun x93 => kA F x52 x55 x56 x93.2.2 x93.1 x93.2.1)) (rfl) ?_
 refine au [24,6] ?_
 intro g92
 refine au [0,26,15,20,6,27,14,29,14] ?_
 rintro x93 e93 ⟨a94, c95⟩
 refine au [0,26,15,6,7,6,8,6,9,20,11,24,0,0,26,15,6,12,24,1] ?_
 exact qt (qa ((x93.2.2, x93.1, x93.2.1), (g92, a94, c95))) (by intro c h; cases h)
 refine qb9 (m' := ((qas F x51 x7).bind fun x97 => ((jY F 0 ([] : List Int) x97 x16).bind fun x100 => kA F x52 x55 x56 x100.2.2 x100.1 x100.2.1))) (rfl) ?_
 refine au [24,6] ?_
 intro g96
 refine au [0,26,15,20,3,29,13] ?_
 rintro x97 e97 ⟨a98, c99⟩
 refine au [0,26,15,20,6,27,14,29,14] ?_
 rintro x100 e100 ⟨a101, c102⟩
 refine au [0,26,15,6,7,6,8,6,9,20,11,24,0,0,26,15,6,12,24,1] ?_
 exact qt (qa ((x100.2.2, x100.1, x100.2.1), (g96, a101, c102))) (by intro c h; cases h)
 rintro ⟨⟨x76, x77, x80⟩, ⟨g75, a78, c79⟩⟩
 try dsimp only
 refine au [2,4,3,3,24,7,13,21,3] ?_
 refine qN 3 x56 [(0, .pointer (some ⟨g1, 0, none⟩)), (13, .pointer (some ⟨g75, 0, none⟩)), (64, .pointer (some ⟨g1, 0, none⟩)), (72, .bool (x56 || (!x76)))] (fun h81 => ?_) (fun h81 => ?_) ?_
 refine qc (os := _) rfl (qE (k := 69) rfl h81 ?_)
 refine au [10,10,24,10] ?_
 refine qd (d := 72) (v := .bool (x56 || (!x76))) rfl (by rw [h81]; simp only [Bool.true_or]) ?_
 exact az [0,24,3]
 refine qc (os := _) rfl (qD (k := 69) rfl h81 ?_)
 refine au [3,25,1,24,11] ?_
 refine qd (d := 72) (v := .bool (x56 || (!x76))) rfl (by rw [h81]; simp only [Bool.false_or]) ?_
 exact az [0,24,3]
 refine qc (os := _) rfl ?_
 refine au [24,7,13,24,0,0,1,4,3,25,8,32,0] ?_
 rintro x82 e82 ⟨a83, c84⟩
 refine au [0] ?_
 exact zl (a83, c84)
theorem qgB {F : Nat} {x1 : Int} {x2 : List Int} {a3 : Option Addr} {c4 : Nat} {x5 : Int} {x6 : Int} {x7 : Int} {r : Int} (hm : qa3 F x1 x2 x5 x6 x7 = some r) :
    Pure Tryz.prog 118 [.int .i64 x1, .slice a3 x2.length c4, .agg #[.int .i64 x5, .int .i64 x6, .int .i64 x7]] [Sl (eI .i64) 1 (.slice a3 x2.length c4) x2] Unit (fun _ => .int .i64 r) (fun _ => []) (fun _ => []) := by
 refine qh Tryz.func118 rfl Tryz.ntmps118 rfl hm (fun w => ?_)
 refine au [25,12,2,4,24,5] ?_
 intro g8
 refine au [5,0,1,2,2,4,3,24,2,3] ?_
 refine qN 3 (decide (x1 < 0)) [(1, .slice a3 x2.length c4), (5, .pointer (some ⟨g8, 0, none⟩)), (12, .bool ((decide (x1 < 0)) || (decide (1048576 < x1))))] (fun h11 => ?_) (fun h11 => ?_) ?_
 refine qc (os := _) rfl (qE (k := 9) rfl h11 ?_)
 refine au [10,10,24,10] ?_
 refine qd (d := 12) (v := .bool ((decide (x1 < 0)) || (decide (1048576 < x1)))) rfl (by rw [h11]; simp only [Bool.true_or]) ?_
 exact az [0,24,3]
 refine qc (os := _) rfl (qD (k := 9) rfl h11 ?_)
 refine au [3,24,13,24,11] ?_
 refine qd (d := 12) (v := .bool ((decide (x1 < 0)) || (decide (1048576 < x1)))) rfl (by rw [h11]; simp only [Bool.false_or]) ?_
 exact az [0,24,3]
 refine qc (os := _) rfl ?_
 refine av [0,1,9] ?_ ?_
 intro _
 exact az [2,4,5,0,1,8,11,17]
 intro _
 refine av [12,1,2,2,4,13,21,24,13,0,1,9] ?_ ?_
 intro _
 refine au [2,4,3,28,6] ?_
 intro x14 e14 _
 exact az [5,0,1,8,11,17]
 intro _
 exact az [12,1,2,4,5,0,1,8,17]
set_option maxHeartbeats 4000000 in
theorem qgA {F : Nat} {x1 : Int} {x2 : List Int} {a3 : Option Addr} {c4 : Nat} {x5 : List Int} {a6 : Option Addr} {c7 : Nat} {x8 : Int} {x9 : Int} {x10 : Int} {r : (Int × List Int × Int)} (hm : qa2 F x1 x2 x5 x8 x9 x10 = some r) :
    Pure Tryz.prog 102 [.int .i64 x1, .slice a3 x2.length c4, .slice a6 x5.length c7, .agg #[.int .i64 x8, .int .i64 x9, .int .i64 x10]] [Sl (eI .i64) 1 (.slice a3 x2.length c4) x2, Sl (eI .i64) 1 (.slice a6 x5.length c7) x5] (Option Addr × Nat) (fun g => .tuple #[.agg #[.int .i64 r.1, .slice g.1 r.2.1.length g.2], .int .i64 r.2.2]) (fun g => [Ro (eI .u8) 5 1 (.slice g.1 r.2.1.length g.2) r.2.1]) (fun _ => []) := by
 refine qh Tryz.func102 rfl Tryz.ntmps102 rfl hm (fun w => ?_)
 refine au [27,8,2,4,24,5] ?_
 intro g11
 refine au [24,6] ?_
 intro g12
 refine au [5,0,1,2,4,25,8,29,15] ?_
 intro x13 e13 _
 refine au [5,0,1] ?_
 refine qe (fun ((x19, _) : (Int × Unit)) => ([(0, .int .i64 x1), (1, .slice a3 x2.length c4), (2, .slice a6 x5.length c7), (7, .pointer (some ⟨g11, 0, none⟩)), (8, .pointer (some ⟨g12, 0, none⟩)), (10, .int .i64 x19)], [⟨g12, 65, [.int .i64 0, .slice none 0 0]⟩, ⟨g11, 26, [.int .i64 x8, .int .i64 x9, .int .i64 x10]⟩], [], [Sl (eI .i64) 1 (.slice a3 x2.length c4) x2, Sl (eI .i64) 1 (.slice a6 x5.length c7) x5], yu F x1 x2 x5 x8 x9 x10 x19)) ?_ ?_
 refine au [2,4,3,25,2,3] ?_
 refine y9 7 (fun ((x40, _) : (Bool × Unit)) => ([(0, .int .i64 x1), (1, .slice a3 x2.length c4), (2, .slice a6 x5.length c7), (7, .pointer (some ⟨g11, 0, none⟩)), (8, .pointer (some ⟨g12, 0, none⟩)), (10, .int .i64 x13), (23, .bool x40)], [⟨g12, 65, [.int .i64 0, .slice none 0 0]⟩, ⟨g11, 26, [.int .i64 x8, .int .i64 x9, .int .i64 x10]⟩], [], [Sl (eI .i64) 1 (.slice a3 x2.length c4) x2, Sl (eI .i64) 1 (.slice a6 x5.length c7) x5], vC F x1 x2 x5 x8 x9 x10 x13 x40)) ?_ ?_
 refine qc (os := _) rfl ?_
 refine av [26,8] ?_ ?_
 intro h38
 refine qE (k := 16) rfl h38 ?_
 refine au [3,24,2,3] ?_
 refine qN 3 (decide (x1 < 0)) [(0, .int .i64 x1), (1, .slice a3 x2.length c4), (2, .slice a6 x5.length c7), (7, .pointer (some ⟨g11, 0, none⟩)), (8, .pointer (some ⟨g12, 0, none⟩)), (10, .int .i64 x13), (16, .bool true), (22, .bool ((decide (x1 < 0)) || (decide (1048576 < x1))))] (fun h42 => ?_) (fun h42 => ?_) ?_
 refine qc (os := _) rfl (qE (k := 19) rfl h42 ?_)
 refine au [10,10,24,10] ?_
 refine qd (d := 22) (v := .bool ((decide (x1 < 0)) || (decide (1048576 < x1)))) rfl (by rw [h42]; simp only [Bool.true_or]) ?_
 exact az [0,24,3]
 refine qc (os := _) rfl (qD (k := 19) rfl h42 ?_)
 refine au [3,24,13,24,11] ?_
 refine qd (d := 22) (v := .bool ((decide (x1 < 0)) || (decide (1048576 < x1)))) rfl (by rw [h42]; simp only [Bool.false_or]) ?_
 exact az [0,24,3]
 refine qc (os := _) rfl ?_
 refine au [24,10,0] ?_
 exact qa (((decide (x1 < 0)) || (decide (1048576 < x1))), ())
 intro h38
 refine qD (k := 16) rfl h38 ?_
 refine au [10,10,10,10,10,10,24,11,0] ?_
 exact qa (false, ())
 rintro ⟨x40, _⟩
 try dsimp only
 refine qc (os := _) rfl ?_
 refine av [0,1,9] ?_ ?_
 intro _
 refine au [4,5,0] ?_
 exact qa ((3 : Int), ())
 intro _
 refine au [12] ?_
 exact qa (x13, ())
 rintro ⟨x19, _⟩
 try dsimp only
 refine qe (fun ((x22, _) : (Int × Unit)) => ([(0, .int .i64 x1), (1, .slice a3 x2.length c4), (2, .slice a6 x5.length c7), (7, .pointer (some ⟨g11, 0, none⟩)), (8, .pointer (some ⟨g12, 0, none⟩)), (10, .int .i64 x22)], [⟨g12, 65, [.int .i64 0, .slice none 0 0]⟩, ⟨g11, 26, [.int .i64 x8, .int .i64 x9, .int .i64 x10]⟩], [], [Sl (eI .i64) 1 (.slice a3 x2.length c4) x2, Sl (eI .i64) 1 (.slice a6 x5.length c7) x5], yv F x1 x2 x5 x8 x9 x10 x22)) ?_ ?_
 refine av [2,4,3,25,2,0,1,9] ?_ ?_
 intro _
 refine au [4,3,28,6] ?_
 intro x36 e36 _
 refine au [5,0] ?_
 exact qa (x36, ())
 intro _
 refine au [12] ?_
 exact qa (x19, ())
 rintro ⟨x22, _⟩
 try dsimp only
 refine qe (fun ((x25, _) : (Int × Unit)) => ([(0, .int .i64 x1), (1, .slice a3 x2.length c4), (2, .slice a6 x5.length c7), (7, .pointer (some ⟨g11, 0, none⟩)), (8, .pointer (some ⟨g12, 0, none⟩)), (10, .int .i64 x25)], [⟨g12, 65, [.int .i64 0, .slice none 0 0]⟩, ⟨g11, 26, [.int .i64 x8, .int .i64 x9, .int .i64 x10]⟩], [], [Sl (eI .i64) 1 (.slice a3 x2.length c4) x2, Sl (eI .i64) 1 (.slice a6 x5.length c7) x5], vB F x1 x2 x5 x8 x9 x10 x25)) ?_ ?_
 refine av [2,4,3,25,2,0,1,9] ?_ ?_
 intro _
 refine au [4,3,3,25,8] ?_
 refine qg qgB ?_
 intro x34 e34 _
 refine au [5,0] ?_
 exact qa (x34, ())
 intro _
 refine au [12] ?_
 exact qa (x22, ())
 rintro ⟨x25, _⟩
 try dsimp only
 refine av [2,2,4,3,25,3,0,1,9] ?_ ?_
 intro _
 refine au [2,4] ?_
 refine qj (cells := [.int .i64 0, .slice none 0 0]) rfl st65 rfl (by kernel_rfl) rfl ?_
 refine au [3,24,0,5,0,1,8,11,26,2] ?_
 exact qy (none, 0) (resL (rs := [.cell 8 65, .tmp 9]) rfl (.cell (i := 0) rfl tf65 rfl rfl (by simp) rfl (.tmp rfl ResOk.nil)) rfl) (fun h => by subst h; exact (.cons 0 rfl .nil))
 intro _
 refine au [12,1,2,4] ?_
 refine qj (cells := [.int .i64 0, .slice none 0 0, .bool false]) rfl st183 rfl (by kernel_rfl) rfl ?_
 refine au [24,5] ?_
 intro g27
 refine au [5,0,1,2,4,3,3,3,3,26,14,27,14,32,8] ?_
 rintro x28 e28 ⟨a29, c30⟩
 refine av [0,1,2,2,4,3,24,7,13,21,0,1,9] ?_ ?_
 intro _
 refine au [2,4] ?_
 refine qj (cells := [.int .i64 0, .slice none 0 0]) rfl st65 rfl (by kernel_rfl) rfl ?_
 refine au [25,6,5,0,1,8,11,26,2] ?_
 exact qy (none, 0) (resL (rs := [.cell 8 65, .tmp 9]) rfl (.cell (i := 1) rfl tf65 rfl rfl (by simp) rfl (.tmp rfl ResOk.nil)) rfl) (fun h => by subst h; exact (.cons 0 rfl .nil))
 intro _
 refine au [12,1,2,4,3,24,7,13,25,0,25,6,5,0,1,8] ?_
 exact qy (a29, c30) (resL (rs := [.cell 8 65, .tmp 9]) rfl (.cell (i := 1) rfl tf65 rfl rfl (by simp) rfl (.tmp rfl ResOk.nil)) rfl) (fun h => by subst h; exact (.cons 0 rfl .nil))
set_option maxHeartbeats 4000000 in
theorem qhN {F : Nat} {x1 : List (List Int)} {a2 : Option Addr} {c3 : Nat} {s3 : List (Option Addr × Nat)} {x4 : List Int} {a5 : Option Addr} {c6 : Nat} {x7 : Int} {x8 : Int} {x9 : Int} {x10 : Int} {r : (Int × Int × List Int × Bool)} (hm : qbu F x1 x4 x7 x8 x9 x10 = some r) :
    Pure Tryz.prog 90 [.slice a2 x1.length c3, .slice a5 x4.length c6, .int .i64 x7, .agg #[.int .i64 x8, .int .i64 x9, .int .i64 x10]] [SlN eN59 iN59 1 (.slice a2 x1.length c3) x1 s3, Sl (eI .i64) 1 (.slice a5 x4.length c6) x4] (Option Addr × Nat) (fun g => .tuple #[.agg #[.int .i64 r.1, .int .i64 r.2.1, .slice g.1 r.2.2.1.length g.2], .bool r.2.2.2]) (fun g => [Ro (eI .u8) 5 1 (.slice g.1 r.2.2.1.length g.2) r.2.2.1]) (fun _ => []) := by
 refine qh Tryz.func90 rfl Tryz.ntmps90 rfl hm (fun w => ?_)
 refine au [27,8,2,4,24,5] ?_
 intro g11
 refine au [24,6] ?_
 intro g12
 refine au [5,0,1,2,4,3,23,5,0,1,2,4] ?_
 refine qj (cells := [.int .i64 0, .slice none 0 0]) rfl st65 rfl (by kernel_rfl) rfl ?_
 refine au [24,6] ?_
 intro g13
 refine au [24,0,0,1] ?_
 refine qe (fun (((x18, x21), (a19, c20)) : ((Int × List Int) × (Option Addr × Nat))) => ([(0, .slice a2 x1.length c3), (1, .slice a5 x4.length c6), (2, .int .i64 x7), (7, .pointer (some ⟨g11, 0, none⟩)), (8, .pointer (some ⟨g12, 0, none⟩)), (10, .int .i64 (x1.length : Int)), (11, .pointer (some ⟨g13, 0, none⟩))], [⟨g13, 65, [.int .i64 x18, .slice a19 x21.length c20]⟩, ⟨g12, 140, [.int .i64 0, .int .i64 0, .slice none 0 0]⟩, ⟨g11, 26, [.int .i64 x8, .int .i64 x9, .int .i64 x10]⟩], [Ro (eI .u8) 5 1 (.slice a19 x21.length c20) x21], [SlN eN59 iN59 1 (.slice a2 x1.length c3) x1 s3, Sl (eI .i64) 1 (.slice a5 x4.length c6) x4], jp F x1 x4 x7 x9 x10 x18 x21)) ?_ ?_
 refine av [2,4,13,28,5,24,13,0,1,9] ?_ ?_
 intro _
 refine au [4,3,24,14,31,15] ?_
 rintro x46 e46 ⟨a47, c48⟩
 refine au [24,0,0] ?_
 exact qa ((x46.1, x46.2), (a47, c48))
 intro _
 refine au [12,26,2] ?_
 exact qa (((0 : Int), ([] : List Int)), (none, 0))
 rintro ⟨⟨x18, x21⟩, ⟨a19, c20⟩⟩
 try dsimp only
 refine au [2,4,5,0,1] ?_
 refine qe (fun ((x29, (a27, c28)) : (List Int × (Option Addr × Nat))) => ([(1, .slice a5 x4.length c6), (2, .int .i64 x7), (7, .pointer (some ⟨g11, 0, none⟩)), (8, .pointer (some ⟨g12, 0, none⟩)), (10, .int .i64 (x1.length : Int)), (11, .pointer (some ⟨g13, 0, none⟩)), (12, .slice a27 x29.length c28)], [⟨g13, 65, [.int .i64 x18, .slice a19 x21.length c20]⟩, ⟨g12, 140, [.int .i64 0, .int .i64 0, .slice none 0 0]⟩, ⟨g11, 26, [.int .i64 x8, .int .i64 x9, .int .i64 x10]⟩], [Ro (eI .u8) 5 1 (.slice a19 x21.length c20) x21], [Sl (eI .i64) 1 (.slice a5 x4.length c6) x4, Sl (eI .i64) 1 (.slice a27 x29.length c28) x29], jq F x1 x4 x7 x9 x10 x18 x21 x29)) ?_ ?_
 refine av [2,4,3,24,13,0,1,9] ?_ ?_
 intro _
 refine au [4,3,3,3,24,15,27,3] ?_
 intro x41 e41 g44 b42 o43
 refine au [25,9,5,0] ?_
 exact qa (x41, (g44.1, g44.2))
 intro _
 refine au [12,25,10] ?_
 exact qfi 0 rfl (qa (([] : List Int), (none, 0)))
 rintro ⟨x29, ⟨a27, c28⟩⟩
 try dsimp only
 refine au [2,4,3,13,25,15,0,1,2,4,3,3,3,26,14] ?_
 refine qg qgA ?_
 rintro x30 e30 ⟨a31, c32⟩
 refine au [3,14,14,24,6] ?_
 intro g33
 refine au [24,0,5,0,1,2,2,4,3,25,3,3] ?_
 refine qN 7 ((x30.2.2 : Int) != 0) [(2, .int .i64 x7), (8, .pointer (some ⟨g12, 0, none⟩)), (11, .pointer (some ⟨g13, 0, none⟩)), (13, .pointer (some ⟨g33, 0, none⟩)), (51, .bool (((x30.2.2 : Int) != 0) || (decide (8192 < (iadd .i64 x18 x30.1)))))] (fun h36 => ?_) (fun h36 => ?_) ?_
 refine qc (os := _) rfl (qE (k := 44) rfl h36 ?_)
 refine au [10,10,10,10,10,10,24,10] ?_
 refine qd (d := 51) (v := .bool (((x30.2.2 : Int) != 0) || (decide (8192 < (iadd .i64 x18 x30.1))))) rfl (by rw [h36]; simp only [Bool.true_or]) ?_
 exact az [0,24,3]
 refine qc (os := _) rfl (qD (k := 44) rfl h36 ?_)
 refine au [13,25,11,13,21,16,24,13,24,11] ?_
 refine qd (d := 51) (v := .bool (((x30.2.2 : Int) != 0) || (decide (8192 < (iadd .i64 x18 x30.1))))) rfl (by rw [h36]; simp only [Bool.false_or]) ?_
 exact az [0,24,3]
 refine qc (os := _) rfl ?_
 refine av [0,1,9] ?_ ?_
 intro _
 refine au [2,4] ?_
 refine qj (cells := [.int .i64 0, .int .i64 0, .slice none 0 0]) rfl st140 rfl (by kernel_rfl) rfl ?_
 refine au [25,15,5,0,1,8,11,26,2] ?_
 exact qy (none, 0) (resL (rs := [.cell 8 140, .tmp 9]) rfl (.cell (i := 2) rfl tf140 rfl rfl (by simp) rfl (.tmp rfl ResOk.nil)) rfl) (fun h => by subst h; exact (.cons 0 rfl .nil))
 intro _
 refine au [12,1,2,4,3,25,8,25,0,28,10] ?_
 rintro x37 e37 ⟨a38, c39⟩
 refine qj (cells := [.int .i64 x7, .int .i64 x37.1, .slice a38 x37.2.length c39]) rfl st140 rfl (by kernel_rfl) rfl ?_
 refine au [25,15,5,0,1,8] ?_
 exact qy (a38, c39) (resL (rs := [.cell 8 140, .tmp 9]) rfl (.cell (i := 2) rfl tf140 rfl rfl (by simp) rfl (.tmp rfl ResOk.nil)) rfl) (fun h => by subst h; exact (.cons 0 rfl .nil))
set_option maxHeartbeats 4000000 in
theorem qhM {F : Nat} {x1 : List (List Int)} {a2 : Option Addr} {c3 : Nat} {s3 : List (Option Addr × Nat)} {x4 : List Int} {a5 : Option Addr} {c6 : Nat} {x7 : Int} {x8 : Int} {x9 : Int} {r : (Int × Int × List Int × Bool)} (hm : qbt F x1 x4 x7 x8 x9 = some r) :
    Pure Tryz.prog 78 [.slice a2 x1.length c3, .slice a5 x4.length c6, .agg #[.int .i64 x7, .int .i64 x8, .int .i64 x9]] [SlN eN59 iN59 1 (.slice a2 x1.length c3) x1 s3, Sl (eI .i64) 1 (.slice a5 x4.length c6) x4] (Option Addr × Nat) (fun g => .tuple #[.agg #[.int .i64 r.1, .int .i64 r.2.1, .slice g.1 r.2.2.1.length g.2], .bool r.2.2.2]) (fun g => [Ro (eI .u8) 5 1 (.slice g.1 r.2.2.1.length g.2) r.2.2.1]) (fun _ => []) := by
 refine qh Tryz.func78 rfl Tryz.ntmps78 rfl hm (fun w => ?_)
 refine au [25,12,2,4,24,5] ?_
 intro g10
 refine au [24,6] ?_
 intro g11
 refine au [5,0,1] ?_
 refine qe (fun (((x96, x97, x98, x101), (a99, c100)) : ((Bool × Int × Int × List Int) × (Option Addr × Nat))) => ([(6, .pointer (some ⟨g11, 0, none⟩)), (7, .bool x96)], [⟨g11, 140, [.int .i64 x97, .int .i64 x98, .slice a99 x101.length c100]⟩], [Ro (eI .u8) 5 1 (.slice a99 x101.length c100) x101], [], qbc F x96 x97 x98 x101)) ?_ ?_
 refine au [2,4,13,25,11,3,23,27,11,16,3,0,1,15] ?_
 refine qb8 Int (eI .u8) 5 1 (qk (fun (((x125, x126, x127, x128, x131), (a129, c130)) : ((Bool × Int × Int × Int × List Int) × (Option Addr × Nat))) => ([(0, .slice a2 x1.length c3), (1, .slice a5 x4.length c6), (5, .pointer (some ⟨g10, 0, none⟩)), (6, .pointer (some ⟨g11, 0, none⟩)), (7, .bool x125), (16, .int .i64 (iadd .i64 (imin x7 (x1.length : Int)) 1)), (17, .int .i64 x126)], [⟨g11, 140, [.int .i64 x127, .int .i64 x128, .slice a129 x131.length c130]⟩, ⟨g10, 26, [.int .i64 x7, .int .i64 x8, .int .i64 x9]⟩], [Ro (eI .u8) 5 1 (.slice a129 x131.length c130) x131], [SlN eN59 iN59 1 (.slice a2 x1.length c3) x1 s3, Sl (eI .i64) 1 (.slice a5 x4.length c6) x4])) (fun k (s : ((Bool × Int × Int × Int × List Int) × (Option Addr × Nat))) => zE F x1 x4 x7 x8 x9 k s.1) ((false, 0, 0, 0, ([] : List Int)), (none, 0)) F ?_)
 intro k158
 rintro ⟨⟨x125, x126, x127, x128, x131⟩, ⟨a129, c130⟩⟩
 try dsimp only
 refine qz (m' := jP F x1 x4 x7 x8 x9 (zE F x1 x4 x7 x8 x9 k158) x125 x126 x127 x128 x131) rfl ?_
 refine av [2,4,24,2,0,1,2,9] ?_ ?_
 intro _
 refine au [12,1] ?_
 refine qe (fun (((x169, x170, x171, x174), (a172, c173)) : ((Bool × Int × Int × List Int) × (Option Addr × Nat))) => ([(0, .slice a2 x1.length c3), (1, .slice a5 x4.length c6), (5, .pointer (some ⟨g10, 0, none⟩)), (6, .pointer (some ⟨g11, 0, none⟩)), (7, .bool x169), (16, .int .i64 (iadd .i64 (imin x7 (x1.length : Int)) 1)), (17, .int .i64 x126)], [⟨g11, 140, [.int .i64 x170, .int .i64 x171, .slice a172 x174.length c173]⟩, ⟨g10, 26, [.int .i64 x7, .int .i64 x8, .int .i64 x9]⟩], [Ro (eI .u8) 5 1 (.slice a172 x174.length c173) x174], [SlN eN59 iN59 1 (.slice a2 x1.length c3) x1 s3, Sl (eI .i64) 1 (.slice a5 x4.length c6) x4], kR F (zE F x1 x4 x7 x8 x9 k158) x126 x169 x170 x171 x174)) ?_ ?_
 refine au [15,2,4,3,5,0,1,2,4,3,3,3,25,8] ?_
 refine qg qhN ?_
 rintro x175 e175 ⟨a176, c177⟩
 refine au [3,14,14,24,6] ?_
 intro g178
 refine au [24,0,5,0,1,2,4,3,3] ?_
 refine y9 12 (fun ((x181, _) : (Bool × Unit)) => ([(0, .slice a2 x1.length c3), (1, .slice a5 x4.length c6), (5, .pointer (some ⟨g10, 0, none⟩)), (6, .pointer (some ⟨g11, 0, none⟩)), (7, .bool x125), (9, .pointer (some ⟨g178, 0, none⟩)), (16, .int .i64 (iadd .i64 (imin x7 (x1.length : Int)) 1)), (17, .int .i64 x126), (41, .bool x181)], [⟨g178, 140, [.int .i64 x175.1, .int .i64 x175.2.1, .slice a176 x175.2.2.1.length c177]⟩, ⟨g11, 140, [.int .i64 x127, .int .i64 x128, .slice a129 x131.length c130]⟩, ⟨g10, 26, [.int .i64 x7, .int .i64 x8, .int .i64 x9]⟩], [Ro (eI .u8) 5 1 (.slice a176 x175.2.2.1.length c177) x175.2.2.1, Ro (eI .u8) 5 1 (.slice a129 x131.length c130) x131], [SlN eN59 iN59 1 (.slice a2 x1.length c3) x1 s3, Sl (eI .i64) 1 (.slice a5 x4.length c6) x4], jQ F (zE F x1 x4 x7 x8 x9 k158) x125 x126 x127 x128 x131 x175 x181)) ?_ ?_
 refine qc (os := _) rfl ?_
 refine av [26,8] ?_ ?_
 intro h179
 refine qE (k := 29) rfl h179 ?_
 refine au [3,25,1,3] ?_
 refine qN 8 (!x125) [(0, .slice a2 x1.length c3), (1, .slice a5 x4.length c6), (5, .pointer (some ⟨g10, 0, none⟩)), (6, .pointer (some ⟨g11, 0, none⟩)), (7, .bool x125), (16, .int .i64 (iadd .i64 (imin x7 (x1.length : Int)) 1)), (17, .int .i64 x126), (9, .pointer (some ⟨g178, 0, none⟩)), (29, .bool true), (30, .bool x125), (31, .bool (!x125)), (32, .bool (!x125)), (40, .bool ((!x125) || (decide (x175.2.1 < x128))))] (fun h183 => ?_) (fun h183 => ?_) ?_
 refine qc (os := _) rfl (qE (k := 32) rfl h183 ?_)
 refine au [10,10,10,10,10,10,10,24,10] ?_
 refine qd (d := 40) (v := .bool ((!x125) || (decide (x175.2.1 < x128)))) rfl (by rw [h183]; simp only [Bool.true_or]) (qd (d := 32) (v := .bool (!x125)) rfl (by rw [h183] <;> rfl) ?_)
 exact az [0,24,3]
 refine qc (os := _) rfl (qD (k := 32) rfl h183 ?_)
 refine au [13,13,21,13,13,25,11,24,2,24,11] ?_
 refine qd (d := 40) (v := .bool ((!x125) || (decide (x175.2.1 < x128)))) rfl (by rw [h183]; simp only [Bool.false_or]) (qd (d := 32) (v := .bool (!x125)) rfl (by rw [h183] <;> rfl) ?_)
 exact az [0,24,3]
 refine qc (os := _) rfl ?_
 refine au [24,10,0] ?_
 exact qa (((!x125) || (decide (x175.2.1 < x128))), ())
 intro h179
 refine qD (k := 29) rfl h179 ?_
 refine au [10,10,10,10,10,10,10,10,10,10,10,24,11,0] ?_
 exact qa (false, ())
 rintro ⟨x181, _⟩
 try dsimp only
 refine qc (os := _) rfl ?_
 refine av [0,1,9] ?_ ?_
 intro _
 refine au [4,25,0,25,6,5,0,24,4] ?_
 exact qa ((true, x175.1, x175.2.1, x175.2.2.1), (a176, c177))
 intro _
 refine au [12,24,4] ?_
 exact qa ((x125, x127, x128, x131), (a129, c130))
 rintro ⟨⟨x169, x170, x171, x174⟩, ⟨a172, c173⟩⟩
 try dsimp only
 refine au [4,16,3,0] ?_
 exact qi ((x169, iadd .i64 x126 1, x170, x171, x174), (a172, c173))
 intro _
 refine au [24,8,18,18,24,9] ?_
 exact qa ((x125, x127, x128, x131), (a129, c130))
 rintro ⟨⟨x96, x97, x98, x101⟩, ⟨a99, c100⟩⟩
 try dsimp only
 refine au [2,4,25,0,3,24,0,5,0,1,8] ?_
 exact qy (a99, c100) (resL (rs := [.cell 6 140, .tmp 7]) rfl (.cell (i := 0) rfl tf140 rfl rfl (by simp) rfl (.tmp rfl ResOk.nil)) rfl) (fun h => by subst h; exact (.cons 0 rfl .nil))
set_option maxHeartbeats 4000000 in
theorem qc3 {F : Nat} {g1 : Nat} {x2 : Int} {x3 : Int} {x4 : Int} {x5 : Int} {x6 : Int} {x7 : List Int} {a8 : Option Addr} {c9 : Nat} {x10 : List Int} {a11 : Option Addr} {c12 : Nat} {x13 : List Int} {a14 : Option Addr} {c15 : Nat} {x16 : List (List Int)} {a17 : Option Addr} {c18 : Nat} {s18 : List (Option Addr × Nat)} {r : (Bool × Int × Int × Int × Int × Int × List Int × List Int × List Int)} (hm : j1 F x2 x3 x4 x5 x6 x7 x10 x13 x16 = some r) :
    PureM Tryz.prog 61 [.pointer (some ⟨g1, 0, none⟩), .agg #[.slice a17 x16.length c18]] [⟨g1, 107, [.int .i64 x2, .int .i64 x3, .int .i64 x4, .int .i64 x5, .int .i64 x6, .slice a8 x7.length c9, .slice a11 x10.length c12, .slice a14 x13.length c15]⟩] [Ro (eI .u8) 5 1 (.slice a8 x7.length c9) x7, Ro (eI .i64) 3 1 (.slice a11 x10.length c12) x10, Ro (eI .i64) 3 1 (.slice a14 x13.length c15) x13] [SlN eN59 iN59 1 (.slice a17 x16.length c18) x16 s18] ((Option Addr × Nat) × (Option Addr × Nat) × (Option Addr × Nat)) (fun _ => .bool r.1) (fun g => [⟨g1, 107, [.int .i64 r.2.1, .int .i64 r.2.2.1, .int .i64 r.2.2.2.1, .int .i64 r.2.2.2.2.1, .int .i64 r.2.2.2.2.2.1, .slice g.1.1 r.2.2.2.2.2.2.1.length g.1.2, .slice g.2.1.1 r.2.2.2.2.2.2.2.1.length g.2.1.2, .slice g.2.2.1 r.2.2.2.2.2.2.2.2.length g.2.2.2]⟩]) (fun g => [Ro (eI .u8) 5 1 (.slice g.1.1 r.2.2.2.2.2.2.1.length g.1.2) r.2.2.2.2.2.2.1, Ro (eI .i64) 3 1 (.slice g.2.1.1 r.2.2.2.2.2.2.2.1.length g.2.1.2) r.2.2.2.2.2.2.2.1, Ro (eI .i64) 3 1 (.slice g.2.2.1 r.2.2.2.2.2.2.2.2.length g.2.2.2) r.2.2.2.2.2.2.2.2]) := by
 refine zp Tryz.func61 rfl Tryz.ntmps61 rfl hm (fun w => ?_)
 refine au [24,12,2,4,24,5] ?_
 intro g19
 refine au [5,0,1] ?_
 refine qe (fun (((x710, x713, x716, x719), (a711, c712, a714, c715, a717, c718)) : ((Int × List Int × List Int × List Int) × (Option Addr × Nat × Option Addr × Nat × Option Addr × Nat))) => ([], [⟨g1, 107, [.int .i64 x2, .int .i64 x3, .int .i64 x4, .int .i64 x5, .int .i64 x710, .slice a711 x713.length c712, .slice a714 x716.length c715, .slice a717 x719.length c718]⟩], [Ro (eI .u8) 5 1 (.slice a711 x713.length c712) x713, Ro (eI .i64) 3 1 (.slice a714 x716.length c715) x716, Ro (eI .i64) 3 1 (.slice a717 x719.length c718) x719], [], vl F x2 x3 x4 x5 x710 x713 x716 x719)) ?_ ?_
 refine au [2,4,13,21,23,3,0,1,15] ?_
 refine qk (fun (((x946, x947, x950, x953, x956), (a948, c949, a951, c952, a954, c955)) : ((Int × Int × List Int × List Int × List Int) × (Option Addr × Nat × Option Addr × Nat × Option Addr × Nat))) => ([(0, .pointer (some ⟨g1, 0, none⟩)), (3, .pointer (some ⟨g19, 0, none⟩)), (10, .slice a17 x16.length c18), (11, .int .i64 (x16.length : Int)), (12, .int .i64 x946)], [⟨g19, 24, [.slice a17 x16.length c18]⟩, ⟨g1, 107, [.int .i64 x2, .int .i64 x3, .int .i64 x4, .int .i64 x5, .int .i64 x947, .slice a948 x950.length c949, .slice a951 x953.length c952, .slice a954 x956.length c955]⟩], [Ro (eI .u8) 5 1 (.slice a948 x950.length c949) x950, Ro (eI .i64) 3 1 (.slice a951 x953.length c952) x953, Ro (eI .i64) 3 1 (.slice a954 x956.length c955) x956], [SlN eN59 iN59 1 (.slice a17 x16.length c18) x16 s18])) (fun k (s : ((Int × Int × List Int × List Int × List Int) × (Option Addr × Nat × Option Addr × Nat × Option Addr × Nat))) => qs F x2 x3 x4 x5 x16 k s.1) ((0, x6, x7, x10, x13), (a8, c9, a11, c12, a14, c15)) F ?_
 intro k1183
 rintro ⟨⟨x946, x947, x950, x953, x956⟩, ⟨a948, c949, a951, c952, a954, c955⟩⟩
 try dsimp only
 refine qz (m' := kU F x2 x3 x4 x5 x16 (qs F x2 x3 x4 x5 x16 k1183) x946 x947 x950 x953 x956) rfl ?_
 refine av [2,4,24,2,0,1,2,9] ?_ ?_
 intro _
 refine au [12,1,2,15,2,4,3,27,3] ?_
 intro x1297 e1297 g1300 b1298 o1299
 refine au [25,9,5,5,0,1] ?_
 refine qe (fun (((x1316, x1317, x1318, x1321), (g1315, a1319, c1320)) : ((Bool × Int × Int × List Int) × (Nat × Option Addr × Nat))) => ([(0, .pointer (some ⟨g1, 0, none⟩)), (3, .pointer (some ⟨g19, 0, none⟩)), (7, .pointer (some ⟨g1315, 0, none⟩)), (8, .bool x1316), (10, .slice a17 x16.length c18), (11, .int .i64 (x16.length : Int)), (12, .int .i64 x946)], [⟨g19, 24, [.slice a17 x16.length c18]⟩, ⟨g1, 107, [.int .i64 x2, .int .i64 x3, .int .i64 x4, .int .i64 x5, .int .i64 x947, .slice a948 x950.length c949, .slice a951 x953.length c952, .slice a954 x956.length c955]⟩, ⟨g1315, 140, [.int .i64 x1317, .int .i64 x1318, .slice a1319 x1321.length c1320]⟩], [Ro (eI .u8) 5 1 (.slice a948 x950.length c949) x950, Ro (eI .i64) 3 1 (.slice a951 x953.length c952) x953, Ro (eI .i64) 3 1 (.slice a954 x956.length c955) x956, Ro (eI .u8) 5 1 (.slice a1319 x1321.length c1320) x1321], [SlN eN59 iN59 1 (.slice a17 x16.length c18) x16 s18], kV F (qs F x2 x3 x4 x5 x16 k1183) x2 x3 x4 x5 x946 x947 x950 x953 x956 x1316 x1317 x1318 x1321)) ?_ ?_
 refine qlm 2 vu rfl ?_
 intro x1395 e1395 a1396 c1397 g1398 h1399 h1400
 refine qq mixed [] [⟨g19, 24, [.slice a17 x16.length c18]⟩, ⟨g1, 107, [.int .i64 x2, .int .i64 x3, .int .i64 x4, .int .i64 x5, .int .i64 x947, .slice a948 x950.length c949, .slice a951 x953.length c952, .slice a954 x956.length c955]⟩] [SlN eN59 iN59 1 (.slice a1396 x1395.length c1397) x1395 g1398, qR b1298 o1299 (eN59 (x1297, g1300)), Sl (eI .i64) 1 (.slice g1300.1 x1297.length g1300.2) x1297, SlN eN59 iN59 1 (.slice a17 x16.length c18) x16 s18] (.cons 0 rfl (.cons 0 rfl .nil)) (qF 0 rfl (qF 1 rfl (qF 2 rfl (qF 3 rfl qm)))) 17 rfl ?_
 refine au [19,0,25,7,1,6,2] ?_
 refine qv 3 (.slice a1396 x1395.length c1397) rfl rfl rfl (qnE Tryz.underlying22 tf59 rfl rfl rfl e1395 h1400 h1399) ?_
 refine au [6,4,6,5,6,6,19,7,19,8] ?_
 refine zG 9 (.agg #[.int .i64 x3, .int .i64 x4, .int .i64 x5]) rfl rfl rfl (qZ (i := 1) rfl tf26 rfl rfl (by simp) rfl) (qb7 10 14 rfl rfl (by kernel_rfl) rfl rfl ?_ ?_)
 refine au [32,9] ?_
 rintro x1401 e1401 ⟨a1402, c1403⟩
 refine au [0] ?_
 refine zT (.cons 0 rfl (.cons 0 rfl .nil)) (qF 0 rfl (qF 1 rfl (qF 2 rfl (qF 3 rfl qm)))) ?_
 refine au [6,11,6,12,6,13,20,14,24,6] ?_
 intro g1404
 refine au [0,28,7,20,15,24,0,0,28,7,6,16,24,1] ?_
 exact qt (qa ((x1401.2.2.2, x1401.1, x1401.2.1, x1401.2.2.1), (g1404, a1402, c1403))) (by intro c h; cases h)
 refine qb9 (m' := ((qbt F x1395 x1297 x3 x4 x5).bind fun x1406 => kV F (qs F x2 x3 x4 x5 x16 k1183) x2 x3 x4 x5 x946 x947 x950 x953 x956 x1406.2.2.2 x1406.1 x1406.2.1 x1406.2.2.1)) (rfl) ?_
 refine au [24,6] ?_
 intro g1405
 refine au [0,28,7,20,10,32,9] ?_
 rintro x1406 e1406 ⟨a1407, c1408⟩
 refine au [0,28,7,6,11,6,12,6,13,20,15,24,0,0,28,7,6,16,24,1] ?_
 exact qt (qa ((x1406.2.2.2, x1406.1, x1406.2.1, x1406.2.2.1), (g1405, a1407, c1408))) (by intro c h; cases h)
 rintro ⟨⟨x1316, x1317, x1318, x1321⟩, ⟨g1315, a1319, c1320⟩⟩
 try dsimp only
 refine au [2] ?_
 refine qe (fun ((x1327, _) : (Bool × Unit)) => ([(0, .pointer (some ⟨g1, 0, none⟩)), (3, .pointer (some ⟨g19, 0, none⟩)), (7, .pointer (some ⟨g1315, 0, none⟩)), (10, .slice a17 x16.length c18), (11, .int .i64 (x16.length : Int)), (12, .int .i64 x946), (45, .bool x1327)], [⟨g19, 24, [.slice a17 x16.length c18]⟩, ⟨g1, 107, [.int .i64 x2, .int .i64 x3, .int .i64 x4, .int .i64 x5, .int .i64 x947, .slice a948 x950.length c949, .slice a951 x953.length c952, .slice a954 x956.length c955]⟩, ⟨g1315, 140, [.int .i64 x1317, .int .i64 x1318, .slice a1319 x1321.length c1320]⟩], [Ro (eI .u8) 5 1 (.slice a948 x950.length c949) x950, Ro (eI .i64) 3 1 (.slice a951 x953.length c952) x953, Ro (eI .i64) 3 1 (.slice a954 x956.length c955) x956, Ro (eI .u8) 5 1 (.slice a1319 x1321.length c1320) x1321], [SlN eN59 iN59 1 (.slice a17 x16.length c18) x16 s18], zY F (qs F x2 x3 x4 x5 x16 k1183) x2 x3 x4 x5 x946 x947 x950 x953 x956 x1317 x1318 x1321 x1327)) ?_ ?_
 refine av [26,13] ?_ ?_
 intro h1394
 refine qq mixed [] [⟨g19, 24, [.slice a17 x16.length c18]⟩, ⟨g1, 107, [.int .i64 x2, .int .i64 x3, .int .i64 x4, .int .i64 x5, .int .i64 x947, .slice a948 x950.length c949, .slice a951 x953.length c952, .slice a954 x956.length c955]⟩, ⟨g1315, 140, [.int .i64 x1317, .int .i64 x1318, .slice a1319 x1321.length c1320]⟩] [SlN eN59 iN59 1 (.slice a17 x16.length c18) x16 s18] (.cons 0 rfl (.cons 0 rfl (.cons 0 rfl .nil))) (qF 0 rfl qm) 15 rfl ?_
 refine au [6,0,6,1,6,2] ?_
 refine qf (d := 33) (v := .bool true) rfl (by rw [h1394] <;> rfl) ?_
 refine au [7,3,7,4,7,5,7,6,7,7,7,8,7,9,7,10,7,11,7,12,7,13,6,14,24,1] ?_
 exact qt (qa (true, ())) (by intro c h; cases h)
 intro h1394
 refine qq mixed [] [⟨g19, 24, [.slice a17 x16.length c18]⟩, ⟨g1, 107, [.int .i64 x2, .int .i64 x3, .int .i64 x4, .int .i64 x5, .int .i64 x947, .slice a948 x950.length c949, .slice a951 x953.length c952, .slice a954 x956.length c955]⟩, ⟨g1315, 140, [.int .i64 x1317, .int .i64 x1318, .slice a1319 x1321.length c1320]⟩] [SlN eN59 iN59 1 (.slice a17 x16.length c18) x16 s18] (.cons 0 rfl (.cons 0 rfl (.cons 0 rfl .nil))) (qF 0 rfl qm) 15 rfl ?_
 refine au [6,0,6,1,6,2] ?_
 refine qf (d := 33) (v := .bool false) rfl (by rw [h1394] <;> rfl) ?_
 refine au [6,3,6,4,19,5,19,6,19,7,26,1,8,19,9,19,10,27,12,11,6,12,6,13,6,14,24,1] ?_
 exact qt (qa ((decide (8192 < (iadd .i64 x947 x1318))), ())) (by intro c h; cases h)
 rintro ⟨x1327, _⟩
 try dsimp only
 refine av [9] ?_ ?_
 intro _
 refine au [2,4,5,0,1,8,11,22,11,11,22,11] ?_
 exact zl ((a948, c949), (a951, c952), (a954, c955))
 intro _
 refine au [12,1] ?_
 refine qe (fun (((x1358, x1361), (a1356, c1357, a1359, c1360)) : ((List Int × List Int) × (Option Addr × Nat × Option Addr × Nat))) => ([(0, .pointer (some ⟨g1, 0, none⟩)), (3, .pointer (some ⟨g19, 0, none⟩)), (7, .pointer (some ⟨g1315, 0, none⟩)), (10, .slice a17 x16.length c18), (11, .int .i64 (x16.length : Int)), (12, .int .i64 x946)], [⟨g19, 24, [.slice a17 x16.length c18]⟩, ⟨g1, 107, [.int .i64 x2, .int .i64 x3, .int .i64 x4, .int .i64 x5, .int .i64 x947, .slice a948 x950.length c949, .slice a1356 x1358.length c1357, .slice a1359 x1361.length c1360]⟩, ⟨g1315, 140, [.int .i64 x1317, .int .i64 x1318, .slice a1319 x1321.length c1320]⟩], [Ro (eI .u8) 5 1 (.slice a948 x950.length c949) x950, Ro (eI .i64) 3 1 (.slice a1356 x1358.length c1357) x1358, Ro (eI .i64) 3 1 (.slice a1359 x1361.length c1360) x1361, Ro (eI .u8) 5 1 (.slice a1319 x1321.length c1320) x1321], [SlN eN59 iN59 1 (.slice a17 x16.length c18) x16 s18], zZ F (qs F x2 x3 x4 x5 x16 k1183) x946 x947 x950 x1318 x1321 x1358 x1361)) ?_ ?_
 refine qq mixed [24, 27] [⟨g19, 24, [.slice a17 x16.length c18]⟩, ⟨g1315, 140, [.int .i64 x1317, .int .i64 x1318, .slice a1319 x1321.length c1320]⟩] [SlN eN59 iN59 1 (.slice a17 x16.length c18) x16 s18, (BlkD.is ⟨g1, 107, [.int .i64 x2, .int .i64 x3, .int .i64 x4, .int .i64 x5, .int .i64 x947, .slice a948 x950.length c949, .slice a951 x953.length c952, .slice a954 x956.length c955]⟩)] (.cons 0 rfl (.cons 1 rfl .nil)) (qF 0 rfl (qey 1 rfl qm)) 28 rfl ?_
 refine au [6,0,6,1,6,2,6,3,19,4] ?_
 refine zr 5 (.slice a951 x953.length c952) [[24], [27]] rfl rfl rfl (vG (j := 1) rfl tf59 rfl rfl (fun _ => rfl) rfl) ?_
 refine au [19,6,26,1,7,6,10,6,11,19,12] ?_
 refine zr 13 (.slice a954 x956.length c955) [[24], [27]] rfl rfl rfl (vG (j := 1) rfl tf59 rfl rfl (fun _ => rfl) rfl) ?_
 refine au [6,14,6,15,19,16,19,17,19,18] ?_
 refine zr 19 (.int .i64 x947) [[24], [27]] rfl rfl rfl (vG (j := 1) rfl tf3 rfl rfl (fun _ => rfl) rfl) (qb7 8 20 rfl rfl (by kernel_rfl) rfl rfl ?_ ?_)
 refine qu (vs := [.int .i64 x1317]) (ys := ([x1317] : List Int)) (qr .i64) (by decide) rfl Tryz.underlying59 tf3 rfl rfl rfl rfl rfl (by decide) (fun a1365 c1366 => ?_)
 refine au [0,26,4] ?_
 refine qb7 9 20 rfl rfl (by kernel_rfl) rfl rfl ?_ ?_
 refine zW 2 (qr .i64) rfl Tryz.underlying59 tf3 rfl rfl rfl rfl rfl (.inl ⟨0, _, rfl⟩) rfl rfl (fun x1367 e1367 a1368 c1369 => ?_)
 refine au [0,26,4,20,20] ?_
 refine qu (vs := [.int .i64 x947]) (ys := ([x947] : List Int)) (qr .i64) (by decide) rfl Tryz.underlying59 tf3 rfl rfl rfl rfl rfl (by decide) (fun a1370 c1371 => ?_)
 refine au [0,26,4,20,21] ?_
 refine zW 4 (qr .i64) rfl Tryz.underlying59 tf3 rfl rfl rfl rfl rfl (.inl ⟨0, _, rfl⟩) rfl rfl (fun x1372 e1372 a1373 c1374 => ?_)
 refine au [0,26,4,6,22,19,23,20,24,25,6,0,27,15,6,25,19,26,20,27,25,6,0,27,15,24,1] ?_
 exact qt (qa ((x1367, x1372), (a1368, c1369, a1373, c1374))) (by intro c h; cases h)
 refine qb9 (m' := ((app 8796093022208 x953 ([x1317] : List Int)).bind fun x1377 => ((app 8796093022208 x956 ([x947] : List Int)).bind fun x1380 => zZ F (qs F x2 x3 x4 x5 x16 k1183) x946 x947 x950 x1318 x1321 x1377 x1380))) (rfl) (qu (vs := [.int .i64 x947]) (ys := ([x947] : List Int)) (qr .i64) (by decide) rfl Tryz.underlying59 tf3 rfl rfl rfl rfl rfl (by decide) (fun a1375 c1376 => ?_))
 refine au [0,26,4,20,9] ?_
 refine zW 3 (qr .i64) rfl Tryz.underlying59 tf3 rfl rfl rfl rfl rfl (.inl ⟨1, _, rfl⟩) rfl rfl (fun x1377 e1377 a1378 c1379 => ?_)
 refine au [0,26,4,20,21] ?_
 refine zW 4 (qr .i64) rfl Tryz.underlying59 tf3 rfl rfl rfl rfl rfl (.inl ⟨1, _, rfl⟩) rfl rfl (fun x1380 e1380 a1381 c1382 => ?_)
 refine au [0,26,4,6,22,19,23,20,24,25,6,0,27,15,6,25,19,26,20,27,25,6,0,27,15,24,1] ?_
 exact qt (qa ((x1377, x1380), (a1378, c1379, a1381, c1382))) (by intro c h; cases h)
 refine qb9 (m' := ((app 8796093022208 x953 ([x1317] : List Int)).bind fun x1387 => ((app 8796093022208 x956 ([x947] : List Int)).bind fun x1390 => zZ F (qs F x2 x3 x4 x5 x16 k1183) x946 x947 x950 x1318 x1321 x1387 x1390))) (rfl) (qu (vs := [.int .i64 x947]) (ys := ([x947] : List Int)) (qr .i64) (by decide) rfl Tryz.underlying59 tf3 rfl rfl rfl rfl rfl (by decide) (fun a1383 c1384 => ?_))
 refine au [0,26,4,20,8] ?_
 refine qu (vs := [.int .i64 x1317]) (ys := ([x1317] : List Int)) (qr .i64) (by decide) rfl Tryz.underlying59 tf3 rfl rfl rfl rfl rfl (by decide) (fun a1385 c1386 => ?_)
 refine au [0,26,4,20,9] ?_
 refine zW 3 (qr .i64) rfl Tryz.underlying59 tf3 rfl rfl rfl rfl rfl (.inl ⟨0, _, rfl⟩) rfl rfl (fun x1387 e1387 a1388 c1389 => ?_)
 refine au [0,26,4,20,21] ?_
 refine zW 4 (qr .i64) rfl Tryz.underlying59 tf3 rfl rfl rfl rfl rfl (.inl ⟨2, _, rfl⟩) rfl rfl (fun x1390 e1390 a1391 c1392 => ?_)
 refine au [0,26,4,6,22,19,23,20,24,25,6,0,27,15,6,25,19,26,20,27,25,6,0,27,15,24,1] ?_
 exact qt (qa ((x1387, x1390), (a1388, c1389, a1391, c1392))) (by intro c h; cases h)
 rintro ⟨⟨x1358, x1361⟩, ⟨a1356, c1357, a1359, c1360⟩⟩
 try dsimp only
 refine qq mixed [12] [⟨g19, 24, [.slice a17 x16.length c18]⟩, ⟨g1315, 140, [.int .i64 x1317, .int .i64 x1318, .slice a1319 x1321.length c1320]⟩] [SlN eN59 iN59 1 (.slice a17 x16.length c18) x16 s18, (BlkD.is ⟨g1, 107, [.int .i64 x2, .int .i64 x3, .int .i64 x4, .int .i64 x5, .int .i64 x947, .slice a948 x950.length c949, .slice a1356 x1358.length c1357, .slice a1359 x1361.length c1360]⟩)] (.cons 0 rfl (.cons 1 rfl .nil)) (qF 0 rfl (qey 1 rfl qm)) 13 rfl ?_
 refine au [6,0,6,1,6,2,19,3,19,4] ?_
 refine zr 5 (.agg #[.int .i64 x947, .slice a948 x950.length c949]) [[12]] rfl rfl rfl (vG (j := 1) rfl tf65 rfl rfl (by simp) rfl) ?_
 refine au [19,6] ?_
 refine zG 7 (.agg #[.int .i64 x1318, .slice a1319 x1321.length c1320]) rfl rfl rfl (qZ (i := 1) rfl tf65 rfl rfl (by simp) rfl) ?_
 refine au [20,8,28,10] ?_
 rintro x1362 e1362 ⟨a1363, c1364⟩
 refine au [0,26,4,6,9,19,10,19,11,20,12,25,6,0] ?_
 refine qaS 12 rfl (by kernel_rfl) (.cons 0 rfl (.cons 1 rfl .nil)) ?_
 refine au [24,1] ?_
 refine qt ?_ (by intro c h; cases h)
 refine au [24,4,1,4,16,3,0] ?_
 exact qi ((iadd .i64 x946 1, x1362.1, x1362.2, x1358, x1361), (a1363, c1364, a1356, c1357, a1359, c1360))
 intro _
 refine au [24,8,18,18,24,9] ?_
 exact qa ((x947, x950, x953, x956), (a948, c949, a951, c952, a954, c955))
 rintro ⟨⟨x710, x713, x716, x719⟩, ⟨a711, c712, a714, c715, a717, c718⟩⟩
 try dsimp only
 refine au [2,4,5,0,1,8] ?_
 exact zl ((a711, c712), (a714, c715), (a717, c718))
set_option maxHeartbeats 4000000 in
theorem qfu {F : Nat} {x1 : List (List Int)} {a2 : Option Addr} {c3 : Nat} {s3 : List (Option Addr × Nat)} {x4 : Int} {x5 : Int} {x6 : Int} {r : (Int × Int × Int × Int × Int × List Int × List Int × List Int × Int)} (hm : qaJ F x1 x4 x5 x6 = some r) :
    PureM Tryz.prog 46 [.agg #[.slice a2 x1.length c3], .agg #[.int .i64 x4, .int .i64 x5, .int .i64 x6]] [] [] [SlN eN59 iN59 1 (.slice a2 x1.length c3) x1 s3] ((Option Addr × Nat) × (Option Addr × Nat) × (Option Addr × Nat) × Nat) (fun g => .tuple #[.pointer (some ⟨g.2.2.2, 0, none⟩), .int .i64 r.2.2.2.2.2.2.2.2]) (fun g => [⟨g.2.2.2, 107, [.int .i64 r.1, .int .i64 r.2.1, .int .i64 r.2.2.1, .int .i64 r.2.2.2.1, .int .i64 r.2.2.2.2.1, .slice g.1.1 r.2.2.2.2.2.1.length g.1.2, .slice g.2.1.1 r.2.2.2.2.2.2.1.length g.2.1.2, .slice g.2.2.1.1 r.2.2.2.2.2.2.2.1.length g.2.2.1.2]⟩]) (fun g => [Ro (eI .u8) 5 1 (.slice g.1.1 r.2.2.2.2.2.1.length g.1.2) r.2.2.2.2.2.1, Ro (eI .i64) 3 1 (.slice g.2.1.1 r.2.2.2.2.2.2.1.length g.2.1.2) r.2.2.2.2.2.2.1, Ro (eI .i64) 3 1 (.slice g.2.2.1.1 r.2.2.2.2.2.2.2.1.length g.2.2.1.2) r.2.2.2.2.2.2.2.1]) := by
 refine zp Tryz.func46 rfl Tryz.ntmps46 rfl hm (fun w => ?_)
 refine au [24,12,2,4,24,5] ?_
 intro g7
 refine au [24,5] ?_
 intro g8
 refine au [5,5,0,1,2,4,25,8,29,4] ?_
 intro x9 e9 _
 refine au [5,0,1] ?_
 refine qe (fun ((x12, _) : (Int × Unit)) => ([(2, .pointer (some ⟨g7, 0, none⟩)), (3, .pointer (some ⟨g8, 0, none⟩)), (6, .int .i64 x12)], [⟨g8, 26, [.int .i64 x4, .int .i64 x5, .int .i64 x6]⟩, ⟨g7, 24, [.slice a2 x1.length c3]⟩], [], [SlN eN59 iN59 1 (.slice a2 x1.length c3) x1 s3], yX F x1 x4 x5 x6 x12)) ?_ ?_
 refine av [2,4,3,25,2,0,1,9] ?_ ?_
 intro _
 refine au [4,25,0,29,15] ?_
 intro x97 e97 _
 refine au [5,0] ?_
 exact qa (x97, ())
 intro _
 refine au [12] ?_
 exact qa (x9, ())
 rintro ⟨x12, _⟩
 try dsimp only
 refine au [2,4,13,25,11,23,25,0] ?_
 refine qj (cells := [.int .i64 (x1.length : Int), .int .i64 x4, .int .i64 x5, .int .i64 x6, .int .i64 0, .slice none 0 0]) rfl st75 rfl (by kernel_rfl) rfl (qj (cells := [.int .i64 (x1.length : Int), .int .i64 x4, .int .i64 x5, .int .i64 x6, .int .i64 0, .slice none 0 0, .slice none 0 0, .slice none 0 0]) rfl st107 rfl (by kernel_rfl) rfl ?_)
 refine au [24,5] ?_
 intro g13
 refine au [5,0,1] ?_
 refine qe (fun (((x48, x49, x50, x51, x52, x53, x56, x59, x62), (a54, c55, a57, c58, a60, c61)) : ((Int × Int × Int × Int × Int × Int × List Int × List Int × List Int) × (Option Addr × Nat × Option Addr × Nat × Option Addr × Nat))) => ([(6, .int .i64 x48), (7, .pointer (some ⟨g13, 0, none⟩))], [⟨g13, 107, [.int .i64 x49, .int .i64 x50, .int .i64 x51, .int .i64 x52, .int .i64 x53, .slice a54 x56.length c55, .slice a57 x59.length c58, .slice a60 x62.length c61]⟩], [Ro (eI .u8) 5 1 (.slice a54 x56.length c55) x56, Ro (eI .i64) 3 1 (.slice a57 x59.length c58) x59, Ro (eI .i64) 3 1 (.slice a60 x62.length c61) x62], [], k8 F x48 x49 x50 x51 x52 x53 x56 x59 x62)) ?_ ?_
 refine au [2,4,3,25,2,3] ?_
 refine y9 5 (fun (((x74, x75, x76, x77, x78, x79, x82, x85, x88), (a80, c81, a83, c84, a86, c87)) : ((Bool × Int × Int × Int × Int × Int × List Int × List Int × List Int) × (Option Addr × Nat × Option Addr × Nat × Option Addr × Nat))) => ([(6, .int .i64 x12), (7, .pointer (some ⟨g13, 0, none⟩)), (28, .bool x74)], [⟨g13, 107, [.int .i64 x75, .int .i64 x76, .int .i64 x77, .int .i64 x78, .int .i64 x79, .slice a80 x82.length c81, .slice a83 x85.length c84, .slice a86 x88.length c87]⟩], [Ro (eI .u8) 5 1 (.slice a80 x82.length c81) x82, Ro (eI .i64) 3 1 (.slice a83 x85.length c84) x85, Ro (eI .i64) 3 1 (.slice a86 x88.length c87) x88], [], k9 F x12 x74 x75 x76 x77 x78 x79 x82 x85 x88)) ?_ ?_
 refine qc (os := _) rfl ?_
 refine av [26,8] ?_ ?_
 intro h63
 refine qE (k := 23) rfl h63 ?_
 refine au [3,26,14,27,14,27,1,27,1] ?_
 refine qT qc3 ?_
 rintro x90 e90 ⟨⟨a91, c92⟩, ⟨a93, c94⟩, ⟨a95, c96⟩⟩
 refine au [25,1,24,10,0] ?_
 exact qa (((!x90.1), x90.2.1, x90.2.2.1, x90.2.2.2.1, x90.2.2.2.2.1, x90.2.2.2.2.2.1, x90.2.2.2.2.2.2.1, x90.2.2.2.2.2.2.2.1, x90.2.2.2.2.2.2.2.2), (a91, c92, a93, c94, a95, c96))
 intro h63
 refine qD (k := 23) rfl h63 ?_
 refine au [10,10,10,10,24,11,0,26,2,25,10,25,10] ?_
 exact qa ((false, (x1.length : Int), x4, x5, x6, (0 : Int), ([] : List Int), ([] : List Int), ([] : List Int)), (none, 0, none, 0, none, 0))
 rintro ⟨⟨x74, x75, x76, x77, x78, x79, x82, x85, x88⟩, ⟨a80, c81, a83, c84, a86, c87⟩⟩
 try dsimp only
 refine qc (os := _) rfl ?_
 refine av [0,1,9] ?_ ?_
 intro _
 refine au [4,5,0] ?_
 exact qa (((8 : Int), x75, x76, x77, x78, x79, x82, x85, x88), (a80, c81, a83, c84, a86, c87))
 intro _
 refine au [12] ?_
 exact qa ((x12, x75, x76, x77, x78, x79, x82, x85, x88), (a80, c81, a83, c84, a86, c87))
 rintro ⟨⟨x48, x49, x50, x51, x52, x53, x56, x59, x62⟩, ⟨a54, c55, a57, c58, a60, c61⟩⟩
 try dsimp only
 refine au [2,4,3,3,5,5,0,1,8] ?_
 exact zl ((a54, c55), (a57, c58), (a60, c61), g13)
theorem qgv {F : Nat} {x1 : List (List Int)} {a2 : Option Addr} {c3 : Nat} {s3 : List (Option Addr × Nat)} {x4 : Int} {x5 : Int} {x6 : Int} {r : (Int × Int × Int × Int × Int × List Int × Int)} (hm : qag F x1 x4 x5 x6 = some r) :
    Pure Tryz.prog 35 [.agg #[.slice a2 x1.length c3], .agg #[.int .i64 x4, .int .i64 x5, .int .i64 x6]] [SlN eN59 iN59 1 (.slice a2 x1.length c3) x1 s3] (Option Addr × Nat) (fun g => .tuple #[.agg #[.int .i64 r.1, .int .i64 r.2.1, .int .i64 r.2.2.1, .int .i64 r.2.2.2.1, .int .i64 r.2.2.2.2.1, .slice g.1 r.2.2.2.2.2.1.length g.2], .int .i64 r.2.2.2.2.2.2]) (fun g => [Ro (eI .u8) 5 1 (.slice g.1 r.2.2.2.2.2.1.length g.2) r.2.2.2.2.2.1]) (fun _ => []) := by
 refine qh Tryz.func35 rfl Tryz.ntmps35 rfl hm (fun w => ?_)
 refine au [24,12,2,4,24,5] ?_
 intro g7
 refine au [24,5] ?_
 intro g8
 refine au [24,6] ?_
 intro g9
 refine au [5,0,1,2,4,26,14,25,8] ?_
 refine qT qfu ?_
 rintro x10 e10 ⟨⟨a11, c12⟩, ⟨a13, c14⟩, ⟨a15, c16⟩, g17⟩
 refine av [3,14,14,5,5,0,1,2,2,4,3,25,3,0,1,9] ?_ ?_
 intro _
 refine au [2,4] ?_
 refine qj (cells := [.int .i64 0, .int .i64 0, .int .i64 0, .int .i64 0, .int .i64 0, .slice none 0 0]) rfl st75 rfl (by kernel_rfl) rfl ?_
 refine au [3,25,6,5,0,1,8,11,26,2] ?_
 exact qy (none, 0) (resL (rs := [.cell 4 75, .tmp 5]) rfl (.cell (i := 1) rfl tf75 rfl rfl (by simp) rfl (.tmp rfl ResOk.nil)) rfl) (fun h => by subst h; exact (.cons 0 rfl .nil))
 intro _
 refine au [12,1,2,4,3,24,7,13,25,0,25,6,5,0,1,8] ?_
 exact qy (a11, c12) (resL (rs := [.cell 4 75, .tmp 5]) rfl (.cell (i := 1) rfl tf75 rfl rfl (by simp) rfl (.tmp rfl ResOk.nil)) rfl) (fun h => by subst h; exact (.cons 0 rfl .nil))
set_option maxHeartbeats 4000000 in
theorem qgu {F : Nat} {x1 : Int} {x2 : Int} {x3 : Int} {x4 : Int} {x5 : Int} {x6 : List Int} {a7 : Option Addr} {c8 : Nat} {r : Int} (hm : qaZ F x1 x2 x3 x4 x5 x6 = some r) :
    Pure Tryz.prog 64 [.agg #[.int .i64 x1, .int .i64 x2, .int .i64 x3, .int .i64 x4, .int .i64 x5, .slice a7 x6.length c8]] [Sl (eI .u8) 1 (.slice a7 x6.length c8) x6] Unit (fun _ => .int .i64 r) (fun _ => []) (fun _ => []) := by
 refine qh Tryz.func64 rfl Tryz.ntmps64 rfl hm (fun w => ?_)
 refine au [25,5,2,4,24,5] ?_
 intro g9
 refine au [5,0,1,2,2,4,13,21,24,2,3] ?_
 refine qN 4 (decide (x1 < 0)) [(1, .pointer (some ⟨g9, 0, none⟩)), (11, .bool ((decide (x1 < 0)) || (decide (100 < x1))))] (fun h12 => ?_) (fun h12 => ?_) ?_
 refine qc (os := _) rfl (qE (k := 7) rfl h12 ?_)
 refine au [10,10,10,24,10] ?_
 refine qd (d := 11) (v := .bool ((decide (x1 < 0)) || (decide (100 < x1)))) rfl (by rw [h12]; simp only [Bool.true_or]) ?_
 exact az [0,24,3]
 refine qc (os := _) rfl (qD (k := 7) rfl h12 ?_)
 refine au [13,21,24,13,24,11] ?_
 refine qd (d := 11) (v := .bool ((decide (x1 < 0)) || (decide (100 < x1)))) rfl (by rw [h12]; simp only [Bool.false_or]) ?_
 exact az [0,24,3]
 refine qc (os := _) rfl ?_
 refine av [0,1,9] ?_ ?_
 intro _
 exact az [2,4,5,0,1,8,11,17]
 intro _
 refine au [12,1,2,2,4,13,25,0,29,15] ?_
 intro x15 e15 _
 refine av [5,0,1,2,4,3,25,3,0,1,9] ?_ ?_
 intro _
 exact az [2,4,3,5,0,1,8,11,17]
 intro _
 refine au [12,1,2,4,13,25,0,32,10] ?_
 intro x16 e16 _
 exact az [5,0,1,8,17]
set_option maxHeartbeats 4000000 in
theorem qgC {F : Nat} {x1 : Int} {x2 : List Int} {a3 : Option Addr} {c4 : Nat} {x5 : Int} {r : (Int × Int × Bool)} (hm : qaj F x1 x2 x5 = some r) :
    Pure Tryz.prog 119 [.agg #[.int .i64 x1, .slice a3 x2.length c4], .int .i64 x5] [Sl (eI .u8) 1 (.slice a3 x2.length c4) x2] Unit (fun _ => .tuple #[.int .u64 r.1, .int .i64 r.2.1, .bool r.2.2]) (fun _ => []) (fun _ => []) := by
 refine qh Tryz.func119 rfl Tryz.ntmps119 rfl hm (fun w => ?_)
 refine au [24,12,2,4,24,5] ?_
 intro g6
 refine au [5,5,5,0,1] ?_
 refine qe (fun ((_, _) : (Unit × Unit)) => ([], [], [], [], qcg F)) ?_ ?_
 refine au [2,4,3,5,0,1,15] ?_
 refine qk (fun ((x33, _) : (Int × Unit)) => ([(1, .int .i64 x5), (2, .pointer (some ⟨g6, 0, none⟩)), (7, .int .i64 x33)], [⟨g6, 65, [.int .i64 x1, .slice a3 x2.length c4]⟩], [], [Sl (eI .u8) 1 (.slice a3 x2.length c4) x2])) (fun k (s : (Int × Unit)) => yw F x1 x2 x5 k s.1) (x5, ()) F ?_
 intro k40
 rintro ⟨x33, _⟩
 try dsimp only
 refine qz (m' := jV F x1 x2 x5 (yw F x1 x2 x5 k40) x33) rfl ?_
 refine av [2,2,4,3,13,21,24,2,0,1,9] ?_ ?_
 intro _
 refine au [12,1,2,15,2,4,25,0,3,28,3] ?_
 intro x44 e44 _
 refine av [25,2,0,1,9] ?_ ?_
 intro _
 exact az [2,4,3,3,24,15,24,14,3,16,5,5,5,0,1,8,22,11,11,22,11,17]
 intro _
 refine au [12,24,4,1,4,3,16,5,0] ?_
 exact qi (iadd .i64 x33 1, ())
 intro _
 exact az [24,8,18,18,24,9,25,13]
 rintro ⟨_, _⟩
 try dsimp only
 exact az [2,4,5,5,5,0,1,8,17]
theorem qcP (F : Nat) (x1 : Int) (x2 : List Int) (a3 : Option Addr) (c4 : Nat) (x5 : Int) (r : (Int × Int × Int)) (hm : jC F x1 x2 x5 = some r) :
    Pure Tryz.prog 105 [.agg #[.int .i64 x1, .slice a3 x2.length c4], .int .i64 x5] [Sl (eI .u8) 1 (.slice a3 x2.length c4) x2] Unit (fun _ => .tuple #[.int .u64 r.1, .int .i64 r.2.1, .int .i64 r.2.2]) (fun _ => []) (fun _ => []) := by
 refine qh Tryz.func105 rfl Tryz.ntmps105 rfl hm (fun w => ?_)
 refine au [24,12,2,4,24,5] ?_
 intro g6
 refine au [5,5,5,0,1,2,4,25,0,3,32,11] ?_
 intro x7 e7 _
 refine av [3,14,14,14,5,5,5,0,1,2,2,4,3,25,1,0,1,9] ?_ ?_
 intro _
 exact az [2,4,5,5,5,0,1,8,11,17]
 intro _
 exact az [12,1,2,4,3,3,5,5,5,0,1,8,17]
set_option maxHeartbeats 4000000 in
theorem qhB {F : Nat} {x1 : Int} {x2 : List Int} {a3 : Option Addr} {c4 : Nat} {x5 : Int} {x6 : Int} {r : (Int × Bool)} (hm : ve F x1 x2 x5 x6 = some r) :
    Pure Tryz.prog 120 [.agg #[.int .i64 x1, .slice a3 x2.length c4], .int .i64 x5, .int .i64 x6] [Sl (eI .u8) 1 (.slice a3 x2.length c4) x2] Unit (fun _ => .tuple #[.int .u64 r.1, .bool r.2]) (fun _ => []) (fun _ => []) := by
 refine qh Tryz.func120 rfl Tryz.ntmps120 rfl hm (fun w => ?_)
 refine au [25,12,2,4,24,5] ?_
 intro g7
 refine av [5,5,0,1,2,2,4,13,21,3,24,15,3,24,2,0,1,9] ?_ ?_
 intro _
 exact az [2,4,5,5,0,1,8,11,17]
 intro _
 refine au [12,1] ?_
 refine qe (fun ((x24, _) : (Int × Unit)) => ([(6, .int .u64 x24)], [], [], [], qa7 F x24)) ?_ ?_
 refine au [2,4,3,3,0,1,15] ?_
 refine qk (fun (((x29, x30), _) : ((Int × Int) × Unit)) => ([(1, .int .i64 x5), (3, .pointer (some ⟨g7, 0, none⟩)), (6, .int .u64 x29), (15, .int .i64 x6), (16, .int .i64 x30)], [⟨g7, 65, [.int .i64 x1, .slice a3 x2.length c4]⟩], [], [Sl (eI .u8) 1 (.slice a3 x2.length c4) x2])) (fun k (s : ((Int × Int) × Unit)) => yS F x1 x2 x5 x6 k s.1) ((0, 0), ()) F ?_
 intro k35
 rintro ⟨⟨x29, x30⟩, _⟩
 try dsimp only
 refine qz (m' := j6 F x1 x2 x5 x6 (yS F x1 x2 x5 x6 k35) x29 x30) rfl ?_
 refine av [2,4,24,2,0,1,2,9] ?_ ?_
 intro _
 refine au [12,1,2,15,2,4,3,5,0,1,4,3,31,12,25,0,3,3,16,28,3] ?_
 intro x38 e38 _
 refine au [29,0,5,0,24,4,1,4,16,3,0] ?_
 exact qi ((ior .u64 (ishl .u64 x29 1) x38, iadd .i64 x30 1), ())
 intro _
 refine au [24,8,18,18,24,9] ?_
 exact qa (x29, ())
 rintro ⟨x24, _⟩
 try dsimp only
 exact az [2,4,3,5,5,0,1,8,17]
set_option maxHeartbeats 4000000 in
theorem jg {F : Nat} {x1 : Int} {x2 : List Int} {a3 : Option Addr} {c4 : Nat} {x5 : Int} {r : (Int × Int × Int)} (hm : zu F x1 x2 x5 = some r) :
    Pure Tryz.prog 106 [.func (.func 105) #[] #[], .agg #[.int .i64 x1, .slice a3 x2.length c4], .int .i64 x5] [Sl (eI .u8) 1 (.slice a3 x2.length c4) x2] Unit (fun _ => .tuple #[.int .u64 r.1, .int .i64 r.2.1, .int .i64 r.2.2]) (fun _ => []) (fun _ => []) := by
 refine qh Tryz.func106 rfl Tryz.ntmps106 rfl hm (fun w => ?_)
 refine au [25,12,2,4,24,5] ?_
 intro g6
 refine au [5,5,5,0,1,2,4,3,25,0,3] ?_
 refine qlp ent105 rfl rfl rfl rfl (fun x7 e7 => qcP F x1 x2 a3 c4 x5 x7 e7) (.consF 0 rfl .nil) (fun x7 e7 _ => ?_)
 refine av [3,14,14,14,5,5,5,0,1,2,2,4,3,25,3,0,1,9] ?_ ?_
 intro _
 exact az [2,4,3,5,5,5,0,1,8,11,17]
 intro _
 refine av [12,1,2,2,4,3,26,0,0,1,9] ?_ ?_
 intro _
 exact az [2,4,5,5,5,0,1,8,11,17]
 intro _
 refine au [12,1,2,4,25,0,3,3,24,14,30,0] ?_
 intro x10 e10 _
 refine av [3,14,14,5,5,0,1,2,2,4,3,25,1,0,1,9] ?_ ?_
 intro _
 exact az [2,4,5,5,5,0,1,8,11,17]
 intro _
 refine au [12,1,2,2,4,3,3,26,9] ?_
 intro h15
 refine qdP rfl rfl rfl rfl h15 ?_
 refine au [24,15,16,5,26,6] ?_
 intro x16 e16
 refine qd (d := 12) (v := .int .u64 x16) rfl (by rw [e16] <;> rfl) ?_
 refine av [0,1,2,4,3,24,13,0,1,9] ?_ ?_
 intro _
 exact az [2,4,5,5,5,0,1,8,11,17]
 intro _
 exact az [12,1,2,4,3,3,3,24,14,16,5,5,5,0,1,8,17]
theorem qdn {F : Nat} {x1 : Int} {x2 : List Int} {a3 : Option Addr} {c4 : Nat} {x5 : Int} {r : (Int × Int × Int)} (hm : yD F x1 x2 x5 = some r) :
    Pure Tryz.prog 95 [.agg #[.int .i64 x1, .slice a3 x2.length c4], .int .i64 x5] [Sl (eI .u8) 1 (.slice a3 x2.length c4) x2] Unit (fun _ => .tuple #[.int .u64 r.1, .int .i64 r.2.1, .int .i64 r.2.2]) (fun _ => []) (fun _ => []) := by
 refine qh Tryz.func95 rfl Tryz.ntmps95 rfl hm (fun w => ?_)
 refine au [24,12,2,4,24,5] ?_
 intro g6
 refine au [5,5,5,0,1,2,4,25,0,3] ?_
 refine qg jg ?_
 intro x7 e7 _
 exact az [14,14,14,5,5,5,0,1,8,17]
set_option maxHeartbeats 4000000 in
theorem qiX {F : Nat} {x1 : Int} {x2 : Int} {x3 : Int} {x4 : Int} {x5 : Int} {x6 : List Int} {a7 : Option Addr} {c8 : Nat} {x9 : Int} {x10 : Int} {r : (Int × Int × Bool)} (hm : qbW F x1 x2 x3 x4 x5 x6 x9 x10 = some r) :
    Pure Tryz.prog 82 [.agg #[.int .i64 x1, .int .i64 x2, .int .i64 x3, .int .i64 x4, .int .i64 x5, .slice a7 x6.length c8], .int .i64 x9, .int .i64 x10] [Sl (eI .u8) 1 (.slice a7 x6.length c8) x6] Unit (fun _ => .tuple #[.int .i64 r.1, .int .i64 r.2.1, .bool r.2.2]) (fun _ => []) (fun _ => []) := by
 refine qh Tryz.func82 rfl Tryz.ntmps82 rfl hm (fun w => ?_)
 refine au [25,12,2,4,24,5] ?_
 intro g11
 refine av [5,5,5,0,1,2,2,4,13,13,21,25,2,0,1,9] ?_ ?_
 intro _
 exact az [2,4,3,5,5,5,0,1,8,11,17]
 intro _
 refine au [12,1,2,4,13,25,0,3,32,12] ?_
 intro x13 e13 _
 refine au [3,14,14,14,5,5,5,0,1,2,2,4,3,25,3,3] ?_
 refine y9 9 (fun ((x18, _) : (Bool × Unit)) => ([(7, .int .i64 x13.2.1), (9, .int .u64 x13.1), (35, .bool x18)], [], [], [], qaI F x13 x18)) ?_ ?_
 refine qc (os := _) rfl ?_
 refine av [26,8] ?_ ?_
 intro h17
 refine qE (k := 26) rfl h17 ?_
 refine au [10,10,10,10,10,10,10,10,24,10,0] ?_
 exact qa (true, ())
 intro h17
 refine qD (k := 26) rfl h17 ?_
 refine au [3,13,13,21,3,27,11,24,14,24,13,24,11,0] ?_
 exact qa ((decide ((iconv .u64 (imin x2 x10)) < x13.1)), ())
 rintro ⟨x18, _⟩
 try dsimp only
 refine qc (os := _) rfl ?_
 refine av [0,1,9] ?_ ?_
 intro _
 exact az [2,4,5,5,5,0,1,8,11,17]
 intro _
 exact az [12,1,2,4,3,24,14,3,5,5,5,0,1,8,17]
theorem vc (F : Nat) (x1 : Bool) (r : (Unit ⊕ Unit)) (hm : kq F x1 = some r) :
    PureL Tryz.prog 109 [.bool x1] [] [] [] lostCh Unit (fun (_ : Unit) (_ : Unit) => .tuple #[]) (fun (_ : Unit) (_ : Unit) => []) (fun (_ : Unit) (_ : Unit) => []) (fun (_ : Unit) => []) r := by
 refine qcv Tryz.func109 rfl Tryz.ntmps109 rfl hm (fun w => ?_)
 refine av [25,5,2,4,3,25,1,0,1,9] ?_ ?_
 intro _
 refine au [4] ?_
 exact qj (cells := []) rfl inferInstance rfl (by kernel_rfl) rfl (qlu rfl rfl (qn2 _) rfl (qlx rfl rfl (qgl .nil)))
 intro _
 refine au [12] ?_
 exact qaz () (.inr rfl) (res0 rfl) rfl .nil .nil
theorem kn (F : Nat) (g1 : Nat) (x2 : Int) (x3 : List Int) (a4 : Option Addr) (c5 : Nat) (x6 : Int) (x7 : Int) (r : ((Int × Int × Int) ⊕ (Int × Int))) (hm : zb F x2 x3 x6 x7 = some r) :
    PureL Tryz.prog 121 [.pointer (some ⟨g1, 0, none⟩), .int .i64 x7] [⟨g1, 166, [.int .i64 x2, .slice a4 x3.length c5, .int .i64 x6]⟩] [] [Sl (eI .u8) 1 (.slice a4 x3.length c5) x3] lostCh Unit (fun (r : (Int × Int × Int)) (_ : Unit) => .int .i64 r.1) (fun (r : (Int × Int × Int)) (_ : Unit) => [⟨g1, 166, [.int .i64 r.2.1, .slice a4 x3.length c5, .int .i64 r.2.2]⟩]) (fun (_ : (Int × Int × Int)) (_ : Unit) => []) (fun (z : (Int × Int)) => [⟨g1, 166, [.int .i64 z.1, .slice a4 x3.length c5, .int .i64 z.2]⟩]) r := by
 refine qcv Tryz.func121 rfl Tryz.ntmps121 rfl hm (fun w => ?_)
 refine au [24,12,2,4,5,0,1,2] ?_
 refine qq mixed [] [⟨g1, 166, [.int .i64 x2, .slice a4 x3.length c5, .int .i64 x6]⟩] [Sl (eI .u8) 1 (.slice a4 x3.length c5) x3] (.cons 0 rfl .nil) (qF 0 rfl qm) 16 rfl ?_
 refine au [6,0,6,1,19,2] ?_
 refine zG 3 (.agg #[.int .i64 x2, .slice a4 x3.length c5]) rfl rfl rfl (qZ (i := 0) rfl tf65 rfl rfl (by simp) rfl) ?_
 refine au [6,4,6,5,19,6,25,7,7,20,8,32,12] ?_
 intro x9 e9 _
 refine au [0,26,10,6,9,6,10,6,11,6,12,6,13,6,14,6,15,24,1] ?_
 refine qt ?_ (by intro c h; cases h)
 refine au [1,2,4,3,25,2,3] ?_
 refine qN 5 ((x9.2.2 : Int) == 0) [(0, .pointer (some ⟨g1, 0, none⟩)), (5, .int .u64 x9.1), (6, .int .i64 x9.2.1), (28, .bool (((x9.2.2 : Int) == 0) && (decide (x9.1 ≤ (iconv .u64 x7)))))] (fun h10 => ?_) (fun h10 => ?_) ?_
 refine qc (os := _) rfl (qE (k := 23) rfl h10 ?_)
 refine au [3,3,24,14,27,4,24,10] ?_
 refine qd (d := 28) (v := .bool (((x9.2.2 : Int) == 0) && (decide (x9.1 ≤ (iconv .u64 x7))))) rfl (by rw [h10]; simp only [Bool.true_and]) ?_
 exact az [0,24,3]
 refine qc (os := _) rfl (qD (k := 23) rfl h10 ?_)
 refine au [10,10,10,10,24,11] ?_
 refine qd (d := 28) (v := .bool (((x9.2.2 : Int) == 0) && (decide (x9.1 ≤ (iconv .u64 x7))))) rfl (by rw [h10]; simp only [Bool.false_and]) ?_
 exact az [0,24,3]
 refine qc (os := _) rfl (zS ent109 rfl rfl rfl (fun x11 e11 => vc F (((x9.2.2 : Int) == 0) && (decide (x9.1 ≤ (iconv .u64 x7)))) x11 e11) .nil .nil .nil (fun x12 _ => ?_) (fun x11 e11 => ?_))
 exact az [25,4,26,5]
 intro _
 refine au [0,1,2,4,3,3,24,7,13,24,0,0,1,2,4,3,24,14,5,0,1,8] ?_
 exact qaz () (.inl rfl) (res1 rfl rfl) rfl (.cons 0 rfl .nil) .nil
end Go.Proofs.YtlioijpkhffbnaaGreat
