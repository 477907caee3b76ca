/- Each Go function of this seat computes what its model says, part 2. -/
import Derived.Test.YtnlodcokfndnmaaGreatWalks
namespace Go.Proofs.YtnlodcokfndnmaaGreat
open Go SX
set_option maxHeartbeats 4000000 in
theorem qcl {F : Nat} {g1 : Nat} {x2 : Int} {x3 : List Int} {a4 : Option Addr} {c5 : Nat} {x6 : Bool} {x7 : Int} {x8 : Int} {x9 : List (Int × Int)} {a10 : Option Addr} {c11 : Nat} {r : (Int × List Int × Bool)} (hm : yS F x2 x3 x6 x7 x8 x9 = some r) :
    PureM Tryz.prog 61 [.pointer (some ⟨g1, 0, none⟩), .int .i64 x7, .int .i64 x8, .slice a10 x9.length c11] [⟨g1, 94, [.int .i64 x2, .slice a4 x3.length c5, .bool x6]⟩] [Ro (eI .u8) 5 1 (.slice a4 x3.length c5) x3] [Sl eS137 2 (.slice a10 x9.length c11) x9] (Option Addr × Nat) (fun _ => .tuple #[]) (fun g => [⟨g1, 94, [.int .i64 r.1, .slice g.1 r.2.1.length g.2, .bool r.2.2]⟩]) (fun g => [Ro (eI .u8) 5 1 (.slice g.1 r.2.1.length g.2) r.2.1]) := by
 refine zS Tryz.func61 rfl Tryz.ntmps61 rfl hm (fun w => ?_)
 refine au [27,1,2,4,3,3,23,27,2] ?_
 rintro x12 e12 ⟨a13, c14⟩
 refine au [0,1,2,4,3,5,0,1,2,4,3,23,3,0,1,14] ?_
 refine qo (fun (((x73, x74, x75, x78, x79), (a76, c77)) : ((Int × Int × Int × List Int × Bool) × (Option Addr × Nat))) => ([(0, .pointer (some ⟨g1, 0, none⟩)), (2, .int .i64 x8), (8, .int .i64 x73), (16, .slice a10 x9.length c11), (17, .int .i64 (x9.length : Int)), (18, .int .i64 x74)], [⟨g1, 94, [.int .i64 x75, .slice a76 x78.length c77, .bool x79]⟩], [Ro (eI .u8) 5 1 (.slice a76 x78.length c77) x78], [Sl eS137 2 (.slice a10 x9.length c11) x9])) (fun k (s : ((Int × Int × Int × List Int × Bool) × (Option Addr × Nat))) => qZ F x8 x9 k s.1) ((x7, 0, x12.1, x12.2.1, x12.2.2), (a13, c14)) F ?_
 intro k138
 rintro ⟨⟨x73, x74, x75, x78, x79⟩, ⟨a76, c77⟩⟩
 try dsimp only
 refine qB (m' := kX F x8 x9 (qZ F x8 x9 k138) x73 x74 x75 x78 x79) rfl ?_
 refine av [2,4,24,0,0,1,2,10] ?_ ?_
 intro _
 refine au [12,1,2,14,2,4,3,29,1] ?_
 intro x168 e168 b169 o170
 refine au [29,2,24,6] ?_
 intro g171
 refine au [5,24,4,0,1] ?_
 refine qf (fun (((x180, x183, x184), (a181, c182)) : ((Int × List Int × Bool) × (Option Addr × Nat))) => ([(0, .pointer (some ⟨g1, 0, none⟩)), (2, .int .i64 x8), (10, .pointer (some ⟨g171, 0, none⟩)), (16, .slice a10 x9.length c11), (17, .int .i64 (x9.length : Int)), (18, .int .i64 x74)], [⟨g1, 94, [.int .i64 x180, .slice a181 x183.length c182, .bool x184]⟩, ⟨g171, 137, [.int .i64 x168.1, .int .i64 x168.2]⟩], [Ro (eI .u8) 5 1 (.slice a181 x183.length c182) x183], [Sl eS137 2 (.slice a10 x9.length c11) x9], ke F (qZ F x8 x9 k138) x8 x74 x168 x180 x183 x184)) ?_ ?_
 refine av [2,4,3,25,5,0,1,10] ?_ ?_
 intro _
 refine au [4,3,13,21,3,24,13,31,2] ?_
 intro x188 e188 _
 refine au [25,1,27,2] ?_
 rintro x189 e189 ⟨a190, c191⟩
 refine au [0] ?_
 exact qa ((x189.1, x189.2.1, x189.2.2), (a190, c191))
 intro _
 refine au [4,3,13,21,3,24,13,24,13,27,2] ?_
 rintro x192 e192 ⟨a193, c194⟩
 refine au [0] ?_
 exact qa ((x192.1, x192.2.1, x192.2.2), (a193, c194))
 rintro ⟨⟨x180, x183, x184⟩, ⟨a181, c182⟩⟩
 try dsimp only
 refine au [2,4,3,13,25,11,3,24,13,27,2] ?_
 rintro x185 e185 ⟨a186, c187⟩
 refine au [0,1,4,13,25,11,13,25,11,16,24,13,5,0,24,5,1,4,16,3,0] ?_
 exact qi ((isub .i64 (iadd .i64 x168.1 x168.2) 1, iadd .i64 x74 1, x185.1, x185.2.1, x185.2.2), (a186, c187))
 intro _
 refine au [24,9,18,18,24,10] ?_
 exact zu (a76, c77)
theorem qeC {F : Nat} {x1 : Int} {x2 : Int} {r : (Int × Int × Int)} (hm : j2 F x1 x2 = some r) :
    Pure Tryz.prog 104 [.int .u64 x1, .int .i64 x2] [] Unit (fun _ => .tuple #[.int .i64 r.1, .int .u64 r.2.1, .int .u64 r.2.2]) (fun _ => []) (fun _ => []) := by
 refine qh Tryz.func104 rfl Tryz.ntmps104 rfl hm (fun w => ?_)
 refine au [24,12,2,4,5,5,5,0,1,2,4,3,16,28,13] ?_
 intro x3 e3 _
 refine au [24,13,3,26,6] ?_
 intro h4
 refine qf8 rfl rfl rfl rfl h4 ?_
 refine au [5,0,1,2,27,5] ?_
 intro h11
 refine au [27,5] ?_
 intro h13
 refine qr mixed [] [] [] .nil qn 14 rfl ?_
 refine au [6,0,6,1,6,2,6,3] ?_
 refine qj 4 (.int .u64 (ishl .u64 1 (imul .i64 (iquo .i64 (isub .i64 x3 1) x2) x2))) rfl rfl rfl (qdo rfl rfl h11) ?_
 refine au [6,5,6,6,6,7,6,8,6,9] ?_
 refine qj 10 (.int .u64 (ishl .u64 1 (iadd .i64 (imul .i64 (iquo .i64 (isub .i64 x3 1) x2) x2) x2))) rfl rfl rfl (qdo rfl rfl h13) ?_
 refine au [6,11,6,12,6,13,24,3] ?_
 refine qv ?_ (by intro c h; cases h)
 exact az [1,9,15]
theorem qdO {F : Nat} {x1 : Int} {r : (Int × Int)} (hm : vL F x1 = some r) :
    Pure Tryz.prog 106 [.int .u64 x1] [] Unit (fun _ => .tuple #[.int .i64 r.1, .int .u64 r.2]) (fun _ => []) (fun _ => []) := by
 refine qh Tryz.func106 rfl Tryz.ntmps106 rfl hm (fun w => ?_)
 refine au [25,2,2,4,5,5,0,1,2,4,3,24,13,28,13] ?_
 intro x2 e2 _
 refine au [5,0,1,2,27,5] ?_
 intro h6
 refine qr mixed [] [] [] .nil qn 7 rfl ?_
 refine au [6,0,6,1] ?_
 refine qj 2 (.int .u64 (ishl .u64 1 x2)) rfl rfl rfl (qdo rfl rfl h6) ?_
 refine au [6,3,6,4,6,5,6,6,24,3] ?_
 refine qv ?_ (by intro c h; cases h)
 exact az [1,9,15]
theorem qcx {F : Nat} {x1 : Int} {x2 : List Int} {a3 : Option Addr} {c4 : Nat} {x5 : Int} {x6 : Int} {r : (Int × List Int)} (hm : vo F x1 x2 x5 x6 = some r) :
    Pure Tryz.prog 105 [.agg #[.int .i64 x1, .slice a3 x2.length c4], .int .u64 x5, .int .u64 x6] [Sl (eI .u8) 1 (.slice a3 x2.length c4) x2] (Option Addr × Nat) (fun g => .agg #[.int .i64 r.1, .slice g.1 r.2.length g.2]) (fun g => [Ro (eI .u8) 5 1 (.slice g.1 r.2.length g.2) r.2]) (fun _ => []) := by
 refine qh Tryz.func105 rfl Tryz.ntmps105 rfl hm (fun w => ?_)
 refine au [25,12,2,4,24,2] ?_
 intro g7
 refine au [24,6] ?_
 intro g8
 refine au [0,1,2,4,3,31,3] ?_
 intro x9 e9 _
 refine av [3,17,17,5,5,0,1,2,2,4,3,3,24,0,0,1,10] ?_ ?_
 intro _
 refine au [2,4,25,6,3,3,24,13,28,3] ?_
 rintro x14 e14 ⟨a15, c16⟩
 refine au [24,4,0,1,9,11] ?_
 exact za (a15, c16) (resL (rs := [.cell 6 33]) rfl (.cell (i := 0) rfl tf33 rfl rfl (by simp) rfl ResOk.nil) rfl) (fun h => by subst h; exact (.cons 0 rfl .nil))
 intro _
 refine au [12,1,2,4,25,6,3,3,16,3,28,3] ?_
 rintro x17 e17 ⟨a18, c19⟩
 refine au [24,4,0,1,9] ?_
 exact za (a18, c19) (resL (rs := [.cell 6 33]) rfl (.cell (i := 0) rfl tf33 rfl rfl (by simp) rfl ResOk.nil) rfl) (fun h => by subst h; exact (.cons 0 rfl .nil))
set_option maxHeartbeats 4000000 in
theorem qeB {F : Nat} {x1 : Int} {x2 : Int} {r : (Int × List Int × Int)} (hm : j1 F x1 x2 = some r) :
    Pure Tryz.prog 85 [.int .u64 x1, .int .i64 x2] [] (Option Addr × Nat) (fun g => .tuple #[.agg #[.int .i64 r.1, .slice g.1 r.2.1.length g.2], .int .i64 r.2.2]) (fun g => [Ro (eI .u8) 5 1 (.slice g.1 r.2.1.length g.2) r.2.1]) (fun _ => []) := by
 refine qh Tryz.func85 rfl Tryz.ntmps85 rfl hm (fun w => ?_)
 refine au [24,12,2,4,24,6] ?_
 intro g3
 refine au [5,0,1,2,2,4,3,24,0,3] ?_
 refine qR 3 (decide (x2 < 1)) [(0, .int .u64 x1), (1, .int .i64 x2), (4, .pointer (some ⟨g3, 0, none⟩)), (14, .bool ((decide (x2 < 1)) || (decide (16 < x2))))] (fun h7 => ?_) (fun h7 => ?_) ?_
 refine qc (os := _) rfl (qI (k := 11) rfl h7 ?_)
 refine au [8,8,24,7] ?_
 refine qd (d := 14) (v := .bool ((decide (x2 < 1)) || (decide (16 < x2)))) rfl (by rw [h7]; simp only [Bool.true_or]) ?_
 exact az [0,24,1]
 refine qc (os := _) rfl (qH (k := 11) rfl h7 ?_)
 refine au [3,24,11,24,8] ?_
 refine qd (d := 14) (v := .bool ((decide (x2 < 1)) || (decide (16 < x2)))) rfl (by rw [h7]; simp only [Bool.false_or]) ?_
 exact az [0,24,1]
 refine qc (os := _) rfl ?_
 refine au [3] ?_
 refine qR 3 ((decide (x2 < 1)) || (decide (16 < x2))) [(0, .int .u64 x1), (1, .int .i64 x2), (4, .pointer (some ⟨g3, 0, none⟩)), (18, .bool (((decide (x2 < 1)) || (decide (16 < x2))) || (decide (1099511627776 < x1))))] (fun h8 => ?_) (fun h8 => ?_) ?_
 refine qc (os := _) rfl (qI (k := 15) rfl h8 ?_)
 refine au [8,8,24,7] ?_
 refine qd (d := 18) (v := .bool (((decide (x2 < 1)) || (decide (16 < x2))) || (decide (1099511627776 < x1)))) rfl (by rw [h8]; simp only [Bool.true_or]) ?_
 exact az [0,24,1]
 refine qc (os := _) rfl (qH (k := 15) rfl h8 ?_)
 refine au [3,24,11,24,8] ?_
 refine qd (d := 18) (v := .bool (((decide (x2 < 1)) || (decide (16 < x2))) || (decide (1099511627776 < x1)))) rfl (by rw [h8]; simp only [Bool.false_or]) ?_
 exact az [0,24,1]
 refine qc (os := _) rfl ?_
 refine av [0,1,10] ?_ ?_
 intro _
 refine au [2,4] ?_
 refine qF (cells := [.int .i64 0, .slice none 0 0]) rfl st33 rfl (by kernel_rfl) rfl ?_
 refine au [24,4,5,0,1,9,11,26,5] ?_
 exact za (none, 0) (resL (rs := [.cell 4 33, .tmp 5]) rfl (.cell (i := 0) rfl tf33 rfl rfl (by simp) rfl (.tmp rfl ResOk.nil)) rfl) (fun h => by subst h; exact (.cons 0 rfl .nil))
 intro _
 refine au [12,1,2,4,3,3] ?_
 refine qg qeC ?_
 intro x9 e9 _
 refine au [3,17,17,17,5,5,5,0,1,2,4,3,25,1,30,6] ?_
 rintro x10 e10 ⟨a11, c12⟩
 refine au [3,16,3,24,13,3,3,24,13] ?_
 refine qg qcx ?_
 rintro x13 e13 ⟨a14, c15⟩
 refine au [24,4,5,0,1,9] ?_
 exact za (a14, c15) (resL (rs := [.cell 4 33, .tmp 5]) rfl (.cell (i := 0) rfl tf33 rfl rfl (by simp) rfl (.tmp rfl ResOk.nil)) rfl) (fun h => by subst h; exact (.cons 0 rfl .nil))
set_option maxHeartbeats 4000000 in
theorem qhj {F : Nat} {x1 : Int} {x2 : List Int} {a3 : Option Addr} {c4 : Nat} {x5 : List Int} {a6 : Option Addr} {c7 : Nat} {x8 : Int} {r : (Int × List Int × Bool)} (hm : jr F x1 x2 x5 x8 = some r) :
    PureM Tryz.prog 62 [.agg #[.int .i64 x1, .slice a3 x2.length c4], .slice a6 x5.length c7, .int .i64 x8] [] [Ro (eI .u8) 5 1 (.slice a3 x2.length c4) x2] [Sl (eI .u64) 1 (.slice a6 x5.length c7) x5] (Option Addr × Nat) (fun g => .tuple #[.agg #[.int .i64 r.1, .slice g.1 r.2.1.length g.2], .bool r.2.2]) (fun _ => []) (fun g => [Ro (eI .u8) 5 1 (.slice g.1 r.2.1.length g.2) r.2.1]) := by
 refine zS Tryz.func62 rfl Tryz.ntmps62 rfl hm (fun w => ?_)
 refine au [25,12,2,4,24,2] ?_
 intro g9
 refine au [24,6] ?_
 intro g10
 refine au [5,0,1] ?_
 refine qf (fun (((x107, x110), (a108, c109)) : ((Int × List Int) × (Option Addr × Nat))) => ([(3, .pointer (some ⟨g9, 0, none⟩)), (6, .pointer (some ⟨g10, 0, none⟩))], [⟨g10, 33, [.int .i64 0, .slice none 0 0]⟩, ⟨g9, 33, [.int .i64 x107, .slice a108 x110.length c109]⟩], [Ro (eI .u8) 5 1 (.slice a108 x110.length c109) x110], [], qb4 F x107 x110)) ?_ ?_
 refine au [2,4,3,23,3,0,1,14] ?_
 refine qo (fun (((x141, x142, x145), (a143, c144)) : ((Int × Int × List Int) × (Option Addr × Nat))) => ([(2, .int .i64 x8), (3, .pointer (some ⟨g9, 0, none⟩)), (6, .pointer (some ⟨g10, 0, none⟩)), (12, .slice a6 x5.length c7), (13, .int .i64 (x5.length : Int)), (14, .int .i64 x141)], [⟨g10, 33, [.int .i64 0, .slice none 0 0]⟩, ⟨g9, 33, [.int .i64 x142, .slice a143 x145.length c144]⟩], [Ro (eI .u8) 5 1 (.slice a143 x145.length c144) x145], [Sl (eI .u64) 1 (.slice a6 x5.length c7) x5])) (fun k (s : ((Int × Int × List Int) × (Option Addr × Nat))) => vg F x5 x8 k s.1) ((0, x1, x2), (a3, c4)) F ?_
 intro k176
 rintro ⟨⟨x141, x142, x145⟩, ⟨a143, c144⟩⟩
 try dsimp only
 refine qB (m' := jY F x5 x8 (vg F x5 x8 k176) x141 x142 x145) rfl ?_
 refine av [2,4,24,0,0,1,2,10] ?_ ?_
 intro _
 refine au [12,1,2,14,2,4] ?_
 refine jR (j := 0) (qz .u64) (by decide) rfl UnF.u inferInstance rfl rfl rfl rfl ?_
 intro x192 e192 b193 o194
 refine au [25,9,5,0,1,2,4,3,3] ?_
 refine qg qeB ?_
 rintro x195 e195 ⟨a196, c197⟩
 refine au [3,17,17,24,6] ?_
 intro g198
 refine au [24,4,5,0,1,2,2,4,3,25,7,3] ?_
 refine qR 7 ((x195.2.2 : Int) != 0) [(2, .int .i64 x8), (3, .pointer (some ⟨g9, 0, none⟩)), (6, .pointer (some ⟨g10, 0, none⟩)), (12, .slice a6 x5.length c7), (13, .int .i64 (x5.length : Int)), (14, .int .i64 x141), (10, .pointer (some ⟨g198, 0, none⟩)), (33, .bool (((x195.2.2 : Int) != 0) || (decide (8192 < (iadd .i64 x142 x195.1)))))] (fun h201 => ?_) (fun h201 => ?_) ?_
 refine qc (os := _) rfl (qI (k := 26) rfl h201 ?_)
 refine au [8,8,8,8,8,8,24,7] ?_
 refine qd (d := 33) (v := .bool (((x195.2.2 : Int) != 0) || (decide (8192 < (iadd .i64 x142 x195.1))))) rfl (by rw [h201]; simp only [Bool.true_or]) ?_
 exact az [0,24,1]
 refine qc (os := _) rfl (qH (k := 26) rfl h201 ?_)
 refine au [13,27,8,13,21,16,24,11,24,8] ?_
 refine qd (d := 33) (v := .bool (((x195.2.2 : Int) != 0) || (decide (8192 < (iadd .i64 x142 x195.1))))) rfl (by rw [h201]; simp only [Bool.false_or]) ?_
 exact az [0,24,1]
 refine qc (os := _) rfl ?_
 refine av [0,1,10] ?_ ?_
 intro _
 refine au [2,4] ?_
 refine qF (cells := [.int .i64 0, .slice none 0 0]) rfl st33 rfl (by kernel_rfl) rfl ?_
 refine au [25,10,5,0,1,9,11,22,11,11,22,11,26,5] ?_
 exact vW (none, 0) (resL (rs := [.cell 6 33, .tmp 7]) rfl (.cell (i := 1) rfl tf33 rfl rfl (by simp) rfl (.tmp rfl ResOk.nil)) rfl) (hR := fun h => by subst h; exact (.cons 0 rfl .nil))
 intro _
 refine au [12,1,4,26,2,24,15,28,4] ?_
 rintro x202 e202 ⟨a203, c204⟩
 refine au [26,13,0,24,5,1,4,16,3,0] ?_
 exact qi ((iadd .i64 x141 1, x202.1, x202.2), (a203, c204))
 intro _
 refine au [24,9,18,18,24,10] ?_
 exact qa ((x142, x145), (a143, c144))
 rintro ⟨⟨x107, x110⟩, ⟨a108, c109⟩⟩
 try dsimp only
 refine au [2,4,25,6,24,4,5,0,1,9] ?_
 exact vW (a108, c109) (resL (rs := [.cell 6 33, .tmp 7]) rfl (.cell (i := 0) rfl tf33 rfl rfl (by simp) rfl (.tmp rfl ResOk.nil)) rfl) (hR := fun h => by subst h; exact (.cons 0 rfl .nil))
theorem qcv {F : Nat} {g1 : Nat} {x2 : Int} {x3 : Bool} {x4 : Int} {r : (Int × Int × Bool)} (hm : vm F x2 x3 x4 = some r) :
    PureM Tryz.prog 86 [.pointer (some ⟨g1, 0, none⟩), .int .i64 x4] [⟨g1, 142, [.int .i64 x2, .bool x3]⟩] [] [] Unit (fun _ => .int .u64 r.1) (fun _ => [⟨g1, 142, [.int .i64 r.2.1, .bool r.2.2]⟩]) (fun _ => []) := by
 refine zS Tryz.func86 rfl Tryz.ntmps86 rfl hm (fun w => ?_)
 refine au [24,12,2,4,5,0,1] ?_
 refine qf (fun ((x8, _) : (Int × Unit)) => ([(0, .pointer (some ⟨g1, 0, none⟩)), (1, .int .i64 x4), (4, .int .u64 x8)], [⟨g1, 142, [.int .i64 x2, .bool x3]⟩], [], [], vK F x4 x8)) ?_ ?_
 refine av [2,4,3,24,14,13,21,0,1,10] ?_ ?_
 intro _
 refine au [4,3,3,24,14,13,21,24,13,24,13,25,1,5,26,1] ?_
 intro x9 e9
 refine qd (d := 4) (v := .int .u64 x9) rfl (by rw [e9] <;> rfl) ?_
 refine au [0] ?_
 exact qa (x9, ())
 intro _
 refine au [4,3,3,24,14,13,21,24,13,31,2] ?_
 intro x10 e10 _
 refine au [5,0] ?_
 exact qa (x10, ())
 rintro ⟨x8, _⟩
 try dsimp only
 exact az [2,4,3,3,3,24,14,13,24,4,24,14,13,24,4,0,1,2,4,3,5,0,1,9,29,3]
set_option maxHeartbeats 4000000 in
theorem qhk {F : Nat} {x1 : List Int} {a2 : Option Addr} {c3 : Nat} {x4 : Int} {r : List Int} (hm : qax F x1 x4 = some r) :
    Pure Tryz.prog 63 [.slice a2 x1.length c3, .int .i64 x4] [Sl (eI .i64) 1 (.slice a2 x1.length c3) x1] (Option Addr × Nat) (fun g => .slice g.1 r.length g.2) (fun g => [Ro (eI .u64) 41 1 (.slice g.1 r.length g.2) r]) (fun _ => []) := by
 refine qh Tryz.func63 rfl Tryz.ntmps63 rfl hm (fun w => ?_)
 refine au [24,12,2,4,5,0,1,2,4,3] ?_
 refine qF (cells := [.int .i64 x4, .bool false]) rfl st142 rfl (by kernel_rfl) rfl ?_
 refine au [24,2] ?_
 intro g5
 refine au [5,0,1,2,4,5,0,1] ?_
 refine qf (fun ((x75, (a73, c74)) : (List Int × (Option Addr × Nat))) => ([(6, .slice a73 x75.length c74)], [], [Ro (eI .u64) 41 1 (.slice a73 x75.length c74) x75], [], qaZ F x75)) ?_ ?_
 refine au [2,4,3,23,3,0,1,14] ?_
 refine qbt Int (eI .u64) 41 1 (qo (fun (((x98, x99, x100, x101), (a96, c97)) : ((List Int × Int × Int × Bool) × (Option Addr × Nat))) => ([(5, .pointer (some ⟨g5, 0, none⟩)), (6, .slice a96 x98.length c97), (12, .slice a2 x1.length c3), (13, .int .i64 (x1.length : Int)), (14, .int .i64 x99)], [⟨g5, 142, [.int .i64 x100, .bool x101]⟩], [Ro (eI .u64) 41 1 (.slice a96 x98.length c97) x98], [Sl (eI .i64) 1 (.slice a2 x1.length c3) x1])) (fun k (s : ((List Int × Int × Int × Bool) × (Option Addr × Nat))) => vh F x1 k s.1) ((([] : List Int), 0, x4, false), (none, 0)) F ?_)
 intro k122
 rintro ⟨⟨x98, x99, x100, x101⟩, ⟨a96, c97⟩⟩
 try dsimp only
 refine qB (m' := jZ F x1 (vh F x1 k122) x98 x99 x100 x101) rfl ?_
 refine av [2,4,24,0,0,1,2,10] ?_ ?_
 intro _
 refine au [12,1,2,14,2,4,26,4] ?_
 intro x133 e133 b134 o135
 refine au [25,9,5,0,1,4,3,3,3] ?_
 refine q8 qcv ?_
 intro x136 e136 _
 refine qV (vs := [.int .u64 x136.1]) (ys := ([x136.1] : List Int)) (qz .u64) (by decide) rfl Tryz.underlying126 tf41 rfl rfl rfl rfl rfl (by decide) (fun a137 c138 => zW 1 (qz .u64) rfl Tryz.underlying126 tf41 rfl rfl rfl rfl rfl (.inl ⟨0, _, rfl⟩) rfl rfl (fun x139 e139 a140 c141 => ?_))
 refine au [5,0,24,5,1,4,16,3,0] ?_
 exact qi ((x139, iadd .i64 x99 1, x136.2.1, x136.2.2), (a140, c141))
 intro _
 refine au [24,9,18,18,24,10] ?_
 exact qa (x98, (a96, c97))
 rintro ⟨x75, ⟨a73, c74⟩⟩
 try dsimp only
 refine au [2,4,3,5,0,1,9] ?_
 exact qt (a73, c74)
set_option maxHeartbeats 4000000 in
theorem qck {F : Nat} {g1 : Nat} {x2 : Int} {x3 : List Int} {a4 : Option Addr} {c5 : Nat} {x6 : Bool} {x7 : Int} {x8 : List Int} {a9 : Option Addr} {c10 : Nat} {x11 : List Int} {a12 : Option Addr} {c13 : Nat} {x14 : Int} {x15 : Int} {x16 : Int} {r : (Int × List Int × Bool)} (hm : kR F x2 x3 x6 x7 x8 x11 x14 x15 x16 = some r) :
    PureM Tryz.prog 40 [.pointer (some ⟨g1, 0, none⟩), .int .i64 x7, .slice a9 x8.length c10, .slice a12 x11.length c13, .agg #[.int .i64 x14, .int .i64 x15, .int .i64 x16]] [⟨g1, 94, [.int .i64 x2, .slice a4 x3.length c5, .bool x6]⟩] [Ro (eI .u8) 5 1 (.slice a4 x3.length c5) x3] [Sl (eI .i64) 1 (.slice a9 x8.length c10) x8, Sl (eI .i64) 1 (.slice a12 x11.length c13) x11] (Option Addr × Nat) (fun _ => .tuple #[]) (fun g => [⟨g1, 94, [.int .i64 r.1, .slice g.1 r.2.1.length g.2, .bool r.2.2]⟩]) (fun g => [Ro (eI .u8) 5 1 (.slice g.1 r.2.1.length g.2) r.2.1]) := by
 refine zS Tryz.func40 rfl Tryz.ntmps40 rfl hm (fun w => ?_)
 refine au [29,4,2,4,24,2] ?_
 intro g17
 refine au [0,1,2,4,3,3,23,27,2] ?_
 rintro x18 e18 ⟨a19, c20⟩
 refine av [0,1,2,2,4,3,23,25,5,0,1,10] ?_ ?_
 intro _
 refine au [9,11] ?_
 exact zu (a19, c20)
 intro _
 refine au [12,1,2,4,3,5,0,1] ?_
 refine qf (fun (((x33, x34, x37, x38), (a31, c32, a35, c36)) : ((List Int × Int × List Int × Bool) × (Option Addr × Nat × Option Addr × Nat))) => ([(0, .pointer (some ⟨g1, 0, none⟩)), (1, .int .i64 x7), (9, .pointer (some ⟨g17, 0, none⟩)), (10, .slice a31 x33.length c32)], [⟨g1, 94, [.int .i64 x34, .slice a35 x37.length c36, .bool x38]⟩, ⟨g17, 26, [.int .i64 x14, .int .i64 x15, .int .i64 x16]⟩], [Ro (eI .u8) 5 1 (.slice a35 x37.length c36) x37], [Sl (eI .i64) 1 (.slice a31 x33.length c32) x33], ka F x7 x15 x16 x33 x34 x37 x38)) ?_ ?_
 refine av [2,4,13,25,11,24,11,0,1,10] ?_ ?_
 intro _
 refine au [2,4,5,0,1,2,4,3,3] ?_
 refine qg qgt ?_
 rintro x113 e113 ⟨⟨a114, c115⟩, ⟨a116, c117⟩⟩
 refine au [3,17,17,5,5,0,1,4,3,3] ?_
 refine q8 qbF ?_
 rintro x118 e118 ⟨a119, c120⟩
 refine au [0,31,4] ?_
 exact qa ((x113.2, x118.1, x118.2.1, x118.2.2), (a116, c117, a119, c120))
 intro _
 refine au [12] ?_
 exact qa ((x8, x18.1, x18.2.1, x18.2.2), (a9, c10, a19, c20))
 rintro ⟨⟨x33, x34, x37, x38⟩, ⟨a31, c32, a35, c36⟩⟩
 try dsimp only
 refine av [2,2,4,3,23,25,5,0,1,10] ?_ ?_
 intro _
 refine au [9,11] ?_
 exact zu (a35, c36)
 intro _
 refine au [12,1] ?_
 refine qf (fun (((x51, x52, x55, x56), (a49, c50, a53, c54)) : ((List Int × Int × List Int × Bool) × (Option Addr × Nat × Option Addr × Nat))) => ([(0, .pointer (some ⟨g1, 0, none⟩)), (1, .int .i64 x7), (9, .pointer (some ⟨g17, 0, none⟩)), (10, .slice a49 x51.length c50)], [⟨g1, 94, [.int .i64 x52, .slice a53 x55.length c54, .bool x56]⟩, ⟨g17, 26, [.int .i64 x14, .int .i64 x15, .int .i64 x16]⟩], [Ro (eI .u8) 5 1 (.slice a53 x55.length c54) x55], [Sl (eI .i64) 1 (.slice a49 x51.length c50) x51], kb F x7 x16 x51 x52 x55 x56)) ?_ ?_
 refine av [2,4,13,25,11,24,11,0,1,10] ?_ ?_
 intro _
 refine au [2,4,5,0,1,2,4,3,13,25,11] ?_
 refine q8 qhm ?_
 rintro x103 e103 ⟨⟨a104, c105⟩, ⟨a106, c107⟩⟩
 refine au [3,17,17,5,5,0,1,4,3,3,13,25,11,3] ?_
 refine q8 qcl ?_
 rintro x108 e108 ⟨a109, c110⟩
 refine au [0,31,4] ?_
 exact qa ((x103.2, x108.1, x108.2.1, x108.2.2), (a106, c107, a109, c110))
 intro _
 refine au [12] ?_
 exact qa ((x33, x34, x37, x38), (a31, c32, a35, c36))
 rintro ⟨⟨x51, x52, x55, x56⟩, ⟨a49, c50, a53, c54⟩⟩
 try dsimp only
 refine qf (fun (((x76, x77, x80), (g75, a78, c79)) : ((Bool × Int × List Int) × (Nat × Option Addr × Nat))) => ([(0, .pointer (some ⟨g1, 0, none⟩)), (13, .pointer (some ⟨g75, 0, none⟩)), (14, .bool x76)], [⟨g1, 94, [.int .i64 x52, .slice a53 x55.length c54, .bool x56]⟩, ⟨g75, 33, [.int .i64 x77, .slice a78 x80.length c79]⟩], [Ro (eI .u8) 5 1 (.slice a53 x55.length c54) x55, Ro (eI .u8) 5 1 (.slice a78 x80.length c79) x80], [], kd F x52 x55 x56 x76 x77 x80)) ?_ ?_
 refine qr mixed [] [⟨g1, 94, [.int .i64 x52, .slice a53 x55.length c54, .bool x56]⟩, ⟨g17, 26, [.int .i64 x14, .int .i64 x15, .int .i64 x16]⟩] [Sl (eI .i64) 1 (.slice a49 x51.length c50) x51] (.cons 0 rfl (.cons 0 rfl .nil)) (qy 0 rfl qn) 13 rfl (qj 0 (.agg #[.int .i64 0, .slice none 0 0]) rfl rfl rfl (qet (cells := [.int .i64 0, .slice none 0 0]) st33 rfl (by kernel_rfl)) ?_)
 refine au [6,1,6,2,19,4,28,7,5] ?_
 refine qbs 3 10 rfl rfl (by kernel_rfl) rfl rfl ?_ ?_
 refine au [31,5] ?_
 rintro x85 e85 ⟨a86, c87⟩
 refine au [0,29,5] ?_
 refine qbs 6 10 rfl rfl (by kernel_rfl) rfl rfl ?_ ?_
 refine au [27,3,29,6] ?_
 rintro x88 e88 ⟨a89, c90⟩
 refine au [0,29,5,6,7,6,8,6,9,20,10,24,6] ?_
 intro g91
 refine au [0,26,9,20,11,24,4,0,26,9,6,12,24,3] ?_
 exact qv (qa ((x88.2.2, x88.1, x88.2.1), (g91, a89, c90))) (by intro c h; cases h)
 refine qbu (m' := ((jr F 0 ([] : List Int) x85 x16).bind fun x93 => kd F x52 x55 x56 x93.2.2 x93.1 x93.2.1)) (rfl) ?_
 refine au [24,6] ?_
 intro g92
 refine au [0,26,9,20,6,27,3,29,6] ?_
 rintro x93 e93 ⟨a94, c95⟩
 refine au [0,26,9,6,7,6,8,6,9,20,11,24,4,0,26,9,6,12,24,3] ?_
 exact qv (qa ((x93.2.2, x93.1, x93.2.1), (g92, a94, c95))) (by intro c h; cases h)
 refine qbu (m' := ((qax F x51 x7).bind fun x97 => ((jr F 0 ([] : List Int) x97 x16).bind fun x100 => kd F x52 x55 x56 x100.2.2 x100.1 x100.2.1))) (rfl) ?_
 refine au [24,6] ?_
 intro g96
 refine au [0,26,9,20,3,31,5] ?_
 rintro x97 e97 ⟨a98, c99⟩
 refine au [0,26,9,20,6,27,3,29,6] ?_
 rintro x100 e100 ⟨a101, c102⟩
 refine au [0,26,9,6,7,6,8,6,9,20,11,24,4,0,26,9,6,12,24,3] ?_
 exact qv (qa ((x100.2.2, x100.1, x100.2.1), (g96, a101, c102))) (by intro c h; cases h)
 rintro ⟨⟨x76, x77, x80⟩, ⟨g75, a78, c79⟩⟩
 try dsimp only
 refine au [2,4,3,3,24,14,13,21,3] ?_
 refine qR 3 x56 [(0, .pointer (some ⟨g1, 0, none⟩)), (13, .pointer (some ⟨g75, 0, none⟩)), (64, .pointer (some ⟨g1, 0, none⟩)), (72, .bool (x56 || (!x76)))] (fun h81 => ?_) (fun h81 => ?_) ?_
 refine qc (os := _) rfl (qI (k := 69) rfl h81 ?_)
 refine au [8,8,24,7] ?_
 refine qd (d := 72) (v := .bool (x56 || (!x76))) rfl (by rw [h81]; simp only [Bool.true_or]) ?_
 exact az [0,24,1]
 refine qc (os := _) rfl (qH (k := 69) rfl h81 ?_)
 refine au [3,25,3,24,8] ?_
 refine qd (d := 72) (v := .bool (x56 || (!x76))) rfl (by rw [h81]; simp only [Bool.false_or]) ?_
 exact az [0,24,1]
 refine qc (os := _) rfl ?_
 refine au [24,14,13,24,4,0,1,4,3,25,6,30,10] ?_
 rintro x82 e82 ⟨a83, c84⟩
 refine au [0] ?_
 exact zu (a83, c84)
theorem qfC {F : Nat} {x1 : Int} {x2 : List Int} {a3 : Option Addr} {c4 : Nat} {x5 : Int} {x6 : Int} {x7 : Int} {r : Int} (hm : qao F x1 x2 x5 x6 x7 = some r) :
    Pure Tryz.prog 69 [.int .i64 x1, .slice a3 x2.length c4, .agg #[.int .i64 x5, .int .i64 x6, .int .i64 x7]] [Sl (eI .i64) 1 (.slice a3 x2.length c4) x2] Unit (fun _ => .int .i64 r) (fun _ => []) (fun _ => []) := by
 refine qh Tryz.func69 rfl Tryz.ntmps69 rfl hm (fun w => ?_)
 refine au [25,12,2,4,24,2] ?_
 intro g8
 refine au [5,0,1,2,2,4,3,24,0,3] ?_
 refine qR 3 (decide (x1 < 0)) [(1, .slice a3 x2.length c4), (5, .pointer (some ⟨g8, 0, none⟩)), (12, .bool ((decide (x1 < 0)) || (decide (1048576 < x1))))] (fun h11 => ?_) (fun h11 => ?_) ?_
 refine qc (os := _) rfl (qI (k := 9) rfl h11 ?_)
 refine au [8,8,24,7] ?_
 refine qd (d := 12) (v := .bool ((decide (x1 < 0)) || (decide (1048576 < x1)))) rfl (by rw [h11]; simp only [Bool.true_or]) ?_
 exact az [0,24,1]
 refine qc (os := _) rfl (qH (k := 9) rfl h11 ?_)
 refine au [3,24,11,24,8] ?_
 refine qd (d := 12) (v := .bool ((decide (x1 < 0)) || (decide (1048576 < x1)))) rfl (by rw [h11]; simp only [Bool.false_or]) ?_
 exact az [0,24,1]
 refine qc (os := _) rfl ?_
 refine av [0,1,10] ?_ ?_
 intro _
 exact az [2,4,5,0,1,9,11,15]
 intro _
 refine av [12,1,2,2,4,13,21,24,11,0,1,10] ?_ ?_
 intro _
 refine au [2,4,3,27,14] ?_
 intro x14 e14 _
 exact az [5,0,1,9,11,15]
 intro _
 exact az [12,1,2,4,5,0,1,9,15]
set_option maxHeartbeats 4000000 in
theorem qfB {F : Nat} {x1 : Int} {x2 : List Int} {a3 : Option Addr} {c4 : Nat} {x5 : List Int} {a6 : Option Addr} {c7 : Nat} {x8 : Int} {x9 : Int} {x10 : Int} {r : (Int × List Int × Int)} (hm : qan F x1 x2 x5 x8 x9 x10 = some r) :
    Pure Tryz.prog 43 [.int .i64 x1, .slice a3 x2.length c4, .slice a6 x5.length c7, .agg #[.int .i64 x8, .int .i64 x9, .int .i64 x10]] [Sl (eI .i64) 1 (.slice a3 x2.length c4) x2, Sl (eI .i64) 1 (.slice a6 x5.length c7) x5] (Option Addr × Nat) (fun g => .tuple #[.agg #[.int .i64 r.1, .slice g.1 r.2.1.length g.2], .int .i64 r.2.2]) (fun g => [Ro (eI .u8) 5 1 (.slice g.1 r.2.1.length g.2) r.2.1]) (fun _ => []) := by
 refine qh Tryz.func43 rfl Tryz.ntmps43 rfl hm (fun w => ?_)
 refine au [27,1,2,4,24,2] ?_
 intro g11
 refine au [24,6] ?_
 intro g12
 refine au [5,0,1,2,4,25,6,29,7] ?_
 intro x13 e13 _
 refine au [5,0,1] ?_
 refine qf (fun ((x19, _) : (Int × Unit)) => ([(0, .int .i64 x1), (1, .slice a3 x2.length c4), (2, .slice a6 x5.length c7), (7, .pointer (some ⟨g11, 0, none⟩)), (8, .pointer (some ⟨g12, 0, none⟩)), (10, .int .i64 x19)], [⟨g12, 33, [.int .i64 0, .slice none 0 0]⟩, ⟨g11, 26, [.int .i64 x8, .int .i64 x9, .int .i64 x10]⟩], [], [Sl (eI .i64) 1 (.slice a3 x2.length c4) x2, Sl (eI .i64) 1 (.slice a6 x5.length c7) x5], k8 F x1 x2 x5 x8 x9 x10 x19)) ?_ ?_
 refine au [2,4,3,25,5,3] ?_
 refine vj 7 (fun ((x40, _) : (Bool × Unit)) => ([(0, .int .i64 x1), (1, .slice a3 x2.length c4), (2, .slice a6 x5.length c7), (7, .pointer (some ⟨g11, 0, none⟩)), (8, .pointer (some ⟨g12, 0, none⟩)), (10, .int .i64 x13), (23, .bool x40)], [⟨g12, 33, [.int .i64 0, .slice none 0 0]⟩, ⟨g11, 26, [.int .i64 x8, .int .i64 x9, .int .i64 x10]⟩], [], [Sl (eI .i64) 1 (.slice a3 x2.length c4) x2, Sl (eI .i64) 1 (.slice a6 x5.length c7) x5], va F x1 x2 x5 x8 x9 x10 x13 x40)) ?_ ?_
 refine qc (os := _) rfl ?_
 refine av [26,3] ?_ ?_
 intro h38
 refine qI (k := 16) rfl h38 ?_
 refine au [3,24,0,3] ?_
 refine qR 3 (decide (x1 < 0)) [(0, .int .i64 x1), (1, .slice a3 x2.length c4), (2, .slice a6 x5.length c7), (7, .pointer (some ⟨g11, 0, none⟩)), (8, .pointer (some ⟨g12, 0, none⟩)), (10, .int .i64 x13), (16, .bool true), (22, .bool ((decide (x1 < 0)) || (decide (1048576 < x1))))] (fun h42 => ?_) (fun h42 => ?_) ?_
 refine qc (os := _) rfl (qI (k := 19) rfl h42 ?_)
 refine au [8,8,24,7] ?_
 refine qd (d := 22) (v := .bool ((decide (x1 < 0)) || (decide (1048576 < x1)))) rfl (by rw [h42]; simp only [Bool.true_or]) ?_
 exact az [0,24,1]
 refine qc (os := _) rfl (qH (k := 19) rfl h42 ?_)
 refine au [3,24,11,24,8] ?_
 refine qd (d := 22) (v := .bool ((decide (x1 < 0)) || (decide (1048576 < x1)))) rfl (by rw [h42]; simp only [Bool.false_or]) ?_
 exact az [0,24,1]
 refine qc (os := _) rfl ?_
 refine au [24,7,0] ?_
 exact qa (((decide (x1 < 0)) || (decide (1048576 < x1))), ())
 intro h38
 refine qH (k := 16) rfl h38 ?_
 refine au [8,8,8,8,8,8,24,8,0] ?_
 exact qa (false, ())
 rintro ⟨x40, _⟩
 try dsimp only
 refine qc (os := _) rfl ?_
 refine av [0,1,10] ?_ ?_
 intro _
 refine au [4,5,0] ?_
 exact qa ((3 : Int), ())
 intro _
 refine au [12] ?_
 exact qa (x13, ())
 rintro ⟨x19, _⟩
 try dsimp only
 refine qf (fun ((x22, _) : (Int × Unit)) => ([(0, .int .i64 x1), (1, .slice a3 x2.length c4), (2, .slice a6 x5.length c7), (7, .pointer (some ⟨g11, 0, none⟩)), (8, .pointer (some ⟨g12, 0, none⟩)), (10, .int .i64 x22)], [⟨g12, 33, [.int .i64 0, .slice none 0 0]⟩, ⟨g11, 26, [.int .i64 x8, .int .i64 x9, .int .i64 x10]⟩], [], [Sl (eI .i64) 1 (.slice a3 x2.length c4) x2, Sl (eI .i64) 1 (.slice a6 x5.length c7) x5], k9 F x1 x2 x5 x8 x9 x10 x22)) ?_ ?_
 refine av [2,4,3,25,5,0,1,10] ?_ ?_
 intro _
 refine au [4,3,27,14] ?_
 intro x36 e36 _
 refine au [5,0] ?_
 exact qa (x36, ())
 intro _
 refine au [12] ?_
 exact qa (x19, ())
 rintro ⟨x22, _⟩
 try dsimp only
 refine qf (fun ((x25, _) : (Int × Unit)) => ([(0, .int .i64 x1), (1, .slice a3 x2.length c4), (2, .slice a6 x5.length c7), (7, .pointer (some ⟨g11, 0, none⟩)), (8, .pointer (some ⟨g12, 0, none⟩)), (10, .int .i64 x25)], [⟨g12, 33, [.int .i64 0, .slice none 0 0]⟩, ⟨g11, 26, [.int .i64 x8, .int .i64 x9, .int .i64 x10]⟩], [], [Sl (eI .i64) 1 (.slice a3 x2.length c4) x2, Sl (eI .i64) 1 (.slice a6 x5.length c7) x5], y9 F x1 x2 x5 x8 x9 x10 x25)) ?_ ?_
 refine av [2,4,3,25,5,0,1,10] ?_ ?_
 intro _
 refine au [4,3,3,25,6] ?_
 refine qg qfC ?_
 intro x34 e34 _
 refine au [5,0] ?_
 exact qa (x34, ())
 intro _
 refine au [12] ?_
 exact qa (x22, ())
 rintro ⟨x25, _⟩
 try dsimp only
 refine av [2,2,4,3,25,7,0,1,10] ?_ ?_
 intro _
 refine au [2,4] ?_
 refine qF (cells := [.int .i64 0, .slice none 0 0]) rfl st33 rfl (by kernel_rfl) rfl ?_
 refine au [3,24,4,5,0,1,9,11,26,5] ?_
 exact za (none, 0) (resL (rs := [.cell 8 33, .tmp 9]) rfl (.cell (i := 0) rfl tf33 rfl rfl (by simp) rfl (.tmp rfl ResOk.nil)) rfl) (fun h => by subst h; exact (.cons 0 rfl .nil))
 intro _
 refine au [12,1,2,4] ?_
 refine qF (cells := [.int .i64 0, .slice none 0 0, .bool false]) rfl st94 rfl (by kernel_rfl) rfl ?_
 refine au [24,2] ?_
 intro g27
 refine au [5,0,1,2,4,3,3,3,3,26,2,27,3,31,6] ?_
 rintro x28 e28 ⟨a29, c30⟩
 refine av [0,1,2,2,4,3,24,14,13,21,0,1,10] ?_ ?_
 intro _
 refine au [2,4] ?_
 refine qF (cells := [.int .i64 0, .slice none 0 0]) rfl st33 rfl (by kernel_rfl) rfl ?_
 refine au [25,10,5,0,1,9,11,26,5] ?_
 exact za (none, 0) (resL (rs := [.cell 8 33, .tmp 9]) rfl (.cell (i := 1) rfl tf33 rfl rfl (by simp) rfl (.tmp rfl ResOk.nil)) rfl) (fun h => by subst h; exact (.cons 0 rfl .nil))
 intro _
 refine au [12,1,2,4,3,24,14,13,24,15,25,10,5,0,1,9] ?_
 exact za (a29, c30) (resL (rs := [.cell 8 33, .tmp 9]) rfl (.cell (i := 1) rfl tf33 rfl rfl (by simp) rfl (.tmp rfl ResOk.nil)) rfl) (fun h => by subst h; exact (.cons 0 rfl .nil))
set_option maxHeartbeats 4000000 in
theorem qgs {F : Nat} {x1 : List (List Int)} {a2 : Option Addr} {c3 : Nat} {s3 : List (Option Addr × Nat)} {x4 : List Int} {a5 : Option Addr} {c6 : Nat} {x7 : Int} {x8 : Int} {x9 : Int} {x10 : Int} {r : (Int × Int × List Int × Bool)} (hm : qaO F x1 x4 x7 x8 x9 x10 = some r) :
    Pure Tryz.prog 30 [.slice a2 x1.length c3, .slice a5 x4.length c6, .int .i64 x7, .agg #[.int .i64 x8, .int .i64 x9, .int .i64 x10]] [SlN eN30 iN30 1 (.slice a2 x1.length c3) x1 s3, Sl (eI .i64) 1 (.slice a5 x4.length c6) x4] (Option Addr × Nat) (fun g => .tuple #[.agg #[.int .i64 r.1, .int .i64 r.2.1, .slice g.1 r.2.2.1.length g.2], .bool r.2.2.2]) (fun g => [Ro (eI .u8) 5 1 (.slice g.1 r.2.2.1.length g.2) r.2.2.1]) (fun _ => []) := by
 refine qh Tryz.func30 rfl Tryz.ntmps30 rfl hm (fun w => ?_)
 refine au [27,1,2,4,24,2] ?_
 intro g11
 refine au [24,6] ?_
 intro g12
 refine au [5,0,1,2,4,3,23,5,0,1,2,4] ?_
 refine qF (cells := [.int .i64 0, .slice none 0 0]) rfl st33 rfl (by kernel_rfl) rfl ?_
 refine au [24,6] ?_
 intro g13
 refine au [24,4,0,1] ?_
 refine qf (fun (((x18, x21), (a19, c20)) : ((Int × List Int) × (Option Addr × Nat))) => ([(0, .slice a2 x1.length c3), (1, .slice a5 x4.length c6), (2, .int .i64 x7), (7, .pointer (some ⟨g11, 0, none⟩)), (8, .pointer (some ⟨g12, 0, none⟩)), (10, .int .i64 (x1.length : Int)), (11, .pointer (some ⟨g13, 0, none⟩))], [⟨g13, 33, [.int .i64 x18, .slice a19 x21.length c20]⟩, ⟨g12, 67, [.int .i64 0, .int .i64 0, .slice none 0 0]⟩, ⟨g11, 26, [.int .i64 x8, .int .i64 x9, .int .i64 x10]⟩], [Ro (eI .u8) 5 1 (.slice a19 x21.length c20) x21], [SlN eN30 iN30 1 (.slice a2 x1.length c3) x1 s3, Sl (eI .i64) 1 (.slice a5 x4.length c6) x4], vM F x1 x4 x7 x9 x10 x18 x21)) ?_ ?_
 refine av [2,4,13,27,8,24,11,0,1,10] ?_ ?_
 intro _
 refine au [4,3,25,1,30,9] ?_
 rintro x46 e46 ⟨a47, c48⟩
 refine au [24,4,0] ?_
 exact qa ((x46.1, x46.2), (a47, c48))
 intro _
 refine au [12,26,5] ?_
 exact qa (((0 : Int), ([] : List Int)), (none, 0))
 rintro ⟨⟨x18, x21⟩, ⟨a19, c20⟩⟩
 try dsimp only
 refine au [2,4,5,0,1] ?_
 refine qf (fun ((x29, (a27, c28)) : (List Int × (Option Addr × Nat))) => ([(1, .slice a5 x4.length c6), (2, .int .i64 x7), (7, .pointer (some ⟨g11, 0, none⟩)), (8, .pointer (some ⟨g12, 0, none⟩)), (10, .int .i64 (x1.length : Int)), (11, .pointer (some ⟨g13, 0, none⟩)), (12, .slice a27 x29.length c28)], [⟨g13, 33, [.int .i64 x18, .slice a19 x21.length c20]⟩, ⟨g12, 67, [.int .i64 0, .int .i64 0, .slice none 0 0]⟩, ⟨g11, 26, [.int .i64 x8, .int .i64 x9, .int .i64 x10]⟩], [Ro (eI .u8) 5 1 (.slice a19 x21.length c20) x21], [Sl (eI .i64) 1 (.slice a5 x4.length c6) x4, Sl (eI .i64) 1 (.slice a27 x29.length c28) x29], vN F x1 x4 x7 x9 x10 x18 x21 x29)) ?_ ?_
 refine av [2,4,3,24,11,0,1,10] ?_ ?_
 intro _
 refine au [4,3,3,3,24,13,27,4] ?_
 intro x41 e41 g44 b42 o43
 refine au [25,9,5,0] ?_
 exact qa (x41, (g44.1, g44.2))
 intro _
 refine au [12,25,8] ?_
 exact qer 0 rfl (qa (([] : List Int), (none, 0)))
 rintro ⟨x29, ⟨a27, c28⟩⟩
 try dsimp only
 refine au [2,4,3,13,26,13,0,1,2,4,3,3,3,26,2] ?_
 refine qg qfB ?_
 rintro x30 e30 ⟨a31, c32⟩
 refine au [3,17,17,24,6] ?_
 intro g33
 refine au [24,4,5,0,1,2,2,4,3,25,7,3] ?_
 refine qR 7 ((x30.2.2 : Int) != 0) [(2, .int .i64 x7), (8, .pointer (some ⟨g12, 0, none⟩)), (11, .pointer (some ⟨g13, 0, none⟩)), (13, .pointer (some ⟨g33, 0, none⟩)), (51, .bool (((x30.2.2 : Int) != 0) || (decide (8192 < (iadd .i64 x18 x30.1)))))] (fun h36 => ?_) (fun h36 => ?_) ?_
 refine qc (os := _) rfl (qI (k := 44) rfl h36 ?_)
 refine au [8,8,8,8,8,8,24,7] ?_
 refine qd (d := 51) (v := .bool (((x30.2.2 : Int) != 0) || (decide (8192 < (iadd .i64 x18 x30.1))))) rfl (by rw [h36]; simp only [Bool.true_or]) ?_
 exact az [0,24,1]
 refine qc (os := _) rfl (qH (k := 44) rfl h36 ?_)
 refine au [13,25,11,13,21,16,24,11,24,8] ?_
 refine qd (d := 51) (v := .bool (((x30.2.2 : Int) != 0) || (decide (8192 < (iadd .i64 x18 x30.1))))) rfl (by rw [h36]; simp only [Bool.false_or]) ?_
 exact az [0,24,1]
 refine qc (os := _) rfl ?_
 refine av [0,1,10] ?_ ?_
 intro _
 refine au [2,4] ?_
 refine qF (cells := [.int .i64 0, .int .i64 0, .slice none 0 0]) rfl st67 rfl (by kernel_rfl) rfl ?_
 refine au [26,13,5,0,1,9,11,26,5] ?_
 exact za (none, 0) (resL (rs := [.cell 8 67, .tmp 9]) rfl (.cell (i := 2) rfl tf67 rfl rfl (by simp) rfl (.tmp rfl ResOk.nil)) rfl) (fun h => by subst h; exact (.cons 0 rfl .nil))
 intro _
 refine au [12,1,2,4,3,25,6,24,15,28,4] ?_
 rintro x37 e37 ⟨a38, c39⟩
 refine qF (cells := [.int .i64 x7, .int .i64 x37.1, .slice a38 x37.2.length c39]) rfl st67 rfl (by kernel_rfl) rfl ?_
 refine au [26,13,5,0,1,9] ?_
 exact za (a38, c39) (resL (rs := [.cell 8 67, .tmp 9]) rfl (.cell (i := 2) rfl tf67 rfl rfl (by simp) rfl (.tmp rfl ResOk.nil)) rfl) (fun h => by subst h; exact (.cons 0 rfl .nil))
set_option maxHeartbeats 4000000 in
theorem qgr {F : Nat} {x1 : List (List Int)} {a2 : Option Addr} {c3 : Nat} {s3 : List (Option Addr × Nat)} {x4 : List Int} {a5 : Option Addr} {c6 : Nat} {x7 : Int} {x8 : Int} {x9 : Int} {r : (Int × Int × List Int × Bool)} (hm : qaN F x1 x4 x7 x8 x9 = some r) :
    Pure Tryz.prog 26 [.slice a2 x1.length c3, .slice a5 x4.length c6, .agg #[.int .i64 x7, .int .i64 x8, .int .i64 x9]] [SlN eN30 iN30 1 (.slice a2 x1.length c3) x1 s3, Sl (eI .i64) 1 (.slice a5 x4.length c6) x4] (Option Addr × Nat) (fun g => .tuple #[.agg #[.int .i64 r.1, .int .i64 r.2.1, .slice g.1 r.2.2.1.length g.2], .bool r.2.2.2]) (fun g => [Ro (eI .u8) 5 1 (.slice g.1 r.2.2.1.length g.2) r.2.2.1]) (fun _ => []) := by
 refine qh Tryz.func26 rfl Tryz.ntmps26 rfl hm (fun w => ?_)
 refine au [25,12,2,4,24,2] ?_
 intro g10
 refine au [24,6] ?_
 intro g11
 refine au [5,0,1] ?_
 refine qf (fun (((x96, x97, x98, x101), (a99, c100)) : ((Bool × Int × Int × List Int) × (Option Addr × Nat))) => ([(6, .pointer (some ⟨g11, 0, none⟩)), (7, .bool x96)], [⟨g11, 67, [.int .i64 x97, .int .i64 x98, .slice a99 x101.length c100]⟩], [Ro (eI .u8) 5 1 (.slice a99 x101.length c100) x101], [], qay F x96 x97 x98 x101)) ?_ ?_
 refine au [2,4,13,25,11,3,23,27,7,16,3,0,1,14] ?_
 refine qbt Int (eI .u8) 5 1 (qo (fun (((x125, x126, x127, x128, x131), (a129, c130)) : ((Bool × Int × Int × Int × List Int) × (Option Addr × Nat))) => ([(0, .slice a2 x1.length c3), (1, .slice a5 x4.length c6), (5, .pointer (some ⟨g10, 0, none⟩)), (6, .pointer (some ⟨g11, 0, none⟩)), (7, .bool x125), (16, .int .i64 (iadd .i64 (imin x7 (x1.length : Int)) 1)), (17, .int .i64 x126)], [⟨g11, 67, [.int .i64 x127, .int .i64 x128, .slice a129 x131.length c130]⟩, ⟨g10, 26, [.int .i64 x7, .int .i64 x8, .int .i64 x9]⟩], [Ro (eI .u8) 5 1 (.slice a129 x131.length c130) x131], [SlN eN30 iN30 1 (.slice a2 x1.length c3) x1 s3, Sl (eI .i64) 1 (.slice a5 x4.length c6) x4])) (fun k (s : ((Bool × Int × Int × Int × List Int) × (Option Addr × Nat))) => zr F x1 x4 x7 x8 x9 k s.1) ((false, 0, 0, 0, ([] : List Int)), (none, 0)) F ?_)
 intro k158
 rintro ⟨⟨x125, x126, x127, x128, x131⟩, ⟨a129, c130⟩⟩
 try dsimp only
 refine qB (m' := ji F x1 x4 x7 x8 x9 (zr F x1 x4 x7 x8 x9 k158) x125 x126 x127 x128 x131) rfl ?_
 refine av [2,4,24,0,0,1,2,10] ?_ ?_
 intro _
 refine au [12,1] ?_
 refine qf (fun (((x169, x170, x171, x174), (a172, c173)) : ((Bool × Int × Int × List Int) × (Option Addr × Nat))) => ([(0, .slice a2 x1.length c3), (1, .slice a5 x4.length c6), (5, .pointer (some ⟨g10, 0, none⟩)), (6, .pointer (some ⟨g11, 0, none⟩)), (7, .bool x169), (16, .int .i64 (iadd .i64 (imin x7 (x1.length : Int)) 1)), (17, .int .i64 x126)], [⟨g11, 67, [.int .i64 x170, .int .i64 x171, .slice a172 x174.length c173]⟩, ⟨g10, 26, [.int .i64 x7, .int .i64 x8, .int .i64 x9]⟩], [Ro (eI .u8) 5 1 (.slice a172 x174.length c173) x174], [SlN eN30 iN30 1 (.slice a2 x1.length c3) x1 s3, Sl (eI .i64) 1 (.slice a5 x4.length c6) x4], kB F (zr F x1 x4 x7 x8 x9 k158) x126 x169 x170 x171 x174)) ?_ ?_
 refine au [14,2,4,3,5,0,1,2,4,3,3,3,25,6] ?_
 refine qg qgs ?_
 rintro x175 e175 ⟨a176, c177⟩
 refine au [3,17,17,24,6] ?_
 intro g178
 refine au [24,4,5,0,1,2,4,3,3] ?_
 refine vj 12 (fun ((x181, _) : (Bool × Unit)) => ([(0, .slice a2 x1.length c3), (1, .slice a5 x4.length c6), (5, .pointer (some ⟨g10, 0, none⟩)), (6, .pointer (some ⟨g11, 0, none⟩)), (7, .bool x125), (9, .pointer (some ⟨g178, 0, none⟩)), (16, .int .i64 (iadd .i64 (imin x7 (x1.length : Int)) 1)), (17, .int .i64 x126), (41, .bool x181)], [⟨g178, 67, [.int .i64 x175.1, .int .i64 x175.2.1, .slice a176 x175.2.2.1.length c177]⟩, ⟨g11, 67, [.int .i64 x127, .int .i64 x128, .slice a129 x131.length c130]⟩, ⟨g10, 26, [.int .i64 x7, .int .i64 x8, .int .i64 x9]⟩], [Ro (eI .u8) 5 1 (.slice a176 x175.2.2.1.length c177) x175.2.2.1, Ro (eI .u8) 5 1 (.slice a129 x131.length c130) x131], [SlN eN30 iN30 1 (.slice a2 x1.length c3) x1 s3, Sl (eI .i64) 1 (.slice a5 x4.length c6) x4], jk F (zr F x1 x4 x7 x8 x9 k158) x125 x126 x127 x128 x131 x175 x181)) ?_ ?_
 refine qc (os := _) rfl ?_
 refine av [26,3] ?_ ?_
 intro h179
 refine qI (k := 29) rfl h179 ?_
 refine au [3,25,3,3] ?_
 refine qR 8 (!x125) [(0, .slice a2 x1.length c3), (1, .slice a5 x4.length c6), (5, .pointer (some ⟨g10, 0, none⟩)), (6, .pointer (some ⟨g11, 0, none⟩)), (7, .bool x125), (16, .int .i64 (iadd .i64 (imin x7 (x1.length : Int)) 1)), (17, .int .i64 x126), (9, .pointer (some ⟨g178, 0, none⟩)), (29, .bool true), (30, .bool x125), (31, .bool (!x125)), (32, .bool (!x125)), (40, .bool ((!x125) || (decide (x175.2.1 < x128))))] (fun h183 => ?_) (fun h183 => ?_) ?_
 refine qc (os := _) rfl (qI (k := 32) rfl h183 ?_)
 refine au [8,8,8,8,8,8,8,24,7] ?_
 refine qd (d := 40) (v := .bool ((!x125) || (decide (x175.2.1 < x128)))) rfl (by rw [h183]; simp only [Bool.true_or]) (qd (d := 32) (v := .bool (!x125)) rfl (by rw [h183] <;> rfl) ?_)
 exact az [0,24,1]
 refine qc (os := _) rfl (qH (k := 32) rfl h183 ?_)
 refine au [13,13,21,13,13,25,11,24,0,24,8] ?_
 refine qd (d := 40) (v := .bool ((!x125) || (decide (x175.2.1 < x128)))) rfl (by rw [h183]; simp only [Bool.false_or]) (qd (d := 32) (v := .bool (!x125)) rfl (by rw [h183] <;> rfl) ?_)
 exact az [0,24,1]
 refine qc (os := _) rfl ?_
 refine au [24,7,0] ?_
 exact qa (((!x125) || (decide (x175.2.1 < x128))), ())
 intro h179
 refine qH (k := 29) rfl h179 ?_
 refine au [8,8,8,8,8,8,8,8,8,8,8,24,8,0] ?_
 exact qa (false, ())
 rintro ⟨x181, _⟩
 try dsimp only
 refine qc (os := _) rfl ?_
 refine av [0,1,10] ?_ ?_
 intro _
 refine au [4,24,15,25,10,5,0,24,5] ?_
 exact qa ((true, x175.1, x175.2.1, x175.2.2.1), (a176, c177))
 intro _
 refine au [12,24,5] ?_
 exact qa ((x125, x127, x128, x131), (a129, c130))
 rintro ⟨⟨x169, x170, x171, x174⟩, ⟨a172, c173⟩⟩
 try dsimp only
 refine au [4,16,3,0] ?_
 exact qi ((x169, iadd .i64 x126 1, x170, x171, x174), (a172, c173))
 intro _
 refine au [24,9,18,18,24,10] ?_
 exact qa ((x125, x127, x128, x131), (a129, c130))
 rintro ⟨⟨x96, x97, x98, x101⟩, ⟨a99, c100⟩⟩
 try dsimp only
 refine au [2,4,24,15,3,24,4,5,0,1,9] ?_
 exact za (a99, c100) (resL (rs := [.cell 6 67, .tmp 7]) rfl (.cell (i := 0) rfl tf67 rfl rfl (by simp) rfl (.tmp rfl ResOk.nil)) rfl) (fun h => by subst h; exact (.cons 0 rfl .nil))
set_option maxHeartbeats 4000000 in
theorem qce {F : Nat} {g1 : Nat} {x2 : Int} {x3 : Int} {x4 : Int} {x5 : Int} {x6 : Int} {x7 : List Int} {a8 : Option Addr} {c9 : Nat} {x10 : List Int} {a11 : Option Addr} {c12 : Nat} {x13 : List Int} {a14 : Option Addr} {c15 : Nat} {x16 : List (List Int)} {a17 : Option Addr} {c18 : Nat} {s18 : List (Option Addr × Nat)} {r : (Bool × Int × Int × Int × Int × Int × List Int × List Int × List Int)} (hm : js F x2 x3 x4 x5 x6 x7 x10 x13 x16 = some r) :
    PureM Tryz.prog 21 [.pointer (some ⟨g1, 0, none⟩), .agg #[.slice a17 x16.length c18]] [⟨g1, 52, [.int .i64 x2, .int .i64 x3, .int .i64 x4, .int .i64 x5, .int .i64 x6, .slice a8 x7.length c9, .slice a11 x10.length c12, .slice a14 x13.length c15]⟩] [Ro (eI .u8) 5 1 (.slice a8 x7.length c9) x7, Ro (eI .i64) 3 1 (.slice a11 x10.length c12) x10, Ro (eI .i64) 3 1 (.slice a14 x13.length c15) x13] [SlN eN30 iN30 1 (.slice a17 x16.length c18) x16 s18] ((Option Addr × Nat) × (Option Addr × Nat) × (Option Addr × Nat)) (fun _ => .bool r.1) (fun g => [⟨g1, 52, [.int .i64 r.2.1, .int .i64 r.2.2.1, .int .i64 r.2.2.2.1, .int .i64 r.2.2.2.2.1, .int .i64 r.2.2.2.2.2.1, .slice g.1.1 r.2.2.2.2.2.2.1.length g.1.2, .slice g.2.1.1 r.2.2.2.2.2.2.2.1.length g.2.1.2, .slice g.2.2.1 r.2.2.2.2.2.2.2.2.length g.2.2.2]⟩]) (fun g => [Ro (eI .u8) 5 1 (.slice g.1.1 r.2.2.2.2.2.2.1.length g.1.2) r.2.2.2.2.2.2.1, Ro (eI .i64) 3 1 (.slice g.2.1.1 r.2.2.2.2.2.2.2.1.length g.2.1.2) r.2.2.2.2.2.2.2.1, Ro (eI .i64) 3 1 (.slice g.2.2.1 r.2.2.2.2.2.2.2.2.length g.2.2.2) r.2.2.2.2.2.2.2.2]) := by
 refine zS Tryz.func21 rfl Tryz.ntmps21 rfl hm (fun w => ?_)
 refine au [24,12,2,4,24,2] ?_
 intro g19
 refine au [5,0,1] ?_
 refine qf (fun (((x710, x713, x716, x719), (a711, c712, a714, c715, a717, c718)) : ((Int × List Int × List Int × List Int) × (Option Addr × Nat × Option Addr × Nat × Option Addr × Nat))) => ([], [⟨g1, 52, [.int .i64 x2, .int .i64 x3, .int .i64 x4, .int .i64 x5, .int .i64 x710, .slice a711 x713.length c712, .slice a714 x716.length c715, .slice a717 x719.length c718]⟩], [Ro (eI .u8) 5 1 (.slice a711 x713.length c712) x713, Ro (eI .i64) 3 1 (.slice a714 x716.length c715) x716, Ro (eI .i64) 3 1 (.slice a717 x719.length c718) x719], [], yM F x2 x3 x4 x5 x710 x713 x716 x719)) ?_ ?_
 refine au [2,4,13,21,23,3,0,1,14] ?_
 refine qo (fun (((x946, x947, x950, x953, x956), (a948, c949, a951, c952, a954, c955)) : ((Int × Int × List Int × List Int × List Int) × (Option Addr × Nat × Option Addr × Nat × Option Addr × Nat))) => ([(0, .pointer (some ⟨g1, 0, none⟩)), (3, .pointer (some ⟨g19, 0, none⟩)), (10, .slice a17 x16.length c18), (11, .int .i64 (x16.length : Int)), (12, .int .i64 x946)], [⟨g19, 24, [.slice a17 x16.length c18]⟩, ⟨g1, 52, [.int .i64 x2, .int .i64 x3, .int .i64 x4, .int .i64 x5, .int .i64 x947, .slice a948 x950.length c949, .slice a951 x953.length c952, .slice a954 x956.length c955]⟩], [Ro (eI .u8) 5 1 (.slice a948 x950.length c949) x950, Ro (eI .i64) 3 1 (.slice a951 x953.length c952) x953, Ro (eI .i64) 3 1 (.slice a954 x956.length c955) x956], [SlN eN30 iN30 1 (.slice a17 x16.length c18) x16 s18])) (fun k (s : ((Int × Int × List Int × List Int × List Int) × (Option Addr × Nat × Option Addr × Nat × Option Addr × Nat))) => qm F x2 x3 x4 x5 x16 k s.1) ((0, x6, x7, x10, x13), (a8, c9, a11, c12, a14, c15)) F ?_
 intro k1183
 rintro ⟨⟨x946, x947, x950, x953, x956⟩, ⟨a948, c949, a951, c952, a954, c955⟩⟩
 try dsimp only
 refine qB (m' := kE F x2 x3 x4 x5 x16 (qm F x2 x3 x4 x5 x16 k1183) x946 x947 x950 x953 x956) rfl ?_
 refine av [2,4,24,0,0,1,2,10] ?_ ?_
 intro _
 refine au [12,1,2,14,2,4,3,27,4] ?_
 intro x1297 e1297 g1300 b1298 o1299
 refine au [25,9,5,5,0,1] ?_
 refine qf (fun (((x1316, x1317, x1318, x1321), (g1315, a1319, c1320)) : ((Bool × Int × Int × List Int) × (Nat × Option Addr × Nat))) => ([(0, .pointer (some ⟨g1, 0, none⟩)), (3, .pointer (some ⟨g19, 0, none⟩)), (7, .pointer (some ⟨g1315, 0, none⟩)), (8, .bool x1316), (10, .slice a17 x16.length c18), (11, .int .i64 (x16.length : Int)), (12, .int .i64 x946)], [⟨g19, 24, [.slice a17 x16.length c18]⟩, ⟨g1, 52, [.int .i64 x2, .int .i64 x3, .int .i64 x4, .int .i64 x5, .int .i64 x947, .slice a948 x950.length c949, .slice a951 x953.length c952, .slice a954 x956.length c955]⟩, ⟨g1315, 67, [.int .i64 x1317, .int .i64 x1318, .slice a1319 x1321.length c1320]⟩], [Ro (eI .u8) 5 1 (.slice a948 x950.length c949) x950, Ro (eI .i64) 3 1 (.slice a951 x953.length c952) x953, Ro (eI .i64) 3 1 (.slice a954 x956.length c955) x956, Ro (eI .u8) 5 1 (.slice a1319 x1321.length c1320) x1321], [SlN eN30 iN30 1 (.slice a17 x16.length c18) x16 s18], kF F (qm F x2 x3 x4 x5 x16 k1183) x2 x3 x4 x5 x946 x947 x950 x953 x956 x1316 x1317 x1318 x1321)) ?_ ?_
 refine qjp 2 kI rfl ?_
 intro x1395 e1395 a1396 c1397 g1398 h1399 h1400
 refine qr mixed [] [⟨g19, 24, [.slice a17 x16.length c18]⟩, ⟨g1, 52, [.int .i64 x2, .int .i64 x3, .int .i64 x4, .int .i64 x5, .int .i64 x947, .slice a948 x950.length c949, .slice a951 x953.length c952, .slice a954 x956.length c955]⟩] [SlN eN30 iN30 1 (.slice a1396 x1395.length c1397) x1395 g1398, qs b1298 o1299 (eN30 (x1297, g1300)), Sl (eI .i64) 1 (.slice g1300.1 x1297.length g1300.2) x1297, SlN eN30 iN30 1 (.slice a17 x16.length c18) x16 s18] (.cons 0 rfl (.cons 0 rfl .nil)) (qy 0 rfl (qy 1 rfl (qy 2 rfl (qy 3 rfl qn)))) 17 rfl ?_
 refine au [19,0,25,4,1,6,2] ?_
 refine qj 3 (.slice a1396 x1395.length c1397) rfl rfl rfl (qnz Tryz.underlying22 tf30 rfl rfl rfl e1395 h1400 h1399) ?_
 refine au [6,4,6,5,6,6,19,7,19,8] ?_
 refine kA 9 (.agg #[.int .i64 x3, .int .i64 x4, .int .i64 x5]) rfl rfl rfl (zd (i := 1) rfl tf26 rfl rfl (by simp) rfl) (qbs 10 14 rfl rfl (by kernel_rfl) rfl rfl ?_ ?_)
 refine au [31,7] ?_
 rintro x1401 e1401 ⟨a1402, c1403⟩
 refine au [0] ?_
 refine zG (.cons 0 rfl (.cons 0 rfl .nil)) (qy 0 rfl (qy 1 rfl (qy 2 rfl (qy 3 rfl qn)))) ?_
 refine au [6,11,6,12,6,13,20,14,24,6] ?_
 intro g1404
 refine au [0,27,15,20,15,24,4,0,27,15,6,16,24,3] ?_
 exact qv (qa ((x1401.2.2.2, x1401.1, x1401.2.1, x1401.2.2.1), (g1404, a1402, c1403))) (by intro c h; cases h)
 refine qbu (m' := ((qaN F x1395 x1297 x3 x4 x5).bind fun x1406 => kF F (qm F x2 x3 x4 x5 x16 k1183) x2 x3 x4 x5 x946 x947 x950 x953 x956 x1406.2.2.2 x1406.1 x1406.2.1 x1406.2.2.1)) (rfl) ?_
 refine au [24,6] ?_
 intro g1405
 refine au [0,27,15,20,10,31,7] ?_
 rintro x1406 e1406 ⟨a1407, c1408⟩
 refine au [0,27,15,6,11,6,12,6,13,20,15,24,4,0,27,15,6,16,24,3] ?_
 exact qv (qa ((x1406.2.2.2, x1406.1, x1406.2.1, x1406.2.2.1), (g1405, a1407, c1408))) (by intro c h; cases h)
 rintro ⟨⟨x1316, x1317, x1318, x1321⟩, ⟨g1315, a1319, c1320⟩⟩
 try dsimp only
 refine au [2] ?_
 refine qf (fun ((x1327, _) : (Bool × Unit)) => ([(0, .pointer (some ⟨g1, 0, none⟩)), (3, .pointer (some ⟨g19, 0, none⟩)), (7, .pointer (some ⟨g1315, 0, none⟩)), (10, .slice a17 x16.length c18), (11, .int .i64 (x16.length : Int)), (12, .int .i64 x946), (45, .bool x1327)], [⟨g19, 24, [.slice a17 x16.length c18]⟩, ⟨g1, 52, [.int .i64 x2, .int .i64 x3, .int .i64 x4, .int .i64 x5, .int .i64 x947, .slice a948 x950.length c949, .slice a951 x953.length c952, .slice a954 x956.length c955]⟩, ⟨g1315, 67, [.int .i64 x1317, .int .i64 x1318, .slice a1319 x1321.length c1320]⟩], [Ro (eI .u8) 5 1 (.slice a948 x950.length c949) x950, Ro (eI .i64) 3 1 (.slice a951 x953.length c952) x953, Ro (eI .i64) 3 1 (.slice a954 x956.length c955) x956, Ro (eI .u8) 5 1 (.slice a1319 x1321.length c1320) x1321], [SlN eN30 iN30 1 (.slice a17 x16.length c18) x16 s18], zI F (qm F x2 x3 x4 x5 x16 k1183) x2 x3 x4 x5 x946 x947 x950 x953 x956 x1317 x1318 x1321 x1327)) ?_ ?_
 refine av [26,7] ?_ ?_
 intro h1394
 refine qr mixed [] [⟨g19, 24, [.slice a17 x16.length c18]⟩, ⟨g1, 52, [.int .i64 x2, .int .i64 x3, .int .i64 x4, .int .i64 x5, .int .i64 x947, .slice a948 x950.length c949, .slice a951 x953.length c952, .slice a954 x956.length c955]⟩, ⟨g1315, 67, [.int .i64 x1317, .int .i64 x1318, .slice a1319 x1321.length c1320]⟩] [SlN eN30 iN30 1 (.slice a17 x16.length c18) x16 s18] (.cons 0 rfl (.cons 0 rfl (.cons 0 rfl .nil))) (qy 0 rfl qn) 15 rfl ?_
 refine au [6,0,6,1,6,2] ?_
 refine qe (d := 33) (v := .bool true) rfl (by rw [h1394] <;> rfl) ?_
 refine au [7,3,7,4,7,5,7,6,7,7,7,8,7,9,7,10,7,11,7,12,7,13,6,14,24,3] ?_
 exact qv (qa (true, ())) (by intro c h; cases h)
 intro h1394
 refine qr mixed [] [⟨g19, 24, [.slice a17 x16.length c18]⟩, ⟨g1, 52, [.int .i64 x2, .int .i64 x3, .int .i64 x4, .int .i64 x5, .int .i64 x947, .slice a948 x950.length c949, .slice a951 x953.length c952, .slice a954 x956.length c955]⟩, ⟨g1315, 67, [.int .i64 x1317, .int .i64 x1318, .slice a1319 x1321.length c1320]⟩] [SlN eN30 iN30 1 (.slice a17 x16.length c18) x16 s18] (.cons 0 rfl (.cons 0 rfl (.cons 0 rfl .nil))) (qy 0 rfl qn) 15 rfl ?_
 refine au [6,0,6,1,6,2] ?_
 refine qe (d := 33) (v := .bool false) rfl (by rw [h1394] <;> rfl) ?_
 refine au [6,3,6,4,19,5,19,6,19,7,28,7,8,19,9,19,10,29,0,11,6,12,6,13,6,14,24,3] ?_
 exact qv (qa ((decide (8192 < (iadd .i64 x947 x1318))), ())) (by intro c h; cases h)
 rintro ⟨x1327, _⟩
 try dsimp only
 refine av [10] ?_ ?_
 intro _
 refine au [2,4,5,0,1,9,11,22,11,11,22,11] ?_
 exact zu ((a948, c949), (a951, c952), (a954, c955))
 intro _
 refine au [12,1] ?_
 refine qf (fun (((x1358, x1361), (a1356, c1357, a1359, c1360)) : ((List Int × List Int) × (Option Addr × Nat × Option Addr × Nat))) => ([(0, .pointer (some ⟨g1, 0, none⟩)), (3, .pointer (some ⟨g19, 0, none⟩)), (7, .pointer (some ⟨g1315, 0, none⟩)), (10, .slice a17 x16.length c18), (11, .int .i64 (x16.length : Int)), (12, .int .i64 x946)], [⟨g19, 24, [.slice a17 x16.length c18]⟩, ⟨g1, 52, [.int .i64 x2, .int .i64 x3, .int .i64 x4, .int .i64 x5, .int .i64 x947, .slice a948 x950.length c949, .slice a1356 x1358.length c1357, .slice a1359 x1361.length c1360]⟩, ⟨g1315, 67, [.int .i64 x1317, .int .i64 x1318, .slice a1319 x1321.length c1320]⟩], [Ro (eI .u8) 5 1 (.slice a948 x950.length c949) x950, Ro (eI .i64) 3 1 (.slice a1356 x1358.length c1357) x1358, Ro (eI .i64) 3 1 (.slice a1359 x1361.length c1360) x1361, Ro (eI .u8) 5 1 (.slice a1319 x1321.length c1320) x1321], [SlN eN30 iN30 1 (.slice a17 x16.length c18) x16 s18], zJ F (qm F x2 x3 x4 x5 x16 k1183) x946 x947 x950 x1318 x1321 x1358 x1361)) ?_ ?_
 refine qr mixed [24, 27] [⟨g19, 24, [.slice a17 x16.length c18]⟩, ⟨g1315, 67, [.int .i64 x1317, .int .i64 x1318, .slice a1319 x1321.length c1320]⟩] [SlN eN30 iN30 1 (.slice a17 x16.length c18) x16 s18, (BlkD.is ⟨g1, 52, [.int .i64 x2, .int .i64 x3, .int .i64 x4, .int .i64 x5, .int .i64 x947, .slice a948 x950.length c949, .slice a951 x953.length c952, .slice a954 x956.length c955]⟩)] (.cons 0 rfl (.cons 1 rfl .nil)) (qy 0 rfl (qeL 1 rfl qn)) 28 rfl ?_
 refine au [6,0,6,1,6,2,6,3,19,4] ?_
 refine qU 5 (.slice a951 x953.length c952) [[24], [27]] rfl rfl rfl (vP (j := 1) rfl tf30 rfl rfl (fun _ => rfl) rfl) ?_
 refine au [19,6,28,7,7,6,10,6,11,19,12] ?_
 refine qU 13 (.slice a954 x956.length c955) [[24], [27]] rfl rfl rfl (vP (j := 1) rfl tf30 rfl rfl (fun _ => rfl) rfl) ?_
 refine au [6,14,6,15,19,16,19,17,19,18] ?_
 refine qU 19 (.int .i64 x947) [[24], [27]] rfl rfl rfl (vP (j := 1) rfl tf3 rfl rfl (fun _ => rfl) rfl) (qbs 8 20 rfl rfl (by kernel_rfl) rfl rfl ?_ ?_)
 refine qV (vs := [.int .i64 x1317]) (ys := ([x1317] : List Int)) (qz .i64) (by decide) rfl Tryz.underlying30 tf3 rfl rfl rfl rfl rfl (by decide) (fun a1365 c1366 => ?_)
 refine au [0,25,15] ?_
 refine qbs 9 20 rfl rfl (by kernel_rfl) rfl rfl ?_ ?_
 refine zW 2 (qz .i64) rfl Tryz.underlying30 tf3 rfl rfl rfl rfl rfl (.inl ⟨0, _, rfl⟩) rfl rfl (fun x1367 e1367 a1368 c1369 => ?_)
 refine au [0,25,15,20,20] ?_
 refine qV (vs := [.int .i64 x947]) (ys := ([x947] : List Int)) (qz .i64) (by decide) rfl Tryz.underlying30 tf3 rfl rfl rfl rfl rfl (by decide) (fun a1370 c1371 => ?_)
 refine au [0,25,15,20,21] ?_
 refine zW 4 (qz .i64) rfl Tryz.underlying30 tf3 rfl rfl rfl rfl rfl (.inl ⟨0, _, rfl⟩) rfl rfl (fun x1372 e1372 a1373 c1374 => ?_)
 refine au [0,25,15,6,22,19,23,20,24,25,10,0,27,9,6,25,19,26,20,27,25,10,0,27,9,24,3] ?_
 exact qv (qa ((x1367, x1372), (a1368, c1369, a1373, c1374))) (by intro c h; cases h)
 refine qbu (m' := ((app 8796093022208 x953 ([x1317] : List Int)).bind fun x1377 => ((app 8796093022208 x956 ([x947] : List Int)).bind fun x1380 => zJ F (qm F x2 x3 x4 x5 x16 k1183) x946 x947 x950 x1318 x1321 x1377 x1380))) (rfl) (qV (vs := [.int .i64 x947]) (ys := ([x947] : List Int)) (qz .i64) (by decide) rfl Tryz.underlying30 tf3 rfl rfl rfl rfl rfl (by decide) (fun a1375 c1376 => ?_))
 refine au [0,25,15,20,9] ?_
 refine zW 3 (qz .i64) rfl Tryz.underlying30 tf3 rfl rfl rfl rfl rfl (.inl ⟨1, _, rfl⟩) rfl rfl (fun x1377 e1377 a1378 c1379 => ?_)
 refine au [0,25,15,20,21] ?_
 refine zW 4 (qz .i64) rfl Tryz.underlying30 tf3 rfl rfl rfl rfl rfl (.inl ⟨1, _, rfl⟩) rfl rfl (fun x1380 e1380 a1381 c1382 => ?_)
 refine au [0,25,15,6,22,19,23,20,24,25,10,0,27,9,6,25,19,26,20,27,25,10,0,27,9,24,3] ?_
 exact qv (qa ((x1377, x1380), (a1378, c1379, a1381, c1382))) (by intro c h; cases h)
 refine qbu (m' := ((app 8796093022208 x953 ([x1317] : List Int)).bind fun x1387 => ((app 8796093022208 x956 ([x947] : List Int)).bind fun x1390 => zJ F (qm F x2 x3 x4 x5 x16 k1183) x946 x947 x950 x1318 x1321 x1387 x1390))) (rfl) (qV (vs := [.int .i64 x947]) (ys := ([x947] : List Int)) (qz .i64) (by decide) rfl Tryz.underlying30 tf3 rfl rfl rfl rfl rfl (by decide) (fun a1383 c1384 => ?_))
 refine au [0,25,15,20,8] ?_
 refine qV (vs := [.int .i64 x1317]) (ys := ([x1317] : List Int)) (qz .i64) (by decide) rfl Tryz.underlying30 tf3 rfl rfl rfl rfl rfl (by decide) (fun a1385 c1386 => ?_)
 refine au [0,25,15,20,9] ?_
 refine zW 3 (qz .i64) rfl Tryz.underlying30 tf3 rfl rfl rfl rfl rfl (.inl ⟨0, _, rfl⟩) rfl rfl (fun x1387 e1387 a1388 c1389 => ?_)
 refine au [0,25,15,20,21] ?_
 refine zW 4 (qz .i64) rfl Tryz.underlying30 tf3 rfl rfl rfl rfl rfl (.inl ⟨2, _, rfl⟩) rfl rfl (fun x1390 e1390 a1391 c1392 => ?_)
 refine au [0,25,15,6,22,19,23,20,24,25,10,0,27,9,6,25,19,26,20,27,25,10,0,27,9,24,3] ?_
 exact qv (qa ((x1387, x1390), (a1388, c1389, a1391, c1392))) (by intro c h; cases h)
 rintro ⟨⟨x1358, x1361⟩, ⟨a1356, c1357, a1359, c1360⟩⟩
 try dsimp only
 refine qr mixed [12] [⟨g19, 24, [.slice a17 x16.length c18]⟩, ⟨g1315, 67, [.int .i64 x1317, .int .i64 x1318, .slice a1319 x1321.length c1320]⟩] [SlN eN30 iN30 1 (.slice a17 x16.length c18) x16 s18, (BlkD.is ⟨g1, 52, [.int .i64 x2, .int .i64 x3, .int .i64 x4, .int .i64 x5, .int .i64 x947, .slice a948 x950.length c949, .slice a1356 x1358.length c1357, .slice a1359 x1361.length c1360]⟩)] (.cons 0 rfl (.cons 1 rfl .nil)) (qy 0 rfl (qeL 1 rfl qn)) 13 rfl ?_
 refine au [6,0,6,1,6,2,19,3,19,4] ?_
 refine qU 5 (.agg #[.int .i64 x947, .slice a948 x950.length c949]) [[12]] rfl rfl rfl (vP (j := 1) rfl tf33 rfl rfl (by simp) rfl) ?_
 refine au [19,6] ?_
 refine kA 7 (.agg #[.int .i64 x1318, .slice a1319 x1321.length c1320]) rfl rfl rfl (zd (i := 1) rfl tf33 rfl rfl (by simp) rfl) ?_
 refine au [20,8,28,4] ?_
 rintro x1362 e1362 ⟨a1363, c1364⟩
 refine au [0,25,15,6,9,19,10,19,11,20,12,25,10,0] ?_
 refine qaI 12 rfl (by kernel_rfl) (.cons 0 rfl (.cons 1 rfl .nil)) ?_
 refine au [24,3] ?_
 refine qv ?_ (by intro c h; cases h)
 refine au [24,5,1,4,16,3,0] ?_
 exact qi ((iadd .i64 x946 1, x1362.1, x1362.2, x1358, x1361), (a1363, c1364, a1356, c1357, a1359, c1360))
 intro _
 refine au [24,9,18,18,24,10] ?_
 exact qa ((x947, x950, x953, x956), (a948, c949, a951, c952, a954, c955))
 rintro ⟨⟨x710, x713, x716, x719⟩, ⟨a711, c712, a714, c715, a717, c718⟩⟩
 try dsimp only
 refine au [2,4,5,0,1,9] ?_
 exact zu ((a711, c712), (a714, c715), (a717, c718))
set_option maxHeartbeats 4000000 in
theorem qeE {F : Nat} {x1 : List (List Int)} {a2 : Option Addr} {c3 : Nat} {s3 : List (Option Addr × Nat)} {x4 : Int} {x5 : Int} {x6 : Int} {r : (Int × Int × Int × Int × Int × List Int × List Int × List Int × Int)} (hm : v8 F x1 x4 x5 x6 = some r) :
    PureM Tryz.prog 13 [.agg #[.slice a2 x1.length c3], .agg #[.int .i64 x4, .int .i64 x5, .int .i64 x6]] [] [] [SlN eN30 iN30 1 (.slice a2 x1.length c3) x1 s3] ((Option Addr × Nat) × (Option Addr × Nat) × (Option Addr × Nat) × Nat) (fun g => .tuple #[.pointer (some ⟨g.2.2.2, 0, none⟩), .int .i64 r.2.2.2.2.2.2.2.2]) (fun g => [⟨g.2.2.2, 52, [.int .i64 r.1, .int .i64 r.2.1, .int .i64 r.2.2.1, .int .i64 r.2.2.2.1, .int .i64 r.2.2.2.2.1, .slice g.1.1 r.2.2.2.2.2.1.length g.1.2, .slice g.2.1.1 r.2.2.2.2.2.2.1.length g.2.1.2, .slice g.2.2.1.1 r.2.2.2.2.2.2.2.1.length g.2.2.1.2]⟩]) (fun g => [Ro (eI .u8) 5 1 (.slice g.1.1 r.2.2.2.2.2.1.length g.1.2) r.2.2.2.2.2.1, Ro (eI .i64) 3 1 (.slice g.2.1.1 r.2.2.2.2.2.2.1.length g.2.1.2) r.2.2.2.2.2.2.1, Ro (eI .i64) 3 1 (.slice g.2.2.1.1 r.2.2.2.2.2.2.2.1.length g.2.2.1.2) r.2.2.2.2.2.2.2.1]) := by
 refine zS Tryz.func13 rfl Tryz.ntmps13 rfl hm (fun w => ?_)
 refine au [24,12,2,4,24,2] ?_
 intro g7
 refine au [24,2] ?_
 intro g8
 refine au [5,5,0,1,2,4,25,6] ?_
 refine qg qeD ?_
 intro x9 e9 _
 refine au [5,0,1] ?_
 refine qf (fun ((x12, _) : (Int × Unit)) => ([(2, .pointer (some ⟨g7, 0, none⟩)), (3, .pointer (some ⟨g8, 0, none⟩)), (6, .int .i64 x12)], [⟨g8, 26, [.int .i64 x4, .int .i64 x5, .int .i64 x6]⟩, ⟨g7, 24, [.slice a2 x1.length c3]⟩], [], [SlN eN30 iN30 1 (.slice a2 x1.length c3) x1 s3], yA F x1 x4 x5 x6 x12)) ?_ ?_
 refine av [2,4,3,25,5,0,1,10] ?_ ?_
 intro _
 refine au [4,24,15,29,7] ?_
 intro x97 e97 _
 refine au [5,0] ?_
 exact qa (x97, ())
 intro _
 refine au [12] ?_
 exact qa (x9, ())
 rintro ⟨x12, _⟩
 try dsimp only
 refine au [2,4,13,25,11,23,24,15] ?_
 refine qF (cells := [.int .i64 (x1.length : Int), .int .i64 x4, .int .i64 x5, .int .i64 x6, .int .i64 0, .slice none 0 0]) rfl st35 rfl (by kernel_rfl) rfl (qF (cells := [.int .i64 (x1.length : Int), .int .i64 x4, .int .i64 x5, .int .i64 x6, .int .i64 0, .slice none 0 0, .slice none 0 0, .slice none 0 0]) rfl st52 rfl (by kernel_rfl) rfl ?_)
 refine au [24,2] ?_
 intro g13
 refine au [5,0,1] ?_
 refine qf (fun (((x48, x49, x50, x51, x52, x53, x56, x59, x62), (a54, c55, a57, c58, a60, c61)) : ((Int × Int × Int × Int × Int × Int × List Int × List Int × List Int) × (Option Addr × Nat × Option Addr × Nat × Option Addr × Nat))) => ([(6, .int .i64 x48), (7, .pointer (some ⟨g13, 0, none⟩))], [⟨g13, 52, [.int .i64 x49, .int .i64 x50, .int .i64 x51, .int .i64 x52, .int .i64 x53, .slice a54 x56.length c55, .slice a57 x59.length c58, .slice a60 x62.length c61]⟩], [Ro (eI .u8) 5 1 (.slice a54 x56.length c55) x56, Ro (eI .i64) 3 1 (.slice a57 x59.length c58) x59, Ro (eI .i64) 3 1 (.slice a60 x62.length c61) x62], [], kM F x48 x49 x50 x51 x52 x53 x56 x59 x62)) ?_ ?_
 refine au [2,4,3,25,5,3] ?_
 refine vj 5 (fun (((x74, x75, x76, x77, x78, x79, x82, x85, x88), (a80, c81, a83, c84, a86, c87)) : ((Bool × Int × Int × Int × Int × Int × List Int × List Int × List Int) × (Option Addr × Nat × Option Addr × Nat × Option Addr × Nat))) => ([(6, .int .i64 x12), (7, .pointer (some ⟨g13, 0, none⟩)), (28, .bool x74)], [⟨g13, 52, [.int .i64 x75, .int .i64 x76, .int .i64 x77, .int .i64 x78, .int .i64 x79, .slice a80 x82.length c81, .slice a83 x85.length c84, .slice a86 x88.length c87]⟩], [Ro (eI .u8) 5 1 (.slice a80 x82.length c81) x82, Ro (eI .i64) 3 1 (.slice a83 x85.length c84) x85, Ro (eI .i64) 3 1 (.slice a86 x88.length c87) x88], [], kN F x12 x74 x75 x76 x77 x78 x79 x82 x85 x88)) ?_ ?_
 refine qc (os := _) rfl ?_
 refine av [26,3] ?_ ?_
 intro h63
 refine qI (k := 23) rfl h63 ?_
 refine au [3,26,2,27,3,27,10,27,10] ?_
 refine q8 qce ?_
 rintro x90 e90 ⟨⟨a91, c92⟩, ⟨a93, c94⟩, ⟨a95, c96⟩⟩
 refine au [25,3,24,7,0] ?_
 exact qa (((!x90.1), x90.2.1, x90.2.2.1, x90.2.2.2.1, x90.2.2.2.2.1, x90.2.2.2.2.2.1, x90.2.2.2.2.2.2.1, x90.2.2.2.2.2.2.2.1, x90.2.2.2.2.2.2.2.2), (a91, c92, a93, c94, a95, c96))
 intro h63
 refine qH (k := 23) rfl h63 ?_
 refine au [8,8,8,8,24,8,0,26,5,25,8,25,8] ?_
 exact qa ((false, (x1.length : Int), x4, x5, x6, (0 : Int), ([] : List Int), ([] : List Int), ([] : List Int)), (none, 0, none, 0, none, 0))
 rintro ⟨⟨x74, x75, x76, x77, x78, x79, x82, x85, x88⟩, ⟨a80, c81, a83, c84, a86, c87⟩⟩
 try dsimp only
 refine qc (os := _) rfl ?_
 refine av [0,1,10] ?_ ?_
 intro _
 refine au [4,5,0] ?_
 exact qa (((8 : Int), x75, x76, x77, x78, x79, x82, x85, x88), (a80, c81, a83, c84, a86, c87))
 intro _
 refine au [12] ?_
 exact qa ((x12, x75, x76, x77, x78, x79, x82, x85, x88), (a80, c81, a83, c84, a86, c87))
 rintro ⟨⟨x48, x49, x50, x51, x52, x53, x56, x59, x62⟩, ⟨a54, c55, a57, c58, a60, c61⟩⟩
 try dsimp only
 refine au [2,4,3,3,5,5,0,1,9] ?_
 exact zu ((a54, c55), (a57, c58), (a60, c61), g13)
theorem qfw {F : Nat} {x1 : List (List Int)} {a2 : Option Addr} {c3 : Nat} {s3 : List (Option Addr × Nat)} {x4 : Int} {x5 : Int} {x6 : Int} {r : (Int × Int × Int × Int × Int × List Int × Int)} (hm : yi F x1 x4 x5 x6 = some r) :
    Pure Tryz.prog 6 [.agg #[.slice a2 x1.length c3], .agg #[.int .i64 x4, .int .i64 x5, .int .i64 x6]] [SlN eN30 iN30 1 (.slice a2 x1.length c3) x1 s3] (Option Addr × Nat) (fun g => .tuple #[.agg #[.int .i64 r.1, .int .i64 r.2.1, .int .i64 r.2.2.1, .int .i64 r.2.2.2.1, .int .i64 r.2.2.2.2.1, .slice g.1 r.2.2.2.2.2.1.length g.2], .int .i64 r.2.2.2.2.2.2]) (fun g => [Ro (eI .u8) 5 1 (.slice g.1 r.2.2.2.2.2.1.length g.2) r.2.2.2.2.2.1]) (fun _ => []) := by
 refine qh Tryz.func6 rfl Tryz.ntmps6 rfl hm (fun w => ?_)
 refine au [24,12,2,4,24,2] ?_
 intro g7
 refine au [24,2] ?_
 intro g8
 refine au [24,6] ?_
 intro g9
 refine au [5,0,1,2,4,26,2,25,6,31,8] ?_
 rintro x10 e10 ⟨⟨a11, c12⟩, ⟨a13, c14⟩, ⟨a15, c16⟩, g17⟩
 refine av [3,17,17,5,5,0,1,2,2,4,3,25,7,0,1,10] ?_ ?_
 intro _
 refine au [2,4] ?_
 refine qF (cells := [.int .i64 0, .int .i64 0, .int .i64 0, .int .i64 0, .int .i64 0, .slice none 0 0]) rfl st35 rfl (by kernel_rfl) rfl ?_
 refine au [3,25,10,5,0,1,9,11,26,5] ?_
 exact za (none, 0) (resL (rs := [.cell 4 35, .tmp 5]) rfl (.cell (i := 1) rfl tf35 rfl rfl (by simp) rfl (.tmp rfl ResOk.nil)) rfl) (fun h => by subst h; exact (.cons 0 rfl .nil))
 intro _
 refine au [12,1,2,4,3,24,14,13,24,15,25,10,5,0,1,9] ?_
 exact za (a11, c12) (resL (rs := [.cell 4 35, .tmp 5]) rfl (.cell (i := 1) rfl tf35 rfl rfl (by simp) rfl (.tmp rfl ResOk.nil)) rfl) (fun h => by subst h; exact (.cons 0 rfl .nil))
theorem qgq {F : Nat} {x1 : List (List Int)} {a2 : Option Addr} {c3 : Nat} {s3 : List (Option Addr × Nat)} {x4 : Int} {x5 : Int} {x6 : Int} {r : (List Int × List Int × Int)} (hm : qab F x1 x4 x5 x6 = some r) :
    Pure Tryz.prog 7 [.agg #[.slice a2 x1.length c3], .agg #[.int .i64 x4, .int .i64 x5, .int .i64 x6]] [SlN eN30 iN30 1 (.slice a2 x1.length c3) x1 s3] ((Option Addr × Nat) × (Option Addr × Nat)) (fun g => .tuple #[.slice g.1.1 r.1.length g.1.2, .slice g.2.1 r.2.1.length g.2.2, .int .i64 r.2.2]) (fun g => [Ro (eI .i64) 3 1 (.slice g.1.1 r.1.length g.1.2) r.1, Ro (eI .i64) 3 1 (.slice g.2.1 r.2.1.length g.2.2) r.2.1]) (fun _ => []) := by
 refine qh Tryz.func7 rfl Tryz.ntmps7 rfl hm (fun w => ?_)
 refine au [24,12,2,4,24,2] ?_
 intro g7
 refine au [24,2] ?_
 intro g8
 refine au [5,5,5,0,1,2,4,25,6,24,15,31,8] ?_
 rintro x9 e9 ⟨⟨a10, c11⟩, ⟨a12, c13⟩, ⟨a14, c15⟩, g16⟩
 refine av [3,17,17,5,5,0,1,2,2,4,3,25,7,0,1,10] ?_ ?_
 intro _
 refine au [2,4,3,5,5,5,0,1,9,11,25,8,25,8] ?_
 exact qt ((none, 0), (none, 0))
 intro _
 refine au [12,1,2] ?_
 refine qr mixed [] [⟨g16, 52, [.int .i64 x9.1, .int .i64 x9.2.1, .int .i64 x9.2.2.1, .int .i64 x9.2.2.2.1, .int .i64 x9.2.2.2.2.1, .slice a10 x9.2.2.2.2.2.1.length c11, .slice a12 x9.2.2.2.2.2.2.1.length c13, .slice a14 x9.2.2.2.2.2.2.2.1.length c15]⟩, ⟨g8, 26, [.int .i64 x4, .int .i64 x5, .int .i64 x6]⟩, ⟨g7, 24, [.slice a2 x1.length c3]⟩] [SlN eN30 iN30 1 (.slice a2 x1.length c3) x1 s3] (.cons 0 rfl (.cons 0 rfl (.cons 0 rfl .nil))) (qy 0 rfl qn) 11 rfl ?_
 refine au [6,0,6,1,19,2,25,4,3,6,4,6,5,19,6,25,4,7,6,8,6,9,6,10,24,3] ?_
 refine qv ?_ (by intro c h; cases h)
 refine au [1,9] ?_
 exact qt ((a12, c13), (a14, c15))
theorem qew (F : Nat)  (r : List (List Int)) (hm : ve F  = some r) :
    Pure Tryz.prog 9 [] [] (Option Addr × (Nat × List (Option Addr × Nat))) (fun g => .agg #[.slice g.1 r.length g.2.1]) (fun g => [RoN eN30 rN30 30 1 (.slice g.1 r.length g.2.1) r g.2.2 []]) (fun _ => []) := by
 refine qh Tryz.func9 rfl Tryz.ntmps9 rfl hm (fun w => ?_)
 refine au [31,9,2,4,24,6] ?_
 intro g1
 refine au [0,1,2,4] ?_
 refine qV (vs := [.int .i64 1, .int .i64 2, .int .i64 3, .int .i64 5]) (ys := ([1, 2, 3, 5] : List Int)) (qz .i64) (by decide) rfl Tryz.underlying30 tf3 rfl rfl rfl rfl rfl (by decide) (fun a2 c3 => qV (vs := [.int .i64 1, .int .i64 2, .int .i64 3, .int .i64 5]) (ys := ([1, 2, 3, 5] : List Int)) (qz .i64) (by decide) rfl Tryz.underlying30 tf3 rfl rfl rfl rfl rfl (by decide) (fun a4 c5 => qV (vs := [.int .i64 0, .int .i64 1, .int .i64 2, .int .i64 3, .int .i64 5]) (ys := ([0, 1, 2, 3, 5] : List Int)) (qz .i64) (by decide) rfl Tryz.underlying30 tf3 rfl rfl rfl rfl rfl (by decide) (fun a6 c7 => qV (vs := [.int .i64 4]) (ys := ([4] : List Int)) (qz .i64) (by decide) rfl Tryz.underlying30 tf3 rfl rfl rfl rfl rfl (by decide) (fun a8 c9 => qV (vs := [.int .i64 1, .int .i64 2, .int .i64 3]) (ys := ([1, 2, 3] : List Int)) (qz .i64) (by decide) rfl Tryz.underlying30 tf3 rfl rfl rfl rfl rfl (by decide) (fun a10 c11 => ?_)))))
 refine au [27,10] ?_
 refine qV (vs := [.slice a2 ([1, 2, 3, 5] : List Int).length c3, .slice a4 ([1, 2, 3, 5] : List Int).length c5, .slice a6 ([0, 1, 2, 3, 5] : List Int).length c7, .slice none ([] : List Int).length 0, .slice a8 ([4] : List Int).length c9, .slice a10 ([1, 2, 3] : List Int).length c11]) (ys := ([(([1, 2, 3, 5] : List Int), (a2, c3)), (([1, 2, 3, 5] : List Int), (a4, c5)), (([0, 1, 2, 3, 5] : List Int), (a6, c7)), (([] : List Int), (none, 0)), (([4] : List Int), (a8, c9)), (([1, 2, 3] : List Int), (a10, c11))] : List (List Int × (Option Addr × Nat)))) kI (by decide) rfl Tryz.underlying22 tf30 rfl rfl rfl rfl rfl (by decide) (fun a12 c13 => qcq (rin := rN30) (i := 0) ([([1, 2, 3, 5] : List Int), ([1, 2, 3, 5] : List Int), ([0, 1, 2, 3, 5] : List Int), ([] : List Int), ([4] : List Int), ([1, 2, 3] : List Int)] : List (List Int)) ([(a2, c3), (a4, c5), (a6, c7), (none, 0), (a8, c9), (a10, c11)] : List (Option Addr × Nat)) rfl rfl (.cons 5 rfl (.cons 4 rfl (.cons 3 rfl (.cons 0 rfl (.cons 1 rfl (.cons 0 rfl .nil)))))) (qF (cells := [.slice a12 ([([1, 2, 3, 5] : List Int), ([1, 2, 3, 5] : List Int), ([0, 1, 2, 3, 5] : List Int), ([] : List Int), ([4] : List Int), ([1, 2, 3] : List Int)] : List (List Int)).length c13]) rfl st24 rfl (by kernel_rfl) rfl ?_))
 refine au [24,4,0,1,9] ?_
 exact za (a12, (c13, ([(a2, c3), (a4, c5), (a6, c7), (none, 0), (a8, c9), (a10, c11)] : List (Option Addr × Nat)))) (resL (rs := [.cell 0 24]) rfl (.cell (i := 0) rfl tf24 rfl rfl (by simp) rfl ResOk.nil) rfl) (fun h => by subst h; exact (.cons 0 rfl .nil))
set_option maxHeartbeats 4000000 in
theorem qfs {F : Nat} {x1 : Int} {x2 : List Int} {a3 : Option Addr} {c4 : Nat} {r : Int} (hm : qai F x1 x2 = some r) :
    Pure Tryz.prog 22 [.agg #[.int .i64 x1, .slice a3 x2.length c4]] [Sl (eI .u8) 1 (.slice a3 x2.length c4) x2] Unit (fun _ => .int .i64 r) (fun _ => []) (fun _ => []) := by
 refine qh Tryz.func22 rfl Tryz.ntmps22 rfl hm (fun w => ?_)
 refine au [25,2,2,4,24,2] ?_
 intro g5
 refine au [5,0,1,2,14,2,4,13,21,24,0,3] ?_
 refine qR 4 (decide (x1 < 0)) [(1, .pointer (some ⟨g5, 0, none⟩)), (11, .bool ((decide (x1 < 0)) || (decide (8192 < x1))))] (fun h27 => ?_) (fun h27 => ?_) ?_
 refine qc (os := _) rfl (qI (k := 7) rfl h27 ?_)
 refine au [8,8,8,24,7] ?_
 refine qd (d := 11) (v := .bool ((decide (x1 < 0)) || (decide (8192 < x1)))) rfl (by rw [h27]; simp only [Bool.true_or]) ?_
 exact az [0,24,1]
 refine qc (os := _) rfl (qH (k := 7) rfl h27 ?_)
 refine au [13,21,24,11,24,8] ?_
 refine qd (d := 11) (v := .bool ((decide (x1 < 0)) || (decide (8192 < x1)))) rfl (by rw [h27]; simp only [Bool.false_or]) ?_
 exact az [0,24,1]
 refine qc (os := _) rfl ?_
 refine av [5,0,1,10] ?_ ?_
 intro _
 exact az [2,4,5,0,1,9,22,11,15]
 intro _
 refine av [2,4,13,21,23,13,21,16,28,1,25,7,5,0,1,10] ?_ ?_
 intro _
 exact az [2,4,5,0,1,9,22,11,15]
 intro _
 refine qf (fun ((x36, _) : (Bool × Unit)) => ([(21, .bool x36)], [], [], [], yX F x36)) ?_ ?_
 refine av [26,7] ?_ ?_
 intro h38
 refine au [31,10] ?_
 intro x39 e39 b40 o41 h42
 replace h42 : a3 = some ⟨b40, o41, none⟩ := h42
 refine au [27,5] ?_
 intro h43
 refine qr mixed [] [⟨g5, 33, [.int .i64 x1, .slice a3 x2.length c4]⟩] [qs b40 (o41 + (isub .i64 (x2.length : Int) 1).toNat * 1) ((eI .u8) x39), Sl (eI .u8) 1 (.slice a3 x2.length c4) x2] (.cons 0 rfl .nil) (qy 0 rfl (qy 1 rfl qn)) 20 rfl ?_
 refine au [19,0,25,4,1] ?_
 refine qj 2 (.int .i64 (irem x1 8)) rfl rfl rfl (qgi rfl rfl rfl) ?_
 refine au [6,3,6,4] ?_
 refine qe (d := 26) (v := .bool true) rfl (by rw [h38] <;> rfl) ?_
 refine au [19,5,25,4,6,19,7,25,4,8,26,8,9,6,10] ?_
 refine qe (d := 28) (v := .slice (some ⟨b40, o41, none⟩) x2.length c4) rfl (by rw [h42] <;> rfl) (qj 11 (.pointer (some ⟨b40, (o41 + (isub .i64 (x2.length : Int) 1).toNat * 1), none⟩)) rfl rfl rfl (v6 Tryz.underlying31 tf5 rfl rfl (qN e39).1 (yT e39)) (qe (d := 28) (v := .slice a3 x2.length c4) rfl (by rw [h42] <;> rfl) (qU 12 (.int .u8 x39) [] rfl rfl rfl (kp (j := 0) rfl tf5 rfl rfl (fun _ => rfl) rfl) ?_)))
 refine au [19,13,25,4,14] ?_
 refine qj 15 (.int .i64 (irem x1 8)) rfl rfl rfl (qgi rfl rfl rfl) (qj 16 (.int .u8 (ishl .u8 x39 (irem x1 8))) rfl rfl rfl (qdo rfl rfl h43) ?_)
 refine au [6,17,6,18,6,19,24,3] ?_
 exact qv (qa ((((ishl .u8 x39 (irem x1 8)) : Int) != 0), ())) (by intro c h; cases h)
 intro h38
 refine qr mixed [] [⟨g5, 33, [.int .i64 x1, .slice a3 x2.length c4]⟩] [Sl (eI .u8) 1 (.slice a3 x2.length c4) x2] (.cons 0 rfl .nil) (qy 0 rfl qn) 20 rfl ?_
 refine au [19,0,25,4,1] ?_
 refine qj 2 (.int .i64 (irem x1 8)) rfl rfl rfl (qgi rfl rfl rfl) ?_
 refine au [6,3,6,4] ?_
 refine qe (d := 26) (v := .bool false) rfl (by rw [h38] <;> rfl) ?_
 refine au [7,5,7,6,7,7,7,8,7,9,7,10,7,11,7,12,7,13,7,14,7,15,7,16,7,17,6,18,6,19,24,3] ?_
 exact qv (qa (false, ())) (by intro c h; cases h)
 rintro ⟨x36, _⟩
 try dsimp only
 refine av [10] ?_ ?_
 intro _
 exact az [2,4,5,0,1,9,22,11,15]
 intro _
 exact az [12,24,5,1,2,4,5,0,1,9,15]
set_option maxHeartbeats 4000000 in
theorem qfv {F : Nat} {x1 : Int} {x2 : Int} {x3 : Int} {x4 : Int} {x5 : Int} {x6 : List Int} {a7 : Option Addr} {c8 : Nat} {r : Int} (hm : qak F x1 x2 x3 x4 x5 x6 = some r) :
    Pure Tryz.prog 15 [.agg #[.int .i64 x1, .int .i64 x2, .int .i64 x3, .int .i64 x4, .int .i64 x5, .slice a7 x6.length c8]] [Sl (eI .u8) 1 (.slice a7 x6.length c8) x6] Unit (fun _ => .int .i64 r) (fun _ => []) (fun _ => []) := by
 refine qh Tryz.func15 rfl Tryz.ntmps15 rfl hm (fun w => ?_)
 refine au [25,2,2,4,24,2] ?_
 intro g9
 refine au [5,0,1,2,2,4,13,21,24,0,3] ?_
 refine qR 4 (decide (x1 < 0)) [(1, .pointer (some ⟨g9, 0, none⟩)), (11, .bool ((decide (x1 < 0)) || (decide (100 < x1))))] (fun h12 => ?_) (fun h12 => ?_) ?_
 refine qc (os := _) rfl (qI (k := 7) rfl h12 ?_)
 refine au [8,8,8,24,7] ?_
 refine qd (d := 11) (v := .bool ((decide (x1 < 0)) || (decide (100 < x1)))) rfl (by rw [h12]; simp only [Bool.true_or]) ?_
 exact az [0,24,1]
 refine qc (os := _) rfl (qH (k := 7) rfl h12 ?_)
 refine au [13,21,24,11,24,8] ?_
 refine qd (d := 11) (v := .bool ((decide (x1 < 0)) || (decide (100 < x1)))) rfl (by rw [h12]; simp only [Bool.false_or]) ?_
 exact az [0,24,1]
 refine qc (os := _) rfl ?_
 refine av [0,1,10] ?_ ?_
 intro _
 exact az [2,4,5,0,1,9,11,15]
 intro _
 refine au [12,1,2,2,4,13,24,15,29,7] ?_
 intro x15 e15 _
 refine av [5,0,1,2,4,3,25,7,0,1,10] ?_ ?_
 intro _
 exact az [2,4,3,5,0,1,9,11,15]
 intro _
 refine au [12,1,2,4,13,24,15] ?_
 refine qg qfs ?_
 intro x16 e16 _
 exact az [5,0,1,9,15]
set_option maxHeartbeats 4000000 in
theorem qfD {F : Nat} {x1 : Int} {x2 : List Int} {a3 : Option Addr} {c4 : Nat} {x5 : Int} {r : (Int × Int × Bool)} (hm : jF F x1 x2 x5 = some r) :
    Pure Tryz.prog 46 [.agg #[.int .i64 x1, .slice a3 x2.length c4], .int .i64 x5] [Sl (eI .u8) 1 (.slice a3 x2.length c4) x2] Unit (fun _ => .tuple #[.int .u64 r.1, .int .i64 r.2.1, .bool r.2.2]) (fun _ => []) (fun _ => []) := by
 refine qh Tryz.func46 rfl Tryz.ntmps46 rfl hm (fun w => ?_)
 refine au [24,12,2,4,24,2] ?_
 intro g6
 refine au [5,5,5,0,1] ?_
 refine qf (fun ((_, _) : (Unit × Unit)) => ([], [], [], [], qbA F)) ?_ ?_
 refine au [2,4,3,5,0,1,14] ?_
 refine qo (fun ((x33, _) : (Int × Unit)) => ([(1, .int .i64 x5), (2, .pointer (some ⟨g6, 0, none⟩)), (7, .int .i64 x33)], [⟨g6, 33, [.int .i64 x1, .slice a3 x2.length c4]⟩], [], [Sl (eI .u8) 1 (.slice a3 x2.length c4) x2])) (fun k (s : (Int × Unit)) => ya F x1 x2 x5 k s.1) (x5, ()) F ?_
 intro k40
 rintro ⟨x33, _⟩
 try dsimp only
 refine qB (m' := jp F x1 x2 x5 (ya F x1 x2 x5 k40) x33) rfl ?_
 refine av [2,2,4,3,13,21,24,0,0,1,10] ?_ ?_
 intro _
 refine au [12,1,2,14,2,4,24,15,3,27,12] ?_
 intro x44 e44 _
 refine av [25,5,0,1,10] ?_ ?_
 intro _
 exact az [2,4,3,3,24,13,25,1,3,16,5,5,5,0,1,9,22,11,11,22,11,15]
 intro _
 refine au [12,24,5,1,4,3,16,5,0] ?_
 exact qi (iadd .i64 x33 1, ())
 intro _
 exact az [24,9,18,18,24,10,25,14]
 rintro ⟨_, _⟩
 try dsimp only
 exact az [2,4,5,5,5,0,1,9,15]
theorem qb2 (F : Nat) (x1 : Int) (x2 : List Int) (a3 : Option Addr) (c4 : Nat) (x5 : Int) (r : (Int × Int × Int)) (hm : vX F x1 x2 x5 = some r) :
    Pure Tryz.prog 34 [.agg #[.int .i64 x1, .slice a3 x2.length c4], .int .i64 x5] [Sl (eI .u8) 1 (.slice a3 x2.length c4) x2] Unit (fun _ => .tuple #[.int .u64 r.1, .int .i64 r.2.1, .int .i64 r.2.2]) (fun _ => []) (fun _ => []) := by
 refine qh Tryz.func34 rfl Tryz.ntmps34 rfl hm (fun w => ?_)
 refine au [24,12,2,4,24,2] ?_
 intro g6
 refine au [5,5,5,0,1,2,4,24,15,3,31,11] ?_
 intro x7 e7 _
 refine av [3,17,17,17,5,5,5,0,1,2,2,4,3,25,3,0,1,10] ?_ ?_
 intro _
 exact az [2,4,5,5,5,0,1,9,11,15]
 intro _
 exact az [12,1,2,4,3,3,5,5,5,0,1,9,15]
set_option maxHeartbeats 4000000 in
theorem qgl {F : Nat} {x1 : Int} {x2 : List Int} {a3 : Option Addr} {c4 : Nat} {x5 : Int} {x6 : Int} {r : (Int × Bool)} (hm : yH F x1 x2 x5 x6 = some r) :
    Pure Tryz.prog 47 [.agg #[.int .i64 x1, .slice a3 x2.length c4], .int .i64 x5, .int .i64 x6] [Sl (eI .u8) 1 (.slice a3 x2.length c4) x2] Unit (fun _ => .tuple #[.int .u64 r.1, .bool r.2]) (fun _ => []) (fun _ => []) := by
 refine qh Tryz.func47 rfl Tryz.ntmps47 rfl hm (fun w => ?_)
 refine au [25,12,2,4,24,2] ?_
 intro g7
 refine av [5,5,0,1,2,2,4,13,21,3,24,13,3,24,0,0,1,10] ?_ ?_
 intro _
 exact az [2,4,5,5,0,1,9,11,15]
 intro _
 refine au [12,1] ?_
 refine qf (fun ((x24, _) : (Int × Unit)) => ([(6, .int .u64 x24)], [], [], [], qau F x24)) ?_ ?_
 refine au [2,4,3,3,0,1,14] ?_
 refine qo (fun (((x29, x30), _) : ((Int × Int) × Unit)) => ([(1, .int .i64 x5), (3, .pointer (some ⟨g7, 0, none⟩)), (6, .int .u64 x29), (15, .int .i64 x6), (16, .int .i64 x30)], [⟨g7, 33, [.int .i64 x1, .slice a3 x2.length c4]⟩], [], [Sl (eI .u8) 1 (.slice a3 x2.length c4) x2])) (fun k (s : ((Int × Int) × Unit)) => yw F x1 x2 x5 x6 k s.1) ((0, 0), ()) F ?_
 intro k35
 rintro ⟨⟨x29, x30⟩, _⟩
 try dsimp only
 refine qB (m' := jw F x1 x2 x5 x6 (yw F x1 x2 x5 x6 k35) x29 x30) rfl ?_
 refine av [2,4,24,0,0,1,2,10] ?_ ?_
 intro _
 refine au [12,1,2,14,2,4,3,5,0,1,4,3,31,0,24,15,3,3,16,27,12] ?_
 intro x38 e38 _
 refine qnx rfl rfl rfl rfl ?_
 refine au [5,0,24,5,1,4,16,3,0] ?_
 exact qi ((ior .u64 (ishl .u64 x29 1) x38, iadd .i64 x30 1), ())
 intro _
 refine au [24,9,18,18,24,10] ?_
 exact qa (x29, ())
 rintro ⟨x24, _⟩
 try dsimp only
 exact az [2,4,3,5,5,0,1,9,15]
set_option maxHeartbeats 4000000 in
theorem vH {F : Nat} {x1 : Int} {x2 : List Int} {a3 : Option Addr} {c4 : Nat} {x5 : Int} {r : (Int × Int × Int)} (hm : zg F x1 x2 x5 = some r) :
    Pure Tryz.prog 35 [.func (.func 34) #[] #[], .agg #[.int .i64 x1, .slice a3 x2.length c4], .int .i64 x5] [Sl (eI .u8) 1 (.slice a3 x2.length c4) x2] Unit (fun _ => .tuple #[.int .u64 r.1, .int .i64 r.2.1, .int .i64 r.2.2]) (fun _ => []) (fun _ => []) := by
 refine qh Tryz.func35 rfl Tryz.ntmps35 rfl hm (fun w => ?_)
 refine au [25,12,2,4,24,2] ?_
 intro g6
 refine au [5,5,5,0,1,2,4,3,24,15,3] ?_
 refine qjs ent34 rfl rfl rfl rfl (fun x7 e7 => qb2 F x1 x2 a3 c4 x5 x7 e7) (.consF 0 rfl .nil) (fun x7 e7 _ => ?_)
 refine av [3,17,17,17,5,5,5,0,1,2,2,4,3,25,7,0,1,10] ?_ ?_
 intro _
 exact az [2,4,3,5,5,5,0,1,9,11,15]
 intro _
 refine av [12,1,2,2,4,3,25,13,0,1,10] ?_ ?_
 intro _
 exact az [2,4,5,5,5,0,1,9,11,15]
 intro _
 refine au [12,1,2,4,24,15,3,3,25,1,29,8] ?_
 intro x10 e10 _
 refine av [3,17,17,5,5,0,1,2,2,4,3,25,3,0,1,10] ?_ ?_
 intro _
 exact az [2,4,5,5,5,0,1,9,11,15]
 intro _
 refine au [12,1,2,2,4,3,3,26,6] ?_
 intro h15
 refine qdF rfl rfl rfl rfl h15 ?_
 refine au [24,13,16,5,26,1] ?_
 intro x16 e16
 refine qd (d := 12) (v := .int .u64 x16) rfl (by rw [e16] <;> rfl) ?_
 refine av [0,1,2,4,3,24,11,0,1,10] ?_ ?_
 intro _
 exact az [2,4,5,5,5,0,1,9,11,15]
 intro _
 exact az [12,1,2,4,3,3,3,25,1,16,5,5,5,0,1,9,15]
theorem qcu {F : Nat} {x1 : Int} {x2 : List Int} {a3 : Option Addr} {c4 : Nat} {x5 : Int} {r : (Int × Int × Int)} (hm : yg F x1 x2 x5 = some r) :
    Pure Tryz.prog 28 [.agg #[.int .i64 x1, .slice a3 x2.length c4], .int .i64 x5] [Sl (eI .u8) 1 (.slice a3 x2.length c4) x2] Unit (fun _ => .tuple #[.int .u64 r.1, .int .i64 r.2.1, .int .i64 r.2.2]) (fun _ => []) (fun _ => []) := by
 refine qh Tryz.func28 rfl Tryz.ntmps28 rfl hm (fun w => ?_)
 refine au [24,12,2,4,24,2] ?_
 intro g6
 refine au [5,5,5,0,1,2,4,24,15,3] ?_
 refine qg vH ?_
 intro x7 e7 _
 exact az [17,17,17,5,5,5,0,1,9,15]
set_option maxHeartbeats 4000000 in
theorem qhl {F : Nat} {x1 : Int} {x2 : Int} {x3 : Int} {x4 : Int} {x5 : Int} {x6 : List Int} {a7 : Option Addr} {c8 : Nat} {x9 : Int} {x10 : Int} {r : (Int × Int × Bool)} (hm : qbg F x1 x2 x3 x4 x5 x6 x9 x10 = some r) :
    Pure Tryz.prog 23 [.agg #[.int .i64 x1, .int .i64 x2, .int .i64 x3, .int .i64 x4, .int .i64 x5, .slice a7 x6.length c8], .int .i64 x9, .int .i64 x10] [Sl (eI .u8) 1 (.slice a7 x6.length c8) x6] Unit (fun _ => .tuple #[.int .i64 r.1, .int .i64 r.2.1, .bool r.2.2]) (fun _ => []) (fun _ => []) := by
 refine qh Tryz.func23 rfl Tryz.ntmps23 rfl hm (fun w => ?_)
 refine au [25,12,2,4,24,2] ?_
 intro g11
 refine av [5,5,5,0,1,2,2,4,13,13,21,25,5,0,1,10] ?_ ?_
 intro _
 exact az [2,4,3,5,5,5,0,1,9,11,15]
 intro _
 refine au [12,1,2,4,13,24,15,3,31,12] ?_
 intro x13 e13 _
 refine au [3,17,17,17,5,5,5,0,1,2,2,4,3,25,7,3] ?_
 refine vj 9 (fun ((x18, _) : (Bool × Unit)) => ([(7, .int .i64 x13.2.1), (9, .int .u64 x13.1), (35, .bool x18)], [], [], [], j4 F x13 x18)) ?_ ?_
 refine qc (os := _) rfl ?_
 refine av [26,3] ?_ ?_
 intro h17
 refine qI (k := 26) rfl h17 ?_
 refine au [8,8,8,8,8,8,8,8,24,7,0] ?_
 exact qa (true, ())
 intro h17
 refine qH (k := 26) rfl h17 ?_
 refine au [3,13,13,21,3,27,7,25,1,24,11,24,8,0] ?_
 exact qa ((decide ((iconv .u64 (imin x2 x10)) < x13.1)), ())
 rintro ⟨x18, _⟩
 try dsimp only
 refine qc (os := _) rfl ?_
 refine av [0,1,10] ?_ ?_
 intro _
 exact az [2,4,5,5,5,0,1,9,11,15]
 intro _
 exact az [12,1,2,4,3,25,1,3,5,5,5,0,1,9,15]
theorem yF (F : Nat) (x1 : Bool) (r : (Unit ⊕ Unit)) (hm : zV F x1 = some r) :
    PureL Tryz.prog 38 [.bool x1] [] [] [] lostCh Unit (fun (_ : Unit) (_ : Unit) => .tuple #[]) (fun (_ : Unit) (_ : Unit) => []) (fun (_ : Unit) (_ : Unit) => []) (fun (_ : Unit) => []) r := by
 refine qbM Tryz.func38 rfl Tryz.ntmps38 rfl hm (fun w => ?_)
 refine av [25,2,2,4,3,25,3,0,1,10] ?_ ?_
 intro _
 refine au [4] ?_
 exact qF (cells := []) rfl inferInstance rfl (by kernel_rfl) rfl (qjw rfl rfl (mkif88 _) rfl (qjz rfl rfl (qfm .nil)))
 intro _
 refine au [12] ?_
 exact jS () (.inr rfl) (res0 rfl) rfl .nil .nil
theorem zT (F : Nat) (g1 : Nat) (x2 : Int) (x3 : List Int) (a4 : Option Addr) (c5 : Nat) (x6 : Int) (x7 : Int) (r : ((Int × Int × Int) ⊕ (Int × Int))) (hm : q3 F x2 x3 x6 x7 = some r) :
    PureL Tryz.prog 48 [.pointer (some ⟨g1, 0, none⟩), .int .i64 x7] [⟨g1, 75, [.int .i64 x2, .slice a4 x3.length c5, .int .i64 x6]⟩] [] [Sl (eI .u8) 1 (.slice a4 x3.length c5) x3] lostCh Unit (fun (r : (Int × Int × Int)) (_ : Unit) => .int .i64 r.1) (fun (r : (Int × Int × Int)) (_ : Unit) => [⟨g1, 75, [.int .i64 r.2.1, .slice a4 x3.length c5, .int .i64 r.2.2]⟩]) (fun (_ : (Int × Int × Int)) (_ : Unit) => []) (fun (z : (Int × Int)) => [⟨g1, 75, [.int .i64 z.1, .slice a4 x3.length c5, .int .i64 z.2]⟩]) r := by
 refine qbM Tryz.func48 rfl Tryz.ntmps48 rfl hm (fun w => ?_)
 refine au [24,12,2,4,5,0,1,2] ?_
 refine qr mixed [] [⟨g1, 75, [.int .i64 x2, .slice a4 x3.length c5, .int .i64 x6]⟩] [Sl (eI .u8) 1 (.slice a4 x3.length c5) x3] (.cons 0 rfl .nil) (qy 0 rfl qn) 16 rfl ?_
 refine au [6,0,6,1,19,2] ?_
 refine kA 3 (.agg #[.int .i64 x2, .slice a4 x3.length c5]) rfl rfl rfl (zd (i := 0) rfl tf33 rfl rfl (by simp) rfl) ?_
 refine au [6,4,6,5,19,6,25,4,7,20,8,31,12] ?_
 intro x9 e9 _
 refine au [0,28,9,6,9,6,10,6,11,6,12,6,13,6,14,6,15,24,3] ?_
 refine qv ?_ (by intro c h; cases h)
 refine au [1,2,4,3,25,5,3] ?_
 refine qR 5 ((x9.2.2 : Int) == 0) [(0, .pointer (some ⟨g1, 0, none⟩)), (5, .int .u64 x9.1), (6, .int .i64 x9.2.1), (28, .bool (((x9.2.2 : Int) == 0) && (decide (x9.1 ≤ (iconv .u64 x7)))))] (fun h10 => ?_) (fun h10 => ?_) ?_
 refine qc (os := _) rfl (qI (k := 23) rfl h10 ?_)
 refine au [3,3,25,1,26,11,24,7] ?_
 refine qd (d := 28) (v := .bool (((x9.2.2 : Int) == 0) && (decide (x9.1 ≤ (iconv .u64 x7))))) rfl (by rw [h10]; simp only [Bool.true_and]) ?_
 exact az [0,24,1]
 refine qc (os := _) rfl (qH (k := 23) rfl h10 ?_)
 refine au [8,8,8,8,24,8] ?_
 refine qd (d := 28) (v := .bool (((x9.2.2 : Int) == 0) && (decide (x9.1 ≤ (iconv .u64 x7))))) rfl (by rw [h10]; simp only [Bool.false_and]) ?_
 exact az [0,24,1]
 refine qc (os := _) rfl (zF ent38 rfl rfl rfl (fun x11 e11 => yF F (((x9.2.2 : Int) == 0) && (decide (x9.1 ≤ (iconv .u64 x7)))) x11 e11) .nil .nil .nil (fun x12 _ => ?_) (fun x11 e11 => ?_))
 exact az [25,0,26,0]
 intro _
 refine au [0,1,2,4,3,3,24,14,13,24,4,0,1,2,4,3,25,1,5,0,1,9] ?_
 exact jS () (.inl rfl) (res1 rfl rfl) rfl (.cons 0 rfl .nil) .nil
set_option maxHeartbeats 4000000 in
theorem qeF {F : Nat} {x1 : List Int} {a2 : Option Addr} {c3 : Nat} {x4 : Int} {r : Int} (hm : j5 F x1 x4 = some r) :
    Pure Tryz.prog 70 [.slice a2 x1.length c3, .int .i64 x4] [Sl (eI .i64) 1 (.slice a2 x1.length c3) x1] Unit (fun _ => .int .i64 r) (fun _ => []) (fun _ => []) := by
 refine qh Tryz.func70 rfl Tryz.ntmps70 rfl hm (fun w => ?_)
 refine av [24,12,2,4,5,0,1,2,2,4,3,23,3,16,24,11,0,1,10] ?_ ?_
 intro _
 exact az [2,4,5,0,1,9,11,15]
 intro _
 refine au [12,1,2,4,5,0,1] ?_
 refine qf (fun ((x99, _) : (Int × Unit)) => ([(1, .int .i64 x4), (5, .int .i64 x99)], [], [], [], jD F x4 x99)) ?_ ?_
 refine au [2,4,3,23,3,0,1,14] ?_
 refine qo (fun (((x132, x133), _) : ((Int × Int) × Unit)) => ([(1, .int .i64 x4), (5, .int .i64 x132), (13, .slice a2 x1.length c3), (14, .int .i64 (x1.length : Int)), (15, .int .i64 x133)], [], [], [Sl (eI .i64) 1 (.slice a2 x1.length c3) x1])) (fun k (s : ((Int × Int) × Unit)) => zK F x1 x4 k s.1) ((0, 0), ()) F ?_
 intro k164
 rintro ⟨⟨x132, x133⟩, _⟩
 try dsimp only
 refine qB (m' := vt F x1 x4 (zK F x1 x4 k164) x132 x133) rfl ?_
 refine av [2,4,24,0,0,1,2,10] ?_ ?_
 intro _
 refine au [12,1,2,14,2,4,3,26,4] ?_
 intro x180 e180 b181 o182
 refine au [25,9,5,5,0,1,2,2,4,3,24,0,3] ?_
 refine vj 7 (fun ((x190, _) : (Bool × Unit)) => ([(1, .int .i64 x4), (5, .int .i64 x132), (7, .int .i64 x180), (13, .slice a2 x1.length c3), (14, .int .i64 (x1.length : Int)), (15, .int .i64 x133), (29, .bool x190)], [], [], [Sl (eI .i64) 1 (.slice a2 x1.length c3) x1], vu F (zK F x1 x4 k164) x4 x132 x133 x180 x190)) ?_ ?_
 refine qc (os := _) rfl ?_
 refine av [26,3] ?_ ?_
 intro h188
 refine qI (k := 22) rfl h188 ?_
 refine au [8,8,8,8,8,8,24,7,0] ?_
 exact qa (true, ())
 intro h188
 refine qH (k := 22) rfl h188 ?_
 refine au [3,24,0,3] ?_
 refine qR 3 (decide (x180 < 1)) [(1, .int .i64 x4), (5, .int .i64 x132), (13, .slice a2 x1.length c3), (14, .int .i64 (x1.length : Int)), (15, .int .i64 x133), (7, .int .i64 x180), (22, .bool false), (23, .int .i64 x180), (24, .bool (decide (x180 < 1))), (25, .bool (decide (x180 < 1))), (28, .bool ((decide (x180 < 1)) && (decide (0 < x133))))] (fun h193 => ?_) (fun h193 => ?_) ?_
 refine qc (os := _) rfl (qI (k := 25) rfl h193 ?_)
 refine au [3,24,11,24,7] ?_
 refine qd (d := 28) (v := .bool ((decide (x180 < 1)) && (decide (0 < x133)))) rfl (by rw [h193]; simp only [Bool.true_and]) (qd (d := 25) (v := .bool (decide (x180 < 1))) rfl (by rw [h193] <;> rfl) ?_)
 exact az [0,24,1]
 refine qc (os := _) rfl (qH (k := 25) rfl h193 ?_)
 refine au [8,8,24,8] ?_
 refine qd (d := 28) (v := .bool ((decide (x180 < 1)) && (decide (0 < x133)))) rfl (by rw [h193]; simp only [Bool.false_and]) (qd (d := 25) (v := .bool (decide (x180 < 1))) rfl (by rw [h193] <;> rfl) ?_)
 exact az [0,24,1]
 refine qc (os := _) rfl ?_
 refine au [24,8,0] ?_
 exact qa (((decide (x180 < 1)) && (decide (0 < x133))), ())
 rintro ⟨x190, _⟩
 try dsimp only
 refine qc (os := _) rfl ?_
 refine av [0,1,10] ?_ ?_
 intro _
 exact az [2,4,5,0,1,9,11,22,11,11,22,11,15]
 intro _
 refine au [12,1,4,3,3,3,16,27,7,16,3,16,27,7,5,26,1] ?_
 intro x191 e191
 refine qd (d := 5) (v := .int .i64 x191) rfl (by rw [e191] <;> rfl) ?_
 refine au [0,24,5,1,4,16,3,0] ?_
 exact qi ((x191, iadd .i64 x133 1), ())
 intro _
 refine au [24,9,18,18,24,10] ?_
 exact qa (x132, ())
 rintro ⟨x99, _⟩
 try dsimp only
 refine av [2,2,4,3,3,24,11,0,1,10] ?_ ?_
 intro _
 exact az [2,4,5,0,1,9,11,15]
 intro _
 exact az [12,1,2,4,5,0,1,9,15]
set_option maxHeartbeats 4000000 in
theorem qdP {F : Nat} {x1 : List Int} {a2 : Option Addr} {c3 : Nat} {x4 : List Int} {a5 : Option Addr} {c6 : Nat} {r : List Int} (hm : qaB F x1 x4 = some r) :
    Pure Tryz.prog 71 [.slice a2 x1.length c3, .slice a5 x4.length c6] [Sl (eI .i64) 1 (.slice a2 x1.length c3) x1, Sl (eI .i64) 1 (.slice a5 x4.length c6) x4] (Option Addr × Nat) (fun g => .slice g.1 r.length g.2) (fun g => [Ro (eI .i64) 3 1 (.slice g.1 r.length g.2) r]) (fun _ => []) := by
 refine qh Tryz.func71 rfl Tryz.ntmps71 rfl hm (fun w => ?_)
 refine au [24,12,2,4,5,0,1,2,4,5,0,1,2,4,5,0,1] ?_
 refine qf (fun (((x158, x161, x162), (a156, c157, a159, c160)) : ((List Int × List Int × Bool) × (Option Addr × Nat × Option Addr × Nat))) => ([(0, .slice a156 x158.length c157), (5, .slice a159 x161.length c160), (6, .bool x162)], [], [Ro (eI .i64) 3 1 (.slice a159 x161.length c160) x161], [Sl (eI .i64) 1 (.slice a156 x158.length c157) x158], jE F x158 x161 x162)) ?_ ?_
 refine au [2,4,3,23,3,0,1,14,26,12] ?_
 refine qo (fun (((x217, x220, x221, x222), (a215, c216, a218, c219)) : ((List Int × List Int × Bool × Int) × (Option Addr × Nat × Option Addr × Nat))) => ([(0, .slice a215 x217.length c216), (5, .slice a218 x220.length c219), (6, .bool x221), (9, .slice a5 x4.length c6), (10, .int .i64 (x4.length : Int)), (11, .int .i64 x222)], [], [Ro (eI .i64) 3 1 (.slice a218 x220.length c219) x220], [Sl (eI .i64) 1 (.slice a215 x217.length c216) x217, Sl (eI .i64) 1 (.slice a5 x4.length c6) x4])) (fun k (s : ((List Int × List Int × Bool × Int) × (Option Addr × Nat × Option Addr × Nat))) => zD F x4 k s.1) ((x1, ([] : List Int), true, 0), (a2, c3, none, 0)) F ?_
 intro k271
 rintro ⟨⟨x217, x220, x221, x222⟩, ⟨a215, c216, a218, c219⟩⟩
 try dsimp only
 refine qB (m' := yN F x4 (zD F x4 k271) x217 x220 x221 x222) rfl ?_
 refine av [2,4,24,0,0,1,2,10] ?_ ?_
 intro _
 refine au [12,1,2,14,2,4,28,5] ?_
 intro x296 e296 b297 o298
 refine au [25,9,5,0,1] ?_
 refine qf (fun ((x308, (a306, c307)) : (List Int × (Option Addr × Nat))) => ([(0, .slice a215 x217.length c216), (5, .slice a306 x308.length c307), (6, .bool x221), (8, .int .i64 x296), (9, .slice a5 x4.length c6), (10, .int .i64 (x4.length : Int)), (11, .int .i64 x222)], [], [Ro (eI .i64) 3 1 (.slice a306 x308.length c307) x308], [Sl (eI .i64) 1 (.slice a215 x217.length c216) x217, Sl (eI .i64) 1 (.slice a5 x4.length c6) x4], yO F (zD F x4 k271) x217 x221 x222 x296 x308)) ?_ ?_
 refine av [2,4,3,0,1,10] ?_ ?_
 intro _
 refine au [4,3,3,3] ?_
 refine qiV (j := 1) (qz .i64) rfl UnF.u inferInstance rfl rfl rfl rfl rfl ?_
 intro x312 e312 a313 c314
 refine au [29,9] ?_
 intro x315 e315 a316 c317
 refine au [5,0] ?_
 exact qa (x315, (a316, c317))
 intro _
 refine au [12] ?_
 exact qa (x220, (a218, c219))
 rintro ⟨x308, ⟨a306, c307⟩⟩
 try dsimp only
 refine au [4,3,3] ?_
 refine qiV (j := 0) (qz .i64) rfl UnF.u inferInstance rfl rfl rfl rfl rfl ?_
 intro x309 e309 a310 c311
 refine au [3,25,3,5,5,0,24,5,1,4,16,3,0] ?_
 exact qi ((x309, x308, (!x221), iadd .i64 x222 1), (a310, c311, a306, c307))
 intro _
 refine au [24,9,18,18,24,10] ?_
 exact qa ((x217, x220, x221), (a215, c216, a218, c219))
 rintro ⟨⟨x158, x161, x162⟩, ⟨a156, c157, a159, c160⟩⟩
 try dsimp only
 refine qf (fun ((x169, (a167, c168)) : (List Int × (Option Addr × Nat))) => ([(5, .slice a167 x169.length c168)], [], [Ro (eI .i64) 3 1 (.slice a167 x169.length c168) x169], [], vv F x169)) ?_ ?_
 refine av [2,4,3,0,1,10] ?_ ?_
 intro _
 refine au [4,3,3,29,9] ?_
 intro x170 e170 a171 c172
 refine au [5,0] ?_
 exact qa (x170, (a171, c172))
 intro _
 refine au [12] ?_
 exact qa (x161, (a159, c160))
 rintro ⟨x169, ⟨a167, c168⟩⟩
 try dsimp only
 refine au [2,4,3,5,0,1,9] ?_
 exact qt (a167, c168)
set_option maxHeartbeats 4000000 in
theorem qfy {F : Nat} {x1 : List Int} {a2 : Option Addr} {c3 : Nat} {x4 : List Int} {a5 : Option Addr} {c6 : Nat} {r : (List Int × Int)} (hm : qal F x1 x4 = some r) :
    Pure Tryz.prog 49 [.slice a2 x1.length c3, .slice a5 x4.length c6] [Sl (eI .i64) 1 (.slice a2 x1.length c3) x1, Sl (eI .i64) 1 (.slice a5 x4.length c6) x4] (Option Addr × Nat) (fun g => .tuple #[.slice g.1 r.1.length g.2, .int .i64 r.2]) (fun g => [Ro (eI .i64) 3 1 (.slice g.1 r.1.length g.2) r.1]) (fun _ => []) := by
 refine qh Tryz.func49 rfl Tryz.ntmps49 rfl hm (fun w => ?_)
 refine au [24,12,2,4,5,5,0,1,2,4,3,27,14] ?_
 intro x7 e7 _
 refine au [5,0,1] ?_
 refine qf (fun ((x10, _) : (Int × Unit)) => ([(0, .slice a2 x1.length c3), (1, .slice a5 x4.length c6), (6, .int .i64 x10)], [], [], [Sl (eI .i64) 1 (.slice a2 x1.length c3) x1, Sl (eI .i64) 1 (.slice a5 x4.length c6) x4], yZ F x1 x4 x10)) ?_ ?_
 refine av [2,4,3,25,5,0,1,10] ?_ ?_
 intro _
 refine au [4,3,3,23] ?_
 refine qg qeF ?_
 intro x16 e16 _
 refine au [5,0] ?_
 exact qa (x16, ())
 intro _
 refine au [12] ?_
 exact qa (x7, ())
 rintro ⟨x10, _⟩
 try dsimp only
 refine av [2,2,4,3,25,7,0,1,10] ?_ ?_
 intro _
 refine au [2,4,3,5,5,0,1,9,11,25,8] ?_
 exact qt (none, 0)
 intro _
 refine au [12,1,2,4,3,3] ?_
 refine qg qdP ?_
 rintro x12 e12 ⟨a13, c14⟩
 refine au [5,5,0,1,9] ?_
 exact qt (a13, c14)
set_option maxHeartbeats 4000000 in
theorem qbE (F : Nat) (g1 : Nat) (x2 : Int) (x3 : List Int) (a4 : Option Addr) (c5 : Nat) (x6 : Int) (x7 : Int) (r : ((List Int × Int × Int) ⊕ (Int × Int))) (hm : yk F x2 x3 x6 x7 = some r) :
    PureL Tryz.prog 50 [.pointer (some ⟨g1, 0, none⟩), .int .i64 x7] [⟨g1, 75, [.int .i64 x2, .slice a4 x3.length c5, .int .i64 x6]⟩] [] [Sl (eI .u8) 1 (.slice a4 x3.length c5) x3] lostCh (Option Addr × Nat) (fun (r : (List Int × Int × Int)) (g : (Option Addr × Nat)) => .slice g.1 r.1.length g.2) (fun (r : (List Int × Int × Int)) (_ : (Option Addr × Nat)) => [⟨g1, 75, [.int .i64 r.2.1, .slice a4 x3.length c5, .int .i64 r.2.2]⟩]) (fun (r : (List Int × Int × Int)) (g : (Option Addr × Nat)) => [Ro (eI .i64) 3 1 (.slice g.1 r.1.length g.2) r.1]) (fun (z : (Int × Int)) => [⟨g1, 75, [.int .i64 z.1, .slice a4 x3.length c5, .int .i64 z.2]⟩]) r := by
 refine qbM Tryz.func50 rfl Tryz.ntmps50 rfl hm (fun w => ?_)
 refine au [24,12,2,4,5,0,1,2,4,3,3,16] ?_
 refine zF ent48 rfl rfl rfl (fun x8 e8 => zT F g1 x2 x3 a4 c5 x6 (iadd .i64 x7 1) x8 e8) (.cons 0 rfl .nil) .nil (.consF 0 rfl .nil) (fun x9 _ => ?_) (fun x8 e8 => ?_)
 exact az [25,0,26,0]
 intro _
 refine qlg (qz .i64) rfl UnF.u inferInstance rfl rfl rfl rfl rfl rfl rfl ?_
 intro x10 e10 a11 c12
 refine au [5,0,1] ?_
 refine qf (fun (((x72, x73, x74), _) : ((List Int × Int × Int) × Unit)) => ([(5, .slice a11 x72.length c12)], [⟨g1, 75, [.int .i64 x73, .slice a4 x3.length c5, .int .i64 x74]⟩], [Ro (eI .i64) 3 1 (.slice a11 x72.length c12) x72], [Sl (eI .u8) 1 (.slice a4 x3.length c5) x3], yB F x72 x73 x74)) ?_ ?_
 refine au [2,4,3,23,3,0,1,14] ?_
 refine qo (fun (((x93, x94, x95, x96), _) : ((List Int × Int × Int × Int) × Unit)) => ([(0, .pointer (some ⟨g1, 0, none⟩)), (1, .int .i64 x7), (5, .slice a11 x93.length c12), (13, .int .i64 (x10.length : Int)), (14, .int .i64 x94)], [⟨g1, 75, [.int .i64 x95, .slice a4 x3.length c5, .int .i64 x96]⟩], [Ro (eI .i64) 3 1 (.slice a11 x93.length c12) x93], [Sl (eI .u8) 1 (.slice a4 x3.length c5) x3])) (fun k (s : ((List Int × Int × Int × Int) × Unit)) => zk F x3 x7 x10 k s.1) ((x10, 0, x8.2.1, x8.2.2), ()) F ?_
 intro k115
 rintro ⟨⟨x93, x94, x95, x96⟩, _⟩
 try dsimp only
 refine qB (m' := kv F x3 x7 x10 (zk F x3 x7 x10 k115) x93 x94 x95 x96) rfl ?_
 refine av [2,4,24,0,0,1,2,10] ?_ ?_
 intro _
 refine au [12,1,2,14,2,4,3,5,0,1,4,3,3,3,3] ?_
 refine zF ent48 rfl rfl rfl (fun x125 e125 => zT F g1 x95 x3 a4 c5 x96 x7 x125 e125) (.cons 0 rfl .nil) .nil (.consF 0 rfl .nil) (fun x126 _ => ?_) (fun x125 e125 => ?_)
 exact az [26,14,25,0,25,0,26,14,25,0,26,0]
 intro _
 refine au [3,27,7,16,29,10] ?_
 intro x127 e127 g128 h129
 refine qbv (j := 0) (y' := iadd .i64 x125.1 (imin x94 1)) (qz .i64) rfl rfl rfl tf3 rfl h129 (qN e127).2.1 rfl (fun x130 e130 h131 => ?_)
 have h132 : x130.length = x93.length := by rw [← e130, List.length_set]
 refine qd (d := 5) (v := .slice a11 x130.length c12) rfl h131 (qd (d := 17) (v := .slice a11 x130.length c12) rfl h131 ?_)
 refine au [0,24,5,1,4,16,3,0] ?_
 exact qi ((x130, iadd .i64 x94 1, x125.2.1, x125.2.2), ())
 intro _
 refine au [24,9,18,18,24,10] ?_
 exact qa ((x93, x95, x96), ())
 rintro ⟨⟨x72, x73, x74⟩, _⟩
 try dsimp only
 refine au [2,4,3,5,0,1,9] ?_
 exact jS (a11, c12) (.inl rfl) (res1 rfl rfl) rfl (.cons 0 rfl .nil) (.cons 0 rfl .nil)
theorem qdz {F : Nat} {x1 : Int} {r : Int} (hm : vb F x1 = some r) :
    Pure Tryz.prog 72 [.int .u64 x1] [] Unit (fun _ => .int .i64 r) (fun _ => []) (fun _ => []) := by
 refine qh Tryz.func72 rfl Tryz.ntmps72 rfl hm (fun w => ?_)
 refine au [25,2,2,4,5,0,1,2,4,3,27,6,25,1,3,28,2,25,1] ?_
 refine qmz rfl rfl rfl ?_
 refine au [31,1,5,26,1] ?_
 intro x2 e2
 refine qd (d := 2) (v := .int .i64 x2) rfl (by rw [e2] <;> rfl) ?_
 exact az [0,1,9,15]
set_option maxHeartbeats 4000000 in
theorem qcj (F : Nat) (g1 : Nat) (x2 : Int) (x3 : List Int) (a4 : Option Addr) (c5 : Nat) (x6 : Int) (x7 : Int) (x8 : Int) (x9 : Int) (r : ((List (Int × Int) × Int × Int) ⊕ (Int × Int))) (hm : yR F x2 x3 x6 x7 x8 x9 = some r) :
    PureL Tryz.prog 51 [.pointer (some ⟨g1, 0, none⟩), .int .i64 x7, .int .i64 x8, .int .i64 x9] [⟨g1, 75, [.int .i64 x2, .slice a4 x3.length c5, .int .i64 x6]⟩] [] [Sl (eI .u8) 1 (.slice a4 x3.length c5) x3] lostCh (Option Addr × Nat) (fun (r : (List (Int × Int) × Int × Int)) (g : (Option Addr × Nat)) => .slice g.1 r.1.length g.2) (fun (r : (List (Int × Int) × Int × Int)) (_ : (Option Addr × Nat)) => [⟨g1, 75, [.int .i64 r.2.1, .slice a4 x3.length c5, .int .i64 r.2.2]⟩]) (fun (r : (List (Int × Int) × Int × Int)) (g : (Option Addr × Nat)) => [Ro eS137 137 2 (.slice g.1 r.1.length g.2) r.1]) (fun (z : (Int × Int)) => [⟨g1, 75, [.int .i64 z.1, .slice a4 x3.length c5, .int .i64 z.2]⟩]) r := by
 refine qbM Tryz.func51 rfl Tryz.ntmps51 rfl hm (fun w => ?_)
 refine au [27,1,2,4,5,0,1,2,4,3,3,3,26,6] ?_
 intro h10
 refine qf8 rfl rfl rfl rfl h10 (zF ent48 rfl rfl rfl (fun x11 e11 => zT F g1 x2 x3 a4 c5 x6 (iquo .i64 x9 x8) x11 e11) (.cons 0 rfl .nil) .nil (.consF 0 rfl .nil) (fun x12 _ => ?_) (fun x11 e11 => ?_))
 exact az [25,0,26,0]
 intro _
 refine qmw qa5 (by decide) rfl UnF.u inferInstance rfl rfl rfl rfl rfl rfl ?_
 intro x13 e13 a14 c15
 refine au [5,0,1,2,4,3,5,0,1] ?_
 refine qf (fun (((x136, x137, x138), _) : ((List (Int × Int) × Int × Int) × Unit)) => ([(9, .slice a14 x136.length c15)], [⟨g1, 75, [.int .i64 x137, .slice a4 x3.length c5, .int .i64 x138]⟩], [Ro eS137 137 2 (.slice a14 x136.length c15) x136], [Sl (eI .u8) 1 (.slice a4 x3.length c5) x3], vk F x136 x137 x138)) ?_ ?_
 refine au [2,4,3,23,3,0,1,14] ?_
 refine qo (fun (((x177, x178, x179, x180, x181), _) : ((List (Int × Int) × Int × Int × Int × Int) × Unit)) => ([(0, .pointer (some ⟨g1, 0, none⟩)), (2, .int .i64 x8), (3, .int .i64 x9), (9, .slice a14 x177.length c15), (10, .int .i64 x178), (21, .int .i64 (x13.length : Int)), (22, .int .i64 x179)], [⟨g1, 75, [.int .i64 x180, .slice a4 x3.length c5, .int .i64 x181]⟩], [Ro eS137 137 2 (.slice a14 x177.length c15) x177], [Sl (eI .u8) 1 (.slice a4 x3.length c5) x3])) (fun k (s : ((List (Int × Int) × Int × Int × Int × Int) × Unit)) => qP F x3 x8 x9 x13 k s.1) ((x13, x7, 0, x11.2.1, x11.2.2), ()) F ?_
 intro k220
 rintro ⟨⟨x177, x178, x179, x180, x181⟩, _⟩
 try dsimp only
 refine qB (m' := kH F x3 x8 x9 x13 (qP F x3 x8 x9 x13 k220) x177 x178 x179 x180 x181) rfl ?_
 refine av [2,4,24,0,0,1,2,10] ?_ ?_
 intro _
 refine au [12,1,2,14,2,4,3,5,0,1,2,4,3] ?_
 refine zF ent48 rfl rfl rfl (fun x240 e240 => zT F g1 x180 x3 a4 c5 x181 2097152 x240 e240) (.cons 0 rfl .nil) .nil (.consF 0 rfl .nil) (fun x241 _ => ?_) (fun x240 e240 => ?_)
 exact az [25,0,26,14,25,0,25,0,26,14,25,0,26,0]
 intro _
 refine au [5,0,1] ?_
 refine qf (fun ((x244, _) : (Int × Unit)) => ([(0, .pointer (some ⟨g1, 0, none⟩)), (2, .int .i64 x8), (3, .int .i64 x9), (9, .slice a14 x177.length c15), (10, .int .i64 x244), (11, .int .i64 x179), (21, .int .i64 (x13.length : Int)), (22, .int .i64 x179)], [⟨g1, 75, [.int .i64 x240.2.1, .slice a4 x3.length c5, .int .i64 x240.2.2]⟩], [Ro eS137 137 2 (.slice a14 x177.length c15) x177], [Sl (eI .u8) 1 (.slice a4 x3.length c5) x3], zR F (qP F x3 x8 x9 x13 k220) x3 x8 x9 x177 x179 x240 x244)) ?_ ?_
 refine av [2,4,3,25,5,0,1,10] ?_ ?_
 intro _
 refine au [4,3,3,25,1,31,13] ?_
 intro x256 e256 _
 refine au [16,5,0] ?_
 exact qa (iadd .i64 x178 x256, ())
 intro _
 refine au [4,3,3,16,16,5,0] ?_
 exact qa (iadd .i64 x178 (iadd .i64 x240.1 2), ())
 rintro ⟨x244, _⟩
 try dsimp only
 refine au [2,4,3,3,3,3,3] ?_
 refine zF ent48 rfl rfl rfl (fun x245 e245 => zT F g1 x240.2.1 x3 a4 c5 x240.2.2 x9 x245 e245) (.cons 0 rfl .nil) .nil (.consF 0 rfl .nil) (fun x246 _ => ?_) (fun x245 e245 => ?_)
 exact az [25,0,26,14,25,0,25,0,26,14,25,0,26,0]
 intro _
 refine au [3,16] ?_
 refine qF (cells := [.int .i64 x244, .int .i64 (iadd .i64 x245.1 x8)]) rfl st137 rfl (by kernel_rfl) rfl ?_
 refine au [29,10] ?_
 intro x247 e247 g248 h249
 refine qbv (j := 0) (y' := (x244, iadd .i64 x245.1 x8)) qa5 rfl rfl rfl tf137 rfl h249 (qN e247).2.1 rfl (fun x250 e250 h251 => ?_)
 have h252 : x250.length = x177.length := by rw [← e250, List.length_set]
 refine qd (d := 9) (v := .slice a14 x250.length c15) rfl h251 (qd (d := 38) (v := .slice a14 x250.length c15) rfl h251 ?_)
 refine au [0,1,4,3,3,3,29,10] ?_
 intro x253 e253 g254 h255
 refine au [13] ?_
 refine qhV (j := 0) (y := x253) (off := 1) qa5 rfl rfl tf3 rfl h255 (qN e253).2.2 rfl (fun _ => rfl) rfl rfl ?_
 refine au [24,13,16,5,0,24,5,1,4,16,3,0] ?_
 exact qi ((x250, iadd .i64 x244 (isub .i64 x253.2 1), iadd .i64 x179 1, x245.2.1, x245.2.2), ())
 intro _
 refine au [24,9,18,18,24,10] ?_
 exact qa ((x177, x180, x181), ())
 rintro ⟨⟨x136, x137, x138⟩, _⟩
 try dsimp only
 refine au [2,4,3,5,0,1,9] ?_
 exact jS (a14, c15) (.inl rfl) (res1 rfl rfl) rfl (.cons 0 rfl .nil) (.cons 0 rfl .nil)
set_option maxHeartbeats 4000000 in
theorem qbB {F : Nat} {x1 : List Int} {a2 : Option Addr} {c3 : Nat} {x4 : Int} {r : List Int} (hm : kU F x1 c3 x4 = some r) :
    PureM Tryz.prog 78 [.slice a2 x1.length c3, .int .i64 x4] [] [Ro (eI .i64) 3 1 (.slice a2 x1.length c3) x1] [] (Option Addr × Nat) (fun g => .slice g.1 r.length g.2) (fun _ => []) (fun g => [Ro (eI .i64) 3 1 (.slice g.1 r.length g.2) r]) := by
 refine zS Tryz.func78 rfl Tryz.ntmps78 rfl hm (fun w => ?_)
 refine av [24,12,2,4,5,0,1,2,2,4,3,24,0,0,1,10] ?_ ?_
 intro _
 exact az [31,14]
 intro _
 refine au [12,1] ?_
 refine qf (fun ((x15, (a13, c14)) : (List Int × (Option Addr × Nat))) => ([(0, .slice a13 x15.length c14)], [], [Ro (eI .i64) 3 1 (.slice a13 x15.length c14) x15], [], yp F x15)) ?_ ?_
 refine au [2,4,3,3,31,15,3,23,24,13,24,13,5,26,1] ?_
 intro x16 e16
 refine qd (d := 1) (v := .int .i64 x16) rfl (by rw [e16] <;> rfl) ?_
 refine av [0,1,2,4,3,24,11,0,1,10] ?_ ?_
 intro _
 refine au [4,3,3,31,15,32,0] ?_
 intro x17 e17
 refine au [3] ?_
 refine qk7 (y := (0 : Int)) 0 (qz .i64) rfl UnF.u UnF.u inferInstance rfl rfl rfl rfl rfl rfl rfl rfl rfl ?_
 intro x18 e18 a19 c20
 refine au [3,23,32,0] ?_
 intro x21 e21
 refine au [5,0] ?_
 exact qa (x21, (a19, c20))
 intro _
 refine au [12] ?_
 exact qa (x1, (a2, c3))
 rintro ⟨x15, ⟨a13, c14⟩⟩
 try dsimp only
 refine au [2,4,3,5,0,1,9] ?_
 exact zu (a13, c14)
end Go.Proofs.YtnlodcokfndnmaaGreat
