/- Each Go function of this seat computes what its model says, part 5. -/
import Derived.Test.YthibchijlpflmaaGreatDoorWalks4
open Bool renaming false_or→qqT, true_or→qqU, false_and→qq7, true_and→qrd
open List renaming length_set→qqR
namespace Go.Proofs.YthibchijlpflmaaGreatDoor
open Go SX
set_option linter.unusedSimpArgs false
set_option maxHeartbeats 4000000 in
theorem qmd {F:Nat}{x1:qsO}{a2:qsP}{c3:Nat}{x4:Int}{r:(Int×Int×Int×Int×qsO×Int×qsO×Bool)}(hm:qgL F x1 x4=some r) :
    Pure Tryz.prog 194 [qsR a2 x1 c3,qsQ x4] [qsT a2 x1 c3] ((qsP×Nat)×(qsP×Nat)) (fun g=>.tuple #[.agg #[qsQ r.1,qsQ r.2.1,qsQ r.2.2.1,qsQ r.2.2.2.1,qsR g.1.1 r.2.2.2.2.1 g.1.2,qsQ r.2.2.2.2.2.1,qsR g.2.1 r.2.2.2.2.2.2.1 g.2.2],.bool r.2.2.2.2.2.2.2]) (fun g=>[qsW g.1.1 r.2.2.2.2.1 g.1.2,qsW g.2.1 r.2.2.2.2.2.2.1 g.2.2]) (fun _=>[]):=by
 refine qs Tryz.func194 rfl Tryz.ntmps194 rfl hm (fun w=>?_)
 refine au [56,24,4] ?_
 intro g5
 refine au [58,122,3,122,34,14] ?_
 intro x6 e6 _
 refine qq (cells:=[qsQ (x1.length:Int),qsQ x4,qsQ x6,qsQ 0,.slice none 0 0,qsQ 0,.slice none 0 0]) rfl st69 rfl (by kernel_rfl) rfl ?_
 refine au [24,4] ?_
 intro g7
 refine au [119,48,78,26,10] ?_
 intro h8
 refine qhC rfl rfl rfl rfl h8 ?_
 refine au [23,71,47,78,78,27,11,25,0,3] ?_
 refine qO 6 (decide (8192<(imul .i64 (x1.length:Int) x6))) [(0,qsR a2 x1 c3),(4,qsS g5),(6,qsS g7),(7,qsQ (iadd .i64 (ishr .i64 x4 x6) 1)),(36,.bool ((decide (8192<(imul .i64 (x1.length:Int) x6))) || (decide (8192<(iadd .i64 (x1.length:Int) (iadd .i64 (ishr .i64 x4 x6) 1))))))] (fun h11=>?_) (fun h11=>?_) ?_
 refine qc (os:=_) rfl (qA (k:=30) rfl h11 ?_)
 refine au [65,7,24,7] ?_
 refine qa (d:=36) (v:=.bool ((decide (8192<(imul .i64 (x1.length:Int) x6))) || (decide (8192<(iadd .i64 (x1.length:Int) (iadd .i64 (ishr .i64 x4 x6) 1)))))) rfl (by rw[h11];simp only[qqU]) ?_
 exact az [51]
 refine qc (os:=_) rfl (qz (k:=30) rfl h11 ?_)
 refine au [78,3,23,81] ?_
 refine qa (d:=36) (v:=.bool ((decide (8192<(imul .i64 (x1.length:Int) x6))) || (decide (8192<(iadd .i64 (x1.length:Int) (iadd .i64 (ishr .i64 x4 x6) 1)))))) rfl (by rw[h11];simp only[qqT]) ?_
 exact az [51]
 refine qc (os:=_) rfl ?_
 refine av [50] ?_ ?_
 intro _
 refine au [47] ?_
 refine qq (cells:=[qsQ 0,qsQ 0,qsQ 0,qsQ 0,.slice none 0 0,qsQ 0,.slice none 0 0]) rfl st69 rfl (by kernel_rfl) rfl ?_
 refine au [25,4,60,100] ?_
 exact qS ((none,0),(none,0)) (resL (rs:=[.cell 4 69,.tmp 5]) rfl (.cell (i:=1) rfl tf69 rfl rfl (by simp) rfl (.tmp rfl ResOk.nil)) rfl) (fun h=>by subst h;exact (.cons 0 rfl (.cons 0 rfl .nil)))
 intro _
 refine au [115] ?_
 refine qq (cells:=[qsQ 0,.slice none 0 0,qsQ 0]) rfl st302 rfl (by kernel_rfl) rfl ?_
 refine au [22] ?_
 intro g12
 refine au [46] ?_
 refine qj (fun (((x0,x2,x3,x5,x7),(a0,c0,a1,c1)):((Int×qsO×Int×Int×qsO)×(qsP×Nat×qsP×Nat)))=>([(4,qsS g5),(6,qsS g7),(7,qsQ (iadd .i64 (ishr .i64 x4 x6) 1)),(8,qsS g12)],[⟨g12,302,[qsQ x0,qsR a0 x2 c0,qsQ x3]⟩,⟨g7,69,[qsQ (x1.length:Int),qsQ x4,qsQ x6,qsQ x5,qsR a1 x7 c1,qsQ 0,.slice none 0 0]⟩,⟨g5,69,[qsQ 0,qsQ 0,qsQ 0,qsQ 0,.slice none 0 0,qsQ 0,.slice none 0 0]⟩],[qsW a0 x2 c0,qsW a1 x7 c1],[],qga F x1 x4 x6 x0 x2 x3 x5 x7)) ?_ ?_
 refine au [72,3,76,30,11,30,11] ?_
 refine qB (fun (((x8,x9,x10,x11,x12,x13),(a3,c2,a4,c4)):((Int×Int×qsO×Int×Int×qsO)×(qsP×Nat×qsP×Nat)))=>([(4,qsS g5),(6,qsS g7),(7,qsQ (iadd .i64 (ishr .i64 x4 x6) 1)),(8,qsS g12),(40,qsR a2 x1 c3),(41,qsQ (x1.length:Int)),(42,qsQ x8)],[⟨g12,302,[qsQ x9,qsR a3 x10 c2,qsQ x11]⟩,⟨g7,69,[qsQ (x1.length:Int),qsQ x4,qsQ x6,qsQ x12,qsR a4 x13 c4,qsQ 0,.slice none 0 0]⟩,⟨g5,69,[qsQ 0,qsQ 0,qsQ 0,qsQ 0,.slice none 0 0,qsQ 0,.slice none 0 0]⟩],[qsW a3 x10 c2,qsW a4 x13 c4],[qsT a2 x1 c3])) (fun k (s:((Int×Int×qsO×Int×Int×qsO)×(qsP×Nat×qsP×Nat)))=>qbV F x1 x4 x6 k s.1) ((0,0,([]:qsO),0,0,([]:qsO)),(none,0,none,0)) F ?_
 intro k0
 rintro ⟨⟨x8,x9,x10,x11,x12,x13⟩,⟨a3,c2,a4,c4⟩⟩
 try dsimp only
 refine qH (m':=qf9 F x1 x4 x6 (qbV F x1 x4 x6 k0) x8 x9 x10 x11 x12 x13) rfl ?_
 refine av [96] ?_ ?_
 intro _
 refine au [83,47,26,2] ?_
 intro x14 e0 b0 o0
 refine au [25,2,71,28,4] ?_
 intro h0
 refine qt mixed [13] [⟨g12,302,[qsQ x9,qsR a3 x10 c2,qsQ x11]⟩,⟨g5,69,[qsQ 0,qsQ 0,qsQ 0,qsQ 0,.slice none 0 0,qsQ 0,.slice none 0 0]⟩] [qC b0 o0 ((eI .i64) x14),qsT a2 x1 c3,(BlkD.is ⟨g7,69,[qsQ (x1.length:Int),qsQ x4,qsQ x6,qsQ x12,qsR a4 x13 c4,qsQ 0,.slice none 0 0]⟩)] (.cons 0 rfl (.cons 1 rfl .nil)) (qf 0 rfl (qf 1 rfl (qeK 1 rfl qh))) 14 rfl ?_
 refine au [15,0] ?_
 refine qJ 1 (.agg #[qsQ x12,.slice a4 x13.length c4]) [[13]] rfl rfl rfl (kj (j:=2) rfl tf65 rfl rfl (by simp) rfl) ?_
 refine au [6,2,15,3] ?_
 refine qJ 4 (qsQ x6) [[13]] rfl rfl rfl (kj (j:=2) rfl tf3 rfl rfl (fun _=>rfl) rfl) (qe 5 (qsQ (ishl .i64 1 x6)) rfl rfl rfl (qgW rfl rfl h0) ?_)
 refine au [67,33,9,8,15,9] ?_
 refine qJ 10 (qsQ x6) [[13]] rfl rfl rfl (kj (j:=2) rfl tf3 rfl rfl (fun _=>rfl) rfl) ?_
 refine au [13,11,28,10] ?_
 rintro x15 e1 ⟨a5,c5⟩
 refine au [0] ?_
 refine qi (.cons 0 rfl (.cons 1 rfl .nil)) (qf 0 rfl (qf 1 rfl (qeK 1 rfl qh))) ?_
 refine au [15,12,13,13,120] ?_
 refine kw 13 rfl (by kernel_rfl) (.cons 0 rfl (.cons 1 rfl .nil)) ?_
 refine au [16] ?_
 refine qm ?_ (by intro c h;cases h)
 refine au [2,87,89,26,10] ?_
 intro h1
 refine qhC rfl rfl rfl rfl h1 ?_
 refine au [34,15] ?_
 rintro x16 e2 ⟨a6,c6⟩
 refine au [45,4,3,3,55,24,10,28,10] ?_
 rintro x17 e3 ⟨a7,c7⟩
 refine au [55,86,99] ?_
 exact qr ((iadd .i64 x8 1,x17.1,x17.2,x16.2.2,x15.1,x15.2),(a7,c7,a5,c5))
 intro _
 refine au [73] ?_
 exact qb ((x9,x10,x11,x12,x13),(a3,c2,a4,c4))
 rintro ⟨⟨x0,x2,x3,x5,x7⟩,⟨a0,c0,a1,c1⟩⟩
 try dsimp only
 refine au [87,34,15] ?_
 rintro x18 e4 ⟨a8,c8⟩
 refine au [45,48,55,24,10,9,25,4,45,47,25,7,27,5,49] ?_
 exact qS ((a1,c1),(a8,c8)) (resL (rs:=[.cell 4 69,.tmp 5]) rfl (.cell (i:=2) rfl tf69 rfl rfl (by simp) rfl (.tmp rfl ResOk.nil)) rfl) (fun h=>by subst h;exact (.cons 1 rfl (.cons 0 rfl .nil)))
theorem qke {F:Nat}{x1:qsO}{a2:qsP}{c3:Nat}{x4:Int}{r:(Int×Int×Int×Int×qsO×Int×qsO×Int)}(hm:qeB F x1 x4=some r) :
    Pure Tryz.prog 166 [qsR a2 x1 c3,qsQ x4] [qsT a2 x1 c3] ((qsP×Nat)×(qsP×Nat)) (fun g=>.tuple #[.agg #[qsQ r.1,qsQ r.2.1,qsQ r.2.2.1,qsQ r.2.2.2.1,qsR g.1.1 r.2.2.2.2.1 g.1.2,qsQ r.2.2.2.2.2.1,qsR g.2.1 r.2.2.2.2.2.2.1 g.2.2],qsQ r.2.2.2.2.2.2.2]) (fun g=>[qsW g.1.1 r.2.2.2.2.1 g.1.2,qsW g.2.1 r.2.2.2.2.2.2.1 g.2.2]) (fun _=>[]):=by
 refine qs Tryz.func166 rfl Tryz.ntmps166 rfl hm (fun w=>?_)
 refine au [56,24,4] ?_
 intro g5
 refine au [85,3,35,0] ?_
 intro x8 e8 _
 refine av [58,70] ?_ ?_
 intro _
 refine au [47] ?_
 refine qq (cells:=[qsQ 0,qsQ 0,qsQ 0,qsQ 0,.slice none 0 0,qsQ 0,.slice none 0 0]) rfl st69 rfl (by kernel_rfl) rfl ?_
 refine au [3,20,60,100] ?_
 exact qS ((none,0),(none,0)) (resL (rs:=[.cell 4 69,.tmp 5]) rfl (.cell (i:=0) rfl tf69 rfl rfl (by simp) rfl (.tmp rfl ResOk.nil)) rfl) (fun h=>by subst h;exact (.cons 0 rfl (.cons 0 rfl .nil)))
 intro _
 refine au [57,87,35,1] ?_
 rintro x9 e9 ⟨⟨a10,c11⟩,⟨a12,c13⟩⟩
 refine au [93,24,4] ?_
 intro g14
 refine av [20,85,25,8,50] ?_ ?_
 intro _
 refine au [47] ?_
 refine qq (cells:=[qsQ 0,qsQ 0,qsQ 0,qsQ 0,.slice none 0 0,qsQ 0,.slice none 0 0]) rfl st69 rfl (by kernel_rfl) rfl ?_
 refine au [25,4,60,100] ?_
 exact qS ((none,0),(none,0)) (resL (rs:=[.cell 4 69,.tmp 5]) rfl (.cell (i:=1) rfl tf69 rfl rfl (by simp) rfl (.tmp rfl ResOk.nil)) rfl) (fun h=>by subst h;exact (.cons 0 rfl (.cons 0 rfl .nil)))
 intro _
 refine au [57,74,25,4,49] ?_
 exact qS ((a10,c11),(a12,c13)) (resL (rs:=[.cell 4 69,.tmp 5]) rfl (.cell (i:=1) rfl tf69 rfl rfl (by simp) rfl (.tmp rfl ResOk.nil)) rfl) (fun h=>by subst h;exact (.cons 0 rfl (.cons 0 rfl .nil)))
set_option maxHeartbeats 4000000 in
theorem qjs {F:Nat}{x1:List (qsO)}{a2:qsP}{c3:Nat}{s3:List (qsP×Nat)}{x4:Int}{x5:Int}{x6:Int}{x7:Int}{x8:Int}{x9:qsO}{a10:qsP}{c11:Nat}{r:(Int×Int×Int×Int×Int×qsO×Int×Int×Int×Int×qsO×Int×qsO×Int)}(hm:qgo F x1 x4 x5 x6 x7 x8 x9=some r) :
    PureM Tryz.prog 122 [.agg #[qsR a2 x1 c3],.agg #[qsQ x4,qsQ x5,qsQ x6,qsQ x7,qsQ x8,qsR a10 x9 c11]] [] [qsW a10 x9 c11] [SlN eN56 iN56 1 (qsR a2 x1 c3) x1 s3] ((qsP×Nat)×(qsP×Nat)×(qsP×Nat)) (fun g=>.tuple #[.agg #[qsQ r.1,qsQ r.2.1,qsQ r.2.2.1,qsQ r.2.2.2.1,qsQ r.2.2.2.2.1,qsR g.1.1 r.2.2.2.2.2.1 g.1.2,qsQ r.2.2.2.2.2.2.1,qsQ r.2.2.2.2.2.2.2.1,qsQ r.2.2.2.2.2.2.2.2.1,qsQ r.2.2.2.2.2.2.2.2.2.1,qsR g.2.1.1 r.2.2.2.2.2.2.2.2.2.2.1 g.2.1.2,qsQ r.2.2.2.2.2.2.2.2.2.2.2.1,qsR g.2.2.1 r.2.2.2.2.2.2.2.2.2.2.2.2.1 g.2.2.2],qsQ r.2.2.2.2.2.2.2.2.2.2.2.2.2]) (fun _=>[]) (fun g=>[qsW g.1.1 r.2.2.2.2.2.1 g.1.2,qsW g.2.1.1 r.2.2.2.2.2.2.2.2.2.2.1 g.2.1.2,qsW g.2.2.1 r.2.2.2.2.2.2.2.2.2.2.2.2.1 g.2.2.2]):=by
 refine qE Tryz.func122 rfl Tryz.ntmps122 rfl hm (fun w=>?_)
 refine au [118] ?_
 intro g12
 refine au [22] ?_
 intro g13
 refine au [24,4] ?_
 intro g14
 refine au [84,26,6,9,25,7,35,2] ?_
 rintro x15 e15 ⟨⟨a16,c17⟩,⟨a18,c19⟩⟩
 refine av [93,18,5,5,85,70] ?_ ?_
 intro _
 refine au [47] ?_
 refine qq (cells:=[qsQ 0,qsQ 0,qsQ 0,qsQ 0,qsQ 0,.slice none 0 0,qsQ 0,qsQ 0,qsQ 0,qsQ 0,.slice none 0 0,qsQ 0,.slice none 0 0]) rfl st71 rfl (by kernel_rfl) rfl ?_
 refine au [3,20,60,100,25,15] ?_
 exact kU ((none,0),(none,0),(none,0)) (resL (rs:=[.cell 4 71,.tmp 5]) rfl (.cell (i:=0) rfl tf71 rfl rfl (by simp) rfl (.tmp rfl ResOk.nil)) rfl) (hR:=fun h=>by subst h;exact (.cons 0 rfl (.cons 0 rfl (.cons 0 rfl .nil))))
 intro _
 refine au [57,48,9,89,35,3] ?_
 rintro x21 e21 ⟨⟨a22,c23⟩,⟨a24,c25⟩⟩
 refine au [93,24,4] ?_
 intro g26
 refine av [20,85,70] ?_ ?_
 intro _
 refine au [47] ?_
 refine qq (cells:=[qsQ 0,qsQ 0,qsQ 0,qsQ 0,qsQ 0,.slice none 0 0,qsQ 0,qsQ 0,qsQ 0,qsQ 0,.slice none 0 0,qsQ 0,.slice none 0 0]) rfl st71 rfl (by kernel_rfl) rfl ?_
 refine au [3,25,4,60,100,25,15] ?_
 exact kU ((none,0),(none,0),(none,0)) (resL (rs:=[.cell 4 71,.tmp 5]) rfl (.cell (i:=1) rfl tf71 rfl rfl (by simp) rfl (.tmp rfl ResOk.nil)) rfl) (hR:=fun h=>by subst h;exact (.cons 0 rfl (.cons 0 rfl (.cons 0 rfl .nil))))
 intro _
 refine au [115,26,6,24,10] ?_
 refine qq (cells:=[qsQ x4,qsQ x5,qsQ x6,qsQ x7,qsQ x8,qsR a10 x9 c11,qsQ x21.1,qsQ x21.2.1,qsQ x21.2.2.1,qsQ x21.2.2.2.1,qsR a22 x21.2.2.2.2.1 c23,qsQ x21.2.2.2.2.2.1,qsR a24 x21.2.2.2.2.2.2.1 c25]) rfl st71 rfl (by kernel_rfl) rfl ?_
 refine au [25,4,49] ?_
 exact kU ((a10,c11),(a22,c23),(a24,c25)) (resL (rs:=[.cell 4 71,.tmp 5]) rfl (.cell (i:=1) rfl tf71 rfl rfl (by simp) rfl (.tmp rfl ResOk.nil)) rfl) (hR:=fun h=>by subst h;exact (.cons 4 rfl (.cons 0 rfl (.cons 0 rfl .nil))))
theorem qjq {F:Nat}{x1:List (qsO)}{a2:qsP}{c3:Nat}{s3:List (qsP×Nat)}{x4:Int}{x5:Int}{x6:Int}{r:(Int×Int×Int×Int×Int×qsO×Int×Int×Int×Int×qsO×Int×qsO×Int)}(hm:qea F x1 x4 x5 x6=some r) :
    Pure Tryz.prog 88 [.agg #[qsR a2 x1 c3],.agg #[qsQ x4,qsQ x5,qsQ x6]] [SlN eN56 iN56 1 (qsR a2 x1 c3) x1 s3] ((qsP×Nat)×(qsP×Nat)×(qsP×Nat)) (fun g=>.tuple #[.agg #[qsQ r.1,qsQ r.2.1,qsQ r.2.2.1,qsQ r.2.2.2.1,qsQ r.2.2.2.2.1,qsR g.1.1 r.2.2.2.2.2.1 g.1.2,qsQ r.2.2.2.2.2.2.1,qsQ r.2.2.2.2.2.2.2.1,qsQ r.2.2.2.2.2.2.2.2.1,qsQ r.2.2.2.2.2.2.2.2.2.1,qsR g.2.1.1 r.2.2.2.2.2.2.2.2.2.2.1 g.2.1.2,qsQ r.2.2.2.2.2.2.2.2.2.2.2.1,qsR g.2.2.1 r.2.2.2.2.2.2.2.2.2.2.2.2.1 g.2.2.2],qsQ r.2.2.2.2.2.2.2.2.2.2.2.2.2]) (fun g=>[qsW g.1.1 r.2.2.2.2.2.1 g.1.2,qsW g.2.1.1 r.2.2.2.2.2.2.2.2.2.2.1 g.2.1.2,qsW g.2.2.1 r.2.2.2.2.2.2.2.2.2.2.2.2.1 g.2.2.2]) (fun _=>[]):=by
 refine qs Tryz.func88 rfl Tryz.ntmps88 rfl hm (fun w=>?_)
 refine au [118] ?_
 intro g7
 refine au [22] ?_
 intro g8
 refine au [24,4] ?_
 intro g9
 refine au [84,26,6,25,7,30,12] ?_
 rintro x10 e10 ⟨a11,c12⟩
 refine au [93,24,4] ?_
 intro g13
 refine av [20,85,70] ?_ ?_
 intro _
 refine au [47] ?_
 refine qq (cells:=[qsQ 0,qsQ 0,qsQ 0,qsQ 0,qsQ 0,.slice none 0 0,qsQ 0,qsQ 0,qsQ 0,qsQ 0,.slice none 0 0,qsQ 0,.slice none 0 0]) rfl st71 rfl (by kernel_rfl) rfl ?_
 refine au [3,25,4,60,100,25,15] ?_
 exact qS ((none,0),(none,0),(none,0)) (resL (rs:=[.cell 4 71,.tmp 5]) rfl (.cell (i:=1) rfl tf71 rfl rfl (by simp) rfl (.tmp rfl ResOk.nil)) rfl) (fun h=>by subst h;exact (.cons 0 rfl (.cons 0 rfl (.cons 0 rfl .nil))))
 intro _
 refine au [115,30,9,24,10] ?_
 refine qF qjs ?_
 rintro x15 e15 ⟨⟨a16,c17⟩,⟨a18,c19⟩,⟨a20,c21⟩⟩
 refine au [66,25,4,49] ?_
 exact qS ((a16,c17),(a18,c19),(a20,c21)) (resL (rs:=[.cell 4 71,.tmp 5]) rfl (.cell (i:=1) rfl tf71 rfl rfl (by simp) rfl (.tmp rfl ResOk.nil)) rfl) (fun h=>by subst h;exact (.cons 0 rfl (.cons 0 rfl (.cons 0 rfl .nil))))
set_option maxHeartbeats 4000000 in
theorem qj9 {F:Nat}{x1:Int}{x2:qsO}{a3:qsP}{c4:Nat}{r:Int}(hm:qcM F x1 x2=some r) :
    Pure Tryz.prog 237 [.agg #[qsQ x1,qsR a3 x2 c4]] [qsV a3 x2 c4] Unit (fun _=>qsQ r) (fun _=>[]) (fun _=>[]):=by
 refine qs Tryz.func237 rfl Tryz.ntmps237 rfl hm (fun w=>?_)
 refine au [59,22] ?_
 intro g5
 refine au [71,14,47,78,24,3,3] ?_
 refine qO 4 (decide (x1<0)) [(1,qsS g5),(11,.bool ((decide (x1<0)) || (decide (8192<x1))))] (fun h27=>?_) (fun h27=>?_) ?_
 refine qc (os:=_) rfl (qA (k:=7) rfl h27 ?_)
 refine au [61,7,24,7] ?_
 refine qa (d:=11) (v:=.bool ((decide (x1<0)) || (decide (8192<x1)))) rfl (by rw[h27];simp only[qqU]) ?_
 exact az [51]
 refine qc (os:=_) rfl (qz (k:=7) rfl h27 ?_)
 refine au [78,81] ?_
 refine qa (d:=11) (v:=.bool ((decide (x1<0)) || (decide (8192<x1)))) rfl (by rw[h27];simp only[qqT]) ?_
 exact az [51]
 refine qc (os:=_) rfl ?_
 refine av [46,10] ?_ ?_
 intro _
 exact az [47,49,108]
 intro _
 refine av [47,78,24,6,78,23,30,8,25,1,46,10] ?_ ?_
 intro _
 exact az [47,49,108]
 intro _
 refine qj (fun ((x36,_):(Bool×Unit))=>([(21,.bool x36)],[],[],[],qct F x36)) ?_ ?_
 refine av [29,14] ?_ ?_
 intro h38
 refine au [35,4] ?_
 intro x39 e39 b40 o41 h42
 replace h42:a3=some ⟨b40,o41,none⟩:=h42
 refine au [28,4] ?_
 intro h43
 refine qt mixed [] [⟨g5,65,[qsQ x1,qsR a3 x2 c4]⟩] [qC b40 (o41+(isub .i64 (x2.length:Int) 1).toNat*1) ((eI .u8) x39),qsV a3 x2 c4] (.cons 0 rfl .nil) (qf 0 rfl (qf 1 rfl qh)) 20 rfl ?_
 refine au [117] ?_
 refine qe 2 (qsQ (irem x1 8)) rfl rfl rfl (qk3 rfl rfl rfl) ?_
 refine au [6,3,6,4] ?_
 refine qg (d:=26) (v:=.bool true) rfl (by simp only[qsR,h38] <;> rfl) ?_
 refine au [15,5,24,14,6,15,7,24,14,8,28,1,9,6,10] ?_
 refine qg (d:=28) (v:=qsR (some ⟨b40,o41,none⟩) x2 c4) rfl (by simp only[qsR,h42] <;> rfl) (qe 11 (.pointer (some ⟨b40,(o41+(isub .i64 (x2.length:Int) 1).toNat*1),none⟩)) rfl rfl rfl (k8 Tryz.underlying41 tf5 rfl rfl (qo e39).1 (zf e39)) (qg (d:=28) (v:=qsR a3 x2 c4) rfl (by simp only[qsR,h42] <;> rfl) (qJ 12 (.int .u8 x39) [] rfl rfl rfl (q7 (j:=0) rfl tf5 rfl rfl (fun _=>rfl) rfl) ?_)))
 refine au [15,13,24,14,14] ?_
 refine qe 15 (qsQ (irem x1 8)) rfl rfl rfl (qk3 rfl rfl rfl) (qe 16 (.int .u8 (ishl .u8 x39 (irem x1 8))) rfl rfl rfl (qgW rfl rfl h43) ?_)
 refine au [6,17,6,18,6,19,16] ?_
 exact qm (qb ((((ishl .u8 x39 (irem x1 8)):Int) != 0),())) (by intro c h;cases h)
 intro h38
 refine qt mixed [] [⟨g5,65,[qsQ x1,qsR a3 x2 c4]⟩] [qsV a3 x2 c4] (.cons 0 rfl .nil) (qf 0 rfl qh) 20 rfl ?_
 refine au [117] ?_
 refine qe 2 (qsQ (irem x1 8)) rfl rfl rfl (qk3 rfl rfl rfl) ?_
 refine au [6,3,6,4] ?_
 refine qg (d:=26) (v:=.bool false) rfl (by simp only[qsR,h38] <;> rfl) ?_
 refine au [19,5,19,6,19,7,19,8,19,9,19,10,19,11,19,12,19,13,19,14,19,15,19,16,19,17,6,18,6,19,16] ?_
 exact qm (qb (false,())) (by intro c h;cases h)
 rintro ⟨x36,_⟩
 try dsimp only
 refine av [10] ?_ ?_
 intro _
 exact az [47,49,108]
 intro _
 exact az [11,63,47,68]
set_option maxHeartbeats 4000000 in
theorem qkk {F:Nat}{x1:Int}{x2:Int}{x3:Int}{x4:Int}{x5:Int}{x6:qsO}{a7:qsP}{c8:Nat}{r:Int}(hm:qhf F x1 x2 x3 x4 x5 x6=some r) :
    Pure Tryz.prog 195 [.agg #[qsQ x1,qsQ x2,qsQ x3,qsQ x4,qsQ x5,qsR a7 x6 c8]] [qsV a7 x6 c8] Unit (fun _=>qsQ r) (fun _=>[]) (fun _=>[]):=by
 refine qs Tryz.func195 rfl Tryz.ntmps195 rfl hm (fun w=>?_)
 refine au [59,22] ?_
 intro g9
 refine au [71,47,78,24,3,3] ?_
 refine qO 4 (decide (x1<0)) [(1,qsS g9),(11,.bool ((decide (x1<0)) || (decide (100<x1))))] (fun h12=>?_) (fun h12=>?_) ?_
 refine qc (os:=_) rfl (qA (k:=7) rfl h12 ?_)
 refine au [61,7,24,7] ?_
 refine qa (d:=11) (v:=.bool ((decide (x1<0)) || (decide (100<x1)))) rfl (by rw[h12];simp only[qqU]) ?_
 exact az [51]
 refine qc (os:=_) rfl (qz (k:=7) rfl h12 ?_)
 refine au [78,81] ?_
 refine qa (d:=11) (v:=.bool ((decide (x1<0)) || (decide (100<x1)))) rfl (by rw[h12];simp only[qqT]) ?_
 exact az [51]
 refine qc (os:=_) rfl ?_
 refine av [50] ?_ ?_
 intro _
 exact az [47,77]
 intro _
 refine au [82,47,110,29,7] ?_
 intro x15 e15 _
 refine av [58,70] ?_ ?_
 intro _
 exact az [48,77]
 intro _
 refine au [115,110,32,0] ?_
 intro x16 e16 _
 exact az [68]
set_option maxHeartbeats 4000000 in
theorem qkv {F:Nat}{x1:Int}{x2:qsO}{a3:qsP}{c4:Nat}{x5:Int}{r:(Int×Int×Bool)}(hm:qeH F x1 x2 x5=some r) :
    Pure Tryz.prog 265 [.agg #[qsQ x1,qsR a3 x2 c4],qsQ x5] [qsV a3 x2 c4] Unit (fun _=>.tuple #[.int .u64 r.1,qsQ r.2.1,.bool r.2.2]) (fun _=>[]) (fun _=>[]):=by
 refine qs Tryz.func265 rfl Tryz.ntmps265 rfl hm (fun w=>?_)
 refine au [118] ?_
 intro g6
 refine au [5,5,46] ?_
 refine qj (fun ((_,_):(Unit×Unit))=>([],[],[],[],qe8 F)) ?_ ?_
 refine au [48,46,14] ?_
 refine qB (fun ((x33,_):(Int×Unit))=>([(1,qsQ x5),(2,qsS g6),(7,qsQ x33)],[⟨g6,65,[qsQ x1,qsR a3 x2 c4]⟩],[],[qsV a3 x2 c4])) (fun k (s:(Int×Unit))=>qaq F x1 x2 x5 k s.1) (x5,()) F ?_
 intro k40
 rintro ⟨x33,_⟩
 try dsimp only
 refine qH (m':=qe7 F x1 x2 x5 (qaq F x1 x2 x5 k40) x33) rfl ?_
 refine av [1,48,78,91] ?_ ?_
 intro _
 refine au [83,74,3,29,1] ?_
 intro x44 e44 _
 refine av [112] ?_ ?_
 intro _
 exact az [87,25,10,25,11,3,23,5,5,49,92,108]
 intro _
 refine au [11,63,4,3,23,5,0] ?_
 exact qr (iadd .i64 x33 1,())
 intro _
 exact az [73,26,8]
 rintro ⟨_,_⟩
 try dsimp only
 exact az [47,5,5,68]
theorem qf2 (F:Nat)(x1:Int)(x2:qsO)(a3:qsP)(c4:Nat)(x5:Int)(r:(Int×Int×Int))(hm:qcK F x1 x2 x5=some r) :
    Pure Tryz.prog 241 [.agg #[qsQ x1,qsR a3 x2 c4],qsQ x5] [qsV a3 x2 c4] Unit (fun _=>.tuple #[.int .u64 r.1,qsQ r.2.1,qsQ r.2.2]) (fun _=>[]) (fun _=>[]):=by
 refine qs Tryz.func241 rfl Tryz.ntmps241 rfl hm (fun w=>?_)
 refine au [118] ?_
 intro g6
 refine au [5,5,46,74,3,35,5] ?_
 intro x7 e7 _
 refine av [93,18,5,5,85,25,8,50] ?_ ?_
 intro _
 exact az [47,5,5,77]
 intro _
 exact az [57,87,5,5,68]
set_option maxHeartbeats 4000000 in
theorem qk6 {F:Nat}{x1:Int}{x2:qsO}{a3:qsP}{c4:Nat}{x5:Int}{x6:Int}{r:(Int×Bool)}(hm:qca F x1 x2 x5 x6=some r) :
    Pure Tryz.prog 240 [.agg #[qsQ x1,qsR a3 x2 c4],qsQ x5,qsQ x6] [qsV a3 x2 c4] Unit (fun _=>.tuple #[.int .u64 r.1,.bool r.2]) (fun _=>[]) (fun _=>[]):=by
 refine qs Tryz.func240 rfl Tryz.ntmps240 rfl hm (fun w=>?_)
 refine au [111,22] ?_
 intro g7
 refine av [5,71,47,78,3,25,10,3,91] ?_ ?_
 intro _
 exact az [47,5,77]
 intro _
 refine au [57] ?_
 refine qj (fun ((x24,_):(Int×Unit))=>([(6,.int .u64 x24)],[],[],[],qfk F x24)) ?_ ?_
 refine au [87,76] ?_
 refine qB (fun (((x29,x30),_):((Int×Int)×Unit))=>([(1,qsQ x5),(3,qsS g7),(6,.int .u64 x29),(15,qsQ x6),(16,qsQ x30)],[⟨g7,65,[qsQ x1,qsR a3 x2 c4]⟩],[],[qsV a3 x2 c4])) (fun k (s:((Int×Int)×Unit))=>qaR F x1 x2 x5 x6 k s.1) ((0,0),()) F ?_
 intro k35
 rintro ⟨⟨x29,x30⟩,_⟩
 try dsimp only
 refine qH (m':=qfj F x1 x2 x5 x6 (qaR F x1 x2 x5 x6 k35) x29 x30) rfl ?_
 refine av [96] ?_ ?_
 intro _
 refine au [83,48,46,4,3,34,3,24,10,3,3,23,29,1] ?_
 intro x38 e38 _
 refine au [35,6,5,0,99] ?_
 exact qr ((ior .u64 (ishl .u64 x29 1) x38,iadd .i64 x30 1),())
 intro _
 refine au [73] ?_
 exact qb (x29,())
 rintro ⟨x24,_⟩
 try dsimp only
 exact az [48,5,68]
set_option maxHeartbeats 4000000 in
theorem ju {F:Nat}{x1:Int}{x2:qsO}{a3:qsP}{c4:Nat}{x5:Int}{r:(Int×Int×Int)}(hm:k9 F x1 x2 x5=some r) :
    Pure Tryz.prog 242 [.func (.func 241) #[] #[],.agg #[qsQ x1,qsR a3 x2 c4],qsQ x5] [qsV a3 x2 c4] Unit (fun _=>.tuple #[.int .u64 r.1,qsQ r.2.1,qsQ r.2.2]) (fun _=>[]) (fun _=>[]):=by
 refine qs Tryz.func242 rfl Tryz.ntmps242 rfl hm (fun w=>?_)
 refine au [111,22] ?_
 intro g6
 refine au [5,5,58,24,10,3] ?_
 refine qhV ent241 rfl rfl rfl rfl (fun x7 e7=>qf2 F x1 x2 a3 c4 x5 x7 e7) (.consF 0 rfl .nil) (fun x7 e7 _=>?_)
 refine av [93,18,5,5,85,70] ?_ ?_
 intro _
 exact az [48,5,5,77]
 intro _
 refine av [82,48,26,5,50] ?_ ?_
 intro _
 exact az [47,5,5,77]
 intro _
 refine au [57,74,3,3,25,11,30,13] ?_
 intro x10 e10 _
 refine av [93,5,85,25,8,50] ?_ ?_
 intro _
 exact az [47,5,5,77]
 intro _
 refine au [82,87,26,10] ?_
 intro h15
 refine qfY rfl rfl rfl rfl h15 ?_
 refine au [25,10,23,121] ?_
 intro x16 e16
 refine qa (d:=12) (v:=.int .u64 x16) rfl (by simp only[qsR,e16] <;> rfl) ?_
 refine av [45,48,104] ?_ ?_
 intro _
 exact az [47,5,5,77]
 intro _
 exact az [57,87,3,25,11,23,5,5,68]
theorem qg4 {F:Nat}{x1:Int}{x2:qsO}{a3:qsP}{c4:Nat}{x5:Int}{r:(Int×Int×Int)}(hm:qaW F x1 x2 x5=some r) :
    Pure Tryz.prog 200 [.agg #[qsQ x1,qsR a3 x2 c4],qsQ x5] [qsV a3 x2 c4] Unit (fun _=>.tuple #[.int .u64 r.1,qsQ r.2.1,qsQ r.2.2]) (fun _=>[]) (fun _=>[]):=by
 refine qs Tryz.func200 rfl Tryz.ntmps200 rfl hm (fun w=>?_)
 refine au [118] ?_
 intro g6
 refine au [5,5,46,74,3] ?_
 refine qk ju ?_
 intro x7 e7 _
 exact az [66,18,5,5,68]
set_option maxHeartbeats 4000000 in
theorem qiz {F:Nat}{x1:Int}{x2:Int}{x3:Int}{x4:Int}{x5:Int}{x6:qsO}{a7:qsP}{c8:Nat}{x9:Int}{x10:Int}{r:(Int×Int×Bool)}(hm:qgN F x1 x2 x3 x4 x5 x6 x9 x10=some r) :
    Pure Tryz.prog 170 [.agg #[qsQ x1,qsQ x2,qsQ x3,qsQ x4,qsQ x5,qsR a7 x6 c8],qsQ x9,qsQ x10] [qsV a7 x6 c8] Unit (fun _=>.tuple #[qsQ r.1,qsQ r.2.1,.bool r.2.2]) (fun _=>[]) (fun _=>[]):=by
 refine qs Tryz.func170 rfl Tryz.ntmps170 rfl hm (fun w=>?_)
 refine au [111,22] ?_
 intro g11
 refine av [5,5,71,47,9,78,112] ?_ ?_
 intro _
 exact az [48,5,5,77]
 intro _
 refine au [115,110,3,35,7] ?_
 intro x13 e13 _
 refine au [93,18,5,5,85,25,1,3] ?_
 refine zp 9 (fun ((x18,_):(Bool×Unit))=>([(7,qsQ x13.2.1),(9,.int .u64 x13.1),(35,.bool x18)],[],[],[],qd7 F x13 x18)) ?_ ?_
 refine qc (os:=_) rfl ?_
 refine av [25,14] ?_ ?_
 intro h17
 refine qA (k:=26) rfl h17 ?_
 refine au [65,65,106] ?_
 exact qb (true,())
 intro h17
 refine qz (k:=26) rfl h17 ?_
 refine au [3,9,78,3,28,8,25,11,81,0] ?_
 exact qb ((decide ((iconv .u64 (imin x2 x10))<x13.1)),())
 rintro ⟨x18,_⟩
 try dsimp only
 refine qc (os:=_) rfl ?_
 refine av [50] ?_ ?_
 intro _
 exact az [47,5,5,77]
 intro _
 exact az [57,48,25,11,3,5,5,68]
theorem vA (F:Nat)(x1:Bool)(r:(Unit ⊕ Unit))(hm:va F x1=some r) :
    PureL Tryz.prog 245 [.bool x1] [] [] [] lostCh Unit (fun (_:Unit) (_:Unit)=>.tuple #[]) (fun (_:Unit) (_:Unit)=>[]) (fun (_:Unit) (_:Unit)=>[]) (fun (_:Unit)=>[]) r:=by
 refine qfO Tryz.func245 rfl Tryz.ntmps245 rfl hm (fun w=>?_)
 refine av [24,15,48,25,8,50] ?_ ?_
 intro _
 refine au [4,33,4] ?_
 exact qnW rfl rfl (qpo _) rfl (qnZ rfl rfl (qj4 .nil))
 intro _
 refine au [11] ?_
 exact qbN () (.inr rfl) (res0 rfl) rfl .nil .nil
theorem kT (F:Nat)(g1:Nat)(x2:Int)(x3:qsO)(a4:qsP)(c5:Nat)(x6:Int)(x7:Int)(r:((Int×Int×Int) ⊕ (Int×Int)))(hm:km F x2 x3 x6 x7=some r) :
    PureL Tryz.prog 266 [qsS g1,qsQ x7] [⟨g1,263,[qsQ x2,qsR a4 x3 c5,qsQ x6]⟩] [] [qsV a4 x3 c5] lostCh Unit (fun (r:(Int×Int×Int)) (_:Unit)=>qsQ r.1) (fun (r:(Int×Int×Int)) (_:Unit)=>[⟨g1,263,[qsQ r.2.1,qsR a4 x3 c5,qsQ r.2.2]⟩]) (fun (_:(Int×Int×Int)) (_:Unit)=>[]) (fun (z:(Int×Int))=>[⟨g1,263,[qsQ z.1,qsR a4 x3 c5,qsQ z.2]⟩]) r:=by
 refine qfO Tryz.func266 rfl Tryz.ntmps266 rfl hm (fun w=>?_)
 refine au [56,71] ?_
 refine qt mixed [] [⟨g1,263,[qsQ x2,qsR a4 x3 c5,qsQ x6]⟩] [qsV a4 x3 c5] (.cons 0 rfl .nil) (qf 0 rfl qh) 16 rfl ?_
 refine au [69,15,2] ?_
 refine qN 3 (.agg #[qsQ x2,.slice a4 x3.length c5]) rfl rfl rfl (qM (i:=0) rfl tf65 rfl rfl (by simp) rfl) ?_
 refine au [6,4,6,5,15,6,24,14,7,13,8,35,7] ?_
 intro x9 e9 _
 refine au [75,6,9,6,10,6,11,101,6,14,6,15,16] ?_
 refine qm ?_ (by intro c h;cases h)
 refine au [2,48,25,5,3] ?_
 refine qO 5 ((x9.2.2:Int) == 0) [(0,qsS g1),(5,.int .u64 x9.1),(6,qsQ x9.2.1),(28,.bool (((x9.2.2:Int) == 0) && (decide (x9.1≤(iconv .u64 x7)))))] (fun h10=>?_) (fun h10=>?_) ?_
 refine qc (os:=_) rfl (qA (k:=23) rfl h10 ?_)
 refine au [3,3,25,11,28,3,24,7] ?_
 refine qa (d:=28) (v:=.bool (((x9.2.2:Int) == 0) && (decide (x9.1≤(iconv .u64 x7))))) rfl (by rw[h10];simp only[qrd]) ?_
 exact az [51]
 refine qc (os:=_) rfl (qz (k:=23) rfl h10 ?_)
 refine au [65,24,9] ?_
 refine qa (d:=28) (v:=.bool (((x9.2.2:Int) == 0) && (decide (x9.1≤(iconv .u64 x7))))) rfl (by rw[h10];simp only[qq7]) ?_
 exact az [51]
 refine qc (os:=_) rfl (kE ent245 rfl rfl rfl (fun x11 e11=>vA F (((x9.2.2:Int) == 0) && (decide (x9.1≤(iconv .u64 x7)))) x11 e11) .nil .nil .nil (fun x12 _=>?_) (fun x11 e11=>?_))
 exact az [103]
 intro _
 refine au [45,87,55,119,48,25,11,49] ?_
 exact qbN () (.inl rfl) (res1 rfl rfl) rfl (.cons 0 rfl .nil) .nil
set_option maxHeartbeats 4000000 in
theorem qjl {F:Nat}{x1:qsO}{a2:qsP}{c3:Nat}{x4:Int}{r:Int}(hm:qgh F x1 x4=some r) :
    Pure Tryz.prog 289 [qsR a2 x1 c3,qsQ x4] [qsT a2 x1 c3] Unit (fun _=>qsQ r) (fun _=>[]) (fun _=>[]):=by
 refine qs Tryz.func289 rfl Tryz.ntmps289 rfl hm (fun w=>?_)
 refine av [56,71,72,3,23,104] ?_ ?_
 intro _
 exact az [47,77]
 intro _
 refine au [115,46] ?_
 refine qj (fun ((x99,_):(Int×Unit))=>([(1,qsQ x4),(5,qsQ x99)],[],[],[],qdK F x4 x99)) ?_ ?_
 refine au [72,3,76] ?_
 refine qB (fun (((x0,x2),_):((Int×Int)×Unit))=>([(1,qsQ x4),(5,qsQ x0),(13,qsR a2 x1 c3),(14,qsQ (x1.length:Int)),(15,qsQ x2)],[],[],[qsT a2 x1 c3])) (fun k (s:((Int×Int)×Unit))=>y5 F x1 x4 k s.1) ((0,0),()) F ?_
 intro k0
 rintro ⟨⟨x0,x2⟩,_⟩
 try dsimp only
 refine qH (m':=qdJ F x1 x4 (y5 F x1 x4 k0) x0 x2) rfl ?_
 refine av [96] ?_ ?_
 intro _
 refine au [83,48,26,2] ?_
 intro x3 e0 b0 o0
 refine au [25,2,5,85,24,3,3] ?_
 refine zp 7 (fun ((x5,_):(Bool×Unit))=>([(1,qsQ x4),(5,qsQ x0),(7,qsQ x3),(13,qsR a2 x1 c3),(14,qsQ (x1.length:Int)),(15,qsQ x2),(29,.bool x5)],[],[],[qsT a2 x1 c3],qa5 F (y5 F x1 x4 k0) x4 x0 x2 x3 x5)) ?_ ?_
 refine qc (os:=_) rfl ?_
 refine av [25,14] ?_ ?_
 intro h0
 refine qA (k:=22) rfl h0 ?_
 refine au [65,61,106] ?_
 exact qb (true,())
 intro h0
 refine qz (k:=22) rfl h0 ?_
 refine au [3,24,3,3] ?_
 refine qO 3 (decide (x3<1)) [(1,qsQ x4),(5,qsQ x0),(13,qsR a2 x1 c3),(14,qsQ (x1.length:Int)),(15,qsQ x2),(7,qsQ x3),(22,.bool false),(23,qsQ x3),(24,.bool (decide (x3<1))),(25,.bool (decide (x3<1))),(28,.bool ((decide (x3<1)) && (decide (0<x2))))] (fun h1=>?_) (fun h1=>?_) ?_
 refine qc (os:=_) rfl (qA (k:=25) rfl h1 ?_)
 refine au [3,25,0,24,7] ?_
 refine qa (d:=28) (v:=.bool ((decide (x3<1)) && (decide (0<x2)))) rfl (by rw[h1];simp only[qrd]) (qa (d:=25) (v:=.bool (decide (x3<1))) rfl (by simp only[qsR,h1] <;> rfl) ?_)
 exact az [51]
 refine qc (os:=_) rfl (qz (k:=25) rfl h1 ?_)
 refine au [61,24,9] ?_
 refine qa (d:=28) (v:=.bool ((decide (x3<1)) && (decide (0<x2)))) rfl (by rw[h1];simp only[qq7]) (qa (d:=25) (v:=.bool (decide (x3<1))) rfl (by simp only[qsR,h1] <;> rfl) ?_)
 exact az [51]
 refine qc (os:=_) rfl ?_
 refine au [109] ?_
 exact qb (((decide (x3<1)) && (decide (0<x2))),())
 rintro ⟨x5,_⟩
 try dsimp only
 refine qc (os:=_) rfl ?_
 refine av [50] ?_ ?_
 intro _
 exact az [47,60,92,108]
 intro _
 refine au [57,4,3,3,3,23,28,8,88,23,28,8,121] ?_
 intro x6 e1
 refine qa (d:=5) (v:=qsQ x6) rfl (by simp only[qsR,e1] <;> rfl) ?_
 refine au [0,99] ?_
 exact qr ((x6,iadd .i64 x2 1),())
 intro _
 refine au [73] ?_
 exact qb (x0,())
 rintro ⟨x99,_⟩
 try dsimp only
 refine av [1,87,104] ?_ ?_
 intro _
 exact az [47,77]
 intro _
 exact az [115,68]
set_option maxHeartbeats 4000000 in
theorem qiA {F:Nat}{x1:qsO}{a2:qsP}{c3:Nat}{x4:qsO}{a5:qsP}{c6:Nat}{r:qsO}(hm:qfF F x1 x4=some r) :
    Pure Tryz.prog 290 [qsR a2 x1 c3,qsR a5 x4 c6] [qsT a2 x1 c3,qsT a5 x4 c6] (qsP×Nat) (fun g=>qsR g.1 r g.2) (fun g=>[qsU g.1 r g.2]) (fun _=>[]):=by
 refine qs Tryz.func290 rfl Tryz.ntmps290 rfl hm (fun w=>?_)
 refine au [56,84,84,46] ?_
 refine qj (fun (((x0,x2,x3),(a0,c0,a1,c1)):((qsO×qsO×Bool)×(qsP×Nat×qsP×Nat)))=>([(0,qsR a0 x0 c0),(5,qsR a1 x2 c1),(6,.bool x3)],[],[qsU a1 x2 c1],[qsT a0 x0 c0],qdL F x0 x2 x3)) ?_ ?_
 refine au [72,3,76,27,12] ?_
 refine qB (fun (((x5,x6,x7,x8),(a3,c2,a4,c4)):((qsO×qsO×Bool×Int)×(qsP×Nat×qsP×Nat)))=>([(0,qsR a3 x5 c2),(5,qsR a4 x6 c4),(6,.bool x7),(9,qsR a5 x4 c6),(10,qsQ (x4.length:Int)),(11,qsQ x8)],[],[qsU a4 x6 c4],[qsT a3 x5 c2,qsT a5 x4 c6])) (fun k (s:((qsO×qsO×Bool×Int)×(qsP×Nat×qsP×Nat)))=>yJ F x4 k s.1) ((x1,([]:qsO),true,0),(a2,c3,none,0)) F ?_
 intro k0
 rintro ⟨⟨x5,x6,x7,x8⟩,⟨a3,c2,a4,c4⟩⟩
 try dsimp only
 refine qH (m':=qdb F x4 (yJ F x4 k0) x5 x6 x7 x8) rfl ?_
 refine av [96] ?_ ?_
 intro _
 refine au [83,47,28,9] ?_
 intro x9 e0 b0 o0
 refine au [25,2,46] ?_
 refine qj (fun ((x10,(a6,c5)):(qsO×(qsP×Nat)))=>([(0,qsR a3 x5 c2),(5,qsR a6 x10 c5),(6,.bool x7),(8,qsQ x9),(9,qsR a5 x4 c6),(10,qsQ (x4.length:Int)),(11,qsQ x8)],[],[qsU a6 x10 c5],[qsT a3 x5 c2,qsT a5 x4 c6],qav F (yJ F x4 k0) x5 x7 x8 x9 x10)) ?_ ?_
 refine av [48,50] ?_ ?_
 intro _
 refine au [4,3,3,3,35,8] ?_
 intro x11 e1 a7 c7
 refine au [31,2] ?_
 intro x12 e2 a8 c8
 refine au [5,0] ?_
 exact qb (x12,(a8,c8))
 intro _
 refine au [11] ?_
 exact qb (x6,(a4,c4))
 rintro ⟨x10,⟨a6,c5⟩⟩
 try dsimp only
 refine au [4,3,3] ?_
 refine qni (j:=0) (qu .i64) rfl UnF.u inferInstance rfl rfl rfl rfl rfl ?_
 intro x13 e3 a9 c9
 refine au [3,25,8,5,5,0,99] ?_
 exact qr ((x13,x10,(!x7),iadd .i64 x8 1),(a9,c9,a6,c5))
 intro _
 refine au [73] ?_
 exact qb ((x5,x6,x7),(a3,c2,a4,c4))
 rintro ⟨⟨x0,x2,x3⟩,⟨a0,c0,a1,c1⟩⟩
 try dsimp only
 refine qj (fun ((x14,(a10,c10)):(qsO×(qsP×Nat)))=>([(5,qsR a10 x14 c10)],[],[qsU a10 x14 c10],[],qa6 F x14)) ?_ ?_
 refine av [48,50] ?_ ?_
 intro _
 refine au [4,3,3,31,2] ?_
 intro x15 e4 a11 c11
 refine au [5,0] ?_
 exact qb (x15,(a11,c11))
 intro _
 refine au [11] ?_
 exact qb (x2,(a1,c1))
 rintro ⟨x14,⟨a10,c10⟩⟩
 try dsimp only
 refine au [48,49] ?_
 exact qI (a10,c10)
set_option maxHeartbeats 4000000 in
theorem qkn {F:Nat}{x1:qsO}{a2:qsP}{c3:Nat}{x4:qsO}{a5:qsP}{c6:Nat}{r:(qsO×Int)}(hm:qhh F x1 x4=some r) :
    Pure Tryz.prog 267 [qsR a2 x1 c3,qsR a5 x4 c6] [qsT a2 x1 c3,qsT a5 x4 c6] (qsP×Nat) (fun g=>.tuple #[qsR g.1 r.1 g.2,qsQ r.2]) (fun g=>[qsU g.1 r.1 g.2]) (fun _=>[]):=by
 refine qs Tryz.func267 rfl Tryz.ntmps267 rfl hm (fun w=>?_)
 refine au [56,5,58,29,15] ?_
 intro x7 e7 _
 refine au [46] ?_
 refine qj (fun ((x10,_):(Int×Unit))=>([(0,qsR a2 x1 c3),(1,qsR a5 x4 c6),(6,qsQ x10)],[],[],[qsT a2 x1 c3,qsT a5 x4 c6],qcx F x1 x4 x10)) ?_ ?_
 refine av [48,112] ?_ ?_
 intro _
 refine au [4,3,3,24,6] ?_
 refine qk qjl ?_
 intro x16 e16 _
 refine au [5,0] ?_
 exact qb (x16,())
 intro _
 refine au [11] ?_
 exact qb (x7,())
 rintro ⟨x10,_⟩
 try dsimp only
 refine av [1,48,70] ?_ ?_
 intro _
 refine au [48,5,107] ?_
 exact qI (none,0)
 intro _
 refine au [57,87] ?_
 refine qk qiA ?_
 rintro x12 e12 ⟨a13,c14⟩
 refine au [5,49] ?_
 exact qI (a13,c14)
set_option maxHeartbeats 4000000 in
theorem qfg (F:Nat)(g1:Nat)(x2:Int)(x3:qsO)(a4:qsP)(c5:Nat)(x6:Int)(x7:Int)(r:((qsO×Int×Int) ⊕ (Int×Int)))(hm:qck F x2 x3 x6 x7=some r) :
    PureL Tryz.prog 268 [qsS g1,qsQ x7] [⟨g1,263,[qsQ x2,qsR a4 x3 c5,qsQ x6]⟩] [] [qsV a4 x3 c5] lostCh (qsP×Nat) (fun (r:(qsO×Int×Int)) (g:(qsP×Nat))=>qsR g.1 r.1 g.2) (fun (r:(qsO×Int×Int)) (_:(qsP×Nat))=>[⟨g1,263,[qsQ r.2.1,qsR a4 x3 c5,qsQ r.2.2]⟩]) (fun (r:(qsO×Int×Int)) (g:(qsP×Nat))=>[qsU g.1 r.1 g.2]) (fun (z:(Int×Int))=>[⟨g1,263,[qsQ z.1,qsR a4 x3 c5,qsQ z.2]⟩]) r:=by
 refine qfO Tryz.func268 rfl Tryz.ntmps268 rfl hm (fun w=>?_)
 refine au [56,58,3,23] ?_
 refine kE ent266 rfl rfl rfl (fun x8 e8=>kT F g1 x2 x3 a4 c5 x6 (iadd .i64 x7 1) x8 e8) (.cons 0 rfl .nil) .nil (.consF 0 rfl .nil) (fun x9 _=>?_) (fun x8 e8=>?_)
 exact az [103]
 intro _
 refine au [26,0] ?_
 intro x10 e10 a11 c12
 refine au [46] ?_
 refine qj (fun (((x72,x73,x74),_):((qsO×Int×Int)×Unit))=>([(5,qsR a11 x72 c12)],[⟨g1,263,[qsQ x73,qsR a4 x3 c5,qsQ x74]⟩],[qsU a11 x72 c12],[qsV a4 x3 c5],qaL F x72 x73 x74)) ?_ ?_
 refine au [72,3,76] ?_
 refine qB (fun (((x93,x94,x95,x96),_):((qsO×Int×Int×Int)×Unit))=>([(0,qsS g1),(1,qsQ x7),(5,qsR a11 x93 c12),(13,qsQ (x10.length:Int)),(14,qsQ x94)],[⟨g1,263,[qsQ x95,qsR a4 x3 c5,qsQ x96]⟩],[qsU a11 x93 c12],[qsV a4 x3 c5])) (fun k (s:((qsO×Int×Int×Int)×Unit))=>yq F x3 x7 x10 k s.1) ((x10,0,x8.2.1,x8.2.2),()) F ?_
 intro k0
 rintro ⟨⟨x93,x94,x95,x96⟩,_⟩
 try dsimp only
 refine qH (m':=qaK F x3 x7 x10 (yq F x3 x7 x10 k0) x93 x94 x95 x96) rfl ?_
 refine av [96] ?_ ?_
 intro _
 refine au [83,48,46,4,3,3,3,3] ?_
 refine kE ent266 rfl rfl rfl (fun x0 e0=>kT F g1 x95 x3 a4 c5 x96 x7 x0 e0) (.cons 0 rfl .nil) .nil (.consF 0 rfl .nil) (fun x1 _=>?_) (fun x0 e0=>?_)
 exact az [28,6,25,12,25,12,28,6,103]
 intro _
 refine au [3,28,8,23,26,3] ?_
 intro x4 e1 g0 h0
 refine zX (j:=0) (y':=iadd .i64 x0.1 (imin x94 1)) (qu .i64) rfl rfl rfl tf3 rfl h0 (qo e1).2.1 rfl (fun x5 e2 h1=>?_)
 have h2:x5.length=x93.length:=by rw[← e2,qqR]
 refine qa (d:=5) (v:=qsR a11 x5 c12) rfl h1 (qa (d:=17) (v:=qsR a11 x5 c12) rfl h1 ?_)
 refine au [0,99] ?_
 exact qr ((x5,iadd .i64 x94 1,x0.2.1,x0.2.2),())
 intro _
 refine au [73] ?_
 exact qb ((x93,x95,x96),())
 rintro ⟨⟨x72,x73,x74⟩,_⟩
 try dsimp only
 refine au [48,49] ?_
 exact qbN (a11,c12) (.inl rfl) (res1 rfl rfl) rfl (.cons 0 rfl .nil) (.cons 0 rfl .nil)
theorem qik {F:Nat}{x1:Int}{r:Int}(hm:qcI F x1=some r) :
    Pure Tryz.prog 291 [.int .u64 x1] [] Unit (fun _=>qsQ r) (fun _=>[]) (fun _=>[]):=by
 refine qs Tryz.func291 rfl Tryz.ntmps291 rfl hm (fun w=>?_)
 refine au [59,58,27,2,25,11,3,28,7,25,11] ?_
 refine qpI rfl rfl rfl ?_
 refine au [34,4,121] ?_
 intro x2 e2
 refine qa (d:=2) (v:=qsQ x2) rfl (by simp only[qsR,e2] <;> rfl) ?_
 exact az [45,8,24,0]
set_option maxHeartbeats 4000000 in
theorem qgH (F:Nat)(g1:Nat)(x2:Int)(x3:qsO)(a4:qsP)(c5:Nat)(x6:Int)(x7:Int)(x8:Int)(x9:Int)(r:((List (Int×Int)×Int×Int) ⊕ (Int×Int)))(hm:qdk F x2 x3 x6 x7 x8 x9=some r) :
    PureL Tryz.prog 269 [qsS g1,qsQ x7,qsQ x8,qsQ x9] [⟨g1,263,[qsQ x2,qsR a4 x3 c5,qsQ x6]⟩] [] [qsV a4 x3 c5] lostCh (qsP×Nat) (fun (r:(List (Int×Int)×Int×Int)) (g:(qsP×Nat))=>qsR g.1 r.1 g.2) (fun (r:(List (Int×Int)×Int×Int)) (_:(qsP×Nat))=>[⟨g1,263,[qsQ r.2.1,qsR a4 x3 c5,qsQ r.2.2]⟩]) (fun (r:(List (Int×Int)×Int×Int)) (g:(qsP×Nat))=>[Ro eS209 209 2 (qsR g.1 r.1 g.2) r.1]) (fun (z:(Int×Int))=>[⟨g1,263,[qsQ z.1,qsR a4 x3 c5,qsQ z.2]⟩]) r:=by
 refine qfO Tryz.func269 rfl Tryz.ntmps269 rfl hm (fun w=>?_)
 refine au [28,5,47,58,3,3,26,10] ?_
 intro h10
 refine qkZ rfl rfl rfl rfl h10 (kE ent266 rfl rfl rfl (fun x11 e11=>kT F g1 x2 x3 a4 c5 x6 (iquo .i64 x9 x8) x11 e11) (.cons 0 rfl .nil) .nil (.consF 0 rfl .nil) (fun x12 _=>?_) (fun x11 e11=>?_))
 exact az [103]
 intro _
 refine qnl qer (by decide) rfl UnF.u inferInstance rfl rfl rfl rfl rfl rfl ?_
 intro x13 e13 a14 c15
 refine au [58,46] ?_
 refine qj (fun (((x0,x1,x4),_):((List (Int×Int)×Int×Int)×Unit))=>([(9,qsR a14 x0 c15)],[⟨g1,263,[qsQ x1,qsR a4 x3 c5,qsQ x4]⟩],[Ro eS209 209 2 (qsR a14 x0 c15) x0],[qsV a4 x3 c5],qbu F x0 x1 x4)) ?_ ?_
 refine au [72,3,76] ?_
 refine qB (fun (((x5,x10,x14,x15,x16),_):((List (Int×Int)×Int×Int×Int×Int)×Unit))=>([(0,qsS g1),(2,qsQ x8),(3,qsQ x9),(9,qsR a14 x5 c15),(10,qsQ x10),(21,qsQ (x13.length:Int)),(22,qsQ x14)],[⟨g1,263,[qsQ x15,qsR a4 x3 c5,qsQ x16]⟩],[Ro eS209 209 2 (qsR a14 x5 c15) x5],[qsV a4 x3 c5])) (fun k (s:((List (Int×Int)×Int×Int×Int×Int)×Unit))=>kR F x3 x8 x9 x13 k s.1) ((x13,x7,0,x11.2.1,x11.2.2),()) F ?_
 intro k0
 rintro ⟨⟨x5,x10,x14,x15,x16⟩,_⟩
 try dsimp only
 refine qH (m':=qa8 F x3 x8 x9 x13 (kR F x3 x8 x9 x13 k0) x5 x10 x14 x15 x16) rfl ?_
 refine av [96] ?_ ?_
 intro _
 refine au [83,48,58] ?_
 refine kE ent266 rfl rfl rfl (fun x17 e0=>kT F g1 x15 x3 a4 c5 x16 2097152 x17 e0) (.cons 0 rfl .nil) .nil (.consF 0 rfl .nil) (fun x18 _=>?_) (fun x17 e0=>?_)
 exact az [25,12,28,6,25,12,25,12,28,6,103]
 intro _
 refine au [46] ?_
 refine qj (fun ((x19,_):(Int×Unit))=>([(0,qsS g1),(2,qsQ x8),(3,qsQ x9),(9,qsR a14 x5 c15),(10,qsQ x19),(11,qsQ x14),(21,qsQ (x13.length:Int)),(22,qsQ x14)],[⟨g1,263,[qsQ x17.2.1,qsR a4 x3 c5,qsQ x17.2.2]⟩],[Ro eS209 209 2 (qsR a14 x5 c15) x5],[qsV a4 x3 c5],vN F (kR F x3 x8 x9 x13 k0) x3 x8 x9 x5 x14 x17 x19)) ?_ ?_
 refine av [48,112] ?_ ?_
 intro _
 refine au [4,3,3,25,11,35,9] ?_
 intro x20 e1 _
 refine au [23,5,0] ?_
 exact qb (iadd .i64 x10 x20,())
 intro _
 refine au [4,3,3,23,23,5,0] ?_
 exact qb (iadd .i64 x10 (iadd .i64 x17.1 2),())
 rintro ⟨x19,_⟩
 try dsimp only
 refine au [87,3,3,3] ?_
 refine kE ent266 rfl rfl rfl (fun x21 e2=>kT F g1 x17.2.1 x3 a4 c5 x17.2.2 x9 x21 e2) (.cons 0 rfl .nil) .nil (.consF 0 rfl .nil) (fun x22 _=>?_) (fun x21 e2=>?_)
 exact az [25,12,28,6,25,12,25,12,28,6,103]
 intro _
 refine au [3,23] ?_
 refine qq (cells:=[qsQ x19,qsQ (iadd .i64 x21.1 x8)]) rfl st209 rfl (by kernel_rfl) rfl ?_
 refine au [26,3] ?_
 intro x23 e3 g0 h0
 refine zX (j:=0) (y':=(x19,iadd .i64 x21.1 x8)) qer rfl rfl rfl tf209 rfl h0 (qo e3).2.1 rfl (fun x24 e4 h1=>?_)
 have h2:x24.length=x5.length:=by rw[← e4,qqR]
 refine qa (d:=9) (v:=qsR a14 x24 c15) rfl h1 (qa (d:=38) (v:=qsR a14 x24 c15) rfl h1 ?_)
 refine au [45,4,3,3,3,26,3] ?_
 intro x25 e5 g2 h3
 refine au [9] ?_
 refine qmQ (j:=0) (y:=x25) (off:=1) qer rfl rfl tf3 rfl h3 (qo e5).2.2 rfl (fun _=>rfl) rfl rfl ?_
 refine au [25,10,23,5,0,99] ?_
 exact qr ((x24,iadd .i64 x19 (isub .i64 x25.2 1),iadd .i64 x14 1,x21.2.1,x21.2.2),())
 intro _
 refine au [73] ?_
 exact qb ((x5,x15,x16),())
 rintro ⟨⟨x0,x1,x4⟩,_⟩
 try dsimp only
 refine au [48,49] ?_
 exact qbN (a14,c15) (.inl rfl) (res1 rfl rfl) rfl (.cons 0 rfl .nil) (.cons 0 rfl .nil)
set_option maxHeartbeats 4000000 in
theorem qe9 {F:Nat}{x1:qsO}{a2:qsP}{c3:Nat}{x4:Int}{r:qsO}(hm:qbq F x1 c3 x4=some r) :
    PureM Tryz.prog 295 [qsR a2 x1 c3,qsQ x4] [] [qsU a2 x1 c3] [] (qsP×Nat) (fun g=>qsR g.1 r g.2) (fun _=>[]) (fun g=>[qsU g.1 r g.2]):=by
 refine qE Tryz.func295 rfl Tryz.ntmps295 rfl hm (fun w=>?_)
 refine av [56,85,91] ?_ ?_
 intro _
 exact az [29,10]
 intro _
 refine au [57] ?_
 refine qj (fun ((x15,(a13,c14)):(qsO×(qsP×Nat)))=>([(0,qsR a13 x15 c14)],[],[qsU a13 x15 c14],[],vf F x15)) ?_ ?_
 refine au [87,35,10,3,24,6,25,10,25,10,121] ?_
 intro x16 e16
 refine qa (d:=1) (v:=qsQ x16) rfl (by simp only[qsR,e16] <;> rfl) ?_
 refine av [45,48,104] ?_ ?_
 intro _
 refine au [4,3,3,35,10,35,11] ?_
 intro x17 e17
 refine au [3] ?_
 refine qoN (y:=(0:Int)) 0 (qu .i64) rfl UnF.u UnF.u inferInstance rfl rfl rfl rfl rfl rfl rfl rfl rfl ?_
 intro x18 e18 a19 c20
 refine au [3,24,6,35,11] ?_
 intro x21 e21
 refine au [5,0] ?_
 exact qb (x21,(a19,c20))
 intro _
 refine au [11] ?_
 exact qb (x1,(a2,c3))
 rintro ⟨x15,⟨a13,c14⟩⟩
 try dsimp only
 refine au [48,49] ?_
 exact qX (a13,c14)
set_option maxHeartbeats 4000000 in
theorem qeh {F:Nat}{x1:List (qsO)}{a2:qsP}{c3:Nat}{s3:List (qsP×Nat)}{r:qsO}(hm:vv F x1=some r) :
    Pure Tryz.prog 272 [qsR a2 x1 c3] [SlN eN56 iN56 1 (qsR a2 x1 c3) x1 s3] (qsP×Nat) (fun g=>qsR g.1 r g.2) (fun g=>[qsU g.1 r g.2]) (fun _=>[]):=by
 refine qs Tryz.func272 rfl Tryz.ntmps272 rfl hm (fun w=>?_)
 refine au [59,84,46] ?_
 refine qj (fun ((x43,_):(Int×Unit))=>([(0,qsR a2 x1 c3),(3,qsQ x43)],[],[],[SlN eN56 iN56 1 (qsR a2 x1 c3) x1 s3],jH F x1 x43)) ?_ ?_
 refine au [72,3,76] ?_
 refine qB (fun (((x0,x2),_):((Int×Int)×Unit))=>([(0,qsR a2 x1 c3),(3,qsQ x0),(9,qsR a2 x1 c3),(10,qsQ (x1.length:Int)),(11,qsQ x2)],[],[],[SlN eN56 iN56 1 (qsR a2 x1 c3) x1 s3])) (fun k (s:((Int×Int)×Unit))=>kO F x1 k s.1) ((0,0),()) F ?_
 intro k0
 rintro ⟨⟨x0,x2⟩,_⟩
 try dsimp only
 refine qH (m':=jG F x1 (kO F x1 k0) x0 x2) rfl ?_
 refine av [96] ?_ ?_
 intro _
 refine au [83,47,27,1] ?_
 intro x3 e0 g0 b0 o0
 refine av [25,2,58,3,24,6,23,58,91] ?_ ?_
 intro _
 exact az [29,10]
 intro _
 refine au [11,99] ?_
 exact qr ((iadd .i64 x0 (x3.length:Int),iadd .i64 x2 1),())
 intro _
 refine au [73] ?_
 exact qb (x0,())
 rintro ⟨x43,_⟩
 try dsimp only
 refine au [48,26,9] ?_
 refine qF qe9 ?_
 rintro x44 e44 ⟨a45,c46⟩
 refine au [46] ?_
 refine qj (fun ((x4,(a0,c0)):(qsO×(qsP×Nat)))=>([(6,qsR a0 x4 c0)],[],[qsU a0 x4 c0],[],jI F x4)) ?_ ?_
 refine au [72,3,76] ?_
 refine qB (fun (((x5,x6),(a1,c1)):((qsO×Int)×(qsP×Nat)))=>([(6,qsR a1 x5 c1),(25,qsR a2 x1 c3),(26,qsQ (x1.length:Int)),(27,qsQ x6)],[],[qsU a1 x5 c1],[SlN eN56 iN56 1 (qsR a2 x1 c3) x1 s3])) (fun k (s:((qsO×Int)×(qsP×Nat)))=>kN F x1 k s.1) ((x44,0),(a45,c46)) F ?_
 intro k1
 rintro ⟨⟨x5,x6⟩,⟨a1,c1⟩⟩
 try dsimp only
 refine qH (m':=jF F x1 (kN F x1 k1) x5 x6) rfl ?_
 refine av [96] ?_ ?_
 intro _
 refine au [83,47,27,1] ?_
 intro x7 e1 g1 b1 o1
 refine au [25,2,46,4,3,3] ?_
 refine zu 0 (qu .i64) rfl UnF.u inferInstance rfl rfl rfl rfl rfl (.inr ⟨1,rfl⟩) rfl rfl ?_
 intro x8 e2 a3 c2
 refine au [5,0,99] ?_
 exact qr ((x8,iadd .i64 x6 1),(a3,c2))
 intro _
 refine au [73] ?_
 exact qb (x5,(a1,c1))
 rintro ⟨x4,⟨a0,c0⟩⟩
 try dsimp only
 refine au [48,49] ?_
 exact qI (a0,c0)
theorem qjp {F:Nat}{x1:Int}{x2:Int}{x3:Int}{r:Bool}(hm:qd9 F x1 x2 x3=some r) :
    Pure Tryz.prog 301 [qsQ x1,qsQ x2,qsQ x3] [] Unit (fun _=>.bool r) (fun _=>[]) (fun _=>[]):=by
 refine qs Tryz.func301 rfl Tryz.ntmps301 rfl hm (fun w=>?_)
 refine au [111,58,3,26,5,3] ?_
 refine qO 4 (decide (x2≤x1)) [(14,.bool ((decide (x2≤x1)) && (decide (x1≤x3))))] (fun h4=>?_) (fun h4=>?_) ?_
 refine qc (os:=_) rfl (qA (k:=10) rfl h4 ?_)
 refine au [3,3,28,3,24,7] ?_
 refine qa (d:=14) (v:=.bool ((decide (x2≤x1)) && (decide (x1≤x3)))) rfl (by rw[h4];simp only[qrd]) ?_
 exact az [51]
 refine qc (os:=_) rfl (qz (k:=10) rfl h4 ?_)
 refine au [61,7,24,9] ?_
 refine qa (d:=14) (v:=.bool ((decide (x2≤x1)) && (decide (x1≤x3)))) rfl (by rw[h4];simp only[qq7]) ?_
 exact az [51]
 refine qc (os:=_) rfl ?_
 exact az [68]
set_option maxHeartbeats 4000000 in
theorem qjo {F:Nat}{x1:List (Int×Int)}{a2:qsP}{c3:Nat}{r:(qsO×Int)}(hm:qgm F x1=some r) :
    Pure Tryz.prog 292 [qsR a2 x1 c3] [Sl eS209 2 (qsR a2 x1 c3) x1] (qsP×Nat) (fun g=>.tuple #[qsR g.1 r.1 g.2,qsQ r.2]) (fun g=>[qsU g.1 r.1 g.2]) (fun _=>[]):=by
 refine qs Tryz.func292 rfl Tryz.ntmps292 rfl hm (fun w=>?_)
 refine av [59,5,71,72,104] ?_ ?_
 intro _
 refine au [47,5,107] ?_
 exact qI (none,0)
 intro _
 refine au [115,46] ?_
 refine qj (fun ((_,_):(Unit×Unit))=>([(0,qsR a2 x1 c3)],[],[],[Sl eS209 2 (qsR a2 x1 c3) x1],qdS F x1)) ?_ ?_
 refine au [72,3,76] ?_
 refine qB (fun (((x0,x2),_):((Int×Int)×Unit))=>([(0,qsR a2 x1 c3),(4,qsQ x0),(14,qsR a2 x1 c3),(15,qsQ (x1.length:Int)),(16,qsQ x2)],[],[],[Sl eS209 2 (qsR a2 x1 c3) x1])) (fun k (s:((Int×Int)×Unit))=>y7 F x1 k s.1) ((-2,0),()) F ?_
 intro k0
 rintro ⟨⟨x0,x2⟩,_⟩
 try dsimp only
 refine qH (m':=qdR F x1 (y7 F x1 k0) x0 x2) rfl ?_
 refine av [96] ?_ ?_
 intro _
 refine au [83,47,31,13] ?_
 intro x3 e0 b0 o0
 refine au [28,14,24,4] ?_
 intro g0
 refine au [119,1,14] ?_
 refine qj (fun ((x4,_):(Bool×Unit))=>([(0,qsR a2 x1 c3),(4,qsQ x0),(6,qsS g0),(14,qsR a2 x1 c3),(15,qsQ (x1.length:Int)),(16,qsQ x2),(20,.bool x4)],[⟨g0,209,[qsQ x3.1,qsQ x3.2]⟩],[],[Sl eS209 2 (qsR a2 x1 c3) x1],jq F (y7 F x1 k0) x0 x2 x3 x4)) ?_ ?_
 refine au [47,78,35,12] ?_
 intro x5 e1 _
 refine av [25,8,46,10] ?_ ?_
 intro _
 refine au [11] ?_
 exact qb ((!x5),())
 intro _
 refine au [47,78,35,12] ?_
 intro x6 e2 _
 refine av [25,8,46,10] ?_ ?_
 intro _
 refine au [11] ?_
 exact qb ((!x6),())
 intro _
 refine au [4,78,78,23,25,10,25,0,5,0] ?_
 exact qb ((decide (1048576<(isub .i64 (iadd .i64 x3.1 x3.2) 1))),())
 rintro ⟨x4,_⟩
 try dsimp only
 refine av [10] ?_ ?_
 intro _
 refine au [47,5,49,52,92,52,25,9] ?_
 exact qI (none,0)
 intro _
 refine av [47,78,3,23,24,3,46,10] ?_ ?_
 intro _
 refine au [47,5,49,52,92,52,25,9] ?_
 exact qI (none,0)
 intro _
 refine au [11,63,4,78,78,23,25,10,5,0,99] ?_
 exact qr ((isub .i64 (iadd .i64 x3.1 x3.2) 1,iadd .i64 x2 1),())
 intro _
 exact az [73,26,8]
 rintro ⟨_,_⟩
 try dsimp only
 refine au [47,46] ?_
 refine qj (fun ((x7,(a0,c0)):(qsO×(qsP×Nat)))=>([(7,qsR a0 x7 c0)],[],[qsU a0 x7 c0],[],qdT F x7)) ?_ ?_
 refine au [72,3,76,27,12] ?_
 refine qB (fun (((x8,x9),(a1,c1)):((qsO×Int)×(qsP×Nat)))=>([(7,qsR a1 x8 c1),(49,qsR a2 x1 c3),(50,qsQ (x1.length:Int)),(51,qsQ x9)],[],[qsU a1 x8 c1],[Sl eS209 2 (qsR a2 x1 c3) x1])) (fun k (s:((qsO×Int)×(qsP×Nat)))=>ko F x1 k s.1) ((([]:qsO),0),(none,0)) F ?_
 intro k1
 rintro ⟨⟨x8,x9⟩,⟨a1,c1⟩⟩
 try dsimp only
 refine qH (m':=qdP F x1 (ko F x1 k1) x8 x9) rfl ?_
 refine av [96] ?_ ?_
 intro _
 refine au [57] ?_
 refine qj (fun ((x10,(a3,c2)):(qsO×(qsP×Nat)))=>([(7,qsR a3 x10 c2),(49,qsR a2 x1 c3),(50,qsQ (x1.length:Int)),(51,qsQ x9)],[],[qsU a3 x10 c2],[Sl eS209 2 (qsR a2 x1 c3) x1],qdU F (ko F x1 k1) x9 x10)) ?_ ?_
 refine au [14,47,31,13] ?_
 intro x11 e3 b1 o1
 refine au [28,14,24,4] ?_
 intro g1
 refine au [119,47,78,3,76] ?_
 refine qB (fun (((x12,x13),(a4,c4)):((qsO×Int)×(qsP×Nat)))=>([(7,qsR a4 x12 c4),(9,qsS g1),(49,qsR a2 x1 c3),(50,qsQ (x1.length:Int)),(51,qsQ x9),(56,qsQ x11.2),(57,qsQ x13)],[⟨g1,209,[qsQ x11.1,qsQ x11.2]⟩],[qsU a4 x12 c4],[Sl eS209 2 (qsR a2 x1 c3) x1])) (fun k (s:((qsO×Int)×(qsP×Nat)))=>jr F (ko F x1 k1) x9 x11 k s.1) ((x8,0),(a1,c1)) F ?_
 intro k2
 rintro ⟨⟨x12,x13⟩,⟨a4,c4⟩⟩
 try dsimp only
 refine qH (m':=qdQ F (ko F x1 k1) x9 x11 (jr F (ko F x1 k1) x9 x11 k2) x12 x13) rfl ?_
 refine av [96] ?_ ?_
 intro _
 refine au [83,48,46,4,3,78,3,23] ?_
 refine qV (vs:=[qsQ (iadd .i64 x11.1 x13)]) (ys:=([iadd .i64 x11.1 x13]:qsO)) (qu .i64) (by decide) rfl Tryz.underlying56 tf3 rfl rfl rfl rfl rfl (by decide) (fun a5 c5=>zu 1 (qu .i64) rfl Tryz.underlying56 tf3 rfl rfl rfl rfl rfl (.inl ⟨0,_,rfl⟩) rfl rfl (fun x14 e4 a6 c6=>?_))
 refine au [5,0,99] ?_
 exact qr ((x14,iadd .i64 x13 1),(a6,c6))
 intro _
 refine au [73,24,2] ?_
 exact qb (x12,(a4,c4))
 rintro ⟨x10,⟨a3,c2⟩⟩
 try dsimp only
 refine au [98] ?_
 exact qr ((x10,iadd .i64 x9 1),(a3,c2))
 intro _
 refine au [73] ?_
 exact qb (x8,(a1,c1))
 rintro ⟨x7,⟨a0,c0⟩⟩
 try dsimp only
 refine au [48,5,49] ?_
 exact qI (a0,c0)
set_option maxHeartbeats 4000000 in
theorem qkp {F:Nat}{x1:List (Int×Int)}{a2:qsP}{c3:Nat}{x4:qsO}{a5:qsP}{c6:Nat}{r:(qsO×Int)}(hm:qhi F x1 x4=some r) :
    Pure Tryz.prog 270 [qsR a2 x1 c3,qsR a5 x4 c6] [Sl eS209 2 (qsR a2 x1 c3) x1,qsT a5 x4 c6] (qsP×Nat) (fun g=>.tuple #[qsR g.1 r.1 g.2,qsQ r.2]) (fun g=>[qsU g.1 r.1 g.2]) (fun _=>[]):=by
 refine qs Tryz.func270 rfl Tryz.ntmps270 rfl hm (fun w=>?_)
 refine au [56,5,58] ?_
 refine qk qjo ?_
 rintro x7 e7 ⟨a8,c9⟩
 refine au [93,5,46] ?_
 refine qj (fun ((x12,_):(Int×Unit))=>([(1,qsR a5 x4 c6),(6,qsR a8 x7.1 c9),(7,qsQ x12)],[],[qsU a8 x7.1 c9],[qsT a5 x4 c6],qcz F x4 x7 x12)) ?_ ?_
 refine av [48,112] ?_ ?_
 intro _
 refine au [4,3,29,15] ?_
 intro x38 e38 _
 refine au [5,0] ?_
 exact qb (x38,())
 intro _
 refine au [11] ?_
 exact qb (x7.2,())
 rintro ⟨x12,_⟩
 try dsimp only
 refine av [1,48,70] ?_ ?_
 intro _
 refine au [48,5,107] ?_
 exact qI (none,0)
 intro _
 refine au [57,87,32,1] ?_
 refine qV (vs:=[qsR a8 x7.1 c9,qsR a5 x4 c6]) (ys:=([(x7.1,(a8,c9)),(x4,(a5,c6))]:List (qsO×(qsP×Nat)))) qy (by decide) rfl Tryz.underlying22 tf56 rfl rfl rfl rfl rfl (by decide) (fun a14 c15=>qj3 (inn:=iN56) ([x7.1,x4]:List (qsO)) ([(a8,c9),(a5,c6)]:List (qsP×Nat)) 0 rfl rfl (qp 0 rfl (qp 1 rfl zx)) ?_)
 refine au [35,13] ?_
 rintro x16 e16 ⟨a17,c18⟩
 refine au [58,31,5] ?_
 intro x19 e19 _
 refine au [26,10] ?_
 intro h20
 replace h20:=of_decide_eq_true h20
 refine qa (d:=8) (v:=qsR a17 x19 c18) rfl (by simp only[qsR,h20] <;> rfl) (qa (d:=24) (v:=qsR a17 x19 c18) rfl (by simp only[qsR,h20] <;> rfl) (qa (d:=25) (v:=qsR a17 x19 c18) rfl (by simp only[qsR,h20] <;> rfl) ?_))
 refine au [45,1,14,48,32,12] ?_
 rintro x29 e29 ⟨a30,c31⟩
 refine au [32,14] ?_
 rintro x32 e32 ⟨a33,c34⟩
 refine av [122,24,6,24,3,46,10] ?_ ?_
 intro _
 refine au [47,5,49,52,25,9] ?_
 exact qI (none,0)
 intro _
 refine av [72,25,0,46,10] ?_ ?_
 intro _
 refine au [47,5,49,52,25,9] ?_
 exact qI (none,0)
 intro _
 refine au [11,63,48,5,49] ?_
 exact qI (a17,c18)
set_option maxHeartbeats 4000000 in
theorem qgB {F:Nat}{x1:Int}{x2:qsO}{a3:qsP}{c4:Nat}{x5:Int}{x6:Int}{r:(Int×Int×Bool)}(hm:qc4 F x1 x2 x5 x6=some r) :
    Pure Tryz.prog 302 [.agg #[qsQ x1,qsR a3 x2 c4],qsQ x5,.int .u64 x6] [qsV a3 x2 c4] Unit (fun _=>.tuple #[.int .u64 r.1,qsQ r.2.1,.bool r.2.2]) (fun _=>[]) (fun _=>[]):=by
 refine qs Tryz.func302 rfl Tryz.ntmps302 rfl hm (fun w=>?_)
 refine au [111,22] ?_
 intro g7
 refine au [5,5,58,34,6] ?_
 intro x8 e8 _
 refine au [93,5,46] ?_
 refine qj (fun ((_,_):(Unit×Unit))=>([(1,qsQ x5),(3,qsS g7),(9,qsQ x8.1),(10,.int .u64 x8.2)],[⟨g7,65,[qsQ x1,qsR a3 x2 c4]⟩],[],[qsV a3 x2 c4],v7 F x1 x2 x5 x8)) ?_ ?_
 refine av [48,104] ?_ ?_
 intro _
 refine au [74,3,3,25,10,30,13] ?_
 intro x15 e15 _
 refine av [93,5,85,25,8,50] ?_ ?_
 intro _
 exact az [47,5,5,60,12,24,0]
 intro _
 refine av [57,87,91] ?_ ?_
 intro _
 exact az [87,3,23,25,10,5,5,77]
 intro _
 exact az [11,26,8]
 intro _
 exact az [11,26,8]
 rintro ⟨_,_⟩
 try dsimp only
 refine au [74,3,3,30,13] ?_
 intro x14 e14 _
 exact az [93,5,58,3,25,10,3,3,88,5,5,68]
theorem qiw {F:Nat}{x1:Int}{x2:Int}{x3:Bool}{r:(Int×Int×Int)}(hm:qfy F x1 x2 x3=some r) :
    Pure Tryz.prog 303 [.int .u64 x1,qsQ x2,.bool x3] [] Unit (fun _=>.tuple #[.int .u64 r.1,qsQ r.2.1,qsQ r.2.2]) (fun _=>[]) (fun _=>[]):=by
 refine qs Tryz.func303 rfl Tryz.ntmps303 rfl hm (fun w=>?_)
 refine av [111,5,5,71,14,48,25,8,46,10] ?_ ?_
 intro _
 exact az [47,5,5,49,108]
 intro _
 refine av [48,25,0,46,10] ?_ ?_
 intro _
 exact az [47,5,5,49,108]
 intro _
 exact az [11,63,87,5,5,68]
set_option maxHeartbeats 4000000 in
theorem qg6 {F:Nat}{x1:Int}{x2:qsO}{a3:qsP}{c4:Nat}{x5:Int}{x6:Int}{r:(Int×Int×Int)}(hm:qdF F x1 x2 x5 x6=some r) :
    Pure Tryz.prog 293 [.agg #[qsQ x1,qsR a3 x2 c4],qsQ x5,qsQ x6] [qsV a3 x2 c4] Unit (fun _=>.tuple #[.int .u64 r.1,qsQ r.2.1,qsQ r.2.2]) (fun _=>[]) (fun _=>[]):=by
 refine qs Tryz.func293 rfl Tryz.ntmps293 rfl hm (fun w=>?_)
 refine au [111,22] ?_
 intro g7
 refine au [5,5,46,74,3,35,5] ?_
 intro x8 e8 _
 refine av [93,18,5,5,85,25,8,50] ?_ ?_
 intro _
 exact az [47,5,5,77]
 intro _
 refine av [82,87,25,11,27,11,26,5,50] ?_ ?_
 intro _
 exact az [47,5,5,77]
 intro _
 refine au [57,48,25,11,3,27,11,26,10] ?_
 intro h11
 refine qfY rfl rfl rfl rfl h11 ?_
 refine au [121] ?_
 intro x12 e12
 refine qa (d:=12) (v:=.int .u64 x12) rfl (by simp only[qsR,e12] <;> rfl) ?_
 refine au [45,1,28,4] ?_
 intro h17
 refine qt mixed [] [⟨g7,65,[qsQ x1,.slice a3 x2.length c4]⟩] [Sl (eI .u8) 1 (.slice a3 x2.length c4) x2] (.cons 0 rfl .nil) (qf 0 rfl qh) 15 rfl (qN 0 (.agg #[qsQ x1,.slice a3 x2.length c4]) rfl rfl rfl (qM (i:=0) rfl tf65 rfl rfl (by simp) rfl) ?_)
 refine au [6,1,6,2,6,3] ?_
 refine qe 4 (.int .u64 (ishl .u64 x12 x6)) rfl rfl rfl (qgW rfl rfl h17) ?_
 refine au [6,5,6,6,13,7] ?_
 refine qk qgB ?_
 intro x20 e20 _
 refine au [75,6,8,6,9,6,10,6,11,101,6,14,16] ?_
 refine qm ?_ (by intro c h;cases h)
 refine au [2,87,23,25,10,3,3] ?_
 refine qk qiw ?_
 intro x21 e21 _
 exact az [66,18,5,5,68]
set_option maxHeartbeats 4000000 in
theorem qgA {F:Nat}{g1:Nat}{x2:Int}{x3:Bool}{x4:Int}{r:(Bool×Int×Bool)}(hm:qc3 F x2 x3 x4=some r) :
    PureM Tryz.prog 294 [qsS g1,.int .u64 x4] [⟨g1,359,[qsQ x2,.bool x3]⟩] [] [] Unit (fun _=>.bool r.1) (fun _=>[⟨g1,359,[qsQ r.2.1,.bool r.2.2]⟩]) (fun _=>[]):=by
 refine qE Tryz.func294 rfl Tryz.ntmps294 rfl hm (fun w=>?_)
 refine av [56,85,104] ?_ ?_
 intro _
 exact az [47,60,25,13]
 intro _
 refine au [57] ?_
 refine qj (fun ((x8,_):(Int×Unit))=>([(0,qsS g1)],[⟨g1,359,[qsQ x8,.bool x3]⟩],[],[],v6 F x8)) ?_ ?_
 refine av [48,114,50] ?_ ?_
 intro _
 refine au [4,3,114,3,25,11,23,23,55,86] ?_
 exact qb (iadd .i64 x2 (iadd .i64 (iconv .i64 x4) 1),())
 intro _
 refine qt mixed [9] [] [(BlkD.is ⟨g1,359,[qsQ x2,.bool x3]⟩)] .nil (qeK 0 rfl qh) 10 rfl ?_
 refine au [69,15,2] ?_
 refine qJ 3 (qsQ x2) [[9]] rfl rfl rfl (kj (j:=0) rfl tf3 rfl rfl (fun _=>rfl) rfl) ?_
 refine au [6,4,13,5,35,9] ?_
 intro x10 e10 _
 refine au [0,31,10,67,15,8,13,9,86] ?_
 refine kw 9 rfl (by kernel_rfl) .nil ?_
 refine au [16] ?_
 exact qm (qb (iadd .i64 x2 x10,())) (by intro c h;cases h)
 rintro ⟨x8,_⟩
 try dsimp only
 refine au [48,55,119,48,114,33,13] ?_
 intro x9 e9 _
 exact az [90]
set_option maxHeartbeats 4000000 in
theorem qlc {F:Nat}{x1:Int}{x2:qsO}{a3:qsP}{c4:Nat}{x5:Int}{x6:Int}{x7:Int}{x8:Int}{r:(qsO×Int×Int)}(hm:qh1 F x1 x2 x5 x6 x7 x8=some r) :
    Pure Tryz.prog 271 [.agg #[qsQ x1,qsR a3 x2 c4],qsQ x5,qsQ x6,qsQ x7,qsQ x8] [qsV a3 x2 c4] (qsP×Nat) (fun g=>.tuple #[qsR g.1 r.1 g.2,qsQ r.2.1,qsQ r.2.2]) (fun g=>[qsU g.1 r.1 g.2]) (fun _=>[]):=by
 refine qs Tryz.func271 rfl Tryz.ntmps271 rfl hm (fun w=>?_)
 refine au [31,14,47,22] ?_
 intro g9
 refine au [5,5,58] ?_
 refine qq (cells:=[qsQ x6,.bool false]) rfl st359 rfl (by kernel_rfl) rfl ?_
 refine au [22] ?_
 intro g10
 refine au [46] ?_
 refine qj (fun (((x0,x3),(a0,c0)):((Int×qsO)×(qsP×Nat)))=>([(1,qsQ x0),(10,qsR a0 x3 c0)],[],[qsU a0 x3 c0],[],qfw F x0 x3)) ?_ ?_
 refine au [87,76,27,12] ?_
 refine qB (fun (((x4,x9,x10,x11,x12),(a1,c1)):((Int×qsO×Int×Int×Bool)×(qsP×Nat)))=>([(1,qsQ x4),(3,qsQ x7),(5,qsS g9),(10,qsR a1 x9 c1),(13,qsS g10),(18,qsQ x8),(19,qsQ x10)],[⟨g10,359,[qsQ x11,.bool x12]⟩,⟨g9,65,[qsQ x1,qsR a3 x2 c4]⟩],[qsU a1 x9 c1],[qsV a3 x2 c4])) (fun k (s:((Int×qsO×Int×Int×Bool)×(qsP×Nat)))=>qaZ F x1 x2 x7 x8 k s.1) ((x5,([]:qsO),0,x6,false),(none,0)) F ?_
 intro k0
 rintro ⟨⟨x4,x9,x10,x11,x12⟩,⟨a1,c1⟩⟩
 try dsimp only
 refine qH (m':=qfv F x1 x2 x7 x8 (qaZ F x1 x2 x7 x8 k0) x4 x9 x10 x11 x12) rfl ?_
 refine av [96] ?_ ?_
 intro _
 refine au [83,47,71,47,25,7,3,3] ?_
 refine qk qg6 ?_
 intro x13 e0 _
 refine av [93,18,5,5,58,70] ?_ ?_
 intro _
 refine au [48,5,5,60,92,52,25,9] ?_
 exact qI (none,0)
 intro _
 refine au [82,87] ?_
 refine qF qgA ?_
 intro x14 e1 _
 refine av [25,8,50] ?_ ?_
 intro _
 refine au [47,5,5,60,92,52,25,9] ?_
 exact qI (none,0)
 intro _
 refine au [57,4,3,3,114] ?_
 refine qV (vs:=[qsQ x14.2.1]) (ys:=([x14.2.1]:qsO)) (qu .i64) (by decide) rfl Tryz.underlying56 tf3 rfl rfl rfl rfl rfl (by decide) (fun a2 c2=>zu 1 (qu .i64) rfl Tryz.underlying56 tf3 rfl rfl rfl rfl rfl (.inl ⟨0,_,rfl⟩) rfl rfl (fun x15 e2 a4 c3=>?_))
 refine au [5,0,99] ?_
 exact qr ((x13.2.1,x15,iadd .i64 x10 1,x14.2.1,x14.2.2),(a4,c3))
 intro _
 refine au [73] ?_
 exact qb ((x4,x9),(a1,c1))
 rintro ⟨⟨x0,x3⟩,⟨a0,c0⟩⟩
 try dsimp only
 refine au [87,5,5,49] ?_
 exact qI (a0,c0)
set_option maxHeartbeats 4000000 in
theorem qgF (F:Nat)(g1:Nat)(x2:Int)(x3:qsO)(a4:qsP)(c5:Nat)(x6:Int)(x7:Int)(x8:qsO)(a9:qsP)(c10:Nat)(x11:Int)(x12:Int)(x13:Int)(r:((qsO×Int×Int) ⊕ (Int×Int)))(hm:qdi F x2 x3 x6 x7 x8 x11 x12 x13=some r) :
    PureL Tryz.prog 244 [qsS g1,qsQ x7,qsR a9 x8 c10,.agg #[qsQ x11,qsQ x12,qsQ x13]] [⟨g1,263,[qsQ x2,qsR a4 x3 c5,qsQ x6]⟩] [] [qsV a4 x3 c5,qsT a9 x8 c10] lostCh (qsP×Nat) (fun (r:(qsO×Int×Int)) (g:(qsP×Nat))=>qsR g.1 r.1 g.2) (fun (r:(qsO×Int×Int)) (_:(qsP×Nat))=>[⟨g1,263,[qsQ r.2.1,qsR a4 x3 c5,qsQ r.2.2]⟩]) (fun (r:(qsO×Int×Int)) (g:(qsP×Nat))=>[qsU g.1 r.1 g.2]) (fun (z:(Int×Int))=>[⟨g1,263,[qsQ z.1,qsR a4 x3 c5,qsQ z.2]⟩]) r:=by
 refine qfO Tryz.func244 rfl Tryz.ntmps244 rfl hm (fun w=>?_)
 refine au [28,5,47,22] ?_
 intro g14
 refine au [58] ?_
 refine kE ent266 rfl rfl rfl (fun x15 e15=>kT F g1 x2 x3 a4 c5 x6 300 x15 e15) (.cons 1 rfl .nil) .nil (.consF 0 rfl .nil) (fun x16 _=>?_) (fun x15 e15=>?_)
 exact az [103]
 intro _
 refine av [85,112] ?_ ?_
 intro _
 refine au [47,107] ?_
 exact qbN (none,0) (.inl rfl) (res1 rfl rfl) rfl (.cons 0 rfl .nil) (.cons 0 rfl .nil)
 intro _
 refine au [115,46] ?_
 refine qj (fun (((x31,x32,x33),(a29,c30)):((qsO×Int×Int)×(qsP×Nat)))=>([(0,qsS g1),(1,qsQ x7),(7,qsS g14),(9,qsQ x15.1),(10,qsR a29 x31 c30)],[⟨g1,263,[qsQ x32,qsR a4 x3 c5,qsQ x33]⟩,⟨g14,26,[qsQ x11,qsQ x12,qsQ x13]⟩],[qsU a29 x31 c30],[qsV a4 x3 c5],ja F x3 x7 x12 x13 x15 x31 x32 x33)) ?_ ?_
 refine av [47,89,104] ?_ ?_
 intro _
 refine au [47,58,3,3,24,6] ?_
 refine kE ent268 rfl rfl rfl (fun x72 e72=>qfg F g1 x15.2.1 x3 a4 c5 x15.2.2 (x8.length:Int) x72 e72) (.cons 0 rfl .nil) .nil (.consF 0 rfl .nil) (fun x73 _=>?_) (fun x72 e72=>?_)
 exact az [25,12,103]
 rintro ⟨a74,c75⟩
 refine qk qkn ?_
 rintro x76 e76 ⟨a77,c78⟩
 refine au [93,5,46,4,3,25,5,3] ?_
 refine qO 5 ((x76.2:Int) == 0) [(0,qsS g1),(1,qsQ x7),(7,qsS g14),(9,qsQ x15.1),(10,qsR a77 x76.1 c78),(41,.bool (((x76.2:Int) == 0) && (decide ((x76.1.length:Int)≤x15.1))))] (fun h79=>?_) (fun h79=>?_) ?_
 refine qc (os:=_) rfl (qA (k:=36) rfl h79 ?_)
 refine au [3,122,28,3,24,7] ?_
 refine qa (d:=41) (v:=.bool (((x76.2:Int) == 0) && (decide ((x76.1.length:Int)≤x15.1)))) rfl (by rw[h79];simp only[qrd]) ?_
 exact az [51]
 refine qc (os:=_) rfl (qz (k:=36) rfl h79 ?_)
 refine au [65,24,9] ?_
 refine qa (d:=41) (v:=.bool (((x76.2:Int) == 0) && (decide ((x76.1.length:Int)≤x15.1)))) rfl (by rw[h79];simp only[qq7]) ?_
 exact az [51]
 refine qc (os:=_) rfl (kE ent245 rfl rfl rfl (fun x80 e80=>vA F (((x76.2:Int) == 0) && (decide ((x76.1.length:Int)≤x15.1))) x80 e80) .nil .nil .nil (fun x81 _=>?_) (fun x80 e80=>?_))
 exact az [103]
 intro _
 refine au [0] ?_
 exact qb ((x76.1,x72.2.1,x72.2.2),(a77,c78))
 intro _
 refine au [11,25,9] ?_
 exact qb ((([]:qsO),x15.2.1,x15.2.2),(none,0))
 rintro ⟨⟨x31,x32,x33⟩,⟨a29,c30⟩⟩
 try dsimp only
 refine av [87,24,6,25,10,85,112] ?_ ?_
 intro _
 refine au [48,60] ?_
 exact qbN (a29,c30) (.inl rfl) (res1 rfl rfl) rfl (.cons 0 rfl .nil) (.cons 0 rfl .nil)
 intro _
 refine au [115,46] ?_
 refine qj (fun (((x42,x43,x44),(a40,c41)):((List (Int×Int)×Int×Int)×(qsP×Nat)))=>([(0,qsS g1),(1,qsQ x7),(7,qsS g14),(10,qsR a29 x31 c30),(12,qsQ (isub .i64 x15.1 (x31.length:Int))),(13,qsR a40 x42 c41)],[⟨g1,263,[qsQ x43,qsR a4 x3 c5,qsQ x44]⟩,⟨g14,26,[qsQ x11,qsQ x12,qsQ x13]⟩],[qsU a29 x31 c30,Ro eS209 209 2 (qsR a40 x42 c41) x42],[qsV a4 x3 c5],jb F x3 x7 x13 x15 x31 x42 x43 x44)) ?_ ?_
 refine av [47,89,104] ?_ ?_
 intro _
 refine au [4,3,3,89,3] ?_
 refine kE ent269 rfl rfl rfl (fun x66 e66=>qgH F g1 x32 x3 a4 c5 x33 x7 x12 (isub .i64 x15.1 (x31.length:Int)) x66 e66) (.cons 0 rfl .nil) .nil (.consF 0 rfl .nil) (fun x67 _=>?_) (fun x66 e66=>?_)
 exact az [103]
 rintro ⟨a68,c69⟩
 refine au [5,0] ?_
 exact qb ((x66.1,x66.2.1,x66.2.2),(a68,c69))
 intro _
 refine au [11] ?_
 exact qdu (Int×Int) eS209 209 2 (qb ((([]:List (Int×Int)),x32,x33),(none,0)))
 rintro ⟨⟨x42,x43,x44⟩,⟨a40,c41⟩⟩
 try dsimp only
 refine au [48,26,9] ?_
 refine qk qkp ?_
 rintro x45 e45 ⟨a46,c47⟩
 refine au [93,5,58,25,5,3] ?_
 refine qO 5 ((x45.2:Int) == 0) [(0,qsS g1),(1,qsQ x7),(7,qsS g14),(10,qsR a29 x31 c30),(12,qsQ (isub .i64 x15.1 (x31.length:Int))),(14,qsR a46 x45.1 c47),(71,.bool (((x45.2:Int) == 0) && (decide ((x45.1.length:Int)≤(isub .i64 x15.1 (x31.length:Int))))))] (fun h48=>?_) (fun h48=>?_) ?_
 refine qc (os:=_) rfl (qA (k:=66) rfl h48 ?_)
 refine au [3,122,28,3,24,7] ?_
 refine qa (d:=71) (v:=.bool (((x45.2:Int) == 0) && (decide ((x45.1.length:Int)≤(isub .i64 x15.1 (x31.length:Int)))))) rfl (by rw[h48];simp only[qrd]) ?_
 exact az [51]
 refine qc (os:=_) rfl (qz (k:=66) rfl h48 ?_)
 refine au [65,24,9] ?_
 refine qa (d:=71) (v:=.bool (((x45.2:Int) == 0) && (decide ((x45.1.length:Int)≤(isub .i64 x15.1 (x31.length:Int)))))) rfl (by rw[h48];simp only[qq7]) ?_
 exact az [51]
 refine qc (os:=_) rfl (kE ent245 rfl rfl rfl (fun x49 e49=>vA F (((x45.2:Int) == 0) && (decide ((x45.1.length:Int)≤(isub .i64 x15.1 (x31.length:Int))))) x49 e49) .nil .nil .nil (fun x50 _=>?_) (fun x49 e49=>?_))
 exact az [103]
 intro _
 refine au [45,1] ?_
 refine qt mixed [] [⟨g1,263,[qsQ x43,qsR a4 x3 c5,qsQ x44]⟩,⟨g14,26,[qsQ x11,qsQ x12,qsQ x13]⟩] [qsV a4 x3 c5] (.cons 0 rfl (.cons 0 rfl .nil)) (qf 0 rfl qh) 23 rfl ?_
 refine au [69,15,2] ?_
 refine qN 3 (.agg #[qsQ x43,.slice a4 x3.length c5]) rfl rfl rfl (qM (i:=0) rfl tf65 rfl rfl (by simp) rfl) ?_
 refine au [6,4,6,5,15,6,24,14,7,6,8,15,9,26,4,10,6,11,6,12,28,1,13,6,14,13,15] ?_
 refine qk qlc ?_
 rintro x54 e54 ⟨a55,c56⟩
 refine au [0,30,2,6,16,6,17,6,18,6,19,6,20,6,21,6,22,16] ?_
 refine qm ?_ (by intro c h;cases h)
 refine au [2,48,25,5] ?_
 refine kE ent245 rfl rfl rfl (fun x57 e57=>vA F ((x54.2.2:Int) == 0) x57 e57) .nil .nil .nil (fun x58 _=>?_) (fun x57 e57=>?_)
 exact az [103]
 intro _
 refine au [45,87,55,119,87,3] ?_
 refine qgT 3 rfl (qgT 1 rfl ?_)
 refine au [32,1] ?_
 refine qV (vs:=[qsR a29 x31 c30,qsR a46 x45.1 c47,qsR a55 x54.1 c56]) (ys:=([(x31,(a29,c30)),(x45.1,(a46,c47)),(x54.1,(a55,c56))]:List (qsO×(qsP×Nat)))) qy (by decide) rfl Tryz.underlying22 tf56 rfl rfl rfl rfl rfl (by decide) (fun a59 c60=>qj3 (inn:=iN56) ([x31,x45.1,x54.1]:List (qsO)) ([(a29,c30),(a46,c47),(a55,c56)]:List (qsP×Nat)) 0 rfl rfl (qp 2 rfl (qp 1 rfl (qp 0 rfl zx))) ?_)
 refine au [35,13] ?_
 rintro x61 e61 ⟨a62,c63⟩
 refine au [58,31,5] ?_
 intro x64 e64 _
 refine au [26,10] ?_
 intro h65
 replace h65:=of_decide_eq_true h65
 refine qa (d:=10) (v:=qsR a62 x64 c63) rfl (by simp only[qsR,h65] <;> rfl) (qa (d:=104) (v:=qsR a62 x64 c63) rfl (by simp only[qsR,h65] <;> rfl) (qa (d:=105) (v:=qsR a62 x64 c63) rfl (by simp only[qsR,h65] <;> rfl) ?_))
 refine au [45,48,49] ?_
 exact qbN (a62,c63) (.inl rfl) (res1 rfl rfl) rfl (.cons 0 rfl .nil) (.cons 0 rfl .nil)
set_option maxHeartbeats 4000000 in
theorem qgG {F:Nat}{g1:Nat}{x2:Int}{x3:qsO}{a4:qsP}{c5:Nat}{x6:Int}{x7:Int}{x8:qsO}{a9:qsP}{c10:Nat}{x11:Int}{x12:Int}{x13:Int}{r:(qsO×Bool×Int×Int)}(hm:qdj F x2 x3 x6 x7 x8 x11 x12 x13=some r) :
    PureM Tryz.prog 201 [qsS g1,qsQ x7,qsR a9 x8 c10,.agg #[qsQ x11,qsQ x12,qsQ x13]] [⟨g1,263,[qsQ x2,qsR a4 x3 c5,qsQ x6]⟩] [] [qsV a4 x3 c5,qsT a9 x8 c10] (qsP×Nat) (fun g=>.tuple #[qsR g.1 r.1 g.2,.bool r.2.1]) (fun _=>[⟨g1,263,[qsQ r.2.2.1,qsR a4 x3 c5,qsQ r.2.2.2]⟩]) (fun g=>[qsU g.1 r.1 g.2]):=by
 refine qou Tryz.func201 rfl Tryz.ntmps201 rfl hm (fun w=>?_)
 refine au [28,5,47,22] ?_
 intro g14
 refine au [24,4] ?_
 intro g15
 refine au [24,4] ?_
 intro g16
 refine au [45,47,27,4] ?_
 refine qnT rfl rfl ?_
 refine au [45,48,55,29,13,58,3,3,26,6] ?_
 refine kE ent244 rfl rfl rfl (fun x17 e17=>qgF F g1 x2 x3 a4 c5 x6 x7 x8 a9 c10 x11 x12 x13 x17 e17) (.cons 3 rfl .nil) .nil (.consF 0 rfl (.consF 1 rfl .nil)) (fun x18 _=>?_) (fun x17 e17=>?_)
 refine au [25,12] ?_
 refine qdt ent243 rfl (.cons 2 rfl (.cons 1 rfl .nil)) (qht _ _ _ _) ?_
 refine au [25,9] ?_
 exact kU (none,0) (resL (rs:=[.cell 8 56,.cell 9 4]) rfl (.cell (i:=0) rfl tf56 rfl rfl (fun _=>rfl) rfl (.cell (i:=1) rfl tf4 rfl rfl (fun _=>rfl) rfl ResOk.nil)) rfl) (hB:=fun h=>by subst h;exact (.cons 2 rfl .nil)) (hR:=fun h=>by subst h;exact (.cons 0 rfl .nil))
 rintro ⟨a19,c20⟩
 refine au [27,5,45,47,26,1,29,15] ?_
 intro x21 e21 _
 refine au [25,5] ?_
 refine kE ent245 rfl rfl rfl (fun x22 e22=>vA F ((x21:Int) == 0) x22 e22) .nil .nil .nil (fun x23 _=>?_) (fun x22 e22=>?_)
 refine au [25,12] ?_
 refine qdt ent243 rfl (.cons 2 rfl (.cons 1 rfl .nil)) (qht _ _ _ _) ?_
 refine au [25,9] ?_
 exact kU (none,0) (resL (rs:=[.cell 8 56,.cell 9 4]) rfl (.cell (i:=0) rfl tf56 rfl rfl (fun _=>rfl) rfl (.cell (i:=1) rfl tf4 rfl rfl (fun _=>rfl) rfl ResOk.nil)) rfl) (hB:=fun h=>by subst h;exact (.cons 2 rfl .nil)) (hR:=fun h=>by subst h;exact (.cons 0 rfl .nil))
 intro _
 refine au [45,47] ?_
 refine qq (cells:=[qsQ 0,.slice none 0 0,.bool false]) rfl st316 rfl (by kernel_rfl) rfl ?_
 refine au [22] ?_
 intro g24
 refine au [58,3,29,13,3] ?_
 refine zP (i:=4) rfl rfl inferInstance rfl rfl (by simp) rfl rfl ?_
 refine au [29,4,34,9] ?_
 rintro x25 e25 ⟨a26,c27⟩
 refine au [45] ?_
 refine qj (fun ((_,_):(Unit×Unit))=>([(0,qsS g1),(8,qsS g15),(9,qsS g16),(10,qsQ x6),(11,qsS g24)],[⟨g24,316,[qsQ x25.1,qsR a26 x25.2.1 c27,.bool x25.2.2]⟩,⟨g1,263,[qsQ x17.2.1,qsR a4 x3 c5,qsQ x17.2.2]⟩,⟨g16,4,[.bool false]⟩,⟨g15,56,[qsR a19 x17.1 c20]⟩],[qsW a26 x25.2.1 c27,qsU a19 x17.1 c20],[qsV a4 x3 c5],jc F x3 x6 x17 x25)) ?_ ?_
 refine av [29,14] ?_ ?_
 intro h97
 refine qhS mixed [8,9] [] [⟨g24,316,[qsQ x25.1,qsR a26 x25.2.1 c27,.bool x25.2.2]⟩,⟨g1,263,[qsQ x17.2.1,qsR a4 x3 c5,qsQ x17.2.2]⟩,⟨g16,4,[.bool false]⟩,⟨g15,56,[qsR a19 x17.1 c20]⟩,⟨g14,26,[qsQ x11,qsQ x12,qsQ x13]⟩] [qsV a4 x3 c5,qsT a9 x8 c10] (.cons 0 rfl (.cons 0 rfl (.cons 0 rfl (.cons 0 rfl (.cons 0 rfl .nil))))) (qf 0 rfl (qf 1 rfl qh)) 20 rfl ?_
 refine au [32,2,32,3,32,4] ?_
 refine qbL 3 (.bool x25.2.2) rfl rfl rfl (qM (i:=0) rfl tf4 rfl rfl (fun _=>rfl) rfl) rfl ?_
 refine au [32,5,35,14] ?_
 refine qg (d:=40) (v:=.bool true) rfl (by simp only[qsR,h97] <;> rfl) ?_
 refine au [35,15,36,0,36,1] ?_
 refine zW 9 _ rfl rfl rfl (zj rfl inferInstance) rfl (qbL 10 (qsQ x25.1) rfl rfl rfl (qM (i:=0) rfl tf3 rfl rfl (fun _=>rfl) rfl) rfl ?_)
 refine au [36,2,36,3] ?_
 refine zW 13 _ rfl rfl rfl (zj rfl inferInstance) rfl (qbL 14 (qsQ x17.2.2) rfl rfl rfl (qM (i:=1) rfl tf3 rfl rfl (fun _=>rfl) rfl) rfl (zW 15 _ rfl rfl rfl (zt rfl) rfl (zW 16 _ rfl rfl rfl (zt rfl) rfl (zW 17 _ rfl rfl rfl (zt rfl) rfl ?_))))
 refine au [36,4,13,19] ?_
 refine kE ent245 rfl rfl rfl (fun x98 e98=>vA F ((x25.1:Int) == (isub .i64 x17.2.2 x6)) x98 e98) .nil .nil .nil (fun x99 _=>?_) (fun x98 e98=>?_)
 refine au [25,12] ?_
 refine qk0 (l':=[(8,qsS g15),(9,qsS g16)]) (qfU rfl rfl (qfU rfl rfl qmx)) ?_
 refine au [25,12] ?_
 refine qdt ent243 rfl (.cons 3 rfl (.cons 2 rfl .nil)) (qht _ _ _ _) ?_
 refine au [25,9] ?_
 exact kU (none,0) (resL (rs:=[.cell 8 56,.cell 9 4]) rfl (.cell (i:=0) rfl tf56 rfl rfl (fun _=>rfl) rfl (.cell (i:=1) rfl tf4 rfl rfl (fun _=>rfl) rfl ResOk.nil)) rfl) (hB:=fun h=>by subst h;exact (.cons 3 rfl .nil)) (hR:=fun h=>by subst h;exact (.cons 0 rfl .nil))
 intro _
 refine au [0,36,5,16] ?_
 refine qmV ?_ (by intro c h;cases h)
 exact az [26,8]
 intro h97
 refine qhS mixed [8,9] [] [⟨g24,316,[qsQ x25.1,qsR a26 x25.2.1 c27,.bool x25.2.2]⟩,⟨g1,263,[qsQ x17.2.1,qsR a4 x3 c5,qsQ x17.2.2]⟩,⟨g16,4,[.bool false]⟩,⟨g15,56,[qsR a19 x17.1 c20]⟩,⟨g14,26,[qsQ x11,qsQ x12,qsQ x13]⟩] [qsV a4 x3 c5,qsT a9 x8 c10] (.cons 0 rfl (.cons 0 rfl (.cons 0 rfl (.cons 0 rfl (.cons 0 rfl .nil))))) (qf 0 rfl (qf 1 rfl qh)) 20 rfl ?_
 refine au [32,2,32,3,32,4] ?_
 refine qbL 3 (.bool x25.2.2) rfl rfl rfl (qM (i:=0) rfl tf4 rfl rfl (fun _=>rfl) rfl) rfl ?_
 refine au [32,5,35,14] ?_
 refine qg (d:=40) (v:=.bool false) rfl (by simp only[qsR,h97] <;> rfl) (yZ 6 rfl rfl rfl rfl (yZ 7 rfl rfl rfl rfl (yZ 8 rfl rfl rfl rfl (yZ 9 rfl rfl rfl rfl (yZ 10 rfl rfl rfl rfl (yZ 11 rfl rfl rfl rfl (yZ 12 rfl rfl rfl rfl (yZ 13 rfl rfl rfl rfl (yZ 14 rfl rfl rfl rfl (yZ 15 rfl rfl rfl rfl (yZ 16 rfl rfl rfl rfl (yZ 17 rfl rfl rfl rfl ?_))))))))))))
 refine au [36,4,13,19] ?_
 refine kE ent245 rfl rfl rfl (fun x0 e0=>vA F false x0 e0) .nil .nil .nil (fun x1 _=>?_) (fun x0 e0=>?_)
 refine au [25,12] ?_
 refine qk0 (l':=[(8,qsS g15),(9,qsS g16)]) (qfU rfl rfl (qfU rfl rfl qmx)) ?_
 refine au [25,12] ?_
 refine qdt ent243 rfl (.cons 3 rfl (.cons 2 rfl .nil)) (qht _ _ _ _) ?_
 refine au [25,9] ?_
 exact kU (none,0) (resL (rs:=[.cell 8 56,.cell 9 4]) rfl (.cell (i:=0) rfl tf56 rfl rfl (fun _=>rfl) rfl (.cell (i:=1) rfl tf4 rfl rfl (fun _=>rfl) rfl ResOk.nil)) rfl) (hB:=fun h=>by subst h;exact (.cons 3 rfl .nil)) (hR:=fun h=>by subst h;exact (.cons 0 rfl .nil))
 intro _
 refine au [0,36,5,16] ?_
 refine qmV ?_ (by intro c h;cases h)
 exact az [26,8]
 rintro ⟨_,_⟩
 try dsimp only
 refine qj (fun ((_,_):(Unit×Unit))=>([(8,qsS g15),(9,qsS g16)],[⟨g1,263,[qsQ x17.2.1,qsR a4 x3 c5,qsQ x17.2.2]⟩,⟨g16,4,[.bool false]⟩,⟨g15,56,[qsR a19 x17.1 c20]⟩],[qsU a19 x17.1 c20],[qsV a4 x3 c5],qbt F x17)) ?_ ?_
 refine au [48,55,78,3,76] ?_
 refine qB (fun ((x75,_):(Int×Unit))=>([(0,qsS g1),(8,qsS g15),(9,qsS g16),(10,qsQ x6),(11,qsS g24),(59,qsQ x25.1),(60,qsQ x75)],[⟨g24,316,[qsQ x25.1,qsR a26 x25.2.1 c27,.bool x25.2.2]⟩,⟨g1,263,[qsQ x17.2.1,qsR a4 x3 c5,qsQ x17.2.2]⟩,⟨g16,4,[.bool false]⟩,⟨g15,56,[qsR a19 x17.1 c20]⟩],[qsW a26 x25.2.1 c27,qsU a19 x17.1 c20],[qsV a4 x3 c5])) (fun k (s:(Int×Unit))=>yP F x3 x6 x17 x25 k s.1) (0,()) F ?_
 intro k86
 rintro ⟨x75,_⟩
 try dsimp only
 refine qH (m':=qbs F x3 x6 x17 x25 (yP F x3 x6 x17 x25 k86) x75) rfl ?_
 refine av [96] ?_ ?_
 intro _
 refine au [83,48,46] ?_
 refine qhS mixed [8,9] [] [⟨g24,316,[qsQ x25.1,qsR a26 x25.2.1 c27,.bool x25.2.2]⟩,⟨g1,263,[qsQ x17.2.1,qsR a4 x3 c5,qsQ x17.2.2]⟩,⟨g16,4,[.bool false]⟩,⟨g15,56,[qsR a19 x17.1 c20]⟩] [qsV a4 x3 c5] (.cons 0 rfl (.cons 0 rfl (.cons 0 rfl (.cons 0 rfl .nil)))) (qf 0 rfl qh) 16 rfl ?_
 refine au [32,2,32,3,32,4] ?_
 refine qbL 3 (.agg #[qsQ x25.1,.slice a26 x25.2.1.length c27]) rfl rfl rfl (qM (i:=0) rfl tf65 rfl rfl (by simp) rfl) rfl ?_
 refine au [32,5,35,15,36,0,36,1] ?_
 refine qbL 9 (.agg #[qsQ x17.2.1,.slice a4 x3.length c5]) rfl rfl rfl (qM (i:=1) rfl tf65 rfl rfl (by simp) rfl) rfl (zW 10 _ rfl rfl rfl (zt rfl) rfl ?_)
 refine au [36,2,36,3,13,5,29,1] ?_
 intro x92 e92 _
 refine au [0,32,6,13,13,29,1] ?_
 intro x93 e93 _
 refine au [0,32,6] ?_
 refine zW 14 _ rfl rfl rfl (zt rfl) rfl ?_
 refine au [13,15] ?_
 refine kE ent245 rfl rfl rfl (fun x94 e94=>vA F ((x92:Int) == x93) x94 e94) .nil .nil .nil (fun x95 _=>?_) (fun x94 e94=>?_)
 refine au [25,12] ?_
 refine qk0 (l':=[(8,qsS g15),(9,qsS g16)]) (qfU rfl rfl (qfU rfl rfl qmx)) ?_
 refine au [28,6,25,12,25,12,28,6,25,12] ?_
 refine qdt ent243 rfl (.cons 3 rfl (.cons 2 rfl .nil)) (qht _ _ _ _) ?_
 refine au [25,9] ?_
 exact kU (none,0) (resL (rs:=[.cell 8 56,.cell 9 4]) rfl (.cell (i:=0) rfl tf56 rfl rfl (fun _=>rfl) rfl (.cell (i:=1) rfl tf4 rfl rfl (fun _=>rfl) rfl ResOk.nil)) rfl) (hB:=fun h=>by subst h;exact (.cons 3 rfl .nil)) (hR:=fun h=>by subst h;exact (.cons 0 rfl .nil))
 intro _
 refine au [0,32,6,16] ?_
 refine qmV ?_ (by intro c h;cases h)
 refine au [99] ?_
 exact qr (iadd .i64 x75 1,())
 intro _
 exact az [73,26,8]
 rintro ⟨_,_⟩
 try dsimp only
 refine au [47,26,1,27,5,25,4,45,8] ?_
 exact qmW (.inl rfl) ent243 rfl (qpn _ _) (kU (a19,c20) (resL (rs:=[.cell 8 56,.cell 9 4]) rfl (.cell (i:=2) rfl tf56 rfl rfl (fun _=>rfl) rfl (.cell (i:=1) rfl tf4 rfl rfl (fun _=>rfl) rfl ResOk.nil)) rfl) (hB:=fun h=>by subst h;exact (.cons 0 rfl .nil)) (hR:=fun h=>by subst h;exact (.cons 0 rfl .nil)))
theorem qhZ {F:Nat}{x1:Int}{x2:qsO}{a3:qsP}{c4:Nat}{x5:Int}{x6:Int}{x7:qsO}{a8:qsP}{c9:Nat}{x10:Int}{x11:Int}{x12:Int}{r:(qsO×Int×Int)}(hm:qdX F x1 x2 x5 x6 x7 x10 x11 x12=some r) :
    Pure Tryz.prog 171 [.agg #[qsQ x1,qsR a3 x2 c4],qsQ x5,qsQ x6,qsR a8 x7 c9,.agg #[qsQ x10,qsQ x11,qsQ x12]] [qsV a3 x2 c4,qsT a8 x7 c9] (qsP×Nat) (fun g=>.tuple #[qsR g.1 r.1 g.2,qsQ r.2.1,qsQ r.2.2]) (fun g=>[qsU g.1 r.1 g.2]) (fun _=>[]):=by
 refine qs Tryz.func171 rfl Tryz.ntmps171 rfl hm (fun w=>?_)
 refine au [31,14,47,22] ?_
 intro g13
 refine au [22] ?_
 intro g14
 refine au [5,5,84,25,7,3] ?_
 refine qq (cells:=[qsQ x1,qsR a3 x2 c4,qsQ x5]) rfl st263 rfl (by kernel_rfl) rfl ?_
 refine au [22] ?_
 intro g15
 refine au [58,3,3,25,7] ?_
 refine qF qgG ?_
 rintro x16 e16 ⟨a17,c18⟩
 refine av [93,5,85,25,8,50] ?_ ?_
 intro _
 refine au [47,5,5,107] ?_
 exact qI (none,0)
 intro _
 refine au [82] ?_
 refine qt mixed [] [⟨g15,263,[qsQ x16.2.2.1,qsR a3 x2 c4,qsQ x16.2.2.2]⟩,⟨g14,26,[qsQ x10,qsQ x11,qsQ x12]⟩,⟨g13,65,[qsQ x1,qsR a3 x2 c4]⟩] [qsV a3 x2 c4,qsT a8 x7 c9] (.cons 0 rfl (.cons 0 rfl (.cons 0 rfl .nil))) (qf 0 rfl (qf 1 rfl qh)) 8 rfl ?_
 refine au [97,15,3,24,14,4,6,5,67,16] ?_
 refine qm ?_ (by intro c h;cases h)
 refine au [2,8] ?_
 exact qI (a17,c18)
set_option maxHeartbeats 4000000 in
theorem qkm {F:Nat}{x1:Int}{x2:Int}{x3:Int}{x4:Int}{x5:Int}{x6:qsO}{a7:qsP}{c8:Nat}{r:(List (qsO)×Bool)}(hm:qhg F x1 x2 x3 x4 x5 x6=some r) :
    Pure Tryz.prog 196 [.agg #[qsQ x1,qsQ x2,qsQ x3,qsQ x4,qsQ x5,qsR a7 x6 c8]] [qsV a7 x6 c8] (qsP×(Nat×List (qsP×Nat))) (fun g=>.tuple #[qsR g.1 r.1 g.2.1,.bool r.2]) (fun g=>[RoN eN56 rN56 56 1 (qsR g.1 r.1 g.2.1) r.1 g.2.2 []]) (fun _=>[]):=by
 refine qs Tryz.func196 rfl Tryz.ntmps196 rfl hm (fun w=>?_)
 refine au [59,22] ?_
 intro g9
 refine au [5,84,46] ?_
 refine qj (fun (((x0,x7),(a0,c0)):((List (qsO)×Int)×(qsP×(Nat×List (qsP×Nat)))))=>([(1,qsS g9),(2,qsR a0 x0 c0.1),(4,qsQ x7)],[⟨g9,67,[qsQ x1,qsQ x2,qsQ x3,qsQ x4,qsQ x5,qsR a7 x6 c8]⟩],[RoN eN56 rN56 56 1 (qsR a0 x0 c0.1) x0 c0.2 []],[qsV a7 x6 c8],qe1 F x5 x0 x7)) ?_ ?_
 refine au [47,78,3,76] ?_
 refine qoK (qsO) (qsP×Nat) eN56 rN56 56 1 (qB (fun (((x8,x9,x10),(a1,c1)):((List (qsO)×Int×Int)×(qsP×(Nat×List (qsP×Nat)))))=>([(1,qsS g9),(2,qsR a1 x8 c1.1),(4,qsQ x9),(14,qsQ x1),(15,qsQ x10)],[⟨g9,67,[qsQ x1,qsQ x2,qsQ x3,qsQ x4,qsQ x5,qsR a7 x6 c8]⟩],[RoN eN56 rN56 56 1 (qsR a1 x8 c1.1) x8 c1.2 []],[qsV a7 x6 c8])) (fun k (s:((List (qsO)×Int×Int)×(qsP×(Nat×List (qsP×Nat)))))=>vS F x1 x2 x3 x4 x5 x6 k s.1) ((([]:List (qsO)),0,0),(none,(0,([]:List (qsP×Nat))))) F ?_)
 intro k0
 rintro ⟨⟨x8,x9,x10⟩,⟨a1,c1⟩⟩
 try dsimp only
 refine qH (m':=qe0 F x1 x2 x3 x4 x5 x6 (vS F x1 x2 x3 x4 x5 x6 k0) x8 x9 x10) rfl ?_
 refine av [96] ?_ ?_
 intro _
 refine au [57] ?_
 refine qj (fun (((x11,x12),(a2,c2)):((List (qsO)×Int)×(qsP×(Nat×List (qsP×Nat)))))=>([(1,qsS g9),(2,qsR a2 x11 c2.1),(4,qsQ x12),(14,qsQ x1),(15,qsQ x10)],[⟨g9,67,[qsQ x1,qsQ x2,qsQ x3,qsQ x4,qsQ x5,qsR a7 x6 c8]⟩],[RoN eN56 rN56 56 1 (qsR a2 x11 c2.1) x11 c2.2 []],[qsV a7 x6 c8],qcw F (vS F x1 x2 x3 x4 x5 x6 k0) x10 x11 x12)) ?_ ?_
 refine au [14,48,46,74,3,3] ?_
 refine qk qiz ?_
 intro x13 e0 _
 refine av [93,18,5,5,85,25,8,50] ?_ ?_
 intro _
 refine au [47,5,60,92,52,26,15] ?_
 exact qI (none,(0,([]:List (qsP×Nat))))
 intro _
 refine av [115,85,104] ?_ ?_
 intro _
 refine au [4,3,3,3,25,10,31,4] ?_
 intro x14 e1 g0 h0 g1 h1
 refine qhW (i:=0) rfl h0 (List.not_mem_nil) (qgV (j:=1) (p:=(x14,g0)) qy rfl rfl tf56 rfl h1 h0 rfl (fun _=>rfl) rfl rfl ?_)
 refine au [84,110,24,4] ?_
 intro g2
 refine au [119,48,9,119,47,9,25,7,3,3,3,24,10,36,6] ?_
 rintro x15 e2 ⟨a3,c3⟩
 refine au [93,18,5,5,71,1] ?_
 refine qgS (rin:=rN56) (p:=(x14,g0)) (i:=1) (k:=0) (.cons 1 rfl .nil) rfl rfl h0 ?_
 refine av [4,3,70] ?_ ?_
 intro _
 refine au [47,5,60,92,52,26,15] ?_
 exact qI (none,(0,([]:List (qsP×Nat))))
 intro _
 refine au [57,4,3,3] ?_
 refine qV (vs:=[qsR a3 x15.1 c3]) (ys:=([(x15.1,(a3,c3))]:List (qsO×(qsP×Nat)))) qy (by decide) rfl Tryz.underlying22 tf56 rfl rfl rfl rfl rfl (by decide) (fun a4 c4=>qi6 (rin:=rN56) (i:=0) ([x15.1]:List (qsO)) ([(a3,c3)]:List (qsP×Nat)) rfl rfl (.cons 1 rfl .nil) (qlW qy rfl UnF.u inferInstance rfl rfl rfl rfl (.cons 1 rfl (.cons 0 rfl .nil)) rfl rfl ?_))
 intro x16 e3 a5 c5
 refine au [3,5,5,0,24,2] ?_
 exact qb ((x16,x15.2.1),(a5,(c5,(c1.2++([(a3,c3)]:List (qsP×Nat))))))
 intro _
 refine au [115,110,24,4] ?_
 intro g3
 refine au [119,48,9,119,47,9,25,7,3,3,3,24,10,26,9,36,6] ?_
 rintro x17 e4 ⟨a6,c6⟩
 refine av [93,18,5,5,85,70] ?_ ?_
 intro _
 refine au [47,5,60,92,52,26,15] ?_
 exact qI (none,(0,([]:List (qsP×Nat))))
 intro _
 refine au [57,4,3,3] ?_
 refine qV (vs:=[qsR a6 x17.1 c6]) (ys:=([(x17.1,(a6,c6))]:List (qsO×(qsP×Nat)))) qy (by decide) rfl Tryz.underlying22 tf56 rfl rfl rfl rfl rfl (by decide) (fun a8 c7=>qi6 (rin:=rN56) (i:=0) ([x17.1]:List (qsO)) ([(a6,c6)]:List (qsP×Nat)) rfl rfl (.cons 0 rfl .nil) (qlW qy rfl UnF.u inferInstance rfl rfl rfl rfl (.cons 2 rfl (.cons 0 rfl .nil)) rfl rfl ?_))
 intro x18 e5 a9 c9
 refine au [3,5,5,0,24,2] ?_
 exact qb ((x18,x17.2.1),(a9,(c9,(c1.2++([(a6,c6)]:List (qsP×Nat))))))
 rintro ⟨⟨x11,x12⟩,⟨a2,c2⟩⟩
 try dsimp only
 refine au [98] ?_
 exact qr ((x11,x12,iadd .i64 x10 1),(a2,c2))
 intro _
 refine au [73] ?_
 exact qb ((x8,x9),(a1,c1))
 rintro ⟨⟨x0,x7⟩,⟨a0,c0⟩⟩
 try dsimp only
 refine au [1] ?_
 refine qt mixed [] [⟨g9,67,[qsQ x1,qsQ x2,qsQ x3,qsQ x4,qsQ x5,qsR a7 x6 c8]⟩] [qsV a7 x6 c8] (.cons 0 rfl .nil) (qf 0 rfl qh) 8 rfl ?_
 refine au [69,15,2,15,3,24,14,4,6,5,67,16] ?_
 refine qm ?_ (by intro c h;cases h)
 refine au [2,8] ?_
 exact qI (a0,c0)
set_option maxHeartbeats 4000000 in
theorem qd2 {F:Nat}{x1:qsO}{a2:qsP}{c3:Nat}{x4:qsO}{a5:qsP}{c6:Nat}{r:Bool}(hm:kr F x1 x4=some r) :
    Pure Tryz.prog 197 [qsR a2 x1 c3,qsR a5 x4 c6] [qsV a2 x1 c3,qsV a5 x4 c6] Unit (fun _=>.bool r) (fun _=>[]) (fun _=>[]):=by
 refine qs Tryz.func197 rfl Tryz.ntmps197 rfl hm (fun w=>?_)
 refine av [56,71,72,3,24,6,70] ?_ ?_
 intro _
 exact az [47,77]
 intro _
 refine au [57] ?_
 refine qj (fun ((_,_):(Unit×Unit))=>([],[],[],[],jt F)) ?_ ?_
 refine au [72,3,76] ?_
 refine qB (fun ((x0,_):(Int×Unit))=>([(0,qsR a2 x1 c3),(1,qsR a5 x4 c6),(12,qsQ (x1.length:Int)),(13,qsQ x0)],[],[],[qsV a2 x1 c3,qsV a5 x4 c6])) (fun k (s:(Int×Unit))=>kG F x1 x4 k s.1) (0,()) F ?_
 intro k0
 rintro ⟨x0,_⟩
 try dsimp only
 refine qH (m':=js F x1 x4 (kG F x1 x4 k0) x0) rfl ?_
 refine av [96] ?_ ?_
 intro _
 refine au [83,48,71,35,4] ?_
 intro x2 e0 b0 o0 h0
 replace h0:a2=some ⟨b0,o0,none⟩:=h0
 refine qdr (j:=2) (qu .u8) (by decide) rfl ?_
 intro x3 e1 b1 o1 h1
 replace h1:a5=some ⟨b1,o1,none⟩:=h1
 refine qt mixed [] [] [qC b1 (o1+x0.toNat*1) ((eI .u8) x3),qC b0 (o0+x0.toNat*1) ((eI .u8) x2),qsV a2 x1 c3,qsV a5 x4 c6] .nil (qf 0 rfl (qf 1 rfl (qf 2 rfl (qf 3 rfl qh)))) 9 rfl ?_
 refine au [69] ?_
 refine qg (d:=16) (v:=qsR (some ⟨b0,o0,none⟩) x1 c3) rfl (by simp only[qsR,h0] <;> rfl) (qe 2 (.pointer (some ⟨b0,(o0+x0.toNat*1),none⟩)) rfl rfl rfl (k8 Tryz.underlying41 tf5 rfl rfl (qo e0).1 (zf e0)) (qg (d:=16) (v:=qsR a2 x1 c3) rfl (by simp only[qsR,h0] <;> rfl) (qJ 3 (.int .u8 x2) [] rfl rfl rfl (q7 (j:=1) rfl tf5 rfl rfl (fun _=>rfl) rfl) ?_)))
 refine au [6,4,6,5] ?_
 refine qg (d:=20) (v:=qsR (some ⟨b1,o1,none⟩) x4 c6) rfl (by simp only[qsR,h1] <;> rfl) (qe 6 (.pointer (some ⟨b1,(o1+x0.toNat*1),none⟩)) rfl rfl rfl (k8 Tryz.underlying41 tf5 rfl rfl (qo e1).1 (zf e1)) (qg (d:=20) (v:=qsR a5 x4 c6) rfl (by simp only[qsR,h1] <;> rfl) (qJ 7 (.int .u8 x3) [] rfl rfl rfl (q7 (j:=0) rfl tf5 rfl rfl (fun _=>rfl) rfl) ?_)))
 refine au [6,8,16] ?_
 refine qm ?_ (by intro c h;cases h)
 refine av [2,10] ?_ ?_
 intro _
 exact az [47,49,92,108]
 intro _
 refine au [11,99] ?_
 exact qr (iadd .i64 x0 1,())
 intro _
 exact az [73,26,8]
 rintro ⟨_,_⟩
 try dsimp only
 exact az [47,68]
end Go.Proofs.YthibchijlpflmaaGreatDoor
