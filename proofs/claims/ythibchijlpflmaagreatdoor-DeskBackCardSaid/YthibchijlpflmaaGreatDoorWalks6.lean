/- Each Go function of this seat computes what its model says, part 6. -/
import Derived.Test.YthibchijlpflmaaGreatDoorWalks5
open Bool renaming false_or→qqT, true_or→qqU, false_and→qq7, true_and→qrd
open List renaming length_set→qqR
namespace Go.Proofs.YthibchijlpflmaaGreatDoor
open Go SX
set_option linter.unusedSimpArgs false
set_option maxHeartbeats 4000000 in
theorem qlf {F:Nat}{x1:Int}{x2:Int}{x3:Int}{x4:Int}{x5:Int}{x6:qsO}{a7:qsP}{c8:Nat}{r:(List (qsO)×Int)}(hm:qh2 F x1 x2 x3 x4 x5 x6=some r) :
    Pure Tryz.prog 167 [.agg #[qsQ x1,qsQ x2,qsQ x3,qsQ x4,qsQ x5,qsR a7 x6 c8]] [qsV a7 x6 c8] (qsP×(Nat×List (qsP×Nat))) (fun g=>.tuple #[.agg #[qsR g.1 r.1 g.2.1],qsQ r.2]) (fun g=>[RoN eN56 rN56 56 1 (qsR g.1 r.1 g.2.1) r.1 g.2.2 []]) (fun _=>[]):=by
 refine qs Tryz.func167 rfl Tryz.ntmps167 rfl hm (fun w=>?_)
 refine au [59,22] ?_
 intro g9
 refine au [24,4] ?_
 intro g10
 refine au [71,47,25,7] ?_
 refine qk qkk ?_
 intro x13 e13 _
 refine av [58,70] ?_ ?_
 intro _
 refine au [47] ?_
 refine qq (cells:=[.slice none 0 0]) rfl st24 rfl (by kernel_rfl) rfl ?_
 refine au [3,20,60,26,15] ?_
 exact qS (none,(0,([]:List (qsP×Nat)))) (resL (rs:=[.cell 2 24,.tmp 3]) rfl (.cell (i:=0) rfl tf24 rfl rfl (by simp) rfl (.tmp rfl ResOk.nil)) rfl) (fun h=>by subst h;exact (.cons 0 rfl .nil))
 intro _
 refine au [115,25,7] ?_
 refine qk qkm ?_
 rintro x14 e14 ⟨a15,c16⟩
 refine av [93,5,85,25,8,50] ?_ ?_
 intro _
 refine au [47] ?_
 refine qq (cells:=[.slice none 0 0]) rfl st24 rfl (by kernel_rfl) rfl ?_
 refine au [20,60,26,15] ?_
 exact qS (none,(0,([]:List (qsP×Nat)))) (resL (rs:=[.cell 2 24,.tmp 3]) rfl (.cell (i:=0) rfl tf24 rfl rfl (by simp) rfl (.tmp rfl ResOk.nil)) rfl) (fun h=>by subst h;exact (.cons 0 rfl .nil))
 intro _
 refine au [57,48] ?_
 refine qq (cells:=[qsR a15 x14.1 c16.1]) rfl st24 rfl (by kernel_rfl) rfl ?_
 refine au [24,4] ?_
 intro g18
 refine au [119,1,74,9,26,6,30,12] ?_
 rintro x28 e28 ⟨a29,c30⟩
 refine au [93,24,4] ?_
 intro g31
 refine au [20,58,25,1,3] ?_
 refine zp 9 (fun ((x34,_):(Bool×Unit))=>([(2,qsS g10),(7,qsS g18),(44,.bool x34)],[⟨g18,24,[qsR a15 x14.1 c16.1]⟩,⟨g10,24,[.slice none 0 0]⟩],[RoN eN56 rN56 56 1 (qsR a15 x14.1 c16.1) x14.1 c16.2 []],[],qc7 F x14 x34)) ?_ ?_
 refine qc (os:=_) rfl ?_
 refine av [25,14] ?_ ?_
 intro h32
 refine qA (k:=35) rfl h32 ?_
 refine au [65,65,106] ?_
 exact qb (true,())
 intro h32
 refine qz (k:=35) rfl h32 ?_
 refine au [9,78,9,9,29,13,30,14] ?_
 intro x36 e36 _
 refine au [25,8,109] ?_
 exact qb ((!x36),())
 rintro ⟨x34,_⟩
 try dsimp only
 refine qc (os:=_) rfl ?_
 refine av [50] ?_ ?_
 intro _
 refine au [47] ?_
 refine qq (cells:=[.slice none 0 0]) rfl st24 rfl (by kernel_rfl) rfl ?_
 refine au [25,4,60,26,15] ?_
 exact qS (none,(0,([]:List (qsP×Nat)))) (resL (rs:=[.cell 2 24,.tmp 3]) rfl (.cell (i:=1) rfl tf24 rfl rfl (by simp) rfl (.tmp rfl ResOk.nil)) rfl) (fun h=>by subst h;exact (.cons 0 rfl .nil))
 intro _
 refine au [57,74,25,4,49] ?_
 exact qS (a15,c16) (resL (rs:=[.cell 2 24,.tmp 3]) rfl (.cell (i:=1) rfl tf24 rfl rfl (by simp) rfl (.tmp rfl ResOk.nil)) rfl) (fun h=>by subst h;exact (.cons 0 rfl .nil))
set_option maxHeartbeats 4000000 in
theorem qkr {F:Nat}{x1:Int}{x2:Int}{x3:Int}{x4:Int}{x5:qsO}{a6:qsP}{c7:Nat}{x8:Int}{x9:qsO}{a10:qsP}{c11:Nat}{x12:Int}{x13:Int}{x14:Int}{x15:Int}{x16:qsO}{a17:qsP}{c18:Nat}{x19:Int}{x20:qsO}{a21:qsP}{c22:Nat}{r:Bool}(hm:qhk F x1 x2 x3 x4 x5 x8 x9 x12 x13 x14 x15 x16 x19 x20=some r) :
    Pure Tryz.prog 168 [.agg #[qsQ x1,qsQ x2,qsQ x3,qsQ x4,qsR a6 x5 c7,qsQ x8,qsR a10 x9 c11],.agg #[qsQ x12,qsQ x13,qsQ x14,qsQ x15,qsR a17 x16 c18,qsQ x19,qsR a21 x20 c22]] [qsV a6 x5 c7,qsV a10 x9 c11,qsV a17 x16 c18,qsV a21 x20 c22] Unit (fun _=>.bool r) (fun _=>[]) (fun _=>[]):=by
 refine qs Tryz.func168 rfl Tryz.ntmps168 rfl hm (fun w=>?_)
 refine au [118] ?_
 intro g23
 refine au [22] ?_
 intro g24
 refine au [84,89,78,25,5,3] ?_
 refine qO 6 ((x1:Int) == x12) [(2,qsS g23),(3,qsS g24),(16,.bool (((x1:Int) == x12) && ((x2:Int) == x13)))] (fun h25=>?_) (fun h25=>?_) ?_
 refine qc (os:=_) rfl (qA (k:=10) rfl h25 ?_)
 refine au [89,78,25,5,24,7] ?_
 refine qa (d:=16) (v:=.bool (((x1:Int) == x12) && ((x2:Int) == x13))) rfl (by rw[h25];simp only[qrd]) ?_
 exact az [51]
 refine qc (os:=_) rfl (qz (k:=10) rfl h25 ?_)
 refine au [65,7,24,9] ?_
 refine qa (d:=16) (v:=.bool (((x1:Int) == x12) && ((x2:Int) == x13))) rfl (by rw[h25];simp only[qq7]) ?_
 exact az [51]
 refine qc (os:=_) rfl ?_
 refine au [3] ?_
 refine qO 6 (((x1:Int) == x12) && ((x2:Int) == x13)) [(2,qsS g23),(3,qsS g24),(23,.bool ((((x1:Int) == x12) && ((x2:Int) == x13)) && ((x3:Int) == x14)))] (fun h26=>?_) (fun h26=>?_) ?_
 refine qc (os:=_) rfl (qA (k:=17) rfl h26 ?_)
 refine au [89,78,25,5,24,7] ?_
 refine qa (d:=23) (v:=.bool ((((x1:Int) == x12) && ((x2:Int) == x13)) && ((x3:Int) == x14))) rfl (by rw[h26];simp only[qrd]) ?_
 exact az [51]
 refine qc (os:=_) rfl (qz (k:=17) rfl h26 ?_)
 refine au [65,7,24,9] ?_
 refine qa (d:=23) (v:=.bool ((((x1:Int) == x12) && ((x2:Int) == x13)) && ((x3:Int) == x14))) rfl (by rw[h26];simp only[qq7]) ?_
 exact az [51]
 refine qc (os:=_) rfl ?_
 refine au [3] ?_
 refine qO 8 ((((x1:Int) == x12) && ((x2:Int) == x13)) && ((x3:Int) == x14)) [(2,qsS g23),(3,qsS g24),(32,.bool (((((x1:Int) == x12) && ((x2:Int) == x13)) && ((x3:Int) == x14)) && ((x4:Int) == x15)))] (fun h27=>?_) (fun h27=>?_) ?_
 refine qc (os:=_) rfl (qA (k:=24) rfl h27 ?_)
 refine au [9,89,9,78,25,5,24,7] ?_
 refine qa (d:=32) (v:=.bool (((((x1:Int) == x12) && ((x2:Int) == x13)) && ((x3:Int) == x14)) && ((x4:Int) == x15))) rfl (by rw[h27];simp only[qrd]) ?_
 exact az [51]
 refine qc (os:=_) rfl (qz (k:=24) rfl h27 ?_)
 refine au [65,61,7,24,9] ?_
 refine qa (d:=32) (v:=.bool (((((x1:Int) == x12) && ((x2:Int) == x13)) && ((x3:Int) == x14)) && ((x4:Int) == x15))) rfl (by rw[h27];simp only[qq7]) ?_
 exact az [51]
 refine qc (os:=_) rfl ?_
 refine au [3] ?_
 refine qO 8 (((((x1:Int) == x12) && ((x2:Int) == x13)) && ((x3:Int) == x14)) && ((x4:Int) == x15)) [(2,qsS g23),(3,qsS g24),(41,.bool ((((((x1:Int) == x12) && ((x2:Int) == x13)) && ((x3:Int) == x14)) && ((x4:Int) == x15)) && ((x8:Int) == x19)))] (fun h28=>?_) (fun h28=>?_) ?_
 refine qc (os:=_) rfl (qA (k:=33) rfl h28 ?_)
 refine au [9,89,9,78,25,5,24,7] ?_
 refine qa (d:=41) (v:=.bool ((((((x1:Int) == x12) && ((x2:Int) == x13)) && ((x3:Int) == x14)) && ((x4:Int) == x15)) && ((x8:Int) == x19))) rfl (by rw[h28];simp only[qrd]) ?_
 exact az [51]
 refine qc (os:=_) rfl (qz (k:=33) rfl h28 ?_)
 refine au [65,61,7,24,9] ?_
 refine qa (d:=41) (v:=.bool ((((((x1:Int) == x12) && ((x2:Int) == x13)) && ((x3:Int) == x14)) && ((x4:Int) == x15)) && ((x8:Int) == x19))) rfl (by rw[h28];simp only[qq7]) ?_
 exact az [51]
 refine qc (os:=_) rfl ?_
 refine au [3] ?_
 refine zp 8 (fun ((x31,_):(Bool×Unit))=>([(2,qsS g23),(3,qsS g24),(50,.bool x31)],[⟨g24,69,[qsQ x12,qsQ x13,qsQ x14,qsQ x15,qsR a17 x16 c18,qsQ x19,qsR a21 x20 c22]⟩,⟨g23,69,[qsQ x1,qsQ x2,qsQ x3,qsQ x4,qsR a6 x5 c7,qsQ x8,qsR a10 x9 c11]⟩],[],[qsV a17 x16 c18,qsV a21 x20 c22,qsV a6 x5 c7,qsV a10 x9 c11],qcC F x9 x20 x31)) ?_ ?_
 refine qc (os:=_) rfl ?_
 refine av [25,14] ?_ ?_
 intro h29
 refine qA (k:=42) rfl h29 ?_
 refine au [9,89,9,78,30,14] ?_
 intro x36 e36 _
 refine au [106] ?_
 exact qb (x36,())
 intro h29
 refine qz (k:=42) rfl h29 ?_
 refine au [65,61,7,109] ?_
 exact qb (false,())
 rintro ⟨x31,_⟩
 try dsimp only
 refine qc (os:=_) rfl ?_
 refine au [3] ?_
 refine zp 8 (fun ((x34,_):(Bool×Unit))=>([(59,.bool x34)],[],[],[],qcD F x34)) ?_ ?_
 refine qc (os:=_) rfl ?_
 refine av [25,14] ?_ ?_
 intro h32
 refine qA (k:=51) rfl h32 ?_
 refine au [9,89,9,78,30,14] ?_
 intro x35 e35 _
 refine au [106] ?_
 exact qb (x35,())
 intro h32
 refine qz (k:=51) rfl h32 ?_
 refine au [65,61,7,109] ?_
 exact qb (false,())
 rintro ⟨x34,_⟩
 try dsimp only
 refine qc (os:=_) rfl ?_
 exact az [68]
set_option maxHeartbeats 4000000 in
theorem qij {F:Nat}{x1:List (qsO)}{a2:qsP}{c3:Nat}{s3:List (qsP×Nat)}{x4:Int}{x5:Int}{x6:Int}{x7:Int}{x8:Int}{x9:qsO}{a10:qsP}{c11:Nat}{r:(Int×Int×Int×Int×Int×qsO×Int×Int×Int×Int×qsO×Int×qsO×Int)}(hm:qe6 F x1 x4 x5 x6 x7 x8 x9=some r) :
    Pure Tryz.prog 122 [.agg #[qsR a2 x1 c3],.agg #[qsQ x4,qsQ x5,qsQ x6,qsQ x7,qsQ x8,qsR a10 x9 c11]] [SlN eN56 iN56 1 (qsR a2 x1 c3) x1 s3,qsV a10 x9 c11] ((qsP×Nat)×(qsP×Nat)×(qsP×Nat)) (fun g=>.tuple #[.agg #[qsQ r.1,qsQ r.2.1,qsQ r.2.2.1,qsQ r.2.2.2.1,qsQ r.2.2.2.2.1,qsR g.1.1 r.2.2.2.2.2.1 g.1.2,qsQ r.2.2.2.2.2.2.1,qsQ r.2.2.2.2.2.2.2.1,qsQ r.2.2.2.2.2.2.2.2.1,qsQ r.2.2.2.2.2.2.2.2.2.1,qsR g.2.1.1 r.2.2.2.2.2.2.2.2.2.2.1 g.2.1.2,qsQ r.2.2.2.2.2.2.2.2.2.2.2.1,qsR g.2.2.1 r.2.2.2.2.2.2.2.2.2.2.2.2.1 g.2.2.2],qsQ r.2.2.2.2.2.2.2.2.2.2.2.2.2]) (fun g=>[qsW g.2.1.1 r.2.2.2.2.2.2.2.2.2.2.1 g.2.1.2,qsW g.2.2.1 r.2.2.2.2.2.2.2.2.2.2.2.2.1 g.2.2.2]) (fun _=>[]):=by
 refine qs Tryz.func122 rfl Tryz.ntmps122 rfl hm (fun w=>?_)
 refine au [118] ?_
 intro g12
 refine au [22] ?_
 intro g13
 refine au [24,4] ?_
 intro g14
 refine au [84,26,6,9,25,7,35,2] ?_
 rintro x15 e15 ⟨⟨a16,c17⟩,⟨a18,c19⟩⟩
 refine av [93,18,5,5,85,70] ?_ ?_
 intro _
 refine au [47] ?_
 refine qq (cells:=[qsQ 0,qsQ 0,qsQ 0,qsQ 0,qsQ 0,.slice none 0 0,qsQ 0,qsQ 0,qsQ 0,qsQ 0,.slice none 0 0,qsQ 0,.slice none 0 0]) rfl st71 rfl (by kernel_rfl) rfl ?_
 refine au [3,20,60,100] ?_
 exact qS ((none,0),(none,0),(none,0)) (resL (rs:=[.cell 4 71,.tmp 5]) rfl (.cell (i:=0) rfl tf71 rfl rfl (by simp) rfl (.tmp rfl ResOk.nil)) rfl) (fun h=>by subst h;exact (.cons 0 rfl (.cons 0 rfl .nil)))
 intro _
 refine au [57,48,9,89,35,3] ?_
 rintro x21 e21 ⟨⟨a22,c23⟩,⟨a24,c25⟩⟩
 refine au [93,24,4] ?_
 intro g26
 refine av [20,85,70] ?_ ?_
 intro _
 refine au [47] ?_
 refine qq (cells:=[qsQ 0,qsQ 0,qsQ 0,qsQ 0,qsQ 0,.slice none 0 0,qsQ 0,qsQ 0,qsQ 0,qsQ 0,.slice none 0 0,qsQ 0,.slice none 0 0]) rfl st71 rfl (by kernel_rfl) rfl ?_
 refine au [3,25,4,60,100] ?_
 exact qS ((none,0),(none,0),(none,0)) (resL (rs:=[.cell 4 71,.tmp 5]) rfl (.cell (i:=1) rfl tf71 rfl rfl (by simp) rfl (.tmp rfl ResOk.nil)) rfl) (fun h=>by subst h;exact (.cons 0 rfl (.cons 0 rfl .nil)))
 intro _
 refine au [115,26,6,24,10] ?_
 refine qq (cells:=[qsQ x4,qsQ x5,qsQ x6,qsQ x7,qsQ x8,qsR a10 x9 c11,qsQ x21.1,qsQ x21.2.1,qsQ x21.2.2.1,qsQ x21.2.2.2.1,qsR a22 x21.2.2.2.2.1 c23,qsQ x21.2.2.2.2.2.1,qsR a24 x21.2.2.2.2.2.2.1 c25]) rfl st71 rfl (by kernel_rfl) rfl ?_
 refine au [25,4,49] ?_
 exact qS ((a10,c11),(a22,c23),(a24,c25)) (resL (rs:=[.cell 4 71,.tmp 5]) rfl (.cell (i:=1) rfl tf71 rfl rfl (by simp) rfl (.tmp rfl ResOk.nil)) rfl) (fun h=>by subst h;exact (.cons 0 rfl (.cons 0 rfl .nil)))
set_option maxHeartbeats 4000000 in
theorem qjr {F:Nat}{x1:Int}{x2:Int}{x3:Int}{x4:Int}{x5:Int}{x6:qsO}{a7:qsP}{c8:Nat}{x9:Int}{x10:Int}{x11:Int}{x12:Int}{x13:qsO}{a14:qsP}{c15:Nat}{x16:Int}{x17:qsO}{a18:qsP}{c19:Nat}{r:Int}(hm:qgn F x1 x2 x3 x4 x5 x6 x9 x10 x11 x12 x13 x16 x17=some r) :
    Pure Tryz.prog 123 [.agg #[qsQ x1,qsQ x2,qsQ x3,qsQ x4,qsQ x5,qsR a7 x6 c8,qsQ x9,qsQ x10,qsQ x11,qsQ x12,qsR a14 x13 c15,qsQ x16,qsR a18 x17 c19]] [qsV a7 x6 c8,qsV a14 x13 c15,qsV a18 x17 c19] Unit (fun _=>qsQ r) (fun _=>[]) (fun _=>[]):=by
 refine qs Tryz.func123 rfl Tryz.ntmps123 rfl hm (fun w=>?_)
 refine au [59,22] ?_
 intro g20
 refine au [84,110] ?_
 refine qk qlf ?_
 rintro x21 e21 ⟨a22,c23⟩
 refine au [93,24,4] ?_
 intro g24
 refine av [20,85,70] ?_ ?_
 intro _
 exact az [48,77]
 intro _
 refine au [82,74,9,25,7] ?_
 refine qk qij ?_
 rintro x39 e39 ⟨⟨a40,c41⟩,⟨a42,c43⟩,⟨a44,c45⟩⟩
 refine au [93,24,4] ?_
 intro g46
 refine au [20,58,25,1,3] ?_
 refine zp 7 (fun ((x49,_):(Bool×Unit))=>([(32,.bool x49)],[],[],[],qbF F x49)) ?_ ?_
 refine qc (os:=_) rfl ?_
 refine av [25,14] ?_ ?_
 intro h47
 refine qA (k:=25) rfl h47 ?_
 refine au [65,61,106] ?_
 exact qb (true,())
 intro h47
 refine qz (k:=25) rfl h47 ?_
 refine au [110,9,26,6] ?_
 refine qk qkr ?_
 intro x51 e51 _
 refine au [25,8,109] ?_
 exact qb ((!x51),())
 rintro ⟨x49,_⟩
 try dsimp only
 refine qc (os:=_) rfl ?_
 refine av [50] ?_ ?_
 intro _
 exact az [47,77]
 intro _
 exact az [115,68]
theorem qjm {F:Nat}{x1:Int}{x2:qsO}{a3:qsP}{c4:Nat}{x5:Int}{r:Unit}(hm:qgi F x1 x2 x5=some r) :
    PureM Tryz.prog 264 [.agg #[qsQ x1,qsR a3 x2 c4],.int .u64 x5] [] [] [qsV a3 x2 c4] (Nat×Nat) (fun g=>.func (.func 288) #[] #[qsS g.1,qsS g.2]) (fun g=>[⟨g.1,65,[qsQ x1,qsR a3 x2 c4]⟩,⟨g.2,119,[.int .u64 x5]⟩]) (fun _=>[]):=by
 refine qE Tryz.func264 rfl Tryz.ntmps264 rfl hm (fun w=>?_)
 refine au [118] ?_
 intro g6
 refine au [22] ?_
 intro g7
 refine au [84,27,4,49] ?_
 exact qX (g6,g7)
set_option maxHeartbeats 4000000 in
theorem qii (F:Nat){σ τ:Type}{J:Rounds σ τ}{yy:σ→Int→Option (σ ⊕ τ)}{L:Nat}(hY:YieldC Tryz.prog L (fun (p:Int)=>[qsQ p]) J yy)(s0:σ)(gs0:J.γ)(g1:Nat)(x2:Int)(x3:qsO)(a4:qsP)(c5:Nat)(g6:Nat)(x7:Int)(r:σ ⊕ τ)(hm:qe5 F yy x2 x3 x7 s0=some r) :
    PureM Tryz.prog 288 ([.func (.yield L) #[] #[],qsS g1,qsS g6]) ([⟨g1,65,[qsQ x2,qsR a4 x3 c5]⟩,⟨g6,119,[.int .u64 x7]⟩]++J.IB s0 gs0) (J.IR s0 gs0) [J.F,qsV a4 x3 c5] (J.G r) (fun _=>.tuple #[]) (fun g=>[⟨g1,65,[qsQ x2,qsR a4 x3 c5]⟩,⟨g6,119,[.int .u64 x7]⟩]++J.bs r g) (fun g=>J.rs r g):=by
 refine qE Tryz.func288 rfl Tryz.ntmps288 rfl hm (fun w=>?_)
 refine au [111,78,3,76] ?_
 refine yv (fun (((x36,x37),g38):((Int×σ)×J.γ))=>[(0,.func (.yield L) #[] #[]),(1,qsS g1),(2,qsS g6),(6,qsQ x2),(7,qsQ x36)]) (fun (((x36,x37),g38):((Int×σ)×J.γ))=>[⟨g1,65,[qsQ x2,qsR a4 x3 c5]⟩,⟨g6,119,[.int .u64 x7]⟩]++J.IB x37 g38) (fun (((x36,x37),g38):((Int×σ)×J.γ))=>[]++J.IR x37 g38) (fun (((x36,x37),g38):((Int×σ)×J.γ))=>[qsV a4 x3 c5,J.F]) (fun k (s:((Int×σ)×J.γ))=>yK F yy x2 x3 x7 k s.1) ((0,s0),gs0) F ?_ (hB:=(.cons 0 rfl (.cons 0 rfl (qn 0 rfl)))) (hR:=(qn 0 rfl)) (hF:=(qp 1 rfl (qp 0 rfl zx)))
 intro k67
 rintro ⟨⟨x36,x37⟩,g38⟩
 try dsimp only
 refine qH (m':=qdd F yy x2 x3 x7 (yK F yy x2 x3 x7 k67) x36 x37) rfl ?_
 refine av [96] ?_ ?_
 intro _
 refine au [57] ?_
 refine jN (fun ((x81,g82):(σ×J.γ))=>[(0,.func (.yield L) #[] #[]),(1,qsS g1),(2,qsS g6),(6,qsQ x2),(7,qsQ x36)]) (fun ((x81,g82):(σ×J.γ))=>[⟨g1,65,[qsQ x2,qsR a4 x3 c5]⟩,⟨g6,119,[.int .u64 x7]⟩]++J.IB x81 g82) (fun ((x81,g82):(σ×J.γ))=>[]++J.IR x81 g82) (fun ((x81,g82):(σ×J.γ))=>[qsV a4 x3 c5,J.F]) (fun ((x81,_):(σ×J.γ))=>qaw F yy (yK F yy x2 x3 x7 k67) x36 x81) ?_ ?_
 refine au [14,48,71] ?_
 refine qt mixed [] [⟨g1,65,[qsQ x2,.slice a4 x3.length c5]⟩,⟨g6,119,[.int .u64 x7]⟩] [Sl (eI .u8) 1 (.slice a4 x3.length c5) x3,J.F] (.cons 0 rfl (.cons 0 rfl .nil)) (qf 0 rfl (qf 1 rfl qh)) 11 rfl (qN 0 (.agg #[qsQ x2,.slice a4 x3.length c5]) rfl rfl rfl (qM (i:=0) rfl tf65 rfl rfl (by simp) rfl) ?_)
 refine au [6,1,26,4,3,13,2,29,1] ?_
 intro x89 e89 _
 refine av [0,32,7,6,4,6,5,29,6] ?_ ?_
 intro h90
 refine qg (d:=15) (v:=.bool true) rfl (by simp only[qsR,h90] <;> rfl) ?_
 refine au [67,13,8] ?_
 refine qcT hY x37 x36 g38 (B1:=[⟨g1,65,[qsQ x2,qsR a4 x3 c5]⟩,⟨g6,119,[.int .u64 x7]⟩]) (R1:=[]) (j:=1) rfl rfl rfl rfl rfl rfl rfl (fun x91 _ g93=>?_) (fun x92 _ g93=>?_)
 refine au [0,32,7,6,9,6,10,16] ?_
 refine qm ?_ (by intro c h;cases h)
 refine au [2] ?_
 refine kD (b:=false) rfl (fun h=>by cases h) (fun _=>?_)
 refine au [11,24,2] ?_
 exact kF (x91,g93) (hB:=(.cons 0 rfl (.cons 0 rfl (qn 0 rfl)))) (hR:=(qn 0 rfl)) (hF:=(qp 0 rfl (qp 1 rfl zx)))
 refine au [0,32,7,6,9,6,10,16] ?_
 refine qm ?_ (by intro c h;cases h)
 refine au [2] ?_
 refine kD (b:=true) rfl (fun _=>?_) (fun h=>by cases h)
 refine au [8,92,24,5] ?_
 exact y0 (B0:=[⟨g1,65,[qsQ x2,qsR a4 x3 c5]⟩,⟨g6,119,[.int .u64 x7]⟩]) (x:=.inr x92) g93 (.inl rfl) (res0 rfl) (.cons 0 rfl (.cons 0 rfl (qn 0 rfl))) (qn 0 rfl)
 intro h90
 refine qg (d:=15) (v:=.bool false) rfl (by simp only[qsR,h90] <;> rfl) ?_
 refine au [19,6,19,7,19,8,19,9,6,10,16] ?_
 refine qm ?_ (by intro c h;cases h)
 refine au [2] ?_
 refine kD (b:=false) rfl (fun h=>by cases h) (fun _=>?_)
 refine au [11,24,2] ?_
 exact kF (x37,g38) (hB:=(.cons 0 rfl (.cons 0 rfl (qn 0 rfl)))) (hR:=(qn 0 rfl)) (hF:=(qp 0 rfl (qp 1 rfl zx)))
 rintro ⟨x81,g82⟩
 try dsimp only
 refine au [98] ?_
 exact yz ((iadd .i64 x36 1,x81),g82) (hB:=(.cons 0 rfl (.cons 0 rfl (qn 0 rfl)))) (hR:=(qn 0 rfl)) (hF:=(qp 0 rfl (qp 1 rfl zx)))
 intro _
 refine au [73] ?_
 exact y0 (B0:=[⟨g1,65,[qsQ x2,qsR a4 x3 c5]⟩,⟨g6,119,[.int .u64 x7]⟩]) (x:=.inl x37) g38 (.inr rfl) (res0 rfl) (.cons 0 rfl (.cons 0 rfl (qn 0 rfl))) (qn 0 rfl)
set_option maxHeartbeats 4000000 in
theorem qko {F:Nat}{x1:Int}{x2:qsO}{a3:qsP}{c4:Nat}{x5:Int}{x6:Int}{r:Int}(hm:qeG F x1 x2 x5 x6=some r) :
    PureM Tryz.prog 239 [.agg #[qsQ x1,qsR a3 x2 c4],.int .u64 x5,qsQ x6] [] [] [qsV a3 x2 c4] Unit (fun _=>qsQ r) (fun _=>[]) (fun _=>[]):=by
 refine qbf Tryz.func239 rfl Tryz.ntmps239 rfl hm (fun w=>?_)
 refine au [111,22] ?_
 intro g7
 refine au [22] ?_
 intro g8
 refine au [24,4] ?_
 intro g9
 refine au [45,1,47,26,6,3] ?_
 refine qF qjm ?_
 rintro x25 e25 ⟨g26,g27⟩
 refine au [76] ?_
 refine jW (encs:=(fun (p:Int)=>[qsQ p])) (y:=(fun (x31:Int) (x37:Int)=>qe4 F x31 x37)) (lb:=[qsS g26,qsS g27]) (fun (x31:Int) (_:Unit)=>[⟨g9,3,[qsQ 0]⟩,⟨g8,3,[qsQ x31]⟩,⟨g7,65,[qsQ x1,qsR a3 x2 c4]⟩]) (fun (x31:Int) (_:Unit)=>[]) (fun ((x35,x36):(Int×Int)) (_:Unit)=>[⟨g9,3,[qsQ x35]⟩,⟨g8,3,[qsQ x36]⟩,⟨g7,65,[qsQ x1,qsR a3 x2 c4]⟩]) (fun ((x35,x36):(Int×Int)) (_:Unit)=>[]) (fun _=>.ret) x6 () rfl ent288 (fun _=>rfl) rfl (.cons 0 rfl (.cons 0 rfl .nil)) (.cons 0 rfl (.cons 0 rfl (.cons 0 rfl .nil))) .nil (.consF 0 rfl .nil) (fun z hz _ _ _ hY=>qii F hY x6 () g26 x1 x2 a3 c4 g27 x5 z hz) ?_ ?_ ?_
 rintro rc1 L1 D1 x31 _ x37 z w M _
 try dsimp only
 refine qbi [(0,.agg #[qsQ x1,qsR a3 x2 c4]),(1,.int .u64 x5),(2,qsQ x6),(3,qsS g7),(5,qsS g8),(6,qsS g9),(8,.agg #[qsQ x1,qsR a3 x2 c4]),(9,.int .u64 x5),(10,.func (.func 288) #[] #[qsS g26,qsS g27]),(11,qsQ x37)] (qw rfl (qw rfl (qw rfl (qw rfl (qw rfl (qw rfl (qw rfl (qw rfl (qw rfl (qw rfl qbK)))))))))) ?_
 refine av [4,5,0,30,4,14,1,47,25,6,112] ?_ ?_
 intro _
 refine au [48,119,8,12,24,5] ?_
 exact yw (rc:=rc1) rfl (.cons 3 rfl .nil) rfl () (.cons 1 rfl (.cons 1 rfl (.cons 1 rfl (.cons 0 rfl (.cons 0 rfl .nil))))) .nil
 intro _
 refine au [57,4,25,6,25,10,120,24,2] ?_
 exact yw (rc:=rc1) rfl (.cons 3 rfl .nil) rfl () (.cons 1 rfl (.cons 1 rfl (.cons 1 rfl (.cons 0 rfl (.cons 0 rfl .nil))))) .nil
 rintro x31 _ _ D1
 try dsimp only
 refine au [63,47,28,15,45,8] ?_
 exact y1 [D1] () (.inl rfl) rfl (.cons 0 rfl .nil) (resL (rs:=[.cell 6 3]) rfl (.cell (i:=2) rfl tf3 rfl rfl (fun _=>rfl) rfl ResOk.nil) rfl) (fun h=>by subst h;rfl) (fun h=>by subst h;exact .nil) (fun h=>by subst h;exact .nil)
 rintro ⟨x35,x36⟩ _ _ D1
 try dsimp only
 refine au [8,52] ?_
 exact y1 [D1] () (.inl rfl) rfl (.cons 0 rfl .nil) (resL (rs:=[.cell 6 3]) rfl (.cell (i:=2) rfl tf3 rfl rfl (fun _=>rfl) rfl ResOk.nil) rfl) (fun h=>by subst h;rfl) (fun h=>by subst h;exact .nil) (fun h=>by subst h;exact .nil)
theorem qnv {F:Nat}{x1:Int}{x2:Int}{x3:Int}{x4:Int}{x5:qsO}{a6:qsP}{c7:Nat}{x8:Int}{x9:qsO}{a10:qsP}{c11:Nat}{x12:Int}{r:Int}(hm:qhK F x1 x2 x3 x4 x5 x8 x9 x12=some r) :
    Pure Tryz.prog 199 [.agg #[qsQ x1,qsQ x2,qsQ x3,qsQ x4,qsR a6 x5 c7,qsQ x8,qsR a10 x9 c11],qsQ x12] [qsV a6 x5 c7,qsV a10 x9 c11] Unit (fun _=>qsQ r) (fun _=>[]) (fun _=>[]):=by
 refine qs Tryz.func199 rfl Tryz.ntmps199 rfl hm (fun w=>?_)
 refine au [118] ?_
 intro g13
 refine au [84,110,3,36,7] ?_
 intro x14 e14 _
 refine au [3,25,10,84,110,3,78,27,11,78,30,13] ?_
 intro x15 e15 _
 refine au [93,5,58,78,26,10] ?_
 intro h16
 refine qfY rfl rfl rfl rfl h16 ?_
 refine au [3,25,11,35,6,121] ?_
 intro x17 e17
 refine qa (d:=4) (v:=qsQ x17) rfl (by simp only[qsR,e17] <;> rfl) ?_
 exact az [45,8,24,0]
theorem qlb {F:Nat}{x1:Int}{x2:qsO}{a3:qsP}{c4:Nat}{x5:Int}{x6:qsO}{a7:qsP}{c8:Nat}{r:Bool}(hm:qfu F x1 x2 x5 x6=some r) :
    Pure Tryz.prog 263 [.agg #[qsQ x1,qsR a3 x2 c4],.agg #[qsQ x5,qsR a7 x6 c8]] [qsV a3 x2 c4,qsV a7 x6 c8] Unit (fun _=>.bool r) (fun _=>[]) (fun _=>[]):=by
 refine qs Tryz.func263 rfl Tryz.ntmps263 rfl hm (fun w=>?_)
 refine au [118] ?_
 intro g9
 refine au [22] ?_
 intro g10
 refine au [84,89,78,25,5,3] ?_
 refine zp 6 (fun ((x13,_):(Bool×Unit))=>([(16,.bool x13)],[],[],[],qc2 F x13)) ?_ ?_
 refine qc (os:=_) rfl ?_
 refine av [25,14] ?_ ?_
 intro h11
 refine qA (k:=10) rfl h11 ?_
 refine au [89,78,30,14] ?_
 intro x14 e14 _
 refine au [106] ?_
 exact qb (x14,())
 intro h11
 refine qz (k:=10) rfl h11 ?_
 refine au [65,7,109] ?_
 exact qb (false,())
 rintro ⟨x13,_⟩
 try dsimp only
 refine qc (os:=_) rfl ?_
 exact az [68]
set_option maxHeartbeats 4000000 in
theorem qiv {F:Nat}{x1:Int}{x2:Int}{x3:Int}{x4:Int}{x5:qsO}{a6:qsP}{c7:Nat}{x8:Int}{x9:qsO}{a10:qsP}{c11:Nat}{r:(qsO×Int)}(hm:qft F x1 x2 x3 x4 x5 x8 x9=some r) :
    Pure Tryz.prog 238 [.agg #[qsQ x1,qsQ x2,qsQ x3,qsQ x4,qsR a6 x5 c7,qsQ x8,qsR a10 x9 c11]] [qsV a6 x5 c7,qsV a10 x9 c11] (qsP×Nat) (fun g=>.tuple #[qsR g.1 r.1 g.2,qsQ r.2]) (fun g=>[qsU g.1 r.1 g.2]) (fun _=>[]):=by
 refine qs Tryz.func238 rfl Tryz.ntmps238 rfl hm (fun w=>?_)
 refine au [59,22] ?_
 intro g12
 refine au [5,71,47,78,24,3,3] ?_
 refine qO 4 (decide (x1<0)) [(1,qsS g12),(15,.bool ((decide (x1<0)) || (decide (300<x1))))] (fun h17=>?_) (fun h17=>?_) ?_
 refine qc (os:=_) rfl (qA (k:=11) rfl h17 ?_)
 refine au [61,7,24,7] ?_
 refine qa (d:=15) (v:=.bool ((decide (x1<0)) || (decide (300<x1)))) rfl (by rw[h17];simp only[qqU]) ?_
 exact az [51]
 refine qc (os:=_) rfl (qz (k:=11) rfl h17 ?_)
 refine au [78,81] ?_
 refine qa (d:=15) (v:=.bool ((decide (x1<0)) || (decide (300<x1)))) rfl (by rw[h17];simp only[qqT]) ?_
 exact az [51]
 refine qc (os:=_) rfl ?_
 refine au [3] ?_
 refine qO 4 ((decide (x1<0)) || (decide (300<x1))) [(1,qsS g12),(20,.bool (((decide (x1<0)) || (decide (300<x1))) || (decide (x2<0))))] (fun h18=>?_) (fun h18=>?_) ?_
 refine qc (os:=_) rfl (qA (k:=16) rfl h18 ?_)
 refine au [61,7,24,7] ?_
 refine qa (d:=20) (v:=.bool (((decide (x1<0)) || (decide (300<x1))) || (decide (x2<0)))) rfl (by rw[h18];simp only[qqU]) ?_
 exact az [51]
 refine qc (os:=_) rfl (qz (k:=16) rfl h18 ?_)
 refine au [78,24,3,24,9] ?_
 refine qa (d:=20) (v:=.bool (((decide (x1<0)) || (decide (300<x1))) || (decide (x2<0)))) rfl (by rw[h18];simp only[qqT]) ?_
 exact az [51]
 refine qc (os:=_) rfl ?_
 refine au [3] ?_
 refine qO 4 (((decide (x1<0)) || (decide (300<x1))) || (decide (x2<0))) [(1,qsS g12),(25,.bool ((((decide (x1<0)) || (decide (300<x1))) || (decide (x2<0))) || (decide (1048576<x2))))] (fun h19=>?_) (fun h19=>?_) ?_
 refine qc (os:=_) rfl (qA (k:=21) rfl h19 ?_)
 refine au [61,7,24,7] ?_
 refine qa (d:=25) (v:=.bool ((((decide (x1<0)) || (decide (300<x1))) || (decide (x2<0))) || (decide (1048576<x2)))) rfl (by rw[h19];simp only[qqU]) ?_
 exact az [51]
 refine qc (os:=_) rfl (qz (k:=21) rfl h19 ?_)
 refine au [78,81] ?_
 refine qa (d:=25) (v:=.bool ((((decide (x1<0)) || (decide (300<x1))) || (decide (x2<0))) || (decide (1048576<x2)))) rfl (by rw[h19];simp only[qqT]) ?_
 exact az [51]
 refine qc (os:=_) rfl ?_
 refine av [50] ?_ ?_
 intro _
 refine au [47,5,107] ?_
 exact qI (none,0)
 intro _
 refine au [82] ?_
 refine qj (fun ((x49,_):(Bool×Unit))=>([(1,qsS g12),(70,.bool x49)],[⟨g12,69,[qsQ x1,qsQ x2,qsQ x3,qsQ x4,qsR a6 x5 c7,qsQ x8,qsR a10 x9 c11]⟩],[],[qsV a6 x5 c7,qsV a10 x9 c11],kJ F x1 x2 x3 x4 x5 x8 x9 x49)) ?_ ?_
 refine qt mixed [] [⟨g12,69,[qsQ x1,qsQ x2,qsQ x3,qsQ x4,qsR a6 x5 c7,qsQ x8,qsR a10 x9 c11]⟩] [qsV a6 x5 c7,qsV a10 x9 c11] (.cons 0 rfl .nil) (qf 0 rfl (qf 1 rfl qh)) 45 rfl ?_
 refine au [117,15,2,24,14,3,15,4,24,14,5,13,6,34,14] ?_
 intro x0 e0 _
 refine av [0,30,15,6,7,6,8,29,6] ?_ ?_
 intro h0
 refine qg (d:=34) (v:=.bool true) rfl (by simp only[qsR,h0] <;> rfl) ?_
 refine au [19,9,19,10,19,11,19,12,6,13,6,14,19,15,19,16,19,17,19,18,6,19,6,20,19,21,19,22,19,23,19,24,19,25,19,26,19,27,19,28,19,29,6,30,6,31,19,32,19,33,19,34,19,35,19,36,19,37,19,38,19,39,19,40,19,41,19,42,19,43,6,44,16] ?_
 exact qm (qb (true,())) (by intro c h;cases h)
 intro h0
 refine qg (d:=34) (v:=.bool false) rfl (by simp only[qsR,h0] <;> rfl) ?_
 refine au [15,9] ?_
 refine qN 10 (.agg #[qsQ x4,.slice a6 x5.length c7]) rfl rfl rfl (qM (i:=0) rfl tf65 rfl rfl (by simp) rfl) ?_
 refine au [13,11,32,0] ?_
 intro x6 e1 _
 refine av [0,30,15,101,6,14,29,6] ?_ ?_
 intro h1
 refine qg (d:=40) (v:=.bool true) rfl (by simp only[qsR,h1] <;> rfl) ?_
 refine au [19,15,19,16,19,17,19,18,6,19,6,20,19,21,19,22,19,23,19,24,19,25,19,26,19,27,19,28,19,29,6,30,6,31,19,32,19,33,19,34,19,35,19,36,19,37,19,38,19,39,19,40,19,41,19,42,19,43,6,44,16] ?_
 exact qm (qb (true,())) (by intro c h;cases h)
 intro h1
 refine qg (d:=40) (v:=.bool false) rfl (by simp only[qsR,h1] <;> rfl) ?_
 refine au [15,15] ?_
 refine qN 16 (.agg #[qsQ x8,.slice a10 x9.length c11]) rfl rfl rfl (qM (i:=0) rfl tf65 rfl rfl (by simp) rfl) ?_
 refine au [13,17,32,0] ?_
 intro x7 e2 _
 refine av [0,30,15,6,18,6,19,6,20,29,6] ?_ ?_
 intro h2
 refine qg (d:=46) (v:=.bool true) rfl (by simp only[qsR,h2] <;> rfl) ?_
 refine au [19,21,19,22,19,23,19,24,19,25,19,26,19,27,19,28,19,29,6,30,6,31,19,32,19,33,19,34,19,35,19,36,19,37,19,38,19,39,19,40,19,41,19,42,19,43,6,44,16] ?_
 exact qm (qb (true,())) (by intro c h;cases h)
 intro h2
 refine qg (d:=46) (v:=.bool false) rfl (by simp only[qsR,h2] <;> rfl) ?_
 refine av [15,21,15,22,24,14,23,15,24,24,14,25,15,26,24,14,27,6,28,6,29,6,30,6,31,29,6] ?_ ?_
 intro h3
 refine qg (d:=57) (v:=.bool true) rfl (by simp only[qsR,h3] <;> rfl) ?_
 refine au [19,32,19,33,19,34,19,35,19,36,19,37,19,38,19,39,19,40,19,41,19,42,19,43,6,44,16] ?_
 exact qm (qb (true,())) (by intro c h;cases h)
 intro h3
 refine qg (d:=57) (v:=.bool false) rfl (by simp only[qsR,h3] <;> rfl) ?_
 refine au [15,32] ?_
 refine qN 33 (.agg #[qsQ x8,.slice a10 x9.length c11]) rfl rfl rfl (qM (i:=0) rfl tf65 rfl rfl (by simp) rfl) ?_
 refine au [15,34,24,14,35,6,36,13,37,36,7] ?_
 intro x10 e3 _
 refine av [0,30,15,6,38,6,39,29,6] ?_ ?_
 intro h4
 refine qg (d:=65) (v:=.bool true) rfl (by simp only[qsR,h4] <;> rfl) ?_
 refine au [15,40,24,14,41,6,42,6,43,6,44,16] ?_
 exact qm (qb ((decide (0<x1)),())) (by intro c h;cases h)
 intro h4
 refine qg (d:=65) (v:=.bool false) rfl (by simp only[qsR,h4] <;> rfl) ?_
 refine au [19,40,19,41,19,42,6,43,6,44,16] ?_
 exact qm (qb (false,())) (by intro c h;cases h)
 rintro ⟨x49,_⟩
 try dsimp only
 refine av [10] ?_ ?_
 intro _
 refine au [47,5,107] ?_
 exact qI (none,0)
 intro _
 refine au [115,46] ?_
 refine qj (fun ((x99,(a97,c98)):(qsO×(qsP×Nat)))=>([(1,qsS g12),(4,qsR a97 x99 c98)],[⟨g12,69,[qsQ x1,qsQ x2,qsQ x3,qsQ x4,qsR a6 x5 c7,qsQ x8,qsR a10 x9 c11]⟩],[qsU a97 x99 c98],[qsV a6 x5 c7,qsV a10 x9 c11],qdD F x2 x4 x5 x8 x9 x99)) ?_ ?_
 refine au [47,78,3,76,27,12] ?_
 refine qB (fun (((x11,x12),(a0,c0)):((qsO×Int)×(qsP×Nat)))=>([(1,qsS g12),(4,qsR a0 x11 c0),(72,qsQ x1),(73,qsQ x12)],[⟨g12,69,[qsQ x1,qsQ x2,qsQ x3,qsQ x4,qsR a6 x5 c7,qsQ x8,qsR a10 x9 c11]⟩],[qsU a0 x11 c0],[qsV a6 x5 c7,qsV a10 x9 c11])) (fun k (s:((qsO×Int)×(qsP×Nat)))=>jk F x1 x2 x3 x4 x5 x8 x9 k s.1) ((([]:qsO),0),(none,0)) F ?_
 intro k0
 rintro ⟨⟨x11,x12⟩,⟨a0,c0⟩⟩
 try dsimp only
 refine qH (m':=qdC F x1 x2 x3 x4 x5 x8 x9 (jk F x1 x2 x3 x4 x5 x8 x9 k0) x11 x12) rfl ?_
 refine av [96] ?_ ?_
 intro _
 refine au [83,48,46,4,3,24,10,3,36,8] ?_
 intro x13 e4 _
 refine qV (vs:=[qsQ x13]) (ys:=([x13]:qsO)) (qu .i64) (by decide) rfl Tryz.underlying56 tf3 rfl rfl rfl rfl rfl (by decide) (fun a1 c1=>zu 1 (qu .i64) rfl Tryz.underlying56 tf3 rfl rfl rfl rfl rfl (.inl ⟨0,_,rfl⟩) rfl rfl (fun x14 e5 a2 c2=>?_))
 refine au [5,0,99] ?_
 exact qr ((x14,iadd .i64 x12 1),(a2,c2))
 intro _
 refine au [73] ?_
 exact qb (x11,(a0,c0))
 rintro ⟨x99,⟨a97,c98⟩⟩
 try dsimp only
 refine au [1,48,78,35,0] ?_
 intro x15 e6 _
 refine av [70] ?_ ?_
 intro _
 refine au [47,5,107] ?_
 exact qI (none,0)
 intro _
 refine au [82,48,78,35,1] ?_
 rintro x16 e7 ⟨⟨a3,c3⟩,⟨a4,c4⟩⟩
 refine au [93,24,4] ?_
 intro g0
 refine au [20,58,25,8,3] ?_
 refine zp 7 (fun ((x17,_):(Bool×Unit))=>([(1,qsS g12),(4,qsR a97 x99 c98),(6,qsS g0),(104,.bool x17)],[⟨g0,69,[qsQ x16.1,qsQ x16.2.1,qsQ x16.2.2.1,qsQ x16.2.2.2.1,qsR a3 x16.2.2.2.2.1 c3,qsQ x16.2.2.2.2.2.1,qsR a4 x16.2.2.2.2.2.2.1 c4]⟩,⟨g12,69,[qsQ x1,qsQ x2,qsQ x3,qsQ x4,qsR a6 x5 c7,qsQ x8,qsR a10 x9 c11]⟩],[qsU a97 x99 c98,qsW a3 x16.2.2.2.2.1 c3,qsW a4 x16.2.2.2.2.2.2.1 c4],[qsV a6 x5 c7,qsV a10 x9 c11],qaX F x8 x9 x99 x16 x17)) ?_ ?_
 refine qc (os:=_) rfl ?_
 refine av [25,14] ?_ ?_
 intro h5
 refine qA (k:=97) rfl h5 ?_
 refine au [65,61,106] ?_
 exact qb (true,())
 intro h5
 refine qz (k:=97) rfl h5 ?_
 refine au [110,9,25,7,36,9] ?_
 intro x18 e8 _
 refine au [25,8,109] ?_
 exact qb ((!x18),())
 rintro ⟨x17,_⟩
 try dsimp only
 refine qc (os:=_) rfl ?_
 refine au [3] ?_
 refine zp 7 (fun ((x19,_):(Bool×Unit))=>([(4,qsR a97 x99 c98),(112,.bool x19)],[],[qsU a97 x99 c98],[],qaY F x99 x19)) ?_ ?_
 refine qc (os:=_) rfl ?_
 refine av [25,14] ?_ ?_
 intro h6
 refine qA (k:=105) rfl h6 ?_
 refine au [65,61,106] ?_
 exact qb (true,())
 intro h6
 refine qz (k:=105) rfl h6 ?_
 refine au [110,9,25,7,36,9] ?_
 intro x20 e9 _
 refine au [25,8,109] ?_
 exact qb ((!x20),())
 rintro ⟨x19,_⟩
 try dsimp only
 refine qc (os:=_) rfl ?_
 refine av [50] ?_ ?_
 intro _
 refine au [47,5,107] ?_
 exact qI (none,0)
 intro _
 refine au [57,48,5,49] ?_
 exact qI (a97,c98)
theorem qkd {F:Nat}{x1:Int}{x2:Int}{x3:Int}{x4:Int}{x5:qsO}{a6:qsP}{c7:Nat}{x8:Int}{x9:qsO}{a10:qsP}{c11:Nat}{r:Int}(hm:qhc F x1 x2 x3 x4 x5 x8 x9=some r) :
    Pure Tryz.prog 198 [.agg #[qsQ x1,qsQ x2,qsQ x3,qsQ x4,qsR a6 x5 c7,qsQ x8,qsR a10 x9 c11]] [qsV a6 x5 c7,qsV a10 x9 c11] Unit (fun _=>qsQ r) (fun _=>[]) (fun _=>[]):=by
 refine qs Tryz.func198 rfl Tryz.ntmps198 rfl hm (fun w=>?_)
 refine au [59,22] ?_
 intro g12
 refine au [46,74] ?_
 refine qk qiv ?_
 rintro x13 e13 ⟨a14,c15⟩
 exact az [93,5,58,68]
set_option maxHeartbeats 4000000 in
theorem qmc {F:Nat}{x1:Int}{x2:Int}{x3:Int}{x4:Int}{x5:qsO}{a6:qsP}{c7:Nat}{x8:Int}{x9:qsO}{a10:qsP}{c11:Nat}{x12:Int}{r:(Int×Int)}(hm:qiG F x1 x2 x3 x4 x5 x8 x9 x12=some r) :
    Pure Tryz.prog 169 [.agg #[qsQ x1,qsQ x2,qsQ x3,qsQ x4,qsR a6 x5 c7,qsQ x8,qsR a10 x9 c11],qsQ x12] [qsV a6 x5 c7,qsV a10 x9 c11] Unit (fun _=>.tuple #[qsQ r.1,qsQ r.2]) (fun _=>[]) (fun _=>[]):=by
 refine qs Tryz.func169 rfl Tryz.ntmps169 rfl hm (fun w=>?_)
 refine au [118] ?_
 intro g13
 refine au [5,46,74] ?_
 refine qk qkd ?_
 intro x14 e14 _
 refine au [46] ?_
 refine qj (fun ((x20,_):(Int×Unit))=>([(1,qsQ x12),(2,qsS g13),(6,qsQ x20)],[⟨g13,69,[qsQ x1,qsQ x2,qsQ x3,qsQ x4,qsR a6 x5 c7,qsQ x8,qsR a10 x9 c11]⟩],[],[qsV a6 x5 c7,qsV a10 x9 c11],qd4 F x1 x2 x3 x4 x5 x8 x9 x12 x20)) ?_ ?_
 refine au [48,25,5,3] ?_
 refine zp 9 (fun ((x26,_):(Bool×Unit))=>([(1,qsQ x12),(2,qsS g13),(6,qsQ x14),(20,.bool x26)],[⟨g13,69,[qsQ x1,qsQ x2,qsQ x3,qsQ x4,qsR a6 x5 c7,qsQ x8,qsR a10 x9 c11]⟩],[],[qsV a6 x5 c7,qsV a10 x9 c11],qd5 F x1 x2 x3 x4 x5 x8 x9 x12 x14 x26)) ?_ ?_
 refine qc (os:=_) rfl ?_
 refine av [25,14] ?_ ?_
 intro h24
 refine qA (k:=11) rfl h24 ?_
 refine au [3,24,3,3] ?_
 refine qO 5 (decide (x12<0)) [(1,qsQ x12),(2,qsS g13),(6,qsQ x14),(11,.bool true),(19,.bool ((decide (x12<0)) || (decide (x1≤x12))))] (fun h28=>?_) (fun h28=>?_) ?_
 refine qc (os:=_) rfl (qA (k:=14) rfl h28 ?_)
 refine au [65,24,7] ?_
 refine qa (d:=19) (v:=.bool ((decide (x12<0)) || (decide (x1≤x12)))) rfl (by rw[h28];simp only[qqU]) ?_
 exact az [51]
 refine qc (os:=_) rfl (qz (k:=14) rfl h28 ?_)
 refine au [3,78,26,5,24,9] ?_
 refine qa (d:=19) (v:=.bool ((decide (x12<0)) || (decide (x1≤x12)))) rfl (by rw[h28];simp only[qqT]) ?_
 exact az [51]
 refine qc (os:=_) rfl ?_
 refine au [106] ?_
 exact qb (((decide (x12<0)) || (decide (x1≤x12))),())
 intro h24
 refine qz (k:=11) rfl h24 ?_
 refine au [65,65,109] ?_
 exact qb (false,())
 rintro ⟨x26,_⟩
 try dsimp only
 refine qc (os:=_) rfl ?_
 refine av [50] ?_ ?_
 intro _
 refine au [4,5,0] ?_
 exact qb ((3:Int),())
 intro _
 refine au [11] ?_
 exact qb (x14,())
 rintro ⟨x20,_⟩
 try dsimp only
 refine av [1,48,70] ?_ ?_
 intro _
 exact az [48,5,77]
 intro _
 refine au [57,74,3,36,8] ?_
 intro x22 e22 _
 exact az [5,68]
theorem qf3:∀ (F:Nat) (g1:Nat) (x2:Int) (x3:Int) (x4:Int) (x5:Int) (x6:Int) (x7:qsO) (a8:qsP) (c9:Nat) (x10:Int) (x11:Int) (x12:Int) (x13:Int) (x14:qsO) (a15:qsP) (c16:Nat) (x17:Int) (x18:qsO) (a19:qsP) (c20:Nat) (x21:Int) (x22:Int) (r:(qsO×Int×Int×Int×Int×Int×Int×Int×Int×Int×Int×Int)),vo F x2 x3 x4 x5 x6 x7 x10 x11 x12 x13 x14 x17 x18 x21 x22=some r→PureM Tryz.prog 124 [qsS g1,qsQ x22] [⟨g1,174,[qsQ x2,qsQ x3,qsQ x4,qsQ x5,qsQ x6,qsR a8 x7 c9,qsQ x10,qsQ x11,qsQ x12,qsQ x13,qsR a15 x14 c16,qsQ x17,qsR a19 x18 c20,qsQ x21]⟩] [] [qsV a8 x7 c9,qsV a15 x14 c16,qsV a19 x18 c20] (qsP×Nat) (fun g=>qsR g.1 r.1 g.2) (fun _=>[⟨g1,174,[qsQ r.2.1,qsQ r.2.2.1,qsQ r.2.2.2.1,qsQ r.2.2.2.2.1,qsQ r.2.2.2.2.2.1,qsR a8 x7 c9,qsQ r.2.2.2.2.2.2.1,qsQ r.2.2.2.2.2.2.2.1,qsQ r.2.2.2.2.2.2.2.2.1,qsQ r.2.2.2.2.2.2.2.2.2.1,qsR a15 x14 c16,qsQ r.2.2.2.2.2.2.2.2.2.2.1,qsR a19 x18 c20,qsQ r.2.2.2.2.2.2.2.2.2.2.2]⟩]) (fun g=>[qsU g.1 r.1 g.2]):=by
  intro F
  induction F with
  | zero=>intro g1 x2 x3 x4 x5 x6 x7 a8 c9 x10 x11 x12 x13 x14 a15 c16 x17 x18 a19 c20 x21 x22 r hm;exact absurd hm (by simp[vo])
  | succ F ih =>
    intro g1 x2 x3 x4 x5 x6 x7 a8 c9 x10 x11 x12 x13 x14 a15 c16 x17 x18 a19 c20 x21 x22 r hm
    refine qE Tryz.func124 rfl Tryz.ntmps124 rfl hm (fun w=>?_)
    refine qkR (l':=[(0,qsS g1),(1,qsQ x22)]) rfl ?_
    refine zZ ?_
    refine q9 ?_
    refine kb rfl rfl rfl ?_
    refine zB ?_
    refine zy ?_
    refine zZ ?_
    refine q9 ?_
    refine zg rfl rfl rfl ?_
    refine zR rfl rfl rfl ?_
    refine zd rfl rfl ff174_1 rfl ?_
    refine zP (i:=0) rfl rfl tf3 rfl rfl (fun _=>rfl) rfl rfl ?_
    refine qis rfl rfl rfl rfl ?_
    refine zR rfl rfl rfl ?_
    refine zd rfl rfl ff174_1 rfl ?_
    refine kC (i:=0) rfl rfl rfl tf3 rfl rfl rfl rfl rfl ?_
    refine zB ?_
    refine zy ?_
    refine zZ ?_
    refine q9 ?_
    refine zg rfl rfl rfl ?_
    refine zR rfl rfl rfl ?_
    refine zd rfl rfl ff174_0 rfl ?_
    refine zd rfl rfl ff71_1 rfl ?_
    refine zP (i:=0) rfl rfl tf69 rfl rfl (by simp) rfl rfl ?_
    refine zg rfl rfl rfl ?_
    refine yj ent169 rfl rfl rfl (fun x23 e23=>qmc e23) (.consF 1 rfl (.consF 2 rfl .nil)) (fun x23 e23=>?_)
    intro _
    refine zg rfl rfl rfl ?_
    refine vE rfl rfl rfl rfl ?_
    refine vE rfl rfl rfl rfl ?_
    refine kb rfl rfl rfl ?_
    refine kb rfl rfl rfl ?_
    refine zB ?_
    refine zy ?_
    refine zZ ?_
    refine q9 ?_
    refine zg rfl rfl rfl ?_
    refine zR rfl rfl rfl ?_
    refine zd rfl rfl ff174_0 rfl ?_
    refine zd rfl rfl ff71_0 rfl ?_
    refine zP (i:=0) rfl rfl tf67 rfl rfl (by simp) rfl rfl ?_
    refine zg rfl rfl rfl ?_
    refine zg rfl rfl rfl ?_
    refine yj ent170 rfl rfl rfl (fun x24 e24=>qiz e24) (.consF 0 rfl .nil) (fun x24 e24=>?_)
    intro _
    refine zg rfl rfl rfl ?_
    refine vE rfl rfl rfl rfl ?_
    refine vE rfl rfl rfl rfl ?_
    refine vE rfl rfl rfl rfl ?_
    refine kb rfl rfl rfl ?_
    refine kb rfl rfl rfl ?_
    refine kb rfl rfl rfl ?_
    refine zB ?_
    refine zy ?_
    refine zZ ?_
    refine q9 ?_
    refine kb rfl rfl rfl ?_
    refine zB ?_
    refine zy ?_
    refine jN (fun (((x31,x32,x33,x34,x35,x36,x37,x38,x39,x40,x41,x42),(a29,c30)):((qsO×Int×Int×Int×Int×Int×Int×Int×Int×Int×Int×Int)×(qsP×Nat)))=>[(0,qsS g1),(1,qsQ x22),(7,qsQ x24.1),(8,qsQ x24.2.1),(10,qsR a29 x31 c30)]) (fun (((x31,x32,x33,x34,x35,x36,x37,x38,x39,x40,x41,x42),(a29,c30)):((qsO×Int×Int×Int×Int×Int×Int×Int×Int×Int×Int×Int)×(qsP×Nat)))=>[⟨g1,174,[qsQ x32,qsQ x33,qsQ x34,qsQ x35,qsQ x36,qsR a8 x7 c9,qsQ x37,qsQ x38,qsQ x39,qsQ x40,qsR a15 x14 c16,qsQ x41,qsR a19 x18 c20,qsQ x42]⟩]) (fun (((x31,x32,x33,x34,x35,x36,x37,x38,x39,x40,x41,x42),(a29,c30)):((qsO×Int×Int×Int×Int×Int×Int×Int×Int×Int×Int×Int)×(qsP×Nat)))=>[qsU a29 x31 c30]) (fun (((x31,x32,x33,x34,x35,x36,x37,x38,x39,x40,x41,x42),(a29,c30)):((qsO×Int×Int×Int×Int×Int×Int×Int×Int×Int×Int×Int)×(qsP×Nat)))=>[qsV a8 x7 c9,qsV a15 x14 c16,qsV a19 x18 c20]) (fun (((x31,x32,x33,x34,x35,x36,x37,x38,x39,x40,x41,x42),_):((qsO×Int×Int×Int×Int×Int×Int×Int×Int×Int×Int×Int)×(qsP×Nat)))=>vL F x7 x22 x24 x31 x32 x33 x34 x35 x36 x37 x38 x39 x40 x41 x42) ?_ ?_
    · refine zZ ?_
      refine q9 ?_
      refine zg rfl rfl rfl ?_
      refine qnk rfl rfl rfl rfl ?_
      refine zB ?_
      refine zy ?_
      refine qhT rfl (fun h53=>?_) (fun h53=>?_)
      · refine q9 ?_
        refine zg rfl rfl rfl ?_
        refine zg rfl rfl rfl ?_
        refine zg rfl rfl rfl ?_
        refine qnn rfl rfl rfl rfl ?_
        refine qaP ent124 rfl rfl rfl (fun x50 e50=>ih g1 x2 x3 x4 x5 x6 x7 a8 c9 x10 x11 x12 x13 x14 a15 c16 x17 x18 a19 c20 (iadd .i64 x21 1) (isub .i64 x22 x24.1) x50 e50) (.cons 0 rfl .nil) .nil (.consF 0 rfl (.consF 1 rfl (.consF 2 rfl .nil))) (fun x50 e50=>?_)
        rintro ⟨a51,c52⟩
        refine kb rfl rfl rfl ?_
        refine zB ?_
        exact kF ((x50.1,x50.2.1,x50.2.2.1,x50.2.2.2.1,x50.2.2.2.2.1,x50.2.2.2.2.2.1,x50.2.2.2.2.2.2.1,x50.2.2.2.2.2.2.2.1,x50.2.2.2.2.2.2.2.2.1,x50.2.2.2.2.2.2.2.2.2.1,x50.2.2.2.2.2.2.2.2.2.2.1,x50.2.2.2.2.2.2.2.2.2.2.2),(a51,c52)) (hB:=(.cons 0 rfl .nil)) (hR:=(.cons 0 rfl .nil)) (hF:=(qp 0 rfl (qp 1 rfl (qp 2 rfl zx))))
      · refine qfR ?_
        refine qdu Int (eI .i64) 3 1 ?_
        exact kF ((([]:qsO),x2,x3,x4,x5,x6,x10,x11,x12,x13,x17,iadd .i64 x21 1),(none,0)) (hB:=(.cons 0 rfl .nil)) (hR:=(.cons 0 rfl .nil)) (hF:=(qp 0 rfl (qp 1 rfl (qp 2 rfl zx))))
    · rintro ⟨⟨x31,x32,x33,x34,x35,x36,x37,x38,x39,x40,x41,x42⟩,⟨a29,c30⟩⟩
      try dsimp only
      refine zZ ?_
      refine q9 ?_
      refine zg rfl rfl rfl ?_
      refine zR rfl rfl rfl ?_
      refine zd rfl rfl ff174_0 rfl ?_
      refine zd rfl rfl ff71_0 rfl ?_
      refine zd rfl rfl ff67_1 rfl ?_
      refine zP (i:=0) rfl rfl tf26 rfl rfl (by simp) rfl rfl ?_
      refine qhU rfl tf26 rfl (fun g43=>?_)
      refine kC (i:=0) rfl rfl rfl tf26 rfl rfl rfl rfl rfl ?_
      refine zB ?_
      refine zy ?_
      refine zZ ?_
      refine q9 ?_
      refine zg rfl rfl rfl ?_
      refine zd rfl rfl ff26_0 rfl ?_
      refine kC (i:=0) rfl rfl rfl tf3 rfl rfl rfl rfl rfl ?_
      refine zB ?_
      refine zy ?_
      refine zZ ?_
      refine qt mixed [] [⟨g43,26,[qsQ x24.1,qsQ x34,qsQ x35]⟩,⟨g1,174,[qsQ x32,qsQ x33,qsQ x34,qsQ x35,qsQ x36,qsR a8 x7 c9,qsQ x37,qsQ x38,qsQ x39,qsQ x40,qsR a15 x14 c16,qsQ x41,qsR a19 x18 c20,qsQ x42]⟩] [qsV a8 x7 c9,qsV a15 x14 c16,qsV a19 x18 c20] (.cons 0 rfl (.cons 0 rfl .nil)) (qf 0 rfl (qf 1 rfl (qf 2 rfl qh))) 18 rfl ?_
      refine qe 0 (qsS g1) rfl rfl rfl (zt rfl) ?_
      refine qe 1 (qsS g1) rfl rfl rfl (zt rfl) ?_
      refine qe 2 (qsS g1) rfl rfl rfl (zj rfl ff174_0) ?_
      refine qe 3 (qsS g1) rfl rfl rfl (zj rfl ff71_0) ?_
      refine qe 4 (.pointer (some ⟨g1,4,none⟩)) rfl rfl rfl (zj rfl ff67_2) ?_
      refine qN 5 (.agg #[qsQ x36,.slice a8 x7.length c9]) rfl rfl rfl (qM (i:=1) rfl tf65 rfl rfl (by simp) rfl) ?_
      refine qe 6 (qsQ x24.2.1) rfl rfl rfl (zt rfl) ?_
      refine qe 7 (qsQ x22) rfl rfl rfl (zt rfl) ?_
      refine qe 8 (qsR a29 x31 c30) rfl rfl rfl (zt rfl) ?_
      refine qN 9 (.agg #[qsQ x24.1,qsQ x34,qsQ x35]) rfl rfl rfl (qM (i:=0) rfl tf26 rfl rfl (by simp) rfl) ?_
      refine qew 10 rfl (by kernel_rfl) rfl ?_
      refine yj ent171 rfl rfl rfl (fun x47 e47=>qhZ e47) (.consF 0 rfl (.consR 0 (qsU a29 x31 c30) rfl .nil)) (fun x47 e47=>?_)
      rintro ⟨a48,c49⟩
      refine zB ?_
      refine qi (.cons 0 rfl (.cons 0 rfl .nil)) (qf 0 rfl (qf 1 rfl (qf 2 rfl qh))) ?_
      refine qe 11 (.tuple #[qsR a48 x47.1 c49,qsQ x47.2.1,qsQ x47.2.2]) rfl rfl rfl (zt rfl) ?_
      refine qe 12 (qsR a48 x47.1 c49) rfl rfl rfl (zt rfl) ?_
      refine qe 13 (qsQ x47.2.1) rfl rfl rfl (zt rfl) ?_
      refine qe 14 (qsQ x47.2.2) rfl rfl rfl (zt rfl) ?_
      refine qe 15 (qsR a48 x47.1 c49) rfl rfl rfl (zt rfl) ?_
      refine qe 16 (qsQ x47.2.1) rfl rfl rfl (zt rfl) ?_
      refine qe 17 (qsQ x47.2.2) rfl rfl rfl (zt rfl) ?_
      refine qev (by kernel_rfl) ?_
      refine qm ?_ (by intro c h;cases h)
      refine zy ?_
      refine zZ ?_
      refine q9 ?_
      refine zg rfl rfl rfl ?_
      refine kb rfl rfl rfl ?_
      refine zB ?_
      refine zy ?_
      refine qkS ?_
      exact kU (a48,c49) (res1 rfl rfl) (hB:=fun h=>by subst h;exact (.cons 1 rfl .nil)) (hR:=fun h=>by subst h;exact (.cons 0 rfl .nil))
set_option maxHeartbeats 4000000 in
theorem qkq {F:Nat}{x1:Int}{x2:Int}{x3:Int}{x4:Int}{x5:Int}{x6:qsO}{a7:qsP}{c8:Nat}{x9:Int}{x10:Int}{x11:Int}{x12:Int}{x13:qsO}{a14:qsP}{c15:Nat}{x16:Int}{x17:qsO}{a18:qsP}{c19:Nat}{x20:Int}{r:(qsO×Int×Int)}(hm:qhj F x1 x2 x3 x4 x5 x6 x9 x10 x11 x12 x13 x16 x17 x20=some r) :
    Pure Tryz.prog 89 [.agg #[qsQ x1,qsQ x2,qsQ x3,qsQ x4,qsQ x5,qsR a7 x6 c8,qsQ x9,qsQ x10,qsQ x11,qsQ x12,qsR a14 x13 c15,qsQ x16,qsR a18 x17 c19],qsQ x20] [qsV a7 x6 c8,qsV a14 x13 c15,qsV a18 x17 c19] (qsP×Nat) (fun g=>.tuple #[qsR g.1 r.1 g.2,qsQ r.2.1,qsQ r.2.2]) (fun g=>[qsU g.1 r.1 g.2]) (fun _=>[]):=by
 refine qs Tryz.func89 rfl Tryz.ntmps89 rfl hm (fun w=>?_)
 refine au [118] ?_
 intro g21
 refine au [5,5,46,74] ?_
 refine qk qjr ?_
 intro x22 e22 _
 refine au [46] ?_
 refine qj (fun ((x28,_):(Int×Unit))=>([(1,qsQ x20),(2,qsS g21),(7,qsQ x28)],[⟨g21,71,[qsQ x1,qsQ x2,qsQ x3,qsQ x4,qsQ x5,qsR a7 x6 c8,qsQ x9,qsQ x10,qsQ x11,qsQ x12,qsR a14 x13 c15,qsQ x16,qsR a18 x17 c19]⟩],[],[qsV a7 x6 c8,qsV a14 x13 c15,qsV a18 x17 c19],qcA F x1 x2 x3 x4 x5 x6 x9 x10 x11 x12 x13 x16 x17 x20 x28)) ?_ ?_
 refine au [48,25,5,3] ?_
 refine zp 10 (fun ((x37,_):(Bool×Unit))=>([(1,qsQ x20),(2,qsS g21),(7,qsQ x22),(24,.bool x37)],[⟨g21,71,[qsQ x1,qsQ x2,qsQ x3,qsQ x4,qsQ x5,qsR a7 x6 c8,qsQ x9,qsQ x10,qsQ x11,qsQ x12,qsR a14 x13 c15,qsQ x16,qsR a18 x17 c19]⟩],[],[qsV a7 x6 c8,qsV a14 x13 c15,qsV a18 x17 c19],qcB F x1 x2 x3 x4 x5 x6 x9 x10 x11 x12 x13 x16 x17 x20 x22 x37)) ?_ ?_
 refine qc (os:=_) rfl ?_
 refine av [25,14] ?_ ?_
 intro h35
 refine qA (k:=14) rfl h35 ?_
 refine au [3,24,3,3] ?_
 refine qO 6 (decide (x20<0)) [(1,qsQ x20),(2,qsS g21),(7,qsQ x22),(14,.bool true),(23,.bool ((decide (x20<0)) || (decide (x1≤x20))))] (fun h39=>?_) (fun h39=>?_) ?_
 refine qc (os:=_) rfl (qA (k:=17) rfl h39 ?_)
 refine au [65,7,24,7] ?_
 refine qa (d:=23) (v:=.bool ((decide (x20<0)) || (decide (x1≤x20)))) rfl (by rw[h39];simp only[qqU]) ?_
 exact az [51]
 refine qc (os:=_) rfl (qz (k:=17) rfl h39 ?_)
 refine au [3,9,78,26,5,24,9] ?_
 refine qa (d:=23) (v:=.bool ((decide (x20<0)) || (decide (x1≤x20)))) rfl (by rw[h39];simp only[qqT]) ?_
 exact az [51]
 refine qc (os:=_) rfl ?_
 refine au [106] ?_
 exact qb (((decide (x20<0)) || (decide (x1≤x20))),())
 intro h35
 refine qz (k:=14) rfl h35 ?_
 refine au [65,65,7,109] ?_
 exact qb (false,())
 rintro ⟨x37,_⟩
 try dsimp only
 refine qc (os:=_) rfl ?_
 refine av [50] ?_ ?_
 intro _
 refine au [4,5,0] ?_
 exact qb ((3:Int),())
 intro _
 refine au [11] ?_
 exact qb (x22,())
 rintro ⟨x28,_⟩
 try dsimp only
 refine av [1,48,70] ?_ ?_
 intro _
 refine au [48,5,5,107] ?_
 exact qI (none,0)
 intro _
 refine au [57,74] ?_
 refine qq (cells:=[qsQ x1,qsQ x2,qsQ x3,qsQ x4,qsQ x5,qsR a7 x6 c8,qsQ x9,qsQ x10,qsQ x11,qsQ x12,qsR a14 x13 c15,qsQ x16,qsR a18 x17 c19,qsQ 0]) rfl st174 rfl (by kernel_rfl) rfl ?_
 refine au [22] ?_
 intro g30
 refine au [58,3] ?_
 refine qF (fun h=>qf3 F _ _ _ _ _ _ _ _ _ _ _ _ _ _ _ _ _ _ _ _ _ _ _ h) ?_
 rintro x31 e31 ⟨a32,c33⟩
 refine au [71] ?_
 refine qt mixed [] [⟨g30,174,[qsQ x31.2.1,qsQ x31.2.2.1,qsQ x31.2.2.2.1,qsQ x31.2.2.2.2.1,qsQ x31.2.2.2.2.2.1,qsR a7 x6 c8,qsQ x31.2.2.2.2.2.2.1,qsQ x31.2.2.2.2.2.2.2.1,qsQ x31.2.2.2.2.2.2.2.2.1,qsQ x31.2.2.2.2.2.2.2.2.2.1,qsR a14 x13 c15,qsQ x31.2.2.2.2.2.2.2.2.2.2.1,qsR a18 x17 c19,qsQ x31.2.2.2.2.2.2.2.2.2.2.2]⟩,⟨g21,71,[qsQ x1,qsQ x2,qsQ x3,qsQ x4,qsQ x5,qsR a7 x6 c8,qsQ x9,qsQ x10,qsQ x11,qsQ x12,qsR a14 x13 c15,qsQ x16,qsR a18 x17 c19]⟩] [qsV a7 x6 c8,qsV a14 x13 c15,qsV a18 x17 c19] (.cons 0 rfl (.cons 0 rfl .nil)) (qf 0 rfl (qf 1 rfl (qf 2 rfl qh))) 8 rfl ?_
 refine au [97,15,3,24,14,4,6,5,67,16] ?_
 refine qm ?_ (by intro c h;cases h)
 refine au [2,8] ?_
 exact qI (a32,c33)
theorem qg2 {F:Nat}{g1:Nat}{x2:List (qsO)}{a3:qsP}{c4:Nat}{s4:List (qsP×Nat)}{x5:Int}{x6:Int}{x7:Int}{x8:qsO}{a9:qsP}{c10:Nat}{x11:qsO}{x12:qsO}{a13:qsP}{c14:Nat}{r:qsO}(hm:qaV F x2 x5 x6 x7 x8 x11 x12=some r) :
    PureM Tryz.prog 90 [qsS g1,qsR a13 x12 c14] [⟨g1,85,[qsR a3 x2 c4,qsQ x5,qsQ x6,qsQ x7,qsR a9 x8 c10,.string (bstr x11)]⟩] [] [SlN eN56 iN56 1 (qsR a3 x2 c4) x2 s4,qsT a9 x8 c10,qsT a13 x12 c14,GF] Unit (fun _=>.tuple #[]) (fun _=>[⟨g1,85,[qsR a3 x2 c4,qsQ x5,qsQ x6,qsQ x7,qsR a9 x8 c10,.string (bstr r)]⟩]) (fun _=>[]):=by
 refine qE Tryz.func90 rfl Tryz.ntmps90 rfl hm (fun w=>?_)
 refine au [56,46] ?_
 refine qj (fun ((x82,(a80,c81)):(List (qsO)×(qsP×Nat)))=>([(0,qsS g1),(4,qsR a80 x82 c81)],[⟨g1,85,[qsR a3 x2 c4,qsQ x5,qsQ x6,qsQ x7,qsR a9 x8 c10,.string (bstr x11)]⟩],[Ro eT 9 1 (qsR a80 x82 c81) x82],[SlN eN56 iN56 1 (qsR a3 x2 c4) x2 s4,qsT a9 x8 c10,GF],qci F x82)) ?_ ?_
 refine au [72,3,76] ?_
 refine qbM (qsO) eT 9 1 (qB (fun (((x0,x1),(a0,c0)):((List (qsO)×Int)×(qsP×Nat)))=>([(0,qsS g1),(4,qsR a0 x0 c0),(7,qsR a13 x12 c14),(8,qsQ (x12.length:Int)),(9,qsQ x1)],[⟨g1,85,[qsR a3 x2 c4,qsQ x5,qsQ x6,qsQ x7,qsR a9 x8 c10,.string (bstr x11)]⟩],[Ro eT 9 1 (qsR a0 x0 c0) x0],[qsT a13 x12 c14,SlN eN56 iN56 1 (qsR a3 x2 c4) x2 s4,qsT a9 x8 c10,GF])) (fun k (s:((List (qsO)×Int)×(qsP×Nat)))=>y4 F x12 k s.1) ((([]:List (qsO)),0),(none,0)) F ?_)
 intro k0
 rintro ⟨⟨x0,x1⟩,⟨a0,c0⟩⟩
 try dsimp only
 refine qH (m':=qch F x12 (y4 F x12 k0) x0 x1) rfl ?_
 refine av [96] ?_ ?_
 intro _
 refine au [83,47,26,2] ?_
 intro x3 e0 b0 o0
 refine au [25,2,46,4,3,3] ?_
 refine yj ent24 rfl rfl rfl (fun x4 e1=>qdv x3 x4 e1) (.consF 4 rfl .nil) (fun x4 e1 _=>qV (vs:=[.string (bstr x4)]) (ys:=([x4]:List (qsO))) qU (by decide) rfl Tryz.underlying39 tf9 rfl rfl rfl rfl rfl (by decide) (fun a1 c1=>zu 1 qU rfl Tryz.underlying39 tf9 rfl rfl rfl rfl rfl (.inl ⟨0,_,rfl⟩) rfl rfl (fun x9 e2 a2 c2=>?_)))
 refine au [5,0,99] ?_
 exact qr ((x9,iadd .i64 x1 1),(a2,c2))
 intro _
 refine au [73] ?_
 exact qb (x0,(a0,c0))
 rintro ⟨x82,⟨a80,c81⟩⟩
 try dsimp only
 refine au [4,3,3] ?_
 refine yj ent125 rfl rfl rfl (fun x83 e83=>qp0 x82 a80 c81 ([32]:qsO) x83 e83) (.consR 0 (Ro eT 9 1 (qsR a80 x82 c81) x82) rfl .nil) (fun x83 e83 _=>?_)
 exact az [55,86,25,13]
set_option maxHeartbeats 4000000 in
theorem qg1 (F:Nat)(g1:Nat)(x2:List (qsO))(a3:qsP)(c4:(Nat×List (qsP×Nat)))(x5:Int)(x6:Int)(x7:Int)(x8:qsO)(a9:qsP)(c10:Nat)(x11:qsO)(r:(Int×qsO))(hm:qdB F x2 x5 x6 x7 x8 x11=some r) :
    PureM Tryz.prog 63 [qsS g1] [⟨g1,85,[qsR a3 x2 c4.1,qsQ x5,qsQ x6,qsQ x7,qsR a9 x8 c10,.string (bstr x11)]⟩] [] [SlN eN56 iN56 1 (qsR a3 x2 c4.1) x2 c4.2,qsT a9 x8 c10,GF] Unit (fun _=>qsQ r.1) (fun _=>[⟨g1,85,[qsR a3 x2 c4.1,qsQ x5,qsQ x6,qsQ x7,qsR a9 x8 c10,.string (bstr r.2)]⟩]) (fun _=>[]):=by
 refine qE Tryz.func63 rfl Tryz.ntmps63 rfl hm (fun w=>?_)
 refine au [59,46] ?_
 refine qj (fun (((x29,x30,x31,x32,x33,x34,x37,x38,x39,x40,x41,x44,x45,x48),(g28,a35,c36,a42,c43,a46,c47)):((Int×Int×Int×Int×Int×Int×qsO×Int×Int×Int×Int×qsO×Int×qsO)×(Nat×qsP×Nat×qsP×Nat×qsP×Nat)))=>([(0,qsS g1),(3,qsS g28),(4,qsQ x29)],[⟨g1,85,[qsR a3 x2 c4.1,qsQ x5,qsQ x6,qsQ x7,qsR a9 x8 c10,.string (bstr x11)]⟩,⟨g28,71,[qsQ x30,qsQ x31,qsQ x32,qsQ x33,qsQ x34,qsR a35 x37 c36,qsQ x38,qsQ x39,qsQ x40,qsQ x41,qsR a42 x44 c43,qsQ x45,qsR a46 x48 c47]⟩],[qsW a35 x37 c36,qsW a42 x44 c43,qsW a46 x48 c47],[SlN eN56 iN56 1 (qsR a3 x2 c4.1) x2 c4.2,qsT a9 x8 c10,GF],jA F x2 x5 x6 x7 x8 x11 x29 x30 x31 x32 x33 x34 x37 x38 x39 x40 x41 x44 x45 x48)) ?_ ?_
 refine qt mixed [] [⟨g1,85,[qsR a3 x2 c4.1,qsQ x5,qsQ x6,qsQ x7,qsR a9 x8 c10,.string (bstr x11)]⟩] [SlN eN56 iN56 1 (qsR a3 x2 c4.1) x2 c4.2,qsT a9 x8 c10,GF] (.cons 0 rfl .nil) (qf 0 rfl (qf 1 rfl (qf 2 rfl qh))) 17 rfl ?_
 refine au [69,15,2,15,3] ?_
 refine qN 4 (.agg #[.slice a3 x2.length c4.1]) rfl rfl rfl (qM (i:=0) rfl tf24 rfl rfl (by simp) rfl) ?_
 refine au [6,5,6,6,15,7,15,8] ?_
 refine qN 9 (.agg #[qsQ x5,qsQ x6,qsQ x7]) rfl rfl rfl (qM (i:=0) rfl tf26 rfl rfl (by simp) rfl) (ye 10 14 rfl rfl (by kernel_rfl) rfl rfl ?_ ?_)
 refine au [36,10] ?_
 rintro x66 e66 ⟨⟨a67,c68⟩,⟨a69,c70⟩,⟨a71,c72⟩⟩
 refine au [0,34,13,6,11,101,13,14,24,4] ?_
 intro g73
 refine au [0,27,14,13,15,86,27,14,6,16,16] ?_
 exact qm (qb ((x66.2.2.2.2.2.2.2.2.2.2.2.2.2,x66.1,x66.2.1,x66.2.2.1,x66.2.2.2.1,x66.2.2.2.2.1,x66.2.2.2.2.2.1,x66.2.2.2.2.2.2.1,x66.2.2.2.2.2.2.2.1,x66.2.2.2.2.2.2.2.2.1,x66.2.2.2.2.2.2.2.2.2.1,x66.2.2.2.2.2.2.2.2.2.2.1,x66.2.2.2.2.2.2.2.2.2.2.2.1,x66.2.2.2.2.2.2.2.2.2.2.2.2.1),(g73,a67,c68,a69,c70,a71,c72))) (by intro c h;cases h)
 refine kz (m':=((qea F x2 x5 x6 x7).bind fun x75=>jA F x2 x5 x6 x7 x8 x11 x75.2.2.2.2.2.2.2.2.2.2.2.2.2 x75.1 x75.2.1 x75.2.2.1 x75.2.2.2.1 x75.2.2.2.2.1 x75.2.2.2.2.2.1 x75.2.2.2.2.2.2.1 x75.2.2.2.2.2.2.2.1 x75.2.2.2.2.2.2.2.2.1 x75.2.2.2.2.2.2.2.2.2.1 x75.2.2.2.2.2.2.2.2.2.2.1 x75.2.2.2.2.2.2.2.2.2.2.2.1 x75.2.2.2.2.2.2.2.2.2.2.2.2.1)) (rfl) ?_
 refine au [24,4] ?_
 intro g74
 refine au [0,27,14,13,10,36,10] ?_
 rintro x75 e75 ⟨⟨a76,c77⟩,⟨a78,c79⟩,⟨a80,c81⟩⟩
 refine au [0,27,14,6,11,101,13,15,86,27,14,6,16,16] ?_
 exact qm (qb ((x75.2.2.2.2.2.2.2.2.2.2.2.2.2,x75.1,x75.2.1,x75.2.2.1,x75.2.2.2.1,x75.2.2.2.2.1,x75.2.2.2.2.2.1,x75.2.2.2.2.2.2.1,x75.2.2.2.2.2.2.2.1,x75.2.2.2.2.2.2.2.2.1,x75.2.2.2.2.2.2.2.2.2.1,x75.2.2.2.2.2.2.2.2.2.2.1,x75.2.2.2.2.2.2.2.2.2.2.2.1,x75.2.2.2.2.2.2.2.2.2.2.2.2.1),(g74,a76,c77,a78,c79,a80,c81))) (by intro c h;cases h)
 rintro ⟨⟨x29,x30,x31,x32,x33,x34,x37,x38,x39,x40,x41,x44,x45,x48⟩,⟨g28,a35,c36,a42,c43,a46,c47⟩⟩
 try dsimp only
 refine av [1,48,70] ?_ ?_
 intro _
 exact az [48,60,25,13]
 intro _
 refine au [82,28,2] ?_
 intro x57 e57 b58 o59 h60
 replace h60:a9=some ⟨b58,o59,none⟩:=h60
 refine qt mixed [] [⟨g1,85,[.slice a3 x2.length c4.1,qsQ x5,qsQ x6,qsQ x7,.slice a9 x8.length c10,.string (bstr x11)]⟩,⟨g28,71,[qsQ x30,qsQ x31,qsQ x32,qsQ x33,qsQ x34,.slice a35 x37.length c36,qsQ x38,qsQ x39,qsQ x40,qsQ x41,.slice a42 x44.length c43,qsQ x45,.slice a46 x48.length c47]⟩] [qC b58 (o59+(0:Int).toNat*1) ((eI .i64) x57),SlN eN56 iN56 1 (.slice a3 x2.length c4.1) x2 c4.2,Sl (eI .i64) 1 (.slice a9 x8.length c10) x8,GF] (.cons 0 rfl (.cons 0 rfl .nil)) (qf 0 rfl (qf 1 rfl (qf 2 rfl (qf 3 rfl qh)))) 15 rfl (qN 0 (.agg #[qsQ x30,qsQ x31,qsQ x32,qsQ x33,qsQ x34,.slice a35 x37.length c36,qsQ x38,qsQ x39,qsQ x40,qsQ x41,.slice a42 x44.length c43,qsQ x45,.slice a46 x48.length c47]) rfl rfl rfl (qM (i:=1) rfl tf71 rfl rfl (by simp) rfl) ?_)
 refine au [6,1,6,2,15,3,24,14,4] ?_
 refine qg (d:=29) (v:=qsR (some ⟨b58,o59,none⟩) x8 c10) rfl (by simp only[qsR,h60] <;> rfl) (qe 5 (.pointer (some ⟨b58,(o59+(0:Int).toNat*1),none⟩)) rfl rfl rfl (k8 Tryz.underlying56 tf3 rfl rfl (qo e57).1 (zf e57)) (qg (d:=29) (v:=qsR a9 x8 c10) rfl (by simp only[qsR,h60] <;> rfl) (qJ 6 (qsQ x57) [] rfl rfl rfl (q7 (j:=0) rfl tf3 rfl rfl (fun _=>rfl) rfl) ?_)))
 refine au [13,7] ?_
 refine qk qkq ?_
 rintro x61 e61 ⟨a62,c63⟩
 refine au [0,34,11,6,8,6,9,6,10,6,11,101,6,14,16] ?_
 refine qm ?_ (by intro c h;cases h)
 refine au [2,87,36,11] ?_
 intro x64 e64 _
 exact az [45,48,90]
theorem qiE (F:Nat)(x1:Int)(g2:Nat)(x3:List (qsO))(a4:qsP)(c5:(Nat×List (qsP×Nat)))(r:Bool)(hm:qdm F x1 x3=some r) :
    PureM Tryz.prog 173 [qsQ x1,qsS g2] [⟨g2,24,[qsR a4 x3 c5.1]⟩] [] [SlN eN56 iN56 1 (qsR a4 x3 c5.1) x3 c5.2] Unit (fun _=>.bool r) (fun _=>[⟨g2,24,[qsR a4 x3 c5.1]⟩]) (fun _=>[]):=by
 refine qE Tryz.func173 rfl Tryz.ntmps173 rfl hm (fun w=>?_)
 refine au [56,58,24,3,3] ?_
 refine qO 6 (decide (x1<0)) [(12,.bool ((decide (x1<0)) || (decide ((x3.length:Int)≤x1))))] (fun h6=>?_) (fun h6=>?_) ?_
 refine qc (os:=_) rfl (qA (k:=6) rfl h6 ?_)
 refine au [65,7,24,7] ?_
 refine qa (d:=12) (v:=.bool ((decide (x1<0)) || (decide ((x3.length:Int)≤x1)))) rfl (by rw[h6];simp only[qqU]) ?_
 exact az [51]
 refine qc (os:=_) rfl (qz (k:=6) rfl h6 ?_)
 refine au [3,78,24,6,26,5,24,9] ?_
 refine qa (d:=12) (v:=.bool ((decide (x1<0)) || (decide ((x3.length:Int)≤x1)))) rfl (by rw[h6];simp only[qqT]) ?_
 exact az [51]
 refine qc (os:=_) rfl ?_
 exact az [90]
set_option maxHeartbeats 4000000 in
theorem jv {F:Nat}{x1:qsO}{a2:qsP}{c3:Nat}{g4:Nat}{x5:List (qsO)}{a6:qsP}{c7:Nat}{s7:List (qsP×Nat)}{r:Int}(hm:z6 F x1 x5=some r) :
    PureM Tryz.prog 129 [qsR a2 x1 c3,.func (.func 173) #[] #[qsS g4]] [⟨g4,24,[qsR a6 x5 c7]⟩] [] [qsT a2 x1 c3,SlN eN56 iN56 1 (qsR a6 x5 c7) x5 s7] Unit (fun _=>qsQ r) (fun _=>[⟨g4,24,[qsR a6 x5 c7]⟩]) (fun _=>[]):=by
 refine qE Tryz.func129 rfl Tryz.ntmps129 rfl hm (fun w=>?_)
 refine au [56,46] ?_
 refine qj (fun ((_,_):(Unit×Unit))=>([],[⟨g4,24,[qsR a6 x5 c7]⟩],[],[SlN eN56 iN56 1 (qsR a6 x5 c7) x5 s7],kP F)) ?_ ?_
 refine au [72,3,76] ?_
 refine qB (fun ((x58,_):(Int×Unit))=>([(0,qsR a2 x1 c3),(1,.func (.func 173) #[] #[qsS g4]),(7,qsQ (x1.length:Int)),(8,qsQ x58)],[⟨g4,24,[qsR a6 x5 c7]⟩],[],[qsT a2 x1 c3,SlN eN56 iN56 1 (qsR a6 x5 c7) x5 s7])) (fun k (s:(Int×Unit))=>qT F x1 x5 k s.1) (0,()) F ?_
 intro k71
 rintro ⟨x58,_⟩
 try dsimp only
 refine qH (m':=zm F x1 x5 (qT F x1 x5 k71) x58) rfl ?_
 refine av [96] ?_ ?_
 intro _
 refine au [83,48,58,3,3,26,2] ?_
 intro x78 e78 b79 o80
 refine au [25,2] ?_
 refine qds ent173 rfl rfl rfl rfl (fun x81 e81=>qiE F x78 g4 x5 a6 (c7,s7) x81 e81) (.cons 0 rfl .nil) .nil (.consF 2 rfl .nil) (fun x81 e81 _=>?_)
 refine av [50] ?_ ?_
 intro _
 exact az [48,49,92,52,25,13]
 intro _
 refine au [11,99] ?_
 exact qr (iadd .i64 x58 1,())
 intro _
 exact az [73,26,8]
 rintro ⟨_,_⟩
 try dsimp only
 exact az [47,90]
theorem vF {F:Nat}{x1:qsO}{a2:qsP}{c3:Nat}{g4:Nat}{x5:List (qsO)}{a6:qsP}{c7:Nat}{s7:List (qsP×Nat)}{r:Bool}(hm:zQ F x1 x5=some r) :
    PureM Tryz.prog 119 [qsR a2 x1 c3,.func (.func 173) #[] #[qsS g4]] [⟨g4,24,[qsR a6 x5 c7]⟩] [] [qsT a2 x1 c3,SlN eN56 iN56 1 (qsR a6 x5 c7) x5 s7] Unit (fun _=>.bool r) (fun _=>[⟨g4,24,[qsR a6 x5 c7]⟩]) (fun _=>[]):=by
 refine qE Tryz.func119 rfl Tryz.ntmps119 rfl hm (fun w=>?_)
 refine au [56,58,3] ?_
 refine qF jv ?_
 intro x8 e8 _
 exact az [26,5,90]
theorem qkx {F:Nat}{x1:List (qsO)}{a2:qsP}{c3:Nat}{s3:List (qsP×Nat)}{x4:qsO}{a5:qsP}{c6:Nat}{r:Int}(hm:qba F x1 x4=some r) :
    Pure Tryz.prog 126 [.agg #[qsR a2 x1 c3],qsR a5 x4 c6] [SlN eN56 iN56 1 (qsR a2 x1 c3) x1 s3,qsT a5 x4 c6] Unit (fun _=>qsQ r) (fun _=>[]) (fun _=>[]):=by
 refine qs Tryz.func126 rfl Tryz.ntmps126 rfl hm (fun w=>?_)
 refine au [118] ?_
 intro g7
 refine au [71,74,28,0] ?_
 intro x10 e10 _
 refine av [58,70] ?_ ?_
 intro _
 exact az [48,77]
 intro _
 refine au [82,48,27,4] ?_
 refine qF vF ?_
 intro x13 e13 _
 refine av [50] ?_ ?_
 intro _
 exact az [47,77]
 intro _
 exact az [115,68]
set_option maxHeartbeats 4000000 in
theorem qmk {F:Nat}{x1:List (qsO)}{a2:qsP}{c3:Nat}{s3:List (qsP×Nat)}{x4:Int}{r:qsO}(hm:qaA F x1 x4=some r) :
    Pure Tryz.prog 127 [.agg #[qsR a2 x1 c3],qsQ x4] [SlN eN56 iN56 1 (qsR a2 x1 c3) x1 s3] (qsP×Nat) (fun g=>qsR g.1 r g.2) (fun g=>[qsU g.1 r g.2]) (fun _=>[]):=by
 refine qs Tryz.func127 rfl Tryz.ntmps127 rfl hm (fun w=>?_)
 refine au [118] ?_
 intro g5
 refine au [84] ?_
 refine qV (vs:=[qsQ (-1)]) (ys:=([-1]:qsO)) (qu .i64) (by decide) rfl Tryz.underlying56 tf3 rfl rfl rfl rfl rfl (by decide) (fun a6 c7=>?_)
 refine au [78,24,6,27,3] ?_
 rintro x8 e8 ⟨a9,c10⟩
 refine au [58,3,26,3] ?_
 intro x11 e11 g12 h13
 refine zX (j:=0) (y':=0) (qu .i64) rfl rfl rfl tf3 rfl h13 (qo e11).2.1 rfl (fun x14 e14 h15=>?_)
 have h16:x14.length=x8.length:=by rw[← e14,qqR]
 refine qa (d:=5) (v:=qsR a9 x14 c10) rfl h15 (qa (d:=14) (v:=qsR a9 x14 c10) rfl h15 (qa (d:=15) (v:=qsR a9 x14 c10) rfl h15 ?_))
 refine au [45] ?_
 refine qj (fun ((x0,_):(qsO×Unit))=>([(5,qsR a9 x0 c10)],[],[qsU a9 x0 c10],[],qfK F x0)) ?_ ?_
 refine au [48] ?_
 refine qV (vs:=[qsQ x4]) (ys:=([x4]:qsO)) (qu .i64) (by decide) rfl Tryz.underlying56 tf3 rfl rfl rfl rfl rfl (by decide) (fun a0 c0=>?_)
 refine au [46,14] ?_
 refine qB (fun (((x2,x3),(a1,c1,g0)):((qsO×qsO)×(qsP×Nat×qsO)))=>([(2,qsS g5),(5,qsR a9 x2 c10),(6,(qv a1 g0.length x3.length c1 1))],[⟨g5,24,[qsR a2 x1 c3]⟩],[qsU a9 x2 c10,qsU a1 (g0++x3) c1],[SlN eN56 iN56 1 (qsR a2 x1 c3) x1 s3])) (fun k (s:((qsO×qsO)×(qsP×Nat×qsO)))=>zM F x1 k s.1) ((x14,([x4]:qsO)),(a0,c0,([]:qsO))) F ?_
 intro k0
 rintro ⟨⟨x2,x3⟩,⟨a1,c1,g0⟩⟩
 try dsimp only
 refine qH (m':=qbb F x1 (zM F x1 k0) x2 x3) rfl ?_
 refine au [1,48] ?_
 refine qoV rfl UnF.u rfl rfl ?_
 refine av [104] ?_ ?_
 intro _
 refine au [57] ?_
 refine qj (fun (((x5,x6),(a3,c2,g1)):((qsO×qsO)×(qsP×Nat×qsO)))=>([(2,qsS g5),(5,qsR a9 x5 c10),(6,(qv a3 g1.length x6.length c2 1))],[⟨g5,24,[qsR a2 x1 c3]⟩],[qsU a9 x5 c10,qsU a3 (g1++x6) c2],[SlN eN56 iN56 1 (qsR a2 x1 c3) x1 s3],qbc F (zM F x1 k0) x5 x6)) ?_ ?_
 refine au [14,48] ?_
 refine qmM (hs:=g0) (xs:=x3) (j:=1) rfl Tryz.underlying56 tf3 rfl rfl rfl rfl (fun x7 e0 g2 h0=>z7 (j:=1) (y:=x7) (qu .i64) rfl rfl tf3 rfl h0 (qpr e0) (fun _=>rfl) rfl rfl ?_)
 refine au [84,78,3,27,1] ?_
 intro x9 e1 g3 b0 o0
 refine au [25,2,122,76] ?_
 refine qB (fun (((x10,x12,x13),(a4,c4,g4)):((qsO×qsO×Int)×(qsP×Nat×qsO)))=>([(2,qsS g5),(5,qsR a9 x10 c10),(6,(qv a4 g4.length x12.length c4 1)),(7,qsQ x7),(32,qsR g3.1 x9 g3.2),(33,qsQ (x9.length:Int)),(34,qsQ x13)],[⟨g5,24,[qsR a2 x1 c3]⟩],[qsU a9 x10 c10,qsU a4 (g4++x12) c4],[qsT g3.1 x9 g3.2,SlN eN56 iN56 1 (qsR a2 x1 c3) x1 s3])) (fun k (s:((qsO×qsO×Int)×(qsP×Nat×qsO)))=>kv F (zM F x1 k0) x7 x9 k s.1) ((x2,x3,0),(a1,c1,g0)) F ?_
 intro k1
 rintro ⟨⟨x10,x12,x13⟩,⟨a4,c4,g4⟩⟩
 try dsimp only
 refine qH (m':=vw F (zM F x1 k0) x7 x9 (kv F (zM F x1 k0) x7 x9 k1) x10 x12 x13) rfl ?_
 refine av [96] ?_ ?_
 intro _
 refine au [57] ?_
 refine qj (fun (((x15,x16),(a5,c5,g6)):((qsO×qsO)×(qsP×Nat×qsO)))=>([(2,qsS g5),(5,qsR a9 x15 c10),(6,(qv a5 g6.length x16.length c5 1)),(7,qsQ x7),(32,qsR g3.1 x9 g3.2),(33,qsQ (x9.length:Int)),(34,qsQ x13)],[⟨g5,24,[qsR a2 x1 c3]⟩],[qsU a9 x15 c10,qsU a5 (g6++x16) c5],[qsT g3.1 x9 g3.2,SlN eN56 iN56 1 (qsR a2 x1 c3) x1 s3],jK F (kv F (zM F x1 k0) x7 x9 k1) x13 x15 x16)) ?_ ?_
 refine au [14,47,26,2] ?_
 intro x17 e2 b1 o1
 refine au [25,2,58,3,26,3] ?_
 intro x18 e3 g7 h1
 refine z7 (j:=0) (y:=x18) (qu .i64) rfl rfl tf3 rfl h1 (qo e3).2.2 (fun _=>rfl) rfl rfl ?_
 refine av [91] ?_ ?_
 intro _
 refine au [87,3,3,26,3] ?_
 intro x19 e4 g8 h2
 refine z7 (j:=0) (y:=x19) (qu .i64) rfl rfl tf3 rfl h2 (qo e4).2.2 (fun _=>rfl) rfl rfl ?_
 refine au [23,26,3] ?_
 intro x20 e5 g9 h3
 refine zX (j:=0) (y':=iadd .i64 x19 1) (qu .i64) rfl rfl rfl tf3 rfl h3 (qo e5).2.1 rfl (fun x21 e6 h4=>?_)
 have h5:x21.length=x10.length:=by rw[← e6,qqR]
 refine qa (d:=5) (v:=qsR a9 x21 c10) rfl h4 (qa (d:=38) (v:=qsR a9 x21 c10) rfl h4 (qa (d:=43) (v:=qsR a9 x21 c10) rfl h4 (qa (d:=45) (v:=qsR a9 x21 c10) rfl h4 ?_)))
 refine au [45,4,3,3] ?_
 refine qV (vs:=[qsQ x17]) (ys:=([x17]:qsO)) (qu .i64) (by decide) rfl Tryz.underlying56 tf3 rfl rfl rfl rfl rfl (by decide) (fun a7 c6=>qoM (hs:=g4) (xs:=x12) 2 (qu .i64) rfl Tryz.underlying56 tf3 rfl rfl rfl rfl rfl (.inl ⟨0,_,rfl⟩) rfl rfl (fun x22 e7 a8 c8 g10=>?_))
 refine au [5,0,24,2] ?_
 exact qb ((x21,x22),(a8,c8,g10))
 intro _
 refine au [11,24,2] ?_
 exact qb ((x10,x12),(a4,c4,g4))
 rintro ⟨⟨x15,x16⟩,⟨a5,c5,g6⟩⟩
 try dsimp only
 refine au [98] ?_
 exact qr ((x15,x16,iadd .i64 x13 1),(a5,c5,g6))
 intro _
 refine au [73,24,2] ?_
 exact qb ((x10,x12),(a4,c4,g4))
 rintro ⟨⟨x5,x6⟩,⟨a3,c2,g1⟩⟩
 try dsimp only
 refine au [4,3] ?_
 refine qoQ (hs:=g1) (xs:=x6) (j:=1) rfl Tryz.underlying56 tf3 rfl rfl rfl rfl (fun x23 e9 g11=>?_)
 refine au [5,0] ?_
 exact qr ((x5,x23),(a3,c2,g11))
 intro _
 refine au [73] ?_
 exact qb (x2,())
 rintro ⟨x0,_⟩
 try dsimp only
 refine au [48,49] ?_
 exact qI (a9,c10)
theorem qmi {F:Nat}{x1:List (qsO)}{a2:qsP}{c3:Nat}{s3:List (qsP×Nat)}{x4:Int}{r:(qsO×Int)}(hm:qeI F x1 x4=some r) :
    Pure Tryz.prog 91 [.agg #[qsR a2 x1 c3],qsQ x4] [SlN eN56 iN56 1 (qsR a2 x1 c3) x1 s3] (qsP×Nat) (fun g=>.tuple #[qsR g.1 r.1 g.2,qsQ r.2]) (fun g=>[qsU g.1 r.1 g.2]) (fun _=>[]):=by
 refine qs Tryz.func91 rfl Tryz.ntmps91 rfl hm (fun w=>?_)
 refine au [118] ?_
 intro g5
 refine au [5,71,74,3] ?_
 refine qV (vs:=[qsQ x4]) (ys:=([x4]:qsO)) (qu .i64) (by decide) rfl Tryz.underlying56 tf3 rfl rfl rfl rfl rfl (by decide) (fun a10 c11=>?_)
 refine au [36,12] ?_
 intro x12 e12 _
 refine av [58,70] ?_ ?_
 intro _
 refine au [48,5,107] ?_
 exact qI (none,0)
 intro _
 refine au [57,74,3,36,13] ?_
 rintro x13 e13 ⟨a14,c15⟩
 refine au [5,49] ?_
 exact qI (a14,c15)
set_option maxHeartbeats 4000000 in
theorem qhG (F:Nat)(g1:Nat)(x2:List (qsO))(a3:qsP)(c4:(Nat×List (qsP×Nat)))(x5:Int)(x6:Int)(x7:Int)(x8:qsO)(a9:qsP)(c10:Nat)(x11:qsO)(r:(Int×qsO))(hm:qbz F x2 x5 x6 x7 x8 x11=some r) :
    PureM Tryz.prog 64 [qsS g1] [⟨g1,85,[qsR a3 x2 c4.1,qsQ x5,qsQ x6,qsQ x7,qsR a9 x8 c10,.string (bstr x11)]⟩] [] [SlN eN56 iN56 1 (qsR a3 x2 c4.1) x2 c4.2,qsT a9 x8 c10,GF] Unit (fun _=>qsQ r.1) (fun _=>[⟨g1,85,[qsR a3 x2 c4.1,qsQ x5,qsQ x6,qsQ x7,qsR a9 x8 c10,.string (bstr r.2)]⟩]) (fun _=>[]):=by
 refine qE Tryz.func64 rfl Tryz.ntmps64 rfl hm (fun w=>?_)
 refine au [59,85,3,114,30,7] ?_
 intro x14 e14 _
 refine av [25,8,50] ?_ ?_
 intro _
 exact az [47,60,25,13]
 intro _
 refine au [82,28,2] ?_
 intro x22 e22 b23 o24 h25
 replace h25:a9=some ⟨b23,o24,none⟩:=h25
 refine qt mixed [] [⟨g1,85,[qsR a3 x2 c4.1,qsQ x5,qsQ x6,qsQ x7,qsR a9 x8 c10,.string (bstr x11)]⟩] [qC b23 (o24+(0:Int).toNat*1) ((eI .i64) x22),SlN eN56 iN56 1 (qsR a3 x2 c4.1) x2 c4.2,qsT a9 x8 c10,GF] (.cons 0 rfl .nil) (qf 0 rfl (qf 1 rfl (qf 2 rfl (qf 3 rfl qh)))) 17 rfl ?_
 refine au [69,15,2,15,3] ?_
 refine qN 4 (.agg #[.slice a3 x2.length c4.1]) rfl rfl rfl (qM (i:=0) rfl tf24 rfl rfl (by simp) rfl) ?_
 refine au [6,5,6,6,15,7,24,14,8] ?_
 refine qg (d:=21) (v:=qsR (some ⟨b23,o24,none⟩) x8 c10) rfl (by simp only[qsR,h25] <;> rfl) (qe 9 (.pointer (some ⟨b23,(o24+(0:Int).toNat*1),none⟩)) rfl rfl rfl (k8 Tryz.underlying56 tf3 rfl rfl (qo e22).1 (zf e22)) (qg (d:=21) (v:=qsR a9 x8 c10) rfl (by simp only[qsR,h25] <;> rfl) (qJ 10 (qsQ x22) [] rfl rfl rfl (q7 (j:=0) rfl tf3 rfl rfl (fun _=>rfl) rfl) ?_)))
 refine au [13,11] ?_
 refine qk qmi ?_
 rintro x26 e26 ⟨a27,c28⟩
 refine au [0,33,8,101,6,14,6,15,6,16,16] ?_
 refine qm ?_ (by intro c h;cases h)
 refine au [2] ?_
 refine qj (fun ((x43,_):(qsO×Unit))=>([(4,qsQ x26.2)],[⟨g1,85,[qsR a3 x2 c4.1,qsQ x5,qsQ x6,qsQ x7,qsR a9 x8 c10,.string (bstr x43)]⟩],[],[SlN eN56 iN56 1 (qsR a3 x2 c4.1) x2 c4.2,qsT a9 x8 c10,GF],vn F x26 x43)) ?_ ?_
 refine au [87,3,114,36,14] ?_
 intro x44 e44 b45 o46
 refine au [25,2,26,3] ?_
 intro x47 e47 g48 h49
 refine z7 (j:=0) (y:=x47) (qu .i64) rfl rfl tf3 rfl h49 (qo e47).2.2 (fun _=>rfl) rfl rfl (yj ent24 rfl rfl rfl (fun x50 e50=>qdv x47 x50 e50) (.consF 4 rfl .nil) (fun x50 e50=>?_))
 intro _
 refine au [55,119,87,114] ?_
 refine yM (j:=3) (qu .i64) (by decide) rfl UnF.u inferInstance rfl rfl rfl rfl ?_
 intro x51 e51 b52 o53
 refine au [25,2,26,3] ?_
 intro x54 e54 g55 h56
 refine z7 (j:=0) (y:=x54) (qu .i64) rfl rfl tf3 rfl h56 (qo e54).2.2 (fun _=>rfl) rfl rfl ?_
 refine av [91] ?_ ?_
 intro _
 refine au [4,3,55,86] ?_
 exact qb (([110,111,110,101]:qsO),())
 intro _
 refine au [11] ?_
 exact qb (x50,())
 rintro ⟨x43,_⟩
 try dsimp only
 exact az [48,90]
theorem qiy {F:Nat}{x1:List (qsO)}{a2:qsP}{c3:Nat}{s3:List (qsP×Nat)}{r:List (Int×Int)}(hm:qfz F x1=some r) :
    PureM Tryz.prog 174 [.agg #[qsR a2 x1 c3]] [] [] [SlN eN56 iN56 1 (qsR a2 x1 c3) x1 s3] (qsP×Nat) (fun g=>qsR g.1 r g.2) (fun _=>[]) (fun g=>[Ro eS63 63 2 (qsR g.1 r g.2) r]):=by
 refine qbf Tryz.func174 rfl Tryz.ntmps174 rfl hm (fun w=>?_)
 refine au [59,22] ?_
 intro g4
 refine au [84,24,4] ?_
 intro g5
 refine au [45,1,47,25,7,30,3] ?_
 intro x35 e35 g36
 refine au [76] ?_
 refine qbM (Int×Int) eS63 63 2 (jW (encs:=(fun (p:(Int×Int))=>[.agg #[qsQ p.1,qsQ p.2]])) (y:=(fun (x47:List (Int×Int)) ((x56,x57):(Int×Int))=>qdH F x47 x56 x57)) (lb:=[qsS g36]) (fun (x47:List (Int×Int)) ((a45,c46):(qsP×Nat))=>[⟨g5,58,[qsR a45 x47 c46]⟩,⟨g4,24,[qsR a2 x1 c3]⟩]) (fun (x47:List (Int×Int)) ((a45,c46):(qsP×Nat))=>[Ro eS63 63 2 (qsR a45 x47 c46) x47]) (fun (_:Empty) (_:Unit)=>[]) (fun (_:Empty) (_:Unit)=>[]) (fun _=>.skip) ([]:List (Int×Int)) (none,0) rfl ent159 (fun _=>rfl) rfl (.cons 0 rfl .nil) (.cons 0 rfl (.cons 0 rfl .nil)) (.cons 0 rfl .nil) (.consF 0 rfl .nil) (fun z hz _ _ _ hY=>qbP F hY ([]:List (Int×Int)) (none,0) g36 x1 a2 (c3,s3) z hz) ?_ ?_ ?_)
 rintro rc1 L1 D1 x47 ⟨a45,c46⟩ ⟨x56,x57⟩ z w M _
 try dsimp only
 refine qbi [(0,.agg #[qsR a2 x1 c3]),(1,qsS g4),(2,.slice none 0 0),(3,qsS g5),(5,.agg #[qsR a2 x1 c3]),(6,.func (.func 159) #[] #[qsS g36]),(7,.agg #[qsQ x56,qsQ x57])] (qw rfl (qw rfl (qw rfl (qw rfl (qw rfl (qw rfl (qw rfl qbK))))))) ?_
 refine au [4,24,4] ?_
 intro g58
 refine au [86,30,4,14,4,25,6,78,78] ?_
 refine qq (cells:=[qsQ x57,qsQ x56]) rfl st63 rfl (by kernel_rfl) rfl (qV (vs:=[.agg #[qsQ x57,qsQ x56]]) (ys:=([(x57,x56)]:List (Int×Int))) qb2 (by decide) rfl Tryz.underlying58 tf63 rfl rfl rfl rfl rfl (by decide) (fun a59 c60=>zu 1 qb2 rfl Tryz.underlying58 tf63 rfl rfl rfl rfl rfl (.inl ⟨0,_,rfl⟩) rfl rfl (fun x61 e61 a62 c63=>?_)))
 refine au [120,24,2] ?_
 exact yw (rc:=rc1) rfl (.cons 3 rfl .nil) rfl (a62,c63) (.cons 2 rfl (.cons 2 rfl (.cons 0 rfl (.cons 1 rfl .nil)))) (.cons 0 rfl .nil)
 rintro x47 _ ⟨a45,c46⟩ D1
 try dsimp only
 refine au [63,47,26,1,49] ?_
 exact y1 [D1] (a45,c46) (.inl rfl) rfl (.cons 0 rfl .nil) (res1 rfl rfl) (fun h=>by subst h;rfl) (fun h=>by subst h;exact .nil) (fun h=>by subst h;exact (.cons 0 rfl .nil))
 intro t;exact t.elim
set_option maxHeartbeats 4000000 in
theorem qkj {F:Nat}{x1:List (qsO)}{a2:qsP}{c3:Nat}{s3:List (qsP×Nat)}{r:(List (qsO)×Int)}(hm:qhd F x1=some r) :
    Pure Tryz.prog 128 [.agg #[qsR a2 x1 c3]] [SlN eN56 iN56 1 (qsR a2 x1 c3) x1 s3] (qsP×(Nat×List (qsP×Nat))) (fun g=>.tuple #[.agg #[qsR g.1 r.1 g.2.1],qsQ r.2]) (fun g=>[RoN eN56 rN56 56 1 (qsR g.1 r.1 g.2.1) r.1 g.2.2 []]) (fun _=>[]):=by
 refine qs Tryz.func128 rfl Tryz.ntmps128 rfl hm (fun w=>?_)
 refine au [59,22] ?_
 intro g4
 refine au [24,4] ?_
 intro g5
 refine au [71,47,25,7,28,0] ?_
 intro x8 e8 _
 refine av [58,70] ?_ ?_
 intro _
 refine au [47] ?_
 refine qq (cells:=[.slice none 0 0]) rfl st24 rfl (by kernel_rfl) rfl ?_
 refine au [3,20,60,26,15] ?_
 exact qS (none,(0,([]:List (qsP×Nat)))) (resL (rs:=[.cell 2 24,.tmp 3]) rfl (.cell (i:=0) rfl tf24 rfl rfl (by simp) rfl (.tmp rfl ResOk.nil)) rfl) (fun h=>by subst h;exact (.cons 0 rfl .nil))
 intro _
 refine au [82] ?_
 refine qt mixed [] [⟨g4,24,[qsR a2 x1 c3]⟩] [SlN eN56 iN56 1 (qsR a2 x1 c3) x1 s3] (.cons 1 rfl .nil) (qf 0 rfl qh) 10 rfl ?_
 refine au [117,28,1,2] ?_
 refine qN 3 (.agg #[.slice a2 x1.length c3]) rfl rfl rfl (qM (i:=0) rfl tf24 rfl rfl (by simp) rfl) ?_
 refine au [13,4] ?_
 refine qF qiy ?_
 rintro x20 e20 ⟨a21,c22⟩
 refine au [0,26,12,13,5,33,5] ?_
 intro x23 e23 g24
 refine au [0,26,13,13,6,33,6] ?_
 rintro x25 e25 ⟨a26,c27⟩
 refine au [0,26,13,13,7,33,7] ?_
 rintro x28 e28 ⟨a29,c30⟩
 refine au [0,26,13,13,8,120,26,13,6,9,16] ?_
 refine qm ?_ (by intro c h;cases h)
 refine au [2,8] ?_
 exact qS (a29,c30) (resL (rs:=[.cell 2 24,.tmp 3]) rfl (.cell (i:=1) rfl tf24 rfl rfl (by simp) rfl (.tmp rfl ResOk.nil)) rfl) (fun h=>by subst h;exact (.cons 0 rfl .nil))
theorem qkw (F:Nat)(x1:Int)(g2:Nat)(x3:qsO)(a4:qsP)(c5:Nat)(g6:Nat)(x7:Int)(r:Bool)(hm:qhn F x1 x3 x7=some r) :
    PureM Tryz.prog 130 [qsQ x1,qsS g2,qsS g6] [⟨g2,56,[qsR a4 x3 c5]⟩,⟨g6,3,[qsQ x7]⟩] [] [qsT a4 x3 c5] Unit (fun _=>.bool r) (fun _=>[⟨g2,56,[qsR a4 x3 c5]⟩,⟨g6,3,[qsQ x7]⟩]) (fun _=>[]):=by
 refine qE Tryz.func130 rfl Tryz.ntmps130 rfl hm (fun w=>?_)
 refine au [111,71,29,11] ?_
 intro x16 e16 b17 o18 h19
 replace h19:a4=some ⟨b17,o18,none⟩:=h19
 refine au [28,2] ?_
 intro x20 e20 b21 o22 h23
 replace h23:a4=some ⟨b21,o22,none⟩:=h23
 refine qt mixed [] [⟨g2,56,[qsR a4 x3 c5]⟩,⟨g6,3,[qsQ x7]⟩] [qC b21 (o22+x7.toNat*1) ((eI .i64) x20),qC b17 (o18+x1.toNat*1) ((eI .i64) x16),qsT a4 x3 c5] (.cons 0 rfl (.cons 0 rfl .nil)) (qf 0 rfl (qf 1 rfl (qf 2 rfl qh))) 11 rfl ?_
 refine au [24,14,0,6,1] ?_
 refine qg (d:=5) (v:=qsR (some ⟨b17,o18,none⟩) x3 c5) rfl (by simp only[qsR,h19] <;> rfl) (qe 2 (.pointer (some ⟨b17,(o18+x1.toNat*1),none⟩)) rfl rfl rfl (k8 Tryz.underlying56 tf3 rfl rfl (qo e16).1 (zf e16)) (qg (d:=5) (v:=qsR a4 x3 c5) rfl (by simp only[qsR,h19] <;> rfl) (qJ 3 (qsQ x16) [] rfl rfl rfl (q7 (j:=1) rfl tf3 rfl rfl (fun _=>rfl) rfl) ?_)))
 refine au [24,14,4,26,4,5] ?_
 refine qg (d:=9) (v:=qsR (some ⟨b21,o22,none⟩) x3 c5) rfl (by simp only[qsR,h23] <;> rfl) (qe 6 (.pointer (some ⟨b21,(o22+x7.toNat*1),none⟩)) rfl rfl rfl (k8 Tryz.underlying56 tf3 rfl rfl (qo e20).1 (zf e20)) (qg (d:=9) (v:=qsR a4 x3 c5) rfl (by simp only[qsR,h23] <;> rfl) (qJ 7 (qsQ x20) [] rfl rfl rfl (q7 (j:=0) rfl tf3 rfl rfl (fun _=>rfl) rfl) ?_)))
 refine au [6,8,6,9,6,10,16] ?_
 refine qm ?_ (by intro c h;cases h)
 exact az [2,8,25,13]
set_option maxHeartbeats 4000000 in
theorem jP {F:Nat}{x1:qsO}{a2:qsP}{c3:Nat}{g4:Nat}{x5:qsO}{a6:qsP}{c7:Nat}{g8:Nat}{x9:Int}{r:Int}(hm:yo F x1 x5 x9=some r) :
    PureM Tryz.prog 129 [qsR a2 x1 c3,.func (.func 130) #[] #[qsS g4,qsS g8]] [⟨g4,56,[qsR a6 x5 c7]⟩,⟨g8,3,[qsQ x9]⟩] [] [qsT a2 x1 c3,qsT a6 x5 c7] Unit (fun _=>qsQ r) (fun _=>[⟨g4,56,[qsR a6 x5 c7]⟩,⟨g8,3,[qsQ x9]⟩]) (fun _=>[]):=by
 refine qE Tryz.func129 rfl Tryz.ntmps129 rfl hm (fun w=>?_)
 refine au [56,46] ?_
 refine qj (fun ((_,_):(Unit×Unit))=>([],[⟨g4,56,[qsR a6 x5 c7]⟩,⟨g8,3,[qsQ x9]⟩],[],[qsT a6 x5 c7],k4 F)) ?_ ?_
 refine au [72,3,76] ?_
 refine qB (fun ((x60,_):(Int×Unit))=>([(0,qsR a2 x1 c3),(1,.func (.func 130) #[] #[qsS g4,qsS g8]),(7,qsQ (x1.length:Int)),(8,qsQ x60)],[⟨g4,56,[qsR a6 x5 c7]⟩,⟨g8,3,[qsQ x9]⟩],[],[qsT a2 x1 c3,qsT a6 x5 c7])) (fun k (s:(Int×Unit))=>zr F x1 x5 x9 k s.1) (0,()) F ?_
 intro k73
 rintro ⟨x60,_⟩
 try dsimp only
 refine qH (m':=k3 F x1 x5 x9 (zr F x1 x5 x9 k73) x60) rfl ?_
 refine av [96] ?_ ?_
 intro _
 refine au [83,48,58,3,3,26,2] ?_
 intro x80 e80 b81 o82
 refine au [25,2] ?_
 refine qds ent130 rfl rfl rfl rfl (fun x83 e83=>qkw F x80 g4 x5 a6 c7 g8 x9 x83 e83) (.cons 0 rfl (.cons 0 rfl .nil)) .nil (.consF 2 rfl .nil) (fun x83 e83 _=>?_)
 refine av [50] ?_ ?_
 intro _
 exact az [48,49,92,52,25,13]
 intro _
 refine au [11,99] ?_
 exact qr (iadd .i64 x60 1,())
 intro _
 exact az [73,26,8]
 rintro ⟨_,_⟩
 try dsimp only
 exact az [47,90]
set_option maxHeartbeats 4000000 in
theorem qmj {F:Nat}{x1:List (qsO)}{a2:qsP}{c3:Nat}{s3:List (qsP×Nat)}{x4:Int}{x5:Int}{r:(qsO×Int)}(hm:qiI F x1 x4 x5=some r) :
    Pure Tryz.prog 92 [.agg #[qsR a2 x1 c3],qsQ x4,qsQ x5] [SlN eN56 iN56 1 (qsR a2 x1 c3) x1 s3] (qsP×Nat) (fun g=>.tuple #[qsR g.1 r.1 g.2,qsQ r.2]) (fun g=>[qsU g.1 r.1 g.2]) (fun _=>[]):=by
 refine qs Tryz.func92 rfl Tryz.ntmps92 rfl hm (fun w=>?_)
 refine au [111,22] ?_
 intro g6
 refine au [5,71,74,3,3] ?_
 refine qV (vs:=[qsQ x4,qsQ x5]) (ys:=([x4,x5]:qsO)) (qu .i64) (by decide) rfl Tryz.underlying56 tf3 rfl rfl rfl rfl rfl (by decide) (fun a11 c12=>?_)
 refine au [36,12] ?_
 intro x13 e13 _
 refine av [58,70] ?_ ?_
 intro _
 refine au [48,5,107] ?_
 exact qI (none,0)
 intro _
 refine au [57,74] ?_
 refine qk qkj ?_
 rintro x14 e14 ⟨a15,c16⟩
 refine au [93,24,4] ?_
 intro g17
 refine au [20,46,74,3,36,13] ?_
 rintro x18 e18 ⟨a19,c20⟩
 refine au [24,4] ?_
 intro g21
 refine au [119,1,47,21,3,26,3] ?_
 intro x26 e26 g27 h28
 refine z7 (j:=0) (y:=x26) (qu .i64) rfl rfl tf3 rfl h28 (qo e26).2.2 (fun _=>rfl) rfl rfl ?_
 refine av [91] ?_ ?_
 intro _
 refine au [47,5,107] ?_
 exact qI (none,0)
 intro _
 refine au [57,48] ?_
 refine qV (vs:=[qsQ x4]) (ys:=([x4]:qsO)) (qu .i64) (by decide) rfl Tryz.underlying56 tf3 rfl rfl rfl rfl rfl (by decide) (fun a29 c30=>?_)
 refine au [46] ?_
 refine qj (fun ((x0,(a0,c0)):(qsO×(qsP×Nat)))=>([(12,qsR a0 x0 c0)],[],[qsU a0 x0 c0],[],qgq F x0)) ?_ ?_
 refine au [48,24,4] ?_
 intro g0
 refine au [20,76] ?_
 refine qB (fun (((x2,x3),(a1,c1,g1)):((qsO×Int)×(qsP×Nat×Nat)))=>([(2,qsQ x5),(3,qsS g6),(11,qsS g21),(12,qsR a1 x2 c1),(13,qsS g1)],[⟨g21,56,[qsR a19 x18 c20]⟩,⟨g6,24,[qsR a2 x1 c3]⟩,⟨g1,3,[qsQ x3]⟩],[qsU a1 x2 c1,qsU a19 x18 c20],[SlN eN56 iN56 1 (qsR a2 x1 c3) x1 s3])) (fun k (s:((qsO×Int)×(qsP×Nat×Nat)))=>qb1 F x1 x5 x18 k s.1) ((([x4]:qsO),x4),(a29,c30,g0)) F ?_
 intro k0
 rintro ⟨⟨x2,x3⟩,⟨a1,c1,g1⟩⟩
 try dsimp only
 refine qH (m':=qgp F x1 x5 x18 (qb1 F x1 x5 x18 k0) x2 x3) rfl ?_
 refine av [1,47,26,1,3,70] ?_ ?_
 intro _
 refine au [83,47,89,26,1,27,1] ?_
 intro x6 e0 g2 b0 o0
 refine au [25,2,27,4] ?_
 refine qF jP ?_
 intro x7 e1 _
 refine au [46,4,9,26,1,25,6,36,15] ?_
 intro x8 e2 g3 b1 o1
 refine au [25,2,3,28,9] ?_
 intro x9 e3 b2 o2
 refine au [25,2,120,63,1,47,25,6,45,4,24,4] ?_
 intro g4
 refine au [119,4,3,21] ?_
 refine qV (vs:=[qsQ x9]) (ys:=([x9]:qsO)) (qu .i64) (by decide) rfl Tryz.underlying56 tf3 rfl rfl rfl rfl rfl (by decide) (fun a3 c2=>zu 1 (qu .i64) rfl Tryz.underlying56 tf3 rfl rfl rfl rfl rfl (.inl ⟨0,_,rfl⟩) rfl rfl (fun x10 e4 a4 c4=>?_))
 refine au [5,0] ?_
 exact qr ((x10,x9),(a4,c4,g4))
 intro _
 refine au [73] ?_
 exact qb (x2,(a1,c1))
 rintro ⟨x0,⟨a0,c0⟩⟩
 try dsimp only
 refine au [48,5,49] ?_
 exact qI (a0,c0)
theorem qgw {F:Nat}{g1:Nat}{x2:List (qsO)}{a3:qsP}{c4:Nat}{s4:List (qsP×Nat)}{x5:Int}{x6:Int}{x7:Int}{x8:qsO}{a9:qsP}{c10:Nat}{x11:qsO}{x12:qsO}{a13:qsP}{c14:Nat}{x15:Int}{x16:Int}{r:(Int×qsO)}(hm:qat F x2 x5 x6 x7 x8 x11 x12 x15 x16=some r) :
    PureM Tryz.prog 93 [qsS g1,qsR a13 x12 c14,qsQ x15,qsQ x16] [⟨g1,85,[qsR a3 x2 c4,qsQ x5,qsQ x6,qsQ x7,qsR a9 x8 c10,.string (bstr x11)]⟩] [] [SlN eN56 iN56 1 (qsR a3 x2 c4) x2 s4,qsT a9 x8 c10,qsT a13 x12 c14,GF] Unit (fun _=>qsQ r.1) (fun _=>[⟨g1,85,[qsR a3 x2 c4,qsQ x5,qsQ x6,qsQ x7,qsR a9 x8 c10,.string (bstr r.2)]⟩]) (fun _=>[]):=by
 refine qE Tryz.func93 rfl Tryz.ntmps93 rfl hm (fun w=>?_)
 refine au [28,5,47,46] ?_
 refine qj (fun (((x19,x20),_):((Int×qsO)×Unit))=>([(2,qsQ x19)],[⟨g1,85,[qsR a3 x2 c4,qsQ x5,qsQ x6,qsQ x7,qsR a9 x8 c10,.string (bstr x20)]⟩],[],[SlN eN56 iN56 1 (qsR a3 x2 c4) x2 s4,qsT a9 x8 c10,GF],vZ F x19 x20)) ?_ ?_
 refine au [87,36,11] ?_
 intro x21 e21 _
 refine av [45,87,112] ?_ ?_
 intro _
 refine au [4,3,55,20,5,0] ?_
 exact qb (((0:Int),([110,111,110,101]:qsO)),())
 intro _
 refine au [11] ?_
 exact qb ((x15,x21),())
 rintro ⟨⟨x19,x20⟩,_⟩
 try dsimp only
 exact az [48,90]
theorem qhI (F:Nat)(g1:Nat)(x2:List (qsO))(a3:qsP)(c4:(Nat×List (qsP×Nat)))(x5:Int)(x6:Int)(x7:Int)(x8:qsO)(a9:qsP)(c10:Nat)(x11:qsO)(r:(Int×qsO))(hm:qeo F x2 x5 x6 x7 x8 x11=some r) :
    PureM Tryz.prog 65 [qsS g1] [⟨g1,85,[qsR a3 x2 c4.1,qsQ x5,qsQ x6,qsQ x7,qsR a9 x8 c10,.string (bstr x11)]⟩] [] [SlN eN56 iN56 1 (qsR a3 x2 c4.1) x2 c4.2,qsT a9 x8 c10,GF] Unit (fun _=>qsQ r.1) (fun _=>[⟨g1,85,[qsR a3 x2 c4.1,qsQ x5,qsQ x6,qsQ x7,qsR a9 x8 c10,.string (bstr r.2)]⟩]) (fun _=>[]):=by
 refine qE Tryz.func65 rfl Tryz.ntmps65 rfl hm (fun w=>?_)
 refine au [59,71,28,2] ?_
 intro x23 e23 b24 o25 h26
 replace h26:a9=some ⟨b24,o25,none⟩:=h26
 refine au [29,0] ?_
 intro x27 e27 b28 o29 h30
 replace h30:a9=some ⟨b28,o29,none⟩:=h30
 refine qt mixed [] [⟨g1,85,[qsR a3 x2 c4.1,qsQ x5,qsQ x6,qsQ x7,qsR a9 x8 c10,.string (bstr x11)]⟩] [qC b28 (o29+(1:Int).toNat*1) ((eI .i64) x27),qC b24 (o25+(0:Int).toNat*1) ((eI .i64) x23),SlN eN56 iN56 1 (qsR a3 x2 c4.1) x2 c4.2,qsT a9 x8 c10,GF] (.cons 0 rfl .nil) (qf 0 rfl (qf 1 rfl (qf 2 rfl (qf 3 rfl (qf 4 rfl qh))))) 23 rfl ?_
 refine au [69,15,2,15,3] ?_
 refine qN 4 (.agg #[.slice a3 x2.length c4.1]) rfl rfl rfl (qM (i:=0) rfl tf24 rfl rfl (by simp) rfl) ?_
 refine au [6,5,6,6,15,7,24,14,8] ?_
 refine qg (d:=14) (v:=qsR (some ⟨b24,o25,none⟩) x8 c10) rfl (by simp only[qsR,h26] <;> rfl) (qe 9 (.pointer (some ⟨b24,(o25+(0:Int).toNat*1),none⟩)) rfl rfl rfl (k8 Tryz.underlying56 tf3 rfl rfl (qo e23).1 (zf e23)) (qg (d:=14) (v:=qsR a9 x8 c10) rfl (by simp only[qsR,h26] <;> rfl) (qJ 10 (qsQ x23) [] rfl rfl rfl (q7 (j:=1) rfl tf3 rfl rfl (fun _=>rfl) rfl) ?_)))
 refine au [6,11,6,12,15,13,24,14,14] ?_
 refine qg (d:=20) (v:=qsR (some ⟨b28,o29,none⟩) x8 c10) rfl (by simp only[qsR,h30] <;> rfl) (qe 15 (.pointer (some ⟨b28,(o29+(1:Int).toNat*1),none⟩)) rfl rfl rfl (k8 Tryz.underlying56 tf3 rfl rfl (qo e27).1 (zf e27)) (qg (d:=20) (v:=qsR a9 x8 c10) rfl (by simp only[qsR,h30] <;> rfl) (qJ 16 (qsQ x27) [] rfl rfl rfl (q7 (j:=0) rfl tf3 rfl rfl (fun _=>rfl) rfl) ?_)))
 refine au [13,17] ?_
 refine qk qmj ?_
 rintro x31 e31 ⟨a32,c33⟩
 refine au [0] ?_
 refine qi (.cons 0 rfl .nil) (qf 0 rfl (qf 1 rfl (qf 2 rfl (qf 3 rfl (qf 4 rfl qh))))) ?_
 refine au [6,18,6,19,6,20,6,21,6,22,16] ?_
 refine qm ?_ (by intro c h;cases h)
 refine au [2,87,3,37,0] ?_
 intro x34 e34 _
 exact az [90]
end Go.Proofs.YthibchijlpflmaaGreatDoor
