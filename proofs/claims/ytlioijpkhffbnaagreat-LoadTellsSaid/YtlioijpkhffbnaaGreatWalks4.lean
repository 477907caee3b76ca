/- Each Go function of this seat computes what its model says, part 4. -/
import Derived.Test.YtlioijpkhffbnaaGreatWalks3
open Bool renaming false_and→qyj
namespace Go.Proofs.YtlioijpkhffbnaaGreat
open Go SX
set_option maxHeartbeats 4000000 in
theorem qoA {F:Nat}{x1:qAE}{a2:qAF}{c3:Nat}{r:(List (qAE)×Int×Int)}(hm:qeQ F x1=some r) :
    Pure Tryz.prog 21 [.slice a2 x1.length c3] [Sl (eI .u8) 1 (.slice a2 x1.length c3) x1] (qAF×(Nat×List (qAF×Nat))) (fun g=>.tuple #[.agg #[.slice g.1 r.1.length g.2.1],qAG r.2.1,qAG r.2.2]) (fun g=>[RoN eN59 rN59 59 1 (.slice g.1 r.1.length g.2.1) r.1 g.2.2 []]) (fun _=>[]):=by
 refine qk Tryz.func21 rfl Tryz.ntmps21 rfl hm (fun w=>?_)
 refine au [25,5,128] ?_
 intro g4
 refine av [114,18,77] ?_ ?_
 intro _
 refine au [59] ?_
 refine qq (cells:=[.slice none 0 0]) rfl st24 rfl (by kernel_rfl) rfl ?_
 refine au [24,10,5,106] ?_
 exact qv (none,(0,([]:List (qAF×Nat)))) (resL (rs:=[.cell 2 24,.tmp 3,.tmp 4]) rfl (.cell (i:=0) rfl tf24 rfl rfl (by simp) rfl (.tmp rfl (.tmp rfl ResOk.nil))) rfl) (fun h=>by subst h;exact (.cons 0 rfl .nil))
 intro _
 refine au [64,75,18,23,1] ?_
 refine qU 5 (fun ((x19,_):(Bool×Unit))=>([(0,.slice a2 x1.length c3),(2,.pointer (some ⟨g4,0,none⟩)),(22,.bool x19)],[⟨g4,24,[.slice none 0 0]⟩],[],[Sl (eI .u8) 1 (.slice a2 x1.length c3) x1],qdR F x1 x19)) ?_ ?_
 refine qb (os:=_) rfl ?_
 refine av [25,10] ?_ ?_
 intro h15
 refine qp (k:=17) rfl h15 ?_
 refine au [76,97] ?_
 exact qa (true,())
 intro h15
 refine qo (k:=17) rfl h15 ?_
 refine au [1] ?_
 refine qj2 (j:=0) (ql .u8) rfl UnF.u inferInstance rfl rfl rfl rfl rfl ?_
 intro x38 e38 a39 c40
 refine qsR (j:=0) rfl UnF.u UnF.u UnF.u rfl rfl rfl (qu1 rfl UnF.u rfl rfl rfl ?_)
 refine au [117] ?_
 exact qa ((!(bstr x38 == bstr ([76,87]:qAE))),())
 rintro ⟨x19,_⟩
 try dsimp only
 refine qb (os:=_) rfl ?_
 refine av [63] ?_ ?_
 intro _
 refine au [59] ?_
 refine qq (cells:=[.slice none 0 0]) rfl st24 rfl (by kernel_rfl) rfl ?_
 refine au [24,10,5,106] ?_
 exact qv (none,(0,([]:List (qAF×Nat)))) (resL (rs:=[.cell 2 24,.tmp 3,.tmp 4]) rfl (.cell (i:=0) rfl tf24 rfl rfl (by simp) rfl (.tmp rfl (.tmp rfl ResOk.nil))) rfl) (fun h=>by subst h;exact (.cons 0 rfl .nil))
 intro _
 refine au [64,60] ?_
 refine qq (cells:=[.slice a2 x1.length c3,qAG 3,qAG 0,.bool false]) rfl st80 rfl (by kernel_rfl) rfl ?_
 refine au [24,9] ?_
 intro g20
 refine au [58,59] ?_
 refine qn7 .u8 rfl rfl ?_
 intro g21
 refine au [1,35,12] ?_
 refine qjz (i:=0) rfl Tryz.underlying82 Tryz.underlying5 rfl rfl rfl rfl rfl ?_
 refine au [1,35,12] ?_
 refine qjz (i:=0) rfl Tryz.underlying82 Tryz.underlying5 rfl rfl rfl rfl rfl ?_
 refine au [1,58,69,28,6] ?_
 intro x22 e22 b23 o24
 refine au [24,14] ?_
 refine qpL (i:=0) rfl Tryz.underlying82 Tryz.underlying5 tf81 rfl rfl rfl rfl ?_ ?_ ?_
 refine au [92,114,25,3,57] ?_
 refine qb2 (b:=false) rfl (fun h=>by cases h) (fun _=>?_)
 refine au [64,60] ?_
 refine qk1 ent36 rfl rfl rfl rfl (fun x25 e25=>qh6 F g20 x1 a2 c3 3 0 false x25 e25) (.cons 1 rfl .nil) .nil (.consF 1 rfl .nil) (fun x25 e25=>?_)
 rintro ⟨a26,c27⟩
 refine au [92,24,12] ?_
 intro g28
 refine av [167,75,101] ?_ ?_
 intro _
 refine au [59] ?_
 refine qq (cells:=[.slice none 0 0]) rfl st24 rfl (by kernel_rfl) rfl ?_
 refine au [26,10,5,106] ?_
 exact qv (none,(0,([]:List (qAF×Nat)))) (resL (rs:=[.cell 2 24,.tmp 3,.tmp 4]) rfl (.cell (i:=3) rfl tf24 rfl rfl (by simp) rfl (.tmp rfl (.tmp rfl ResOk.nil))) rfl) (fun h=>by subst h;exact (.cons 0 rfl .nil))
 intro _
 refine au [90] ?_
 refine qu mixed [] [⟨g28,24,[.slice a26 x25.1.length c27.1]⟩,⟨g20,80,[.slice a2 x1.length c3,qAG x25.2.2.1,qAG x25.2.2.2.1,.bool x25.2.2.2.2]⟩,(blkO g21 (mapF .u8 [(1,.func (.func 36) #[.pointer (some ⟨g20,0,none⟩)] #[]),(2,.func (.func 37) #[.pointer (some ⟨g20,0,none⟩)] #[])]))] [qz b23 o24 ((eI .u8) x22),Sl (eI .u8) 1 (.slice a2 x1.length c3) x1] (.cons 0 rfl (.cons 0 rfl (.cons 0 rfl .nil))) (qx 0 rfl (qx 1 rfl qr)) 8 rfl (qK 0 (.agg #[.slice a26 x25.1.length c27.1]) rfl rfl rfl (qH (i:=0) rfl tf24 rfl rfl (by simp) rfl) ?_)
 refine au [6,1,6,2,166,21,5,26,10,0,35,13,150,24,3] ?_
 refine qy ?_ (by intro c h;cases h)
 refine au [2,12] ?_
 exact qv (a26,c27) (resL (rs:=[.cell 2 24,.tmp 3,.tmp 4]) rfl (.cell (i:=3) rfl tf24 rfl rfl (by simp) rfl (.tmp rfl (.tmp rfl ResOk.nil))) rfl) (fun h=>by subst h;exact (.cons 0 rfl .nil))
 refine au [92,114,25,3,57] ?_
 refine qb2 (b:=false) rfl (fun h=>by cases h) (fun _=>?_)
 refine au [64,60] ?_
 refine qk1 ent37 rfl rfl rfl rfl (fun x31 e31=>qh5 F g20 x1 a2 c3 3 0 false x31 e31) (.cons 1 rfl .nil) .nil (.consF 1 rfl .nil) (fun x31 e31=>?_)
 rintro ⟨a32,c33⟩
 refine au [92,24,12] ?_
 intro g34
 refine av [167,75,101] ?_ ?_
 intro _
 refine au [59] ?_
 refine qq (cells:=[.slice none 0 0]) rfl st24 rfl (by kernel_rfl) rfl ?_
 refine au [26,10,5,106] ?_
 exact qv (none,(0,([]:List (qAF×Nat)))) (resL (rs:=[.cell 2 24,.tmp 3,.tmp 4]) rfl (.cell (i:=3) rfl tf24 rfl rfl (by simp) rfl (.tmp rfl (.tmp rfl ResOk.nil))) rfl) (fun h=>by subst h;exact (.cons 0 rfl .nil))
 intro _
 refine au [90] ?_
 refine qu mixed [] [⟨g34,24,[.slice a32 x31.1.length c33.1]⟩,⟨g20,80,[.slice a2 x1.length c3,qAG x31.2.2.1,qAG x31.2.2.2.1,.bool x31.2.2.2.2]⟩,(blkO g21 (mapF .u8 [(1,.func (.func 36) #[.pointer (some ⟨g20,0,none⟩)] #[]),(2,.func (.func 37) #[.pointer (some ⟨g20,0,none⟩)] #[])]))] [qz b23 o24 ((eI .u8) x22),Sl (eI .u8) 1 (.slice a2 x1.length c3) x1] (.cons 0 rfl (.cons 0 rfl (.cons 0 rfl .nil))) (qx 0 rfl (qx 1 rfl qr)) 8 rfl (qK 0 (.agg #[.slice a32 x31.1.length c33.1]) rfl rfl rfl (qH (i:=0) rfl tf24 rfl rfl (by simp) rfl) ?_)
 refine au [6,1,6,2,166,21,5,26,10,0,35,13,150,24,3] ?_
 refine qy ?_ (by intro c h;cases h)
 refine au [2,12] ?_
 exact qv (a32,c33) (resL (rs:=[.cell 2 24,.tmp 3,.tmp 4]) rfl (.cell (i:=3) rfl tf24 rfl rfl (by simp) rfl (.tmp rfl (.tmp rfl ResOk.nil))) rfl) (fun h=>by subst h;exact (.cons 0 rfl .nil))
 refine au [92,114,25,3,57] ?_
 refine qb2 (b:=true) rfl (fun _=>?_) (fun h=>by cases h)
 refine au [59] ?_
 refine qq (cells:=[.slice none 0 0]) rfl st24 rfl (by kernel_rfl) rfl ?_
 refine au [25,14,5,106] ?_
 exact qv (none,(0,([]:List (qAF×Nat)))) (resL (rs:=[.cell 2 24,.tmp 3,.tmp 4]) rfl (.cell (i:=2) rfl tf24 rfl rfl (by simp) rfl (.tmp rfl (.tmp rfl ResOk.nil))) rfl) (fun h=>by subst h;exact (.cons 0 rfl .nil))
theorem qoz {F:Nat}{x1:List (qAE)}{a2:qAF}{c3:Nat}{s3:List (qAF×Nat)}{r:Int}(hm:qfU F x1=some r) :
    Pure Tryz.prog 22 [.agg #[.slice a2 x1.length c3]] [SlN eN59 iN59 1 (.slice a2 x1.length c3) x1 s3] Unit (fun _=>qAG r) (fun _=>[]) (fun _=>[]):=by
 refine qk Tryz.func22 rfl Tryz.ntmps22 rfl hm (fun w=>?_)
 refine au [133] ?_
 intro g4
 refine au [58] ?_
 refine qc (fun ((x38,_):(Int×Unit))=>([(2,qAG x38)],[],[],[],qfw F x38)) ?_ ?_
 refine au [116,18,1,162] ?_
 refine qi (fun (((x49,x50),_):((Int×Int)×Unit))=>([(2,qAG x49),(6,.slice a2 x1.length c3),(7,qAG (x1.length:Int)),(8,qAG x50)],[],[],[SlN eN59 iN59 1 (.slice a2 x1.length c3) x1 s3])) (fun k (s:((Int×Int)×Unit))=>qai F x1 k s.1) ((0,0),()) F ?_
 intro k61
 rintro ⟨⟨x49,x50⟩,_⟩
 try dsimp only
 refine qm (m':=qdQ F x1 (qai F x1 k61) x49 x50) rfl ?_
 refine av [140] ?_ ?_
 intro _
 refine au [91,59,27,5] ?_
 intro x67 e67 g70 b68 o69
 refine au [143,99,18,86,87,2,4,16,1,0] ?_
 exact qh ((iadd .i64 x49 (x67.length:Int),iadd .i64 x50 1),())
 intro _
 refine au [73] ?_
 exact qa (x49,())
 rintro ⟨x38,_⟩
 try dsimp only
 exact az [60,95]
set_option maxHeartbeats 4000000 in
theorem qox {F:Nat}{x1:qAE}{a2:qAF}{c3:Nat}{x4:Int}{x5:Int}{x6:Int}{x7:Int}{r:(List (qAE)×Int×Int)}(hm:kC F x1 x4 x5 x6 x7=some r) :
    Pure Tryz.prog 11 [.slice a2 x1.length c3,.agg #[qAG x4,qAG x5,qAG x6,qAG x7]] [Sl (eI .u8) 1 (.slice a2 x1.length c3) x1] (qAF×(Nat×List (qAF×Nat))) (fun g=>.tuple #[.agg #[.slice g.1 r.1.length g.2.1],qAG r.2.1,qAG r.2.2]) (fun g=>[RoN eN59 rN59 59 1 (.slice g.1 r.1.length g.2.1) r.1 g.2.2 []]) (fun _=>[]):=by
 refine qk Tryz.func11 rfl Tryz.ntmps11 rfl hm (fun w=>?_)
 refine au [155] ?_
 intro g8
 refine au [24,12] ?_
 intro g9
 refine av [114,18,93,77] ?_ ?_
 intro _
 refine au [59] ?_
 refine qq (cells:=[.slice none 0 0]) rfl st24 rfl (by kernel_rfl) rfl ?_
 refine au [24,10,5,106] ?_
 exact qv (none,(0,([]:List (qAF×Nat)))) (resL (rs:=[.cell 4 24,.tmp 5,.tmp 6]) rfl (.cell (i:=0) rfl tf24 rfl rfl (by simp) rfl (.tmp rfl (.tmp rfl ResOk.nil))) rfl) (fun h=>by subst h;exact (.cons 0 rfl .nil))
 intro _
 refine au [64,60,35,14] ?_
 rintro x11 e11 ⟨a12,c13⟩
 refine au [148,24,12] ?_
 intro g14
 refine au [24,10,79] ?_
 refine qc (fun ((x25,_):(Int×Unit))=>([(4,.pointer (some ⟨g9,0,none⟩)),(7,.pointer (some ⟨g14,0,none⟩)),(8,qAG x11.2.1),(9,qAG x25)],[⟨g14,24,[.slice a12 x11.1.length c13.1]⟩,⟨g9,24,[.slice none 0 0]⟩],[RoN eN59 rN59 59 1 (.slice a12 x11.1.length c13.1) x11.1 c13.2 []],[],qbW F x11 x25)) ?_ ?_
 refine qc (fun ((x32,_):(Bool×Unit))=>([(4,.pointer (some ⟨g9,0,none⟩)),(7,.pointer (some ⟨g14,0,none⟩)),(8,qAG x11.2.1),(9,qAG x11.2.2),(44,.bool x32)],[⟨g14,24,[.slice a12 x11.1.length c13.1]⟩,⟨g9,24,[.slice none 0 0]⟩],[RoN eN59 rN59 59 1 (.slice a12 x11.1.length c13.1) x11.1 c13.2 []],[],vL F x11 x32)) ?_ ?_
 refine av [26,15] ?_ ?_
 intro h34
 refine av [26,15] ?_ ?_
 intro h35
 refine qu mixed [] [⟨g14,24,[.slice a12 x11.1.length c13.1]⟩,⟨g9,24,[.slice none 0 0]⟩,⟨g8,29,[qAG x4,qAG x5,qAG x6,qAG x7]⟩] [Sl (eI .u8) 1 (.slice a2 x1.length c3) x1] (.cons 0 rfl (.cons 0 rfl (.cons 0 rfl .nil))) (qx 0 rfl qr) 23 rfl ?_
 refine au [113] ?_
 refine qf (d:=24) (v:=.bool true) rfl (by rw[h34] <;> rfl) ?_
 refine au [129,26,9,5,24,2,6,29,0,7,171] ?_
 refine qf (d:=31) (v:=.bool true) rfl (by rw[h35] <;> rfl) ?_
 refine au [112,156,6,15,6,16,11,17,11,18,111,152,24,3] ?_
 exact qy (qa (true,())) (by intro c h;cases h)
 intro h35
 refine qu mixed [] [⟨g14,24,[.slice a12 x11.1.length c13.1]⟩,⟨g9,24,[.slice none 0 0]⟩,⟨g8,29,[qAG x4,qAG x5,qAG x6,qAG x7]⟩] [Sl (eI .u8) 1 (.slice a2 x1.length c3) x1] (.cons 0 rfl (.cons 0 rfl (.cons 0 rfl .nil))) (qx 0 rfl qr) 23 rfl ?_
 refine au [113] ?_
 refine qf (d:=24) (v:=.bool true) rfl (by rw[h34] <;> rfl) ?_
 refine au [129,26,9,5,24,2,6,29,0,7,171] ?_
 refine qf (d:=31) (v:=.bool false) rfl (by rw[h35] <;> rfl) (qK 10 (.agg #[.slice a12 x11.1.length c13.1]) rfl rfl rfl (qH (i:=0) rfl tf24 rfl rfl (by simp) rfl) ?_)
 refine au [24,2,12,29,0,13,21,11,35,15] ?_
 intro x36 e36 _
 refine au [0] ?_
 refine qW (.cons 0 rfl (.cons 0 rfl (.cons 0 rfl .nil))) (qx 0 rfl qr) ?_
 refine av [6,14,6,15,6,16,26,14] ?_ ?_
 intro h37
 refine qf (d:=38) (v:=.bool true) rfl (by rw[h37] <;> rfl) ?_
 refine au [11,17,11,18,111,152,24,3] ?_
 exact qy (qa (true,())) (by intro c h;cases h)
 intro h37
 refine qf (d:=38) (v:=.bool false) rfl (by rw[h37] <;> rfl) ?_
 refine au [6,17,24,2,18,29,0,19,6,20,152,24,3] ?_
 exact qy (qa ((decide (x7<x11.2.1)),())) (by intro c h;cases h)
 intro h34
 refine qu mixed [] [⟨g14,24,[.slice a12 x11.1.length c13.1]⟩,⟨g9,24,[.slice none 0 0]⟩,⟨g8,29,[qAG x4,qAG x5,qAG x6,qAG x7]⟩] [Sl (eI .u8) 1 (.slice a2 x1.length c3) x1] (.cons 0 rfl (.cons 0 rfl (.cons 0 rfl .nil))) (qx 0 rfl qr) 23 rfl ?_
 refine au [113] ?_
 refine qf (d:=24) (v:=.bool false) rfl (by rw[h34] <;> rfl) ?_
 refine au [11,3,11,4,11,5,11,6,11,7,141,112,156,146,11,17,11,18,111,11,21,6,22,24,3] ?_
 exact qy (qa (false,())) (by intro c h;cases h)
 rintro ⟨x32,_⟩
 try dsimp only
 refine av [8] ?_ ?_
 intro _
 refine au [4,5,0] ?_
 exact qa ((8:Int),())
 intro _
 refine au [10] ?_
 exact qa (x11.2.2,())
 rintro ⟨x25,_⟩
 try dsimp only
 refine av [75,85] ?_ ?_
 intro _
 refine au [59] ?_
 refine qq (cells:=[.slice none 0 0]) rfl st24 rfl (by kernel_rfl) rfl ?_
 refine au [1,25,7,5,106] ?_
 exact qv (none,(0,([]:List (qAF×Nat)))) (resL (rs:=[.cell 4 24,.tmp 5,.tmp 6]) rfl (.cell (i:=1) rfl tf24 rfl rfl (by simp) rfl (.tmp rfl (.tmp rfl ResOk.nil))) rfl) (fun h=>by subst h;exact (.cons 0 rfl .nil))
 intro _
 refine au [64,124,1,25,7,5,61] ?_
 exact qv (a12,c13) (resL (rs:=[.cell 4 24,.tmp 5,.tmp 6]) rfl (.cell (i:=1) rfl tf24 rfl rfl (by simp) rfl (.tmp rfl (.tmp rfl ResOk.nil))) rfl) (fun h=>by subst h;exact (.cons 0 rfl .nil))
set_option maxHeartbeats 4000000 in
theorem qow {F:Nat}{x1:qAE}{a2:qAF}{c3:Nat}{r:(Int×Int×Int×Int×Int)}(hm:qav F x1=some r) :
    Pure Tryz.prog 12 [.slice a2 x1.length c3] [Sl (eI .u8) 1 (.slice a2 x1.length c3) x1] Unit (fun _=>.tuple #[.agg #[qAG r.1,qAG r.2.1,qAG r.2.2.1,qAG r.2.2.2.1],qAG r.2.2.2.2]) (fun _=>[]) (fun _=>[]):=by
 refine qk Tryz.func12 rfl Tryz.ntmps12 rfl hm (fun w=>?_)
 refine au [25,5,128] ?_
 intro g4
 refine au [58,60,35,14] ?_
 rintro x5 e5 ⟨a6,c7⟩
 refine au [148,24,12] ?_
 intro g8
 refine av [24,10,114,85] ?_ ?_
 intro _
 refine au [59] ?_
 refine qq (cells:=[qAG 0,qAG 0,qAG 0,qAG 0]) rfl st29 rfl (by kernel_rfl) rfl ?_
 refine au [1,25,7,74] ?_
 exact qv () (resL (rs:=[.cell 2 29,.tmp 3]) rfl (.cell (i:=1) rfl tf29 rfl rfl (by simp) rfl (.tmp rfl ResOk.nil)) rfl)
 intro _
 refine au [90] ?_
 refine qu mixed [] [⟨g8,24,[.slice a6 x5.1.length c7.1]⟩] [Sl (eI .u8) 1 (.slice a2 x1.length c3) x1] (.cons 0 rfl .nil) (qx 0 rfl qr) 11 rfl ?_
 refine au [6,0,26,9,1,24,2,2,25,8,3,26,9,4] ?_
 refine qK 5 (.agg #[.slice a6 x5.1.length c7.1]) rfl rfl rfl (qH (i:=0) rfl tf24 rfl rfl (by simp) rfl) ?_
 refine au [6,7,21,6,35,15] ?_
 intro x11 e11 _
 refine au [0,26,7] ?_
 refine qn 8 (.agg #[qAG (x1.length:Int),qAG (x5.1.length:Int),qAG x11,qAG x5.2.1]) rfl rfl rfl (qcR (cells:=[qAG (x1.length:Int),qAG (x5.1.length:Int),qAG x11,qAG x5.2.1]) st29 rfl (by kernel_rfl)) ?_
 refine au [21,9,25,7,0,26,7,6,10,24,3] ?_
 refine qy ?_ (by intro c h;cases h)
 refine au [2,12] ?_
 exact qv () (resL (rs:=[.cell 2 29,.tmp 3]) rfl (.cell (i:=1) rfl tf29 rfl rfl (by simp) rfl (.tmp rfl ResOk.nil)) rfl)
theorem qop {F:Nat}{x1:Int}{x2:Int}{x3:Int}{r:Bool}(hm:zC F x1 x2 x3=some r) :
    Pure Tryz.prog 24 [qAG x1,qAG x2,qAG x3] [] Unit (fun _=>.bool r) (fun _=>[]) (fun _=>[]):=by
 refine qk Tryz.func24 rfl Tryz.ntmps24 rfl hm (fun w=>?_)
 refine au [25,15,68,69,26,3,1] ?_
 refine qC 4 (decide (x2≤x1)) [(14,.bool ((decide (x2≤x1)) && (decide (x1≤x3))))] (fun h4=>?_) (fun h4=>?_) ?_
 refine qb (os:=_) rfl (qp (k:=10) rfl h4 ?_)
 refine au [1,1,27,6,24,7] ?_
 refine qd (d:=14) (v:=.bool ((decide (x2≤x1)) && (decide (x1≤x3)))) rfl (by rw[h4];simp only[Bool.true_and]) ?_
 exact az [67]
 refine qb (os:=_) rfl (qo (k:=10) rfl h4 ?_)
 refine au [71,7,24,8] ?_
 refine qd (d:=14) (v:=.bool ((decide (x2≤x1)) && (decide (x1≤x3)))) rfl (by rw[h4];simp only[qyj]) ?_
 exact az [67]
 refine qb (os:=_) rfl ?_
 exact az [95]
set_option maxHeartbeats 4000000 in
theorem qj5 {F:Nat}{x1:List (qAE)}{a2:qAF}{c3:Nat}{s3:List (qAF×Nat)}{r:Int}(hm:qbQ F x1=some r) :
    Pure Tryz.prog 23 [.agg #[.slice a2 x1.length c3]] [SlN eN59 iN59 1 (.slice a2 x1.length c3) x1 s3] Unit (fun _=>qAG r) (fun _=>[]) (fun _=>[]):=by
 refine qk Tryz.func23 rfl Tryz.ntmps23 rfl hm (fun w=>?_)
 refine au [133] ?_
 intro g4
 refine av [58,116,18,58,75,77] ?_ ?_
 intro _
 exact az [59,96]
 intro _
 refine au [64,68] ?_
 refine qc (fun ((x0,_):(Int×Unit))=>([(4,qAG x0)],[],[],[],qdk F x0)) ?_ ?_
 refine au [168] ?_
 refine qi (fun (((x2,x3),_):((Int×Int)×Unit))=>([(1,.pointer (some ⟨g4,0,none⟩)),(3,qAG (x1.length:Int)),(4,qAG x2),(5,qAG x3)],[⟨g4,24,[.slice a2 x1.length c3]⟩],[],[SlN eN59 iN59 1 (.slice a2 x1.length c3) x1 s3])) (fun k (s:((Int×Int)×Unit))=>qX F x1 k s.1) ((0,0),()) F ?_
 intro k0
 rintro ⟨⟨x2,x3⟩,_⟩
 try dsimp only
 refine qm (m':=jP F x1 (qX F x1 k0) x2 x3) rfl ?_
 refine av [3,69,83] ?_ ?_
 intro _
 refine au [64] ?_
 refine qc (fun ((x4,_):(Int×Unit))=>([(1,.pointer (some ⟨g4,0,none⟩)),(3,qAG (x1.length:Int)),(4,qAG x4),(5,qAG x3)],[⟨g4,24,[.slice a2 x1.length c3]⟩],[],[SlN eN59 iN59 1 (.slice a2 x1.length c3) x1 s3],kw F (qX F x1 k0) x3 x4)) ?_ ?_
 refine au [14,168] ?_
 refine qi (fun (((x5,x6),_):((Int×Int)×Unit))=>([(1,.pointer (some ⟨g4,0,none⟩)),(3,qAG (x1.length:Int)),(4,qAG x5),(5,qAG x3),(6,qAG x6)],[⟨g4,24,[.slice a2 x1.length c3]⟩],[],[SlN eN59 iN59 1 (.slice a2 x1.length c3) x1 s3])) (fun k (s:((Int×Int)×Unit))=>zo F (qX F x1 k0) x1 x3 k s.1) ((x2,0),()) F ?_
 intro k1
 rintro ⟨⟨x5,x6⟩,_⟩
 try dsimp only
 refine qm (m':=jQ F (qX F x1 k0) x1 x3 (zo F (qX F x1 k0) x1 x3 k1) x5 x6) rfl ?_
 refine au [75,62,1,27,5] ?_
 intro x7 e0 g0 b0 o0
 refine av [24,14,18,83] ?_ ?_
 intro _
 refine au [91,3,116,1,31,15] ?_
 intro x8 e1 g1 b1 o1
 refine au [24,14,1,27,8] ?_
 intro x9 e2 b2 o2
 refine au [24,14,103,27,4] ?_
 intro x10 e3 _
 refine av [101] ?_ ?_
 intro _
 exact az [59,158,20,78,9,160]
 intro _
 refine au [90] ?_
 refine qc (fun ((x11,_):(Bool×Unit))=>([(1,.pointer (some ⟨g4,0,none⟩)),(3,qAG (x1.length:Int)),(4,qAG x5),(5,qAG x3),(6,qAG x6),(60,.bool x11)],[⟨g4,24,[.slice a2 x1.length c3]⟩],[],[SlN eN59 iN59 1 (.slice a2 x1.length c3) x1 s3],kx F (zo F (qX F x1 k0) x1 x3 k1) x5 x6 x11)) ?_ ?_
 refine av [26,15] ?_ ?_
 intro h0
 refine qho (j:=5) kL (by decide) rfl ?_
 intro x12 e4 g2 b3 o3 h1
 replace h1:a2=some ⟨b3,o3,none⟩:=h1
 refine au [28,15] ?_
 intro x13 e5 b4 o4 h2
 replace h2:g2.1=some ⟨b4,o4,none⟩:=h2
 refine qho (j:=8) kL (by decide) rfl ?_
 intro x14 e6 g3 b5 o5 h3
 replace h3:a2=some ⟨b5,o5,none⟩:=h3
 refine au [28,15] ?_
 intro x15 e7 b6 o6 h4
 replace h4:g3.1=some ⟨b6,o6,none⟩:=h4
 refine qu mixed [] [⟨g4,24,[.slice a2 x1.length c3]⟩] [qz b6 (o6+(isub .i64 x6 1).toNat*1) ((eI .i64) x15),qz b5 (o5+x3.toNat*1) (eN59 (x14,g3)),Sl (eI .i64) 1 (.slice g3.1 x14.length g3.2) x14,qz b4 (o4+x6.toNat*1) ((eI .i64) x13),qz b3 (o3+x3.toNat*1) (eN59 (x12,g2)),Sl (eI .i64) 1 (.slice g2.1 x12.length g2.2) x12,qz b2 o2 ((eI .i64) x9),qz b1 o1 (eN59 (x8,g1)),Sl (eI .i64) 1 (.slice g1.1 x8.length g1.2) x8,qz b0 o0 (eN59 (x7,g0)),Sl (eI .i64) 1 (.slice g0.1 x7.length g0.2) x7,SlN eN59 iN59 1 (.slice a2 x1.length c3) x1 s3] (.cons 0 rfl .nil) (qx 0 rfl (qx 1 rfl (qx 2 rfl (qx 3 rfl (qx 4 rfl (qx 5 rfl (qx 6 rfl (qx 7 rfl (qx 8 rfl (qx 9 rfl (qx 10 rfl (qx 11 rfl qr)))))))))))) 22 rfl ?_
 refine au [113] ?_
 refine qf (d:=41) (v:=.bool true) rfl (by rw[h0] <;> rfl) ?_
 refine au [129,6,5] ?_
 refine qf (d:=43) (v:=.slice (some ⟨b3,o3,none⟩) x1.length c3) rfl (by rw[h1] <;> rfl) (qn 6 (.pointer (some ⟨b3,(o3+x3.toNat*1),none⟩)) rfl rfl rfl (yJ Tryz.underlying22 tf59 rfl rfl (qF e4).1 (zX e4)) (qf (d:=43) (v:=.slice a2 x1.length c3) rfl (by rw[h1] <;> rfl) (qI 7 (.slice g2.1 x12.length g2.2) [] rfl rfl rfl (zi (j:=4) rfl tf59 rfl rfl (fun _=>rfl) rfl) ?_)))
 refine au [6,8] ?_
 refine qf (d:=46) (v:=.slice (some ⟨b4,o4,none⟩) x12.length g2.2) rfl (by rw[h2] <;> rfl) (qn 9 (.pointer (some ⟨b4,(o4+x6.toNat*1),none⟩)) rfl rfl rfl (yJ Tryz.underlying59 tf3 rfl rfl (qF e5).1 (zX e5)) (qf (d:=46) (v:=.slice g2.1 x12.length g2.2) rfl (by rw[h2] <;> rfl) (qI 10 (qAG x13) [] rfl rfl rfl (zi (j:=3) rfl tf3 rfl rfl (fun _=>rfl) rfl) ?_)))
 refine au [24,2,11,25,8,12,6,13] ?_
 refine qf (d:=51) (v:=.slice (some ⟨b5,o5,none⟩) x1.length c3) rfl (by rw[h3] <;> rfl) (qn 14 (.pointer (some ⟨b5,(o5+x3.toNat*1),none⟩)) rfl rfl rfl (yJ Tryz.underlying22 tf59 rfl rfl (qF e6).1 (zX e6)) (qf (d:=51) (v:=.slice a2 x1.length c3) rfl (by rw[h3] <;> rfl) (qI 15 (.slice g3.1 x14.length g3.2) [] rfl rfl rfl (zi (j:=1) rfl tf59 rfl rfl (fun _=>rfl) rfl) ?_)))
 refine au [6,16,6,17] ?_
 refine qf (d:=54) (v:=.slice (some ⟨b6,o6,none⟩) x14.length g3.2) rfl (by rw[h4] <;> rfl) (qn 18 (.pointer (some ⟨b6,(o6+(isub .i64 x6 1).toNat*1),none⟩)) rfl rfl rfl (yJ Tryz.underlying59 tf3 rfl rfl (qF e7).1 (zX e7)) (qf (d:=54) (v:=.slice g3.1 x14.length g3.2) rfl (by rw[h4] <;> rfl) (qI 19 (qAG x15) [] rfl rfl rfl (zi (j:=0) rfl tf3 rfl rfl (fun _=>rfl) rfl) ?_)))
 refine au [6,20,6,21,24,3] ?_
 exact qy (qa ((decide (x13≤x15)),())) (by intro c h;cases h)
 intro h0
 refine qu mixed [] [⟨g4,24,[.slice a2 x1.length c3]⟩] [qz b2 o2 ((eI .i64) x9),qz b1 o1 (eN59 (x8,g1)),Sl (eI .i64) 1 (.slice g1.1 x8.length g1.2) x8,qz b0 o0 (eN59 (x7,g0)),Sl (eI .i64) 1 (.slice g0.1 x7.length g0.2) x7,SlN eN59 iN59 1 (.slice a2 x1.length c3) x1 s3] (.cons 0 rfl .nil) (qx 0 rfl (qx 1 rfl (qx 2 rfl (qx 3 rfl (qx 4 rfl (qx 5 rfl qr)))))) 22 rfl ?_
 refine au [113] ?_
 refine qf (d:=41) (v:=.bool false) rfl (by rw[h0] <;> rfl) ?_
 refine au [11,3,11,4,11,5,11,6,11,7,141,112,156,146,11,17,11,18,111,6,21,24,3] ?_
 exact qy (qa (false,())) (by intro c h;cases h)
 rintro ⟨x11,_⟩
 try dsimp only
 refine av [8] ?_ ?_
 intro _
 exact az [59,158,20,78,9,160]
 intro _
 refine au [64,89,87,2,89,0] ?_
 exact qh ((iadd .i64 x5 1,iadd .i64 x6 1),())
 intro _
 refine au [73,22] ?_
 exact qa (x5,())
 rintro ⟨x4,_⟩
 try dsimp only
 refine au [89,0] ?_
 exact qh ((x4,iadd .i64 x3 1),())
 intro _
 refine au [73] ?_
 exact qa (x2,())
 rintro ⟨x0,_⟩
 try dsimp only
 refine av [75,77] ?_ ?_
 intro _
 exact az [59,96]
 intro _
 exact az [64,59,95]
theorem qjI:∀ (F:Nat) (x1:Int) (r:qAE),zp F x1=some r→Pure Tryz.prog 25 [.int .u64 x1] [] (qAF×Nat) (fun g=>.slice g.1 r.length g.2) (fun g=>[Ro (eI .u8) 5 1 (.slice g.1 r.length g.2) r]) (fun _=>[]):=by
  intro F
  induction F with
  | zero=>intro x1 r hm;exact absurd hm (by simp[zp])
  | succ F ih =>
    intro x1 r hm
    refine qk Tryz.func25 rfl Tryz.ntmps25 rfl hm (fun w=>?_)
    refine qv6 (l':=[(0,.int .u64 x1)]) rfl ?_
    refine qfi ?_
    refine qaS ?_
    refine qgU rfl rfl rfl ?_
    refine qfj ?_
    refine qd1 ?_
    refine qfi ?_
    refine qfi ?_
    refine qaS ?_
    refine qhq rfl rfl rfl ?_
    refine qr6 rfl rfl rfl rfl ?_
    refine qfj ?_
    refine qd1 ?_
    refine quR rfl (fun h15=>?_) (fun h15=>?_)
    · refine qfi ?_
      refine qaS ?_
      refine qhq rfl rfl rfl ?_
      refine qk2 rfl Tryz.underlying58 Tryz.underlying5 rfl rfl ?_
      refine qt (vs:=[.int .u8 (iconv .u8 x1)]) (ys:=([iconv .u8 x1]:qAE)) (ql .u8) (by decide) rfl Tryz.underlying27 tf5 rfl rfl rfl rfl rfl (by decide) (fun a5 c6=>?_)
      refine qgU rfl rfl rfl ?_
      refine qfj ?_
      refine qd1 ?_
      refine qn3 ?_
      refine qmM ?_
      exact qv (a5,c6) (res1 rfl rfl) (fun h=>by subst h;exact (.cons 0 rfl .nil))
    · refine qpG ?_
      refine qd1 ?_
      refine qfi ?_
      refine qaS ?_
      refine qhq rfl rfl rfl ?_
      refine qr7 rfl rfl rfl rfl rfl ?_
      refine qr5 rfl rfl rfl rfl ?_
      refine qk2 rfl Tryz.underlying58 Tryz.underlying5 rfl rfl ?_
      refine qt (vs:=[.int .u8 (iconv .u8 (iadd .u64 (irem x1 128) 128))]) (ys:=([iconv .u8 (iadd .u64 (irem x1 128) 128)]:qAE)) (ql .u8) (by decide) rfl Tryz.underlying27 tf5 rfl rfl rfl rfl rfl (by decide) (fun a7 c8=>?_)
      refine qhq rfl rfl rfl ?_
      refine qj3 rfl rfl rfl rfl rfl ?_
      refine qpH ent25 rfl rfl rfl (fun x9 e9=>ih (iquo .u64 x1 128) x9 e9) .nil (fun x9 e9=>?_)
      rintro ⟨a10,c11⟩
      refine qB 1 (ql .u8) rfl Tryz.underlying27 tf5 rfl rfl rfl rfl rfl (.inl ⟨0,_,rfl⟩) rfl rfl (fun x12 e12 a13 c14=>?_)
      refine qgU rfl rfl rfl ?_
      refine qfj ?_
      refine qd1 ?_
      refine qn3 ?_
      exact qv (a13,c14) (res1 rfl rfl) (fun h=>by subst h;exact (.cons 0 rfl .nil))
theorem qpW {F:Nat}{x1:Int}{r:Int}(hm:qfn F x1=some r) :
    Pure Tryz.prog 38 [qAG x1] [] Unit (fun _=>.int .u64 r) (fun _=>[]) (fun _=>[]):=by
 refine qk Tryz.func38 rfl Tryz.ntmps38 rfl hm (fun w=>?_)
 refine av [126,75,83] ?_ ?_
 intro _
 refine au [60,16,34,2,24,11,27,2,86,26,1] ?_
 intro x4 e4
 refine qd (d:=2) (v:=.int .u64 x4) rfl (by rw[e4] <;> rfl) ?_
 exact az [57,12,9,19]
 intro _
 exact az [64,60,24,11,27,2,95]
set_option maxHeartbeats 4000000 in
theorem qpX {F:Nat}{x1:qAE}{a2:qAF}{c3:Nat}{x4:Int}{r:qAE}(hm:qfo F x1 x4=some r) :
    Pure Tryz.prog 26 [.slice a2 x1.length c3,qAG x4] [Sl (eI .i64) 1 (.slice a2 x1.length c3) x1] (qAF×Nat) (fun g=>.slice g.1 r.length g.2) (fun g=>[Ro (eI .u64) 58 1 (.slice g.1 r.length g.2) r]) (fun _=>[]):=by
 refine qk Tryz.func26 rfl Tryz.ntmps26 rfl hm (fun w=>?_)
 refine au [102,68] ?_
 refine qc (fun ((x0,(a0,c0)):(qAE×(qAF×Nat)))=>([(5,.slice a0 x0.length c0)],[],[Ro (eI .u64) 58 1 (.slice a0 x0.length c0) x0],[],qga F x0)) ?_ ?_
 refine au [168,29,14] ?_
 refine qi (fun (((x2,x3),(a1,c1)):((qAE×Int)×(qAF×Nat)))=>([(0,.slice a2 x1.length c3),(1,qAG x4),(5,.slice a1 x2.length c1),(6,qAG x3)],[],[Ro (eI .u64) 58 1 (.slice a1 x2.length c1) x2],[Sl (eI .i64) 1 (.slice a2 x1.length c3) x1])) (fun k (s:((qAE×Int)×(qAF×Nat)))=>jK F x1 x4 k s.1) ((([]:qAE),0),(none,0)) F ?_
 intro k0
 rintro ⟨⟨x2,x3⟩,⟨a1,c1⟩⟩
 try dsimp only
 refine qm (m':=qer F x1 x4 (jK F x1 x4 k0) x2 x3) rfl ?_
 refine av [3,130] ?_ ?_
 intro _
 refine au [64] ?_
 refine qc (fun ((x5,(a3,c2)):(qAE×(qAF×Nat)))=>([(0,.slice a2 x1.length c3),(1,qAG x4),(5,.slice a3 x5.length c2),(6,qAG x3)],[],[Ro (eI .u64) 58 1 (.slice a3 x5.length c2) x5],[Sl (eI .i64) 1 (.slice a2 x1.length c3) x1],qcJ F (jK F x1 x4 k0) x3 x5)) ?_ ?_
 refine av [14,60,82] ?_ ?_
 intro _
 refine au [99,26,2] ?_
 intro x6 e0 b0 o0
 refine au [24,14,103,36,0] ?_
 intro x7 e1 _
 refine qt (vs:=[.int .u64 x7]) (ys:=([x7]:qAE)) (ql .u64) (by decide) rfl Tryz.underlying60 tf58 rfl rfl rfl rfl rfl (by decide) (fun a4 c4=>qB 1 (ql .u64) rfl Tryz.underlying60 tf58 rfl rfl rfl rfl rfl (.inl ⟨0,_,rfl⟩) rfl rfl (fun x8 e2 a5 c5=>?_))
 refine au [172] ?_
 exact qa (x8,(a5,c5))
 intro _
 refine au [29,8] ?_
 intro x9 e3 b1 o1 h0
 replace h0:a2=some ⟨b1,o1,none⟩:=h0
 refine au [28,15] ?_
 intro x10 e4 b2 o2 h1
 replace h1:a2=some ⟨b2,o2,none⟩:=h1
 refine qu mixed [] [] [qz b2 (o2+(isub .i64 x3 1).toNat*1) ((eI .i64) x10),qz b1 (o1+x3.toNat*1) ((eI .i64) x9),Sl (eI .i64) 1 (.slice a2 x1.length c3) x1] .nil (qx 0 rfl (qx 1 rfl (qx 2 rfl qr))) 16 rfl ?_
 refine au [113] ?_
 refine qf (d:=25) (v:=.slice (some ⟨b1,o1,none⟩) x1.length c3) rfl (by rw[h0] <;> rfl) (qn 3 (.pointer (some ⟨b1,(o1+x3.toNat*1),none⟩)) rfl rfl rfl (yJ Tryz.underlying59 tf3 rfl rfl (qF e3).1 (zX e3)) (qf (d:=25) (v:=.slice a2 x1.length c3) rfl (by rw[h0] <;> rfl) (qI 4 (qAG x9) [] rfl rfl rfl (zi (j:=1) rfl tf3 rfl rfl (fun _=>rfl) rfl) ?_)))
 refine au [6,5,150] ?_
 refine qf (d:=29) (v:=.slice (some ⟨b2,o2,none⟩) x1.length c3) rfl (by rw[h1] <;> rfl) (qn 8 (.pointer (some ⟨b2,(o2+(isub .i64 x3 1).toNat*1),none⟩)) rfl rfl rfl (yJ Tryz.underlying59 tf3 rfl rfl (qF e4).1 (zX e4)) (qf (d:=29) (v:=.slice a2 x1.length c3) rfl (by rw[h1] <;> rfl) (qI 9 (qAG x10) [] rfl rfl rfl (zi (j:=0) rfl tf3 rfl rfl (fun _=>rfl) rfl) ?_)))
 refine au [154,27,7,12,21,13] ?_
 refine qt (vs:=[.int .u64 (iconv .u64 (isub .i64 (isub .i64 x9 x10) 1))]) (ys:=([iconv .u64 (isub .i64 (isub .i64 x9 x10) 1)]:qAE)) (ql .u64) (by decide) rfl Tryz.underlying60 tf58 rfl rfl rfl rfl rfl (by decide) (fun a6 c6=>?_)
 refine au [0,36,1,21,14] ?_
 refine qB 1 (ql .u64) rfl Tryz.underlying60 tf58 rfl rfl rfl rfl rfl (.inl ⟨0,_,rfl⟩) rfl rfl (fun x11 e5 a7 c7=>?_)
 refine au [0,36,1,6,15,24,3] ?_
 refine qy ?_ (by intro c h;cases h)
 refine au [22] ?_
 exact qa (x11,(a7,c7))
 rintro ⟨x5,⟨a3,c2⟩⟩
 try dsimp only
 refine au [89,0] ?_
 exact qh ((x5,iadd .i64 x3 1),(a3,c2))
 intro _
 refine au [73] ?_
 exact qa (x2,(a1,c1))
 rintro ⟨x0,⟨a0,c0⟩⟩
 try dsimp only
 refine au [60,61] ?_
 exact qj (a0,c0)
set_option maxHeartbeats 4000000 in
theorem qmV {F:Nat}{x1:Int}{x2:Int}{x3:Int}{r:Int}(hm:qca F x1 x2 x3=some r) :
    Pure Tryz.prog 39 [.agg #[qAG x1,qAG x2,qAG x3]] [] Unit (fun _=>qAG r) (fun _=>[]) (fun _=>[]):=by
 refine qk Tryz.func39 rfl Tryz.ntmps39 rfl hm (fun w=>?_)
 refine au [133] ?_
 intro g4
 refine au [58,3,116,27,4] ?_
 intro x21 e21 _
 refine au [25,3,1] ?_
 refine qU 10 (fun ((x27,_):(Bool×Unit))=>([(1,.pointer (some ⟨g4,0,none⟩)),(17,.bool x27)],[⟨g4,26,[qAG x1,qAG x2,qAG x3]⟩],[],[],qaU F x3 x27)) ?_ ?_
 refine qb (os:=_) rfl ?_
 refine av [25,10] ?_ ?_
 intro h22
 refine qp (k:=7) rfl h22 ?_
 refine au [76,76,7,97] ?_
 exact qa (true,())
 intro h22
 refine qo (k:=7) rfl h22 ?_
 refine au [62,25,1,1] ?_
 refine qU 5 (fun ((x35,_):(Bool×Unit))=>([(1,.pointer (some ⟨g4,0,none⟩)),(7,.bool false),(16,.bool x35)],[⟨g4,26,[qAG x1,qAG x2,qAG x3]⟩],[],[],qcY F x3 x35)) ?_ ?_
 refine qb (os:=_) rfl ?_
 refine av [25,10] ?_ ?_
 intro h33
 refine qp (k:=11) rfl h33 ?_
 refine au [62,27,4] ?_
 intro x36 e36 _
 refine au [25,3,97] ?_
 exact qa ((!x36),())
 intro h33
 refine qo (k:=11) rfl h33 ?_
 refine au [76,117] ?_
 exact qa (false,())
 rintro ⟨x35,_⟩
 try dsimp only
 refine qb (os:=_) rfl ?_
 refine au [117] ?_
 exact qa (x35,())
 rintro ⟨x27,_⟩
 try dsimp only
 refine qb (os:=_) rfl ?_
 refine au [1] ?_
 refine qU 5 (fun ((x30,_):(Bool×Unit))=>([(23,.bool x30)],[],[],[],qcX F x30)) ?_ ?_
 refine qb (os:=_) rfl ?_
 refine av [25,10] ?_ ?_
 intro h28
 refine qp (k:=18) rfl h28 ?_
 refine au [76,97] ?_
 exact qa (true,())
 intro h28
 refine qo (k:=18) rfl h28 ?_
 refine au [62,27,4] ?_
 intro x32 e32 _
 refine au [25,3,117] ?_
 exact qa ((!x32),())
 rintro ⟨x30,_⟩
 try dsimp only
 refine qb (os:=_) rfl ?_
 refine av [63] ?_ ?_
 intro _
 exact az [59,96]
 intro _
 exact az [64,59,95]
theorem qp0 {F:Nat}{x1:Int}{r:qAE}(hm:qgF F x1=some r) :
    Pure Tryz.prog 67 [.int .u64 x1] [] (qAF×Nat) (fun g=>.slice g.1 r.length g.2) (fun g=>[Ro (eI .i64) 3 1 (.slice g.1 r.length g.2) r]) (fun _=>[]):=by
 refine qk Tryz.func67 rfl Tryz.ntmps67 rfl hm (fun w=>?_)
 refine au [126,68] ?_
 refine qc (fun ((x31,(a29,c30)):(qAE×(qAF×Nat)))=>([(3,.slice a29 x31.length c30)],[],[Ro (eI .i64) 3 1 (.slice a29 x31.length c30) x31],[],qge F x31)) ?_ ?_
 refine au [108] ?_
 refine qi (fun (((x40,x43),(a41,c42)):((Int×qAE)×(qAF×Nat)))=>([(0,.int .u64 x40),(3,.slice a41 x43.length c42)],[],[Ro (eI .i64) 3 1 (.slice a41 x43.length c42) x43],[])) (fun k (s:((Int×qAE)×(qAF×Nat)))=>qba F k s.1) ((x1,([]:qAE)),(none,0)) F ?_
 intro k51
 rintro ⟨⟨x40,x43⟩,⟨a41,c42⟩⟩
 try dsimp only
 refine qm (m':=qez F (qba F k51) x40 x43) rfl ?_
 refine av [75,77] ?_ ?_
 intro _
 refine au [64,14,60,27,11,24,11] ?_
 refine qt (vs:=[qAG (iconv .i64 (irem x40 2))]) (ys:=([iconv .i64 (irem x40 2)]:qAE)) (ql .i64) (by decide) rfl Tryz.underlying59 tf3 rfl rfl rfl rfl rfl (by decide) (fun a53 c54=>?_)
 refine au [1] ?_
 refine qB 0 (ql .i64) rfl Tryz.underlying59 tf3 rfl rfl rfl rfl rfl (.inl ⟨1,_,rfl⟩) rfl rfl (fun x55 e55 a56 c57=>?_)
 refine au [58,88,27,12,172] ?_
 exact qh ((iquo .u64 x40 2,x55),(a56,c57))
 intro _
 refine au [73] ?_
 exact qa (x43,(a41,c42))
 rintro ⟨x31,⟨a29,c30⟩⟩
 try dsimp only
 refine au [60,61] ?_
 exact qj (a29,c30)
set_option maxHeartbeats 4000000 in
theorem qlg {F:Nat}{x1:Int}{r:qAE}(hm:ko F x1=some r) :
    Pure Tryz.prog 52 [.int .u64 x1] [] (qAF×Nat) (fun g=>.slice g.1 r.length g.2) (fun g=>[Ro (eI .i64) 3 1 (.slice g.1 r.length g.2) r]) (fun _=>[]):=by
 refine qk Tryz.func52 rfl Tryz.ntmps52 rfl hm (fun w=>?_)
 refine au [126,60,16] ?_
 refine qg qp0 ?_
 rintro x2 e2 ⟨a3,c4⟩
 refine au [58,68] ?_
 refine qc (fun ((x48,(a46,c47)):(qAE×(qAF×Nat)))=>([(3,.slice a3 x2.length c4),(4,.slice a46 x48.length c47)],[],[Ro (eI .i64) 3 1 (.slice a3 x2.length c4) x2,Ro (eI .i64) 3 1 (.slice a46 x48.length c47) x48],[],qd5 F x2 x48)) ?_ ?_
 refine au [68,108] ?_
 refine qi (fun (((x66,x67),(a64,c65)):((qAE×Int)×(qAF×Nat)))=>([(3,.slice a3 x2.length c4),(4,.slice a64 x66.length c65),(5,qAG x67)],[],[Ro (eI .i64) 3 1 (.slice a3 x2.length c4) x2,Ro (eI .i64) 3 1 (.slice a64 x66.length c65) x66],[])) (fun k (s:((qAE×Int)×(qAF×Nat)))=>vt F x2 k s.1) ((([]:qAE),1),(none,0)) F ?_
 intro k80
 rintro ⟨⟨x66,x67⟩,⟨a64,c65⟩⟩
 try dsimp only
 refine qm (m':=qb9 F x2 (vt F x2 k80) x66 x67) rfl ?_
 refine av [3,130] ?_ ?_
 intro _
 refine au [91,88] ?_
 refine qt (vs:=[qAG 0]) (ys:=([0]:qAE)) (ql .i64) (by decide) rfl Tryz.underlying59 tf3 rfl rfl rfl rfl rfl (by decide) (fun a87 c88=>qB 2 (ql .i64) rfl Tryz.underlying59 tf3 rfl rfl rfl rfl rfl (.inl ⟨0,_,rfl⟩) rfl rfl (fun x89 e89 a90 c91=>?_))
 refine au [173,89,0] ?_
 exact qh ((x89,iadd .i64 x67 1),(a90,c91))
 intro _
 refine au [73] ?_
 exact qa (x66,(a64,c65))
 rintro ⟨x48,⟨a46,c47⟩⟩
 try dsimp only
 refine au [69] ?_
 refine qB 1 (ql .i64) rfl Tryz.underlying59 tf3 rfl rfl rfl rfl rfl (.inl ⟨0,_,rfl⟩) rfl rfl (fun x49 e49 a50 c51=>?_)
 refine au [61] ?_
 exact qj (a50,c51)
theorem qpY {F:Nat}{x1:qAE}{a2:qAF}{c3:Nat}{x4:Int}{r:Bool}(hm:qbR F x1 x4=some r) :
    Pure Tryz.prog 84 [.slice a2 x1.length c3,qAG x4] [Sl (eI .i64) 1 (.slice a2 x1.length c3) x1] Unit (fun _=>.bool r) (fun _=>[]) (fun _=>[]):=by
 refine qk Tryz.func84 rfl Tryz.ntmps84 rfl hm (fun w=>?_)
 refine au [102] ?_
 refine qc (fun ((_,_):(Unit×Unit))=>([],[],[],[],qgc F)) ?_ ?_
 refine au [168] ?_
 refine qi (fun ((x47,_):(Int×Unit))=>([(0,.slice a2 x1.length c3),(1,qAG x4),(5,qAG x47)],[],[],[Sl (eI .i64) 1 (.slice a2 x1.length c3) x1])) (fun k (s:(Int×Unit))=>qa9 F x1 x4 k s.1) (0,()) F ?_
 intro k58
 rintro ⟨x47,_⟩
 try dsimp only
 refine qm (m':=qes F x1 x4 (qa9 F x1 x4 k58) x47) rfl ?_
 refine av [3,130] ?_ ?_
 intro _
 refine au [91,69,26,2] ?_
 intro x64 e64 b65 o66
 refine av [24,14,1,82] ?_ ?_
 intro _
 exact az [59,61,78,9,160]
 intro _
 refine au [157,2,89,0] ?_
 exact qh (iadd .i64 x47 1,())
 intro _
 exact az [149]
 rintro ⟨_,_⟩
 try dsimp only
 exact az [59,95]
set_option maxHeartbeats 4000000 in
theorem qjG {F:Nat}{x1:qAE}{a2:qAF}{c3:Nat}{x4:qAE}{a5:qAF}{c6:Nat}{r:(qAE×qAE)}(hm:qc0 F x1 x4=some r) :
    Pure Tryz.prog 68 [.slice a2 x1.length c3,.slice a5 x4.length c6] [Sl (eI .i64) 1 (.slice a2 x1.length c3) x1,Sl (eI .i64) 1 (.slice a5 x4.length c6) x4] ((qAF×Nat)×(qAF×Nat)) (fun g=>.tuple #[.slice g.1.1 r.1.length g.1.2,.slice g.2.1 r.2.length g.2.2]) (fun g=>[Ro (eI .i64) 3 1 (.slice g.1.1 r.1.length g.1.2) r.1,Ro (eI .i64) 3 1 (.slice g.2.1 r.2.length g.2.2) r.2]) (fun _=>[]):=by
 refine qk Tryz.func68 rfl Tryz.ntmps68 rfl hm (fun w=>?_)
 refine au [25,0,59,79,59,79,68] ?_
 refine qc (fun ((x0,(a0,c0)):(qAE×(qAF×Nat)))=>([(0,.slice a2 x1.length c3),(1,.slice a5 x4.length c6),(6,.slice a0 x0.length c0),(7,.slice none 0 0)],[],[Ro (eI .i64) 3 1 (.slice a0 x0.length c0) x0],[Sl (eI .i64) 1 (.slice a2 x1.length c3) x1,Sl (eI .i64) 1 (.slice a5 x4.length c6) x4],qcD F x1 x4 x0)) ?_ ?_
 refine au [68,108] ?_
 refine qi (fun (((x2,x3,x5),(a1,c1)):((qAE×Int×Int)×(qAF×Nat)))=>([(0,.slice a2 x1.length c3),(1,.slice a5 x4.length c6),(6,.slice a1 x2.length c1),(7,.slice none 0 0),(8,qAG x3),(9,qAG x5)],[],[Ro (eI .i64) 3 1 (.slice a1 x2.length c1) x2],[Sl (eI .i64) 1 (.slice a2 x1.length c3) x1,Sl (eI .i64) 1 (.slice a5 x4.length c6) x4])) (fun k (s:((qAE×Int×Int)×(qAF×Nat)))=>zI F x1 x4 k s.1) ((([]:qAE),0,0),(none,0)) F ?_
 intro k0
 rintro ⟨⟨x2,x3,x5⟩,⟨a1,c1⟩⟩
 try dsimp only
 refine qm (m':=jS F x1 x4 (zI F x1 x4 k0) x2 x3 x5) rfl ?_
 refine av [3,130] ?_ ?_
 intro _
 refine au [64] ?_
 refine qc (fun (((x6,x7),(a3,c2)):((qAE×Int)×(qAF×Nat)))=>([(0,.slice a2 x1.length c3),(1,.slice a5 x4.length c6),(6,.slice a3 x6.length c2),(7,.slice none 0 0),(8,qAG x7),(9,qAG x5)],[],[Ro (eI .i64) 3 1 (.slice a3 x6.length c2) x6],[Sl (eI .i64) 1 (.slice a2 x1.length c3) x1,Sl (eI .i64) 1 (.slice a5 x4.length c6) x4],jU F (zI F x1 x4 k0) x5 x6 x7)) ?_ ?_
 refine au [14,68] ?_
 refine qc (fun ((x8,_):(Bool×Unit))=>([(0,.slice a2 x1.length c3),(1,.slice a5 x4.length c6),(6,.slice a1 x2.length c1),(7,.slice none 0 0),(8,qAG x3),(9,qAG x5),(10,.bool x8)],[],[Ro (eI .i64) 3 1 (.slice a1 x2.length c1) x2],[Sl (eI .i64) 1 (.slice a2 x1.length c3) x1,Sl (eI .i64) 1 (.slice a5 x4.length c6) x4],vh F (zI F x1 x4 k0) x1 x4 x2 x3 x5 x8)) ?_ ?_
 refine av [60,77] ?_ ?_
 intro _
 refine au [99,103,26,2] ?_
 intro x9 e0 b0 o0
 refine au [24,14,29,12] ?_
 intro x10 e1 _
 refine au [5,0] ?_
 exact qa (x10,())
 intro _
 refine au [10] ?_
 exact qa (true,())
 rintro ⟨x8,_⟩
 try dsimp only
 refine au [69,1,26,2] ?_
 intro x11 e2 b1 o1
 refine au [24,14,29,12] ?_
 intro x12 e3 _
 refine av [1,33,7,63] ?_ ?_
 intro _
 refine au [69,103] ?_
 refine qt (vs:=[qAG (isub .i64 x5 x3)]) (ys:=([isub .i64 x5 x3]:qAE)) (ql .i64) (by decide) rfl Tryz.underlying59 tf3 rfl rfl rfl rfl rfl (by decide) (fun a4 c4=>qB 1 (ql .i64) rfl Tryz.underlying59 tf3 rfl rfl rfl rfl rfl (.inl ⟨0,_,rfl⟩) rfl rfl (fun x13 e4 a6 c5=>?_))
 refine au [58,88,172] ?_
 exact qa ((x13,x5),(a6,c5))
 intro _
 refine au [157] ?_
 exact qa ((x2,x3),(a1,c1))
 rintro ⟨⟨x6,x7⟩,⟨a3,c2⟩⟩
 try dsimp only
 refine au [89,0] ?_
 exact qh ((x6,x7,iadd .i64 x5 1),(a3,c2))
 intro _
 refine au [73] ?_
 exact qa (x2,(a1,c1))
 rintro ⟨x0,⟨a0,c0⟩⟩
 try dsimp only
 refine qc (fun ((x14,(a7,c7)):(qAE×(qAF×Nat)))=>([(6,.slice a0 x0.length c0),(7,.slice a7 x14.length c7)],[],[Ro (eI .i64) 3 1 (.slice a0 x0.length c0) x0,Ro (eI .i64) 3 1 (.slice a7 x14.length c7) x14],[],qcE F x0 x14)) ?_ ?_
 refine au [68,108] ?_
 refine qi (fun (((x15,x16),(a8,c8)):((qAE×Int)×(qAF×Nat)))=>([(0,.slice a2 x1.length c3),(1,.slice a5 x4.length c6),(6,.slice a0 x0.length c0),(7,.slice a8 x15.length c8),(11,qAG x16)],[],[Ro (eI .i64) 3 1 (.slice a0 x0.length c0) x0,Ro (eI .i64) 3 1 (.slice a8 x15.length c8) x15],[Sl (eI .i64) 1 (.slice a2 x1.length c3) x1,Sl (eI .i64) 1 (.slice a5 x4.length c6) x4])) (fun k (s:((qAE×Int)×(qAF×Nat)))=>ky F x1 x4 x0 k s.1) ((([]:qAE),0),(none,0)) F ?_
 intro k1
 rintro ⟨⟨x15,x16⟩,⟨a8,c8⟩⟩
 try dsimp only
 refine qm (m':=jR F x1 x4 x0 (ky F x1 x4 x0 k1) x15 x16) rfl ?_
 refine av [3,130] ?_ ?_
 intro _
 refine au [64] ?_
 refine qc (fun ((x17,(a9,c9)):(qAE×(qAF×Nat)))=>([(0,.slice a2 x1.length c3),(1,.slice a5 x4.length c6),(6,.slice a0 x0.length c0),(7,.slice a9 x17.length c9),(11,qAG x16)],[],[Ro (eI .i64) 3 1 (.slice a0 x0.length c0) x0,Ro (eI .i64) 3 1 (.slice a9 x17.length c9) x17],[Sl (eI .i64) 1 (.slice a2 x1.length c3) x1,Sl (eI .i64) 1 (.slice a5 x4.length c6) x4],jT F (ky F x1 x4 x0 k1) x16 x17)) ?_ ?_
 refine au [14,69,1,27,8] ?_
 intro x18 e5 b2 o2
 refine au [24,14,29,12] ?_
 intro x19 e6 _
 refine av [101] ?_ ?_
 intro _
 refine au [99,1,36,2] ?_
 intro x20 e7 b3 o3
 refine au [24,14] ?_
 refine qt (vs:=[qAG x20]) (ys:=([x20]:qAE)) (ql .i64) (by decide) rfl Tryz.underlying59 tf3 rfl rfl rfl rfl rfl (by decide) (fun a10 c10=>qB 2 (ql .i64) rfl Tryz.underlying59 tf3 rfl rfl rfl rfl rfl (.inl ⟨0,_,rfl⟩) rfl rfl (fun x21 e8 a11 c11=>?_))
 refine au [172] ?_
 exact qa (x21,(a11,c11))
 intro _
 refine au [157] ?_
 exact qa (x15,(a8,c8))
 rintro ⟨x17,⟨a9,c9⟩⟩
 try dsimp only
 refine au [89,0] ?_
 exact qh ((x17,iadd .i64 x16 1),(a9,c9))
 intro _
 refine au [73] ?_
 exact qa (x15,(a8,c8))
 rintro ⟨x14,⟨a7,c7⟩⟩
 try dsimp only
 refine au [69,5,61] ?_
 exact qj ((a0,c0),(a7,c7))
set_option maxHeartbeats 4000000 in
theorem qlo {F:Nat}{x1:qAE}{a2:qAF}{c3:Nat}{x4:Int}{r:(List (Int×Int)×qAE)}(hm:qex F x1 x4=some r) :
    Pure Tryz.prog 69 [.slice a2 x1.length c3,qAG x4] [Sl (eI .i64) 1 (.slice a2 x1.length c3) x1] ((qAF×Nat)×(qAF×Nat)) (fun g=>.tuple #[.slice g.1.1 r.1.length g.1.2,.slice g.2.1 r.2.length g.2.2]) (fun g=>[Ro eS129 129 2 (.slice g.1.1 r.1.length g.1.2) r.1,Ro (eI .i64) 3 1 (.slice g.2.1 r.2.length g.2.2) r.2]) (fun _=>[]):=by
 refine qk Tryz.func69 rfl Tryz.ntmps69 rfl hm (fun w=>?_)
 refine au [25,0,59,79,68,68] ?_
 refine qc (fun (((x0,x2),(a0,c0,a1,c1)):((List (Int×Int)×qAE)×(qAF×Nat×qAF×Nat)))=>([(6,.slice a0 x0.length c0),(7,.slice a1 x2.length c1)],[],[Ro eS129 129 2 (.slice a0 x0.length c0) x0,Ro (eI .i64) 3 1 (.slice a1 x2.length c1) x2],[],qdE F x0 x2)) ?_ ?_
 refine au [168,33,9,26,0] ?_
 refine qi (fun (((x3,x5,x6),(a3,c2,a4,c4)):((List (Int×Int)×qAE×Int)×(qAF×Nat×qAF×Nat)))=>([(0,.slice a2 x1.length c3),(1,qAG x4),(6,.slice a3 x3.length c2),(7,.slice a4 x5.length c4),(8,qAG x6)],[],[Ro eS129 129 2 (.slice a3 x3.length c2) x3,Ro (eI .i64) 3 1 (.slice a4 x5.length c4) x5],[Sl (eI .i64) 1 (.slice a2 x1.length c3) x1])) (fun k (s:((List (Int×Int)×qAE×Int)×(qAF×Nat×qAF×Nat)))=>qE F x1 x4 k s.1) ((([]:List (Int×Int)),([]:qAE),0),(none,0,none,0)) F ?_
 intro k0
 rintro ⟨⟨x3,x5,x6⟩,⟨a3,c2,a4,c4⟩⟩
 try dsimp only
 refine qm (m':=yL F x1 x4 (qE F x1 x4 k0) x3 x5 x6) rfl ?_
 refine av [3,130] ?_ ?_
 intro _
 refine au [64] ?_
 refine qc (fun (((x7,x8),(a5,c5,a6,c6)):((List (Int×Int)×qAE)×(qAF×Nat×qAF×Nat)))=>([(0,.slice a2 x1.length c3),(1,qAG x4),(6,.slice a5 x7.length c5),(7,.slice a6 x8.length c6),(8,qAG x6)],[],[Ro eS129 129 2 (.slice a5 x7.length c5) x7,Ro (eI .i64) 3 1 (.slice a6 x8.length c6) x8],[Sl (eI .i64) 1 (.slice a2 x1.length c3) x1],jp F (qE F x1 x4 k0) x6 x7 x8)) ?_ ?_
 refine au [14,3,29,8] ?_
 intro x9 e0 b0 o0 h0
 replace h0:a2=some ⟨b0,o0,none⟩:=h0
 refine au [28,15] ?_
 intro x10 e1 b1 o1 h1
 replace h1:a2=some ⟨b1,o1,none⟩:=h1
 refine qu mixed [] [] [qz b1 (o1+x6.toNat*1) ((eI .i64) x10),qz b0 (o0+x6.toNat*1) ((eI .i64) x9),Sl (eI .i64) 1 (.slice a2 x1.length c3) x1] .nil (qx 0 rfl (qx 1 rfl (qx 2 rfl qr))) 10 rfl ?_
 refine au [81] ?_
 refine qf (d:=17) (v:=.slice (some ⟨b0,o0,none⟩) x1.length c3) rfl (by rw[h0] <;> rfl) (qn 2 (.pointer (some ⟨b0,(o0+x6.toNat*1),none⟩)) rfl rfl rfl (yJ Tryz.underlying59 tf3 rfl rfl (qF e0).1 (zX e0)) (qf (d:=17) (v:=.slice a2 x1.length c3) rfl (by rw[h0] <;> rfl) (qI 3 (qAG x9) [] rfl rfl rfl (zi (j:=1) rfl tf3 rfl rfl (fun _=>rfl) rfl) ?_)))
 refine au [118] ?_
 refine qf (d:=21) (v:=.slice (some ⟨b1,o1,none⟩) x1.length c3) rfl (by rw[h1] <;> rfl) (qn 6 (.pointer (some ⟨b1,(o1+x6.toNat*1),none⟩)) rfl rfl rfl (yJ Tryz.underlying59 tf3 rfl rfl (qF e1).1 (zX e1)) (qf (d:=21) (v:=.slice a2 x1.length c3) rfl (by rw[h1] <;> rfl) (qI 7 (qAG x10) [] rfl rfl rfl (zi (j:=0) rfl tf3 rfl rfl (fun _=>rfl) rfl) ?_)))
 refine au [171,24,3] ?_
 refine qy ?_ (by intro c h;cases h)
 refine au [2] ?_
 refine qc (fun ((x11,_):(Int×Unit))=>([(0,.slice a2 x1.length c3),(1,qAG x4),(6,.slice a3 x3.length c2),(7,.slice a4 x5.length c4),(8,qAG x6),(9,qAG x11),(10,qAG x10)],[],[Ro eS129 129 2 (.slice a3 x3.length c2) x3,Ro (eI .i64) 3 1 (.slice a4 x5.length c4) x5],[Sl (eI .i64) 1 (.slice a2 x1.length c3) x1],qbn F (qE F x1 x4 k0) x1 x4 x3 x5 x6 x10 x11)) ?_ ?_
 refine au [14] ?_
 refine qi (fun ((x12,_):(Int×Unit))=>([(0,.slice a2 x1.length c3),(1,qAG x4),(6,.slice a3 x3.length c2),(7,.slice a4 x5.length c4),(8,qAG x6),(9,qAG x12),(10,qAG x10)],[],[Ro eS129 129 2 (.slice a3 x3.length c2) x3,Ro (eI .i64) 3 1 (.slice a4 x5.length c4) x5],[Sl (eI .i64) 1 (.slice a2 x1.length c3) x1])) (fun k (s:(Int×Unit))=>kW F (qE F x1 x4 k0) x1 x4 x3 x5 x6 x10 k s.1) (x9,()) F ?_
 intro k1
 rintro ⟨x12,_⟩
 try dsimp only
 refine qm (m':=yN F (qE F x1 x4 k0) x1 x4 x3 x5 x6 x10 (kW F (qE F x1 x4 k0) x1 x4 x3 x5 x6 x10 k1) x12) rfl ?_
 refine au [3,69,24,13,29,12] ?_
 intro x13 e2 _
 refine av [63] ?_ ?_
 intro _
 refine au [64,14,88,24,13,172] ?_
 exact qh (isub .i64 x12 1,())
 intro _
 refine au [73] ?_
 exact qa (x12,())
 rintro ⟨x11,_⟩
 try dsimp only
 refine qc (fun ((x14,_):(Int×Unit))=>([(0,.slice a2 x1.length c3),(1,qAG x4),(6,.slice a3 x3.length c2),(7,.slice a4 x5.length c4),(8,qAG x6),(9,qAG x11),(10,qAG x14)],[],[Ro eS129 129 2 (.slice a3 x3.length c2) x3,Ro (eI .i64) 3 1 (.slice a4 x5.length c4) x5],[Sl (eI .i64) 1 (.slice a2 x1.length c3) x1],qbo F (qE F x1 x4 k0) x1 x4 x3 x5 x6 x11 x14)) ?_ ?_
 refine au [14] ?_
 refine qi (fun ((x15,_):(Int×Unit))=>([(0,.slice a2 x1.length c3),(1,qAG x4),(6,.slice a3 x3.length c2),(7,.slice a4 x5.length c4),(8,qAG x6),(9,qAG x11),(10,qAG x15)],[],[Ro eS129 129 2 (.slice a3 x3.length c2) x3,Ro (eI .i64) 3 1 (.slice a4 x5.length c4) x5],[Sl (eI .i64) 1 (.slice a2 x1.length c3) x1])) (fun k (s:(Int×Unit))=>kV F (qE F x1 x4 k0) x1 x4 x3 x5 x6 x11 k s.1) (x10,()) F ?_
 intro k2
 rintro ⟨x15,_⟩
 try dsimp only
 refine qm (m':=yM F (qE F x1 x4 k0) x1 x4 x3 x5 x6 x11 (kV F (qE F x1 x4 k0) x1 x4 x3 x5 x6 x11 k2) x15) rfl ?_
 refine au [3,69,16,29,12] ?_
 intro x16 e3 _
 refine av [63] ?_ ?_
 intro _
 refine au [64,14,89,87] ?_
 exact qh (iadd .i64 x15 1,())
 intro _
 refine au [73] ?_
 exact qa (x15,())
 rintro ⟨x14,_⟩
 try dsimp only
 refine av [69,24,13,16,1,83] ?_ ?_
 intro _
 refine au [99,1,26,2] ?_
 intro x17 e4 b2 o2
 refine au [24,14] ?_
 refine qt (vs:=[qAG x17]) (ys:=([x17]:qAE)) (ql .i64) (by decide) rfl Tryz.underlying59 tf3 rfl rfl rfl rfl rfl (by decide) (fun a7 c7=>qB 2 (ql .i64) rfl Tryz.underlying59 tf3 rfl rfl rfl rfl rfl (.inl ⟨0,_,rfl⟩) rfl rfl (fun x18 e5 a8 c8=>?_))
 refine au [172] ?_
 exact qa ((x3,x18),(a3,c2,a8,c8))
 intro _
 refine au [69,1,26,2] ?_
 intro x19 e6 b3 o3
 refine av [24,14,82] ?_ ?_
 intro _
 refine au [99,1,103,16] ?_
 refine qq (cells:=[qAG x11,qAG (iadd .i64 (isub .i64 x14 x11) 1)]) rfl st129 rfl (by kernel_rfl) rfl (qt (vs:=[.agg #[qAG x11,qAG (iadd .i64 (isub .i64 x14 x11) 1)]]) (ys:=([(x11,iadd .i64 (isub .i64 x14 x11) 1)]:List (Int×Int))) kJ (by decide) rfl Tryz.underlying125 tf129 rfl rfl rfl rfl rfl (by decide) (fun a9 c9=>qB 1 kJ rfl Tryz.underlying125 tf129 rfl rfl rfl rfl rfl (.inl ⟨0,_,rfl⟩) rfl rfl (fun x20 e7 a10 c10=>?_)))
 refine au [172] ?_
 exact qa ((x20,x5),(a10,c10,a4,c4))
 intro _
 refine au [157] ?_
 exact qa ((x3,x5),(a3,c2,a4,c4))
 rintro ⟨⟨x7,x8⟩,⟨a5,c5,a6,c6⟩⟩
 try dsimp only
 refine au [89,0] ?_
 exact qh ((x7,x8,iadd .i64 x6 1),(a5,c5,a6,c6))
 intro _
 refine au [73] ?_
 exact qa ((x3,x5),(a3,c2,a4,c4))
 rintro ⟨⟨x0,x2⟩,⟨a0,c0,a1,c1⟩⟩
 try dsimp only
 refine au [69,5,61] ?_
 exact qj ((a0,c0),(a1,c1))
set_option maxHeartbeats 4000000 in
theorem qm7 {F:Nat}{x1:Int}{x2:Int}{r:(Int×Int×Int)}(hm:qgG F x1 x2=some r) :
    Pure Tryz.prog 97 [.int .u64 x1,qAG x2] [] Unit (fun _=>.tuple #[.int .u64 r.1,.int .u64 r.2.1,.int .u64 r.2.2]) (fun _=>[]) (fun _=>[]):=by
 refine qk Tryz.func97 rfl Tryz.ntmps97 rfl hm (fun w=>?_)
 refine au [25,0,94,79,59,79] ?_
 refine qc (fun (((x21,x22),_):((Int×Int)×Unit))=>([(1,qAG x2),(7,.int .u64 x21),(8,.int .u64 x22)],[],[],[],qeZ F x2 x21 x22)) ?_ ?_
 refine au [14] ?_
 refine qfm (fun (((x34,x35),_):((Int×Int)×Unit))=>[(0,.int .u64 x1),(1,qAG x2),(7,.int .u64 x34),(8,.int .u64 x35)]) (fun (((x34,x35),_):((Int×Int)×Unit))=>[]) (fun (((x34,x35),_):((Int×Int)×Unit))=>[]) (fun (((x34,x35),_):((Int×Int)×Unit))=>[]) (fun k (s:((Int×Int)×Unit))=>je F x1 x2 k s.1) ((0,1),()) F ?_
 intro k41
 rintro ⟨⟨x34,x35⟩,_⟩
 try dsimp only
 refine qm (m':=qc6 F x1 x2 (je F x1 x2 k41) x34 x35) rfl ?_
 refine au [75,16,1,1,26,6] ?_
 intro h44
 refine qcB rfl rfl rfl rfl h44 ?_
 refine av [26,3,63] ?_ ?_
 intro _
 refine au [64,14,69,26,6] ?_
 intro h45
 refine qcB rfl rfl rfl rfl h45 ?_
 refine au [58,89,87] ?_
 exact qh ((iadd .u64 x34 1,ishl .u64 x35 x2),())
 intro _
 refine au [73] ?_
 exact qa ((x34,x35),())
 rintro ⟨⟨x21,x22⟩,_⟩
 try dsimp only
 refine au [3,28,5] ?_
 intro h26
 refine qu mixed [] [] [] .nil qr 8 rfl ?_
 refine au [113,6,3] ?_
 refine qn 4 (.int .u64 (ishl .u64 x22 x2)) rfl rfl rfl (qit rfl rfl h26) ?_
 refine au [6,5,150,24,3] ?_
 refine qy ?_ (by intro c h;cases h)
 exact az [2,12,19]
theorem qls {F:Nat}{x1:Int}{r:qAE}(hm:qey F x1=some r) :
    Pure Tryz.prog 98 [.int .u64 x1] [] (qAF×Nat) (fun g=>.slice g.1 r.length g.2) (fun g=>[Ro (eI .i64) 3 1 (.slice g.1 r.length g.2) r]) (fun _=>[]):=by
 refine qk Tryz.func98 rfl Tryz.ntmps98 rfl hm (fun w=>?_)
 refine au [126,68] ?_
 refine qc (fun ((x45,(a43,c44)):(qAE×(qAF×Nat)))=>([(3,.slice a43 x45.length c44)],[],[Ro (eI .i64) 3 1 (.slice a43 x45.length c44) x45],[],qea F x45)) ?_ ?_
 refine au [68,108] ?_
 refine qi (fun (((x65,x66),(a63,c64)):((qAE×Int)×(qAF×Nat)))=>([(0,.int .u64 x1),(3,.slice a63 x65.length c64),(4,.int .u64 x66)],[],[Ro (eI .i64) 3 1 (.slice a63 x65.length c64) x65],[])) (fun k (s:((qAE×Int)×(qAF×Nat)))=>vC F x1 k s.1) ((([]:qAE),0),(none,0)) F ?_
 intro k79
 rintro ⟨⟨x65,x66⟩,⟨a63,c64⟩⟩
 try dsimp only
 refine qm (m':=qcu F x1 (vC F x1 k79) x65 x66) rfl ?_
 refine av [3,69,83] ?_ ?_
 intro _
 refine au [91,88] ?_
 refine qt (vs:=[qAG 0]) (ys:=([0]:qAE)) (ql .i64) (by decide) rfl Tryz.underlying59 tf3 rfl rfl rfl rfl rfl (by decide) (fun a86 c87=>qB 1 (ql .i64) rfl Tryz.underlying59 tf3 rfl rfl rfl rfl rfl (.inl ⟨0,_,rfl⟩) rfl rfl (fun x88 e88 a89 c90=>?_))
 refine au [173,89,0] ?_
 exact qh ((x88,iadd .u64 x66 1),(a89,c90))
 intro _
 refine au [73] ?_
 exact qa (x65,(a63,c64))
 rintro ⟨x45,⟨a43,c44⟩⟩
 try dsimp only
 refine au [60] ?_
 refine qt (vs:=[qAG 1]) (ys:=([1]:qAE)) (ql .i64) (by decide) rfl Tryz.underlying59 tf3 rfl rfl rfl rfl rfl (by decide) (fun a46 c47=>qB 1 (ql .i64) rfl Tryz.underlying59 tf3 rfl rfl rfl rfl rfl (.inl ⟨0,_,rfl⟩) rfl rfl (fun x48 e48 a49 c50=>?_))
 refine au [61] ?_
 exact qj (a49,c50)
set_option maxHeartbeats 4000000 in
theorem qom {F:Nat}{x1:Int}{x2:Int}{r:qAE}(hm:qeP F x1 x2=some r) :
    Pure Tryz.prog 112 [.int .u64 x1,qAG x2] [] (qAF×Nat) (fun g=>.slice g.1 r.length g.2) (fun g=>[Ro (eI .i64) 3 1 (.slice g.1 r.length g.2) r]) (fun _=>[]):=by
 refine qk Tryz.func112 rfl Tryz.ntmps112 rfl hm (fun w=>?_)
 refine au [102,60,34,8] ?_
 intro x3 e3 a4 c5
 refine au [58] ?_
 refine qc (fun ((x52,_):(qAE×Unit))=>([(5,.slice a4 x52.length c5)],[],[Ro (eI .i64) 3 1 (.slice a4 x52.length c5) x52],[],qfp F x52)) ?_ ?_
 refine au [60,24,13,58,14] ?_
 refine qi (fun (((x67,x68,x69),_):((Int×qAE×Int)×Unit))=>([(0,.int .u64 x67),(5,.slice a4 x68.length c5),(6,qAG x69)],[],[Ro (eI .i64) 3 1 (.slice a4 x68.length c5) x68],[])) (fun k (s:((Int×qAE×Int)×Unit))=>vJ F k s.1) ((x1,x3,isub .i64 x2 1),()) F ?_
 intro k84
 rintro ⟨⟨x67,x68,x69⟩,_⟩
 try dsimp only
 refine qm (m':=j6 F (vJ F k84) x67 x68 x69) rfl ?_
 refine av [75,26,3,63] ?_ ?_
 intro _
 refine au [91,69,1,27,11,24,11,27,9] ?_
 intro x92 e92 g93 h94
 refine qgW (j:=0) (y':=iconv .i64 (irem x67 2)) (ql .i64) rfl rfl rfl tf3 rfl h94 (qF e92).2.1 rfl (fun x95 e95 h96=>?_)
 have h97:x95.length=x68.length:=by rw[← e95,List.length_set]
 refine qd (d:=5) (v:=.slice a4 x95.length c5) rfl h96 (qd (d:=15) (v:=.slice a4 x95.length c5) rfl h96 ?_)
 refine au [57,88,27,12,173,88,24,13,5,0] ?_
 exact qh ((iquo .u64 x67 2,x95,isub .i64 x69 1),())
 intro _
 refine au [73] ?_
 exact qa (x68,())
 rintro ⟨x52,_⟩
 try dsimp only
 refine au [60,61] ?_
 exact qj (a4,c5)
set_option maxHeartbeats 4000000 in
theorem qlj {F:Nat}{x1:Int}{x2:Int}{r:qAE}(hm:qet F x1 x2=some r) :
    Pure Tryz.prog 99 [.int .u64 x1,.int .u64 x2] [] (qAF×Nat) (fun g=>.slice g.1 r.length g.2) (fun g=>[Ro (eI .i64) 3 1 (.slice g.1 r.length g.2) r]) (fun _=>[]):=by
 refine qk Tryz.func99 rfl Tryz.ntmps99 rfl hm (fun w=>?_)
 refine au [102,68] ?_
 refine qc (fun ((x15,_):(Int×Unit))=>([(0,.int .u64 x1),(1,.int .u64 x2),(5,qAG x15)],[],[],[],qd6 F x1 x2 x15)) ?_ ?_
 refine au [14] ?_
 refine qfm (fun ((x30,_):(Int×Unit))=>[(0,.int .u64 x1),(1,.int .u64 x2),(5,qAG x30)]) (fun ((x30,_):(Int×Unit))=>[]) (fun ((x30,_):(Int×Unit))=>[]) (fun ((x30,_):(Int×Unit))=>[]) (fun k (s:(Int×Unit))=>vu F x1 x2 k s.1) (0,()) F ?_
 intro k35
 rintro ⟨x30,_⟩
 try dsimp only
 refine qm (m':=qcb F x1 x2 (vu F x1 x2 k35) x30) rfl ?_
 refine au [75,26,6] ?_
 intro h38
 refine qcB rfl rfl rfl rfl h38 ?_
 refine av [1,83] ?_ ?_
 intro _
 refine au [64,14,89,87] ?_
 exact qh (iadd .i64 x30 1,())
 intro _
 refine au [73] ?_
 exact qa (x30,())
 rintro ⟨x15,_⟩
 try dsimp only
 refine au [60,26,6] ?_
 intro h16
 refine qcB rfl rfl rfl rfl h16 ?_
 refine av [103,58,3,69,83] ?_ ?_
 intro _
 refine au [69,24,13,36,3] ?_
 rintro x21 e21 ⟨a22,c23⟩
 refine au [74] ?_
 exact qj (a22,c23)
 intro _
 refine au [64,69,16,1,36,3] ?_
 rintro x24 e24 ⟨a25,c26⟩
 refine au [61] ?_
 exact qj (a25,c26)
theorem qm4 {F:Nat}{x1:Int}{x2:Int}{r:qAE}(hm:qe7 F x1 x2=some r) :
    Pure Tryz.prog 85 [.int .u64 x1,qAG x2] [] (qAF×Nat) (fun g=>.slice g.1 r.length g.2) (fun g=>[Ro (eI .i64) 3 1 (.slice g.1 r.length g.2) r]) (fun _=>[]):=by
 refine qk Tryz.func85 rfl Tryz.ntmps85 rfl hm (fun w=>?_)
 refine au [102,69] ?_
 refine qg qm7 ?_
 intro x3 e3 _
 refine au [148,5,79,60] ?_
 refine qg qls ?_
 rintro x4 e4 ⟨a5,c6⟩
 refine au [1,16,103,1,103] ?_
 refine qg qlj ?_
 rintro x7 e7 ⟨a8,c9⟩
 refine qB 1 (ql .i64) rfl Tryz.underlying59 tf3 rfl rfl rfl rfl rfl (.inl ⟨0,_,rfl⟩) rfl rfl (fun x10 e10 a11 c12=>?_)
 refine au [61] ?_
 exact qj (a11,c12)
set_option maxHeartbeats 4000000 in
theorem qlu {F:Nat}{x1:qAE}{a2:qAF}{c3:Nat}{x4:Int}{r:qAE}(hm:qgd F x1 x4=some r) :
    Pure Tryz.prog 70 [.slice a2 x1.length c3,qAG x4] [Sl (eI .u64) 1 (.slice a2 x1.length c3) x1] (qAF×Nat) (fun g=>.slice g.1 r.length g.2) (fun g=>[Ro (eI .i64) 3 1 (.slice g.1 r.length g.2) r]) (fun _=>[]):=by
 refine qk Tryz.func70 rfl Tryz.ntmps70 rfl hm (fun w=>?_)
 refine au [102,68] ?_
 refine qc (fun ((x72,(a70,c71)):(qAE×(qAF×Nat)))=>([(5,.slice a70 x72.length c71)],[],[Ro (eI .i64) 3 1 (.slice a70 x72.length c71) x72],[],qeb F x72)) ?_ ?_
 refine au [68,108] ?_
 refine qi (fun (((x95,x96),(a93,c94)):((qAE×Int)×(qAF×Nat)))=>([(0,.slice a2 x1.length c3),(1,qAG x4),(5,.slice a93 x95.length c94),(6,qAG x96)],[],[Ro (eI .i64) 3 1 (.slice a93 x95.length c94) x95],[Sl (eI .u64) 1 (.slice a2 x1.length c3) x1])) (fun k (s:((qAE×Int)×(qAF×Nat)))=>yz F x1 x4 k s.1) ((([]:qAE),0),(none,0)) F ?_
 intro k0
 rintro ⟨⟨x95,x96⟩,⟨a93,c94⟩⟩
 try dsimp only
 refine qm (m':=qcw F x1 x4 (yz F x1 x4 k0) x95 x96) rfl ?_
 refine av [3,130] ?_ ?_
 intro _
 refine au [91,99,1,28,8] ?_
 intro x0 e0 b0 o0
 refine au [24,14,1] ?_
 refine qg qm4 ?_
 rintro x2 e1 ⟨a0,c0⟩
 refine qB 1 (ql .i64) rfl Tryz.underlying59 tf3 rfl rfl rfl rfl rfl (.inl ⟨0,_,rfl⟩) rfl rfl (fun x3 e2 a1 c1=>?_)
 refine au [173,89,0] ?_
 exact qh ((x3,iadd .i64 x96 1),(a1,c1))
 intro _
 refine au [73] ?_
 exact qa (x95,(a93,c94))
 rintro ⟨x72,⟨a70,c71⟩⟩
 try dsimp only
 refine au [60,61] ?_
 exact qj (a70,c71)
set_option maxHeartbeats 4000000 in
theorem qm2 {F:Nat}{x1:Int}{x2:qAE}{a3:qAF}{c4:Nat}{x5:qAE}{a6:qAF}{c7:Nat}{x8:Int}{x9:Int}{x10:Int}{r:qAE}(hm:qdF F x1 x2 x5 x8 x9 x10=some r) :
    Pure Tryz.prog 53 [qAG x1,.slice a3 x2.length c4,.slice a6 x5.length c7,.agg #[qAG x8,qAG x9,qAG x10]] [Sl (eI .i64) 1 (.slice a3 x2.length c4) x2,Sl (eI .i64) 1 (.slice a6 x5.length c7) x5] (qAF×Nat) (fun g=>.slice g.1 r.length g.2) (fun g=>[Ro (eI .i64) 3 1 (.slice g.1 r.length g.2) r]) (fun _=>[]):=by
 refine qk Tryz.func53 rfl Tryz.ntmps53 rfl hm (fun w=>?_)
 refine au [28,0,72] ?_
 intro g11
 refine au [58,169,24,11,28,3] ?_
 rintro x12 e12 ⟨a13,c14⟩
 refine av [58,75,18,82] ?_ ?_
 intro _
 refine au [60,74] ?_
 exact qj (a13,c14)
 intro _
 refine au [64,60,58] ?_
 refine qc (fun (((x0,x3),(a0,c0,a1,c1)):((qAE×qAE)×(qAF×Nat×qAF×Nat)))=>([(0,qAG x1),(7,.pointer (some ⟨g11,0,none⟩)),(9,.slice a0 x0.length c0),(10,.slice a1 x3.length c1)],[⟨g11,26,[qAG x8,qAG x9,qAG x10]⟩],[Ro (eI .i64) 3 1 (.slice a0 x0.length c0) x0],[Sl (eI .i64) 1 (.slice a1 x3.length c1) x3],ve F x1 x9 x10 x0 x3)) ?_ ?_
 refine av [116,77] ?_ ?_
 intro _
 refine au [68,69] ?_
 refine qg qjG ?_
 rintro x4 e0 ⟨⟨a2,c2⟩,⟨a4,c3⟩⟩
 refine au [92,79,121,24,11,28,3] ?_
 rintro x6 e1 ⟨a5,c5⟩
 refine qB 3 (ql .i64) rfl Tryz.underlying59 tf3 rfl rfl rfl rfl rfl (.inl ⟨0,_,rfl⟩) rfl rfl (fun x7 e2 a7 c6=>?_)
 refine au [58,168] ?_
 refine qi (fun (((x11,x13),(a8,c8)):((qAE×Int)×(qAF×Nat)))=>([(0,qAG x1),(7,.pointer (some ⟨g11,0,none⟩)),(9,.slice a8 x11.length c8),(10,.slice a4 x4.2.length c3),(11,.slice a2 x4.1.length c2),(12,qAG x13)],[⟨g11,26,[qAG x8,qAG x9,qAG x10]⟩],[Ro (eI .i64) 3 1 (.slice a8 x11.length c8) x11,Ro (eI .i64) 3 1 (.slice a4 x4.2.length c3) x4.2,Ro (eI .i64) 3 1 (.slice a2 x4.1.length c2) x4.1],[])) (fun k (s:((qAE×Int)×(qAF×Nat)))=>kv F x1 x9 x10 x4 k s.1) ((x7,0),(a7,c6)) F ?_
 intro k0
 rintro ⟨⟨x11,x13⟩,⟨a8,c8⟩⟩
 try dsimp only
 refine qm (m':=qcs F x1 x9 x10 x4 (kv F x1 x9 x10 x4 k0) x11 x13) rfl ?_
 refine av [3,130] ?_ ?_
 intro _
 refine au [91,69,36,4] ?_
 intro x14 e3 g0 h0
 refine qaq (j:=2) (y:=x14) (ql .i64) rfl rfl tf3 rfl h0 (qF e3).2.2 (fun _=>rfl) rfl rfl ?_
 refine au [58] ?_
 refine qc (fun ((x15,_):(Int×Unit))=>([(0,qAG x1),(7,.pointer (some ⟨g11,0,none⟩)),(9,.slice a8 x11.length c8),(10,.slice a4 x4.2.length c3),(11,.slice a2 x4.1.length c2),(12,qAG x13),(13,qAG x15)],[⟨g11,26,[qAG x8,qAG x9,qAG x10]⟩],[Ro (eI .i64) 3 1 (.slice a8 x11.length c8) x11,Ro (eI .i64) 3 1 (.slice a4 x4.2.length c3) x4.2,Ro (eI .i64) 3 1 (.slice a2 x4.1.length c2) x4.1],[],qad F (kv F x1 x9 x10 x4 k0) x11 x13 x15)) ?_ ?_
 refine av [60,77] ?_ ?_
 intro _
 refine au [88,24,13,5,0] ?_
 exact qa (isub .i64 x14 1,())
 intro _
 refine au [10] ?_
 exact qa (x14,())
 rintro ⟨x15,_⟩
 try dsimp only
 refine au [99,24,11,28,3] ?_
 rintro x16 e4 ⟨a9,c9⟩
 refine qB 1 (ql .i64) rfl Tryz.underlying59 tf3 rfl rfl rfl rfl rfl (.inl ⟨0,_,rfl⟩) rfl rfl (fun x17 e5 a10 c10=>?_)
 refine au [173,89,0] ?_
 exact qh ((x17,iadd .i64 x13 1),(a10,c10))
 intro _
 refine au [73,36,5] ?_
 exact qa ((x11,x4.2),(a8,c8,a4,c3))
 intro _
 refine au [10] ?_
 exact qa ((x12,x2),(a13,c14,a3,c4))
 rintro ⟨⟨x0,x3⟩,⟨a0,c0,a1,c1⟩⟩
 try dsimp only
 refine av [75,18,82] ?_ ?_
 intro _
 refine au [60,74] ?_
 exact qj (a0,c0)
 intro _
 refine au [64] ?_
 refine qc (fun (((x18,x19),(a11,c11,a12,c12)):((qAE×qAE)×(qAF×Nat×qAF×Nat)))=>([(0,qAG x1),(7,.pointer (some ⟨g11,0,none⟩)),(9,.slice a11 x18.length c11),(10,.slice a12 x19.length c12)],[⟨g11,26,[qAG x8,qAG x9,qAG x10]⟩],[Ro (eI .i64) 3 1 (.slice a11 x18.length c11) x18],[Sl (eI .i64) 1 (.slice a12 x19.length c12) x19],qab F x1 x10 x18 x19)) ?_ ?_
 refine av [116,77] ?_ ?_
 intro _
 refine au [68,60,62] ?_
 refine qg qlo ?_
 rintro x20 e6 ⟨⟨a14,c13⟩,⟨a15,c15⟩⟩
 refine au [92,79,121,24,11,28,3] ?_
 rintro x21 e7 ⟨a16,c16⟩
 refine qB 3 (ql .i64) rfl Tryz.underlying59 tf3 rfl rfl rfl rfl rfl (.inl ⟨0,_,rfl⟩) rfl rfl (fun x22 e8 a17 c17=>?_)
 refine au [58,168] ?_
 refine qi (fun (((x23,x24),(a18,c18)):((qAE×Int)×(qAF×Nat)))=>([(0,qAG x1),(7,.pointer (some ⟨g11,0,none⟩)),(9,.slice a18 x23.length c18),(10,.slice a15 x20.2.length c15),(14,.slice a14 x20.1.length c13),(15,qAG x24)],[⟨g11,26,[qAG x8,qAG x9,qAG x10]⟩],[Ro (eI .i64) 3 1 (.slice a18 x23.length c18) x23,Ro (eI .i64) 3 1 (.slice a15 x20.2.length c15) x20.2,Ro eS129 129 2 (.slice a14 x20.1.length c13) x20.1],[])) (fun k (s:((qAE×Int)×(qAF×Nat)))=>ku F x1 x9 x10 x20 k s.1) ((x22,0),(a17,c17)) F ?_
 intro k1
 rintro ⟨⟨x23,x24⟩,⟨a18,c18⟩⟩
 try dsimp only
 refine qm (m':=qcr F x1 x9 x10 x20 (ku F x1 x9 x10 x20 k1) x23 x24) rfl ?_
 refine av [3,130] ?_ ?_
 intro _
 refine au [91] ?_
 refine qc (fun ((x25,(a19,c19)):(qAE×(qAF×Nat)))=>([(0,qAG x1),(7,.pointer (some ⟨g11,0,none⟩)),(9,.slice a19 x25.length c19),(10,.slice a15 x20.2.length c15),(14,.slice a14 x20.1.length c13),(15,qAG x24)],[⟨g11,26,[qAG x8,qAG x9,qAG x10]⟩],[Ro (eI .i64) 3 1 (.slice a19 x25.length c19) x25,Ro (eI .i64) 3 1 (.slice a15 x20.2.length c15) x20.2,Ro eS129 129 2 (.slice a14 x20.1.length c13) x20.1],[],qac F (ku F x1 x9 x10 x20 k1) x9 x20 x24 x25)) ?_ ?_
 refine av [60,82] ?_ ?_
 intro _
 refine au [99,36,4] ?_
 intro x26 e9 g1 h1
 refine au [13] ?_
 refine qk6 (j:=2) (y:=x26) (off:=0) kJ rfl rfl tf3 rfl h1 (qF e9).2.2 rfl (fun _=>rfl) rfl rfl ?_
 refine au [103,36,0] ?_
 intro x27 e10 _
 refine au [28,3] ?_
 rintro x28 e11 ⟨a20,c20⟩
 refine qB 1 (ql .i64) rfl Tryz.underlying59 tf3 rfl rfl rfl rfl rfl (.inl ⟨0,_,rfl⟩) rfl rfl (fun x29 e13 a21 c21=>?_)
 refine au [5,0] ?_
 exact qa (x29,(a21,c21))
 intro _
 refine au [30,4] ?_
 intro x30 e14 g2 h2
 replace h2:a14=some ⟨g2,0,none⟩:=h2
 have h3:=qej (k:=x20.1.length) (c:=c13) h2
 refine au [30,4] ?_
 intro x31 e15 g3 h4
 replace h4:a14=some ⟨g3,0,none⟩:=h4
 have h5:=qej (k:=x20.1.length) (c:=c13) h4
 refine au [30,4] ?_
 intro x32 e16 g4 h6
 replace h6:a14=some ⟨g4,0,none⟩:=h6
 have h7:=qej (k:=x20.1.length) (c:=c13) h6
 refine qu mixed [] [⟨g11,26,[qAG x8,qAG x9,qAG x10]⟩] [qz g2 (x24.toNat*2) (eS129 x30),qz g3 ((isub .i64 x24 1).toNat*2) (eS129 x31),qz g4 ((isub .i64 x24 1).toNat*2) (eS129 x32)] (.cons 0 rfl .nil) (qdr 2 rfl (kQ kJ e14 h2) (qdr 2 rfl (kQ kJ e15 h4) (qdr 2 rfl (kQ kJ e16 h6) qr))) 26 rfl ?_
 refine au [113] ?_
 refine qf (d:=98) (v:=.slice (some ⟨g2,0,none⟩) x20.1.length c13) rfl (by rw[h2] <;> rfl) (qn 3 (.pointer (some ⟨g2,x24.toNat*2,none⟩)) rfl rfl rfl (qdj Tryz.underlying125 tf129 rfl rfl (qF e14).1 (zX e14)) (qf (d:=98) (v:=.slice a14 x20.1.length c13) rfl (by rw[h2] <;> rfl) ?_))
 refine au [24,2,4] ?_
 refine qI 5 (qAG x30.1) [] rfl rfl rfl (qhT (j:=0) (off:=0) rfl tf3 rfl rfl (fun _=>rfl) rfl) ?_
 refine au [150,6,8] ?_
 refine qf (d:=103) (v:=.slice (some ⟨g3,0,none⟩) x20.1.length c13) rfl (by rw[h4] <;> rfl) (qn 9 (.pointer (some ⟨g3,(isub .i64 x24 1).toNat*2,none⟩)) rfl rfl rfl (qdj Tryz.underlying125 tf129 rfl rfl (qF e15).1 (zX e15)) (qf (d:=103) (v:=.slice a14 x20.1.length c13) rfl (by rw[h4] <;> rfl) ?_))
 refine au [24,2,10] ?_
 refine qI 11 (qAG x31.1) [] rfl rfl rfl (qhT (j:=1) (off:=0) rfl tf3 rfl rfl (fun _=>rfl) rfl) ?_
 refine au [123,6,14] ?_
 refine qf (d:=109) (v:=.slice (some ⟨g4,0,none⟩) x20.1.length c13) rfl (by rw[h6] <;> rfl) (qn 15 (.pointer (some ⟨g4,(isub .i64 x24 1).toNat*2,none⟩)) rfl rfl rfl (qdj Tryz.underlying125 tf129 rfl rfl (qF e16).1 (zX e16)) (qf (d:=109) (v:=.slice a14 x20.1.length c13) rfl (by rw[h6] <;> rfl) ?_))
 refine au [24,2,16] ?_
 refine qI 17 (qAG x32.2) [] rfl rfl rfl (qhT (j:=2) (off:=1) rfl tf3 rfl rfl (fun _=>rfl) rfl) ?_
 refine au [6,18,6,19,6,20,6,21,27,7,22,21,23,28,3] ?_
 rintro x33 e17 ⟨a22,c22⟩
 refine au [0] ?_
 refine qW (.cons 0 rfl .nil) (qdr 3 rfl (kQ kJ e14 h2) (qdr 3 rfl (kQ kJ e15 h4) (qdr 3 rfl (kQ kJ e16 h6) qr))) ?_
 refine au [21,24] ?_
 refine qB 1 (ql .i64) rfl Tryz.underlying59 tf3 rfl rfl rfl rfl rfl (.inl ⟨0,_,rfl⟩) rfl rfl (fun x34 e18 a23 c23=>?_)
 refine au [0] ?_
 refine qW (.cons 0 rfl .nil) (qdr 3 rfl (kQ kJ e14 h2) (qdr 3 rfl (kQ kJ e15 h4) (qdr 3 rfl (kQ kJ e16 h6) qr))) ?_
 refine au [6,25,24,3] ?_
 exact qy (qa (x34,(a23,c23))) (by intro c h;cases h)
 rintro ⟨x25,⟨a19,c19⟩⟩
 try dsimp only
 refine au [30,4] ?_
 intro x35 e19 g5 h8
 replace h8:a14=some ⟨g5,0,none⟩:=h8
 have h9:=qej (k:=x20.1.length) (c:=c13) h8
 refine qu mixed [] [⟨g11,26,[qAG x8,qAG x9,qAG x10]⟩] [qz g5 (x24.toNat*2) (eS129 x35)] (.cons 0 rfl .nil) (qdr 2 rfl (kQ kJ e19 h8) qr) 13 rfl ?_
 refine au [113] ?_
 refine qf (d:=123) (v:=.slice (some ⟨g5,0,none⟩) x20.1.length c13) rfl (by rw[h8] <;> rfl) (qn 3 (.pointer (some ⟨g5,x24.toNat*2,none⟩)) rfl rfl rfl (qdj Tryz.underlying125 tf129 rfl rfl (qF e19).1 (zX e19)) (qf (d:=123) (v:=.slice a14 x20.1.length c13) rfl (by rw[h8] <;> rfl) ?_))
 refine au [24,2,4] ?_
 refine qI 5 (qAG x35.2) [] rfl rfl rfl (qhT (j:=0) (off:=1) rfl tf3 rfl rfl (fun _=>rfl) rfl) ?_
 refine au [24,2,6,25,8,7,6,8,27,7,9,21,10,28,3] ?_
 rintro x36 e20 ⟨a24,c24⟩
 refine au [0] ?_
 refine qW (.cons 0 rfl .nil) (qdr 3 rfl (kQ kJ e19 h8) qr) ?_
 refine au [21,11] ?_
 refine qB 1 (ql .i64) rfl Tryz.underlying59 tf3 rfl rfl rfl rfl rfl (.inl ⟨0,_,rfl⟩) rfl rfl (fun x37 e21 a25 c25=>?_)
 refine au [0] ?_
 refine qW (.cons 0 rfl .nil) (qdr 3 rfl (kQ kJ e19 h8) qr) ?_
 refine au [6,12,24,3] ?_
 refine qy ?_ (by intro c h;cases h)
 refine au [22,2,89,0] ?_
 exact qh ((x37,iadd .i64 x24 1),(a25,c25))
 intro _
 refine au [73,36,5] ?_
 exact qa ((x23,x20.2),(a18,c18,a15,c15))
 intro _
 refine au [10] ?_
 exact qa ((x0,x3),(a0,c0,a1,c1))
 rintro ⟨⟨x18,x19⟩,⟨a11,c11,a12,c12⟩⟩
 try dsimp only
 refine au [3] ?_
 refine qu mixed [] [⟨g11,26,[qAG x8,qAG x9,qAG x10]⟩] [Sl (eI .i64) 1 (.slice a12 x19.length c12) x19] (.cons 0 rfl .nil) (qx 0 rfl qr) 9 rfl ?_
 refine au [113,24,2,4,25,8,5,21,3,36,6] ?_
 rintro x38 e22 ⟨a26,c26⟩
 refine au [0,26,7,21,6] ?_
 refine qg qlu ?_
 rintro x39 e23 ⟨a27,c27⟩
 refine au [0,26,7,21,7] ?_
 refine qB 2 (ql .i64) rfl Tryz.underlying59 tf3 rfl rfl rfl rfl rfl (.inl ⟨0,_,rfl⟩) rfl rfl (fun x40 e24 a28 c28=>?_)
 refine au [0,26,7,6,8,24,3] ?_
 refine qy ?_ (by intro c h;cases h)
 refine au [2,12] ?_
 exact qj (a28,c28)
set_option maxHeartbeats 4000000 in
theorem qmZ {F:Nat}{x1:List (qAE)}{a2:qAF}{c3:Nat}{s3:List (qAF×Nat)}{x4:Int}{x5:Int}{x6:Int}{x7:Int}{r:(Int×qAE)}(hm:qgD F x1 x4 x5 x6 x7=some r) :
    Pure Tryz.prog 40 [.agg #[.slice a2 x1.length c3],qAG x4,.agg #[qAG x5,qAG x6,qAG x7]] [SlN eN59 iN59 1 (.slice a2 x1.length c3) x1 s3] (qAF×Nat) (fun g=>.tuple #[qAG r.1,.slice g.1 r.2.length g.2]) (fun g=>[Ro (eI .i64) 3 1 (.slice g.1 r.2.length g.2) r.2]) (fun _=>[]):=by
 refine qk Tryz.func40 rfl Tryz.ntmps40 rfl hm (fun w=>?_)
 refine au [120] ?_
 intro g8
 refine au [24,9] ?_
 intro g9
 refine au [79,68,68] ?_
 refine qc (fun (((x0,x2),(a0,c0)):((Int×qAE)×(qAF×Nat)))=>([(8,qAG x0),(9,.slice a0 x2.length c0)],[],[Ro (eI .i64) 3 1 (.slice a0 x2.length c0) x2],[],qd8 F x0 x2)) ?_ ?_
 refine au [68,108] ?_
 refine qi (fun (((x3,x8,x9),(a1,c1)):((Int×qAE×Int)×(qAF×Nat)))=>([(1,qAG x4),(3,.pointer (some ⟨g8,0,none⟩)),(5,.pointer (some ⟨g9,0,none⟩)),(8,qAG x3),(9,.slice a1 x8.length c1),(10,qAG x9)],[⟨g9,26,[qAG x5,qAG x6,qAG x7]⟩,⟨g8,24,[.slice a2 x1.length c3]⟩],[Ro (eI .i64) 3 1 (.slice a1 x8.length c1) x8],[SlN eN59 iN59 1 (.slice a2 x1.length c3) x1 s3])) (fun k (s:((Int×qAE×Int)×(qAF×Nat)))=>zL F x1 x4 x5 x6 x7 k s.1) ((-1,([]:qAE),0),(none,0)) F ?_
 intro k0
 rintro ⟨⟨x3,x8,x9⟩,⟨a1,c1⟩⟩
 try dsimp only
 refine qm (m':=qci F x1 x4 x5 x6 x7 (zL F x1 x4 x5 x6 x7 k0) x3 x8 x9) rfl ?_
 refine au [75,62,27,6,1] ?_
 refine qC 4 (decide (x9≤x5)) [(1,qAG x4),(3,.pointer (some ⟨g8,0,none⟩)),(5,.pointer (some ⟨g9,0,none⟩)),(8,qAG x3),(9,.slice a1 x8.length c1),(10,qAG x9),(21,.bool ((decide (x9≤x5)) && (decide (x9≤x4))))] (fun h0=>?_) (fun h0=>?_) ?_
 refine qb (os:=_) rfl (qp (k:=17) rfl h0 ?_)
 refine au [1,1,27,6,24,7] ?_
 refine qd (d:=21) (v:=.bool ((decide (x9≤x5)) && (decide (x9≤x4)))) rfl (by rw[h0];simp only[Bool.true_and]) ?_
 exact az [67]
 refine qb (os:=_) rfl (qo (k:=17) rfl h0 ?_)
 refine au [71,7,24,8] ?_
 refine qd (d:=21) (v:=.bool ((decide (x9≤x5)) && (decide (x9≤x4)))) rfl (by rw[h0];simp only[qyj]) ?_
 exact az [67]
 refine qb (os:=_) rfl ?_
 refine av [63] ?_ ?_
 intro _
 refine au [64] ?_
 refine qc (fun (((x10,x11),(a3,c2)):((Int×qAE)×(qAF×Nat)))=>([(1,qAG x4),(3,.pointer (some ⟨g8,0,none⟩)),(5,.pointer (some ⟨g9,0,none⟩)),(8,qAG x10),(9,.slice a3 x11.length c2),(10,qAG x9)],[⟨g9,26,[qAG x5,qAG x6,qAG x7]⟩,⟨g8,24,[.slice a2 x1.length c3]⟩],[Ro (eI .i64) 3 1 (.slice a3 x11.length c2) x11],[SlN eN59 iN59 1 (.slice a2 x1.length c3) x1 s3],qcj F (zL F x1 x4 x5 x6 x7 k0) x9 x10 x11)) ?_ ?_
 refine au [14,68] ?_
 refine qc (fun ((x12,(a4,c4)):(qAE×(qAF×Nat)))=>([(1,qAG x4),(3,.pointer (some ⟨g8,0,none⟩)),(5,.pointer (some ⟨g9,0,none⟩)),(8,qAG x3),(9,.slice a1 x8.length c1),(10,qAG x9),(11,.slice a4 x12.length c4)],[⟨g9,26,[qAG x5,qAG x6,qAG x7]⟩,⟨g8,24,[.slice a2 x1.length c3]⟩],[Ro (eI .i64) 3 1 (.slice a1 x8.length c1) x8,Ro (eI .i64) 3 1 (.slice a4 x12.length c4) x12],[SlN eN59 iN59 1 (.slice a2 x1.length c3) x1 s3],j7 F (zL F x1 x4 x5 x6 x7 k0) x1 x4 x6 x7 x3 x8 x9 x12)) ?_ ?_
 refine av [116,77] ?_ ?_
 intro _
 refine au [88,24,11,28,3] ?_
 rintro x13 e0 ⟨a5,c5⟩
 refine au [5,0] ?_
 exact qa (x13,(a5,c5))
 intro _
 refine au [10,25,2] ?_
 exact qa (([]:qAE),(none,0))
 rintro ⟨x12,⟨a4,c4⟩⟩
 try dsimp only
 refine au [68] ?_
 refine qc (fun ((x14,(a6,c6)):(qAE×(qAF×Nat)))=>([(1,qAG x4),(3,.pointer (some ⟨g8,0,none⟩)),(5,.pointer (some ⟨g9,0,none⟩)),(8,qAG x3),(9,.slice a1 x8.length c1),(10,qAG x9),(11,.slice a4 x12.length c4),(12,.slice a6 x14.length c6)],[⟨g9,26,[qAG x5,qAG x6,qAG x7]⟩,⟨g8,24,[.slice a2 x1.length c3]⟩],[Ro (eI .i64) 3 1 (.slice a1 x8.length c1) x8,Ro (eI .i64) 3 1 (.slice a4 x12.length c4) x12],[Sl (eI .i64) 1 (.slice a6 x14.length c6) x14,SlN eN59 iN59 1 (.slice a2 x1.length c3) x1 s3],j8 F (zL F x1 x4 x5 x6 x7 k0) x1 x4 x6 x7 x3 x8 x9 x12 x14)) ?_ ?_
 refine av [60,77] ?_ ?_
 intro _
 refine au [4,93,1,103,27,5] ?_
 intro x15 e1 g0 b0 o0
 refine au [24,14,5,0] ?_
 exact qa (x15,(g0.1,g0.2))
 intro _
 refine au [10,25,2,33,14] ?_
 exact qa (([]:qAE),(none,0))
 rintro ⟨x14,⟨a6,c6⟩⟩
 try dsimp only
 refine au [3] ?_
 refine qho (j:=1) kL (by decide) rfl ?_
 intro x16 e2 g1 b1 o1 h1
 replace h1:a2=some ⟨b1,o1,none⟩:=h1
 refine qu mixed [] [⟨g9,26,[qAG x5,qAG x6,qAG x7]⟩,⟨g8,24,[.slice a2 x1.length c3]⟩] [qz b1 (o1+x4.toNat*1) (eN59 (x16,g1)),Sl (eI .i64) 1 (.slice g1.1 x16.length g1.2) x16,Sl (eI .i64) 1 (.slice a6 x14.length c6) x14,SlN eN59 iN59 1 (.slice a2 x1.length c3) x1 s3] (.cons 0 rfl (.cons 0 rfl .nil)) (qx 0 rfl (qx 1 rfl (qx 2 rfl (qx 3 rfl qr)))) 17 rfl ?_
 refine au [81,24,2,2,26,11,3,6,4] ?_
 refine qf (d:=42) (v:=.slice (some ⟨b1,o1,none⟩) x1.length c3) rfl (by rw[h1] <;> rfl) (qn 5 (.pointer (some ⟨b1,(o1+x4.toNat*1),none⟩)) rfl rfl rfl (yJ Tryz.underlying22 tf59 rfl rfl (qF e2).1 (zX e2)) (qf (d:=42) (v:=.slice a2 x1.length c3) rfl (by rw[h1] <;> rfl) (qI 6 (.slice g1.1 x16.length g1.2) [] rfl rfl rfl (zi (j:=0) rfl tf59 rfl rfl (fun _=>rfl) rfl) ?_)))
 refine au [6,7,6,8,24,2,9,25,8,10,24,2,11,25,8,12] ?_
 refine qn 13 (.agg #[qAG x9,qAG x6,qAG x7]) rfl rfl rfl (qcR (cells:=[qAG x9,qAG x6,qAG x7]) st26 rfl (by kernel_rfl)) ?_
 refine au [21,14,36,7] ?_
 rintro x17 e3 ⟨a7,c7⟩
 refine au [0,31,3,21,15] ?_
 refine qB 2 (ql .i64) rfl Tryz.underlying59 tf3 rfl rfl rfl rfl rfl (.inl ⟨0,_,rfl⟩) rfl rfl (fun x18 e4 a8 c8=>?_)
 refine au [0,31,3,6,16,24,3] ?_
 refine qy ?_ (by intro c h;cases h)
 refine au [2,60,23,1] ?_
 refine qC 6 (decide (x3<0)) [(1,qAG x4),(3,.pointer (some ⟨g8,0,none⟩)),(5,.pointer (some ⟨g9,0,none⟩)),(8,qAG x3),(9,.slice a1 x8.length c1),(10,qAG x9),(11,.slice a8 x18.length c8),(63,.bool ((decide (x3<0)) || (decide ((x18.length:Int)<(x8.length:Int)))))] (fun h2=>?_) (fun h2=>?_) ?_
 refine qb (os:=_) rfl (qp (k:=57) rfl h2 ?_)
 refine au [76,174] ?_
 refine qd (d:=63) (v:=.bool ((decide (x3<0)) || (decide ((x18.length:Int)<(x8.length:Int))))) rfl (by rw[h2];simp only[Bool.true_or]) ?_
 exact az [67]
 refine qb (os:=_) rfl (qo (k:=57) rfl h2 ?_)
 refine au [1,18,1,18,23,24,8] ?_
 refine qd (d:=63) (v:=.bool ((decide (x3<0)) || (decide ((x18.length:Int)<(x8.length:Int))))) rfl (by rw[h2];simp only[Bool.false_or]) ?_
 exact az [67]
 refine qb (os:=_) rfl ?_
 refine av [63] ?_ ?_
 intro _
 refine au [99,5,172] ?_
 exact qa ((x9,x18),(a8,c8))
 intro _
 refine au [157] ?_
 exact qa ((x3,x8),(a1,c1))
 rintro ⟨⟨x10,x11⟩,⟨a3,c2⟩⟩
 try dsimp only
 refine au [89,0] ?_
 exact qh ((x10,x11,iadd .i64 x9 1),(a3,c2))
 intro _
 refine au [73] ?_
 exact qa ((x3,x8),(a1,c1))
 rintro ⟨⟨x0,x2⟩,⟨a0,c0⟩⟩
 try dsimp only
 refine au [69,5,61] ?_
 exact qj (a0,c0)
set_option maxHeartbeats 4000000 in
theorem qll {F:Nat}{x1:List (qAE)}{a2:qAF}{c3:Nat}{s3:List (qAF×Nat)}{x4:Int}{x5:Int}{x6:Int}{r:(qAE×qAE×qAE×Int)}(hm:qcK F x1 x4 x5 x6=some r) :
    Pure Tryz.prog 27 [.agg #[.slice a2 x1.length c3],.agg #[qAG x4,qAG x5,qAG x6]] [SlN eN59 iN59 1 (.slice a2 x1.length c3) x1 s3] ((qAF×Nat)×(qAF×Nat)×(qAF×Nat)) (fun g=>.tuple #[.slice g.1.1 r.1.length g.1.2,.slice g.2.1.1 r.2.1.length g.2.1.2,.slice g.2.2.1 r.2.2.1.length g.2.2.2,qAG r.2.2.2]) (fun g=>[Ro (eI .i64) 3 1 (.slice g.1.1 r.1.length g.1.2) r.1,Ro (eI .i64) 3 1 (.slice g.2.1.1 r.2.1.length g.2.1.2) r.2.1,Ro (eI .i64) 3 1 (.slice g.2.2.1 r.2.2.1.length g.2.2.2) r.2.2.1]) (fun _=>[]):=by
 refine qk Tryz.func27 rfl Tryz.ntmps27 rfl hm (fun w=>?_)
 refine au [155] ?_
 intro g7
 refine au [24,9] ?_
 intro g8
 refine au [5,5,79,119,36,8] ?_
 intro x9 e9 _
 refine au [58] ?_
 refine qc (fun ((x12,_):(Int×Unit))=>([(2,.pointer (some ⟨g7,0,none⟩)),(3,.pointer (some ⟨g8,0,none⟩)),(8,qAG x12)],[⟨g8,26,[qAG x4,qAG x5,qAG x6]⟩,⟨g7,24,[.slice a2 x1.length c3]⟩],[],[SlN eN59 iN59 1 (.slice a2 x1.length c3) x1 s3],qcn F x1 x4 x5 x6 x12)) ?_ ?_
 refine av [60,82] ?_ ?_
 intro _
 refine au [4,25,4,32,0] ?_
 intro x0 e0 _
 refine au [5,0] ?_
 exact qa (x0,())
 intro _
 refine au [10] ?_
 exact qa (x9,())
 rintro ⟨x12,_⟩
 try dsimp only
 refine av [75,85] ?_ ?_
 intro _
 refine au [60,5,5,5,109,25,2,25,2] ?_
 exact qv ((none,0),(none,0),(none,0)) (resL (rs:=[.tmp 4,.tmp 5,.tmp 6,.tmp 7]) rfl (.tmp rfl (.tmp rfl (.tmp rfl (.tmp rfl ResOk.nil)))) rfl) (fun h=>by subst h;exact (.cons 0 rfl (.cons 0 rfl (.cons 0 rfl .nil))))
 intro _
 refine au [64,94,79] ?_
 refine qc (fun (((x2,x3,x7),(a0,c0,a1,c1,a3,c2)):((qAE×qAE×qAE)×(qAF×Nat×qAF×Nat×qAF×Nat)))=>([(9,.slice a0 x2.length c0),(10,.slice a1 x3.length c1),(11,.slice a3 x7.length c2)],[],[Ro (eI .i64) 3 1 (.slice a0 x2.length c0) x2,Ro (eI .i64) 3 1 (.slice a1 x3.length c1) x3,Ro (eI .i64) 3 1 (.slice a3 x7.length c2) x7],[],qd9 F x2 x3 x7)) ?_ ?_
 refine au [68,108,26,0,26,0] ?_
 refine qi (fun (((x8,x10,x11,x13),(a4,c4,a5,c5,a6,c6)):((qAE×qAE×qAE×Int)×(qAF×Nat×qAF×Nat×qAF×Nat)))=>([(2,.pointer (some ⟨g7,0,none⟩)),(3,.pointer (some ⟨g8,0,none⟩)),(9,.slice a4 x8.length c4),(10,.slice a5 x10.length c5),(11,.slice a6 x11.length c6),(12,qAG x13)],[⟨g8,26,[qAG x4,qAG x5,qAG x6]⟩,⟨g7,24,[.slice a2 x1.length c3]⟩],[Ro (eI .i64) 3 1 (.slice a4 x8.length c4) x8,Ro (eI .i64) 3 1 (.slice a5 x10.length c5) x10,Ro (eI .i64) 3 1 (.slice a6 x11.length c6) x11],[SlN eN59 iN59 1 (.slice a2 x1.length c3) x1 s3])) (fun k (s:((qAE×qAE×qAE×Int)×(qAF×Nat×qAF×Nat×qAF×Nat)))=>yx F x1 x4 x5 x6 k s.1) ((([]:qAE),([]:qAE),([]:qAE),0),(none,0,none,0,none,0)) F ?_
 intro k0
 rintro ⟨⟨x8,x10,x11,x13⟩,⟨a4,c4,a5,c5,a6,c6⟩⟩
 try dsimp only
 refine qm (m':=qcm F x1 x4 x5 x6 (yx F x1 x4 x5 x6 k0) x8 x10 x11 x13) rfl ?_
 refine av [75,93,18,83] ?_ ?_
 intro _
 refine au [91,119,1,25,4] ?_
 refine qg qmZ ?_
 rintro x14 e1 ⟨a7,c7⟩
 refine au [92,79,69] ?_
 refine qt (vs:=[qAG x14.1]) (ys:=([x14.1]:qAE)) (ql .i64) (by decide) rfl Tryz.underlying59 tf3 rfl rfl rfl rfl rfl (by decide) (fun a8 c8=>qB 3 (ql .i64) rfl Tryz.underlying59 tf3 rfl rfl rfl rfl rfl (.inl ⟨0,_,rfl⟩) rfl rfl (fun x15 e2 a9 c9=>?_))
 refine au [1,1,18] ?_
 refine qt (vs:=[qAG (x8.length:Int)]) (ys:=([(x8.length:Int)]:qAE)) (ql .i64) (by decide) rfl Tryz.underlying59 tf3 rfl rfl rfl rfl rfl (by decide) (fun a10 c10=>qB 5 (ql .i64) rfl Tryz.underlying59 tf3 rfl rfl rfl rfl rfl (.inl ⟨0,_,rfl⟩) rfl rfl (fun x16 e3 a11 c11=>?_))
 refine au [79,99] ?_
 refine qB 5 (ql .i64) rfl Tryz.underlying59 tf3 rfl rfl rfl rfl rfl (.inl ⟨4,_,rfl⟩) rfl rfl (fun x17 e4 a12 c12=>?_)
 refine au [173,89,0] ?_
 exact qh ((x17,x15,x16,iadd .i64 x13 1),(a12,c12,a9,c9,a11,c11))
 intro _
 refine au [73] ?_
 exact qa ((x8,x10,x11),(a4,c4,a5,c5,a6,c6))
 rintro ⟨⟨x2,x3,x7⟩,⟨a0,c0,a1,c1,a3,c2⟩⟩
 try dsimp only
 refine av [75,18,77] ?_ ?_
 intro _
 refine au [94,5,5,109,25,2,25,2] ?_
 exact qv ((none,0),(none,0),(none,0)) (resL (rs:=[.tmp 4,.tmp 5,.tmp 6,.tmp 7]) rfl (.tmp rfl (.tmp rfl (.tmp rfl (.tmp rfl ResOk.nil)))) rfl) (fun h=>by subst h;exact (.cons 0 rfl (.cons 0 rfl (.cons 0 rfl .nil))))
 intro _
 refine au [64,69,1,5,5,5,61] ?_
 exact qv ((a0,c0),(a1,c1),(a3,c2)) (resL (rs:=[.tmp 4,.tmp 5,.tmp 6,.tmp 7]) rfl (.tmp rfl (.tmp rfl (.tmp rfl (.tmp rfl ResOk.nil)))) rfl) (fun h=>by subst h;exact (.cons 0 rfl (.cons 0 rfl (.cons 0 rfl .nil))))
set_option maxHeartbeats 4000000 in
theorem qmY {F:Nat}{x1:qAE}{a2:qAF}{c3:Nat}{r:(Int×qAE)}(hm:qe6 F x1=some r) :
    Pure Tryz.prog 28 [.slice a2 x1.length c3] [Sl (eI .i64) 1 (.slice a2 x1.length c3) x1] (qAF×Nat) (fun g=>.agg #[qAG r.1,.slice g.1 r.2.length g.2]) (fun g=>[Ro (eI .u8) 5 1 (.slice g.1 r.2.length g.2) r.2]) (fun _=>[]):=by
 refine qk Tryz.func28 rfl Tryz.ntmps28 rfl hm (fun w=>?_)
 refine au [25,5,128] ?_
 intro g4
 refine au [57,169] ?_
 refine qq (cells:=[qAG (x1.length:Int),.slice none 0 0]) rfl st65 rfl (by kernel_rfl) rfl ?_
 refine au [24,12] ?_
 intro g5
 refine au [84] ?_
 refine qc (fun ((x0,(a0,c0)):(qAE×(qAF×Nat)))=>([(2,.pointer (some ⟨g4,0,none⟩)),(3,.pointer (some ⟨g5,0,none⟩))],[⟨g5,65,[qAG (x1.length:Int),.slice a0 x0.length c0]⟩,⟨g4,65,[qAG 0,.slice none 0 0]⟩],[Ro (eI .u8) 5 1 (.slice a0 x0.length c0) x0],[],qgo F x1 x0)) ?_ ?_
 refine au [168,33,15] ?_
 refine qi (fun (((x2,x3),(a1,c1)):((Int×qAE)×(qAF×Nat)))=>([(0,.slice a2 x1.length c3),(2,.pointer (some ⟨g4,0,none⟩)),(3,.pointer (some ⟨g5,0,none⟩)),(4,qAG x2)],[⟨g5,65,[qAG (x1.length:Int),.slice a1 x3.length c1]⟩,⟨g4,65,[qAG 0,.slice none 0 0]⟩],[Ro (eI .u8) 5 1 (.slice a1 x3.length c1) x3],[Sl (eI .i64) 1 (.slice a2 x1.length c3) x1])) (fun k (s:((Int×qAE)×(qAF×Nat)))=>zj F x1 k s.1) ((0,([]:qAE)),(none,0)) F ?_
 intro k0
 rintro ⟨⟨x2,x3⟩,⟨a1,c1⟩⟩
 try dsimp only
 refine qm (m':=qch F x1 (zj F x1 k0) x2 x3) rfl ?_
 refine av [3,130] ?_ ?_
 intro _
 refine au [64] ?_
 refine qc (fun ((x4,(a3,c2)):(qAE×(qAF×Nat)))=>([(0,.slice a2 x1.length c3),(2,.pointer (some ⟨g4,0,none⟩)),(3,.pointer (some ⟨g5,0,none⟩)),(4,qAG x2)],[⟨g5,65,[qAG (x1.length:Int),.slice a3 x4.length c2]⟩,⟨g4,65,[qAG 0,.slice none 0 0]⟩],[Ro (eI .u8) 5 1 (.slice a3 x4.length c2) x4],[Sl (eI .i64) 1 (.slice a2 x1.length c3) x1],qdz F (zj F x1 k0) x2 x4)) ?_ ?_
 refine au [14,68] ?_
 refine qc (fun ((x5,_):(Int×Unit))=>([(0,.slice a2 x1.length c3),(2,.pointer (some ⟨g4,0,none⟩)),(3,.pointer (some ⟨g5,0,none⟩)),(4,qAG x2),(5,qAG x5)],[⟨g5,65,[qAG (x1.length:Int),.slice a1 x3.length c1]⟩,⟨g4,65,[qAG 0,.slice none 0 0]⟩],[Ro (eI .u8) 5 1 (.slice a1 x3.length c1) x3],[Sl (eI .i64) 1 (.slice a2 x1.length c3) x1],qbm F (zj F x1 k0) x2 x3 x5)) ?_ ?_
 refine au [168] ?_
 refine qi (fun (((x6,x7),_):((Int×Int)×Unit))=>([(0,.slice a2 x1.length c3),(2,.pointer (some ⟨g4,0,none⟩)),(3,.pointer (some ⟨g5,0,none⟩)),(4,qAG x2),(5,qAG x6),(6,qAG x7)],[⟨g5,65,[qAG (x1.length:Int),.slice a1 x3.length c1]⟩,⟨g4,65,[qAG 0,.slice none 0 0]⟩],[Ro (eI .u8) 5 1 (.slice a1 x3.length c1) x3],[Sl (eI .i64) 1 (.slice a2 x1.length c3) x1])) (fun k (s:((Int×Int)×Unit))=>kU F (zj F x1 k0) x1 x2 x3 k s.1) ((0,0),()) F ?_
 intro k1
 rintro ⟨⟨x6,x7⟩,_⟩
 try dsimp only
 refine qm (m':=qbl F (zj F x1 k0) x1 x2 x3 (kU F (zj F x1 k0) x1 x2 x3 k1) x6 x7) rfl ?_
 refine av [75,83] ?_ ?_
 intro _
 refine au [64] ?_
 refine qc (fun ((x8,_):(Int×Unit))=>([(0,.slice a2 x1.length c3),(2,.pointer (some ⟨g4,0,none⟩)),(3,.pointer (some ⟨g5,0,none⟩)),(4,qAG x2),(5,qAG x8),(6,qAG x7)],[⟨g5,65,[qAG (x1.length:Int),.slice a1 x3.length c1]⟩,⟨g4,65,[qAG 0,.slice none 0 0]⟩],[Ro (eI .u8) 5 1 (.slice a1 x3.length c1) x3],[Sl (eI .i64) 1 (.slice a2 x1.length c3) x1],jo F (kU F (zj F x1 k0) x1 x2 x3 k1) x7 x8)) ?_ ?_
 refine av [14,60,27,2,58,69,16,1,18,83] ?_ ?_
 intro _
 refine au [99,1,1,16,26,2] ?_
 intro x9 e0 b0 o0
 refine au [24,14,86,87] ?_
 exact qa (iadd .i64 (imul .i64 2 x6) x9,())
 intro _
 refine au [157] ?_
 exact qa (imul .i64 2 x6,())
 rintro ⟨x8,_⟩
 try dsimp only
 refine au [89,0] ?_
 exact qh ((x8,iadd .i64 x7 1),())
 intro _
 refine au [73] ?_
 exact qa (x6,())
 rintro ⟨x5,_⟩
 try dsimp only
 refine au [4,62,135] ?_
 refine qt (vs:=[.int .u8 (iconv .u8 x5)]) (ys:=([iconv .u8 x5]:qAE)) (ql .u8) (by decide) rfl Tryz.underlying27 tf5 rfl rfl rfl rfl rfl (by decide) (fun a4 c4=>qB 1 (ql .u8) rfl Tryz.underlying27 tf5 rfl rfl rfl rfl rfl (.inl ⟨0,_,rfl⟩) rfl rfl (fun x10 e1 a5 c5=>?_))
 refine au [13,24,10,87] ?_
 exact qa (x10,(a5,c5))
 rintro ⟨x4,⟨a3,c2⟩⟩
 try dsimp only
 refine au [89,0] ?_
 exact qh ((iadd .i64 x2 8,x4),(a3,c2))
 intro _
 refine au [73] ?_
 exact qa (x3,(a1,c1))
 rintro ⟨x0,⟨a0,c0⟩⟩
 try dsimp only
 refine au [124,25,7,57,12] ?_
 exact qv (a0,c0) (resL (rs:=[.cell 2 65]) rfl (.cell (i:=1) rfl tf65 rfl rfl (by simp) rfl ResOk.nil) rfl) (fun h=>by subst h;exact (.cons 0 rfl .nil))
end Go.Proofs.YtlioijpkhffbnaaGreat
