/- Each Go function of this seat computes what its model says, part 6. -/
import Derived.Test.YtlioijpkhffbnaaGreatWalks5
open Bool renaming false_or→qyd, true_or→qyg, false_and→qyj, true_and→qyt
namespace Go.Proofs.YtlioijpkhffbnaaGreat
open Go SX
set_option maxHeartbeats 4000000 in
theorem qmT {F:Nat}{x1:qAE}{a2:qAF}{c3:Nat}{x4:Int}{r:(qAE×Int)}(hm:qe4 F x1 x4=some r) :
    Pure Tryz.prog 43 [.slice a2 x1.length c3,qAG x4] [Sl (eI .u64) 1 (.slice a2 x1.length c3) x1] (qAF×Nat) (fun g=>.tuple #[.slice g.1 r.1.length g.2,qAG r.2]) (fun g=>[Ro (eI .i64) 3 1 (.slice g.1 r.1.length g.2) r.1]) (fun _=>[]):=by
 refine qk Tryz.func43 rfl Tryz.ntmps43 rfl hm (fun w=>?_)
 refine av [25,0,59,114,18,77] ?_ ?_
 intro _
 refine au [94,109] ?_
 exact qj (none,0)
 intro _
 refine au [64,75,27,4] ?_
 intro x8 e8 _
 refine av [101] ?_ ?_
 intro _
 refine au [94,109] ?_
 exact qj (none,0)
 intro _
 refine au [64,68] ?_
 refine qc (fun ((x90,(a88,c89)):(qAE×(qAF×Nat)))=>([(6,.slice a88 x90.length c89)],[],[Ro (eI .i64) 3 1 (.slice a88 x90.length c89) x90],[],qeW F x90)) ?_ ?_
 refine au [68,108] ?_
 refine qi (fun (((x0,x2,x3),(a0,c0)):((Int×qAE×Int)×(qAF×Nat)))=>([(0,.slice a2 x1.length c3),(1,qAG x0),(6,.slice a0 x2.length c0),(7,qAG x3)],[],[Ro (eI .i64) 3 1 (.slice a0 x2.length c0) x2],[Sl (eI .u64) 1 (.slice a2 x1.length c3) x1])) (fun k (s:((Int×qAE×Int)×(qAF×Nat)))=>v6 F x1 k s.1) ((x4,([]:qAE),0),(none,0)) F ?_
 intro k0
 rintro ⟨⟨x0,x2,x3⟩,⟨a0,c0⟩⟩
 try dsimp only
 refine qm (m':=qcV F x1 (v6 F x1 k0) x0 x2 x3) rfl ?_
 refine av [3,130] ?_ ?_
 intro _
 refine au [91,69,28,8] ?_
 intro x5 e0 b0 o0
 refine au [24,14,1,1,24,15,32,4] ?_
 intro x6 e1 _
 refine av [58,75,83] ?_ ?_
 intro _
 refine au [94,158,131] ?_
 exact qj (none,0)
 intro _
 refine au [64,69] ?_
 refine qt (vs:=[qAG x6]) (ys:=([x6]:qAE)) (ql .i64) (by decide) rfl Tryz.underlying59 tf3 rfl rfl rfl rfl rfl (by decide) (fun a1 c1=>qB 1 (ql .i64) rfl Tryz.underlying59 tf3 rfl rfl rfl rfl rfl (.inl ⟨0,_,rfl⟩) rfl rfl (fun x7 e2 a3 c2=>?_))
 refine au [58,88,173,89,0] ?_
 exact qh ((x6,x7,iadd .i64 x3 1),(a3,c2))
 intro _
 refine au [73] ?_
 exact qa (x2,(a0,c0))
 rintro ⟨x90,⟨a88,c89⟩⟩
 try dsimp only
 refine au [60,5,61] ?_
 exact qj (a88,c89)
set_option maxHeartbeats 4000000 in
theorem qlv {F:Nat}{x1:qAE}{a2:qAF}{c3:Nat}{r:(List (qAE)×Int×Int×Int×Int×Bool)}(hm:qbb F x1=some r) :
    Pure Tryz.prog 29 [.slice a2 x1.length c3] [Sl (eI .u8) 1 (.slice a2 x1.length c3) x1] (qAF×(Nat×List (qAF×Nat))) (fun g=>.tuple #[.agg #[.slice g.1 r.1.length g.2.1],.agg #[qAG r.2.1,qAG r.2.2.1,qAG r.2.2.2.1],qAG r.2.2.2.2.1,.bool r.2.2.2.2.2]) (fun g=>[RoN eN59 rN59 59 1 (.slice g.1 r.1.length g.2.1) r.1 g.2.2 []]) (fun _=>[]):=by
 refine qk Tryz.func29 rfl Tryz.ntmps29 rfl hm (fun w=>?_)
 refine au [25,5,128] ?_
 intro g4
 refine au [24,12] ?_
 intro g5
 refine au [79,128] ?_
 intro g6
 refine au [57,128] ?_
 intro g7
 refine av [57,75,18,83] ?_ ?_
 intro _
 refine au [3] ?_
 refine qu mixed [] [⟨g7,26,[qAG 0,qAG 0,qAG 0]⟩,⟨g6,24,[.slice none 0 0]⟩] [Sl (eI .u8) 1 (.slice a2 x1.length c3) x1] (.cons 0 rfl (.cons 0 rfl .nil)) (qx 0 rfl qr) 6 rfl (qK 0 (.agg #[.slice none 0 0]) rfl rfl rfl (qH (i:=1) rfl tf24 rfl rfl (by simp) rfl) (qK 1 (.agg #[qAG 0,qAG 0,qAG 0]) rfl rfl rfl (qH (i:=0) rfl tf26 rfl rfl (by simp) rfl) ?_))
 refine au [21,2,26,10,159,21,3,170,118,24,3] ?_
 refine qy ?_ (by intro c h;cases h)
 refine au [2,12,9,25,12] ?_
 exact qv (none,(0,([]:List (qAF×Nat)))) (resL (rs:=[.cell 2 24,.cell 3 26,.tmp 4,.tmp 5]) rfl (.cell (i:=3) rfl tf24 rfl rfl (by simp) rfl (.cell (i:=2) rfl tf26 rfl rfl (by simp) rfl (.tmp rfl (.tmp rfl ResOk.nil)))) rfl) (fun h=>by subst h;exact (.cons 0 rfl .nil))
 intro _
 refine au [64,68,68] ?_
 refine qc (fun (((x0,x2),(a0,c0)):((qAE×Int)×(qAF×Nat)))=>([(0,.slice a2 x1.length c3),(2,.pointer (some ⟨g4,0,none⟩)),(3,.pointer (some ⟨g5,0,none⟩)),(6,.pointer (some ⟨g6,0,none⟩)),(7,.pointer (some ⟨g7,0,none⟩)),(8,.slice a0 x0.length c0),(9,qAG x2)],[⟨g7,26,[qAG 0,qAG 0,qAG 0]⟩,⟨g6,24,[.slice none 0 0]⟩,⟨g5,26,[qAG 0,qAG 0,qAG 0]⟩,⟨g4,24,[.slice none 0 0]⟩],[Ro (eI .u64) 58 1 (.slice a0 x0.length c0) x0],[Sl (eI .u8) 1 (.slice a2 x1.length c3) x1],yA F x1 x0 x2)) ?_ ?_
 refine au [14,29,14] ?_
 refine qi (fun (((x3,x4),(a1,c1)):((qAE×Int)×(qAF×Nat)))=>([(0,.slice a2 x1.length c3),(2,.pointer (some ⟨g4,0,none⟩)),(3,.pointer (some ⟨g5,0,none⟩)),(6,.pointer (some ⟨g6,0,none⟩)),(7,.pointer (some ⟨g7,0,none⟩)),(8,.slice a1 x3.length c1),(9,qAG x4)],[⟨g7,26,[qAG 0,qAG 0,qAG 0]⟩,⟨g6,24,[.slice none 0 0]⟩,⟨g5,26,[qAG 0,qAG 0,qAG 0]⟩,⟨g4,24,[.slice none 0 0]⟩],[Ro (eI .u64) 58 1 (.slice a1 x3.length c1) x3],[Sl (eI .u8) 1 (.slice a2 x1.length c3) x1])) (fun k (s:((qAE×Int)×(qAF×Nat)))=>zv F x1 k s.1) ((([]:qAE),3),(none,0)) F ?_
 intro k0
 rintro ⟨⟨x3,x4⟩,⟨a1,c1⟩⟩
 try dsimp only
 refine qm (m':=kA F x1 (zv F x1 k0) x3 x4) rfl ?_
 refine au [3,121,23,1] ?_
 refine qU 10 (fun ((x5,_):(Bool×Unit))=>([(0,.slice a2 x1.length c3),(2,.pointer (some ⟨g4,0,none⟩)),(3,.pointer (some ⟨g5,0,none⟩)),(6,.pointer (some ⟨g6,0,none⟩)),(7,.pointer (some ⟨g7,0,none⟩)),(8,.slice a1 x3.length c1),(9,qAG x4),(39,.bool x5)],[⟨g7,26,[qAG 0,qAG 0,qAG 0]⟩,⟨g6,24,[.slice none 0 0]⟩,⟨g5,26,[qAG 0,qAG 0,qAG 0]⟩,⟨g4,24,[.slice none 0 0]⟩],[Ro (eI .u64) 58 1 (.slice a1 x3.length c1) x3],[Sl (eI .u8) 1 (.slice a2 x1.length c3) x1],yU F (zv F x1 k0) x1 x3 x4 x5)) ?_ ?_
 refine qb (os:=_) rfl ?_
 refine av [25,10] ?_ ?_
 intro h0
 refine qp (k:=29) rfl h0 ?_
 refine au [1,28,6] ?_
 intro x6 e0 b0 o0
 refine au [24,14,144] ?_
 refine qC 4 ((x6:Int) == 1) [(0,.slice a2 x1.length c3),(2,.pointer (some ⟨g4,0,none⟩)),(3,.pointer (some ⟨g5,0,none⟩)),(6,.pointer (some ⟨g6,0,none⟩)),(7,.pointer (some ⟨g7,0,none⟩)),(8,.slice a1 x3.length c1),(9,qAG x4),(29,.bool true),(30,.slice a2 x1.length c3),(31,.pointer (some ⟨b0,o0,none⟩)),(32,.int .u8 x6),(33,.bool ((x6:Int) == 1)),(34,.bool ((x6:Int) == 1)),(38,.bool (((x6:Int) == 1) || (decide ((x3.length:Int)<5))))] (fun h1=>?_) (fun h1=>?_) ?_
 refine qb (os:=_) rfl (qp (k:=34) rfl h1 ?_)
 refine au [71,174] ?_
 refine qd (d:=38) (v:=.bool (((x6:Int) == 1) || (decide ((x3.length:Int)<5)))) rfl (by rw[h1];simp only[qyg]) (qd (d:=34) (v:=.bool ((x6:Int) == 1)) rfl (by rw[h1] <;> rfl) ?_)
 exact az [67]
 refine qb (os:=_) rfl (qo (k:=34) rfl h1 ?_)
 refine au [1,18,23,24,8] ?_
 refine qd (d:=38) (v:=.bool (((x6:Int) == 1) || (decide ((x3.length:Int)<5)))) rfl (by rw[h1];simp only[qyd]) (qd (d:=34) (v:=.bool ((x6:Int) == 1)) rfl (by rw[h1] <;> rfl) ?_)
 exact az [67]
 refine qb (os:=_) rfl ?_
 refine au [97] ?_
 exact qa ((((x6:Int) == 1) || (decide ((x3.length:Int)<5))),())
 intro h0
 refine qo (k:=29) rfl h0 ?_
 refine au [76,76,7,117] ?_
 exact qa (false,())
 rintro ⟨x5,_⟩
 try dsimp only
 refine qb (os:=_) rfl ?_
 refine av [63] ?_ ?_
 intro _
 refine au [64,14,69] ?_
 refine qg qj6 ?_
 intro x7 e1 _
 refine av [148,5,114,85] ?_ ?_
 intro _
 refine au [3] ?_
 refine qu mixed [] [⟨g7,26,[qAG 0,qAG 0,qAG 0]⟩,⟨g6,24,[.slice none 0 0]⟩] [Sl (eI .u8) 1 (.slice a2 x1.length c3) x1] (.cons 0 rfl (.cons 0 rfl .nil)) (qx 0 rfl qr) 6 rfl (qK 0 (.agg #[.slice none 0 0]) rfl rfl rfl (qH (i:=1) rfl tf24 rfl rfl (by simp) rfl) (qK 1 (.agg #[qAG 0,qAG 0,qAG 0]) rfl rfl rfl (qH (i:=0) rfl tf26 rfl rfl (by simp) rfl) ?_))
 refine au [21,2,26,10,159,21,3,170,118,24,3] ?_
 refine qy ?_ (by intro c h;cases h)
 refine au [2,12,9,78,78,25,12] ?_
 exact qv (none,(0,([]:List (qAF×Nat)))) (resL (rs:=[.cell 2 24,.cell 3 26,.tmp 4,.tmp 5]) rfl (.cell (i:=3) rfl tf24 rfl rfl (by simp) rfl (.cell (i:=2) rfl tf26 rfl rfl (by simp) rfl (.tmp rfl (.tmp rfl ResOk.nil)))) rfl) (fun h=>by subst h;exact (.cons 0 rfl .nil))
 intro _
 refine au [64,69] ?_
 refine qt (vs:=[.int .u64 x7.1]) (ys:=([x7.1]:qAE)) (ql .u64) (by decide) rfl Tryz.underlying60 tf58 rfl rfl rfl rfl rfl (by decide) (fun a3 c2=>qB 1 (ql .u64) rfl Tryz.underlying60 tf58 rfl rfl rfl rfl rfl (.inl ⟨0,_,rfl⟩) rfl rfl (fun x8 e2 a4 c4=>?_))
 refine au [58,88,172] ?_
 exact qh ((x8,x7.2.1),(a4,c4))
 intro _
 refine au [73] ?_
 exact qa ((x3,x4),(a1,c1))
 rintro ⟨⟨x0,x2⟩,⟨a0,c0⟩⟩
 try dsimp only
 refine au [75,18,144] ?_
 refine qU 5 (fun ((x9,_):(Bool×Unit))=>([(0,.slice a2 x1.length c3),(2,.pointer (some ⟨g4,0,none⟩)),(3,.pointer (some ⟨g5,0,none⟩)),(6,.pointer (some ⟨g6,0,none⟩)),(7,.pointer (some ⟨g7,0,none⟩)),(8,.slice a0 x0.length c0),(9,qAG x2),(64,.bool x9)],[⟨g7,26,[qAG 0,qAG 0,qAG 0]⟩,⟨g6,24,[.slice none 0 0]⟩,⟨g5,26,[qAG 0,qAG 0,qAG 0]⟩,⟨g4,24,[.slice none 0 0]⟩],[Ro (eI .u64) 58 1 (.slice a0 x0.length c0) x0],[Sl (eI .u8) 1 (.slice a2 x1.length c3) x1],kX F x1 x0 x2 x9)) ?_ ?_
 refine qb (os:=_) rfl ?_
 refine av [25,10] ?_ ?_
 intro h2
 refine qp (k:=59) rfl h2 ?_
 refine au [76,97] ?_
 exact qa (true,())
 intro h2
 refine qo (k:=59) rfl h2 ?_
 refine au [1,27,9] ?_
 intro x10 e3 g0 h3
 refine qaq (j:=0) (y:=x10) (ql .u64) rfl rfl tf58 rfl h3 (qF e3).2.2 (fun _=>rfl) rfl rfl ?_
 refine au [80,0] ?_
 exact qa ((decide (100<x10)),())
 rintro ⟨x9,_⟩
 try dsimp only
 refine qb (os:=_) rfl ?_
 refine av [63] ?_ ?_
 intro _
 refine au [3] ?_
 refine qu mixed [] [⟨g7,26,[qAG 0,qAG 0,qAG 0]⟩,⟨g6,24,[.slice none 0 0]⟩] [Sl (eI .u8) 1 (.slice a2 x1.length c3) x1] (.cons 0 rfl (.cons 0 rfl .nil)) (qx 0 rfl qr) 6 rfl (qK 0 (.agg #[.slice none 0 0]) rfl rfl rfl (qH (i:=1) rfl tf24 rfl rfl (by simp) rfl) (qK 1 (.agg #[qAG 0,qAG 0,qAG 0]) rfl rfl rfl (qH (i:=0) rfl tf26 rfl rfl (by simp) rfl) ?_))
 refine au [21,2,26,10,159,21,3,170,118,24,3] ?_
 refine qy ?_ (by intro c h;cases h)
 refine au [2,12,9,25,12] ?_
 exact qv (none,(0,([]:List (qAF×Nat)))) (resL (rs:=[.cell 2 24,.cell 3 26,.tmp 4,.tmp 5]) rfl (.cell (i:=3) rfl tf24 rfl rfl (by simp) rfl (.cell (i:=2) rfl tf26 rfl rfl (by simp) rfl (.tmp rfl (.tmp rfl ResOk.nil)))) rfl) (fun h=>by subst h;exact (.cons 0 rfl .nil))
 intro _
 refine au [64,60,27,9] ?_
 intro x11 e4 g1 h4
 refine qaq (j:=0) (y:=x11) (ql .u64) rfl rfl tf58 rfl h4 (qF e4).2.2 (fun _=>rfl) rfl rfl ?_
 refine au [24,11,58,75,28,6] ?_
 intro x12 e5 b1 o1
 refine av [24,14,82] ?_ ?_
 intro _
 refine au [75,18,23,1] ?_
 refine qU 5 (fun ((x13,_):(Bool×Unit))=>([(0,.slice a2 x1.length c3),(2,.pointer (some ⟨g4,0,none⟩)),(3,.pointer (some ⟨g5,0,none⟩)),(6,.pointer (some ⟨g6,0,none⟩)),(7,.pointer (some ⟨g7,0,none⟩)),(8,.slice a0 x0.length c0),(9,qAG x2),(13,qAG (iconv .i64 x11)),(83,.bool x13)],[⟨g7,26,[qAG 0,qAG 0,qAG 0]⟩,⟨g6,24,[.slice none 0 0]⟩,⟨g5,26,[qAG 0,qAG 0,qAG 0]⟩,⟨g4,24,[.slice none 0 0]⟩],[Ro (eI .u64) 58 1 (.slice a0 x0.length c0) x0],[Sl (eI .u8) 1 (.slice a2 x1.length c3) x1],yP F x1 x0 x2 x11 x13)) ?_ ?_
 refine qb (os:=_) rfl ?_
 refine av [25,10] ?_ ?_
 intro h5
 refine qp (k:=78) rfl h5 ?_
 refine au [76,97] ?_
 exact qa (true,())
 intro h5
 refine qo (k:=78) rfl h5 ?_
 refine au [1,27,9] ?_
 intro x14 e6 g2 h6
 refine qaq (j:=0) (y:=x14) (ql .u64) rfl rfl tf58 rfl h6 (qF e6).2.2 (fun _=>rfl) rfl rfl ?_
 refine au [80,0] ?_
 exact qa ((decide (7<x14)),())
 rintro ⟨x13,_⟩
 try dsimp only
 refine qb (os:=_) rfl ?_
 refine au [1] ?_
 refine qU 5 (fun ((x15,_):(Bool×Unit))=>([(0,.slice a2 x1.length c3),(2,.pointer (some ⟨g4,0,none⟩)),(3,.pointer (some ⟨g5,0,none⟩)),(6,.pointer (some ⟨g6,0,none⟩)),(7,.pointer (some ⟨g7,0,none⟩)),(8,.slice a0 x0.length c0),(9,qAG x2),(13,qAG (iconv .i64 x11)),(89,.bool x15)],[⟨g7,26,[qAG 0,qAG 0,qAG 0]⟩,⟨g6,24,[.slice none 0 0]⟩,⟨g5,26,[qAG 0,qAG 0,qAG 0]⟩,⟨g4,24,[.slice none 0 0]⟩],[Ro (eI .u64) 58 1 (.slice a0 x0.length c0) x0],[Sl (eI .u8) 1 (.slice a2 x1.length c3) x1],yQ F x1 x0 x2 x11 x15)) ?_ ?_
 refine qb (os:=_) rfl ?_
 refine av [25,10] ?_ ?_
 intro h7
 refine qp (k:=84) rfl h7 ?_
 refine au [76,97] ?_
 exact qa (true,())
 intro h7
 refine qo (k:=84) rfl h7 ?_
 refine au [1,27,9] ?_
 intro x16 e7 g3 h8
 refine qaq (j:=0) (y:=x16) (ql .u64) rfl rfl tf58 rfl h8 (qF e7).2.2 (fun _=>rfl) rfl rfl ?_
 refine au [80,0] ?_
 exact qa ((decide (300<x16)),())
 rintro ⟨x15,_⟩
 try dsimp only
 refine qb (os:=_) rfl ?_
 refine au [1] ?_
 refine qU 5 (fun ((x17,_):(Bool×Unit))=>([(0,.slice a2 x1.length c3),(2,.pointer (some ⟨g4,0,none⟩)),(3,.pointer (some ⟨g5,0,none⟩)),(6,.pointer (some ⟨g6,0,none⟩)),(7,.pointer (some ⟨g7,0,none⟩)),(8,.slice a0 x0.length c0),(9,qAG x2),(13,qAG (iconv .i64 x11)),(95,.bool x17)],[⟨g7,26,[qAG 0,qAG 0,qAG 0]⟩,⟨g6,24,[.slice none 0 0]⟩,⟨g5,26,[qAG 0,qAG 0,qAG 0]⟩,⟨g4,24,[.slice none 0 0]⟩],[Ro (eI .u64) 58 1 (.slice a0 x0.length c0) x0],[Sl (eI .u8) 1 (.slice a2 x1.length c3) x1],yR F x1 x0 x2 x11 x17)) ?_ ?_
 refine qb (os:=_) rfl ?_
 refine av [25,10] ?_ ?_
 intro h9
 refine qp (k:=90) rfl h9 ?_
 refine au [76,97] ?_
 exact qa (true,())
 intro h9
 refine qo (k:=90) rfl h9 ?_
 refine au [1,27,9] ?_
 intro x18 e8 g8 h10
 refine qaq (j:=0) (y:=x18) (ql .u64) rfl rfl tf58 rfl h10 (qF e8).2.2 (fun _=>rfl) rfl rfl ?_
 refine au [80,0] ?_
 exact qa ((decide (16<x18)),())
 rintro ⟨x17,_⟩
 try dsimp only
 refine qb (os:=_) rfl ?_
 refine au [1] ?_
 refine qU 5 (fun ((x19,_):(Bool×Unit))=>([(0,.slice a2 x1.length c3),(2,.pointer (some ⟨g4,0,none⟩)),(3,.pointer (some ⟨g5,0,none⟩)),(6,.pointer (some ⟨g6,0,none⟩)),(7,.pointer (some ⟨g7,0,none⟩)),(8,.slice a0 x0.length c0),(9,qAG x2),(13,qAG (iconv .i64 x11)),(101,.bool x19)],[⟨g7,26,[qAG 0,qAG 0,qAG 0]⟩,⟨g6,24,[.slice none 0 0]⟩,⟨g5,26,[qAG 0,qAG 0,qAG 0]⟩,⟨g4,24,[.slice none 0 0]⟩],[Ro (eI .u64) 58 1 (.slice a0 x0.length c0) x0],[Sl (eI .u8) 1 (.slice a2 x1.length c3) x1],yS F x1 x0 x2 x11 x19)) ?_ ?_
 refine qb (os:=_) rfl ?_
 refine av [25,10] ?_ ?_
 intro h11
 refine qp (k:=96) rfl h11 ?_
 refine au [76,97] ?_
 exact qa (true,())
 intro h11
 refine qo (k:=96) rfl h11 ?_
 refine au [1,27,9] ?_
 intro x20 e9 g9 h12
 refine qaq (j:=0) (y:=x20) (ql .u64) rfl rfl tf58 rfl h12 (qF e9).2.2 (fun _=>rfl) rfl rfl ?_
 refine au [80,0] ?_
 exact qa ((decide (8192<x20)),())
 rintro ⟨x19,_⟩
 try dsimp only
 refine qb (os:=_) rfl ?_
 refine av [63] ?_ ?_
 intro _
 refine au [3] ?_
 refine qu mixed [] [⟨g7,26,[qAG 0,qAG 0,qAG 0]⟩,⟨g6,24,[.slice none 0 0]⟩] [Sl (eI .u8) 1 (.slice a2 x1.length c3) x1] (.cons 0 rfl (.cons 0 rfl .nil)) (qx 0 rfl qr) 6 rfl (qK 0 (.agg #[.slice none 0 0]) rfl rfl rfl (qH (i:=1) rfl tf24 rfl rfl (by simp) rfl) (qK 1 (.agg #[qAG 0,qAG 0,qAG 0]) rfl rfl rfl (qH (i:=0) rfl tf26 rfl rfl (by simp) rfl) ?_))
 refine au [21,2,26,10,159,21,3,170,118,24,3] ?_
 refine qy ?_ (by intro c h;cases h)
 refine au [2,12,9,9,25,12] ?_
 exact qv (none,(0,([]:List (qAF×Nat)))) (resL (rs:=[.cell 2 24,.cell 3 26,.tmp 4,.tmp 5]) rfl (.cell (i:=3) rfl tf24 rfl rfl (by simp) rfl (.cell (i:=2) rfl tf26 rfl rfl (by simp) rfl (.tmp rfl (.tmp rfl ResOk.nil)))) rfl) (fun h=>by subst h;exact (.cons 0 rfl .nil))
 intro _
 refine au [90,27,15] ?_
 intro x21 e10 g10 h13
 replace h13:a0=some ⟨g10,0,none⟩:=h13
 have h14:=qej (k:=x0.length) (c:=c0) h13
 refine au [27,15] ?_
 intro x22 e11 g11 h15
 replace h15:a0=some ⟨g11,0,none⟩:=h15
 have h16:=qej (k:=x0.length) (c:=c0) h15
 refine au [27,15] ?_
 intro x23 e12 g12 h17
 replace h17:a0=some ⟨g12,0,none⟩:=h17
 have h18:=qej (k:=x0.length) (c:=c0) h17
 refine qu mixed [] [⟨g6,24,[.slice none 0 0]⟩,⟨g5,26,[qAG 0,qAG 0,qAG 0]⟩,⟨g4,24,[.slice none 0 0]⟩] [Sl (eI .u8) 1 (.slice a2 x1.length c3) x1,qz g10 ((1:Int).toNat*1) ((eI .u64) x21),qz g11 ((2:Int).toNat*1) ((eI .u64) x22),qz g12 ((3:Int).toNat*1) ((eI .u64) x23)] (.cons 1 rfl (.cons 1 rfl (.cons 1 rfl .nil))) (qx 0 rfl (qdr 0 rfl (kQ (ql .u64) e10 h13) (qdr 0 rfl (kQ (ql .u64) e11 h15) (qdr 0 rfl (kQ (ql .u64) e12 h17) qr)))) 14 rfl ?_
 refine au [6,0] ?_
 refine qf (d:=104) (v:=.slice (some ⟨g10,0,none⟩) x0.length c0) rfl (by rw[h13] <;> rfl) (qn 1 (.pointer (some ⟨g10,(1:Int).toNat*1,none⟩)) rfl rfl rfl (qdj Tryz.underlying60 tf58 rfl rfl (qF e10).1 (zX e10)) (qf (d:=104) (v:=.slice a0 x0.length c0) rfl (by rw[h13] <;> rfl) (qI 2 (.int .u64 x21) [] rfl rfl rfl (zi (j:=1) rfl tf58 rfl rfl (fun _=>rfl) rfl) ?_)))
 refine au [27,7,3,6,4] ?_
 refine qf (d:=108) (v:=.slice (some ⟨g11,0,none⟩) x0.length c0) rfl (by rw[h15] <;> rfl) (qn 5 (.pointer (some ⟨g11,(2:Int).toNat*1,none⟩)) rfl rfl rfl (qdj Tryz.underlying60 tf58 rfl rfl (qF e11).1 (zX e11)) (qf (d:=108) (v:=.slice a0 x0.length c0) rfl (by rw[h15] <;> rfl) (qI 6 (.int .u64 x22) [] rfl rfl rfl (zi (j:=2) rfl tf58 rfl rfl (fun _=>rfl) rfl) ?_)))
 refine au [27,7,7,6,8] ?_
 refine qf (d:=112) (v:=.slice (some ⟨g12,0,none⟩) x0.length c0) rfl (by rw[h17] <;> rfl) (qn 9 (.pointer (some ⟨g12,(3:Int).toNat*1,none⟩)) rfl rfl rfl (qdj Tryz.underlying60 tf58 rfl rfl (qF e12).1 (zX e12)) (qf (d:=112) (v:=.slice a0 x0.length c0) rfl (by rw[h17] <;> rfl) (qI 10 (.int .u64 x23) [] rfl rfl rfl (zi (j:=3) rfl tf58 rfl rfl (fun _=>rfl) rfl) ?_)))
 refine au [27,7,11] ?_
 refine qn 12 (.agg #[qAG (iconv .i64 x21),qAG (iconv .i64 x22),qAG (iconv .i64 x23)]) rfl rfl rfl (qcR (cells:=[qAG (iconv .i64 x21),qAG (iconv .i64 x22),qAG (iconv .i64 x23)]) st26 rfl (by kernel_rfl)) ?_
 refine au [21,13,134] ?_
 refine qW (.cons 1 rfl (.cons 1 rfl (.cons 1 rfl .nil))) (qx 0 rfl (qdr 0 rfl (kQ (ql .u64) e10 h13) (qdr 0 rfl (kQ (ql .u64) e11 h15) (qdr 0 rfl (kQ (ql .u64) e12 h17) qr)))) ?_
 refine au [24,3] ?_
 refine qy ?_ (by intro c h;cases h)
 refine au [2] ?_
 refine qc (fun (((x24,x25),(g13,a5,c5)):((Int×List (qAE))×(Nat×qAF×(Nat×List (qAF×Nat)))))=>([(2,.pointer (some ⟨g4,0,none⟩)),(3,.pointer (some ⟨g5,0,none⟩)),(7,.pointer (some ⟨g7,0,none⟩)),(8,.slice a0 x0.length c0),(14,.pointer (some ⟨g13,0,none⟩)),(15,qAG x24)],[⟨g7,26,[qAG (iconv .i64 x21),qAG (iconv .i64 x22),qAG (iconv .i64 x23)]⟩,⟨g5,26,[qAG 0,qAG 0,qAG 0]⟩,⟨g4,24,[.slice none 0 0]⟩,⟨g13,24,[.slice a5 x25.length c5.1]⟩],[Ro (eI .u64) 58 1 (.slice a0 x0.length c0) x0,RoN eN59 rN59 59 1 (.slice a5 x25.length c5.1) x25 c5.2 []],[],jr F x0 x21 x22 x23 x24 x25)) ?_ ?_
 refine au [27,15] ?_
 intro x26 e13 g14 h19
 replace h19:a0=some ⟨g14,0,none⟩:=h19
 have h20:=qej (k:=x0.length) (c:=c0) h19
 refine au [35,10] ?_
 intro x27 e14 a6 c6 h21 h22
 refine qu mixed [] [⟨g7,26,[qAG (iconv .i64 x21),qAG (iconv .i64 x22),qAG (iconv .i64 x23)]⟩,⟨g6,24,[.slice none 0 0]⟩,⟨g5,26,[qAG 0,qAG 0,qAG 0]⟩,⟨g4,24,[.slice none 0 0]⟩] [Sl (eI .u8) 1 (.slice a6 x27.length c6) x27,Sl (eI .u8) 1 (.slice a2 x1.length c3) x1,qz g14 ((4:Int).toNat*1) ((eI .u64) x26)] (.cons 0 rfl (.cons 0 rfl (.cons 0 rfl (.cons 0 rfl .nil)))) (qx 0 rfl (qx 1 rfl (qdr 0 rfl (kQ (ql .u64) e13 h19) qr))) 18 rfl ?_
 refine au [6,0] ?_
 refine qK 1 (.agg #[qAG (iconv .i64 x21),qAG (iconv .i64 x22),qAG (iconv .i64 x23)]) rfl rfl rfl (qH (i:=0) rfl tf26 rfl rfl (by simp) rfl) ?_
 refine au [6,2] ?_
 refine qf (d:=120) (v:=.slice (some ⟨g14,0,none⟩) x0.length c0) rfl (by rw[h19] <;> rfl) (qn 3 (.pointer (some ⟨g14,(4:Int).toNat*1,none⟩)) rfl rfl rfl (qdj Tryz.underlying60 tf58 rfl rfl (qF e13).1 (zX e13)) (qf (d:=120) (v:=.slice a0 x0.length c0) rfl (by rw[h19] <;> rfl) (qI 4 (.int .u64 x26) [] rfl rfl rfl (zi (j:=2) rfl tf58 rfl rfl (fun _=>rfl) rfl) ?_)))
 refine au [27,7,5,150] ?_
 refine qn 8 (.slice a6 x27.length c6) rfl rfl rfl (qk9 Tryz.underlying27 tf5 rfl rfl rfl e14 h22 h21) (qn 9 (.agg #[qAG (iconv .i64 x26),.slice a6 x27.length c6]) rfl rfl rfl (qcR (cells:=[qAG (iconv .i64 x26),.slice a6 x27.length c6]) st65 rfl (by kernel_rfl)) (qn 10 (.agg #[qAG (iconv .i64 x11),qAG (iconv .i64 x21),qAG (iconv .i64 x22),qAG (iconv .i64 x23),qAG (iconv .i64 x26),.slice a6 x27.length c6]) rfl rfl rfl (qcR (cells:=[qAG (iconv .i64 x11),qAG (iconv .i64 x21),qAG (iconv .i64 x22),qAG (iconv .i64 x23),qAG (iconv .i64 x26),.slice a6 x27.length c6]) st75 rfl (by kernel_rfl)) (qeM 11 15 rfl rfl (by kernel_rfl) rfl rfl ?_ ?_)))
 refine au [36,14] ?_
 rintro x28 e15 ⟨a7,c7⟩
 refine au [0] ?_
 refine qW (.cons 0 rfl (.cons 0 rfl (.cons 0 rfl (.cons 0 rfl .nil)))) (qx 0 rfl (qx 1 rfl (qdr 1 rfl (kQ (ql .u64) e13 h19) qr))) ?_
 refine au [123,6,14,21,15,24,12] ?_
 intro g15
 refine au [0] ?_
 refine qW (.cons 1 rfl (.cons 1 rfl (.cons 1 rfl (.cons 1 rfl .nil)))) (qx 0 rfl (qx 1 rfl (qdr 1 rfl (kQ (ql .u64) e13 h19) qr))) ?_
 refine au [21,16,134] ?_
 refine qW (.cons 1 rfl (.cons 1 rfl (.cons 1 rfl (.cons 1 rfl .nil)))) (qx 0 rfl (qx 1 rfl (qdr 1 rfl (kQ (ql .u64) e13 h19) qr))) ?_
 refine au [6,17,24,3] ?_
 exact qy (qa ((x28.2,x28.1),(g15,a7,c7))) (by intro c h;cases h)
 refine qeN (m':=((qdA F (iconv .i64 x11) (iconv .i64 x21) (iconv .i64 x22) (iconv .i64 x23) (iconv .i64 x26) x27).bind fun x29=>jr F x0 x21 x22 x23 x29.2 x29.1)) (rfl) ?_
 refine au [24,12] ?_
 intro g16
 refine au [0] ?_
 refine qW (.cons 1 rfl (.cons 1 rfl (.cons 1 rfl (.cons 1 rfl .nil)))) (qx 0 rfl (qx 1 rfl (qdr 0 rfl (kQ (ql .u64) e13 h19) qr))) ?_
 refine au [21,11,36,14] ?_
 rintro x29 e16 ⟨a8,c8⟩
 refine au [0] ?_
 refine qW (.cons 1 rfl (.cons 1 rfl (.cons 1 rfl (.cons 1 rfl .nil)))) (qx 0 rfl (qx 1 rfl (qdr 1 rfl (kQ (ql .u64) e13 h19) qr))) ?_
 refine au [123,6,14,21,16,134] ?_
 refine qW (.cons 1 rfl (.cons 1 rfl (.cons 1 rfl (.cons 1 rfl .nil)))) (qx 0 rfl (qx 1 rfl (qdr 1 rfl (kQ (ql .u64) e13 h19) qr))) ?_
 refine au [6,17,24,3] ?_
 exact qy (qa ((x29.2,x29.1),(g16,a8,c8))) (by intro c h;cases h)
 rintro ⟨⟨x24,x25⟩,⟨g13,a5,c5⟩⟩
 try dsimp only
 refine au [3,27,15] ?_
 intro x30 e17 g17 h23
 replace h23:a0=some ⟨g17,0,none⟩:=h23
 have h24:=qej (k:=x0.length) (c:=c0) h23
 refine qu mixed [] [⟨g7,26,[qAG (iconv .i64 x21),qAG (iconv .i64 x22),qAG (iconv .i64 x23)]⟩,⟨g13,24,[.slice a5 x25.length c5.1]⟩] [qz g17 ((4:Int).toNat*1) ((eI .u64) x30)] (.cons 0 rfl (.cons 2 rfl .nil)) (qdr 0 rfl (kQ (ql .u64) e17 h23) qr) 12 rfl (qK 0 (.agg #[.slice a5 x25.length c5.1]) rfl rfl rfl (qH (i:=1) rfl tf24 rfl rfl (by simp) rfl) (qK 1 (.agg #[qAG (iconv .i64 x21),qAG (iconv .i64 x22),qAG (iconv .i64 x23)]) rfl rfl rfl (qH (i:=0) rfl tf26 rfl rfl (by simp) rfl) ?_))
 refine au [6,2] ?_
 refine qf (d:=134) (v:=.slice (some ⟨g17,0,none⟩) x0.length c0) rfl (by rw[h23] <;> rfl) (qn 3 (.pointer (some ⟨g17,(4:Int).toNat*1,none⟩)) rfl rfl rfl (qdj Tryz.underlying60 tf58 rfl rfl (qF e17).1 (zX e17)) (qf (d:=134) (v:=.slice a0 x0.length c0) rfl (by rw[h23] <;> rfl) (qI 4 (.int .u64 x30) [] rfl rfl rfl (zi (j:=0) rfl tf58 rfl rfl (fun _=>rfl) rfl) ?_)))
 refine au [27,7,5,150,21,8,25,14,0] ?_
 refine qW (.cons 0 rfl (.cons 2 rfl .nil)) (qdr 0 rfl (kQ (ql .u64) e17 h23) qr) ?_
 refine au [21,9,25,7,0] ?_
 refine qW (.cons 0 rfl (.cons 2 rfl .nil)) (qdr 0 rfl (kQ (ql .u64) e17 h23) qr) ?_
 refine au [154,24,3] ?_
 refine qy ?_ (by intro c h;cases h)
 refine au [2,12,9] ?_
 exact qv (a5,c5) (resL (rs:=[.cell 2 24,.cell 3 26,.tmp 4,.tmp 5]) rfl (.cell (i:=2) rfl tf24 rfl rfl (by simp) rfl (.cell (i:=1) rfl tf26 rfl rfl (by simp) rfl (.tmp rfl (.tmp rfl ResOk.nil)))) rfl) (fun h=>by subst h;exact (.cons 1 rfl .nil))
 intro _
 refine au [64,68] ?_
 refine qc (fun ((x31,(a9,c9)):(List (qAE)×(qAF×(Nat×List (qAF×Nat)))))=>([(2,.pointer (some ⟨g4,0,none⟩)),(3,.pointer (some ⟨g5,0,none⟩)),(6,.pointer (some ⟨g6,0,none⟩)),(7,.pointer (some ⟨g7,0,none⟩)),(8,.slice a0 x0.length c0)],[⟨g7,26,[qAG 0,qAG 0,qAG 0]⟩,⟨g6,24,[.slice a9 x31.length c9.1]⟩,⟨g5,26,[qAG 0,qAG 0,qAG 0]⟩,⟨g4,24,[.slice none 0 0]⟩],[RoN eN59 rN59 59 1 (.slice a9 x31.length c9.1) x31 c9.2 []],[Sl (eI .u64) 1 (.slice a0 x0.length c0) x0],qbq F x0 x31)) ?_ ?_
 refine au [168,30,1] ?_
 refine qkX 1 rfl (qi (fun (((x32,x33,x34),(a10,c10)):((Int×Int×List (qAE))×(qAF×(Nat×List (qAF×Nat)))))=>([(2,.pointer (some ⟨g4,0,none⟩)),(3,.pointer (some ⟨g5,0,none⟩)),(6,.pointer (some ⟨g6,0,none⟩)),(7,.pointer (some ⟨g7,0,none⟩)),(8,.slice a0 x0.length c0),(13,qAG (iconv .i64 x11)),(16,qAG x32),(17,qAG x33)],[⟨g7,26,[qAG 0,qAG 0,qAG 0]⟩,⟨g6,24,[.slice a10 x34.length c10.1]⟩,⟨g5,26,[qAG 0,qAG 0,qAG 0]⟩,⟨g4,24,[.slice none 0 0]⟩],[RoN eN59 rN59 59 1 (.slice a10 x34.length c10.1) x34 c10.2 []],[Sl (eI .u64) 1 (.slice a0 x0.length c0) x0])) (fun k (s:((Int×Int×List (qAE))×(qAF×(Nat×List (qAF×Nat)))))=>zl F x0 x11 k s.1) ((1,0,([]:List (qAE))),(none,(0,([]:List (qAF×Nat))))) F ?_)
 intro k1
 rintro ⟨⟨x32,x33,x34⟩,⟨a10,c10⟩⟩
 try dsimp only
 refine qm (m':=kz F x0 x11 (zl F x0 x11 k1) x32 x33 x34) rfl ?_
 refine av [3,69,83] ?_ ?_
 intro _
 refine au [91,3,121,26,3,1] ?_
 refine qU 6 (fun ((x35,_):(Bool×Unit))=>([(2,.pointer (some ⟨g4,0,none⟩)),(3,.pointer (some ⟨g5,0,none⟩)),(6,.pointer (some ⟨g6,0,none⟩)),(7,.pointer (some ⟨g7,0,none⟩)),(8,.slice a0 x0.length c0),(13,qAG (iconv .i64 x11)),(16,qAG x32),(17,qAG x33),(155,.bool x35)],[⟨g7,26,[qAG 0,qAG 0,qAG 0]⟩,⟨g6,24,[.slice a10 x34.length c10.1]⟩,⟨g5,26,[qAG 0,qAG 0,qAG 0]⟩,⟨g4,24,[.slice none 0 0]⟩],[RoN eN59 rN59 59 1 (.slice a10 x34.length c10.1) x34 c10.2 []],[Sl (eI .u64) 1 (.slice a0 x0.length c0) x0],kY F (zl F x0 x11 k1) x0 x32 x33 x34 x35)) ?_ ?_
 refine qb (os:=_) rfl ?_
 refine av [25,10] ?_ ?_
 intro h25
 refine qp (k:=149) rfl h25 ?_
 refine au [76,7,97] ?_
 exact qa (true,())
 intro h25
 refine qo (k:=149) rfl h25 ?_
 refine au [1,1,28,8] ?_
 intro x36 e18 b2 o2
 refine au [24,14,80,0] ?_
 exact qa ((decide (100<x36)),())
 rintro ⟨x35,_⟩
 try dsimp only
 refine qb (os:=_) rfl ?_
 refine au [1] ?_
 refine qU 11 (fun ((x37,_):(Bool×Unit))=>([(2,.pointer (some ⟨g4,0,none⟩)),(3,.pointer (some ⟨g5,0,none⟩)),(6,.pointer (some ⟨g6,0,none⟩)),(7,.pointer (some ⟨g7,0,none⟩)),(8,.slice a0 x0.length c0),(13,qAG (iconv .i64 x11)),(16,qAG x32),(17,qAG x33),(167,.bool x37)],[⟨g7,26,[qAG 0,qAG 0,qAG 0]⟩,⟨g6,24,[.slice a10 x34.length c10.1]⟩,⟨g5,26,[qAG 0,qAG 0,qAG 0]⟩,⟨g4,24,[.slice none 0 0]⟩],[RoN eN59 rN59 59 1 (.slice a10 x34.length c10.1) x34 c10.2 []],[Sl (eI .u64) 1 (.slice a0 x0.length c0) x0],yT F (zl F x0 x11 k1) x0 x32 x33 x34 x37)) ?_ ?_
 refine qb (os:=_) rfl ?_
 refine av [25,10] ?_ ?_
 intro h26
 refine qp (k:=156) rfl h26 ?_
 refine au [76,76,71,97] ?_
 exact qa (true,())
 intro h26
 refine qo (k:=156) rfl h26 ?_
 refine au [1,1,1,28,8] ?_
 intro x38 e19 b3 o3
 refine au [163,16,1,18,26,3,117] ?_
 exact qa ((decide ((x0.length:Int)≤(iadd .i64 x32 (iconv .i64 x38)))),())
 rintro ⟨x37,_⟩
 try dsimp only
 refine qb (os:=_) rfl ?_
 refine av [63] ?_ ?_
 intro _
 refine au [3] ?_
 refine qu mixed [] [⟨g7,26,[qAG 0,qAG 0,qAG 0]⟩,⟨g6,24,[.slice a10 x34.length c10.1]⟩] [Sl (eI .u64) 1 (.slice a0 x0.length c0) x0] (.cons 0 rfl (.cons 0 rfl .nil)) (qx 0 rfl qr) 6 rfl (qK 0 (.agg #[.slice a10 x34.length c10.1]) rfl rfl rfl (qH (i:=1) rfl tf24 rfl rfl (by simp) rfl) (qK 1 (.agg #[qAG 0,qAG 0,qAG 0]) rfl rfl rfl (qH (i:=0) rfl tf26 rfl rfl (by simp) rfl) ?_))
 refine au [21,2,26,10,159,21,3,170,118,24,3] ?_
 refine qy ?_ (by intro c h;cases h)
 refine au [2,12,9,78,9,78] ?_
 exact qv (a10,c10) (resL (rs:=[.cell 2 24,.cell 3 26,.tmp 4,.tmp 5]) rfl (.cell (i:=3) rfl tf24 rfl rfl (by simp) rfl (.cell (i:=2) rfl tf26 rfl rfl (by simp) rfl (.tmp rfl (.tmp rfl ResOk.nil)))) rfl) (fun h=>by subst h;exact (.cons 0 rfl .nil))
 intro _
 refine au [64,69,16,1,16,1,1,28,8] ?_
 intro x39 e20 b4 o4
 refine au [163,16] ?_
 refine qj2 (j:=1) (ql .u64) rfl UnF.u inferInstance rfl rfl rfl rfl rfl ?_
 intro x40 e21 a11 c11
 refine au [1] ?_
 refine qg qmT ?_
 rintro x41 e22 ⟨a12,c12⟩
 refine av [92,114,85] ?_ ?_
 intro _
 refine au [3] ?_
 refine qu mixed [] [⟨g7,26,[qAG 0,qAG 0,qAG 0]⟩,⟨g6,24,[.slice a10 x34.length c10.1]⟩] [Sl (eI .u64) 1 (.slice a11 x40.length c11) x40,qz b4 o4 ((eI .u64) x39),Sl (eI .u64) 1 (.slice a0 x0.length c0) x0] (.cons 0 rfl (.cons 0 rfl .nil)) (qx 0 rfl (qx 1 rfl (qx 2 rfl qr))) 6 rfl (qK 0 (.agg #[.slice a10 x34.length c10.1]) rfl rfl rfl (qH (i:=1) rfl tf24 rfl rfl (by simp) rfl) (qK 1 (.agg #[qAG 0,qAG 0,qAG 0]) rfl rfl rfl (qH (i:=0) rfl tf26 rfl rfl (by simp) rfl) ?_))
 refine au [21,2,26,10,0,36,15,21,3,25,14,0,36,15,118,24,3] ?_
 refine qy ?_ (by intro c h;cases h)
 refine au [2,12,9,78,9,78] ?_
 exact qv (a10,c10) (resL (rs:=[.cell 2 24,.cell 3 26,.tmp 4,.tmp 5]) rfl (.cell (i:=3) rfl tf24 rfl rfl (by simp) rfl (.cell (i:=2) rfl tf26 rfl rfl (by simp) rfl (.tmp rfl (.tmp rfl ResOk.nil)))) rfl) (fun h=>by subst h;exact (.cons 1 rfl .nil))
 intro _
 refine au [64,59,93,1] ?_
 refine qt (vs:=[.slice a12 x41.1.length c12]) (ys:=([(x41.1,(a12,c12))]:List (qAE×(qAF×Nat)))) kL (by decide) rfl Tryz.underlying22 tf59 rfl rfl rfl rfl rfl (by decide) (fun a13 c13=>qdt (rin:=rN59) (i:=0) ([x41.1]:List (qAE)) ([(a12,c12)]:List (qAF×Nat)) rfl rfl (.cons 0 rfl .nil) ?_)
 refine au [30,2] ?_
 intro x42 e23 a14 c14
 refine au [13,25,7,57,99,1] ?_
 refine qb3 (j:=2) (ql .u64) (by decide) rfl UnF.u inferInstance rfl rfl rfl rfl ?_
 intro x43 e24 b5 o5
 refine au [163,16,86,26,1] ?_
 intro x44 e25
 refine qd (d:=16) (v:=qAG x44) rfl (by rw[e25] <;> rfl) ?_
 refine au [87,2,89,0] ?_
 exact qh ((x44,iadd .i64 x33 1,x42),(a14,(c14,(c10.2++([(a12,c12)]:List (qAF×Nat))))))
 intro _
 refine au [73] ?_
 exact qa (x34,(a10,c10))
 rintro ⟨x31,⟨a9,c9⟩⟩
 try dsimp only
 refine au [3] ?_
 refine qu mixed [] [⟨g7,26,[qAG 0,qAG 0,qAG 0]⟩,⟨g6,24,[.slice a9 x31.length c9.1]⟩] [Sl (eI .u64) 1 (.slice a0 x0.length c0) x0] (.cons 0 rfl (.cons 0 rfl .nil)) (qx 0 rfl qr) 8 rfl (qK 0 (.agg #[.slice a9 x31.length c9.1]) rfl rfl rfl (qH (i:=1) rfl tf24 rfl rfl (by simp) rfl) (qK 1 (.agg #[qAG 0,qAG 0,qAG 0]) rfl rfl rfl (qH (i:=0) rfl tf26 rfl rfl (by simp) rfl) ?_))
 refine au [6,2,26,9,3,21,4,26,10,159,21,5,170,150,24,3] ?_
 refine qy ?_ (by intro c h;cases h)
 refine au [2,12] ?_
 exact qv (a9,c9) (resL (rs:=[.cell 2 24,.cell 3 26,.tmp 4,.tmp 5]) rfl (.cell (i:=3) rfl tf24 rfl rfl (by simp) rfl (.cell (i:=2) rfl tf26 rfl rfl (by simp) rfl (.tmp rfl (.tmp rfl ResOk.nil)))) rfl) (fun h=>by subst h;exact (.cons 0 rfl .nil))
set_option maxHeartbeats 4000000 in
theorem qli {F:Nat}{x1:List (qAE)}{a2:qAF}{c3:Nat}{s3:List (qAF×Nat)}{r:List (Int×Int)}(hm:qgb F x1=some r) :
    Pure Tryz.prog 30 [.agg #[.slice a2 x1.length c3]] [SlN eN59 iN59 1 (.slice a2 x1.length c3) x1 s3] (qAF×Nat) (fun g=>.slice g.1 r.length g.2) (fun g=>[Ro eS96 96 2 (.slice g.1 r.length g.2) r]) (fun _=>[]):=by
 refine qk Tryz.func30 rfl Tryz.ntmps30 rfl hm (fun w=>?_)
 refine au [133] ?_
 intro g4
 refine au [58,68] ?_
 refine qc (fun ((x0,(a0,c0)):(List (Int×Int)×(qAF×Nat)))=>([(3,.slice a0 x0.length c0)],[],[Ro eS96 96 2 (.slice a0 x0.length c0) x0],[],qdx F x0)) ?_ ?_
 refine au [168] ?_
 refine qfK (Int×Int) eS96 96 2 (qi (fun (((x2,x3),(a1,c1)):((List (Int×Int)×Int)×(qAF×Nat)))=>([(1,.pointer (some ⟨g4,0,none⟩)),(3,.slice a1 x2.length c1),(4,qAG x3)],[⟨g4,24,[.slice a2 x1.length c3]⟩],[Ro eS96 96 2 (.slice a1 x2.length c1) x2],[SlN eN59 iN59 1 (.slice a2 x1.length c3) x1 s3])) (fun k (s:((List (Int×Int)×Int)×(qAF×Nat)))=>zu F x1 k s.1) ((([]:List (Int×Int)),0),(none,0)) F ?_)
 intro k0
 rintro ⟨⟨x2,x3⟩,⟨a1,c1⟩⟩
 try dsimp only
 refine qm (m':=qbi F x1 (zu F x1 k0) x2 x3) rfl ?_
 refine av [75,62,18,83] ?_ ?_
 intro _
 refine au [64] ?_
 refine qc (fun ((x4,(a3,c2)):(List (Int×Int)×(qAF×Nat)))=>([(1,.pointer (some ⟨g4,0,none⟩)),(3,.slice a3 x4.length c2),(4,qAG x3)],[⟨g4,24,[.slice a2 x1.length c3]⟩],[Ro eS96 96 2 (.slice a3 x4.length c2) x4],[SlN eN59 iN59 1 (.slice a2 x1.length c3) x1 s3],qbk F (zu F x1 k0) x3 x4)) ?_ ?_
 refine au [14,168] ?_
 refine qi (fun (((x5,x6),(a4,c4)):((List (Int×Int)×Int)×(qAF×Nat)))=>([(1,.pointer (some ⟨g4,0,none⟩)),(3,.slice a4 x5.length c4),(4,qAG x3),(5,qAG x6)],[⟨g4,24,[.slice a2 x1.length c3]⟩],[Ro eS96 96 2 (.slice a4 x5.length c4) x5],[SlN eN59 iN59 1 (.slice a2 x1.length c3) x1 s3])) (fun k (s:((List (Int×Int)×Int)×(qAF×Nat)))=>yK F (zu F x1 k0) x1 x3 k s.1) ((x2,0),(a1,c1)) F ?_
 intro k1
 rintro ⟨⟨x5,x6⟩,⟨a4,c4⟩⟩
 try dsimp only
 refine qm (m':=qbj F (zu F x1 k0) x1 x3 (yK F (zu F x1 k0) x1 x3 k1) x5 x6) rfl ?_
 refine au [75,62,1,27,5] ?_
 intro x7 e0 g0 b0 o0
 refine av [24,14,18,83] ?_ ?_
 intro _
 refine au [91,99,62,1,31,15] ?_
 intro x8 e1 g1 b1 o1
 refine au [24,14,1,27,8] ?_
 intro x9 e2 b2 o2
 refine au [24,14] ?_
 refine qq (cells:=[qAG x3,qAG x9]) rfl st96 rfl (by kernel_rfl) rfl (qt (vs:=[.agg #[qAG x3,qAG x9]]) (ys:=([(x3,x9)]:List (Int×Int))) qrd (by decide) rfl Tryz.underlying69 tf96 rfl rfl rfl rfl rfl (by decide) (fun a5 c5=>qB 1 qrd rfl Tryz.underlying69 tf96 rfl rfl rfl rfl rfl (.inl ⟨0,_,rfl⟩) rfl rfl (fun x10 e3 a6 c6=>?_)))
 refine au [173,89,0] ?_
 exact qh ((x10,iadd .i64 x6 1),(a6,c6))
 intro _
 refine au [73,22] ?_
 exact qa (x5,(a4,c4))
 rintro ⟨x4,⟨a3,c2⟩⟩
 try dsimp only
 refine au [89,0] ?_
 exact qh ((x4,iadd .i64 x3 1),(a3,c2))
 intro _
 refine au [73] ?_
 exact qa (x2,(a1,c1))
 rintro ⟨x0,⟨a0,c0⟩⟩
 try dsimp only
 refine au [60,61] ?_
 exact qj (a0,c0)
set_option maxHeartbeats 4000000 in
theorem qmW {F:Nat}{x1:qAE}{a2:qAF}{c3:Nat}{r:(List (qAE)×Int×Int×Int×Int×Int)}(hm:qe5 F x1=some r) :
    Pure Tryz.prog 14 [.slice a2 x1.length c3] [Sl (eI .u8) 1 (.slice a2 x1.length c3) x1] (qAF×(Nat×List (qAF×Nat))) (fun g=>.tuple #[.agg #[.slice g.1 r.1.length g.2.1],.agg #[qAG r.2.1,qAG r.2.2.1,qAG r.2.2.2.1,qAG r.2.2.2.2.1],qAG r.2.2.2.2.2]) (fun g=>[RoN eN59 rN59 59 1 (.slice g.1 r.1.length g.2.1) r.1 g.2.2 []]) (fun _=>[]):=by
 refine qk Tryz.func14 rfl Tryz.ntmps14 rfl hm (fun w=>?_)
 refine au [25,5,128] ?_
 intro g4
 refine au [24,12] ?_
 intro g5
 refine av [58,75,18,77] ?_ ?_
 intro _
 refine au [59] ?_
 refine qq (cells:=[.slice none 0 0]) rfl st24 rfl (by kernel_rfl) rfl (qq (cells:=[qAG 0,qAG 0,qAG 0,qAG 0]) rfl st29 rfl (by kernel_rfl) rfl ?_)
 refine au [25,7,24,10,106] ?_
 exact qv (none,(0,([]:List (qAF×Nat)))) (resL (rs:=[.cell 2 24,.cell 3 29,.tmp 4]) rfl (.cell (i:=1) rfl tf24 rfl rfl (by simp) rfl (.cell (i:=0) rfl tf29 rfl rfl (by simp) rfl (.tmp rfl ResOk.nil))) rfl) (fun h=>by subst h;exact (.cons 0 rfl .nil))
 intro _
 refine au [64,60] ?_
 refine qg qlv ?_
 rintro x7 e7 ⟨a8,c9⟩
 refine au [92,70,24,12] ?_
 intro g10
 refine au [24,12] ?_
 intro g11
 refine av [25,7,24,10,114,101] ?_ ?_
 intro _
 refine au [59] ?_
 refine qq (cells:=[.slice none 0 0]) rfl st24 rfl (by kernel_rfl) rfl (qq (cells:=[qAG 0,qAG 0,qAG 0,qAG 0]) rfl st29 rfl (by kernel_rfl) rfl ?_)
 refine au [26,10,25,14,106] ?_
 exact qv (none,(0,([]:List (qAF×Nat)))) (resL (rs:=[.cell 2 24,.cell 3 29,.tmp 4]) rfl (.cell (i:=3) rfl tf24 rfl rfl (by simp) rfl (.cell (i:=2) rfl tf29 rfl rfl (by simp) rfl (.tmp rfl ResOk.nil))) rfl) (fun h=>by subst h;exact (.cons 0 rfl .nil))
 intro _
 refine au [90,30,3] ?_
 intro x20 e20 b21 o22 h23
 replace h23:a2=some ⟨b21,o22,none⟩:=h23
 refine qu mixed [] [⟨g11,26,[qAG x7.2.1,qAG x7.2.2.1,qAG x7.2.2.2.1]⟩,⟨g10,24,[.slice a8 x7.1.length c9.1]⟩,⟨g5,29,[qAG 0,qAG 0,qAG 0,qAG 0]⟩,⟨g4,24,[.slice none 0 0]⟩] [qz b21 (o22+(2:Int).toNat*1) ((eI .u8) x20),Sl (eI .u8) 1 (.slice a2 x1.length c3) x1] (.cons 0 rfl (.cons 0 rfl (.cons 0 rfl (.cons 0 rfl .nil)))) (qx 0 rfl (qx 1 rfl qr)) 12 rfl (qK 0 (.agg #[.slice a8 x7.1.length c9.1]) rfl rfl rfl (qH (i:=1) rfl tf24 rfl rfl (by simp) rfl) ?_)
 refine au [6,1] ?_
 refine qf (d:=29) (v:=.slice (some ⟨b21,o22,none⟩) x1.length c3) rfl (by rw[h23] <;> rfl) (qn 2 (.pointer (some ⟨b21,(o22+(2:Int).toNat*1),none⟩)) rfl rfl rfl (yJ Tryz.underlying27 tf5 rfl rfl (qF e20).1 (zX e20)) (qf (d:=29) (v:=.slice a2 x1.length c3) rfl (by rw[h23] <;> rfl) (qI 3 (.int .u8 x20) [] rfl rfl rfl (zi (j:=0) rfl tf5 rfl rfl (fun _=>rfl) rfl) ?_)))
 refine au [27,7,4] ?_
 refine qK 5 (.agg #[qAG x7.2.1,qAG x7.2.2.1,qAG x7.2.2.2.1]) rfl rfl rfl (qH (i:=0) rfl tf26 rfl rfl (by simp) rfl) ?_
 refine au [21,6,37,0] ?_
 rintro x24 e24 ⟨a25,c26⟩
 refine au [0] ?_
 refine qW (.cons 0 rfl (.cons 0 rfl (.cons 0 rfl (.cons 0 rfl .nil)))) (qx 0 rfl (qx 1 rfl qr)) ?_
 refine au [6,7,171,154,24,3] ?_
 refine qy ?_ (by intro c h;cases h)
 refine au [2,75,25,1,1] ?_
 refine qU 5 (fun ((x34,_):(Bool×Unit))=>([(0,.slice a2 x1.length c3),(2,.pointer (some ⟨g4,0,none⟩)),(3,.pointer (some ⟨g5,0,none⟩)),(5,.pointer (some ⟨g10,0,none⟩)),(7,qAG x7.2.2.2.2.1),(44,.bool x34)],[⟨g10,24,[.slice a8 x7.1.length c9.1]⟩,⟨g5,29,[qAG 0,qAG 0,qAG 0,qAG 0]⟩,⟨g4,24,[.slice none 0 0]⟩],[RoN eN59 rN59 59 1 (.slice a8 x7.1.length c9.1) x7.1 c9.2 []],[Sl (eI .u8) 1 (.slice a2 x1.length c3) x1],qcZ F x1 x7 x34)) ?_ ?_
 refine qb (os:=_) rfl ?_
 refine av [25,10] ?_ ?_
 intro h32
 refine qp (k:=39) rfl h32 ?_
 refine au [76,97] ?_
 exact qa (true,())
 intro h32
 refine qo (k:=39) rfl h32 ?_
 refine au [1,1,32,6] ?_
 intro x42 e42 _
 refine au [25,3,117] ?_
 exact qa ((!x42),())
 rintro ⟨x34,_⟩
 try dsimp only
 refine qb (os:=_) rfl ?_
 refine av [63] ?_ ?_
 intro _
 refine au [59] ?_
 refine qq (cells:=[.slice none 0 0]) rfl st24 rfl (by kernel_rfl) rfl (qq (cells:=[qAG 0,qAG 0,qAG 0,qAG 0]) rfl st29 rfl (by kernel_rfl) rfl ?_)
 refine au [25,14,25,7,106] ?_
 exact qv (none,(0,([]:List (qAF×Nat)))) (resL (rs:=[.cell 2 24,.cell 3 29,.tmp 4]) rfl (.cell (i:=2) rfl tf24 rfl rfl (by simp) rfl (.cell (i:=1) rfl tf29 rfl rfl (by simp) rfl (.tmp rfl ResOk.nil))) rfl) (fun h=>by subst h;exact (.cons 0 rfl .nil))
 intro _
 refine au [90] ?_
 refine qu mixed [] [⟨g10,24,[.slice a8 x7.1.length c9.1]⟩] [Sl (eI .u8) 1 (.slice a2 x1.length c3) x1] (.cons 0 rfl .nil) (qx 0 rfl qr) 14 rfl (qK 0 (.agg #[.slice a8 x7.1.length c9.1]) rfl rfl rfl (qH (i:=0) rfl tf24 rfl rfl (by simp) rfl) ?_)
 refine au [6,1,26,9,2,129,26,9,5] ?_
 refine qK 6 (.agg #[.slice a8 x7.1.length c9.1]) rfl rfl rfl (qH (i:=0) rfl tf24 rfl rfl (by simp) rfl) ?_
 refine au [6,9,21,7] ?_
 refine qg qli ?_
 rintro x38 e38 ⟨a39,c40⟩
 refine au [0,26,7,26,9,8] ?_
 refine qn 10 (.agg #[qAG (x1.length:Int),qAG (x7.1.length:Int),qAG (x38.length:Int),qAG x7.2.2.2.2.1]) rfl rfl rfl (qcR (cells:=[qAG (x1.length:Int),qAG (x7.1.length:Int),qAG (x38.length:Int),qAG x7.2.2.2.2.1]) st29 rfl (by kernel_rfl)) ?_
 refine au [21,11,25,14,0,26,7,21,12,25,7,0,26,7,6,13,24,3] ?_
 refine qy ?_ (by intro c h;cases h)
 refine au [2,12] ?_
 exact qv (a8,c9) (resL (rs:=[.cell 2 24,.cell 3 29,.tmp 4]) rfl (.cell (i:=2) rfl tf24 rfl rfl (by simp) rfl (.cell (i:=1) rfl tf29 rfl rfl (by simp) rfl (.tmp rfl ResOk.nil))) rfl) (fun h=>by subst h;exact (.cons 1 rfl .nil))
set_option maxHeartbeats 4000000 in
theorem qlr {F:Nat}{x1:List (qAE)}{a2:qAF}{c3:Nat}{s3:List (qAF×Nat)}{x4:List (qAE)}{a5:qAF}{c6:Nat}{s6:List (qAF×Nat)}{r:Bool}(hm:qcL F x1 x4=some r) :
    Pure Tryz.prog 32 [.slice a2 x1.length c3,.slice a5 x4.length c6] [SlN eN59 iN59 1 (.slice a2 x1.length c3) x1 s3,SlN eN59 iN59 1 (.slice a5 x4.length c6) x4 s6] Unit (fun _=>.bool r) (fun _=>[]) (fun _=>[]):=by
 refine qk Tryz.func32 rfl Tryz.ntmps32 rfl hm (fun w=>?_)
 refine av [102,75,18,1,18,85] ?_ ?_
 intro _
 exact az [59,96]
 intro _
 refine au [64] ?_
 refine qc (fun ((_,_):(Unit×Unit))=>([],[],[],[],qgq F)) ?_ ?_
 refine au [168] ?_
 refine qi (fun ((x0,_):(Int×Unit))=>([(0,.slice a2 x1.length c3),(1,.slice a5 x4.length c6),(5,qAG x0)],[],[],[SlN eN59 iN59 1 (.slice a2 x1.length c3) x1 s3,SlN eN59 iN59 1 (.slice a5 x4.length c6) x4 s6])) (fun k (s:(Int×Unit))=>vB F x1 x4 k s.1) (0,()) F ?_
 intro k0
 rintro ⟨x0,_⟩
 try dsimp only
 refine qm (m':=qcq F x1 x4 (vB F x1 x4 k0) x0) rfl ?_
 refine av [3,130] ?_ ?_
 intro _
 refine au [91,3] ?_
 refine qho (j:=0) kL (by decide) rfl ?_
 intro x2 e0 g0 b0 o0 h0
 replace h0:a2=some ⟨b0,o0,none⟩:=h0
 refine qho (j:=3) kL (by decide) rfl ?_
 intro x3 e1 g1 b1 o1 h1
 replace h1:a5=some ⟨b1,o1,none⟩:=h1
 refine qu mixed [] [] [qz b1 (o1+x0.toNat*1) (eN59 (x3,g1)),Sl (eI .i64) 1 (.slice g1.1 x3.length g1.2) x3,qz b0 (o0+x0.toNat*1) (eN59 (x2,g0)),Sl (eI .i64) 1 (.slice g0.1 x2.length g0.2) x2,SlN eN59 iN59 1 (.slice a2 x1.length c3) x1 s3,SlN eN59 iN59 1 (.slice a5 x4.length c6) x4 s6] .nil (qx 0 rfl (qx 1 rfl (qx 2 rfl (qx 3 rfl (qx 4 rfl (qx 5 rfl qr)))))) 10 rfl ?_
 refine au [81] ?_
 refine qf (d:=17) (v:=.slice (some ⟨b0,o0,none⟩) x1.length c3) rfl (by rw[h0] <;> rfl) (qn 2 (.pointer (some ⟨b0,(o0+x0.toNat*1),none⟩)) rfl rfl rfl (yJ Tryz.underlying22 tf59 rfl rfl (qF e0).1 (zX e0)) (qf (d:=17) (v:=.slice a2 x1.length c3) rfl (by rw[h0] <;> rfl) (qI 3 (.slice g0.1 x2.length g0.2) [] rfl rfl rfl (zi (j:=2) rfl tf59 rfl rfl (fun _=>rfl) rfl) ?_)))
 refine au [118] ?_
 refine qf (d:=21) (v:=.slice (some ⟨b1,o1,none⟩) x4.length c6) rfl (by rw[h1] <;> rfl) (qn 6 (.pointer (some ⟨b1,(o1+x0.toNat*1),none⟩)) rfl rfl rfl (yJ Tryz.underlying22 tf59 rfl rfl (qF e1).1 (zX e1)) (qf (d:=21) (v:=.slice a5 x4.length c6) rfl (by rw[h1] <;> rfl) (qI 7 (.slice g1.1 x3.length g1.2) [] rfl rfl rfl (zi (j:=0) rfl tf59 rfl rfl (fun _=>rfl) rfl) ?_)))
 refine au [21,8,32,5] ?_
 intro x5 e2 _
 refine au [0] ?_
 refine qW .nil (qx 0 rfl (qx 1 rfl (qx 2 rfl (qx 3 rfl (qx 4 rfl (qx 5 rfl qr)))))) ?_
 refine au [6,9,24,3] ?_
 refine qy ?_ (by intro c h;cases h)
 refine av [2,8] ?_ ?_
 intro _
 exact az [59,61,78,9,160]
 intro _
 refine au [157,2,89,0] ?_
 exact qh (iadd .i64 x0 1,())
 intro _
 exact az [149]
 rintro ⟨_,_⟩
 try dsimp only
 exact az [59,95]
theorem qlq {F:Nat}{x1:List (qAE)}{a2:qAF}{c3:Nat}{s3:List (qAF×Nat)}{x4:List (qAE)}{a5:qAF}{c6:Nat}{s6:List (qAF×Nat)}{r:Bool}(hm:jL F x1 x4=some r) :
    Pure Tryz.prog 17 [.agg #[.slice a2 x1.length c3],.agg #[.slice a5 x4.length c6]] [SlN eN59 iN59 1 (.slice a2 x1.length c3) x1 s3,SlN eN59 iN59 1 (.slice a5 x4.length c6) x4 s6] Unit (fun _=>.bool r) (fun _=>[]) (fun _=>[]):=by
 refine qk Tryz.func17 rfl Tryz.ntmps17 rfl hm (fun w=>?_)
 refine au [155] ?_
 intro g7
 refine au [24,9] ?_
 intro g8
 refine au [58,59,93,62,37,1] ?_
 intro x9 e9 _
 exact az [95]
theorem qle (F:Nat)  (r:List (qAE))(hm:qep F =some r) :
    Pure Tryz.prog 31 [] [] (qAF×(Nat×List (qAF×Nat))) (fun g=>.agg #[.slice g.1 r.length g.2.1]) (fun g=>[RoN eN59 rN59 59 1 (.slice g.1 r.length g.2.1) r g.2.2 []]) (fun _=>[]):=by
 refine qk Tryz.func31 rfl Tryz.ntmps31 rfl hm (fun w=>?_)
 refine au [37,2,128] ?_
 intro g1
 refine au [57,59] ?_
 refine qt (vs:=[qAG 1,qAG 2,qAG 3,qAG 5]) (ys:=([1,2,3,5]:qAE)) (ql .i64) (by decide) rfl Tryz.underlying59 tf3 rfl rfl rfl rfl rfl (by decide) (fun a2 c3=>qt (vs:=[qAG 1,qAG 2,qAG 3,qAG 5]) (ys:=([1,2,3,5]:qAE)) (ql .i64) (by decide) rfl Tryz.underlying59 tf3 rfl rfl rfl rfl rfl (by decide) (fun a4 c5=>qt (vs:=[qAG 0,qAG 1,qAG 2,qAG 3,qAG 5]) (ys:=([0,1,2,3,5]:qAE)) (ql .i64) (by decide) rfl Tryz.underlying59 tf3 rfl rfl rfl rfl rfl (by decide) (fun a6 c7=>qt (vs:=[qAG 4]) (ys:=([4]:qAE)) (ql .i64) (by decide) rfl Tryz.underlying59 tf3 rfl rfl rfl rfl rfl (by decide) (fun a8 c9=>qt (vs:=[qAG 1,qAG 2,qAG 3]) (ys:=([1,2,3]:qAE)) (ql .i64) (by decide) rfl Tryz.underlying59 tf3 rfl rfl rfl rfl rfl (by decide) (fun a10 c11=>?_)))))
 refine au [27,14] ?_
 refine qt (vs:=[.slice a2 ([1,2,3,5]:qAE).length c3,.slice a4 ([1,2,3,5]:qAE).length c5,.slice a6 ([0,1,2,3,5]:qAE).length c7,.slice none ([]:qAE).length 0,.slice a8 ([4]:qAE).length c9,.slice a10 ([1,2,3]:qAE).length c11]) (ys:=([(([1,2,3,5]:qAE),(a2,c3)),(([1,2,3,5]:qAE),(a4,c5)),(([0,1,2,3,5]:qAE),(a6,c7)),(([]:qAE),(none,0)),(([4]:qAE),(a8,c9)),(([1,2,3]:qAE),(a10,c11))]:List (qAE×(qAF×Nat)))) kL (by decide) rfl Tryz.underlying22 tf59 rfl rfl rfl rfl rfl (by decide) (fun a12 c13=>qdt (rin:=rN59) (i:=0) ([([1,2,3,5]:qAE),([1,2,3,5]:qAE),([0,1,2,3,5]:qAE),([]:qAE),([4]:qAE),([1,2,3]:qAE)]:List (qAE)) ([(a2,c3),(a4,c5),(a6,c7),(none,0),(a8,c9),(a10,c11)]:List (qAF×Nat)) rfl rfl (.cons 5 rfl (.cons 4 rfl (.cons 3 rfl (.cons 0 rfl (.cons 1 rfl (.cons 0 rfl .nil)))))) (qq (cells:=[.slice a12 ([([1,2,3,5]:qAE),([1,2,3,5]:qAE),([0,1,2,3,5]:qAE),([]:qAE),([4]:qAE),([1,2,3]:qAE)]:List (qAE)).length c13]) rfl st24 rfl (by kernel_rfl) rfl ?_))
 refine au [84,12] ?_
 exact qv (a12,(c13,([(a2,c3),(a4,c5),(a6,c7),(none,0),(a8,c9),(a10,c11)]:List (qAF×Nat)))) (resL (rs:=[.cell 0 24]) rfl (.cell (i:=0) rfl tf24 rfl rfl (by simp) rfl ResOk.nil) rfl) (fun h=>by subst h;exact (.cons 0 rfl .nil))
set_option maxHeartbeats 4000000 in
theorem qld (F:Nat)  (r:Bool)(hm:qeo F =some r) :
    Pure Tryz.prog 15 [] [] Unit (fun _=>.bool r) (fun _=>[]) (fun _=>[]):=by
 refine qk Tryz.func15 rfl Tryz.ntmps15 rfl hm (fun w=>?_)
 refine au [37,2,68,59] ?_
 refine qq (cells:=[qAG 999,qAG 99,qAG 99,qAG 999]) rfl st29 rfl (by kernel_rfl) rfl ?_
 refine au [24,12] ?_
 intro g1
 refine au [84,59] ?_
 refine qt (vs:=[qAG 1]) (ys:=([1]:qAE)) (ql .i64) (by decide) rfl Tryz.underlying59 tf3 rfl rfl rfl rfl rfl (by decide) (fun a2 c3=>?_)
 refine au [29,11,27,14,29,11] ?_
 refine qt (vs:=[.slice a2 ([1]:qAE).length c3,.slice none 0 0]) (ys:=([(([1]:qAE),(a2,c3)),(([]:qAE),(none,0))]:List (qAE×(qAF×Nat)))) kL (by decide) rfl Tryz.underlying22 tf59 rfl rfl rfl rfl rfl (by decide) (fun a4 c5=>qhM (inn:=iN59) ([([1]:qAE),([]:qAE)]:List (qAE)) ([(a2,c3),(none,0)]:List (qAF×Nat)) 0 rfl rfl (qV 1 rfl (qV 0 rfl qb1)) (qq (cells:=[.slice a4 ([([1]:qAE),([]:qAE)]:List (qAE)).length c5]) rfl st24 rfl (by kernel_rfl) rfl (qq (cells:=[qAG 0,qAG 0,qAG 0]) rfl st26 rfl (by kernel_rfl) rfl ?_)))
 refine au [32,7] ?_
 rintro x6 e6 ⟨a7,c8⟩
 refine au [92,79,59,37,3] ?_
 rintro x9 e9 ⟨a10,c11⟩
 refine qq (cells:=[qAG 2,qAG 3,qAG 1]) rfl st26 rfl (by kernel_rfl) rfl ?_
 refine au [32,7] ?_
 rintro x12 e12 ⟨a13,c14⟩
 refine au [92,79,60,25,4,29,13] ?_
 rintro x15 e15 ⟨a16,c17⟩
 refine au [148,24,12] ?_
 intro g18
 refine au [24,10,79,60,25,9,29,13] ?_
 rintro x19 e19 ⟨a20,c21⟩
 refine au [148,24,12] ?_
 intro g22
 refine au [24,10,79,60,37,4] ?_
 intro x23 e23 _
 refine au [92,24,12] ?_
 intro g24
 refine au [167,60] ?_
 refine qq (cells:=[qAG 999,qAG 99,qAG 99,qAG 3]) rfl st29 rfl (by kernel_rfl) rfl ?_
 refine au [29,13] ?_
 rintro x25 e25 ⟨a26,c27⟩
 refine au [148,24,12] ?_
 intro g28
 refine au [24,10,79,59] ?_
 refine qt (vs:=[.int .u8 76,.int .u8 87,.int .u8 1]) (ys:=([76,87,1]:qAE)) (ql .u8) (by decide) rfl Tryz.underlying27 tf5 rfl rfl rfl rfl rfl (by decide) (fun a29 c30=>?_)
 refine au [31,9,29,13] ?_
 rintro x31 e31 ⟨a32,c33⟩
 refine au [148,24,12] ?_
 intro g34
 refine au [24,10,79] ?_
 refine qc (fun ((x59,_):(Bool×Unit))=>([(0,.bool x59)],[],[],[],q6 F x59)) ?_ ?_
 refine qu mixed [] [⟨g34,24,[.slice a32 x31.1.length c33.1]⟩,⟨g28,24,[.slice a26 x25.1.length c27.1]⟩,⟨g24,29,[qAG x23.1,qAG x23.2.1,qAG x23.2.2.1,qAG x23.2.2.2.1]⟩,⟨g22,24,[.slice a20 x19.1.length c21.1]⟩,⟨g18,24,[.slice a16 x15.1.length c17.1]⟩,⟨g1,29,[qAG 999,qAG 99,qAG 99,qAG 999]⟩] [SlN eN59 iN59 1 (.slice a4 ([([1]:qAE),([]:qAE)]:List (qAE)).length c5) ([([1]:qAE),([]:qAE)]:List (qAE)) ([(a2,c3),(none,0)]:List (qAF×Nat)),Sl (eI .i64) 1 (.slice none ([]:qAE).length 0) ([]:qAE),Sl (eI .i64) 1 (.slice a2 ([1]:qAE).length c3) ([1]:qAE)] (.cons 0 rfl (.cons 0 rfl (.cons 0 rfl (.cons 0 rfl (.cons 0 rfl (.cons 0 rfl .nil)))))) (qx 0 rfl (qx 1 rfl (qx 2 rfl qr))) 57 rfl ?_
 refine au [6,0,21,1] ?_
 refine qt (vs:=[.int .u8 76,.int .u8 87,.int .u8 1,.int .u8 2,.int .u8 1,.int .u8 2,.int .u8 0]) (ys:=([76,87,1,2,1,2,0]:qAE)) (ql .u8) (by decide) rfl Tryz.underlying27 tf5 rfl rfl rfl rfl rfl (by decide) (fun a60 c61=>?_)
 refine au [0,32,8,21,2,32,6] ?_
 intro x62 e62 _
 refine av [0,32,8,6,3,26,14] ?_ ?_
 intro h63
 refine qf (d:=71) (v:=.bool true) rfl (by rw[h63] <;> rfl) ?_
 refine av [118,150,26,14] ?_ ?_
 intro h64
 refine qf (d:=75) (v:=.bool true) rfl (by rw[h64] <;> rfl) ?_
 refine av [171,154,26,14] ?_ ?_
 intro h65
 refine qf (d:=79) (v:=.bool true) rfl (by rw[h65] <;> rfl) ?_
 refine au [24,2,12] ?_
 refine qK 13 _ rfl rfl rfl (qH (i:=4) rfl inferInstance rfl rfl (fun _=>rfl) rfl) ?_
 refine au [21,14] ?_
 refine qt (vs:=[qAG 1]) (ys:=([1]:qAE)) (ql .i64) (by decide) rfl Tryz.underlying59 tf3 rfl rfl rfl rfl rfl (by decide) (fun a66 c67=>?_)
 refine au [0,32,8,21,15,29,11,27,14] ?_
 refine qt (vs:=[.slice a66 ([1]:qAE).length c67,.slice none 0 0]) (ys:=([(([1]:qAE),(a66,c67)),(([]:qAE),(none,0))]:List (qAE×(qAF×Nat)))) kL (by decide) rfl Tryz.underlying22 tf59 rfl rfl rfl rfl rfl (by decide) (fun a68 c69=>qhM (inn:=iN59) ([([1]:qAE),([]:qAE)]:List (qAE)) ([(a66,c67),(none,0)]:List (qAF×Nat)) 0 rfl rfl (qV 0 rfl (qV 2 rfl qb1)) ?_)
 refine au [0,30,5,21,16,37,1] ?_
 intro x70 e70 _
 refine av [0,30,5,153,26,14] ?_ ?_
 intro h71
 refine qf (d:=86) (v:=.bool true) rfl (by rw[h71] <;> rfl) ?_
 refine av [6,19,6,20,152,26,14] ?_ ?_
 intro h72
 refine qf (d:=90) (v:=.bool true) rfl (by rw[h72] <;> rfl) ?_
 refine av [6,23,6,24,6,25,6,26,26,14] ?_ ?_
 intro h73
 refine qf (d:=94) (v:=.bool true) rfl (by rw[h73] <;> rfl) (qK 27 (.agg #[.slice a20 x19.1.length c21.1]) rfl rfl rfl (qH (i:=3) rfl tf24 rfl rfl (by simp) rfl) ?_)
 refine au [21,28,37,3] ?_
 rintro x74 e74 ⟨a75,c76⟩
 refine au [0,30,5,21,29,37,5] ?_
 intro x77 e77 _
 refine av [0,30,5,6,30,6,31,26,14] ?_ ?_
 intro h78
 refine qf (d:=99) (v:=.bool true) rfl (by rw[h78] <;> rfl) ?_
 refine av [6,32,6,33,6,34,6,35,26,14] ?_ ?_
 intro h79
 refine qf (d:=103) (v:=.bool true) rfl (by rw[h79] <;> rfl) ?_
 refine av [6,36,6,37,6,38,6,39,26,14] ?_ ?_
 intro h80
 refine qf (d:=107) (v:=.bool true) rfl (by rw[h80] <;> rfl) (qK 40 (.agg #[qAG x23.1,qAG x23.2.1,qAG x23.2.2.1,qAG x23.2.2.2.1]) rfl rfl rfl (qH (i:=2) rfl tf29 rfl rfl (by simp) rfl) (qn 41 (.agg #[qAG 7,qAG 2,qAG 1,qAG 4]) rfl rfl rfl (qcR (cells:=[qAG 7,qAG 2,qAG 1,qAG 4]) st29 rfl (by kernel_rfl)) (qn 42 (.bool (((x23.1:Int) == 7) && (((x23.2.1:Int) == 2) && (((x23.2.2.1:Int) == 1) && ((x23.2.2.2.1:Int) == 4))))) rfl rfl rfl (qwt rfl rfl se29) ?_)))
 refine av [151,26,14] ?_ ?_
 intro h81
 refine qf (d:=112) (v:=.bool true) rfl (by rw[h81] <;> rfl) ?_
 refine av [6,45,6,46,136,26,14] ?_ ?_
 intro h82
 refine qf (d:=116) (v:=.bool true) rfl (by rw[h82] <;> rfl) ?_
 refine av [6,49,6,50,122,26,14] ?_ ?_
 intro h83
 refine qf (d:=120) (v:=.bool true) rfl (by rw[h83] <;> rfl) ?_
 refine au [6,53,6,54,142] ?_
 exact qy (qa (((x31.2.2:Int) == 1),())) (by intro c h;cases h)
 intro h83
 refine qf (d:=120) (v:=.bool false) rfl (by rw[h83] <;> rfl) ?_
 refine au [100,142] ?_
 exact qy (qa (false,())) (by intro c h;cases h)
 intro h82
 refine qf (d:=116) (v:=.bool false) rfl (by rw[h82] <;> rfl) ?_
 refine au [104,122,100,142] ?_
 exact qy (qa (false,())) (by intro c h;cases h)
 intro h81
 refine qf (d:=112) (v:=.bool false) rfl (by rw[h81] <;> rfl) ?_
 refine au [110,136,104,122,100,142] ?_
 exact qy (qa (false,())) (by intro c h;cases h)
 intro h80
 refine qf (d:=107) (v:=.bool false) rfl (by rw[h80] <;> rfl) ?_
 refine au [11,40,127,151,110,136,104,122,100,142] ?_
 exact qy (qa (false,())) (by intro c h;cases h)
 intro h79
 refine qf (d:=103) (v:=.bool false) rfl (by rw[h79] <;> rfl) ?_
 refine au [145,6,38,161,127,151,110,136,104,122,100,142] ?_
 exact qy (qa (false,())) (by intro c h;cases h)
 intro h78
 refine qf (d:=99) (v:=.bool false) rfl (by rw[h78] <;> rfl) ?_
 refine au [164,6,34,6,35,145,6,38,161,127,151,110,136,104,122,100,142] ?_
 exact qy (qa (false,())) (by intro c h;cases h)
 intro h73
 refine qf (d:=94) (v:=.bool false) rfl (by rw[h73] <;> rfl) ?_
 refine au [11,27,11,28,11,29,6,30,6,31,164,6,34,6,35,145,6,38,161,127,151,110,136,104,122,100,142] ?_
 exact qy (qa (false,())) (by intro c h;cases h)
 intro h72
 refine qf (d:=90) (v:=.bool false) rfl (by rw[h72] <;> rfl) ?_
 refine au [11,23,11,24,6,25,6,26,11,27,11,28,11,29,6,30,6,31,164,6,34,6,35,145,6,38,161,127,151,110,136,104,122,100,142] ?_
 exact qy (qa (false,())) (by intro c h;cases h)
 intro h71
 refine qf (d:=86) (v:=.bool false) rfl (by rw[h71] <;> rfl) ?_
 refine au [111,152,11,23,11,24,6,25,6,26,11,27,11,28,11,29,6,30,6,31,164,6,34,6,35,145,6,38,161,127,151,110,136,104,122,100,142] ?_
 exact qy (qa (false,())) (by intro c h;cases h)
 intro h65
 refine qf (d:=79) (v:=.bool false) rfl (by rw[h65] <;> rfl) ?_
 refine au [156,146,153,111,152,11,23,11,24,6,25,6,26,11,27,11,28,11,29,6,30,6,31,164,6,34,6,35,145,6,38,161,127,151,110,136,104,122,100,142] ?_
 exact qy (qa (false,())) (by intro c h;cases h)
 intro h64
 refine qf (d:=75) (v:=.bool false) rfl (by rw[h64] <;> rfl) ?_
 refine au [141,154,156,146,153,111,152,11,23,11,24,6,25,6,26,11,27,11,28,11,29,6,30,6,31,164,6,34,6,35,145,6,38,161,127,151,110,136,104,122,100,142] ?_
 exact qy (qa (false,())) (by intro c h;cases h)
 intro h63
 refine qf (d:=71) (v:=.bool false) rfl (by rw[h63] <;> rfl) ?_
 refine au [11,4,11,5,150,141,154,156,146,153,111,152,11,23,11,24,6,25,6,26,11,27,11,28,11,29,6,30,6,31,164,6,34,6,35,145,6,38,161,127,151,110,136,104,122,100,142] ?_
 exact qy (qa (false,())) (by intro c h;cases h)
 rintro ⟨x59,_⟩
 try dsimp only
 exact az [12,19]
set_option maxHeartbeats 4000000 in
theorem qlc (F:Nat)(x1:List (qAE))(a2:qAF)(c3:(Nat×List (qAF×Nat)))(x4:Int)(x5:Int)(x6:Int)(x7:Int)(x8:qAE)(a9:qAF)(c10:Nat)(x11:Int)(x12:Int)(x13:Int)(x14:Int)(r:Bool)(hm:qf9 F x1 x4 x5 x6 x7 x8 x11 x12 x13 x14=some r) :
    Pure Tryz.prog 3 [.agg #[.slice a2 x1.length c3.1],qAG x4,.agg #[qAG x5,qAG x6,qAG x7],.slice a9 x8.length c10,.agg #[qAG x11,qAG x12,qAG x13,qAG x14]] [SlN eN59 iN59 1 (.slice a2 x1.length c3.1) x1 c3.2,Sl (eI .u8) 1 (.slice a9 x8.length c10) x8] Unit (fun _=>.bool r) (fun _=>[]) (fun _=>[]):=by
 refine qk Tryz.func3 rfl Tryz.ntmps3 rfl hm (fun w=>?_)
 refine au [28,9,72] ?_
 intro g15
 refine au [24,9] ?_
 intro g16
 refine au [24,9] ?_
 intro g17
 refine au [58,59,26,13,1,25,9,32,7] ?_
 rintro x18 e18 ⟨a19,c20⟩
 refine au [92,79,60,25,4,29,13] ?_
 rintro x21 e21 ⟨a22,c23⟩
 refine au [148,24,12] ?_
 intro g24
 refine au [24,10,79,60,37,4] ?_
 intro x25 e25 _
 refine au [92,24,12] ?_
 intro g26
 refine au [167,59,31,9,1,30,11,37,0] ?_
 rintro x27 e27 ⟨a28,c29⟩
 refine au [92,79,60] ?_
 refine qg qmW ?_
 rintro x30 e30 ⟨a31,c32⟩
 refine au [148,24,12] ?_
 intro g33
 refine au [24,12] ?_
 intro g34
 refine au [25,7,167,3] ?_
 refine qu mixed [] [⟨g34,29,[qAG x30.2.1,qAG x30.2.2.1,qAG x30.2.2.2.1,qAG x30.2.2.2.2.1]⟩,⟨g33,24,[.slice a31 x30.1.length c32.1]⟩,⟨g26,29,[qAG x25.1,qAG x25.2.1,qAG x25.2.2.1,qAG x25.2.2.2.1]⟩,⟨g24,24,[.slice a22 x21.1.length c23.1]⟩,⟨g17,29,[qAG x11,qAG x12,qAG x13,qAG x14]⟩,⟨g16,26,[qAG x5,qAG x6,qAG x7]⟩,⟨g15,24,[.slice a2 x1.length c3.1]⟩] [SlN eN59 iN59 1 (.slice a2 x1.length c3.1) x1 c3.2,Sl (eI .u8) 1 (.slice a9 x8.length c10) x8] (.cons 0 rfl (.cons 0 rfl (.cons 0 rfl (.cons 0 rfl (.cons 0 rfl (.cons 0 rfl (.cons 0 rfl .nil))))))) (qx 0 rfl (qx 1 rfl qr)) 5 rfl ?_
 refine au [6,0,24,2,1,25,8,2,6,3,6,4,24,3] ?_
 refine qy ?_ (by intro c h;cases h)
 refine au [2] ?_
 refine qc (fun ((x43,_):(Int×Unit))=>([(11,.slice a19 x18.1.length c20),(12,qAG x18.2),(13,.pointer (some ⟨g24,0,none⟩)),(14,qAG x21.2.1),(15,qAG x21.2.2),(16,.pointer (some ⟨g26,0,none⟩)),(17,qAG x25.2.2.2.2),(18,.slice a28 x27.1.length c29),(19,qAG x27.2),(20,.pointer (some ⟨g33,0,none⟩)),(21,.pointer (some ⟨g34,0,none⟩)),(22,qAG x30.2.2.2.2.2),(23,qAG x43),(24,qAG x30.2.2.2.2.1)],[⟨g34,29,[qAG x30.2.1,qAG x30.2.2.1,qAG x30.2.2.2.1,qAG x30.2.2.2.2.1]⟩,⟨g33,24,[.slice a31 x30.1.length c32.1]⟩,⟨g26,29,[qAG x25.1,qAG x25.2.1,qAG x25.2.2.1,qAG x25.2.2.2.1]⟩,⟨g24,24,[.slice a22 x21.1.length c23.1]⟩],[Ro (eI .u8) 5 1 (.slice a19 x18.1.length c20) x18.1,Ro (eI .u8) 5 1 (.slice a28 x27.1.length c29) x27.1,RoN eN59 rN59 59 1 (.slice a31 x30.1.length c32.1) x30.1 c32.2 [],RoN eN59 rN59 59 1 (.slice a22 x21.1.length c23.1) x21.1 c23.2 []],[],kr F x18 x21 x25 x27 x30 x43)) ?_ ?_
 refine av [169,13,29,7,77] ?_ ?_
 intro _
 refine au [4,5,0] ?_
 exact qa ((8:Int),())
 intro _
 refine au [60,144] ?_
 refine qU 20 (fun ((x68,_):(Bool×Unit))=>([(11,.slice a19 x18.1.length c20),(12,qAG x18.2),(13,.pointer (some ⟨g24,0,none⟩)),(14,qAG x21.2.1),(15,qAG x21.2.2),(16,.pointer (some ⟨g26,0,none⟩)),(17,qAG x25.2.2.2.2),(18,.slice a28 x27.1.length c29),(19,qAG x27.2),(20,.pointer (some ⟨g33,0,none⟩)),(21,.pointer (some ⟨g34,0,none⟩)),(22,qAG x30.2.2.2.2.2),(23,qAG x30.2.2.2.2.2),(24,qAG x30.2.2.2.2.1),(87,.bool x68)],[⟨g34,29,[qAG x30.2.1,qAG x30.2.2.1,qAG x30.2.2.2.1,qAG x30.2.2.2.2.1]⟩,⟨g33,24,[.slice a31 x30.1.length c32.1]⟩,⟨g26,29,[qAG x25.1,qAG x25.2.1,qAG x25.2.2.1,qAG x25.2.2.2.1]⟩,⟨g24,24,[.slice a22 x21.1.length c23.1]⟩],[Ro (eI .u8) 5 1 (.slice a19 x18.1.length c20) x18.1,Ro (eI .u8) 5 1 (.slice a28 x27.1.length c29) x27.1,RoN eN59 rN59 59 1 (.slice a31 x30.1.length c32.1) x30.1 c32.2 [],RoN eN59 rN59 59 1 (.slice a22 x21.1.length c23.1) x21.1 c23.2 []],[],vq F x18 x21 x25 x27 x30 x68)) ?_ ?_
 refine qb (os:=_) rfl ?_
 refine av [25,10] ?_ ?_
 intro h65
 refine qp (k:=67) rfl h65 ?_
 refine au [62,13,29,7,24,4,1] ?_
 refine qC 6 (decide (x12<x30.2.2.1)) [(9,.pointer (some ⟨g17,0,none⟩)),(11,.slice a19 x18.1.length c20),(12,qAG x18.2),(13,.pointer (some ⟨g24,0,none⟩)),(14,qAG x21.2.1),(15,qAG x21.2.2),(16,.pointer (some ⟨g26,0,none⟩)),(17,qAG x25.2.2.2.2),(18,.slice a28 x27.1.length c29),(19,qAG x27.2),(20,.pointer (some ⟨g33,0,none⟩)),(21,.pointer (some ⟨g34,0,none⟩)),(22,qAG x30.2.2.2.2.2),(23,qAG x30.2.2.2.2.2),(24,qAG x30.2.2.2.2.1),(67,.bool true),(79,.bool ((decide (x12<x30.2.2.1)) || (decide (x13<x30.2.2.2.1))))] (fun h70=>?_) (fun h70=>?_) ?_
 refine qb (os:=_) rfl (qp (k:=73) rfl h70 ?_)
 refine au [76,174] ?_
 refine qd (d:=79) (v:=.bool ((decide (x12<x30.2.2.1)) || (decide (x13<x30.2.2.2.1)))) rfl (by rw[h70];simp only[qyg]) ?_
 exact az [67]
 refine qb (os:=_) rfl (qo (k:=73) rfl h70 ?_)
 refine au [62,13,29,7,80] ?_
 refine qd (d:=79) (v:=.bool ((decide (x12<x30.2.2.1)) || (decide (x13<x30.2.2.2.1)))) rfl (by rw[h70];simp only[qyd]) ?_
 exact az [67]
 refine qb (os:=_) rfl ?_
 refine au [1] ?_
 refine qC 6 ((decide (x12<x30.2.2.1)) || (decide (x13<x30.2.2.2.1))) [(11,.slice a19 x18.1.length c20),(12,qAG x18.2),(13,.pointer (some ⟨g24,0,none⟩)),(14,qAG x21.2.1),(15,qAG x21.2.2),(16,.pointer (some ⟨g26,0,none⟩)),(17,qAG x25.2.2.2.2),(18,.slice a28 x27.1.length c29),(19,qAG x27.2),(20,.pointer (some ⟨g33,0,none⟩)),(21,.pointer (some ⟨g34,0,none⟩)),(22,qAG x30.2.2.2.2.2),(23,qAG x30.2.2.2.2.2),(24,qAG x30.2.2.2.2.1),(67,.bool true),(86,.bool (((decide (x12<x30.2.2.1)) || (decide (x13<x30.2.2.2.1))) || (decide (x14<x30.2.2.2.2.1))))] (fun h71=>?_) (fun h71=>?_) ?_
 refine qb (os:=_) rfl (qp (k:=80) rfl h71 ?_)
 refine au [76,174] ?_
 refine qd (d:=86) (v:=.bool (((decide (x12<x30.2.2.1)) || (decide (x13<x30.2.2.2.1))) || (decide (x14<x30.2.2.2.2.1)))) rfl (by rw[h71];simp only[qyg]) ?_
 exact az [67]
 refine qb (os:=_) rfl (qo (k:=80) rfl h71 ?_)
 refine au [62,13,29,7,80] ?_
 refine qd (d:=86) (v:=.bool (((decide (x12<x30.2.2.1)) || (decide (x13<x30.2.2.2.1))) || (decide (x14<x30.2.2.2.2.1)))) rfl (by rw[h71];simp only[qyd]) ?_
 exact az [67]
 refine qb (os:=_) rfl ?_
 refine au [97] ?_
 exact qa ((((decide (x12<x30.2.2.1)) || (decide (x13<x30.2.2.2.1))) || (decide (x14<x30.2.2.2.2.1))),())
 intro h65
 refine qo (k:=67) rfl h65 ?_
 refine au [76,76,76,76,71,7,117] ?_
 exact qa (false,())
 rintro ⟨x68,_⟩
 try dsimp only
 refine qb (os:=_) rfl ?_
 refine av [63] ?_ ?_
 intro _
 refine au [4,5,0] ?_
 exact qa ((8:Int),())
 intro _
 refine au [10] ?_
 exact qa (x30.2.2.2.2.2,())
 rintro ⟨x43,_⟩
 try dsimp only
 refine qc (fun (((x46,x49),(a47,c48)):((Int×List (qAE))×(qAF×(Nat×List (qAF×Nat)))))=>([(11,.slice a19 x18.1.length c20),(12,qAG x18.2),(13,.pointer (some ⟨g24,0,none⟩)),(14,qAG x21.2.1),(15,qAG x21.2.2),(16,.pointer (some ⟨g26,0,none⟩)),(17,qAG x25.2.2.2.2),(18,.slice a28 x27.1.length c29),(19,qAG x27.2),(20,.pointer (some ⟨g33,0,none⟩)),(21,.pointer (some ⟨g34,0,none⟩)),(22,qAG x30.2.2.2.2.2),(23,qAG x43),(24,qAG x46)],[⟨g34,29,[qAG x30.2.1,qAG x30.2.2.1,qAG x30.2.2.2.1,qAG x30.2.2.2.2.1]⟩,⟨g33,24,[.slice a47 x49.length c48.1]⟩,⟨g26,29,[qAG x25.1,qAG x25.2.1,qAG x25.2.2.1,qAG x25.2.2.2.1]⟩,⟨g24,24,[.slice a22 x21.1.length c23.1]⟩],[Ro (eI .u8) 5 1 (.slice a19 x18.1.length c20) x18.1,Ro (eI .u8) 5 1 (.slice a28 x27.1.length c29) x27.1,RoN eN59 rN59 59 1 (.slice a47 x49.length c48.1) x49 c48.2 [],RoN eN59 rN59 59 1 (.slice a22 x21.1.length c23.1) x21.1 c23.2 []],[],j2 F x18 x21 x25 x27 x30 x43 x46 x49)) ?_ ?_
 refine av [60,85] ?_ ?_
 intro _
 refine au [4] ?_
 refine qq (cells:=[.slice none 0 0]) rfl st24 rfl (by kernel_rfl) rfl ?_
 refine au [25,7,5,0,25,12] ?_
 exact qa (((0:Int),([]:List (qAE))),(none,(0,([]:List (qAF×Nat)))))
 intro _
 refine au [10] ?_
 exact qa ((x30.2.2.2.2.1,x30.1),(a31,c32))
 rintro ⟨⟨x46,x49⟩,⟨a47,c48⟩⟩
 try dsimp only
 refine au [59] ?_
 refine qg (fun h=>qld F _ h) ?_
 intro x50 e50 _
 refine au [1] ?_
 refine qU 4 (fun ((x53,_):(Bool×Unit))=>([(12,qAG x18.2),(13,.pointer (some ⟨g24,0,none⟩)),(14,qAG x21.2.1),(15,qAG x21.2.2),(16,.pointer (some ⟨g26,0,none⟩)),(17,qAG x25.2.2.2.2),(19,qAG x27.2),(20,.pointer (some ⟨g33,0,none⟩)),(21,.pointer (some ⟨g34,0,none⟩)),(22,qAG x30.2.2.2.2.2),(23,qAG x43),(24,qAG x46),(96,.bool x53)],[⟨g34,29,[qAG x30.2.1,qAG x30.2.2.1,qAG x30.2.2.2.1,qAG x30.2.2.2.2.1]⟩,⟨g33,24,[.slice a47 x49.length c48.1]⟩,⟨g26,29,[qAG x25.1,qAG x25.2.1,qAG x25.2.2.1,qAG x25.2.2.2.1]⟩,⟨g24,24,[.slice a22 x21.1.length c23.1]⟩],[RoN eN59 rN59 59 1 (.slice a47 x49.length c48.1) x49 c48.2 [],RoN eN59 rN59 59 1 (.slice a22 x21.1.length c23.1) x21.1 c23.2 []],[],qb6 F x18 x21 x25 x27 x30 x43 x46 x49 x53)) ?_ ?_
 refine qb (os:=_) rfl ?_
 refine av [25,10] ?_ ?_
 intro h51
 refine qp (k:=92) rfl h51 ?_
 refine au [1,1,32,6] ?_
 intro x63 e63 _
 refine au [97] ?_
 exact qa (x63,())
 intro h51
 refine qo (k:=92) rfl h51 ?_
 refine au [71,7,117] ?_
 exact qa (false,())
 rintro ⟨x53,_⟩
 try dsimp only
 refine qb (os:=_) rfl ?_
 refine au [1] ?_
 refine qC 4 x53 [(13,.pointer (some ⟨g24,0,none⟩)),(14,qAG x21.2.1),(15,qAG x21.2.2),(16,.pointer (some ⟨g26,0,none⟩)),(17,qAG x25.2.2.2.2),(20,.pointer (some ⟨g33,0,none⟩)),(21,.pointer (some ⟨g34,0,none⟩)),(22,qAG x30.2.2.2.2.2),(23,qAG x43),(24,qAG x46),(101,.bool (x53 && ((x18.2:Int) == x27.2)))] (fun h54=>?_) (fun h54=>?_) ?_
 refine qb (os:=_) rfl (qp (k:=97) rfl h54 ?_)
 refine au [1,1,24,15,24,7] ?_
 refine qd (d:=101) (v:=.bool (x53 && ((x18.2:Int) == x27.2))) rfl (by rw[h54];simp only[qyt]) ?_
 exact az [67]
 refine qb (os:=_) rfl (qo (k:=97) rfl h54 ?_)
 refine au [71,7,24,8] ?_
 refine qd (d:=101) (v:=.bool (x53 && ((x18.2:Int) == x27.2))) rfl (by rw[h54];simp only[qyj]) ?_
 exact az [67]
 refine qb (os:=_) rfl ?_
 refine au [1] ?_
 refine qU 4 (fun ((x57,_):(Bool×Unit))=>([(14,qAG x21.2.1),(15,qAG x21.2.2),(16,.pointer (some ⟨g26,0,none⟩)),(17,qAG x25.2.2.2.2),(21,.pointer (some ⟨g34,0,none⟩)),(22,qAG x30.2.2.2.2.2),(23,qAG x43),(24,qAG x46),(106,.bool x57)],[⟨g34,29,[qAG x30.2.1,qAG x30.2.2.1,qAG x30.2.2.2.1,qAG x30.2.2.2.2.1]⟩,⟨g26,29,[qAG x25.1,qAG x25.2.1,qAG x25.2.2.1,qAG x25.2.2.2.1]⟩],[],[],qb7 F x21 x25 x30 x43 x46 x57)) ?_ ?_
 refine qb (os:=_) rfl ?_
 refine av [25,10] ?_ ?_
 intro h55
 refine qp (k:=102) rfl h55 ?_
 refine au [30,11,25,9,37,5] ?_
 intro x62 e62 _
 refine au [97] ?_
 exact qa (x62,())
 intro h55
 refine qo (k:=102) rfl h55 ?_
 refine au [71,7,117] ?_
 exact qa (false,())
 rintro ⟨x57,_⟩
 try dsimp only
 refine qb (os:=_) rfl ?_
 refine au [1] ?_
 refine qC 4 x57 [(15,qAG x21.2.2),(16,.pointer (some ⟨g26,0,none⟩)),(17,qAG x25.2.2.2.2),(21,.pointer (some ⟨g34,0,none⟩)),(22,qAG x30.2.2.2.2.2),(23,qAG x43),(111,.bool (x57 && ((x21.2.1:Int) == x46)))] (fun h58=>?_) (fun h58=>?_) ?_
 refine qb (os:=_) rfl (qp (k:=107) rfl h58 ?_)
 refine au [1,1,24,15,24,7] ?_
 refine qd (d:=111) (v:=.bool (x57 && ((x21.2.1:Int) == x46))) rfl (by rw[h58];simp only[qyt]) ?_
 exact az [67]
 refine qb (os:=_) rfl (qo (k:=107) rfl h58 ?_)
 refine au [71,7,24,8] ?_
 refine qd (d:=111) (v:=.bool (x57 && ((x21.2.1:Int) == x46))) rfl (by rw[h58];simp only[qyj]) ?_
 exact az [67]
 refine qb (os:=_) rfl ?_
 refine au [1] ?_
 refine qC 4 (x57 && ((x21.2.1:Int) == x46)) [(16,.pointer (some ⟨g26,0,none⟩)),(17,qAG x25.2.2.2.2),(21,.pointer (some ⟨g34,0,none⟩)),(22,qAG x30.2.2.2.2.2),(116,.bool ((x57 && ((x21.2.1:Int) == x46)) && ((x21.2.2:Int) == x43)))] (fun h59=>?_) (fun h59=>?_) ?_
 refine qb (os:=_) rfl (qp (k:=112) rfl h59 ?_)
 refine au [1,1,24,15,24,7] ?_
 refine qd (d:=116) (v:=.bool ((x57 && ((x21.2.1:Int) == x46)) && ((x21.2.2:Int) == x43))) rfl (by rw[h59];simp only[qyt]) ?_
 exact az [67]
 refine qb (os:=_) rfl (qo (k:=112) rfl h59 ?_)
 refine au [71,7,24,8] ?_
 refine qd (d:=116) (v:=.bool ((x57 && ((x21.2.1:Int) == x46)) && ((x21.2.2:Int) == x43))) rfl (by rw[h59];simp only[qyj]) ?_
 exact az [67]
 refine qb (os:=_) rfl ?_
 refine au [1] ?_
 refine qC 4 ((x57 && ((x21.2.1:Int) == x46)) && ((x21.2.2:Int) == x43)) [(17,qAG x25.2.2.2.2),(22,qAG x30.2.2.2.2.2),(121,.bool (((x57 && ((x21.2.1:Int) == x46)) && ((x21.2.2:Int) == x43)) && (((x25.1:Int) == x30.2.1) && (((x25.2.1:Int) == x30.2.2.1) && (((x25.2.2.1:Int) == x30.2.2.2.1) && ((x25.2.2.2.1:Int) == x30.2.2.2.2.1))))))] (fun h60=>?_) (fun h60=>?_) ?_
 refine qb (os:=_) rfl (qp (k:=117) rfl h60 ?_)
 refine au [25,9,25,4] ?_
 refine quX rfl rfl rfl inferInstance rfl ?_
 refine au [24,7] ?_
 refine qd (d:=121) (v:=.bool (((x57 && ((x21.2.1:Int) == x46)) && ((x21.2.2:Int) == x43)) && (((x25.1:Int) == x30.2.1) && (((x25.2.1:Int) == x30.2.2.1) && (((x25.2.2.1:Int) == x30.2.2.2.1) && ((x25.2.2.2.1:Int) == x30.2.2.2.2.1)))))) rfl (by rw[h60];simp only[qyt]) ?_
 exact az [67]
 refine qb (os:=_) rfl (qo (k:=117) rfl h60 ?_)
 refine au [71,7,24,8] ?_
 refine qd (d:=121) (v:=.bool (((x57 && ((x21.2.1:Int) == x46)) && ((x21.2.2:Int) == x43)) && (((x25.1:Int) == x30.2.1) && (((x25.2.1:Int) == x30.2.2.1) && (((x25.2.2.1:Int) == x30.2.2.2.1) && ((x25.2.2.2.1:Int) == x30.2.2.2.2.1)))))) rfl (by rw[h60];simp only[qyj]) ?_
 exact az [67]
 refine qb (os:=_) rfl ?_
 refine au [1] ?_
 refine qC 4 (((x57 && ((x21.2.1:Int) == x46)) && ((x21.2.2:Int) == x43)) && (((x25.1:Int) == x30.2.1) && (((x25.2.1:Int) == x30.2.2.1) && (((x25.2.2.1:Int) == x30.2.2.2.1) && ((x25.2.2.2.1:Int) == x30.2.2.2.2.1))))) [(126,.bool ((((x57 && ((x21.2.1:Int) == x46)) && ((x21.2.2:Int) == x43)) && (((x25.1:Int) == x30.2.1) && (((x25.2.1:Int) == x30.2.2.1) && (((x25.2.2.1:Int) == x30.2.2.2.1) && ((x25.2.2.2.1:Int) == x30.2.2.2.2.1))))) && ((x25.2.2.2.2:Int) == x30.2.2.2.2.2)))] (fun h61=>?_) (fun h61=>?_) ?_
 refine qb (os:=_) rfl (qp (k:=122) rfl h61 ?_)
 refine au [1,1,24,15,24,7] ?_
 refine qd (d:=126) (v:=.bool ((((x57 && ((x21.2.1:Int) == x46)) && ((x21.2.2:Int) == x43)) && (((x25.1:Int) == x30.2.1) && (((x25.2.1:Int) == x30.2.2.1) && (((x25.2.2.1:Int) == x30.2.2.2.1) && ((x25.2.2.2.1:Int) == x30.2.2.2.2.1))))) && ((x25.2.2.2.2:Int) == x30.2.2.2.2.2))) rfl (by rw[h61];simp only[qyt]) ?_
 exact az [67]
 refine qb (os:=_) rfl (qo (k:=122) rfl h61 ?_)
 refine au [71,7,24,8] ?_
 refine qd (d:=126) (v:=.bool ((((x57 && ((x21.2.1:Int) == x46)) && ((x21.2.2:Int) == x43)) && (((x25.1:Int) == x30.2.1) && (((x25.2.1:Int) == x30.2.2.1) && (((x25.2.2.1:Int) == x30.2.2.2.1) && ((x25.2.2.2.1:Int) == x30.2.2.2.2.1))))) && ((x25.2.2.2.2:Int) == x30.2.2.2.2.2))) rfl (by rw[h61];simp only[qyj]) ?_
 exact az [67]
 refine qb (os:=_) rfl ?_
 exact az [95]
end Go.Proofs.YtlioijpkhffbnaaGreat
