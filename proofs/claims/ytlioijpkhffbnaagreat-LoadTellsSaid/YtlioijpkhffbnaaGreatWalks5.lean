/- Each Go function of this seat computes what its model says, part 5. -/
import Derived.Test.YtlioijpkhffbnaaGreatWalks4
open Bool renaming false_or→qyd, true_or→qyg, false_and→qyj, true_and→qyt
namespace Go.Proofs.YtlioijpkhffbnaaGreat
open Go SX
set_option maxHeartbeats 4000000 in
theorem qmX {F:Nat}{x1:List (qAE)}{a2:qAF}{c3:Nat}{s3:List (qAF×Nat)}{x4:Int}{x5:Int}{x6:Int}{x7:Int}{r:(qAE×Int)}(hm:qdy F x1 x4 x5 x6 x7=some r) :
    Pure Tryz.prog 13 [.agg #[.slice a2 x1.length c3],qAG x4,.agg #[qAG x5,qAG x6,qAG x7]] [SlN eN59 iN59 1 (.slice a2 x1.length c3) x1 s3] (qAF×Nat) (fun g=>.tuple #[.slice g.1 r.1.length g.2,qAG r.2]) (fun g=>[Ro (eI .u8) 5 1 (.slice g.1 r.1.length g.2) r.1]) (fun _=>[]):=by
 refine qk Tryz.func13 rfl Tryz.ntmps13 rfl hm (fun w=>?_)
 refine au [120] ?_
 intro g8
 refine au [24,9] ?_
 intro g9
 refine au [79,119,36,8] ?_
 intro x10 e10 _
 refine au [58] ?_
 refine qc (fun ((x16,_):(Int×Unit))=>([(1,qAG x4),(3,.pointer (some ⟨g8,0,none⟩)),(5,.pointer (some ⟨g9,0,none⟩)),(8,qAG x16)],[⟨g9,26,[qAG x5,qAG x6,qAG x7]⟩,⟨g8,24,[.slice a2 x1.length c3]⟩],[],[SlN eN59 iN59 1 (.slice a2 x1.length c3) x1 s3],v8 F x1 x4 x5 x6 x7 x16)) ?_ ?_
 refine au [60,144] ?_
 refine qU 4 (fun ((x0,_):(Bool×Unit))=>([(1,qAG x4),(3,.pointer (some ⟨g8,0,none⟩)),(5,.pointer (some ⟨g9,0,none⟩)),(8,qAG x10),(25,.bool x0)],[⟨g9,26,[qAG x5,qAG x6,qAG x7]⟩,⟨g8,24,[.slice a2 x1.length c3]⟩],[],[SlN eN59 iN59 1 (.slice a2 x1.length c3) x1 s3],j5 F x1 x4 x5 x6 x7 x10 x0)) ?_ ?_
 refine qb (os:=_) rfl ?_
 refine av [25,10] ?_ ?_
 intro h0
 refine qp (k:=21) rfl h0 ?_
 refine au [1,27,4] ?_
 intro x2 e0 _
 refine au [25,3,97] ?_
 exact qa ((!x2),())
 intro h0
 refine qo (k:=21) rfl h0 ?_
 refine au [71,7,117] ?_
 exact qa (false,())
 rintro ⟨x0,_⟩
 try dsimp only
 refine qb (os:=_) rfl ?_
 refine av [63] ?_ ?_
 intro _
 refine au [4,5,0] ?_
 exact qa ((3:Int),())
 intro _
 refine au [10] ?_
 exact qa (x10,())
 rintro ⟨x16,_⟩
 try dsimp only
 refine av [75,85] ?_ ?_
 intro _
 refine au [60,5,74,26,8] ?_
 exact qj (none,0)
 intro _
 refine au [64,60,24,11] ?_
 refine qt (vs:=[.int .u8 76,.int .u8 87,.int .u8 (iconv .u8 x4)]) (ys:=([76,87,iconv .u8 x4]:qAE)) (ql .u8) (by decide) rfl Tryz.underlying27 tf5 rfl rfl rfl rfl rfl (by decide) (fun a18 c19=>?_)
 refine au [93,18,24,11,28,11] ?_
 rintro x20 e20 ⟨a21,c22⟩
 refine qB 1 (ql .u8) rfl Tryz.underlying27 tf5 rfl rfl rfl rfl rfl (.inl ⟨0,_,rfl⟩) rfl rfl (fun x23 e23 a24 c25=>?_)
 refine au [58] ?_
 refine qc (fun ((x3,(a0,c0)):(qAE×(qAF×Nat)))=>([(9,.slice a0 x3.length c0)],[],[Ro (eI .u8) 5 1 (.slice a0 x3.length c0) x3],[],vx F x3)) ?_ ?_
 refine av [60,82] ?_ ?_
 intro _
 refine au [168] ?_
 refine qi (fun (((x8,x9),(a1,c1)):((qAE×Int)×(qAF×Nat)))=>([(3,.pointer (some ⟨g8,0,none⟩)),(9,.slice a1 x8.length c1),(10,qAG x9)],[⟨g8,24,[.slice a2 x1.length c3]⟩],[Ro (eI .u8) 5 1 (.slice a1 x8.length c1) x8],[SlN eN59 iN59 1 (.slice a2 x1.length c3) x1 s3])) (fun k (s:((qAE×Int)×(qAF×Nat)))=>zK F x1 k s.1) ((x23,0),(a24,c25)) F ?_
 intro k0
 rintro ⟨⟨x8,x9⟩,⟨a1,c1⟩⟩
 try dsimp only
 refine qm (m':=qce F x1 (zK F x1 k0) x8 x9) rfl ?_
 refine av [75,62,18,83] ?_ ?_
 intro _
 refine au [64] ?_
 refine qc (fun ((x11,(a3,c2)):(qAE×(qAF×Nat)))=>([(3,.pointer (some ⟨g8,0,none⟩)),(9,.slice a3 x11.length c2),(10,qAG x9)],[⟨g8,24,[.slice a2 x1.length c3]⟩],[Ro (eI .u8) 5 1 (.slice a3 x11.length c2) x11],[SlN eN59 iN59 1 (.slice a2 x1.length c3) x1 s3],qcg F (zK F x1 k0) x9 x11)) ?_ ?_
 refine au [14,60,62,1,27,5] ?_
 intro x12 e1 g0 b0 o0
 refine au [24,14,18,24,11,28,11] ?_
 rintro x13 e2 ⟨a4,c4⟩
 refine qB 1 (ql .u8) rfl Tryz.underlying27 tf5 rfl rfl rfl rfl rfl (.inl ⟨0,_,rfl⟩) rfl rfl (fun x14 e3 a5 c5=>?_)
 refine au [58,116,1,31,15] ?_
 intro x15 e4 g1 b1 o1
 refine au [24,14,1,36,6] ?_
 rintro x17 e5 ⟨a6,c6⟩
 refine au [58,168] ?_
 refine qi (fun (((x18,x19),(a7,c7)):((qAE×Int)×(qAF×Nat)))=>([(3,.pointer (some ⟨g8,0,none⟩)),(9,.slice a7 x18.length c7),(10,qAG x9),(11,.slice a6 x17.length c6),(12,qAG x19)],[⟨g8,24,[.slice a2 x1.length c3]⟩],[Ro (eI .u8) 5 1 (.slice a7 x18.length c7) x18,Ro (eI .u64) 58 1 (.slice a6 x17.length c6) x17],[SlN eN59 iN59 1 (.slice a2 x1.length c3) x1 s3])) (fun k (s:((qAE×Int)×(qAF×Nat)))=>vy F (zK F x1 k0) x9 x17 k s.1) ((x14,0),(a5,c5)) F ?_
 intro k1
 rintro ⟨⟨x18,x19⟩,⟨a7,c7⟩⟩
 try dsimp only
 refine qm (m':=qcf F (zK F x1 k0) x9 x17 (vy F (zK F x1 k0) x9 x17 k1) x18 x19) rfl ?_
 refine av [3,130] ?_ ?_
 intro _
 refine au [91,99,1,30,9] ?_
 intro x21 e6 g2 h1
 refine qaq (j:=1) (y:=x21) (ql .u64) rfl rfl tf58 rfl h1 (qF e6).2.2 (fun _=>rfl) rfl rfl ?_
 refine au [28,11] ?_
 rintro x22 e7 ⟨a8,c8⟩
 refine qB 1 (ql .u8) rfl Tryz.underlying27 tf5 rfl rfl rfl rfl rfl (.inl ⟨0,_,rfl⟩) rfl rfl (fun x24 e8 a9 c9=>?_)
 refine au [173,89,0] ?_
 exact qh ((x24,iadd .i64 x19 1),(a9,c9))
 intro _
 refine au [73,22] ?_
 exact qa (x18,(a7,c7))
 rintro ⟨x11,⟨a3,c2⟩⟩
 try dsimp only
 refine au [89,0] ?_
 exact qh ((x11,iadd .i64 x9 1),(a3,c2))
 intro _
 refine au [73] ?_
 exact qa (x8,(a1,c1))
 intro _
 refine au [119,25,4,36,9] ?_
 rintro x25 e9 ⟨⟨a10,c10⟩,⟨a11,c11⟩,⟨a12,c12⟩⟩
 refine av [92,70,5,5,114,85] ?_ ?_
 intro _
 refine au [60,5,74,9,26,8] ?_
 exact qj (none,0)
 intro _
 refine au [64,60,62,24,11,28,11] ?_
 rintro x26 e11 ⟨a13,c13⟩
 refine qB 4 (ql .u8) rfl Tryz.underlying27 tf5 rfl rfl rfl rfl rfl (.inl ⟨0,_,rfl⟩) rfl rfl (fun x27 e12 a14 c14=>?_)
 refine au [58,60,62,24,11,28,11] ?_
 rintro x28 e13 ⟨a15,c15⟩
 refine qB 1 (ql .u8) rfl Tryz.underlying27 tf5 rfl rfl rfl rfl rfl (.inl ⟨0,_,rfl⟩) rfl rfl (fun x29 e14 a16 c16=>?_)
 refine au [58,60,62,24,11,28,11] ?_
 rintro x30 e15 ⟨a17,c17⟩
 refine qB 1 (ql .u8) rfl Tryz.underlying27 tf5 rfl rfl rfl rfl rfl (.inl ⟨0,_,rfl⟩) rfl rfl (fun x31 e16 a19 c18=>?_)
 refine au [58,121,24,11,28,11] ?_
 rintro x32 e17 ⟨a20,c20⟩
 refine qB 1 (ql .u8) rfl Tryz.underlying27 tf5 rfl rfl rfl rfl rfl (.inl ⟨0,_,rfl⟩) rfl rfl (fun x33 e18 a22 c21=>?_)
 refine au [58,99] ?_
 refine qg qmY ?_
 rintro x34 e19 ⟨a23,c23⟩
 refine qsU (cells:=[qAG x34.1,.slice a23 x34.2.length c23]) rfl Tryz.underlying65 rfl rfl rfl tf27 rfl rfl (qB 1 (ql .u8) rfl Tryz.underlying27 tf5 rfl rfl rfl rfl rfl (.inl ⟨0,_,rfl⟩) rfl rfl (fun x35 e21 a25 c24=>?_))
 refine au [5,0] ?_
 exact qa (x35,(a25,c24))
 rintro ⟨x3,⟨a0,c0⟩⟩
 try dsimp only
 refine av [75,18,77] ?_ ?_
 intro _
 refine au [94,74,26,8] ?_
 exact qj (none,0)
 intro _
 refine au [64,60,5,61] ?_
 exact qj (a0,c0)
set_option maxHeartbeats 4000000 in
theorem qlp {F:Nat}{x1:qAE}{a2:qAF}{c3:Nat}{x4:qAE}{a5:qAF}{c6:Nat}{r:Bool}(hm:vp F x1 x4=some r) :
    Pure Tryz.prog 16 [.slice a2 x1.length c3,.slice a5 x4.length c6] [Sl (eI .u8) 1 (.slice a2 x1.length c3) x1,Sl (eI .u8) 1 (.slice a5 x4.length c6) x4] Unit (fun _=>.bool r) (fun _=>[]) (fun _=>[]):=by
 refine qk Tryz.func16 rfl Tryz.ntmps16 rfl hm (fun w=>?_)
 refine av [102,75,18,1,18,85] ?_ ?_
 intro _
 exact az [59,96]
 intro _
 refine au [64] ?_
 refine qc (fun ((_,_):(Unit×Unit))=>([],[],[],[],qgp F)) ?_ ?_
 refine au [168] ?_
 refine qi (fun ((x0,_):(Int×Unit))=>([(0,.slice a2 x1.length c3),(1,.slice a5 x4.length c6),(5,qAG x0)],[],[],[Sl (eI .u8) 1 (.slice a2 x1.length c3) x1,Sl (eI .u8) 1 (.slice a5 x4.length c6) x4])) (fun k (s:(Int×Unit))=>vA F x1 x4 k s.1) (0,()) F ?_
 intro k0
 rintro ⟨x0,_⟩
 try dsimp only
 refine qm (m':=qcp F x1 x4 (vA F x1 x4 k0) x0) rfl ?_
 refine av [3,130] ?_ ?_
 intro _
 refine au [91,3,30,3] ?_
 intro x2 e0 b0 o0 h0
 replace h0:a2=some ⟨b0,o0,none⟩:=h0
 refine au [35,9] ?_
 intro x3 e1 b1 o1 h1
 replace h1:a5=some ⟨b1,o1,none⟩:=h1
 refine qu mixed [] [] [qz b1 (o1+x0.toNat*1) ((eI .u8) x3),qz b0 (o0+x0.toNat*1) ((eI .u8) x2),Sl (eI .u8) 1 (.slice a2 x1.length c3) x1,Sl (eI .u8) 1 (.slice a5 x4.length c6) x4] .nil (qx 0 rfl (qx 1 rfl (qx 2 rfl (qx 3 rfl qr)))) 9 rfl ?_
 refine au [81] ?_
 refine qf (d:=17) (v:=.slice (some ⟨b0,o0,none⟩) x1.length c3) rfl (by rw[h0] <;> rfl) (qn 2 (.pointer (some ⟨b0,(o0+x0.toNat*1),none⟩)) rfl rfl rfl (yJ Tryz.underlying27 tf5 rfl rfl (qF e0).1 (zX e0)) (qf (d:=17) (v:=.slice a2 x1.length c3) rfl (by rw[h0] <;> rfl) (qI 3 (.int .u8 x2) [] rfl rfl rfl (zi (j:=1) rfl tf5 rfl rfl (fun _=>rfl) rfl) ?_)))
 refine au [118] ?_
 refine qf (d:=21) (v:=.slice (some ⟨b1,o1,none⟩) x4.length c6) rfl (by rw[h1] <;> rfl) (qn 6 (.pointer (some ⟨b1,(o1+x0.toNat*1),none⟩)) rfl rfl rfl (yJ Tryz.underlying27 tf5 rfl rfl (qF e1).1 (zX e1)) (qf (d:=21) (v:=.slice a5 x4.length c6) rfl (by rw[h1] <;> rfl) (qI 7 (.int .u8 x3) [] rfl rfl rfl (zi (j:=0) rfl tf5 rfl rfl (fun _=>rfl) rfl) ?_)))
 refine au [6,8,24,3] ?_
 refine qy ?_ (by intro c h;cases h)
 refine av [2,8] ?_ ?_
 intro _
 exact az [59,61,78,9,160]
 intro _
 refine au [157,2,89,0] ?_
 exact qh (iadd .i64 x0 1,())
 intro _
 exact az [149]
 rintro ⟨_,_⟩
 try dsimp only
 exact az [59,95]
set_option maxHeartbeats 4000000 in
theorem qj6 {F:Nat}{x1:qAE}{a2:qAF}{c3:Nat}{x4:Int}{r:(Int×Int×Int)}(hm:qdG F x1 x4=some r) :
    Pure Tryz.prog 41 [.slice a2 x1.length c3,qAG x4] [Sl (eI .u8) 1 (.slice a2 x1.length c3) x1] Unit (fun _=>.tuple #[.int .u64 r.1,qAG r.2.1,qAG r.2.2]) (fun _=>[]) (fun _=>[]):=by
 refine qk Tryz.func41 rfl Tryz.ntmps41 rfl hm (fun w=>?_)
 refine au [25,0,94,79,59,79] ?_
 refine qc (fun ((_,_):(Unit×Unit))=>([],[],[],[],qfQ F)) ?_ ?_
 refine au [60,58,14] ?_
 refine qi (fun (((x0,x2,x3),_):((Int×Int×Int)×Unit))=>([(0,.slice a2 x1.length c3),(1,qAG x4),(7,.int .u64 x0),(8,.int .u64 x2),(9,qAG x3)],[],[],[Sl (eI .u8) 1 (.slice a2 x1.length c3) x1])) (fun k (s:((Int×Int×Int)×Unit))=>yO F x1 x4 k s.1) ((0,1,x4),()) F ?_
 intro k0
 rintro ⟨⟨x0,x2,x3⟩,_⟩
 try dsimp only
 refine qm (m':=qbp F x1 x4 (yO F x1 x4 k0) x0 x2 x3) rfl ?_
 refine av [3,130] ?_ ?_
 intro _
 refine au [91,69,28,6] ?_
 intro x5 e0 b0 o0
 refine au [163,58,3,69,24,13,144] ?_
 refine qC 3 (((isub .i64 x3 x4):Int) == 9) [(0,.slice a2 x1.length c3),(1,qAG x4),(7,.int .u64 x0),(8,.int .u64 x2),(9,qAG x3),(10,.int .u64 (iconv .u64 x5)),(30,.bool ((((isub .i64 x3 x4):Int) == 9) && (decide (1<(iconv .u64 x5)))))] (fun h0=>?_) (fun h0=>?_) ?_
 refine qb (os:=_) rfl (qp (k:=27) rfl h0 ?_)
 refine au [1,24,4,24,7] ?_
 refine qd (d:=30) (v:=.bool ((((isub .i64 x3 x4):Int) == 9) && (decide (1<(iconv .u64 x5))))) rfl (by rw[h0];simp only[qyt]) ?_
 exact az [67]
 refine qb (os:=_) rfl (qo (k:=27) rfl h0 ?_)
 refine au [71,24,8] ?_
 refine qd (d:=30) (v:=.bool ((((isub .i64 x3 x4):Int) == 9) && (decide (1<(iconv .u64 x5))))) rfl (by rw[h0];simp only[qyj]) ?_
 exact az [67]
 refine qb (os:=_) rfl ?_
 refine av [63] ?_ ?_
 intro _
 exact az [94,5,158,160]
 intro _
 refine au [90,69,24,4,1] ?_
 refine qC 3 (decide (x4<x3)) [(0,.slice a2 x1.length c3),(1,qAG x4),(7,.int .u64 x0),(8,.int .u64 x2),(9,qAG x3),(10,.int .u64 (iconv .u64 x5)),(37,.bool ((decide (x4<x3)) && (((iconv .u64 x5):Int) == 0)))] (fun h1=>?_) (fun h1=>?_) ?_
 refine qb (os:=_) rfl (qp (k:=34) rfl h1 ?_)
 refine au [1,24,15,24,7] ?_
 refine qd (d:=37) (v:=.bool ((decide (x4<x3)) && (((iconv .u64 x5):Int) == 0))) rfl (by rw[h1];simp only[qyt]) ?_
 exact az [67]
 refine qb (os:=_) rfl (qo (k:=34) rfl h1 ?_)
 refine au [71,24,8] ?_
 refine qd (d:=37) (v:=.bool ((decide (x4<x3)) && (((iconv .u64 x5):Int) == 0))) rfl (by rw[h1];simp only[qyj]) ?_
 exact az [67]
 refine qb (os:=_) rfl ?_
 refine av [63] ?_ ?_
 intro _
 exact az [94,5,158,160]
 intro _
 refine au [64,69,27,11,1,27,2,86,26,1] ?_
 intro x6 e1
 refine qd (d:=7) (v:=.int .u64 x6) rfl (by rw[e1] <;> rfl) ?_
 refine av [57,75,83] ?_ ?_
 intro _
 exact az [69,86,5,158,160]
 intro _
 refine au [64,88,27,2,173,89,0] ?_
 exact qh ((x6,imul .u64 x2 128,iadd .i64 x3 1),())
 intro _
 exact az [149]
 rintro ⟨_,_⟩
 try dsimp only
 exact az [94,5,95]
set_option maxHeartbeats 4000000 in
theorem qm1 {F:Nat}{x1:qAE}{a2:qAF}{c3:Nat}{x4:qAE}{a5:qAF}{c6:Nat}{r:Bool}(hm:jq F x1 x4=some r) :
    Pure Tryz.prog 44 [.slice a2 x1.length c3,.slice a5 x4.length c6] [Sl (eI .i64) 1 (.slice a2 x1.length c3) x1,Sl (eI .i64) 1 (.slice a5 x4.length c6) x4] Unit (fun _=>.bool r) (fun _=>[]) (fun _=>[]):=by
 refine qk Tryz.func44 rfl Tryz.ntmps44 rfl hm (fun w=>?_)
 refine av [102,75,18,1,18,85] ?_ ?_
 intro _
 exact az [59,96]
 intro _
 refine au [64] ?_
 refine qc (fun ((_,_):(Unit×Unit))=>([],[],[],[],qgZ F)) ?_ ?_
 refine au [168] ?_
 refine qi (fun ((x0,_):(Int×Unit))=>([(0,.slice a2 x1.length c3),(1,.slice a5 x4.length c6),(5,qAG x0)],[],[],[Sl (eI .i64) 1 (.slice a2 x1.length c3) x1,Sl (eI .i64) 1 (.slice a5 x4.length c6) x4])) (fun k (s:(Int×Unit))=>yk F x1 x4 k s.1) (0,()) F ?_
 intro k0
 rintro ⟨x0,_⟩
 try dsimp only
 refine qm (m':=jb F x1 x4 (yk F x1 x4 k0) x0) rfl ?_
 refine av [3,130] ?_ ?_
 intro _
 refine au [91,3,29,8] ?_
 intro x2 e0 b0 o0 h0
 replace h0:a2=some ⟨b0,o0,none⟩:=h0
 refine au [32,1] ?_
 intro x3 e1 b1 o1 h1
 replace h1:a5=some ⟨b1,o1,none⟩:=h1
 refine qu mixed [] [] [qz b1 (o1+x0.toNat*1) ((eI .i64) x3),qz b0 (o0+x0.toNat*1) ((eI .i64) x2),Sl (eI .i64) 1 (.slice a2 x1.length c3) x1,Sl (eI .i64) 1 (.slice a5 x4.length c6) x4] .nil (qx 0 rfl (qx 1 rfl (qx 2 rfl (qx 3 rfl qr)))) 9 rfl ?_
 refine au [81] ?_
 refine qf (d:=17) (v:=.slice (some ⟨b0,o0,none⟩) x1.length c3) rfl (by rw[h0] <;> rfl) (qn 2 (.pointer (some ⟨b0,(o0+x0.toNat*1),none⟩)) rfl rfl rfl (yJ Tryz.underlying59 tf3 rfl rfl (qF e0).1 (zX e0)) (qf (d:=17) (v:=.slice a2 x1.length c3) rfl (by rw[h0] <;> rfl) (qI 3 (qAG x2) [] rfl rfl rfl (zi (j:=1) rfl tf3 rfl rfl (fun _=>rfl) rfl) ?_)))
 refine au [118] ?_
 refine qf (d:=21) (v:=.slice (some ⟨b1,o1,none⟩) x4.length c6) rfl (by rw[h1] <;> rfl) (qn 6 (.pointer (some ⟨b1,(o1+x0.toNat*1),none⟩)) rfl rfl rfl (yJ Tryz.underlying59 tf3 rfl rfl (qF e1).1 (zX e1)) (qf (d:=21) (v:=.slice a5 x4.length c6) rfl (by rw[h1] <;> rfl) (qI 7 (qAG x3) [] rfl rfl rfl (zi (j:=0) rfl tf3 rfl rfl (fun _=>rfl) rfl) ?_)))
 refine au [6,8,24,3] ?_
 refine qy ?_ (by intro c h;cases h)
 refine av [2,8] ?_ ?_
 intro _
 exact az [59,61,78,9,160]
 intro _
 refine au [157,2,89,0] ?_
 exact qh (iadd .i64 x0 1,())
 intro _
 exact az [149]
 rintro ⟨_,_⟩
 try dsimp only
 exact az [59,95]
set_option maxHeartbeats 4000000 in
theorem qok {F:Nat}{x1:Int}{x2:qAE}{a3:qAF}{c4:Nat}{r:qAE}(hm:qas F x1 x2=some r) :
    Pure Tryz.prog 55 [.agg #[qAG x1,.slice a3 x2.length c4]] [Sl (eI .u8) 1 (.slice a3 x2.length c4) x2] (qAF×Nat) (fun g=>.slice g.1 r.length g.2) (fun g=>[Ro (eI .i64) 3 1 (.slice g.1 r.length g.2) r]) (fun _=>[]):=by
 refine qk Tryz.func55 rfl Tryz.ntmps55 rfl hm (fun w=>?_)
 refine au [133] ?_
 intro g5
 refine au [58,68] ?_
 refine qc (fun ((x0,(a0,c0)):(qAE×(qAF×Nat)))=>([(3,.slice a0 x0.length c0)],[],[Ro (eI .i64) 3 1 (.slice a0 x0.length c0) x0],[],qgY F x0)) ?_ ?_
 refine au [68,108] ?_
 refine qi (fun (((x3,x4),(a1,c1)):((qAE×Int)×(qAF×Nat)))=>([(1,.pointer (some ⟨g5,0,none⟩)),(3,.slice a1 x3.length c1),(4,qAG x4)],[⟨g5,65,[qAG x1,.slice a3 x2.length c4]⟩],[Ro (eI .i64) 3 1 (.slice a1 x3.length c1) x3],[Sl (eI .u8) 1 (.slice a3 x2.length c4) x2])) (fun k (s:((qAE×Int)×(qAF×Nat)))=>zS F x1 x2 k s.1) ((([]:qAE),0),(none,0)) F ?_
 intro k0
 rintro ⟨⟨x3,x4⟩,⟨a1,c1⟩⟩
 try dsimp only
 refine qm (m':=qcS F x1 x2 (zS F x1 x2 k0) x3 x4) rfl ?_
 refine av [75,62,83] ?_ ?_
 intro _
 refine au [64] ?_
 refine qc (fun ((x5,(a2,c2)):(qAE×(qAF×Nat)))=>([(1,.pointer (some ⟨g5,0,none⟩)),(3,.slice a2 x5.length c2),(4,qAG x4)],[⟨g5,65,[qAG x1,.slice a3 x2.length c4]⟩],[Ro (eI .i64) 3 1 (.slice a2 x5.length c2) x5],[Sl (eI .u8) 1 (.slice a3 x2.length c4) x2],qeV F (zS F x1 x2 k0) x4 x5)) ?_ ?_
 refine au [14,116,1,27,12,28,6] ?_
 intro x6 e0 b0 o0
 refine au [163,58] ?_
 refine qc (fun ((x7,_):(Int×Unit))=>([(1,.pointer (some ⟨g5,0,none⟩)),(3,.slice a1 x3.length c1),(4,qAG x4),(5,qAG x7)],[⟨g5,65,[qAG x1,.slice a3 x2.length c4]⟩],[Ro (eI .i64) 3 1 (.slice a1 x3.length c1) x3],[Sl (eI .u8) 1 (.slice a3 x2.length c4) x2],qcU F (zS F x1 x2 k0) x3 x4 x7)) ?_ ?_
 refine au [168] ?_
 refine qi (fun (((x8,x9),_):((Int×Int)×Unit))=>([(1,.pointer (some ⟨g5,0,none⟩)),(3,.slice a1 x3.length c1),(4,qAG x4),(5,qAG x8),(6,qAG x9)],[⟨g5,65,[qAG x1,.slice a3 x2.length c4]⟩],[Ro (eI .i64) 3 1 (.slice a1 x3.length c1) x3],[Sl (eI .u8) 1 (.slice a3 x2.length c4) x2])) (fun k (s:((Int×Int)×Unit))=>vZ F (zS F x1 x2 k0) x3 x4 k s.1) ((iconv .i64 x6,0),()) F ?_
 intro k1
 rintro ⟨⟨x8,x9⟩,_⟩
 try dsimp only
 refine qm (m':=qcT F (zS F x1 x2 k0) x3 x4 (vZ F (zS F x1 x2 k0) x3 x4 k1) x8 x9) rfl ?_
 refine av [3,69,27,11,24,13,83] ?_ ?_
 intro _
 refine au [91,88,27,12,173,89,0] ?_
 exact qh ((iquo .i64 x8 2,iadd .i64 x9 1),())
 intro _
 refine au [73] ?_
 exact qa (x8,())
 rintro ⟨x7,_⟩
 try dsimp only
 refine au [99,27,11] ?_
 refine qt (vs:=[qAG (irem x7 2)]) (ys:=([irem x7 2]:qAE)) (ql .i64) (by decide) rfl Tryz.underlying59 tf3 rfl rfl rfl rfl rfl (by decide) (fun a4 c3=>qB 1 (ql .i64) rfl Tryz.underlying59 tf3 rfl rfl rfl rfl rfl (.inl ⟨0,_,rfl⟩) rfl rfl (fun x10 e1 a5 c5=>?_))
 refine au [172] ?_
 exact qa (x10,(a5,c5))
 rintro ⟨x5,⟨a2,c2⟩⟩
 try dsimp only
 refine au [89,0] ?_
 exact qh ((x5,iadd .i64 x4 1),(a2,c2))
 intro _
 refine au [73] ?_
 exact qa (x3,(a1,c1))
 rintro ⟨x0,⟨a0,c0⟩⟩
 try dsimp only
 refine au [60,61] ?_
 exact qj (a0,c0)
set_option maxHeartbeats 4000000 in
theorem qlf {F:Nat}{x1:Int}{x2:qAE}{a3:qAF}{c4:Nat}{r:Int}(hm:qcI F x1 x2=some r) :
    Pure Tryz.prog 71 [.agg #[qAG x1,.slice a3 x2.length c4]] [Sl (eI .u8) 1 (.slice a3 x2.length c4) x2] Unit (fun _=>qAG r) (fun _=>[]) (fun _=>[]):=by
 refine qk Tryz.func71 rfl Tryz.ntmps71 rfl hm (fun w=>?_)
 refine au [133] ?_
 intro g5
 refine au [58,3,116,27,4] ?_
 intro x8 e8 _
 refine av [101] ?_ ?_
 intro _
 exact az [59,96]
 intro _
 refine au [64,116,27,12,58] ?_
 refine qc (fun ((x10,_):(Int×Unit))=>([(1,.pointer (some ⟨g5,0,none⟩)),(3,qAG x10)],[⟨g5,65,[qAG x1,.slice a3 x2.length c4]⟩],[],[Sl (eI .u8) 1 (.slice a3 x2.length c4) x2],j3 F x1 x2 x10)) ?_ ?_
 refine av [116,27,11,77] ?_ ?_
 intro _
 refine au [89,0] ?_
 exact qa (iadd .i64 (iquo .i64 x1 8) 1,())
 intro _
 refine au [10] ?_
 exact qa (iquo .i64 x1 8,())
 rintro ⟨x10,_⟩
 try dsimp only
 refine av [3,116,18,1,85] ?_ ?_
 intro _
 exact az [59,96]
 intro _
 refine au [64,60,27,2,62] ?_
 refine qq (cells:=[qAG (imul .i64 8 x10),.slice a3 x2.length c4]) rfl st65 rfl (by kernel_rfl) rfl ?_
 refine au [32,2] ?_
 rintro x12 e12 ⟨a13,c14⟩
 refine au [58] ?_
 refine qc (fun ((_,_):(Unit×Unit))=>([],[],[],[],qgm F)) ?_ ?_
 refine au [116,58,14] ?_
 refine qi (fun ((x57,_):(Int×Unit))=>([(4,.slice a13 x12.length c14),(5,qAG x57)],[],[Ro (eI .i64) 3 1 (.slice a13 x12.length c14) x12],[])) (fun k (s:(Int×Unit))=>vr F x12 k s.1) (x1,()) F ?_
 intro k68
 rintro ⟨x57,_⟩
 try dsimp only
 refine qm (m':=qb8 F x12 (vr F x12 k68) x57) rfl ?_
 refine av [3,130] ?_ ?_
 intro _
 refine au [91,69,27,9] ?_
 intro x74 e74 g75 h76
 refine qaq (j:=0) (y:=x74) (ql .i64) rfl rfl tf3 rfl h76 (qF e74).2.2 (fun _=>rfl) rfl rfl ?_
 refine av [85] ?_ ?_
 intro _
 exact az [59,61,78,9,160]
 intro _
 refine au [157,2,89,0] ?_
 exact qh (iadd .i64 x57 1,())
 intro _
 exact az [149]
 rintro ⟨_,_⟩
 try dsimp only
 exact az [59,95]
theorem qlm {F:Nat}{x1:Int}{x2:Int}{x3:Int}{x4:Int}{x5:Int}{x6:qAE}{a7:qAF}{c8:Nat}{r:Int}(hm:qev F x1 x2 x3 x4 x5 x6=some r) :
    Pure Tryz.prog 54 [.agg #[qAG x1,qAG x2,qAG x3,qAG x4,qAG x5,.slice a7 x6.length c8]] [Sl (eI .u8) 1 (.slice a7 x6.length c8) x6] Unit (fun _=>qAG r) (fun _=>[]) (fun _=>[]):=by
 refine qk Tryz.func54 rfl Tryz.ntmps54 rfl hm (fun w=>?_)
 refine au [133] ?_
 intro g9
 refine au [58,3,116,27,4] ?_
 intro x12 e12 _
 refine av [101] ?_ ?_
 intro _
 exact az [59,96]
 intro _
 refine au [64,59,13,25,4,32,0] ?_
 intro x13 e13 _
 refine au [58] ?_
 refine qc (fun ((x16,_):(Int×Unit))=>([(3,qAG x16)],[],[],[],qco F x16)) ?_ ?_
 refine av [60,82] ?_ ?_
 intro _
 refine au [4,13,25,4,36,10] ?_
 intro x17 e17 _
 refine au [5,0] ?_
 exact qa (x17,())
 intro _
 refine au [10] ?_
 exact qa (x13,())
 rintro ⟨x16,_⟩
 try dsimp only
 exact az [60,95]
theorem qlt {F:Nat}{x1:qAE}{a2:qAF}{c3:Nat}{x4:Int}{r:(Int×Int)}(hm:qcM F x1 x4=some r) :
    Pure Tryz.prog 72 [.slice a2 x1.length c3,qAG x4] [Sl (eI .i64) 1 (.slice a2 x1.length c3) x1] Unit (fun _=>.tuple #[.int .u64 r.1,qAG r.2]) (fun _=>[]) (fun _=>[]):=by
 refine qk Tryz.func72 rfl Tryz.ntmps72 rfl hm (fun w=>?_)
 refine au [25,0,59,79,68] ?_
 refine qc (fun ((_,_):(Unit×Unit))=>([],[],[],[],qgr F)) ?_ ?_
 refine au [60,58,14] ?_
 refine qi (fun (((x80,x81),_):((Int×Int)×Unit))=>([(0,.slice a2 x1.length c3),(6,.int .u64 x80),(7,qAG x81)],[],[],[Sl (eI .i64) 1 (.slice a2 x1.length c3) x1])) (fun k (s:((Int×Int)×Unit))=>vD F x1 k s.1) ((0,x4),()) F ?_
 intro k0
 rintro ⟨⟨x80,x81⟩,_⟩
 try dsimp only
 refine qm (m':=qcv F x1 (vD F x1 k0) x80 x81) rfl ?_
 refine av [3,130] ?_ ?_
 intro _
 refine au [91,3,69,26,2] ?_
 intro x0 e0 b0 o0
 refine av [24,14,82] ?_ ?_
 intro _
 exact az [69,86,158,160]
 intro _
 refine au [64,89,87,2,89,0] ?_
 exact qh ((iadd .u64 x80 1,iadd .i64 x81 1),())
 intro _
 exact az [149]
 rintro ⟨_,_⟩
 try dsimp only
 exact az [94,95]
theorem qpV {F:Nat}{x1:qAE}{a2:qAF}{c3:Nat}{r:Int}(hm:qgB F x1=some r) :
    Pure Tryz.prog 86 [.slice a2 x1.length c3] [Sl (eI .i64) 1 (.slice a2 x1.length c3) x1] Unit (fun _=>.int .u64 r) (fun _=>[]) (fun _=>[]):=by
 refine qk Tryz.func86 rfl Tryz.ntmps86 rfl hm (fun w=>?_)
 refine au [126,68] ?_
 refine qc (fun ((x37,_):(Int×Unit))=>([(3,.int .u64 x37)],[],[],[],qhW F x37)) ?_ ?_
 refine au [168] ?_
 refine qi (fun (((x48,x49),_):((Int×Int)×Unit))=>([(0,.slice a2 x1.length c3),(3,.int .u64 x48),(4,qAG x49)],[],[],[Sl (eI .i64) 1 (.slice a2 x1.length c3) x1])) (fun k (s:((Int×Int)×Unit))=>qa8 F x1 k s.1) ((0,0),()) F ?_
 intro k60
 rintro ⟨⟨x48,x49⟩,_⟩
 try dsimp only
 refine qm (m':=qeq F x1 (qa8 F x1 k60) x48 x49) rfl ?_
 refine av [3,130] ?_ ?_
 intro _
 refine au [91,88,27,2,1,1,26,2] ?_
 intro x66 e66 b67 o68
 refine au [163,86,26,1] ?_
 intro x69 e69
 refine qd (d:=3) (v:=.int .u64 x69) rfl (by rw[e69] <;> rfl) ?_
 refine au [87,2,89,0] ?_
 exact qh ((x69,iadd .i64 x49 1),())
 intro _
 refine au [73] ?_
 exact qa (x48,())
 rintro ⟨x37,_⟩
 try dsimp only
 exact az [60,95]
theorem qm6 {F:Nat}{x1:qAE}{a2:qAF}{c3:Nat}{x4:Int}{x5:Int}{r:(Int×Int×Int)}(hm:qe9 F x1 x4 x5=some r) :
    Pure Tryz.prog 73 [.slice a2 x1.length c3,qAG x4,.int .u64 x5] [Sl (eI .i64) 1 (.slice a2 x1.length c3) x1] Unit (fun _=>.tuple #[.int .u64 r.1,qAG r.2.1,qAG r.2.2]) (fun _=>[]) (fun _=>[]):=by
 refine qk Tryz.func73 rfl Tryz.ntmps73 rfl hm (fun w=>?_)
 refine av [25,15,94,114,77] ?_ ?_
 intro _
 exact az [94,5,96]
 intro _
 refine av [90,69,24,11,16,1,18,77] ?_ ?_
 intro _
 exact az [94,5,96]
 intro _
 refine au [64,59] ?_
 refine qt (vs:=[qAG 1]) (ys:=([1]:qAE)) (ql .i64) (by decide) rfl Tryz.underlying59 tf3 rfl rfl rfl rfl rfl (by decide) (fun a8 c9=>?_)
 refine au [1,1,1,135,16,31,7] ?_
 intro x10 e10 a11 c12
 refine au [28,10] ?_
 intro x13 e13 a14 c15
 refine qg qpV ?_
 intro x16 e16 _
 refine av [24,13,58,75,77] ?_ ?_
 intro _
 exact az [94,5,96]
 intro _
 exact az [64,69,135,86,5,95]
theorem qlh {F:Nat}{x1:qAE}{a2:qAF}{c3:Nat}{x4:Int}{r:(Int×Int×Int)}(hm:kG F x1 x4=some r) :
    Pure Tryz.prog 56 [.slice a2 x1.length c3,qAG x4] [Sl (eI .i64) 1 (.slice a2 x1.length c3) x1] Unit (fun _=>.tuple #[.int .u64 r.1,qAG r.2.1,qAG r.2.2]) (fun _=>[]) (fun _=>[]):=by
 refine qk Tryz.func56 rfl Tryz.ntmps56 rfl hm (fun w=>?_)
 refine au [25,0,94,79,69,36,11] ?_
 intro x5 e5 _
 refine av [92,114,83] ?_ ?_
 intro _
 exact az [94,5,96]
 intro _
 refine au [64,69,1] ?_
 refine qg qm6 ?_
 intro x7 e7 _
 exact az [70,15,5,5,95]
set_option maxHeartbeats 4000000 in
theorem qon {F:Nat}{x1:Int}{x2:qAE}{a3:qAF}{c4:Nat}{x5:Int}{r:Int}(hm:qfO F x1 x2 x5=some r) :
    Pure Tryz.prog 74 [.agg #[qAG x1,.slice a3 x2.length c4],qAG x5] [Sl (eI .u8) 1 (.slice a3 x2.length c4) x2] Unit (fun _=>qAG r) (fun _=>[]) (fun _=>[]):=by
 refine qk Tryz.func74 rfl Tryz.ntmps74 rfl hm (fun w=>?_)
 refine au [155] ?_
 intro g6
 refine au [58,124,36,10] ?_
 intro x7 e7 _
 refine au [58] ?_
 refine qc (fun ((x13,_):(Int×Unit))=>([(5,qAG x13)],[],[],[],qdC F x13)) ?_ ?_
 refine au [60,144] ?_
 refine qU 6 (fun ((x16,_):(Bool×Unit))=>([(5,qAG x7),(16,.bool x16)],[],[],[],qdD F x7 x16)) ?_ ?_
 refine qb (os:=_) rfl ?_
 refine av [25,10] ?_ ?_
 intro h14
 refine qp (k:=10) rfl h14 ?_
 refine au [1,62,27,4] ?_
 intro x18 e18 _
 refine au [25,3,97] ?_
 exact qa ((!x18),())
 intro h14
 refine qo (k:=10) rfl h14 ?_
 refine au [76,7,117] ?_
 exact qa (false,())
 rintro ⟨x16,_⟩
 try dsimp only
 refine qb (os:=_) rfl ?_
 refine av [63] ?_ ?_
 intro _
 refine au [4,5,0] ?_
 exact qa ((3:Int),())
 intro _
 refine au [10] ?_
 exact qa (x7,())
 rintro ⟨x13,_⟩
 try dsimp only
 exact az [60,95]
set_option maxHeartbeats 4000000 in
theorem qjH {F:Nat}{x1:qAE}{a2:qAF}{c3:Nat}{r:Int}(hm:ja F x1=some r) :
    Pure Tryz.prog 77 [.slice a2 x1.length c3] [Sl (eI .i64) 1 (.slice a2 x1.length c3) x1] Unit (fun _=>qAG r) (fun _=>[]) (fun _=>[]):=by
 refine qk Tryz.func77 rfl Tryz.ntmps77 rfl hm (fun w=>?_)
 refine av [126,75,18,77] ?_ ?_
 intro _
 exact az [59,96]
 intro _
 refine au [64] ?_
 refine qc (fun ((_,_):(Unit×Unit))=>([],[],[],[],qfq F)) ?_ ?_
 refine au [168] ?_
 refine qi (fun ((x0,_):(Int×Unit))=>([(0,.slice a2 x1.length c3),(3,qAG x0)],[],[],[Sl (eI .i64) 1 (.slice a2 x1.length c3) x1])) (fun k (s:(Int×Unit))=>zV F x1 k s.1) (0,()) F ?_
 intro k0
 rintro ⟨x0,_⟩
 try dsimp only
 refine qm (m':=jV F x1 (zV F x1 k0) x0) rfl ?_
 refine av [3,130] ?_ ?_
 intro _
 refine au [91,3,69,26,2] ?_
 intro x2 e0 b0 o0
 refine au [24,14,27,4] ?_
 intro x3 e1 _
 refine av [101] ?_ ?_
 intro _
 exact az [59,158,160]
 intro _
 refine au [64] ?_
 refine qc (fun ((x4,_):(Bool×Unit))=>([(0,.slice a2 x1.length c3),(3,qAG x0),(32,.bool x4)],[],[],[Sl (eI .i64) 1 (.slice a2 x1.length c3) x1],vi F (zV F x1 k0) x0 x4)) ?_ ?_
 refine av [26,15] ?_ ?_
 intro h0
 refine au [28,15] ?_
 intro x5 e2 b1 o1 h1
 replace h1:a2=some ⟨b1,o1,none⟩:=h1
 refine au [32,1] ?_
 intro x6 e3 b2 o2 h2
 replace h2:a2=some ⟨b2,o2,none⟩:=h2
 refine qu mixed [] [] [qz b2 (o2+(isub .i64 x0 1).toNat*1) ((eI .i64) x6),qz b1 (o1+x0.toNat*1) ((eI .i64) x5),qz b0 o0 ((eI .i64) x2),Sl (eI .i64) 1 (.slice a2 x1.length c3) x1] .nil (qx 0 rfl (qx 1 rfl (qx 2 rfl (qx 3 rfl qr)))) 14 rfl ?_
 refine au [113] ?_
 refine qf (d:=21) (v:=.bool true) rfl (by rw[h0] <;> rfl) ?_
 refine au [6,3,6,4] ?_
 refine qf (d:=22) (v:=.slice (some ⟨b1,o1,none⟩) x1.length c3) rfl (by rw[h1] <;> rfl) (qn 5 (.pointer (some ⟨b1,(o1+x0.toNat*1),none⟩)) rfl rfl rfl (yJ Tryz.underlying59 tf3 rfl rfl (qF e2).1 (zX e2)) (qf (d:=22) (v:=.slice a2 x1.length c3) rfl (by rw[h1] <;> rfl) (qI 6 (qAG x5) [] rfl rfl rfl (zi (j:=1) rfl tf3 rfl rfl (fun _=>rfl) rfl) ?_)))
 refine au [6,7,171] ?_
 refine qf (d:=26) (v:=.slice (some ⟨b2,o2,none⟩) x1.length c3) rfl (by rw[h2] <;> rfl) (qn 10 (.pointer (some ⟨b2,(o2+(isub .i64 x0 1).toNat*1),none⟩)) rfl rfl rfl (yJ Tryz.underlying59 tf3 rfl rfl (qF e3).1 (zX e3)) (qf (d:=26) (v:=.slice a2 x1.length c3) rfl (by rw[h2] <;> rfl) (qI 11 (qAG x6) [] rfl rfl rfl (zi (j:=0) rfl tf3 rfl rfl (fun _=>rfl) rfl) ?_)))
 refine au [123,24,3] ?_
 exact qy (qa ((decide (x5≤x6)),())) (by intro c h;cases h)
 intro h0
 refine qu mixed [] [] [qz b0 o0 ((eI .i64) x2),Sl (eI .i64) 1 (.slice a2 x1.length c3) x1] .nil (qx 0 rfl (qx 1 rfl qr)) 14 rfl ?_
 refine au [113] ?_
 refine qf (d:=21) (v:=.bool false) rfl (by rw[h0] <;> rfl) ?_
 refine au [11,3,11,4,11,5,11,6,11,7,141,112,11,12,6,13,24,3] ?_
 exact qy (qa (false,())) (by intro c h;cases h)
 rintro ⟨x4,_⟩
 try dsimp only
 refine av [8] ?_ ?_
 intro _
 exact az [59,61,78,9,160]
 intro _
 refine au [157,2,89,0] ?_
 exact qh (iadd .i64 x0 1,())
 intro _
 exact az [149]
 rintro ⟨_,_⟩
 try dsimp only
 exact az [59,95]
theorem qoo {F:Nat}{x1:Int}{x2:qAE}{a3:qAF}{c4:Nat}{x5:Int}{x6:Int}{x7:Int}{r:Int}(hm:qfP F x1 x2 x5 x6 x7=some r) :
    Pure Tryz.prog 75 [qAG x1,.slice a3 x2.length c4,.agg #[qAG x5,qAG x6,qAG x7]] [Sl (eI .i64) 1 (.slice a3 x2.length c4) x2] Unit (fun _=>qAG r) (fun _=>[]) (fun _=>[]):=by
 refine qk Tryz.func75 rfl Tryz.ntmps75 rfl hm (fun w=>?_)
 refine au [120] ?_
 intro g8
 refine au [58,75,27,4] ?_
 intro x11 e11 _
 refine av [101] ?_ ?_
 intro _
 exact az [59,96]
 intro _
 refine av [90,116,77] ?_ ?_
 intro _
 refine au [60,32,3] ?_
 intro x14 e14 _
 exact az [96]
 intro _
 exact az [64,59,95]
set_option maxHeartbeats 4000000 in
theorem qol (F:Nat)(x1:Int)(x2:Int)(x3:Bool)(r:Int)(hm:qbP F x1 x2 x3=some r) :
    Pure Tryz.prog 58 [.int .u64 x1,qAG x2,.bool x3] [] Unit (fun _=>qAG r) (fun _=>[]) (fun _=>[]):=by
 refine qk Tryz.func58 rfl Tryz.ntmps58 rfl hm (fun w=>?_)
 refine av [25,15,68,75,77] ?_ ?_
 intro _
 exact az [59,96]
 intro _
 refine au [64,69,24,11,16,86,26,1] ?_
 intro x5 e5
 refine qd (d:=7) (v:=qAG x5) rfl (by rw[e5] <;> rfl) ?_
 refine au [57] ?_
 refine qc (fun ((x10,_):(Int×Unit))=>([(7,qAG x10)],[],[],[],j4 F x10)) ?_ ?_
 refine av [60,63] ?_ ?_
 intro _
 refine au [69,24,11,27,12,86,26,1] ?_
 intro x15 e15
 refine qd (d:=7) (v:=qAG x15) rfl (by rw[e15] <;> rfl) ?_
 refine av [57,60,27,11,82] ?_ ?_
 intro _
 refine au [99,24,11,27,12,24,13,24,13,5,26,1] ?_
 intro x16 e16
 refine qd (d:=7) (v:=qAG x16) rfl (by rw[e16] <;> rfl) ?_
 refine au [0] ?_
 exact qa (x16,())
 intro _
 refine au [10] ?_
 exact qa (x15,())
 intro _
 refine au [10] ?_
 exact qa (x5,())
 rintro ⟨x10,_⟩
 try dsimp only
 refine au [75,27,4] ?_
 intro x13 e13 _
 refine av [101] ?_ ?_
 intro _
 exact az [59,96]
 intro _
 exact az [64,60,95]
set_option maxHeartbeats 4000000 in
theorem qln {F:Nat}{x1:qAE}{a2:qAF}{c3:Nat}{x4:qAE}{a5:qAF}{c6:Nat}{r:(qAE×Int)}(hm:qew F x1 x4=some r) :
    Pure Tryz.prog 87 [.slice a2 x1.length c3,.slice a5 x4.length c6] [Sl (eI .i64) 1 (.slice a2 x1.length c3) x1,Sl (eI .i64) 1 (.slice a5 x4.length c6) x4] (qAF×Nat) (fun g=>.tuple #[.slice g.1 r.1.length g.2,qAG r.2]) (fun g=>[Ro (eI .i64) 3 1 (.slice g.1 r.1.length g.2) r.1]) (fun _=>[]):=by
 refine qk Tryz.func87 rfl Tryz.ntmps87 rfl hm (fun w=>?_)
 refine au [25,0,59,79,60,32,3] ?_
 intro x7 e7 _
 refine av [58,75,85] ?_ ?_
 intro _
 refine au [60,5,109] ?_
 exact qj (none,0)
 intro _
 refine av [64,75,18,1,18,16,77] ?_ ?_
 intro _
 refine au [94,109] ?_
 exact qj (none,0)
 intro _
 refine au [64,68] ?_
 refine qc (fun ((x0,_):(Int×Unit))=>([(0,.slice a2 x1.length c3),(1,.slice a5 x4.length c6),(7,qAG x0)],[],[],[Sl (eI .i64) 1 (.slice a2 x1.length c3) x1,Sl (eI .i64) 1 (.slice a5 x4.length c6) x4],qdB F x1 x4 x0)) ?_ ?_
 refine au [168] ?_
 refine qi (fun (((x2,x3),_):((Int×Int)×Unit))=>([(0,.slice a2 x1.length c3),(1,.slice a5 x4.length c6),(7,qAG x2),(8,qAG x3)],[],[],[Sl (eI .i64) 1 (.slice a2 x1.length c3) x1,Sl (eI .i64) 1 (.slice a5 x4.length c6) x4])) (fun k (s:((Int×Int)×Unit))=>zQ F x1 x4 k s.1) ((0,0),()) F ?_
 intro k0
 rintro ⟨⟨x2,x3⟩,_⟩
 try dsimp only
 refine qm (m':=qaA F x1 x4 (zQ F x1 x4 k0) x2 x3) rfl ?_
 refine av [3,130] ?_ ?_
 intro _
 refine au [64] ?_
 refine qc (fun ((x5,_):(Int×Unit))=>([(0,.slice a2 x1.length c3),(1,.slice a5 x4.length c6),(7,qAG x5),(8,qAG x3)],[],[],[Sl (eI .i64) 1 (.slice a2 x1.length c3) x1,Sl (eI .i64) 1 (.slice a5 x4.length c6) x4],qaD F (zQ F x1 x4 k0) x3 x5)) ?_ ?_
 refine au [14,3,69,27,8] ?_
 intro x6 e0 b0 o0
 refine au [24,14,23,1] ?_
 refine qU 10 (fun ((x8,_):(Bool×Unit))=>([(0,.slice a2 x1.length c3),(1,.slice a5 x4.length c6),(7,qAG x2),(8,qAG x3),(45,.bool x8)],[],[],[Sl (eI .i64) 1 (.slice a2 x1.length c3) x1,Sl (eI .i64) 1 (.slice a5 x4.length c6) x4],qaE F (zQ F x1 x4 k0) x1 x4 x2 x3 x8)) ?_ ?_
 refine qb (os:=_) rfl ?_
 refine av [25,10] ?_ ?_
 intro h0
 refine qp (k:=35) rfl h0 ?_
 refine au [76,76,7,97] ?_
 exact qa (true,())
 intro h0
 refine qo (k:=35) rfl h0 ?_
 refine au [1,1,36,2] ?_
 intro x9 e1 b1 o1
 refine au [24,14,144] ?_
 refine qC 3 ((x9:Int) == 0) [(0,.slice a2 x1.length c3),(1,.slice a5 x4.length c6),(7,qAG x2),(8,qAG x3),(35,.bool false),(36,.slice a5 x4.length c6),(37,qAG x3),(38,.pointer (some ⟨b1,o1,none⟩)),(39,qAG x9),(40,.bool ((x9:Int) == 0)),(41,.bool ((x9:Int) == 0)),(44,.bool (((x9:Int) == 0) && (decide (0<x3))))] (fun h1=>?_) (fun h1=>?_) ?_
 refine qb (os:=_) rfl (qp (k:=41) rfl h1 ?_)
 refine au [1,24,4,24,7] ?_
 refine qd (d:=44) (v:=.bool (((x9:Int) == 0) && (decide (0<x3)))) rfl (by rw[h1];simp only[qyt]) (qd (d:=41) (v:=.bool ((x9:Int) == 0)) rfl (by rw[h1] <;> rfl) ?_)
 exact az [67]
 refine qb (os:=_) rfl (qo (k:=41) rfl h1 ?_)
 refine au [71,24,8] ?_
 refine qd (d:=44) (v:=.bool (((x9:Int) == 0) && (decide (0<x3)))) rfl (by rw[h1];simp only[qyj]) (qd (d:=41) (v:=.bool ((x9:Int) == 0)) rfl (by rw[h1] <;> rfl) ?_)
 exact az [67]
 refine qb (os:=_) rfl ?_
 refine au [117] ?_
 exact qa ((((x9:Int) == 0) && (decide (0<x3))),())
 rintro ⟨x8,_⟩
 try dsimp only
 refine qb (os:=_) rfl ?_
 refine av [63] ?_ ?_
 intro _
 refine au [94,158,131] ?_
 exact qj (none,0)
 intro _
 refine au [64] ?_
 refine qc (fun ((x10,_):(Int×Unit))=>([(0,.slice a2 x1.length c3),(1,.slice a5 x4.length c6),(7,qAG x10),(8,qAG x3)],[],[],[Sl (eI .i64) 1 (.slice a2 x1.length c3) x1,Sl (eI .i64) 1 (.slice a5 x4.length c6) x4],qaF F (zQ F x1 x4 k0) x4 x3 x10)) ?_ ?_
 refine au [69,27,8] ?_
 intro x11 e2 b2 o2
 refine av [24,14,1,18,77] ?_ ?_
 intro _
 refine au [4,5,0] ?_
 exact qa ((1000:Int),())
 intro _
 refine au [10] ?_
 exact qa (x2,())
 rintro ⟨x10,_⟩
 try dsimp only
 refine av [60,83] ?_ ?_
 intro _
 refine au [99,1,27,8] ?_
 intro x12 e3 b3 o3
 refine au [24,14,86,87] ?_
 exact qa (iadd .i64 x10 x12,())
 intro _
 refine au [157] ?_
 exact qa (x10,())
 rintro ⟨x5,_⟩
 try dsimp only
 refine au [89,0] ?_
 exact qh ((x5,iadd .i64 x3 1),())
 intro _
 refine au [73] ?_
 exact qa (x2,())
 rintro ⟨x0,_⟩
 try dsimp only
 refine av [3,121,77] ?_ ?_
 intro _
 refine au [94,109] ?_
 exact qj (none,0)
 intro _
 refine au [64,68] ?_
 refine qc (fun ((x13,(a0,c0)):(qAE×(qAF×Nat)))=>([(9,.slice a0 x13.length c0)],[],[Ro (eI .i64) 3 1 (.slice a0 x13.length c0) x13],[],qdl F x13)) ?_ ?_
 refine au [68,108] ?_
 refine qi (fun (((x14,x15),(a1,c1)):((qAE×Int)×(qAF×Nat)))=>([(0,.slice a2 x1.length c3),(1,.slice a5 x4.length c6),(9,.slice a1 x14.length c1),(10,qAG x15)],[],[Ro (eI .i64) 3 1 (.slice a1 x14.length c1) x14],[Sl (eI .i64) 1 (.slice a2 x1.length c3) x1,Sl (eI .i64) 1 (.slice a5 x4.length c6) x4])) (fun k (s:((qAE×Int)×(qAF×Nat)))=>qP F x1 x4 k s.1) ((([]:qAE),0),(none,0)) F ?_
 intro k1
 rintro ⟨⟨x14,x15⟩,⟨a1,c1⟩⟩
 try dsimp only
 refine qm (m':=qay F x1 x4 (qP F x1 x4 k1) x14 x15) rfl ?_
 refine av [3,130] ?_ ?_
 intro _
 refine au [64] ?_
 refine qc (fun ((x16,(a3,c2)):(qAE×(qAF×Nat)))=>([(0,.slice a2 x1.length c3),(1,.slice a5 x4.length c6),(9,.slice a3 x16.length c2),(10,qAG x15)],[],[Ro (eI .i64) 3 1 (.slice a3 x16.length c2) x16],[Sl (eI .i64) 1 (.slice a2 x1.length c3) x1,Sl (eI .i64) 1 (.slice a5 x4.length c6) x4],qaB F (qP F x1 x4 k1) x15 x16)) ?_ ?_
 refine au [14,59,79] ?_
 refine qc (fun ((x17,_):(Int×Unit))=>([(0,.slice a2 x1.length c3),(1,.slice a5 x4.length c6),(9,.slice a1 x14.length c1),(10,qAG x15),(11,qAG x17)],[],[Ro (eI .i64) 3 1 (.slice a1 x14.length c1) x14],[Sl (eI .i64) 1 (.slice a2 x1.length c3) x1,Sl (eI .i64) 1 (.slice a5 x4.length c6) x4],qaC F (qP F x1 x4 k1) x1 x14 x15 x17)) ?_ ?_
 refine au [14] ?_
 refine qi (fun (((x18,x19),_):((Int×Int)×Unit))=>([(0,.slice a2 x1.length c3),(1,.slice a5 x4.length c6),(9,.slice a1 x14.length c1),(10,qAG x15),(11,qAG x18),(12,qAG x19)],[],[Ro (eI .i64) 3 1 (.slice a1 x14.length c1) x14],[Sl (eI .i64) 1 (.slice a2 x1.length c3) x1,Sl (eI .i64) 1 (.slice a5 x4.length c6) x4])) (fun k (s:((Int×Int)×Unit))=>kN F (qP F x1 x4 k1) x1 x4 x14 x15 k s.1) ((0,0),()) F ?_
 intro k2
 rintro ⟨⟨x18,x19⟩,_⟩
 try dsimp only
 refine qm (m':=qaz F (qP F x1 x4 k1) x1 x4 x14 x15 (kN F (qP F x1 x4 k1) x1 x4 x14 x15 k2) x18 x19) rfl ?_
 refine au [3,121,23,1] ?_
 refine qU 9 (fun ((x20,_):(Bool×Unit))=>([(0,.slice a2 x1.length c3),(1,.slice a5 x4.length c6),(9,.slice a1 x14.length c1),(10,qAG x15),(11,qAG x18),(12,qAG x19),(84,.bool x20)],[],[Ro (eI .i64) 3 1 (.slice a1 x14.length c1) x14],[Sl (eI .i64) 1 (.slice a2 x1.length c3) x1,Sl (eI .i64) 1 (.slice a5 x4.length c6) x4],vK F (qP F x1 x4 k1) (kN F (qP F x1 x4 k1) x1 x4 x14 x15 k2) x1 x4 x14 x15 x18 x19 x20)) ?_ ?_
 refine qb (os:=_) rfl ?_
 refine av [25,10] ?_ ?_
 intro h2
 refine qp (k:=75) rfl h2 ?_
 refine au [1,1,1,1,27,8] ?_
 intro x21 e4 b4 o4
 refine au [24,14,16,26,3,97] ?_
 exact qa ((decide ((iadd .i64 x19 x21)≤x15)),())
 intro h2
 refine qo (k:=75) rfl h2 ?_
 refine au [76,76,117] ?_
 exact qa (false,())
 rintro ⟨x20,_⟩
 try dsimp only
 refine qb (os:=_) rfl ?_
 refine av [63] ?_ ?_
 intro _
 refine au [64,14,69,1,27,8] ?_
 intro x22 e5 b5 o5
 refine au [24,14,16,58,89,87] ?_
 exact qh ((iadd .i64 x18 1,iadd .i64 x19 x22),())
 intro _
 refine au [73] ?_
 exact qa (x18,())
 rintro ⟨x17,_⟩
 try dsimp only
 refine av [60,27,11,82] ?_ ?_
 intro _
 refine au [99,1,26,2] ?_
 intro x23 e6 b6 o6
 refine au [24,14] ?_
 refine qt (vs:=[qAG x23]) (ys:=([x23]:qAE)) (ql .i64) (by decide) rfl Tryz.underlying59 tf3 rfl rfl rfl rfl rfl (by decide) (fun a4 c4=>qB 1 (ql .i64) rfl Tryz.underlying59 tf3 rfl rfl rfl rfl rfl (.inl ⟨0,_,rfl⟩) rfl rfl (fun x24 e8 a6 c5=>?_))
 refine au [172] ?_
 exact qa (x24,(a6,c5))
 intro _
 refine au [157] ?_
 exact qa (x14,(a1,c1))
 rintro ⟨x16,⟨a3,c2⟩⟩
 try dsimp only
 refine au [89,0] ?_
 exact qh ((x16,iadd .i64 x15 1),(a3,c2))
 intro _
 refine au [73] ?_
 exact qa (x14,(a1,c1))
 rintro ⟨x13,⟨a0,c0⟩⟩
 try dsimp only
 refine au [60,5,61] ?_
 exact qj (a0,c0)
set_option maxHeartbeats 4000000 in
theorem qlk {F:Nat}{x1:qAE}{a2:qAF}{c3:Nat}{x4:Int}{x5:Int}{r:(Int×Int)}(hm:qeu F x1 x4 x5=some r) :
    Pure Tryz.prog 113 [.slice a2 x1.length c3,qAG x4,.int .u64 x5] [Sl (eI .i64) 1 (.slice a2 x1.length c3) x1] Unit (fun _=>.tuple #[.int .u64 r.1,qAG r.2]) (fun _=>[]) (fun _=>[]):=by
 refine qk Tryz.func113 rfl Tryz.ntmps113 rfl hm (fun w=>?_)
 refine au [25,15,59,79,68] ?_
 refine qc (fun ((x18,_):(Int×Unit))=>([(0,.slice a2 x1.length c3),(1,qAG x4),(2,.int .u64 x5),(8,qAG x18)],[],[],[Sl (eI .i64) 1 (.slice a2 x1.length c3) x1],qd7 F x1 x4 x5 x18)) ?_ ?_
 refine au [14] ?_
 refine qi (fun ((x0,_):(Int×Unit))=>([(0,.slice a2 x1.length c3),(1,qAG x4),(2,.int .u64 x5),(8,qAG x0)],[],[],[Sl (eI .i64) 1 (.slice a2 x1.length c3) x1])) (fun k (s:(Int×Unit))=>vw F x1 x4 x5 k s.1) (0,()) F ?_
 intro k0
 rintro ⟨x0,_⟩
 try dsimp only
 refine qm (m':=qcd F x1 x4 x5 (vw F x1 x4 x5 k0) x0) rfl ?_
 refine au [75,26,6] ?_
 intro h0
 refine qcB rfl rfl rfl rfl h0 ?_
 refine av [1,83] ?_ ?_
 intro _
 refine au [64,14,89,87] ?_
 exact qh (iadd .i64 x0 1,())
 intro _
 refine au [73] ?_
 exact qa (x0,())
 rintro ⟨x18,_⟩
 try dsimp only
 refine au [60,26,6] ?_
 intro h19
 refine qcB rfl rfl rfl rfl h19 ?_
 refine au [103,58,68] ?_
 refine qc (fun ((_,_):(Unit×Unit))=>([],[],[],[],qgn F)) ?_ ?_
 refine au [168] ?_
 refine qi (fun (((x2,x3),_):((Int×Int)×Unit))=>([(0,.slice a2 x1.length c3),(1,qAG x4),(8,qAG x18),(9,.int .u64 (isub .u64 (ishl .u64 1 x18) x5)),(10,.int .u64 x2),(11,qAG x3)],[],[],[Sl (eI .i64) 1 (.slice a2 x1.length c3) x1])) (fun k (s:((Int×Int)×Unit))=>vv F x1 x4 x5 x18 k s.1) ((0,0),()) F ?_
 intro k1
 rintro ⟨⟨x2,x3⟩,_⟩
 try dsimp only
 refine qm (m':=qcc F x1 x4 x5 x18 (vv F x1 x4 x5 x18 k1) x2 x3) rfl ?_
 refine av [3,69,27,6,63] ?_ ?_
 intro _
 refine au [91,3,69,24,13,144] ?_
 refine qC 4 ((x3:Int) == (isub .i64 x18 1)) [(0,.slice a2 x1.length c3),(1,qAG x4),(8,qAG x18),(9,.int .u64 (isub .u64 (ishl .u64 1 x18) x5)),(10,.int .u64 x2),(11,qAG x3),(35,.bool (((x3:Int) == (isub .i64 x18 1)) && (decide (x2<(isub .u64 (ishl .u64 1 x18) x5)))))] (fun h1=>?_) (fun h1=>?_) ?_
 refine qb (os:=_) rfl (qp (k:=31) rfl h1 ?_)
 refine au [1,1,23,24,7] ?_
 refine qd (d:=35) (v:=.bool (((x3:Int) == (isub .i64 x18 1)) && (decide (x2<(isub .u64 (ishl .u64 1 x18) x5))))) rfl (by rw[h1];simp only[qyt]) ?_
 exact az [67]
 refine qb (os:=_) rfl (qo (k:=31) rfl h1 ?_)
 refine au [71,7,24,8] ?_
 refine qd (d:=35) (v:=.bool (((x3:Int) == (isub .i64 x18 1)) && (decide (x2<(isub .u64 (ishl .u64 1 x18) x5))))) rfl (by rw[h1];simp only[qyj]) ?_
 exact az [67]
 refine qb (os:=_) rfl ?_
 refine av [63] ?_ ?_
 intro _
 exact az [69,1,86,158,160]
 intro _
 refine av [90,69,82] ?_ ?_
 intro _
 refine au [69,24,13,1,1,86,26,1] ?_
 intro x6 e0
 refine qd (d:=6) (v:=.int .u64 x6) rfl (by rw[e0] <;> rfl) ?_
 exact az [158,160]
 intro _
 refine av [90,69,16,1,18,26,3,63] ?_ ?_
 intro _
 exact az [94,158,160]
 intro _
 refine au [64,88,27,2,1,1,1,16,26,2] ?_
 intro x7 e1 b0 o0
 refine au [163,86,26,1] ?_
 intro x8 e2
 refine qd (d:=10) (v:=.int .u64 x8) rfl (by rw[e2] <;> rfl) ?_
 refine au [87,2,89,0] ?_
 exact qh ((x8,iadd .i64 x3 1),())
 intro _
 exact az [149]
 rintro ⟨_,_⟩
 try dsimp only
 exact az [94,95]
set_option maxHeartbeats 4000000 in
theorem qm5 {F:Nat}{x1:qAE}{a2:qAF}{c3:Nat}{x4:Int}{x5:Int}{r:(Int×Int×Int)}(hm:qe8 F x1 x4 x5=some r) :
    Pure Tryz.prog 100 [.slice a2 x1.length c3,qAG x4,qAG x5] [Sl (eI .i64) 1 (.slice a2 x1.length c3) x1] Unit (fun _=>.tuple #[.int .u64 r.1,qAG r.2.1,qAG r.2.2]) (fun _=>[]) (fun _=>[]):=by
 refine qk Tryz.func100 rfl Tryz.ntmps100 rfl hm (fun w=>?_)
 refine au [25,15,94,79,69,36,11] ?_
 intro x6 e6 _
 refine av [92,114,83] ?_ ?_
 intro _
 exact az [94,5,96]
 intro _
 refine au [64,75,26,3,1] ?_
 refine qC 6 (decide (41≤x6.1)) [(0,.slice a2 x1.length c3),(2,qAG x5),(9,.int .u64 x6.1),(10,qAG x6.2),(30,.bool ((decide (41≤x6.1)) || (decide (41≤(imul .i64 (iconv .i64 x6.1) x5)))))] (fun h10=>?_) (fun h10=>?_) ?_
 refine qb (os:=_) rfl (qp (k:=24) rfl h10 ?_)
 refine au [76,174] ?_
 refine qd (d:=30) (v:=.bool ((decide (41≤x6.1)) || (decide (41≤(imul .i64 (iconv .i64 x6.1) x5))))) rfl (by rw[h10];simp only[qyg]) ?_
 exact az [67]
 refine qb (os:=_) rfl (qo (k:=24) rfl h10 ?_)
 refine au [135,1,27,2,26,3,24,8] ?_
 refine qd (d:=30) (v:=.bool ((decide (41≤x6.1)) || (decide (41≤(imul .i64 (iconv .i64 x6.1) x5))))) rfl (by rw[h10];simp only[qyd]) ?_
 exact az [67]
 refine qb (os:=_) rfl ?_
 refine av [63] ?_ ?_
 intro _
 exact az [94,5,96]
 intro _
 refine au [64,68] ?_
 refine qc (fun ((x26,_):(Int×Unit))=>([(0,.slice a2 x1.length c3),(2,qAG x5),(10,qAG x6.2),(11,.int .u64 x26)],[],[],[Sl (eI .i64) 1 (.slice a2 x1.length c3) x1],qeY F x1 x5 x6 x26)) ?_ ?_
 refine au [168] ?_
 refine qi (fun (((x37,x38),_):((Int×Int)×Unit))=>([(0,.slice a2 x1.length c3),(2,qAG x5),(9,.int .u64 x6.1),(10,qAG x6.2),(11,.int .u64 x37),(12,.int .u64 x38)],[],[],[Sl (eI .i64) 1 (.slice a2 x1.length c3) x1])) (fun k (s:((Int×Int)×Unit))=>jd F x1 x5 x6 k s.1) ((1,0),()) F ?_
 intro k43
 rintro ⟨⟨x37,x38⟩,_⟩
 try dsimp only
 refine qm (m':=qc5 F x1 x5 x6 (jd F x1 x5 x6 k43) x37 x38) rfl ?_
 refine av [3,69,83] ?_ ?_
 intro _
 refine au [91,99,26,6] ?_
 intro h46
 refine qcB rfl rfl rfl rfl h46 ?_
 refine au [173,89,0] ?_
 exact qh ((ishl .u64 x37 x5,iadd .u64 x38 1),())
 intro _
 refine au [73] ?_
 exact qa (x37,())
 rintro ⟨x26,_⟩
 try dsimp only
 refine au [69,1,1,26,6] ?_
 intro h27
 refine qcB rfl rfl rfl rfl h27 ?_
 refine au [103] ?_
 refine qg qlk ?_
 intro x28 e28 _
 refine av [92,114,83] ?_ ?_
 intro _
 exact az [94,5,96]
 intro _
 refine av [90,69,16,24,13,77] ?_ ?_
 intro _
 exact az [94,5,96]
 intro _
 exact az [64,69,16,24,13,1,5,5,95]
set_option maxHeartbeats 4000000 in
theorem qmU {F:Nat}{x1:qAE}{a2:qAF}{c3:Nat}{x4:Int}{x5:Int}{x6:Int}{x7:Int}{r:(qAE×Int×Int)}(hm:qgC F x1 x4 x5 x6 x7=some r) :
    Pure Tryz.prog 88 [.slice a2 x1.length c3,qAG x4,qAG x5,qAG x6,qAG x7] [Sl (eI .i64) 1 (.slice a2 x1.length c3) x1] (qAF×Nat) (fun g=>.tuple #[.slice g.1 r.1.length g.2,qAG r.2.1,qAG r.2.2]) (fun g=>[Ro (eI .i64) 3 1 (.slice g.1 r.1.length g.2) r.1]) (fun _=>[]):=by
 refine qk Tryz.func88 rfl Tryz.ntmps88 rfl hm (fun w=>?_)
 refine au [28,9,94,79,68] ?_
 refine qc (fun (((x56,x59),(a57,c58)):((Int×qAE)×(qAF×Nat)))=>([(1,qAG x56),(13,.slice a57 x59.length c58)],[],[Ro (eI .i64) 3 1 (.slice a57 x59.length c58) x59],[],qeX F x56 x59)) ?_ ?_
 refine au [108] ?_
 refine qi (fun (((x75,x76,x79),(a77,c78)):((Int×Int×qAE)×(qAF×Nat)))=>([(0,.slice a2 x1.length c3),(1,qAG x75),(2,qAG x76),(3,qAG x6),(4,qAG x7),(13,.slice a77 x79.length c78)],[],[Ro (eI .i64) 3 1 (.slice a77 x79.length c78) x79],[Sl (eI .i64) 1 (.slice a2 x1.length c3) x1])) (fun k (s:((Int×Int×qAE)×(qAF×Nat)))=>v7 F x1 x6 x7 k s.1) ((x4,x5,([]:qAE)),(none,0)) F ?_
 intro k93
 rintro ⟨⟨x75,x76,x79⟩,⟨a77,c78⟩⟩
 try dsimp only
 refine qm (m':=qcW F x1 x6 x7 (v7 F x1 x6 x7 k93) x75 x76 x79) rfl ?_
 refine av [75,18,1,83] ?_ ?_
 intro _
 refine au [64,14,69,1] ?_
 refine qg qm5 ?_
 intro x95 e95 _
 refine av [148,5,114,85] ?_ ?_
 intro _
 refine au [60,5,5,147,131] ?_
 exact qj (none,0)
 intro _
 refine au [64,69,1,18,24,15,32,4] ?_
 intro x97 e97 _
 refine av [58,75,83] ?_ ?_
 intro _
 refine au [94,5,147,131] ?_
 exact qj (none,0)
 intro _
 refine au [64,69] ?_
 refine qt (vs:=[qAG x97]) (ys:=([x97]:qAE)) (ql .i64) (by decide) rfl Tryz.underlying59 tf3 rfl rfl rfl rfl rfl (by decide) (fun a99 c0=>qB 1 (ql .i64) rfl Tryz.underlying59 tf3 rfl rfl rfl rfl rfl (.inl ⟨0,_,rfl⟩) rfl rfl (fun x0 e0 a0 c1=>?_))
 refine au [58,60,58,88,172] ?_
 exact qh ((x95.2.1,x97,x0),(a0,c1))
 intro _
 refine au [73] ?_
 exact qa ((x75,x79),(a77,c78))
 rintro ⟨⟨x56,x59⟩,⟨a57,c58⟩⟩
 try dsimp only
 refine au [69,5,5,61] ?_
 exact qj (a57,c58)
set_option maxHeartbeats 4000000 in
theorem qpZ {F:Nat}{x1:qAE}{a2:qAF}{c3:Nat}{r:qAE}(hm:qgE F x1=some r) :
    Pure Tryz.prog 89 [.slice a2 x1.length c3] [Sl (eI .i64) 1 (.slice a2 x1.length c3) x1] (qAF×Nat) (fun g=>.slice g.1 r.length g.2) (fun g=>[Ro (eI .i64) 3 1 (.slice g.1 r.length g.2) r]) (fun _=>[]):=by
 refine qk Tryz.func89 rfl Tryz.ntmps89 rfl hm (fun w=>?_)
 refine au [126,68] ?_
 refine qc (fun ((x0,(a0,c0)):(qAE×(qAF×Nat)))=>([(3,.slice a0 x0.length c0)],[],[Ro (eI .i64) 3 1 (.slice a0 x0.length c0) x0],[],qfr F x0)) ?_ ?_
 refine au [68,108] ?_
 refine qi (fun (((x2,x3),(a1,c1)):((qAE×Int)×(qAF×Nat)))=>([(0,.slice a2 x1.length c3),(3,.slice a1 x2.length c1),(4,qAG x3)],[],[Ro (eI .i64) 3 1 (.slice a1 x2.length c1) x2],[Sl (eI .i64) 1 (.slice a2 x1.length c3) x1])) (fun k (s:((qAE×Int)×(qAF×Nat)))=>qY F x1 k s.1) ((([]:qAE),0),(none,0)) F ?_
 intro k0
 rintro ⟨⟨x2,x3⟩,⟨a1,c1⟩⟩
 try dsimp only
 refine qm (m':=qc1 F x1 (qY F x1 k0) x2 x3) rfl ?_
 refine av [3,130] ?_ ?_
 intro _
 refine au [64] ?_
 refine qc (fun ((x4,(a3,c2)):(qAE×(qAF×Nat)))=>([(0,.slice a2 x1.length c3),(3,.slice a3 x4.length c2),(4,qAG x3)],[],[Ro (eI .i64) 3 1 (.slice a3 x4.length c2) x4],[Sl (eI .i64) 1 (.slice a2 x1.length c3) x1],qaV F (qY F x1 k0) x3 x4)) ?_ ?_
 refine au [14,169,58] ?_
 refine qc (fun ((x5,_):(Int×Unit))=>([(0,.slice a2 x1.length c3),(3,.slice a1 x2.length c1),(4,qAG x3),(5,qAG x5)],[],[Ro (eI .i64) 3 1 (.slice a1 x2.length c1) x2],[Sl (eI .i64) 1 (.slice a2 x1.length c3) x1],qc3 F (qY F x1 k0) x1 x2 x3 x5)) ?_ ?_
 refine au [14] ?_
 refine qi (fun ((x6,_):(Int×Unit))=>([(0,.slice a2 x1.length c3),(3,.slice a1 x2.length c1),(4,qAG x3),(5,qAG x6)],[],[Ro (eI .i64) 3 1 (.slice a1 x2.length c1) x2],[Sl (eI .i64) 1 (.slice a2 x1.length c3) x1])) (fun k (s:(Int×Unit))=>vd F (qY F x1 k0) x1 x2 x3 k s.1) ((x2.length:Int),()) F ?_
 intro k1
 rintro ⟨x6,_⟩
 try dsimp only
 refine qm (m':=qc2 F (qY F x1 k0) x1 x2 x3 (vd F (qY F x1 k0) x1 x2 x3 k1) x6) rfl ?_
 refine au [3] ?_
 refine qc (fun ((x7,_):(Bool×Unit))=>([(0,.slice a2 x1.length c3),(3,.slice a1 x2.length c1),(4,qAG x3),(5,qAG x6),(27,.bool x7)],[],[Ro (eI .i64) 3 1 (.slice a1 x2.length c1) x2],[Sl (eI .i64) 1 (.slice a2 x1.length c3) x1],qc4 F (qY F x1 k0) (vd F (qY F x1 k0) x1 x2 x3 k1) x1 x2 x3 x6 x7)) ?_ ?_
 refine av [26,15] ?_ ?_
 intro h0
 refine au [27,15] ?_
 intro x8 e0 g0 h1
 replace h1:a1=some ⟨g0,0,none⟩:=h1
 have h2:=qej (k:=x2.length) (c:=c1) h1
 refine au [29,8] ?_
 intro x9 e1 b0 o0 h3
 replace h3:a2=some ⟨b0,o0,none⟩:=h3
 refine qu mixed [] [] [qz b0 (o0+x3.toNat*1) ((eI .i64) x9),Sl (eI .i64) 1 (.slice a2 x1.length c3) x1,qz g0 ((isub .i64 x6 1).toNat*1) ((eI .i64) x8)] .nil (qx 0 rfl (qx 1 rfl (qdr 0 rfl (kQ (ql .i64) e0 h1) qr))) 14 rfl ?_
 refine au [113] ?_
 refine qf (d:=16) (v:=.bool true) rfl (by rw[h0] <;> rfl) ?_
 refine au [6,3,118] ?_
 refine qf (d:=17) (v:=.slice (some ⟨g0,0,none⟩) x2.length c1) rfl (by rw[h1] <;> rfl) (qn 6 (.pointer (some ⟨g0,(isub .i64 x6 1).toNat*1,none⟩)) rfl rfl rfl (qdj Tryz.underlying59 tf3 rfl rfl (qF e0).1 (zX e0)) (qf (d:=17) (v:=.slice a1 x2.length c1) rfl (by rw[h1] <;> rfl) (qI 7 (qAG x8) [] rfl rfl rfl (zi (j:=2) rfl tf3 rfl rfl (fun _=>rfl) rfl) ?_)))
 refine au [171] ?_
 refine qf (d:=22) (v:=.slice (some ⟨b0,o0,none⟩) x1.length c3) rfl (by rw[h3] <;> rfl) (qn 10 (.pointer (some ⟨b0,(o0+x3.toNat*1),none⟩)) rfl rfl rfl (yJ Tryz.underlying59 tf3 rfl rfl (qF e1).1 (zX e1)) (qf (d:=22) (v:=.slice a2 x1.length c3) rfl (by rw[h3] <;> rfl) (qI 11 (qAG x9) [] rfl rfl rfl (zi (j:=0) rfl tf3 rfl rfl (fun _=>rfl) rfl) ?_)))
 refine au [123,24,3] ?_
 exact qy (qa ((decide (x9<x8)),())) (by intro c h;cases h)
 intro h0
 refine qu mixed [] [] [Sl (eI .i64) 1 (.slice a2 x1.length c3) x1] .nil (qx 0 rfl qr) 14 rfl ?_
 refine au [113] ?_
 refine qf (d:=16) (v:=.bool false) rfl (by rw[h0] <;> rfl) ?_
 refine au [11,3,11,4,11,5,11,6,11,7,141,112,11,12,6,13,24,3] ?_
 exact qy (qa (false,())) (by intro c h;cases h)
 rintro ⟨x7,_⟩
 try dsimp only
 refine av [8] ?_ ?_
 intro _
 refine au [64,14,88,24,13,172] ?_
 exact qh (isub .i64 x6 1,())
 intro _
 refine au [73] ?_
 exact qa (x6,())
 rintro ⟨x5,_⟩
 try dsimp only
 refine qkX 0 rfl (qiZ 0 (ql .i64) rfl ?_)
 intro x10 e2 a4 c4 h4 h5
 refine au [32,1] ?_
 intro x11 e3 b1 o1 h6
 replace h6:a2=some ⟨b1,o1,none⟩:=h6
 refine qiZ 2 (ql .i64) rfl ?_
 intro x12 e4 a5 c5 h7 h8
 refine qu mixed [] [] [Sl (eI .i64) 1 (.slice a5 x12.length c5) x12,qz b1 (o1+x3.toNat*1) ((eI .i64) x11),Sl (eI .i64) 1 (.slice a4 x10.length c4) x10,Sl (eI .i64) 1 (.slice a1 x2.length c1) x2,Sl (eI .i64) 1 (.slice a2 x1.length c3) x1] .nil (qx 0 rfl (qx 1 rfl (qx 2 rfl (qx 3 rfl (qx 4 rfl qr))))) 16 rfl ?_
 refine au [6,1,6,2] ?_
 refine qn 3 (.slice a4 x10.length c4) rfl rfl rfl (qk9 Tryz.underlying59 tf3 rfl rfl rfl e2 h5 h4) ?_
 refine au [6,5,6,6] ?_
 refine qf (d:=35) (v:=.slice (some ⟨b1,o1,none⟩) x1.length c3) rfl (by rw[h6] <;> rfl) (qn 7 (.pointer (some ⟨b1,(o1+x3.toNat*1),none⟩)) rfl rfl rfl (yJ Tryz.underlying59 tf3 rfl rfl (qF e3).1 (zX e3)) (qf (d:=35) (v:=.slice a2 x1.length c3) rfl (by rw[h6] <;> rfl) (qI 8 (qAG x11) [] rfl rfl rfl (zi (j:=1) rfl tf3 rfl rfl (fun _=>rfl) rfl) ?_)))
 refine au [6,11,6,12] ?_
 refine qn 13 (.slice a5 x12.length c5) rfl rfl rfl (qk9 Tryz.underlying59 tf3 rfl rfl rfl e4 h8 h7) (qeM 0 9 rfl rfl (by kernel_rfl) rfl rfl ?_ ?_)
 refine au [31,8] ?_
 intro a6 c6
 refine au [165] ?_
 refine qeM 4 9 rfl rfl (by kernel_rfl) rfl rfl ?_ ?_
 refine au [36,12] ?_
 intro x13 e5 a7 c7
 refine au [165,21,9] ?_
 refine qt (vs:=[qAG x11]) (ys:=([x11]:qAE)) (ql .i64) (by decide) rfl Tryz.underlying59 tf3 rfl rfl rfl rfl rfl (by decide) (fun a8 c8=>?_)
 refine au [165,21,10] ?_
 refine qB 1 (ql .i64) rfl Tryz.underlying59 tf3 rfl rfl rfl rfl rfl (.inl ⟨0,_,rfl⟩) rfl rfl (fun x14 e6 a9 c9=>?_)
 refine au [165,21,14,28,10] ?_
 intro x15 e7 a10 c10
 refine au [165,6,15,24,3] ?_
 refine qy ?_ (by intro c h;cases h)
 refine au [22] ?_
 exact qa (x15,(a10,c10))
 refine qeN (m':=((app 8796093022208 ([]:qAE) x10).bind fun x16=>((app 8796093022208 x16 ([x11]:qAE)).bind fun x17=>((app 8796093022208 x17 x12).bind fun x18=>qaV F (qY F x1 k0) x3 x18)))) (rfl) (qt (vs:=[qAG x11]) (ys:=([x11]:qAE)) (ql .i64) (by decide) rfl Tryz.underlying59 tf3 rfl rfl rfl rfl rfl (by decide) (fun a11 c11=>?_))
 refine au [165,21,4] ?_
 refine qB 1 (ql .i64) rfl UnF.u inferInstance rfl rfl rfl rfl rfl (.inr ⟨2,rfl⟩) rfl rfl ?_
 intro x16 e8 a12 c12
 refine au [165,21,10] ?_
 refine qB 0 (ql .i64) rfl Tryz.underlying59 tf3 rfl rfl rfl rfl rfl (.inl ⟨1,_,rfl⟩) rfl rfl (fun x17 e9 a13 c13=>?_)
 refine au [165,21,14,28,10] ?_
 intro x18 e10 a14 c14
 refine au [165,6,15,24,3] ?_
 refine qy ?_ (by intro c h;cases h)
 refine au [22] ?_
 exact qa (x18,(a14,c14))
 refine qeN (m':=((app 8796093022208 ([]:qAE) x10).bind fun x19=>((app 8796093022208 x19 ([x11]:qAE)).bind fun x20=>((app 8796093022208 x20 x12).bind fun x21=>qaV F (qY F x1 k0) x3 x21)))) (rfl) (qt (vs:=[qAG x11]) (ys:=([x11]:qAE)) (ql .i64) (by decide) rfl Tryz.underlying59 tf3 rfl rfl rfl rfl rfl (by decide) (fun a15 c15=>?_))
 refine au [165,21,0,31,8] ?_
 intro a16 c16
 refine au [165,21,4,36,12] ?_
 intro x19 e11 a17 c17
 refine au [165,21,10] ?_
 refine qB 0 (ql .i64) rfl Tryz.underlying59 tf3 rfl rfl rfl rfl rfl (.inl ⟨1,_,rfl⟩) rfl rfl (fun x20 e12 a18 c18=>?_)
 refine au [165,21,14,28,10] ?_
 intro x21 e13 a19 c19
 refine au [165,6,15,24,3] ?_
 refine qy ?_ (by intro c h;cases h)
 refine au [22] ?_
 exact qa (x21,(a19,c19))
 rintro ⟨x4,⟨a3,c2⟩⟩
 try dsimp only
 refine au [89,0] ?_
 exact qh ((x4,iadd .i64 x3 1),(a3,c2))
 intro _
 refine au [73] ?_
 exact qa (x2,(a1,c1))
 rintro ⟨x0,⟨a0,c0⟩⟩
 try dsimp only
 refine au [60,61] ?_
 exact qj (a0,c0)
set_option maxHeartbeats 4000000 in
theorem qlw {F:Nat}{x1:qAE}{a2:qAF}{c3:Nat}{x4:Int}{x5:Int}{x6:qAE}{a7:qAF}{c8:Nat}{x9:Int}{x10:Int}{x11:Int}{r:(qAE×Bool)}(hm:qeA F x1 x4 x5 x6 x9 x10 x11=some r) :
    Pure Tryz.prog 76 [.slice a2 x1.length c3,qAG x4,qAG x5,.slice a7 x6.length c8,.agg #[qAG x9,qAG x10,qAG x11]] [Sl (eI .i64) 1 (.slice a2 x1.length c3) x1,Sl (eI .i64) 1 (.slice a7 x6.length c8) x6] (qAF×Nat) (fun g=>.tuple #[.slice g.1 r.1.length g.2,.bool r.2]) (fun g=>[Ro (eI .i64) 3 1 (.slice g.1 r.1.length g.2) r.1]) (fun _=>[]):=by
 refine qk Tryz.func76 rfl Tryz.ntmps76 rfl hm (fun w=>?_)
 refine au [28,9,72] ?_
 intro g12
 refine au [79,69,28,12] ?_
 intro x13 e13 _
 refine au [148,5,114,25,1,1] ?_
 refine qC 3 ((x13.2.2:Int) != 0) [(0,.slice a2 x1.length c3),(1,qAG x13.2.1),(2,qAG x5),(3,.slice a7 x6.length c8),(9,.pointer (some ⟨g12,0,none⟩)),(12,.int .u64 x13.1),(40,.bool (((x13.2.2:Int) != 0) || (decide (300<x13.1))))] (fun h16=>?_) (fun h16=>?_) ?_
 refine qb (os:=_) rfl (qp (k:=37) rfl h16 ?_)
 refine au [132] ?_
 refine qd (d:=40) (v:=.bool (((x13.2.2:Int) != 0) || (decide (300<x13.1)))) rfl (by rw[h16];simp only[qyg]) ?_
 exact az [67]
 refine qb (os:=_) rfl (qo (k:=37) rfl h16 ?_)
 refine au [1,80] ?_
 refine qd (d:=40) (v:=.bool (((x13.2.2:Int) != 0) || (decide (300<x13.1)))) rfl (by rw[h16];simp only[qyd]) ?_
 exact az [67]
 refine qb (os:=_) rfl ?_
 refine av [63] ?_ ?_
 intro _
 refine au [94,109] ?_
 exact qj (none,0)
 intro _
 refine av [64,75,82] ?_ ?_
 intro _
 refine au [94,109] ?_
 exact qj (none,0)
 intro _
 refine au [64,68] ?_
 refine qc (fun (((x0,x2),(a0,c0)):((Int×qAE)×(qAF×Nat)))=>([(0,.slice a2 x1.length c3),(1,qAG x0),(2,qAG x5),(9,.pointer (some ⟨g12,0,none⟩)),(12,.int .u64 x13.1),(14,.slice a0 x2.length c0)],[⟨g12,26,[qAG x9,qAG x10,qAG x11]⟩],[Ro (eI .i64) 3 1 (.slice a0 x2.length c0) x2],[Sl (eI .i64) 1 (.slice a2 x1.length c3) x1],js F x1 x5 x10 x11 x13 x0 x2)) ?_ ?_
 refine av [116,77] ?_ ?_
 intro _
 refine au [68,69,28,12] ?_
 intro x3 e0 _
 refine au [148,5,114,25,1,1] ?_
 refine qC 7 ((x3.2.2:Int) != 0) [(0,.slice a2 x1.length c3),(1,qAG x3.2.1),(2,qAG x5),(3,.slice a7 x6.length c8),(9,.pointer (some ⟨g12,0,none⟩)),(12,.int .u64 x13.1),(15,.int .u64 x3.1),(62,.bool (((x3.2.2:Int) != 0) || (decide ((iconv .u64 (iadd .i64 (x6.length:Int) 1))<x3.1))))] (fun h0=>?_) (fun h0=>?_) ?_
 refine qb (os:=_) rfl (qp (k:=55) rfl h0 ?_)
 refine au [76,132] ?_
 refine qd (d:=62) (v:=.bool (((x3.2.2:Int) != 0) || (decide ((iconv .u64 (iadd .i64 (x6.length:Int) 1))<x3.1)))) rfl (by rw[h0];simp only[qyg]) ?_
 exact az [67]
 refine qb (os:=_) rfl (qo (k:=55) rfl h0 ?_)
 refine au [1,1,18,16,24,11,80] ?_
 refine qd (d:=62) (v:=.bool (((x3.2.2:Int) != 0) || (decide ((iconv .u64 (iadd .i64 (x6.length:Int) 1))<x3.1)))) rfl (by rw[h0];simp only[qyd]) ?_
 exact az [67]
 refine qb (os:=_) rfl ?_
 refine av [63] ?_ ?_
 intro _
 refine au [94,74,9,25,2] ?_
 exact qj (none,0)
 intro _
 refine au [64,68] ?_
 refine qc (fun (((x7,x8),(a1,c1)):((Int×qAE)×(qAF×Nat)))=>([(0,.slice a2 x1.length c3),(1,qAG x7),(2,qAG x5),(3,.slice a7 x6.length c8),(9,.pointer (some ⟨g12,0,none⟩)),(12,.int .u64 x13.1),(16,.slice a1 x8.length c1)],[⟨g12,26,[qAG x9,qAG x10,qAG x11]⟩],[Ro (eI .i64) 3 1 (.slice a1 x8.length c1) x8],[Sl (eI .i64) 1 (.slice a2 x1.length c3) x1,Sl (eI .i64) 1 (.slice a7 x6.length c8) x6],jw F x1 x5 x6 x10 x11 x13 x7 x8)) ?_ ?_
 refine au [68,108] ?_
 refine qi (fun (((x12,x14,x15),(a3,c2)):((Int×qAE×Int)×(qAF×Nat)))=>([(0,.slice a2 x1.length c3),(1,qAG x12),(2,qAG x5),(3,.slice a7 x6.length c8),(9,.pointer (some ⟨g12,0,none⟩)),(12,.int .u64 x13.1),(15,.int .u64 x3.1),(16,.slice a3 x14.length c2),(17,.int .u64 x15)],[⟨g12,26,[qAG x9,qAG x10,qAG x11]⟩],[Ro (eI .i64) 3 1 (.slice a3 x14.length c2) x14],[Sl (eI .i64) 1 (.slice a2 x1.length c3) x1,Sl (eI .i64) 1 (.slice a7 x6.length c8) x6])) (fun k (s:((Int×qAE×Int)×(qAF×Nat)))=>kB F x1 x5 x6 x10 x11 x13 x3 k s.1) ((x3.2.1,([]:qAE),0),(none,0)) F ?_
 intro k0
 rintro ⟨⟨x12,x14,x15⟩,⟨a3,c2⟩⟩
 try dsimp only
 refine qm (m':=qbt F x1 x5 x6 x10 x11 x13 x3 (kB F x1 x5 x6 x10 x11 x13 x3 k0) x12 x14 x15) rfl ?_
 refine av [3,69,83] ?_ ?_
 intro _
 refine au [91,68,69,28,12] ?_
 intro x16 e1 _
 refine au [148,5,114,25,1,1] ?_
 refine qC 3 ((x16.2.2:Int) != 0) [(0,.slice a2 x1.length c3),(1,qAG x16.2.1),(2,qAG x5),(3,.slice a7 x6.length c8),(9,.pointer (some ⟨g12,0,none⟩)),(12,.int .u64 x13.1),(15,.int .u64 x3.1),(16,.slice a3 x14.length c2),(17,.int .u64 x15),(18,.int .u64 x16.1),(80,.bool (((x16.2.2:Int) != 0) || (decide (1000<x16.1))))] (fun h1=>?_) (fun h1=>?_) ?_
 refine qb (os:=_) rfl (qp (k:=77) rfl h1 ?_)
 refine au [132] ?_
 refine qd (d:=80) (v:=.bool (((x16.2.2:Int) != 0) || (decide (1000<x16.1)))) rfl (by rw[h1];simp only[qyg]) ?_
 exact az [67]
 refine qb (os:=_) rfl (qo (k:=77) rfl h1 ?_)
 refine au [1,80] ?_
 refine qd (d:=80) (v:=.bool (((x16.2.2:Int) != 0) || (decide (1000<x16.1)))) rfl (by rw[h1];simp only[qyd]) ?_
 exact az [67]
 refine qb (os:=_) rfl ?_
 refine av [63] ?_ ?_
 intro _
 refine au [94,158,78,9,25,2] ?_
 exact qj (none,0)
 intro _
 refine au [64] ?_
 refine qc (fun ((x17,_):(Int×Unit))=>([(0,.slice a2 x1.length c3),(1,qAG x16.2.1),(2,qAG x5),(3,.slice a7 x6.length c8),(9,.pointer (some ⟨g12,0,none⟩)),(12,.int .u64 x13.1),(15,.int .u64 x3.1),(16,.slice a3 x14.length c2),(17,.int .u64 x15),(18,.int .u64 x17)],[⟨g12,26,[qAG x9,qAG x10,qAG x11]⟩],[Ro (eI .i64) 3 1 (.slice a3 x14.length c2) x14],[Sl (eI .i64) 1 (.slice a2 x1.length c3) x1,Sl (eI .i64) 1 (.slice a7 x6.length c8) x6],jx F (kB F x1 x5 x6 x10 x11 x13 x3 k0) x14 x15 x16 x17)) ?_ ?_
 refine av [60,77] ?_ ?_
 intro _
 refine au [89,0] ?_
 exact qa (iadd .u64 x16.1 1,())
 intro _
 refine au [10] ?_
 exact qa (x16.1,())
 rintro ⟨x17,_⟩
 try dsimp only
 refine au [99,24,11] ?_
 refine qt (vs:=[qAG (iconv .i64 x17)]) (ys:=([iconv .i64 x17]:qAE)) (ql .i64) (by decide) rfl Tryz.underlying59 tf3 rfl rfl rfl rfl rfl (by decide) (fun a4 c4=>qB 1 (ql .i64) rfl Tryz.underlying59 tf3 rfl rfl rfl rfl rfl (.inl ⟨0,_,rfl⟩) rfl rfl (fun x18 e2 a5 c5=>?_))
 refine au [173,89,0] ?_
 exact qh ((x16.2.1,x18,iadd .u64 x15 1),(a5,c5))
 intro _
 refine au [73] ?_
 exact qa ((x12,x14),(a3,c2))
 rintro ⟨⟨x7,x8⟩,⟨a1,c1⟩⟩
 try dsimp only
 refine au [69] ?_
 refine qg qln ?_
 rintro x19 e3 ⟨a6,c6⟩
 refine au [92,79,60,25,1,1] ?_
 refine qC 6 ((x19.2:Int) != 0) [(0,.slice a2 x1.length c3),(1,qAG x7),(2,qAG x5),(9,.pointer (some ⟨g12,0,none⟩)),(12,.int .u64 x13.1),(14,.slice a6 x19.1.length c6),(104,.bool (((x19.2:Int) != 0) || (decide ((iconv .i64 x13.1)<(x19.1.length:Int)))))] (fun h2=>?_) (fun h2=>?_) ?_
 refine qb (os:=_) rfl (qp (k:=98) rfl h2 ?_)
 refine au [76,174] ?_
 refine qd (d:=104) (v:=.bool (((x19.2:Int) != 0) || (decide ((iconv .i64 x13.1)<(x19.1.length:Int))))) rfl (by rw[h2];simp only[qyg]) ?_
 exact az [67]
 refine qb (os:=_) rfl (qo (k:=98) rfl h2 ?_)
 refine au [1,18,135,80] ?_
 refine qd (d:=104) (v:=.bool (((x19.2:Int) != 0) || (decide ((iconv .i64 x13.1)<(x19.1.length:Int))))) rfl (by rw[h2];simp only[qyd]) ?_
 exact az [67]
 refine qb (os:=_) rfl ?_
 refine av [63] ?_ ?_
 intro _
 refine au [94,109] ?_
 exact qj (none,0)
 intro _
 refine au [10] ?_
 exact qa ((x7,x19.1),(a6,c6))
 intro _
 refine au [10,25,2] ?_
 exact qa ((x13.2.1,([]:qAE)),(none,0))
 rintro ⟨⟨x0,x2⟩,⟨a0,c0⟩⟩
 try dsimp only
 refine av [75,18,135,82] ?_ ?_
 intro _
 refine au [60,5,74] ?_
 exact qj (a0,c0)
 intro _
 refine au [64] ?_
 refine qc (fun (((x20,x21),(a8,c7)):((Int×qAE)×(qAF×Nat)))=>([(0,.slice a2 x1.length c3),(1,qAG x20),(2,qAG x5),(9,.pointer (some ⟨g12,0,none⟩)),(12,.int .u64 x13.1),(14,.slice a8 x21.length c7)],[⟨g12,26,[qAG x9,qAG x10,qAG x11]⟩],[Ro (eI .i64) 3 1 (.slice a8 x21.length c7) x21],[Sl (eI .i64) 1 (.slice a2 x1.length c3) x1],jt F x1 x5 x11 x13 x20 x21)) ?_ ?_
 refine av [116,77] ?_ ?_
 intro _
 refine au [68,69,28,12] ?_
 intro x22 e4 _
 refine au [148,5,114,25,1,1] ?_
 refine qC 3 ((x22.2.2:Int) != 0) [(0,.slice a2 x1.length c3),(1,qAG x22.2.1),(2,qAG x5),(9,.pointer (some ⟨g12,0,none⟩)),(12,.int .u64 x13.1),(14,.slice a0 x2.length c0),(19,.int .u64 x22.1),(126,.bool (((x22.2.2:Int) != 0) || (decide (300<x22.1))))] (fun h3=>?_) (fun h3=>?_) ?_
 refine qb (os:=_) rfl (qp (k:=123) rfl h3 ?_)
 refine au [132] ?_
 refine qd (d:=126) (v:=.bool (((x22.2.2:Int) != 0) || (decide (300<x22.1)))) rfl (by rw[h3];simp only[qyg]) ?_
 exact az [67]
 refine qb (os:=_) rfl (qo (k:=123) rfl h3 ?_)
 refine au [1,80] ?_
 refine qd (d:=126) (v:=.bool (((x22.2.2:Int) != 0) || (decide (300<x22.1)))) rfl (by rw[h3];simp only[qyd]) ?_
 exact az [67]
 refine qb (os:=_) rfl ?_
 refine av [63] ?_ ?_
 intro _
 refine au [94,74,9,25,2] ?_
 exact qj (none,0)
 intro _
 refine au [64,60,58,168] ?_
 refine qi (fun (((x23,x24,x25,x26),(a9,c9)):((Int×qAE×Int×Int)×(qAF×Nat)))=>([(0,.slice a2 x1.length c3),(1,qAG x23),(2,qAG x5),(9,.pointer (some ⟨g12,0,none⟩)),(12,.int .u64 x13.1),(14,.slice a9 x24.length c9),(19,.int .u64 x22.1),(20,qAG x25),(21,.int .u64 x26)],[⟨g12,26,[qAG x9,qAG x10,qAG x11]⟩],[Ro (eI .i64) 3 1 (.slice a9 x24.length c9) x24],[Sl (eI .i64) 1 (.slice a2 x1.length c3) x1])) (fun k (s:((Int×qAE×Int×Int)×(qAF×Nat)))=>qQ F x1 x5 x10 x11 x13 x22 k s.1) ((x22.2.1,x2,x5,0),(a0,c0)) F ?_
 intro k1
 rintro ⟨⟨x23,x24,x25,x26⟩,⟨a9,c9⟩⟩
 try dsimp only
 refine qm (m':=qbr F x1 x5 x10 x11 x13 x22 (qQ F x1 x5 x10 x11 x13 x22 k1) x23 x24 x25 x26) rfl ?_
 refine av [3,69,83] ?_ ?_
 intro _
 refine au [64] ?_
 refine qc (fun (((x27,x28,x29),(a10,c10)):((Int×qAE×Int)×(qAF×Nat)))=>([(0,.slice a2 x1.length c3),(1,qAG x27),(2,qAG x5),(9,.pointer (some ⟨g12,0,none⟩)),(12,.int .u64 x13.1),(14,.slice a10 x28.length c10),(19,.int .u64 x22.1),(20,qAG x29),(21,.int .u64 x26)],[⟨g12,26,[qAG x9,qAG x10,qAG x11]⟩],[Ro (eI .i64) 3 1 (.slice a10 x28.length c10) x28],[Sl (eI .i64) 1 (.slice a2 x1.length c3) x1],qdH F (qQ F x1 x5 x10 x11 x13 x22 k1) x26 x27 x28 x29)) ?_ ?_
 refine au [14,59,79,69,28,12] ?_
 intro x30 e5 _
 refine au [148,5,114,25,1,1] ?_
 refine qC 3 ((x30.2.2:Int) != 0) [(0,.slice a2 x1.length c3),(1,qAG x30.2.1),(2,qAG x5),(9,.pointer (some ⟨g12,0,none⟩)),(12,.int .u64 x13.1),(14,.slice a9 x24.length c9),(19,.int .u64 x22.1),(20,qAG x25),(21,.int .u64 x26),(22,.int .u64 x30.1),(145,.bool (((x30.2.2:Int) != 0) || (decide (4194304<x30.1))))] (fun h4=>?_) (fun h4=>?_) ?_
 refine qb (os:=_) rfl (qp (k:=142) rfl h4 ?_)
 refine au [132] ?_
 refine qd (d:=145) (v:=.bool (((x30.2.2:Int) != 0) || (decide (4194304<x30.1)))) rfl (by rw[h4];simp only[qyg]) ?_
 exact az [67]
 refine qb (os:=_) rfl (qo (k:=142) rfl h4 ?_)
 refine au [1,80] ?_
 refine qd (d:=145) (v:=.bool (((x30.2.2:Int) != 0) || (decide (4194304<x30.1)))) rfl (by rw[h4];simp only[qyd]) ?_
 exact az [67]
 refine qb (os:=_) rfl ?_
 refine av [63] ?_ ?_
 intro _
 refine au [94,158,131] ?_
 exact qj (none,0)
 intro _
 refine au [64,69,28,12] ?_
 intro x31 e6 _
 refine au [148,5,114,25,1,1] ?_
 refine qC 3 ((x31.2.2:Int) != 0) [(0,.slice a2 x1.length c3),(1,qAG x31.2.1),(2,qAG x5),(9,.pointer (some ⟨g12,0,none⟩)),(12,.int .u64 x13.1),(14,.slice a9 x24.length c9),(19,.int .u64 x22.1),(20,qAG x25),(21,.int .u64 x26),(22,.int .u64 x30.1),(23,.int .u64 x31.1),(158,.bool (((x31.2.2:Int) != 0) || (decide (1000<x31.1))))] (fun h5=>?_) (fun h5=>?_) ?_
 refine qb (os:=_) rfl (qp (k:=155) rfl h5 ?_)
 refine au [132] ?_
 refine qd (d:=158) (v:=.bool (((x31.2.2:Int) != 0) || (decide (1000<x31.1)))) rfl (by rw[h5];simp only[qyg]) ?_
 exact az [67]
 refine qb (os:=_) rfl (qo (k:=155) rfl h5 ?_)
 refine au [1,80] ?_
 refine qd (d:=158) (v:=.bool (((x31.2.2:Int) != 0) || (decide (1000<x31.1)))) rfl (by rw[h5];simp only[qyd]) ?_
 exact az [67]
 refine qb (os:=_) rfl ?_
 refine av [63] ?_ ?_
 intro _
 refine au [94,158,131] ?_
 exact qj (none,0)
 intro _
 refine au [64,69,24,11,16,86,26,1] ?_
 intro x32 e7
 refine qd (d:=24) (v:=qAG x32) rfl (by rw[e7] <;> rfl) ?_
 refine au [57] ?_
 refine qc (fun ((x33,_):(Int×Unit))=>([(0,.slice a2 x1.length c3),(1,qAG x31.2.1),(2,qAG x5),(9,.pointer (some ⟨g12,0,none⟩)),(12,.int .u64 x13.1),(14,.slice a9 x24.length c9),(19,.int .u64 x22.1),(21,.int .u64 x26),(23,.int .u64 x31.1),(24,qAG x33)],[⟨g12,26,[qAG x9,qAG x10,qAG x11]⟩],[Ro (eI .i64) 3 1 (.slice a9 x24.length c9) x24],[Sl (eI .i64) 1 (.slice a2 x1.length c3) x1],ju F (qQ F x1 x5 x10 x11 x13 x22 k1) x10 x13 x24 x26 x31 x33)) ?_ ?_
 refine av [60,82] ?_ ?_
 intro _
 refine au [99,32,4] ?_
 intro x34 e8 _
 refine au [5,0] ?_
 exact qa (x34,())
 intro _
 refine au [10] ?_
 exact qa (x32,())
 rintro ⟨x33,_⟩
 try dsimp only
 refine au [75,23,1] ?_
 refine qC 3 (decide (x33<0)) [(0,.slice a2 x1.length c3),(1,qAG x31.2.1),(2,qAG x5),(9,.pointer (some ⟨g12,0,none⟩)),(12,.int .u64 x13.1),(14,.slice a9 x24.length c9),(19,.int .u64 x22.1),(21,.int .u64 x26),(23,.int .u64 x31.1),(24,qAG x33),(174,.bool ((decide (x33<0)) || (decide (1048576<x33))))] (fun h6=>?_) (fun h6=>?_) ?_
 refine qb (os:=_) rfl (qp (k:=171) rfl h6 ?_)
 refine au [132] ?_
 refine qd (d:=174) (v:=.bool ((decide (x33<0)) || (decide (1048576<x33)))) rfl (by rw[h6];simp only[qyg]) ?_
 exact az [67]
 refine qb (os:=_) rfl (qo (k:=171) rfl h6 ?_)
 refine au [1,80] ?_
 refine qd (d:=174) (v:=.bool ((decide (x33<0)) || (decide (1048576<x33)))) rfl (by rw[h6];simp only[qyd]) ?_
 exact az [67]
 refine qb (os:=_) rfl ?_
 refine av [63] ?_ ?_
 intro _
 refine au [94,158,131] ?_
 exact qj (none,0)
 intro _
 refine au [64] ?_
 refine qc (fun ((x35,(a11,c11)):(qAE×(qAF×Nat)))=>([(0,.slice a2 x1.length c3),(1,qAG x31.2.1),(2,qAG x5),(9,.pointer (some ⟨g12,0,none⟩)),(12,.int .u64 x13.1),(14,.slice a11 x35.length c11),(19,.int .u64 x22.1),(21,.int .u64 x26),(23,.int .u64 x31.1),(24,qAG x33)],[⟨g12,26,[qAG x9,qAG x10,qAG x11]⟩],[Ro (eI .i64) 3 1 (.slice a11 x35.length c11) x35],[Sl (eI .i64) 1 (.slice a2 x1.length c3) x1],jv F (qQ F x1 x5 x10 x11 x13 x22 k1) x10 x13 x26 x31 x33 x35)) ?_ ?_
 refine au [168] ?_
 refine qi (fun (((x36,x37),(a12,c12)):((qAE×Int)×(qAF×Nat)))=>([(0,.slice a2 x1.length c3),(1,qAG x31.2.1),(2,qAG x5),(9,.pointer (some ⟨g12,0,none⟩)),(12,.int .u64 x13.1),(14,.slice a12 x36.length c12),(19,.int .u64 x22.1),(21,.int .u64 x26),(23,.int .u64 x31.1),(24,qAG x33),(25,qAG x37)],[⟨g12,26,[qAG x9,qAG x10,qAG x11]⟩],[Ro (eI .i64) 3 1 (.slice a12 x36.length c12) x36],[Sl (eI .i64) 1 (.slice a2 x1.length c3) x1])) (fun k (s:((qAE×Int)×(qAF×Nat)))=>kZ F (qQ F x1 x5 x10 x11 x13 x22 k1) x10 x13 x26 x31 x33 k s.1) ((x24,0),(a9,c9)) F ?_
 intro k2
 rintro ⟨⟨x36,x37⟩,⟨a12,c12⟩⟩
 try dsimp only
 refine qm (m':=qbs F (qQ F x1 x5 x10 x11 x13 x22 k1) x10 x13 x26 x31 x33 (kZ F (qQ F x1 x5 x10 x11 x13 x22 k1) x10 x13 x26 x31 x33 k2) x36 x37) rfl ?_
 refine av [3,69,24,11,62,16,83] ?_ ?_
 intro _
 refine au [91,99,1,16] ?_
 refine qt (vs:=[qAG (iadd .i64 x33 x37)]) (ys:=([iadd .i64 x33 x37]:qAE)) (ql .i64) (by decide) rfl Tryz.underlying59 tf3 rfl rfl rfl rfl rfl (by decide) (fun a13 c13=>qB 1 (ql .i64) rfl Tryz.underlying59 tf3 rfl rfl rfl rfl rfl (.inl ⟨0,_,rfl⟩) rfl rfl (fun x38 e9 a14 c14=>?_))
 refine au [173,89,0] ?_
 exact qh ((x38,iadd .i64 x37 1),(a14,c14))
 intro _
 refine au [73] ?_
 exact qa (x36,(a12,c12))
 rintro ⟨x35,⟨a11,c11⟩⟩
 try dsimp only
 refine au [69,24,11,16,62,16,24,13,5,26,1] ?_
 intro x39 e10
 refine qd (d:=20) (v:=qAG x39) rfl (by rw[e10] <;> rfl) ?_
 refine av [57,169,135,77] ?_ ?_
 intro _
 refine au [94,61,78,9,131] ?_
 exact qj (none,0)
 intro _
 refine au [157] ?_
 exact qa ((x31.2.1,x35,x39),(a11,c11))
 rintro ⟨⟨x27,x28,x29⟩,⟨a10,c10⟩⟩
 try dsimp only
 refine au [89,0] ?_
 exact qh ((x27,x28,x29,iadd .u64 x26 1),(a10,c10))
 intro _
 refine au [73] ?_
 exact qa ((x23,x24),(a9,c9))
 intro _
 refine au [10] ?_
 exact qa ((x0,x2),(a0,c0))
 rintro ⟨⟨x20,x21⟩,⟨a8,c7⟩⟩
 try dsimp only
 refine au [69,1,62,135,1,18,24,13] ?_
 refine qg qmU ?_
 rintro x40 e11 ⟨a15,c15⟩
 refine av [148,5,114,85] ?_ ?_
 intro _
 refine au [94,109] ?_
 exact qj (none,0)
 intro _
 refine au [64,69] ?_
 refine qB 1 (ql .i64) rfl Tryz.underlying59 tf3 rfl rfl rfl rfl rfl (.inl ⟨0,_,rfl⟩) rfl rfl (fun x41 e12 a16 c16=>qg qpZ ?_)
 rintro x42 e14 ⟨a17,c17⟩
 refine au [5,61] ?_
 exact qj (a17,c17)
set_option maxHeartbeats 4000000 in
theorem qm3 {F:Nat}{x1:Int}{x2:qAE}{a3:qAF}{c4:Nat}{x5:Int}{x6:Int}{x7:qAE}{a8:qAF}{c9:Nat}{x10:Int}{x11:Int}{x12:Int}{r:(qAE×Int×Int)}(hm:qct F x1 x2 x5 x6 x7 x10 x11 x12=some r) :
    Pure Tryz.prog 57 [.agg #[qAG x1,.slice a3 x2.length c4],qAG x5,qAG x6,.slice a8 x7.length c9,.agg #[qAG x10,qAG x11,qAG x12]] [Sl (eI .u8) 1 (.slice a3 x2.length c4) x2,Sl (eI .i64) 1 (.slice a8 x7.length c9) x7] (qAF×Nat) (fun g=>.tuple #[.slice g.1 r.1.length g.2,qAG r.2.1,qAG r.2.2]) (fun g=>[Ro (eI .i64) 3 1 (.slice g.1 r.1.length g.2) r.1]) (fun _=>[]):=by
 refine qk Tryz.func57 rfl Tryz.ntmps57 rfl hm (fun w=>?_)
 refine au [28,9,72] ?_
 intro g13
 refine au [24,9] ?_
 intro g14
 refine au [5,79,124,32,0] ?_
 intro x15 e15 _
 refine au [58] ?_
 refine qc (fun ((x18,_):(Int×Unit))=>([(1,qAG x5),(2,qAG x6),(3,.slice a8 x7.length c9),(5,.pointer (some ⟨g13,0,none⟩)),(9,.pointer (some ⟨g14,0,none⟩)),(13,qAG x18)],[⟨g14,26,[qAG x10,qAG x11,qAG x12]⟩,⟨g13,65,[qAG x1,.slice a3 x2.length c4]⟩],[],[Sl (eI .i64) 1 (.slice a8 x7.length c9) x7,Sl (eI .u8) 1 (.slice a3 x2.length c4) x2],qaW F x1 x2 x5 x6 x7 x10 x11 x12 x18)) ?_ ?_
 refine av [60,82] ?_ ?_
 intro _
 refine au [4,25,9,1] ?_
 refine qg qon ?_
 intro x67 e67 _
 refine au [5,0] ?_
 exact qa (x67,())
 intro _
 refine au [10] ?_
 exact qa (x15,())
 rintro ⟨x18,_⟩
 try dsimp only
 refine qc (fun ((x21,_):(Int×Unit))=>([(1,qAG x5),(2,qAG x6),(3,.slice a8 x7.length c9),(5,.pointer (some ⟨g13,0,none⟩)),(9,.pointer (some ⟨g14,0,none⟩)),(13,qAG x21)],[⟨g14,26,[qAG x10,qAG x11,qAG x12]⟩,⟨g13,65,[qAG x1,.slice a3 x2.length c4]⟩],[],[Sl (eI .i64) 1 (.slice a8 x7.length c9) x7,Sl (eI .u8) 1 (.slice a3 x2.length c4) x2],qaX F x1 x2 x5 x6 x7 x10 x11 x12 x21)) ?_ ?_
 refine av [60,82] ?_ ?_
 intro _
 refine au [99,25,4] ?_
 refine qg qoo ?_
 intro x65 e65 _
 refine au [5,0] ?_
 exact qa (x65,())
 intro _
 refine au [10] ?_
 exact qa (x18,())
 rintro ⟨x21,_⟩
 try dsimp only
 refine av [75,85] ?_ ?_
 intro _
 refine au [60,5,5,109] ?_
 exact qj (none,0)
 intro _
 refine au [64,119,32,2] ?_
 rintro x23 e23 ⟨a24,c25⟩
 refine au [58,69,1,1,25,4] ?_
 refine qg qlw ?_
 rintro x26 e26 ⟨a27,c28⟩
 refine au [92,114,25,3,1] ?_
 refine qU 4 (fun ((x36,_):(Bool×Unit))=>([(1,qAG x5),(2,qAG x6),(3,.slice a8 x7.length c9),(9,.pointer (some ⟨g14,0,none⟩)),(14,.slice a24 x23.length c25),(15,.slice a27 x26.1.length c28),(51,.bool x36)],[⟨g14,26,[qAG x10,qAG x11,qAG x12]⟩],[Ro (eI .i64) 3 1 (.slice a24 x23.length c25) x23,Ro (eI .i64) 3 1 (.slice a27 x26.1.length c28) x26.1],[Sl (eI .i64) 1 (.slice a8 x7.length c9) x7],jc F x5 x6 x7 x10 x11 x12 x23 x26 x36)) ?_ ?_
 refine qb (os:=_) rfl ?_
 refine av [25,10] ?_ ?_
 intro h34
 refine qp (k:=47) rfl h34 ?_
 refine au [71,7,97] ?_
 exact qa (true,())
 intro h34
 refine qo (k:=47) rfl h34 ?_
 refine au [1,32,3] ?_
 intro x63 e63 _
 refine au [25,1,117] ?_
 exact qa (((x63:Int) != 0),())
 rintro ⟨x36,_⟩
 try dsimp only
 refine qb (os:=_) rfl ?_
 refine av [63] ?_ ?_
 intro _
 refine au [94,5,109] ?_
 exact qj (none,0)
 intro _
 refine au [64,69,1,25,4,36,7] ?_
 rintro x37 e37 ⟨a38,c39⟩
 refine au [58,75,18,1,18,103,24,4,1] ?_
 refine qU 11 (fun ((x56,_):(Bool×Unit))=>([(1,qAG x5),(15,.slice a27 x26.1.length c28),(17,.slice a38 x37.length c39),(75,.bool x56)],[],[Ro (eI .i64) 3 1 (.slice a27 x26.1.length c28) x26.1,Ro (eI .i64) 3 1 (.slice a38 x37.length c39) x37],[],qaY F x5 x26 x37 x56)) ?_ ?_
 refine qb (os:=_) rfl ?_
 refine av [25,10] ?_ ?_
 intro h51
 refine qp (k:=64) rfl h51 ?_
 refine au [76,76,71,97] ?_
 exact qa (true,())
 intro h51
 refine qo (k:=64) rfl h51 ?_
 refine au [1,1,1,1,18,16,34,15,31,7] ?_
 intro x58 e58 a59 c60
 refine au [1,32,5] ?_
 intro x61 e61 _
 refine au [25,3,117] ?_
 exact qa ((!x61),())
 rintro ⟨x56,_⟩
 try dsimp only
 refine qb (os:=_) rfl ?_
 refine av [63] ?_ ?_
 intro _
 refine au [94,5,109] ?_
 exact qj (none,0)
 intro _
 refine au [64,69,1,18,86,5,61] ?_
 exact qj (a27,c28)
set_option maxHeartbeats 4000000 in
theorem qm0 {F:Nat}{x1:Int}{x2:Int}{x3:Int}{x4:Int}{x5:Int}{x6:qAE}{a7:qAF}{c8:Nat}{r:(List (qAE)×Int)}(hm:qdA F x1 x2 x3 x4 x5 x6=some r) :
    Pure Tryz.prog 42 [.agg #[qAG x1,qAG x2,qAG x3,qAG x4,qAG x5,.slice a7 x6.length c8]] [Sl (eI .u8) 1 (.slice a7 x6.length c8) x6] (qAF×(Nat×List (qAF×Nat))) (fun g=>.tuple #[.agg #[.slice g.1 r.1.length g.2.1],qAG r.2]) (fun g=>[RoN eN59 rN59 59 1 (.slice g.1 r.1.length g.2.1) r.1 g.2.2 []]) (fun _=>[]):=by
 refine qk Tryz.func42 rfl Tryz.ntmps42 rfl hm (fun w=>?_)
 refine au [133] ?_
 intro g9
 refine au [24,12] ?_
 intro g10
 refine au [58,119] ?_
 refine qg qlm ?_
 intro x11 e11 _
 refine av [58,75,85] ?_ ?_
 intro _
 refine au [59] ?_
 refine qq (cells:=[.slice none 0 0]) rfl st24 rfl (by kernel_rfl) rfl ?_
 refine au [1,24,10,106] ?_
 exact qv (none,(0,([]:List (qAF×Nat)))) (resL (rs:=[.cell 2 24,.tmp 3]) rfl (.cell (i:=0) rfl tf24 rfl rfl (by simp) rfl (.tmp rfl ResOk.nil)) rfl) (fun h=>by subst h;exact (.cons 0 rfl .nil))
 intro _
 refine au [64,59,13,25,9,32,2] ?_
 rintro x13 e13 ⟨a14,c15⟩
 refine au [58,68,128] ?_
 intro g16
 refine au [57] ?_
 refine qc (fun ((x0,(a0,c0)):(List (qAE)×(qAF×(Nat×List (qAF×Nat)))))=>([(1,.pointer (some ⟨g9,0,none⟩)),(2,.pointer (some ⟨g10,0,none⟩)),(5,.slice a14 x13.length c15),(7,.pointer (some ⟨g16,0,none⟩))],[⟨g16,24,[.slice a0 x0.length c0.1]⟩,⟨g10,24,[.slice none 0 0]⟩,⟨g9,75,[qAG x1,qAG x2,qAG x3,qAG x4,qAG x5,.slice a7 x6.length c8]⟩],[Ro (eI .i64) 3 1 (.slice a14 x13.length c15) x13,RoN eN59 rN59 59 1 (.slice a0 x0.length c0.1) x0 c0.2 []],[Sl (eI .u8) 1 (.slice a7 x6.length c8) x6],vz F x2 x3 x4 x13 x0)) ?_ ?_
 refine au [168,30,1] ?_
 refine qi (fun (((x7,x8,x9),(a1,c1)):((Int×Int×List (qAE))×(qAF×(Nat×List (qAF×Nat)))))=>([(1,.pointer (some ⟨g9,0,none⟩)),(2,.pointer (some ⟨g10,0,none⟩)),(5,.slice a14 x13.length c15),(6,qAG x7),(7,.pointer (some ⟨g16,0,none⟩)),(8,qAG x8)],[⟨g16,24,[.slice a1 x9.length c1.1]⟩,⟨g10,24,[.slice none 0 0]⟩,⟨g9,75,[qAG x1,qAG x2,qAG x3,qAG x4,qAG x5,.slice a7 x6.length c8]⟩],[Ro (eI .i64) 3 1 (.slice a14 x13.length c15) x13,RoN eN59 rN59 59 1 (.slice a1 x9.length c1.1) x9 c1.2 []],[Sl (eI .u8) 1 (.slice a7 x6.length c8) x6])) (fun k (s:((Int×Int×List (qAE))×(qAF×(Nat×List (qAF×Nat)))))=>zM F x1 x2 x3 x4 x5 x6 x13 k s.1) ((0,0,([]:List (qAE))),(none,(0,([]:List (qAF×Nat))))) F ?_
 intro k0
 rintro ⟨⟨x7,x8,x9⟩,⟨a1,c1⟩⟩
 try dsimp only
 refine qm (m':=qck F x1 x2 x3 x4 x5 x6 x13 (zM F x1 x2 x3 x4 x5 x6 x13 k0) x7 x8 x9) rfl ?_
 refine av [75,13,27,0,83] ?_ ?_
 intro _
 refine au [64] ?_
 refine qc (fun (((x10,x12),(a2,c2)):((Int×List (qAE))×(qAF×(Nat×List (qAF×Nat)))))=>([(1,.pointer (some ⟨g9,0,none⟩)),(2,.pointer (some ⟨g10,0,none⟩)),(5,.slice a14 x13.length c15),(6,qAG x10),(7,.pointer (some ⟨g16,0,none⟩)),(8,qAG x8)],[⟨g16,24,[.slice a2 x12.length c2.1]⟩,⟨g10,24,[.slice none 0 0]⟩,⟨g9,75,[qAG x1,qAG x2,qAG x3,qAG x4,qAG x5,.slice a7 x6.length c8]⟩],[Ro (eI .i64) 3 1 (.slice a14 x13.length c15) x13,RoN eN59 rN59 59 1 (.slice a2 x12.length c2.1) x12 c2.2 []],[Sl (eI .u8) 1 (.slice a7 x6.length c8) x6],j9 F (zM F x1 x2 x3 x4 x5 x6 x13 k0) x8 x10 x12)) ?_ ?_
 refine au [14,68] ?_
 refine qc (fun (((x14,x15),_):((Int×Int)×Unit))=>([(1,.pointer (some ⟨g9,0,none⟩)),(2,.pointer (some ⟨g10,0,none⟩)),(5,.slice a14 x13.length c15),(6,qAG x14),(7,.pointer (some ⟨g16,0,none⟩)),(8,qAG x8),(9,.int .u64 x15)],[⟨g16,24,[.slice a1 x9.length c1.1]⟩,⟨g10,24,[.slice none 0 0]⟩,⟨g9,75,[qAG x1,qAG x2,qAG x3,qAG x4,qAG x5,.slice a7 x6.length c8]⟩],[Ro (eI .i64) 3 1 (.slice a14 x13.length c15) x13,RoN eN59 rN59 59 1 (.slice a1 x9.length c1.1) x9 c1.2 []],[Sl (eI .u8) 1 (.slice a7 x6.length c8) x6],qaa F (zM F x1 x2 x3 x4 x5 x6 x13 k0) x3 x4 x5 x6 x8 x9 x14 x15)) ?_ ?_
 refine av [59,13,13,27,0,77] ?_ ?_
 intro _
 refine au [69,28,12] ?_
 intro x16 e0 _
 refine au [148,5,79,60,25,1,1] ?_
 refine qC 7 ((x16.2.2:Int) != 0) [(1,.pointer (some ⟨g9,0,none⟩)),(2,.pointer (some ⟨g10,0,none⟩)),(5,.slice a14 x13.length c15),(6,qAG x16.2.1),(7,.pointer (some ⟨g16,0,none⟩)),(8,qAG x8),(9,.int .u64 x16.1),(52,.bool (((x16.2.2:Int) != 0) || (decide ((iconv .u64 x2)<x16.1))))] (fun h0=>?_) (fun h0=>?_) ?_
 refine qb (os:=_) rfl (qp (k:=45) rfl h0 ?_)
 refine au [76,132] ?_
 refine qd (d:=52) (v:=.bool (((x16.2.2:Int) != 0) || (decide ((iconv .u64 x2)<x16.1)))) rfl (by rw[h0];simp only[qyg]) ?_
 exact az [67]
 refine qb (os:=_) rfl (qo (k:=45) rfl h0 ?_)
 refine au [1,13,13,27,0,24,11,80] ?_
 refine qd (d:=52) (v:=.bool (((x16.2.2:Int) != 0) || (decide ((iconv .u64 x2)<x16.1)))) rfl (by rw[h0];simp only[qyd]) ?_
 exact az [67]
 refine qb (os:=_) rfl ?_
 refine au [1] ?_
 refine qC 5 (((x16.2.2:Int) != 0) || (decide ((iconv .u64 x2)<x16.1))) [(1,.pointer (some ⟨g9,0,none⟩)),(2,.pointer (some ⟨g10,0,none⟩)),(5,.slice a14 x13.length c15),(6,qAG x16.2.1),(7,.pointer (some ⟨g16,0,none⟩)),(8,qAG x8),(9,.int .u64 x16.1),(58,.bool ((((x16.2.2:Int) != 0) || (decide ((iconv .u64 x2)<x16.1))) || (decide (x8<(iconv .i64 x16.1)))))] (fun h1=>?_) (fun h1=>?_) ?_
 refine qb (os:=_) rfl (qp (k:=53) rfl h1 ?_)
 refine au [76,24,7] ?_
 refine qd (d:=58) (v:=.bool ((((x16.2.2:Int) != 0) || (decide ((iconv .u64 x2)<x16.1))) || (decide (x8<(iconv .i64 x16.1))))) rfl (by rw[h1];simp only[qyg]) ?_
 exact az [67]
 refine qb (os:=_) rfl (qo (k:=53) rfl h1 ?_)
 refine au [135,1,80] ?_
 refine qd (d:=58) (v:=.bool ((((x16.2.2:Int) != 0) || (decide ((iconv .u64 x2)<x16.1))) || (decide (x8<(iconv .i64 x16.1))))) rfl (by rw[h1];simp only[qyd]) ?_
 exact az [67]
 refine qb (os:=_) rfl ?_
 refine av [63] ?_ ?_
 intro _
 refine au [59] ?_
 refine qq (cells:=[.slice none 0 0]) rfl st24 rfl (by kernel_rfl) rfl ?_
 refine au [25,7,158,78,25,12] ?_
 exact qv (none,(0,([]:List (qAF×Nat)))) (resL (rs:=[.cell 2 24,.tmp 3]) rfl (.cell (i:=1) rfl tf24 rfl rfl (by simp) rfl (.tmp rfl ResOk.nil)) rfl) (fun h=>by subst h;exact (.cons 0 rfl .nil))
 intro _
 refine au [10] ?_
 exact qa ((x16.2.1,x16.1),())
 intro _
 refine au [10] ?_
 exact qa ((x7,(0:Int)),())
 rintro ⟨⟨x14,x15⟩,_⟩
 try dsimp only
 refine av [68,75,77] ?_ ?_
 intro _
 refine au [4,62,1,135,24,13] ?_
 refine qpJ (j:=1) rfl UnF.u inferInstance rfl rfl rfl rfl ?_
 intro x17 e1 g0 h2 g1 h3
 refine qmH (i:=1) rfl h2 (List.not_mem_nil) (qk5 (j:=1) (p:=(x17,g0)) kL rfl rfl tf59 rfl h3 h2 rfl (fun _=>rfl) rfl rfl ?_)
 refine au [58,59,13,26,13,1,1,1,135,13,13,27,0,13,13,27,0] ?_
 refine qq (cells:=[qAG (iconv .i64 x15),qAG x3,qAG x4]) rfl st26 rfl (by kernel_rfl) rfl ?_
 refine au [36,13] ?_
 rintro x18 e2 ⟨a3,c3⟩
 refine au [148,5,79,3,3] ?_
 refine qkW (rin:=rN59) (p:=(x17,g0)) (i:=1) (k:=0) (.cons 1 rfl .nil) rfl rfl h2 ?_
 refine av [88,85] ?_ ?_
 intro _
 refine au [59] ?_
 refine qq (cells:=[.slice none 0 0]) rfl st24 rfl (by kernel_rfl) rfl ?_
 refine au [25,7,158,78,25,12] ?_
 exact qv (none,(0,([]:List (qAF×Nat)))) (resL (rs:=[.cell 2 24,.tmp 3]) rfl (.cell (i:=1) rfl tf24 rfl rfl (by simp) rfl (.tmp rfl ResOk.nil)) rfl) (fun h=>by subst h;exact (.cons 0 rfl .nil))
 intro _
 refine au [64,116,1] ?_
 refine qt (vs:=[.slice a3 x18.1.length c3]) (ys:=([(x18.1,(a3,c3))]:List (qAE×(qAF×Nat)))) kL (by decide) rfl Tryz.underlying22 tf59 rfl rfl rfl rfl rfl (by decide) (fun a4 c4=>qdt (rin:=rN59) (i:=0) ([x18.1]:List (qAE)) ([(a3,c3)]:List (qAF×Nat)) rfl rfl (.cons 1 rfl .nil) ?_)
 refine au [30,2] ?_
 intro x19 e3 a5 c5
 refine au [13,84,88,172] ?_
 exact qa ((x18.2.1,x19),(a5,(c5,(c1.2++([(a3,c3)]:List (qAF×Nat))))))
 intro _
 refine au [64,59,13,26,13,1,1,1,135,13,13,27,0,13,13,27,0] ?_
 refine qq (cells:=[qAG (iconv .i64 x15),qAG x3,qAG x4]) rfl st26 rfl (by kernel_rfl) rfl ?_
 refine au [27,14,36,13] ?_
 rintro x20 e4 ⟨a6,c6⟩
 refine av [148,5,114,85] ?_ ?_
 intro _
 refine au [59] ?_
 refine qq (cells:=[.slice none 0 0]) rfl st24 rfl (by kernel_rfl) rfl ?_
 refine au [25,7,158,78,25,12] ?_
 exact qv (none,(0,([]:List (qAF×Nat)))) (resL (rs:=[.cell 2 24,.tmp 3]) rfl (.cell (i:=1) rfl tf24 rfl rfl (by simp) rfl (.tmp rfl ResOk.nil)) rfl) (fun h=>by subst h;exact (.cons 0 rfl .nil))
 intro _
 refine au [64,116,1] ?_
 refine qt (vs:=[.slice a6 x20.1.length c6]) (ys:=([(x20.1,(a6,c6))]:List (qAE×(qAF×Nat)))) kL (by decide) rfl Tryz.underlying22 tf59 rfl rfl rfl rfl rfl (by decide) (fun a8 c7=>qdt (rin:=rN59) (i:=0) ([x20.1]:List (qAE)) ([(a6,c6)]:List (qAF×Nat)) rfl rfl (.cons 0 rfl .nil) (qkZ kL rfl UnF.u inferInstance rfl rfl rfl rfl (.cons 3 rfl (.cons 0 rfl .nil)) rfl rfl ?_))
 intro x21 e5 a9 c9
 refine au [13,84,88,172] ?_
 exact qa ((x20.2.1,x21),(a9,(c9,(c1.2++([(a6,c6)]:List (qAF×Nat))))))
 rintro ⟨⟨x10,x12⟩,⟨a2,c2⟩⟩
 try dsimp only
 refine au [89,0] ?_
 exact qh ((x10,iadd .i64 x8 1,x12),(a2,c2))
 intro _
 refine au [73] ?_
 exact qa (x9,(a1,c1))
 rintro ⟨x0,⟨a0,c0⟩⟩
 try dsimp only
 refine au [124,13,26,13,36,9] ?_
 rintro x22 e6 ⟨⟨a10,c10⟩,⟨a11,c11⟩,⟨a12,c12⟩⟩
 refine au [92,70,5,5,114,25,1,1] ?_
 refine qU 5 (fun ((x23,_):(Bool×Unit))=>([(2,.pointer (some ⟨g10,0,none⟩)),(7,.pointer (some ⟨g16,0,none⟩)),(115,.bool x23)],[⟨g16,24,[.slice a0 x0.length c0.1]⟩,⟨g10,24,[.slice none 0 0]⟩],[RoN eN59 rN59 59 1 (.slice a0 x0.length c0.1) x0 c0.2 []],[],qcl F x0 x23)) ?_ ?_
 refine qb (os:=_) rfl ?_
 refine av [25,10] ?_ ?_
 intro h4
 refine qp (k:=110) rfl h4 ?_
 refine au [76,97] ?_
 exact qa (true,())
 intro h4
 refine qo (k:=110) rfl h4 ?_
 refine au [1,1,32,5] ?_
 intro x24 e7 _
 refine au [25,3,117] ?_
 exact qa ((!x24),())
 rintro ⟨x23,_⟩
 try dsimp only
 refine qb (os:=_) rfl ?_
 refine av [63] ?_ ?_
 intro _
 refine au [59] ?_
 refine qq (cells:=[.slice none 0 0]) rfl st24 rfl (by kernel_rfl) rfl ?_
 refine au [25,7,106] ?_
 exact qv (none,(0,([]:List (qAF×Nat)))) (resL (rs:=[.cell 2 24,.tmp 3]) rfl (.cell (i:=1) rfl tf24 rfl rfl (by simp) rfl (.tmp rfl ResOk.nil)) rfl) (fun h=>by subst h;exact (.cons 0 rfl .nil))
 intro _
 refine au [64,124,25,7,61] ?_
 exact qv (a0,c0) (resL (rs:=[.cell 2 24,.tmp 3]) rfl (.cell (i:=1) rfl tf24 rfl rfl (by simp) rfl (.tmp rfl ResOk.nil)) rfl) (fun h=>by subst h;exact (.cons 0 rfl .nil))
end Go.Proofs.YtlioijpkhffbnaaGreat
