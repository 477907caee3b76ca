/- Each Go function of this seat computes what its model says, part 2. -/
import Derived.Test.YtlioijpkhffbnaaGreatWalks
open Bool renaming false_or→qyd, true_or→qyg, false_and→qyj, true_and→qyt
namespace Go.Proofs.YtlioijpkhffbnaaGreat
open Go SX
set_option maxHeartbeats 4000000 in
theorem qoE {F:Nat}{x1:qAE}{a2:qAF}{c3:Nat}{x4:qAE}{a5:qAF}{c6:Nat}{r:(qAE×qAE)}(hm:qfY F x1 x4=some r) :
    Pure Tryz.prog 130 [.slice a2 x1.length c3,.slice a5 x4.length c6] [Sl (eI .i64) 1 (.slice a2 x1.length c3) x1,Sl (eI .i64) 1 (.slice a5 x4.length c6) x4] ((qAF×Nat)×(qAF×Nat)) (fun g=>.tuple #[.slice g.1.1 r.1.length g.1.2,.slice g.2.1 r.2.length g.2.2]) (fun g=>[Ro (eI .i64) 3 1 (.slice g.1.1 r.1.length g.1.2) r.1,Ro (eI .i64) 3 1 (.slice g.2.1 r.2.length g.2.2) r.2]) (fun _=>[]):=by
 refine qk Tryz.func130 rfl Tryz.ntmps130 rfl hm (fun w=>?_)
 refine au [25,0,59,79,59] ?_
 refine qq (cells:=[.slice none 0 0,.bool true,qAG 0]) rfl st214 rfl (by kernel_rfl) rfl ?_
 refine au [24,9] ?_
 intro g7
 refine au [58] ?_
 refine qc (fun (((x66,x67,x68),(a64,c65)):((qAE×Bool×Int)×(qAF×Nat)))=>([(0,.slice a2 x1.length c3),(1,.slice a5 x4.length c6),(5,.slice none 0 0),(6,.pointer (some ⟨g7,0,none⟩))],[⟨g7,214,[.slice a64 x66.length c65,.bool x67,qAG x68]⟩],[Ro (eI .i64) 3 1 (.slice a64 x66.length c65) x66],[Sl (eI .i64) 1 (.slice a2 x1.length c3) x1,Sl (eI .i64) 1 (.slice a5 x4.length c6) x4],qfy F x1 x4 x66 x67 x68)) ?_ ?_
 refine au [169,1,57,108] ?_
 refine qi (fun (((x0,x2,x3,x5),(a0,c0)):((Int×qAE×Bool×Int)×(qAF×Nat)))=>([(0,.slice a2 x1.length c3),(1,.slice a5 x4.length c6),(5,.slice none 0 0),(6,.pointer (some ⟨g7,0,none⟩)),(17,.slice a2 x1.length c3),(18,qAG (x1.length:Int)),(19,qAG x0)],[⟨g7,214,[.slice a0 x2.length c0,.bool x3,qAG x5]⟩],[Ro (eI .i64) 3 1 (.slice a0 x2.length c0) x2],[Sl (eI .i64) 1 (.slice a2 x1.length c3) x1,Sl (eI .i64) 1 (.slice a5 x4.length c6) x4])) (fun k (s:((Int×qAE×Bool×Int)×(qAF×Nat)))=>jg F x1 x4 k s.1) ((0,([]:qAE),true,0),(none,0)) F ?_
 intro k0
 rintro ⟨⟨x0,x2,x3,x5⟩,⟨a0,c0⟩⟩
 try dsimp only
 refine qm (m':=qdf F x1 x4 (jg F x1 x4 k0) x0 x2 x3 x5) rfl ?_
 refine av [140] ?_ ?_
 intro _
 refine au [91,59,26,2] ?_
 intro x6 e0 b0 o0
 refine au [143,69,33,8] ?_
 intro x7 e1 _
 refine au [92,79,99] ?_
 refine zr qh9 ?_
 rintro x8 e2 ⟨a1,c1⟩
 refine au [87,2,4,16,1,0] ?_
 exact qh ((iadd .i64 x0 1,x8.1,x8.2.1,x8.2.2),(a1,c1))
 intro _
 refine au [73] ?_
 exact qa ((x2,x3,x5),(a0,c0))
 rintro ⟨⟨x66,x67,x68⟩,⟨a64,c65⟩⟩
 try dsimp only
 refine qc (fun ((x9,(a3,c2)):(qAE×(qAF×Nat)))=>([(5,.slice a3 x9.length c2),(6,.pointer (some ⟨g7,0,none⟩))],[⟨g7,214,[.slice a64 x66.length c65,.bool x67,qAG x68]⟩],[Ro (eI .i64) 3 1 (.slice a3 x9.length c2) x9,Ro (eI .i64) 3 1 (.slice a64 x66.length c65) x66],[],qfz F x66 x9)) ?_ ?_
 refine au [169,1,57,108] ?_
 refine qi (fun (((x10,x11),(a4,c4)):((qAE×Int)×(qAF×Nat)))=>([(0,.slice a2 x1.length c3),(5,.slice a4 x10.length c4),(6,.pointer (some ⟨g7,0,none⟩)),(33,.slice a5 x4.length c6),(34,qAG (x4.length:Int)),(35,qAG x11)],[⟨g7,214,[.slice a64 x66.length c65,.bool x67,qAG x68]⟩],[Ro (eI .i64) 3 1 (.slice a4 x10.length c4) x10,Ro (eI .i64) 3 1 (.slice a64 x66.length c65) x66],[Sl (eI .i64) 1 (.slice a2 x1.length c3) x1,Sl (eI .i64) 1 (.slice a5 x4.length c6) x4])) (fun k (s:((qAE×Int)×(qAF×Nat)))=>vg F x1 x4 x66 k s.1) ((([]:qAE),0),(none,0)) F ?_
 intro k1
 rintro ⟨⟨x10,x11⟩,⟨a4,c4⟩⟩
 try dsimp only
 refine qm (m':=qde F x1 x4 x66 (vg F x1 x4 x66 k1) x10 x11) rfl ?_
 refine av [140] ?_ ?_
 intro _
 refine au [64] ?_
 refine qc (fun ((x12,(a6,c5)):(qAE×(qAF×Nat)))=>([(0,.slice a2 x1.length c3),(5,.slice a6 x12.length c5),(6,.pointer (some ⟨g7,0,none⟩)),(33,.slice a5 x4.length c6),(34,qAG (x4.length:Int)),(35,qAG x11)],[⟨g7,214,[.slice a64 x66.length c65,.bool x67,qAG x68]⟩],[Ro (eI .i64) 3 1 (.slice a6 x12.length c5) x12,Ro (eI .i64) 3 1 (.slice a64 x66.length c65) x66],[Sl (eI .i64) 1 (.slice a2 x1.length c3) x1,Sl (eI .i64) 1 (.slice a5 x4.length c6) x4],qdg F (vg F x1 x4 x66 k1) x11 x12)) ?_ ?_
 refine au [14,59,27,8] ?_
 intro x13 e3 b1 o1
 refine au [143,69,33,8] ?_
 intro x14 e4 _
 refine av [92,79,60,101] ?_ ?_
 intro _
 refine au [99] ?_
 refine qt (vs:=[qAG x13]) (ys:=([x13]:qAE)) (ql .i64) (by decide) rfl Tryz.underlying59 tf3 rfl rfl rfl rfl rfl (by decide) (fun a7 c7=>qB 1 (ql .i64) rfl Tryz.underlying59 tf3 rfl rfl rfl rfl rfl (.inl ⟨0,_,rfl⟩) rfl rfl (fun x15 e5 a8 c8=>?_))
 refine au [172] ?_
 exact qa (x15,(a8,c8))
 intro _
 refine au [157] ?_
 exact qa (x10,(a4,c4))
 rintro ⟨x12,⟨a6,c5⟩⟩
 try dsimp only
 refine au [4,16,1,0] ?_
 exact qh ((x12,iadd .i64 x11 1),(a6,c5))
 intro _
 refine au [73] ?_
 exact qa (x10,(a4,c4))
 rintro ⟨x9,⟨a3,c2⟩⟩
 try dsimp only
 refine au [60,125,1,5,61] ?_
 exact qj ((a64,c65),(a3,c2))
theorem qg7 {F:Nat}{g1:Nat}{x2:Int}{x3:qAE}{a4:qAF}{c5:Nat}{x6:Bool}{x7:qAE}{a8:qAF}{c9:Nat}{r:(Int×qAE×Bool)}(hm:jE F x2 x3 x6 x7=some r) :
    PureM Tryz.prog 131 [.pointer (some ⟨g1,0,none⟩),.slice a8 x7.length c9] [⟨g1,183,[qAG x2,.slice a4 x3.length c5,.bool x6]⟩] [Ro (eI .u8) 5 1 (.slice a4 x3.length c5) x3] [Sl (eI .i64) 1 (.slice a8 x7.length c9) x7] (qAF×Nat) (fun _=>.tuple #[]) (fun g=>[⟨g1,183,[qAG r.1,.slice g.1 r.2.1.length g.2,.bool r.2.2]⟩]) (fun g=>[Ro (eI .u8) 5 1 (.slice g.1 r.2.1.length g.2) r.2.1]):=by
 refine zZ Tryz.func131 rfl Tryz.ntmps131 rfl hm (fun w=>?_)
 refine au [25,0,121,28,7] ?_
 rintro x10 e10 ⟨a11,c12⟩
 refine au [57,169,1,162] ?_
 refine qi (fun (((x27,x28,x31,x32),(a29,c30)):((Int×Int×qAE×Bool)×(qAF×Nat)))=>([(0,.pointer (some ⟨g1,0,none⟩)),(10,.slice a8 x7.length c9),(11,qAG (x7.length:Int)),(12,qAG x27)],[⟨g1,183,[qAG x28,.slice a29 x31.length c30,.bool x32]⟩],[Ro (eI .u8) 5 1 (.slice a29 x31.length c30) x31],[Sl (eI .i64) 1 (.slice a8 x7.length c9) x7])) (fun k (s:((Int×Int×qAE×Bool)×(qAF×Nat)))=>kf F x7 k s.1) ((0,x10.1,x10.2.1,x10.2.2),(a11,c12)) F ?_
 intro k47
 rintro ⟨⟨x27,x28,x31,x32⟩,⟨a29,c30⟩⟩
 try dsimp only
 refine qm (m':=y8 F x7 (kf F x7 k47) x27 x28 x31 x32) rfl ?_
 refine av [140] ?_ ?_
 intro _
 refine au [91,60,26,2] ?_
 intro x55 e55 b56 o57
 refine au [24,14,79,99,1,28,14,24,13,28,7] ?_
 rintro x58 e58 ⟨a59,c60⟩
 refine au [87,2,4,16,1,0] ?_
 exact qh ((iadd .i64 x27 1,x58.1,x58.2.1,x58.2.2),(a59,c60))
 intro _
 refine au [73] ?_
 exact zU (a29,c30)
theorem qoF {F:Nat}{x1:qAE}{a2:qAF}{c3:Nat}{r:Unit}(hm:qg8 F x1=some r) :
    PureM Tryz.prog 149 [.slice a2 x1.length c3] [] [] [Sl (eI .i64) 1 (.slice a2 x1.length c3) x1] Nat (fun g=>.func (.func 165) #[] #[.pointer (some ⟨g,0,none⟩)]) (fun g=>[⟨g,59,[.slice a2 x1.length c3]⟩]) (fun _=>[]):=by
 refine zZ Tryz.func149 rfl Tryz.ntmps149 rfl hm (fun w=>?_)
 refine au [133] ?_
 intro g4
 refine au [58,59,30,10,61] ?_
 exact zU g4
set_option maxHeartbeats 4000000 in
theorem qlD (F:Nat){σ τ:Type}{J:Rounds σ τ}{yy:σ→(Int×Int)→Option (σ ⊕ τ)}{L:Nat}(hY:YieldC Tryz.prog L (fun (p:(Int×Int))=>[.agg #[qAG p.1,qAG p.2]]) J yy)(s0:σ)(gs0:J.γ)(g1:Nat)(x2:qAE)(a3:qAF)(c4:Nat)(r:σ ⊕ τ)(hm:qcO F yy x2 s0=some r) :
    PureM Tryz.prog 165 ([.func (.yield L) #[] #[],.pointer (some ⟨g1,0,none⟩)]) ([⟨g1,59,[.slice a3 x2.length c4]⟩]++J.IB s0 gs0) (J.IR s0 gs0) [J.F,Sl (eI .i64) 1 (.slice a3 x2.length c4) x2] (J.G r) (fun _=>.tuple #[]) (fun g=>[⟨g1,59,[.slice a3 x2.length c4]⟩]++J.bs r g) (fun g=>J.rs r g):=by
 refine zZ Tryz.func165 rfl Tryz.ntmps165 rfl hm (fun w=>?_)
 refine au [102,14] ?_
 refine qfm (fun (((x0,x1),g0):((Int×σ)×J.γ))=>[(0,.func (.yield L) #[] #[]),(1,.pointer (some ⟨g1,0,none⟩)),(3,qAG x0)]) (fun (((x0,x1),g0):((Int×σ)×J.γ))=>[⟨g1,59,[.slice a3 x2.length c4]⟩]++J.IB x1 g0) (fun (((x0,x1),g0):((Int×σ)×J.γ))=>[]++J.IR x1 g0) (fun (((x0,x1),g0):((Int×σ)×J.γ))=>[Sl (eI .i64) 1 (.slice a3 x2.length c4) x2,J.F]) (fun k (s:((Int×σ)×J.γ))=>q7 F yy x2 k s.1) ((0,s0),gs0) F ?_ (hB:=(.cons 0 rfl (zk 0 rfl))) (hR:=(zk 0 rfl)) (hF:=(qV 1 rfl (qV 0 rfl qb1)))
 intro k0
 rintro ⟨⟨x0,x1⟩,g0⟩
 try dsimp only
 refine qm (m':=qbE F yy x2 (q7 F yy x2 k0) x0 x1) rfl ?_
 refine av [75,24,0,18,83] ?_ ?_
 intro _
 refine au [64,14,68] ?_
 refine qkY (fun ((x3,_):(Int×Unit))=>[(0,.func (.yield L) #[] #[]),(1,.pointer (some ⟨g1,0,none⟩)),(3,qAG x0),(4,qAG x3)]) (fun ((x3,_):(Int×Unit))=>[⟨g1,59,[.slice a3 x2.length c4]⟩]++J.IB x1 g0) (fun ((x3,_):(Int×Unit))=>[]++J.IR x1 g0) (fun ((x3,_):(Int×Unit))=>[Sl (eI .i64) 1 (.slice a3 x2.length c4) x2,J.F]) (fun ((x3,_):(Int×Unit))=>qbG F yy (q7 F yy x2 k0) x2 x0 x1 x3) ?_ ?_
 refine au [14] ?_
 refine qfm (fun ((x4,_):(Int×Unit))=>[(0,.func (.yield L) #[] #[]),(1,.pointer (some ⟨g1,0,none⟩)),(3,qAG x0),(4,qAG x4)]) (fun ((x4,_):(Int×Unit))=>[⟨g1,59,[.slice a3 x2.length c4]⟩]++J.IB x1 g0) (fun ((x4,_):(Int×Unit))=>[]++J.IR x1 g0) (fun ((x4,_):(Int×Unit))=>[Sl (eI .i64) 1 (.slice a3 x2.length c4) x2,J.F]) (fun k (s:(Int×Unit))=>ya F yy (q7 F yy x2 k0) x2 x0 x1 k s.1) (1,()) F ?_ (hB:=(.cons 0 rfl (zk 0 rfl))) (hR:=(zk 0 rfl)) (hF:=(qV 0 rfl (qV 1 rfl qb1)))
 intro k1
 rintro ⟨x4,_⟩
 try dsimp only
 refine qm (m':=qbF F yy (q7 F yy x2 k0) x2 x0 x1 (ya F yy (q7 F yy x2 k0) x2 x0 x1 k1) x4) rfl ?_
 refine au [3] ?_
 refine qkY (fun ((x5,_):(Bool×Unit))=>[(0,.func (.yield L) #[] #[]),(1,.pointer (some ⟨g1,0,none⟩)),(3,qAG x0),(4,qAG x4),(29,.bool x5)]) (fun ((x5,_):(Bool×Unit))=>[⟨g1,59,[.slice a3 x2.length c4]⟩]++J.IB x1 g0) (fun ((x5,_):(Bool×Unit))=>[]++J.IR x1 g0) (fun ((x5,_):(Bool×Unit))=>[Sl (eI .i64) 1 (.slice a3 x2.length c4) x2,J.F]) (fun ((x5,_):(Bool×Unit))=>qbH F yy (q7 F yy x2 k0) (ya F yy (q7 F yy x2 k0) x2 x0 x1 k1) x2 x0 x1 x4 x5) ?_ ?_
 refine av [26,15] ?_ ?_
 intro h0
 refine au [29,8] ?_
 intro x6 e0 b0 o0 h1
 replace h1:a3=some ⟨b0,o0,none⟩:=h1
 refine au [28,15] ?_
 intro x7 e1 b1 o1 h2
 replace h2:a3=some ⟨b1,o1,none⟩:=h2
 refine qu mixed [] [⟨g1,59,[.slice a3 x2.length c4]⟩] [qz b1 (o1+x0.toNat*1) ((eI .i64) x7),qz b0 (o0+(iadd .i64 x0 x4).toNat*1) ((eI .i64) x6),Sl (eI .i64) 1 (.slice a3 x2.length c4) x2,J.F] (.cons 0 rfl .nil) (qx 0 rfl (qx 1 rfl (qx 2 rfl (qx 3 rfl qr)))) 21 rfl ?_
 refine au [113,25,8,3,26,9,4,6,5,6,6] ?_
 refine qf (d:=15) (v:=.bool true) rfl (by rw[h0] <;> rfl) ?_
 refine au [25,8,7,171,6,10] ?_
 refine qf (d:=16) (v:=.slice (some ⟨b0,o0,none⟩) x2.length c4) rfl (by rw[h1] <;> rfl) (qn 11 (.pointer (some ⟨b0,(o0+(iadd .i64 x0 x4).toNat*1),none⟩)) rfl rfl rfl (yJ Tryz.underlying59 tf3 rfl rfl (qF e0).1 (zX e0)) (qf (d:=16) (v:=.slice a3 x2.length c4) rfl (by rw[h1] <;> rfl) (qI 12 (qAG x6) [] rfl rfl rfl (zi (j:=1) rfl tf3 rfl rfl (fun _=>rfl) rfl) ?_)))
 refine au [25,8,13,6,14] ?_
 refine qf (d:=22) (v:=.slice (some ⟨b1,o1,none⟩) x2.length c4) rfl (by rw[h2] <;> rfl) (qn 15 (.pointer (some ⟨b1,(o1+x0.toNat*1),none⟩)) rfl rfl rfl (yJ Tryz.underlying59 tf3 rfl rfl (qF e1).1 (zX e1)) (qf (d:=22) (v:=.slice a3 x2.length c4) rfl (by rw[h2] <;> rfl) (qI 16 (qAG x7) [] rfl rfl rfl (zi (j:=0) rfl tf3 rfl rfl (fun _=>rfl) rfl) ?_)))
 refine au [153,6,19,6,20,24,3] ?_
 exact qy (qhO (((x6:Int) == (iadd .i64 x7 x4)),()) (hB:=(.cons 0 rfl (zk 0 rfl))) (hR:=(zk 0 rfl)) (hF:=(qV 2 rfl (qV 3 rfl qb1)))) (by intro c h;cases h)
 intro h0
 refine qu mixed [] [⟨g1,59,[.slice a3 x2.length c4]⟩] [Sl (eI .i64) 1 (.slice a3 x2.length c4) x2,J.F] (.cons 0 rfl .nil) (qx 0 rfl (qx 1 rfl qr)) 21 rfl ?_
 refine au [113,25,8,3,26,9,4,6,5,6,6] ?_
 refine qf (d:=15) (v:=.bool false) rfl (by rw[h0] <;> rfl) ?_
 refine au [11,7,141,112,156,146,11,17,11,18,11,19,6,20,24,3] ?_
 exact qy (qhO (false,()) (hB:=(.cons 0 rfl (zk 0 rfl))) (hR:=(zk 0 rfl)) (hF:=(qV 0 rfl (qV 1 rfl qb1)))) (by intro c h;cases h)
 rintro ⟨x5,_⟩
 try dsimp only
 refine av [8] ?_ ?_
 intro _
 refine au [64,14,89,87] ?_
 exact qgX (iadd .i64 x4 1,()) (hB:=(.cons 0 rfl (zk 0 rfl))) (hR:=(zk 0 rfl)) (hF:=(qV 0 rfl (qV 1 rfl qb1)))
 intro _
 refine au [73] ?_
 exact qhO (x4,()) (hB:=(.cons 0 rfl (zk 0 rfl))) (hR:=(zk 0 rfl)) (hF:=(qV 0 rfl (qV 1 rfl qb1)))
 rintro ⟨x3,_⟩
 try dsimp only
 refine au [75,24,0,1,26,2] ?_
 intro x8 e2 b2 o2
 refine au [24,14,1] ?_
 refine qq (cells:=[qAG x8,qAG x3]) rfl st129 rfl (by kernel_rfl) rfl (qmI hY x1 (x8,x3) g0 (B1:=[⟨g1,59,[.slice a3 x2.length c4]⟩]) (R1:=[]) (j:=2) rfl rfl rfl rfl rfl rfl rfl (fun x9 _ g2=>?_) (fun x10 _ g2=>?_))
 refine au [25,3,57] ?_
 refine qb2 (b:=false) rfl (fun h=>by cases h) (fun _=>?_)
 refine au [64,99,86,87] ?_
 exact qgX ((iadd .i64 x0 x3,x9),g2) (hB:=(.cons 0 rfl (zk 0 rfl))) (hR:=(zk 0 rfl)) (hF:=(qV 1 rfl (qV 2 rfl qb1)))
 refine au [25,3,57] ?_
 refine qb2 (b:=true) rfl (fun _=>?_) (fun h=>by cases h)
 refine au [12,9,78,20] ?_
 exact qhN (B0:=[⟨g1,59,[.slice a3 x2.length c4]⟩]) (x:=.inr x10) g2 (.inl rfl) (res0 rfl) (.cons 0 rfl (zk 0 rfl)) (zk 0 rfl)
 intro _
 refine au [73] ?_
 exact qhN (B0:=[⟨g1,59,[.slice a3 x2.length c4]⟩]) (x:=.inl x1) g0 (.inr rfl) (res0 rfl) (.cons 0 rfl (zk 0 rfl)) (zk 0 rfl)
set_option maxHeartbeats 4000000 in
theorem qp6 {F:Nat}{x1:qAE}{a2:qAF}{c3:Nat}{x4:Int}{r:(List (Int×Int)×qAE)}(hm:qgJ F x1 x4=some r) :
    PureM Tryz.prog 132 [.slice a2 x1.length c3,qAG x4] [] [] [Sl (eI .i64) 1 (.slice a2 x1.length c3) x1] ((qAF×Nat)×(qAF×Nat)) (fun g=>.tuple #[.slice g.1.1 r.1.length g.1.2,.slice g.2.1 r.2.length g.2.2]) (fun _=>[]) (fun g=>[Ro eS129 129 2 (.slice g.1.1 r.1.length g.1.2) r.1,Ro (eI .i64) 3 1 (.slice g.2.1 r.2.length g.2.2) r.2]):=by
 refine qpl Tryz.func132 rfl Tryz.ntmps132 rfl hm (fun w=>?_)
 refine au [155] ?_
 intro g5
 refine au [24,12] ?_
 intro g6
 refine au [24,12] ?_
 intro g7
 refine au [57,75] ?_
 refine zr qoF ?_
 intro x0 e0 g0
 refine au [57,108,33,9] ?_
 refine qmD (encs:=(fun (p:(Int×Int))=>[.agg #[qAG p.1,qAG p.2]])) (y:=(fun ((x2,x3):(qAE×List (Int×Int))) ((x5,x6):(Int×Int))=>qcN F x4 x2 x3 x5 x6)) (lb:=[.pointer (some ⟨g0,0,none⟩)]) (fun ((x2,x3):(qAE×List (Int×Int))) ((a0,c0,a1,c1):(qAF×Nat×qAF×Nat))=>[⟨g7,59,[.slice a0 x2.length c0]⟩,⟨g6,125,[.slice a1 x3.length c1]⟩,⟨g5,3,[qAG x4]⟩]) (fun ((x2,x3):(qAE×List (Int×Int))) ((a0,c0,a1,c1):(qAF×Nat×qAF×Nat))=>[Ro (eI .i64) 3 1 (.slice a0 x2.length c0) x2,Ro eS129 129 2 (.slice a1 x3.length c1) x3]) (fun (_:Empty) (_:Unit)=>[]) (fun (_:Empty) (_:Unit)=>[]) (fun _=>.skip) (([]:qAE),([]:List (Int×Int))) (none,0,none,0) rfl ent165 (fun _=>rfl) rfl (.cons 0 rfl .nil) (.cons 0 rfl (.cons 0 rfl (.cons 0 rfl .nil))) (.cons 1 rfl (.cons 0 rfl .nil)) (.consF 0 rfl .nil) (fun z hz _ _ _ hY=>qlD F hY (([]:qAE),([]:List (Int×Int))) (none,0,none,0) g0 x1 a2 c3 z hz) ?_ ?_ ?_
 rintro rc1 L1 D1 ⟨x2,x3⟩ ⟨a0,c0,a1,c1⟩ ⟨x5,x6⟩ z w M _
 try dsimp only
 refine qpE [(0,.slice a2 x1.length c3),(1,qAG x4),(3,.pointer (some ⟨g5,0,none⟩)),(4,.pointer (some ⟨g6,0,none⟩)),(5,.pointer (some ⟨g7,0,none⟩)),(8,.slice a2 x1.length c3),(9,.func (.func 165) #[] #[.pointer (some ⟨g0,0,none⟩)]),(10,.agg #[qAG x5,qAG x6])] (kM rfl (kM rfl (kM rfl (kM rfl (kM rfl (kM rfl (kM rfl (kM rfl qjc)))))))) ?_
 refine au [4,24,12] ?_
 intro g1
 refine au [134] ?_
 refine qmJ (i:=4) rfl ?_
 refine av [14,3,116,29,6,26,3,63] ?_ ?_
 intro _
 refine au [59,27,0,25,4] ?_
 refine qt (vs:=[.agg #[qAG x5,qAG x6]]) (ys:=([(x5,x6)]:List (Int×Int))) kJ (by decide) rfl Tryz.underlying125 tf129 rfl rfl rfl rfl rfl (by decide) (fun a3 c2=>qB 2 kJ rfl Tryz.underlying125 tf129 rfl rfl rfl rfl rfl (.inl ⟨0,_,rfl⟩) rfl rfl (fun x7 e1 a4 c4=>?_))
 refine au [25,14,57,65,24,6] ?_
 exact qjl (rc:=rc1) rfl (.cons 4 rfl .nil) rfl (a0,c0,a4,c4) (.cons 2 rfl (.cons 2 rfl (.cons 2 rfl (.cons 0 rfl (.cons 1 rfl .nil))))) (.cons 2 rfl (.cons 0 rfl .nil))
 intro _
 refine au [64,116,1,162] ?_
 refine qi (fun (((x8,x9),(a5,c5)):((Int×qAE)×(qAF×Nat)))=>([(3,.pointer (some ⟨g5,0,none⟩)),(4,.pointer (some ⟨g6,0,none⟩)),(5,.pointer (some ⟨g7,0,none⟩)),(6,.pointer (some ⟨g1,0,none⟩)),(20,qAG x6),(21,qAG x8)],[⟨g1,129,[qAG x5,qAG x6]⟩,⟨g7,59,[.slice a5 x9.length c5]⟩,⟨g6,125,[.slice a1 x3.length c1]⟩,⟨g5,3,[qAG x4]⟩,(blkO L1 (.loop (bsy rc1))),(dblk D1)],[Ro (eI .i64) 3 1 (.slice a5 x9.length c5) x9,Ro eS129 129 2 (.slice a1 x3.length c1) x3],[])) (fun k (s:((Int×qAE)×(qAF×Nat)))=>qbf F x3 x5 x6 k s.1) ((0,x2),(a0,c0)) F ?_
 intro k0
 rintro ⟨⟨x8,x9⟩,⟨a5,c5⟩⟩
 try dsimp only
 refine qm (m':=qeI F x3 x5 x6 (qbf F x3 x5 x6 k0) x8 x9) rfl ?_
 refine av [140] ?_ ?_
 intro _
 refine au [91,60,58,4,25,13,62,1,16] ?_
 refine qt (vs:=[qAG (iadd .i64 x5 x8)]) (ys:=([iadd .i64 x5 x8]:qAE)) (ql .i64) (by decide) rfl Tryz.underlying59 tf3 rfl rfl rfl rfl rfl (by decide) (fun a6 c6=>qB 1 (ql .i64) rfl Tryz.underlying59 tf3 rfl rfl rfl rfl rfl (.inl ⟨0,_,rfl⟩) rfl rfl (fun x10 e2 a7 c7=>?_))
 refine au [25,7,87,2,4,16,1,0] ?_
 exact qh ((iadd .i64 x8 1,x10),(a7,c7))
 intro _
 refine au [73,22] ?_
 exact qjl (rc:=rc1) rfl (.cons 4 rfl .nil) rfl (a5,c5,a1,c1) (.cons 2 rfl (.cons 2 rfl (.cons 2 rfl (.cons 0 rfl (.cons 1 rfl .nil))))) (.cons 0 rfl (.cons 0 rfl .nil))
 rintro ⟨x2,x3⟩ _ ⟨a0,c0,a1,c1⟩ D1
 try dsimp only
 refine au [22,2,3] ?_
 refine qu mixed [] [(dblk D1),⟨g0,59,[.slice a2 x1.length c3]⟩,⟨g7,59,[.slice a0 x2.length c0]⟩,⟨g6,125,[.slice a1 x3.length c1]⟩,⟨g5,3,[qAG x4]⟩] [Sl (eI .i64) 1 (.slice a2 x1.length c3) x1] (.cons 0 rfl (.cons 0 rfl (.cons 0 rfl (.cons 0 rfl (.cons 0 rfl .nil))))) (qx 0 rfl qr) 4 rfl (qK 0 _ rfl rfl rfl (qH (i:=3) rfl inferInstance rfl rfl (fun _=>rfl) rfl) ?_)
 refine au [29,0,1,21,2,26,10,0,33,10,21,3,25,14,0,33,10,24,3] ?_
 refine qy ?_ (by intro c h;cases h)
 refine au [2,12] ?_
 exact qmK [D1] ((a1,c1),(a0,c0)) (.inl rfl) rfl (.cons 0 rfl .nil) (resL (rs:=[.cell 4 125,.cell 5 59]) rfl (.cell (i:=2) rfl tf125 rfl rfl (fun _=>rfl) rfl (.cell (i:=1) rfl tf59 rfl rfl (fun _=>rfl) rfl ResOk.nil)) rfl) (fun h=>by subst h;rfl) (fun h=>by subst h;exact .nil) (fun h=>by subst h;exact (.cons 1 rfl (.cons 0 rfl .nil)))
 intro t;exact t.elim
set_option maxHeartbeats 4000000 in
theorem qif {F:Nat}{g1:Nat}{x2:Int}{x3:qAE}{a4:qAF}{c5:Nat}{x6:Bool}{x7:Int}{x8:Int}{x9:List (Int×Int)}{a10:qAF}{c11:Nat}{r:(Int×qAE×Bool)}(hm:qaP F x2 x3 x6 x7 x8 x9=some r) :
    PureM Tryz.prog 133 [.pointer (some ⟨g1,0,none⟩),qAG x7,qAG x8,.slice a10 x9.length c11] [⟨g1,183,[qAG x2,.slice a4 x3.length c5,.bool x6]⟩] [Ro (eI .u8) 5 1 (.slice a4 x3.length c5) x3] [Sl eS129 2 (.slice a10 x9.length c11) x9] (qAF×Nat) (fun _=>.tuple #[]) (fun g=>[⟨g1,183,[qAG r.1,.slice g.1 r.2.1.length g.2,.bool r.2.2]⟩]) (fun g=>[Ro (eI .u8) 5 1 (.slice g.1 r.2.1.length g.2) r.2.1]):=by
 refine zZ Tryz.func133 rfl Tryz.ntmps133 rfl hm (fun w=>?_)
 refine au [28,0,121,28,7] ?_
 rintro x12 e12 ⟨a13,c14⟩
 refine au [57,60,58,169,1,162] ?_
 refine qi (fun (((x73,x74,x75,x78,x79),(a76,c77)):((Int×Int×Int×qAE×Bool)×(qAF×Nat)))=>([(0,.pointer (some ⟨g1,0,none⟩)),(2,qAG x8),(8,qAG x73),(16,.slice a10 x9.length c11),(17,qAG (x9.length:Int)),(18,qAG x74)],[⟨g1,183,[qAG x75,.slice a76 x78.length c77,.bool x79]⟩],[Ro (eI .u8) 5 1 (.slice a76 x78.length c77) x78],[Sl eS129 2 (.slice a10 x9.length c11) x9])) (fun k (s:((Int×Int×Int×qAE×Bool)×(qAF×Nat)))=>zH F x8 x9 k s.1) ((x7,0,x12.1,x12.2.1,x12.2.2),(a13,c14)) F ?_
 intro k0
 rintro ⟨⟨x73,x74,x75,x78,x79⟩,⟨a76,c77⟩⟩
 try dsimp only
 refine qm (m':=vW F x8 x9 (zH F x8 x9 k0) x73 x74 x75 x78 x79) rfl ?_
 refine av [140] ?_ ?_
 intro _
 refine au [91,60,30,15] ?_
 intro x0 e0 b0 o0
 refine au [31,0,24,12] ?_
 intro g0
 refine au [5,84] ?_
 refine qc (fun (((x1,x4,x5),(a0,c0)):((Int×qAE×Bool)×(qAF×Nat)))=>([(0,.pointer (some ⟨g1,0,none⟩)),(2,qAG x8),(10,.pointer (some ⟨g0,0,none⟩)),(16,.slice a10 x9.length c11),(17,qAG (x9.length:Int)),(18,qAG x74)],[⟨g1,183,[qAG x1,.slice a0 x4.length c0,.bool x5]⟩,⟨g0,129,[qAG x0.1,qAG x0.2]⟩],[Ro (eI .u8) 5 1 (.slice a0 x4.length c0) x4],[Sl eS129 2 (.slice a10 x9.length c11) x9],yw F (zH F x8 x9 k0) x8 x74 x0 x1 x4 x5)) ?_ ?_
 refine av [60,82] ?_ ?_
 intro _
 refine au [88,62,103,32,11] ?_
 intro x10 e1 _
 refine au [24,11,28,7] ?_
 rintro x11 e2 ⟨a1,c1⟩
 refine au [0] ?_
 exact qa ((x11.1,x11.2.1,x11.2.2),(a1,c1))
 intro _
 refine au [88,62,103,24,13,28,7] ?_
 rintro x13 e3 ⟨a2,c2⟩
 refine au [0] ?_
 exact qa ((x13.1,x13.2.1,x13.2.2),(a2,c2))
 rintro ⟨⟨x1,x4,x5⟩,⟨a0,c0⟩⟩
 try dsimp only
 refine au [60,93,103,28,7] ?_
 rintro x14 e4 ⟨a3,c3⟩
 refine au [57,4,93,93,16,24,13,173,4,16,1,0] ?_
 exact qh ((isub .i64 (iadd .i64 x0.1 x0.2) 1,iadd .i64 x74 1,x14.1,x14.2.1,x14.2.2),(a3,c3))
 intro _
 refine au [73] ?_
 exact zU (a76,c77)
theorem qlz {F:Nat}{x1:Int}{x2:Int}{r:(Int×Int×Int)}(hm:qeE F x1 x2=some r) :
    Pure Tryz.prog 166 [.int .u64 x1,qAG x2] [] Unit (fun _=>.tuple #[qAG r.1,.int .u64 r.2.1,.int .u64 r.2.2]) (fun _=>[]) (fun _=>[]):=by
 refine qk Tryz.func166 rfl Tryz.ntmps166 rfl hm (fun w=>?_)
 refine au [25,0,94,79,60,16,30,12] ?_
 intro x3 e3 _
 refine au [24,13,1,26,6] ?_
 intro h4
 refine qj3 rfl rfl rfl rfl h4 ?_
 refine au [58,3,28,5] ?_
 intro h11
 refine au [28,5] ?_
 intro h13
 refine qu mixed [] [] [] .nil qr 14 rfl ?_
 refine au [113,6,3] ?_
 refine qn 4 (.int .u64 (ishl .u64 1 (imul .i64 (iquo .i64 (isub .i64 x3 1) x2) x2))) rfl rfl rfl (qit rfl rfl h11) ?_
 refine au [6,5,150,171] ?_
 refine qn 10 (.int .u64 (ishl .u64 1 (iadd .i64 (imul .i64 (iquo .i64 (isub .i64 x3 1) x2) x2) x2))) rfl rfl rfl (qit rfl rfl h13) ?_
 refine au [6,11,123,24,3] ?_
 refine qy ?_ (by intro c h;cases h)
 exact az [2,12,19]
theorem qj9 {F:Nat}{x1:Int}{r:(Int×Int)}(hm:qbV F x1=some r) :
    Pure Tryz.prog 168 [.int .u64 x1] [] Unit (fun _=>.tuple #[qAG r.1,.int .u64 r.2]) (fun _=>[]) (fun _=>[]):=by
 refine qk Tryz.func168 rfl Tryz.ntmps168 rfl hm (fun w=>?_)
 refine au [25,5,59,79,60,24,13,30,12] ?_
 intro x2 e2 _
 refine au [58,3,28,5] ?_
 intro h6
 refine qu mixed [] [] [] .nil qr 7 rfl ?_
 refine au [81] ?_
 refine qn 2 (.int .u64 (ishl .u64 1 x2)) rfl rfl rfl (qit rfl rfl h6) ?_
 refine au [6,3,118,6,6,24,3] ?_
 refine qy ?_ (by intro c h;cases h)
 exact az [2,12,19]
theorem qiy {F:Nat}{x1:Int}{x2:qAE}{a3:qAF}{c4:Nat}{x5:Int}{x6:Int}{r:(Int×qAE)}(hm:qbx F x1 x2 x5 x6=some r) :
    Pure Tryz.prog 167 [.agg #[qAG x1,.slice a3 x2.length c4],.int .u64 x5,.int .u64 x6] [Sl (eI .u8) 1 (.slice a3 x2.length c4) x2] (qAF×Nat) (fun g=>.agg #[qAG r.1,.slice g.1 r.2.length g.2]) (fun g=>[Ro (eI .u8) 5 1 (.slice g.1 r.2.length g.2) r.2]) (fun _=>[]):=by
 refine qk Tryz.func167 rfl Tryz.ntmps167 rfl hm (fun w=>?_)
 refine au [120] ?_
 intro g7
 refine au [24,12] ?_
 intro g8
 refine au [57,60,33,11] ?_
 intro x9 e9 _
 refine av [92,79,3,69,83] ?_ ?_
 intro _
 refine au [119,1,103,29,15] ?_
 rintro x14 e14 ⟨a15,c16⟩
 refine au [84,12,9] ?_
 exact qv (a15,c16) (resL (rs:=[.cell 6 65]) rfl (.cell (i:=0) rfl tf65 rfl rfl (by simp) rfl ResOk.nil) rfl) (fun h=>by subst h;exact (.cons 0 rfl .nil))
 intro _
 refine au [64,119,1,1,16,1,29,15] ?_
 rintro x17 e17 ⟨a18,c19⟩
 refine au [84,12] ?_
 exact qv (a18,c19) (resL (rs:=[.cell 6 65]) rfl (.cell (i:=0) rfl tf65 rfl rfl (by simp) rfl ResOk.nil) rfl) (fun h=>by subst h;exact (.cons 0 rfl .nil))
set_option maxHeartbeats 4000000 in
theorem qly {F:Nat}{x1:Int}{x2:Int}{r:(Int×qAE×Int)}(hm:qeD F x1 x2=some r) :
    Pure Tryz.prog 150 [.int .u64 x1,qAG x2] [] (qAF×Nat) (fun g=>.tuple #[.agg #[qAG r.1,.slice g.1 r.2.1.length g.2],qAG r.2.2]) (fun g=>[Ro (eI .u8) 5 1 (.slice g.1 r.2.1.length g.2) r.2.1]) (fun _=>[]):=by
 refine qk Tryz.func150 rfl Tryz.ntmps150 rfl hm (fun w=>?_)
 refine au [25,0,128] ?_
 intro g3
 refine au [58,75,23,1] ?_
 refine qC 3 (decide (x2<1)) [(0,.int .u64 x1),(1,qAG x2),(4,.pointer (some ⟨g3,0,none⟩)),(14,.bool ((decide (x2<1)) || (decide (16<x2))))] (fun h7=>?_) (fun h7=>?_) ?_
 refine qb (os:=_) rfl (qp (k:=11) rfl h7 ?_)
 refine au [132] ?_
 refine qd (d:=14) (v:=.bool ((decide (x2<1)) || (decide (16<x2)))) rfl (by rw[h7];simp only[qyg]) ?_
 exact az [67]
 refine qb (os:=_) rfl (qo (k:=11) rfl h7 ?_)
 refine au [1,80] ?_
 refine qd (d:=14) (v:=.bool ((decide (x2<1)) || (decide (16<x2)))) rfl (by rw[h7];simp only[qyd]) ?_
 exact az [67]
 refine qb (os:=_) rfl ?_
 refine au [1] ?_
 refine qC 3 ((decide (x2<1)) || (decide (16<x2))) [(0,.int .u64 x1),(1,qAG x2),(4,.pointer (some ⟨g3,0,none⟩)),(18,.bool (((decide (x2<1)) || (decide (16<x2))) || (decide (1099511627776<x1))))] (fun h8=>?_) (fun h8=>?_) ?_
 refine qb (os:=_) rfl (qp (k:=15) rfl h8 ?_)
 refine au [132] ?_
 refine qd (d:=18) (v:=.bool (((decide (x2<1)) || (decide (16<x2))) || (decide (1099511627776<x1)))) rfl (by rw[h8];simp only[qyg]) ?_
 exact az [67]
 refine qb (os:=_) rfl (qo (k:=15) rfl h8 ?_)
 refine au [1,80] ?_
 refine qd (d:=18) (v:=.bool (((decide (x2<1)) || (decide (16<x2))) || (decide (1099511627776<x1)))) rfl (by rw[h8];simp only[qyd]) ?_
 exact az [67]
 refine qb (os:=_) rfl ?_
 refine av [63] ?_ ?_
 intro _
 refine au [59] ?_
 refine qq (cells:=[qAG 0,.slice none 0 0]) rfl st65 rfl (by kernel_rfl) rfl ?_
 refine au [24,10,74,26,8] ?_
 exact qv (none,0) (resL (rs:=[.cell 4 65,.tmp 5]) rfl (.cell (i:=0) rfl tf65 rfl rfl (by simp) rfl (.tmp rfl ResOk.nil)) rfl) (fun h=>by subst h;exact (.cons 0 rfl .nil))
 intro _
 refine au [64,69] ?_
 refine qg qlz ?_
 intro x9 e9 _
 refine au [148,5,79,60,24,11,33,1] ?_
 rintro x10 e10 ⟨a11,c12⟩
 refine au [1,16,103,1,103] ?_
 refine qg qiy ?_
 rintro x13 e13 ⟨a14,c15⟩
 refine au [24,10,61] ?_
 exact qv (a14,c15) (resL (rs:=[.cell 4 65,.tmp 5]) rfl (.cell (i:=0) rfl tf65 rfl rfl (by simp) rfl (.tmp rfl ResOk.nil)) rfl) (fun h=>by subst h;exact (.cons 0 rfl .nil))
set_option maxHeartbeats 4000000 in
theorem qp3 {F:Nat}{x1:Int}{x2:qAE}{a3:qAF}{c4:Nat}{x5:qAE}{a6:qAF}{c7:Nat}{x8:Int}{r:(Int×qAE×Bool)}(hm:qdm F x1 x2 x5 x8=some r) :
    PureM Tryz.prog 134 [.agg #[qAG x1,.slice a3 x2.length c4],.slice a6 x5.length c7,qAG x8] [] [Ro (eI .u8) 5 1 (.slice a3 x2.length c4) x2] [Sl (eI .u64) 1 (.slice a6 x5.length c7) x5] (qAF×Nat) (fun g=>.tuple #[.agg #[qAG r.1,.slice g.1 r.2.1.length g.2],.bool r.2.2]) (fun _=>[]) (fun g=>[Ro (eI .u8) 5 1 (.slice g.1 r.2.1.length g.2) r.2.1]):=by
 refine zZ Tryz.func134 rfl Tryz.ntmps134 rfl hm (fun w=>?_)
 refine au [120] ?_
 intro g9
 refine au [24,12] ?_
 intro g10
 refine au [58] ?_
 refine qc (fun (((x0,x3),(a0,c0)):((Int×qAE)×(qAF×Nat)))=>([(3,.pointer (some ⟨g9,0,none⟩)),(6,.pointer (some ⟨g10,0,none⟩))],[⟨g10,65,[qAG 0,.slice none 0 0]⟩,⟨g9,65,[qAG x0,.slice a0 x3.length c0]⟩],[Ro (eI .u8) 5 1 (.slice a0 x3.length c0) x3],[],qhX F x0 x3)) ?_ ?_
 refine au [169,1,162] ?_
 refine qi (fun (((x4,x6,x7),(a1,c1)):((Int×Int×qAE)×(qAF×Nat)))=>([(2,qAG x8),(3,.pointer (some ⟨g9,0,none⟩)),(6,.pointer (some ⟨g10,0,none⟩)),(12,.slice a6 x5.length c7),(13,qAG (x5.length:Int)),(14,qAG x4)],[⟨g10,65,[qAG 0,.slice none 0 0]⟩,⟨g9,65,[qAG x6,.slice a1 x7.length c1]⟩],[Ro (eI .u8) 5 1 (.slice a1 x7.length c1) x7],[Sl (eI .u64) 1 (.slice a6 x5.length c7) x5])) (fun k (s:((Int×Int×qAE)×(qAF×Nat)))=>qbc F x5 x8 k s.1) ((0,x1,x2),(a3,c4)) F ?_
 intro k0
 rintro ⟨⟨x4,x6,x7⟩,⟨a1,c1⟩⟩
 try dsimp only
 refine qm (m':=qeB F x5 x8 (qbc F x5 x8 k0) x4 x6 x7) rfl ?_
 refine av [140] ?_ ?_
 intro _
 refine au [91,59,28,8] ?_
 intro x9 e0 b0 o0
 refine au [143,69] ?_
 refine qg qly ?_
 rintro x10 e1 ⟨a2,c2⟩
 refine au [92,24,12] ?_
 intro g0
 refine au [167,75,25,1,1] ?_
 refine qC 7 ((x10.2.2:Int) != 0) [(2,qAG x8),(3,.pointer (some ⟨g9,0,none⟩)),(6,.pointer (some ⟨g10,0,none⟩)),(12,.slice a6 x5.length c7),(13,qAG (x5.length:Int)),(14,qAG x4),(10,.pointer (some ⟨g0,0,none⟩)),(33,.bool (((x10.2.2:Int) != 0) || (decide (8192<(iadd .i64 x6 x10.1)))))] (fun h0=>?_) (fun h0=>?_) ?_
 refine qb (os:=_) rfl (qp (k:=26) rfl h0 ?_)
 refine au [76,132] ?_
 refine qd (d:=33) (v:=.bool (((x10.2.2:Int) != 0) || (decide (8192<(iadd .i64 x6 x10.1))))) rfl (by rw[h0];simp only[qyg]) ?_
 exact az [67]
 refine qb (os:=_) rfl (qo (k:=26) rfl h0 ?_)
 refine au [13,27,0,62,16,80] ?_
 refine qd (d:=33) (v:=.bool (((x10.2.2:Int) != 0) || (decide (8192<(iadd .i64 x6 x10.1))))) rfl (by rw[h0];simp only[qyd]) ?_
 exact az [67]
 refine qb (os:=_) rfl ?_
 refine av [63] ?_ ?_
 intro _
 refine au [59] ?_
 refine qq (cells:=[qAG 0,.slice none 0 0]) rfl st65 rfl (by kernel_rfl) rfl ?_
 refine au [25,7,158,78,26,8] ?_
 exact vI (none,0) (resL (rs:=[.cell 6 65,.tmp 7]) rfl (.cell (i:=1) rfl tf65 rfl rfl (by simp) rfl (.tmp rfl ResOk.nil)) rfl) (hR:=fun h=>by subst h;exact (.cons 0 rfl .nil))
 intro _
 refine au [64,4,26,13,25,4,30,0] ?_
 rintro x11 e2 ⟨a4,c3⟩
 refine au [25,14,87,2,4,16,1,0] ?_
 exact qh ((iadd .i64 x4 1,x11.1,x11.2),(a4,c3))
 intro _
 refine au [73] ?_
 exact qa ((x6,x7),(a1,c1))
 rintro ⟨⟨x0,x3⟩,⟨a0,c0⟩⟩
 try dsimp only
 refine au [119,24,10,61] ?_
 exact vI (a0,c0) (resL (rs:=[.cell 6 65,.tmp 7]) rfl (.cell (i:=0) rfl tf65 rfl rfl (by simp) rfl (.tmp rfl ResOk.nil)) rfl) (hR:=fun h=>by subst h;exact (.cons 0 rfl .nil))
set_option maxHeartbeats 4000000 in
theorem qie {F:Nat}{g1:Nat}{x2:Int}{x3:qAE}{a4:qAF}{c5:Nat}{x6:Bool}{x7:Int}{x8:qAE}{a9:qAF}{c10:Nat}{x11:qAE}{a12:qAF}{c13:Nat}{x14:Int}{x15:Int}{x16:Int}{r:(Int×qAE×Bool)}(hm:vQ F x2 x3 x6 x7 x8 x11 x14 x15 x16=some r) :
    PureM Tryz.prog 111 [.pointer (some ⟨g1,0,none⟩),qAG x7,.slice a9 x8.length c10,.slice a12 x11.length c13,.agg #[qAG x14,qAG x15,qAG x16]] [⟨g1,183,[qAG x2,.slice a4 x3.length c5,.bool x6]⟩] [Ro (eI .u8) 5 1 (.slice a4 x3.length c5) x3] [Sl (eI .i64) 1 (.slice a9 x8.length c10) x8,Sl (eI .i64) 1 (.slice a12 x11.length c13) x11] (qAF×Nat) (fun _=>.tuple #[]) (fun g=>[⟨g1,183,[qAG r.1,.slice g.1 r.2.1.length g.2,.bool r.2.2]⟩]) (fun g=>[Ro (eI .u8) 5 1 (.slice g.1 r.2.1.length g.2) r.2.1]):=by
 refine zZ Tryz.func111 rfl Tryz.ntmps111 rfl hm (fun w=>?_)
 refine au [28,9,72] ?_
 intro g17
 refine au [57,121,28,7] ?_
 rintro x18 e18 ⟨a19,c20⟩
 refine av [57,75,18,82] ?_ ?_
 intro _
 refine au [12,9] ?_
 exact zU (a19,c20)
 intro _
 refine au [64,60,58] ?_
 refine qc (fun (((x33,x34,x37,x38),(a31,c32,a35,c36)):((qAE×Int×qAE×Bool)×(qAF×Nat×qAF×Nat)))=>([(0,.pointer (some ⟨g1,0,none⟩)),(1,qAG x7),(9,.pointer (some ⟨g17,0,none⟩)),(10,.slice a31 x33.length c32)],[⟨g1,183,[qAG x34,.slice a35 x37.length c36,.bool x38]⟩,⟨g17,26,[qAG x14,qAG x15,qAG x16]⟩],[Ro (eI .u8) 5 1 (.slice a35 x37.length c36) x37],[Sl (eI .i64) 1 (.slice a31 x33.length c32) x33],yr F x7 x15 x16 x33 x34 x37 x38)) ?_ ?_
 refine av [59,93,77] ?_ ?_
 intro _
 refine au [68,69] ?_
 refine qg qoE ?_
 rintro x0 e0 ⟨⟨a0,c0⟩,⟨a1,c1⟩⟩
 refine au [92,79,99] ?_
 refine zr qg7 ?_
 rintro x1 e1 ⟨a2,c2⟩
 refine au [0,33,12] ?_
 exact qa ((x0.2,x1.1,x1.2.1,x1.2.2),(a1,c1,a2,c2))
 intro _
 refine au [10] ?_
 exact qa ((x8,x18.1,x18.2.1,x18.2.2),(a9,c10,a19,c20))
 rintro ⟨⟨x33,x34,x37,x38⟩,⟨a31,c32,a35,c36⟩⟩
 try dsimp only
 refine av [75,18,82] ?_ ?_
 intro _
 refine au [12,9] ?_
 exact zU (a35,c36)
 intro _
 refine au [64] ?_
 refine qc (fun (((x51,x52,x55,x56),(a49,c50,a53,c54)):((qAE×Int×qAE×Bool)×(qAF×Nat×qAF×Nat)))=>([(0,.pointer (some ⟨g1,0,none⟩)),(1,qAG x7),(9,.pointer (some ⟨g17,0,none⟩)),(10,.slice a49 x51.length c50)],[⟨g1,183,[qAG x52,.slice a53 x55.length c54,.bool x56]⟩,⟨g17,26,[qAG x14,qAG x15,qAG x16]⟩],[Ro (eI .u8) 5 1 (.slice a53 x55.length c54) x55],[Sl (eI .i64) 1 (.slice a49 x51.length c50) x51],yu F x7 x16 x51 x52 x55 x56)) ?_ ?_
 refine av [59,93,77] ?_ ?_
 intro _
 refine au [68,60,93] ?_
 refine zr qp6 ?_
 rintro x4 e2 ⟨⟨a3,c3⟩,⟨a5,c4⟩⟩
 refine au [92,79,99,93,1] ?_
 refine zr qif ?_
 rintro x5 e3 ⟨a6,c6⟩
 refine au [0,33,12] ?_
 exact qa ((x4.2,x5.1,x5.2.1,x5.2.2),(a5,c4,a6,c6))
 intro _
 refine au [10] ?_
 exact qa ((x33,x34,x37,x38),(a31,c32,a35,c36))
 rintro ⟨⟨x51,x52,x55,x56⟩,⟨a49,c50,a53,c54⟩⟩
 try dsimp only
 refine qc (fun (((x76,x77,x80),(g75,a78,c79)):((Bool×Int×qAE)×(Nat×qAF×Nat)))=>([(0,.pointer (some ⟨g1,0,none⟩)),(13,.pointer (some ⟨g75,0,none⟩)),(14,.bool x76)],[⟨g1,183,[qAG x52,.slice a53 x55.length c54,.bool x56]⟩,⟨g75,65,[qAG x77,.slice a78 x80.length c79]⟩],[Ro (eI .u8) 5 1 (.slice a53 x55.length c54) x55,Ro (eI .u8) 5 1 (.slice a78 x80.length c79) x80],[],yv F x52 x55 x56 x76 x77 x80)) ?_ ?_
 refine qu mixed [] [⟨g1,183,[qAG x52,.slice a53 x55.length c54,.bool x56]⟩,⟨g17,26,[qAG x14,qAG x15,qAG x16]⟩] [Sl (eI .i64) 1 (.slice a49 x51.length c50) x51] (.cons 0 rfl (.cons 0 rfl .nil)) (qx 0 rfl qr) 13 rfl (qn 0 (.agg #[qAG 0,.slice none 0 0]) rfl rfl rfl (qcR (cells:=[qAG 0,.slice none 0 0]) st65 rfl (by kernel_rfl)) ?_)
 refine au [6,1,6,2,24,2,4,26,11,5] ?_
 refine qeM 3 10 rfl rfl (by kernel_rfl) rfl rfl ?_ ?_
 refine au [30,8] ?_
 rintro x85 e85 ⟨a86,c87⟩
 refine au [159] ?_
 refine qeM 6 10 rfl rfl (by kernel_rfl) rfl rfl ?_ ?_
 refine au [29,1,31,1] ?_
 rintro x88 e88 ⟨a89,c90⟩
 refine au [159,6,7,171,21,10,24,12] ?_
 intro g91
 refine au [0,27,13,21,11,134,27,13,6,12,24,3] ?_
 exact qy (qa ((x88.2.2,x88.1,x88.2.1),(g91,a89,c90))) (by intro c h;cases h)
 refine qeN (m':=((qdm F 0 ([]:qAE) x85 x16).bind fun x93=>yv F x52 x55 x56 x93.2.2 x93.1 x93.2.1)) (rfl) ?_
 refine au [24,12] ?_
 intro g92
 refine au [0,27,13,21,6,29,1,31,1] ?_
 rintro x93 e93 ⟨a94,c95⟩
 refine au [0,27,13,6,7,171,21,11,134,27,13,6,12,24,3] ?_
 exact qy (qa ((x93.2.2,x93.1,x93.2.1),(g92,a94,c95))) (by intro c h;cases h)
 refine qeN (m':=((qec F x51 x7).bind fun x97=>((qdm F 0 ([]:qAE) x97 x16).bind fun x9=>yv F x52 x55 x56 x9.2.2 x9.1 x9.2.1))) (rfl) ?_
 refine au [24,12] ?_
 intro g96
 refine au [0,27,13,21,3,30,8] ?_
 rintro x97 e97 ⟨a98,c99⟩
 refine au [0,27,13,21,6,29,1,31,1] ?_
 rintro x9 e4 ⟨a7,c7⟩
 refine au [0,27,13,6,7,171,21,11,134,27,13,6,12,24,3] ?_
 exact qy (qa ((x9.2.2,x9.1,x9.2.1),(g96,a7,c7))) (by intro c h;cases h)
 rintro ⟨⟨x76,x77,x80⟩,⟨g75,a78,c79⟩⟩
 try dsimp only
 refine au [69,125,1] ?_
 refine qC 3 x56 [(0,.pointer (some ⟨g1,0,none⟩)),(13,.pointer (some ⟨g75,0,none⟩)),(64,.pointer (some ⟨g1,0,none⟩)),(72,.bool (x56 || (!x76)))] (fun h81=>?_) (fun h81=>?_) ?_
 refine qb (os:=_) rfl (qp (k:=69) rfl h81 ?_)
 refine au [132] ?_
 refine qd (d:=72) (v:=.bool (x56 || (!x76))) rfl (by rw[h81];simp only[qyg]) ?_
 exact az [67]
 refine qb (os:=_) rfl (qo (k:=69) rfl h81 ?_)
 refine au [1,25,3,24,8] ?_
 refine qd (d:=72) (v:=.bool (x56 || (!x76))) rfl (by rw[h81];simp only[qyd]) ?_
 exact az [67]
 refine qb (os:=_) rfl ?_
 refine au [98,84,88,25,9,33,4] ?_
 rintro x82 e82 ⟨a83,c84⟩
 refine au [0] ?_
 exact zU (a83,c84)
theorem qni {F:Nat}{x1:Int}{x2:qAE}{a3:qAF}{c4:Nat}{x5:Int}{x6:Int}{x7:Int}{r:Int}(hm:qff F x1 x2 x5 x6 x7=some r) :
    Pure Tryz.prog 118 [qAG x1,.slice a3 x2.length c4,.agg #[qAG x5,qAG x6,qAG x7]] [Sl (eI .i64) 1 (.slice a3 x2.length c4) x2] Unit (fun _=>qAG r) (fun _=>[]) (fun _=>[]):=by
 refine qk Tryz.func118 rfl Tryz.ntmps118 rfl hm (fun w=>?_)
 refine au [120] ?_
 intro g8
 refine au [58,75,23,1] ?_
 refine qC 3 (decide (x1<0)) [(1,.slice a3 x2.length c4),(5,.pointer (some ⟨g8,0,none⟩)),(12,.bool ((decide (x1<0)) || (decide (1048576<x1))))] (fun h11=>?_) (fun h11=>?_) ?_
 refine qb (os:=_) rfl (qp (k:=9) rfl h11 ?_)
 refine au [132] ?_
 refine qd (d:=12) (v:=.bool ((decide (x1<0)) || (decide (1048576<x1)))) rfl (by rw[h11];simp only[qyg]) ?_
 exact az [67]
 refine qb (os:=_) rfl (qo (k:=9) rfl h11 ?_)
 refine au [1,80] ?_
 refine qd (d:=12) (v:=.bool ((decide (x1<0)) || (decide (1048576<x1)))) rfl (by rw[h11];simp only[qyd]) ?_
 exact az [67]
 refine qb (os:=_) rfl ?_
 refine av [63] ?_ ?_
 intro _
 exact az [59,96]
 intro _
 refine av [90,116,77] ?_ ?_
 intro _
 refine au [60,29,9] ?_
 intro x14 e14 _
 exact az [96]
 intro _
 exact az [64,59,95]
set_option maxHeartbeats 4000000 in
theorem qnh {F:Nat}{x1:Int}{x2:qAE}{a3:qAF}{c4:Nat}{x5:qAE}{a6:qAF}{c7:Nat}{x8:Int}{x9:Int}{x10:Int}{r:(Int×qAE×Int)}(hm:qfe F x1 x2 x5 x8 x9 x10=some r) :
    Pure Tryz.prog 102 [qAG x1,.slice a3 x2.length c4,.slice a6 x5.length c7,.agg #[qAG x8,qAG x9,qAG x10]] [Sl (eI .i64) 1 (.slice a3 x2.length c4) x2,Sl (eI .i64) 1 (.slice a6 x5.length c7) x5] (qAF×Nat) (fun g=>.tuple #[.agg #[qAG r.1,.slice g.1 r.2.1.length g.2],qAG r.2.2]) (fun g=>[Ro (eI .u8) 5 1 (.slice g.1 r.2.1.length g.2) r.2.1]) (fun _=>[]):=by
 refine qk Tryz.func102 rfl Tryz.ntmps102 rfl hm (fun w=>?_)
 refine au [28,0,72] ?_
 intro g11
 refine au [24,12] ?_
 intro g12
 refine au [58,119,31,2] ?_
 intro x13 e13 _
 refine au [58] ?_
 refine qc (fun ((x19,_):(Int×Unit))=>([(0,qAG x1),(1,.slice a3 x2.length c4),(2,.slice a6 x5.length c7),(7,.pointer (some ⟨g11,0,none⟩)),(8,.pointer (some ⟨g12,0,none⟩)),(10,qAG x19)],[⟨g12,65,[qAG 0,.slice none 0 0]⟩,⟨g11,26,[qAG x8,qAG x9,qAG x10]⟩],[],[Sl (eI .i64) 1 (.slice a3 x2.length c4) x2,Sl (eI .i64) 1 (.slice a6 x5.length c7) x5],jh F x1 x2 x5 x8 x9 x10 x19)) ?_ ?_
 refine au [60,144] ?_
 refine qU 7 (fun ((x40,_):(Bool×Unit))=>([(0,qAG x1),(1,.slice a3 x2.length c4),(2,.slice a6 x5.length c7),(7,.pointer (some ⟨g11,0,none⟩)),(8,.pointer (some ⟨g12,0,none⟩)),(10,qAG x13),(23,.bool x40)],[⟨g12,65,[qAG 0,.slice none 0 0]⟩,⟨g11,26,[qAG x8,qAG x9,qAG x10]⟩],[],[Sl (eI .i64) 1 (.slice a3 x2.length c4) x2,Sl (eI .i64) 1 (.slice a6 x5.length c7) x5],qa4 F x1 x2 x5 x8 x9 x10 x13 x40)) ?_ ?_
 refine qb (os:=_) rfl ?_
 refine av [25,10] ?_ ?_
 intro h38
 refine qp (k:=16) rfl h38 ?_
 refine au [1,23,1] ?_
 refine qC 3 (decide (x1<0)) [(0,qAG x1),(1,.slice a3 x2.length c4),(2,.slice a6 x5.length c7),(7,.pointer (some ⟨g11,0,none⟩)),(8,.pointer (some ⟨g12,0,none⟩)),(10,qAG x13),(16,.bool true),(22,.bool ((decide (x1<0)) || (decide (1048576<x1))))] (fun h42=>?_) (fun h42=>?_) ?_
 refine qb (os:=_) rfl (qp (k:=19) rfl h42 ?_)
 refine au [132] ?_
 refine qd (d:=22) (v:=.bool ((decide (x1<0)) || (decide (1048576<x1)))) rfl (by rw[h42];simp only[qyg]) ?_
 exact az [67]
 refine qb (os:=_) rfl (qo (k:=19) rfl h42 ?_)
 refine au [1,80] ?_
 refine qd (d:=22) (v:=.bool ((decide (x1<0)) || (decide (1048576<x1)))) rfl (by rw[h42];simp only[qyd]) ?_
 exact az [67]
 refine qb (os:=_) rfl ?_
 refine au [97] ?_
 exact qa (((decide (x1<0)) || (decide (1048576<x1))),())
 intro h38
 refine qo (k:=16) rfl h38 ?_
 refine au [76,71,117] ?_
 exact qa (false,())
 rintro ⟨x40,_⟩
 try dsimp only
 refine qb (os:=_) rfl ?_
 refine av [63] ?_ ?_
 intro _
 refine au [4,5,0] ?_
 exact qa ((3:Int),())
 intro _
 refine au [10] ?_
 exact qa (x13,())
 rintro ⟨x19,_⟩
 try dsimp only
 refine qc (fun ((x22,_):(Int×Unit))=>([(0,qAG x1),(1,.slice a3 x2.length c4),(2,.slice a6 x5.length c7),(7,.pointer (some ⟨g11,0,none⟩)),(8,.pointer (some ⟨g12,0,none⟩)),(10,qAG x22)],[⟨g12,65,[qAG 0,.slice none 0 0]⟩,⟨g11,26,[qAG x8,qAG x9,qAG x10]⟩],[],[Sl (eI .i64) 1 (.slice a3 x2.length c4) x2,Sl (eI .i64) 1 (.slice a6 x5.length c7) x5],ji F x1 x2 x5 x8 x9 x10 x22)) ?_ ?_
 refine av [60,82] ?_ ?_
 intro _
 refine au [88,29,9] ?_
 intro x36 e36 _
 refine au [5,0] ?_
 exact qa (x36,())
 intro _
 refine au [10] ?_
 exact qa (x19,())
 rintro ⟨x22,_⟩
 try dsimp only
 refine qc (fun ((x25,_):(Int×Unit))=>([(0,qAG x1),(1,.slice a3 x2.length c4),(2,.slice a6 x5.length c7),(7,.pointer (some ⟨g11,0,none⟩)),(8,.pointer (some ⟨g12,0,none⟩)),(10,qAG x25)],[⟨g12,65,[qAG 0,.slice none 0 0]⟩,⟨g11,26,[qAG x8,qAG x9,qAG x10]⟩],[],[Sl (eI .i64) 1 (.slice a3 x2.length c4) x2,Sl (eI .i64) 1 (.slice a6 x5.length c7) x5],qa3 F x1 x2 x5 x8 x9 x10 x25)) ?_ ?_
 refine av [60,82] ?_ ?_
 intro _
 refine au [99,25,9] ?_
 refine qg qni ?_
 intro x34 e34 _
 refine au [5,0] ?_
 exact qa (x34,())
 intro _
 refine au [10] ?_
 exact qa (x22,())
 rintro ⟨x25,_⟩
 try dsimp only
 refine av [75,85] ?_ ?_
 intro _
 refine au [59] ?_
 refine qq (cells:=[qAG 0,.slice none 0 0]) rfl st65 rfl (by kernel_rfl) rfl ?_
 refine au [1,24,10,74,26,8] ?_
 exact qv (none,0) (resL (rs:=[.cell 8 65,.tmp 9]) rfl (.cell (i:=0) rfl tf65 rfl rfl (by simp) rfl (.tmp rfl ResOk.nil)) rfl) (fun h=>by subst h;exact (.cons 0 rfl .nil))
 intro _
 refine au [64,59] ?_
 refine qq (cells:=[qAG 0,.slice none 0 0,.bool false]) rfl st183 rfl (by kernel_rfl) rfl ?_
 refine au [24,9] ?_
 intro g27
 refine au [58,69,1,1,26,13,29,1,33,13] ?_
 rintro x28 e28 ⟨a29,c30⟩
 refine av [57,75,125,63] ?_ ?_
 intro _
 refine au [59] ?_
 refine qq (cells:=[qAG 0,.slice none 0 0]) rfl st65 rfl (by kernel_rfl) rfl ?_
 refine au [25,7,74,26,8] ?_
 exact qv (none,0) (resL (rs:=[.cell 8 65,.tmp 9]) rfl (.cell (i:=1) rfl tf65 rfl rfl (by simp) rfl (.tmp rfl ResOk.nil)) rfl) (fun h=>by subst h;exact (.cons 0 rfl .nil))
 intro _
 refine au [64,60,98,25,4,25,7,61] ?_
 exact qv (a29,c30) (resL (rs:=[.cell 8 65,.tmp 9]) rfl (.cell (i:=1) rfl tf65 rfl rfl (by simp) rfl (.tmp rfl ResOk.nil)) rfl) (fun h=>by subst h;exact (.cons 0 rfl .nil))
set_option maxHeartbeats 4000000 in
theorem qoD {F:Nat}{x1:List (qAE)}{a2:qAF}{c3:Nat}{s3:List (qAF×Nat)}{x4:qAE}{a5:qAF}{c6:Nat}{x7:Int}{x8:Int}{x9:Int}{x10:Int}{r:(Int×Int×qAE×Bool)}(hm:qfX F x1 x4 x7 x8 x9 x10=some r) :
    Pure Tryz.prog 90 [.slice a2 x1.length c3,.slice a5 x4.length c6,qAG x7,.agg #[qAG x8,qAG x9,qAG x10]] [SlN eN59 iN59 1 (.slice a2 x1.length c3) x1 s3,Sl (eI .i64) 1 (.slice a5 x4.length c6) x4] (qAF×Nat) (fun g=>.tuple #[.agg #[qAG r.1,qAG r.2.1,.slice g.1 r.2.2.1.length g.2],.bool r.2.2.2]) (fun g=>[Ro (eI .u8) 5 1 (.slice g.1 r.2.2.1.length g.2) r.2.2.1]) (fun _=>[]):=by
 refine qk Tryz.func90 rfl Tryz.ntmps90 rfl hm (fun w=>?_)
 refine au [28,0,72] ?_
 intro g11
 refine au [24,12] ?_
 intro g12
 refine au [58,169,58,59] ?_
 refine qq (cells:=[qAG 0,.slice none 0 0]) rfl st65 rfl (by kernel_rfl) rfl ?_
 refine au [24,12] ?_
 intro g13
 refine au [84] ?_
 refine qc (fun (((x18,x21),(a19,c20)):((Int×qAE)×(qAF×Nat)))=>([(0,.slice a2 x1.length c3),(1,.slice a5 x4.length c6),(2,qAG x7),(7,.pointer (some ⟨g11,0,none⟩)),(8,.pointer (some ⟨g12,0,none⟩)),(10,qAG (x1.length:Int)),(11,.pointer (some ⟨g13,0,none⟩))],[⟨g13,65,[qAG x18,.slice a19 x21.length c20]⟩,⟨g12,140,[qAG 0,qAG 0,.slice none 0 0]⟩,⟨g11,26,[qAG x8,qAG x9,qAG x10]⟩],[Ro (eI .u8) 5 1 (.slice a19 x21.length c20) x21],[SlN eN59 iN59 1 (.slice a2 x1.length c3) x1 s3,Sl (eI .i64) 1 (.slice a5 x4.length c6) x4],qbY F x1 x4 x7 x9 x10 x18 x21)) ?_ ?_
 refine av [59,13,27,0,77] ?_ ?_
 intro _
 refine au [88,24,11,33,3] ?_
 rintro x46 e46 ⟨a47,c48⟩
 refine au [134] ?_
 exact qa ((x46.1,x46.2),(a47,c48))
 intro _
 refine au [10,26,8] ?_
 exact qa (((0:Int),([]:qAE)),(none,0))
 rintro ⟨⟨x18,x21⟩,⟨a19,c20⟩⟩
 try dsimp only
 refine au [68] ?_
 refine qc (fun ((x29,(a27,c28)):(qAE×(qAF×Nat)))=>([(1,.slice a5 x4.length c6),(2,qAG x7),(7,.pointer (some ⟨g11,0,none⟩)),(8,.pointer (some ⟨g12,0,none⟩)),(10,qAG (x1.length:Int)),(11,.pointer (some ⟨g13,0,none⟩)),(12,.slice a27 x29.length c28)],[⟨g13,65,[qAG x18,.slice a19 x21.length c20]⟩,⟨g12,140,[qAG 0,qAG 0,.slice none 0 0]⟩,⟨g11,26,[qAG x8,qAG x9,qAG x10]⟩],[Ro (eI .u8) 5 1 (.slice a19 x21.length c20) x21],[Sl (eI .i64) 1 (.slice a5 x4.length c6) x4,Sl (eI .i64) 1 (.slice a27 x29.length c28) x29],qbZ F x1 x4 x7 x9 x10 x18 x21 x29)) ?_ ?_
 refine av [60,77] ?_ ?_
 intro _
 refine au [99,103,27,5] ?_
 intro x41 e41 g44 b42 o43
 refine au [24,14,5,0] ?_
 exact qa (x41,(g44.1,g44.2))
 intro _
 refine au [10,25,2,33,14] ?_
 exact qa (([]:qAE),(none,0))
 rintro ⟨x29,⟨a27,c28⟩⟩
 try dsimp only
 refine au [60,13,25,14,57,69,1,26,13] ?_
 refine qg qnh ?_
 rintro x30 e30 ⟨a31,c32⟩
 refine au [92,24,12] ?_
 intro g33
 refine au [167,75,25,1,1] ?_
 refine qC 7 ((x30.2.2:Int) != 0) [(2,qAG x7),(8,.pointer (some ⟨g12,0,none⟩)),(11,.pointer (some ⟨g13,0,none⟩)),(13,.pointer (some ⟨g33,0,none⟩)),(51,.bool (((x30.2.2:Int) != 0) || (decide (8192<(iadd .i64 x18 x30.1)))))] (fun h36=>?_) (fun h36=>?_) ?_
 refine qb (os:=_) rfl (qp (k:=44) rfl h36 ?_)
 refine au [76,132] ?_
 refine qd (d:=51) (v:=.bool (((x30.2.2:Int) != 0) || (decide (8192<(iadd .i64 x18 x30.1))))) rfl (by rw[h36];simp only[qyg]) ?_
 exact az [67]
 refine qb (os:=_) rfl (qo (k:=44) rfl h36 ?_)
 refine au [93,62,16,80] ?_
 refine qd (d:=51) (v:=.bool (((x30.2.2:Int) != 0) || (decide (8192<(iadd .i64 x18 x30.1))))) rfl (by rw[h36];simp only[qyd]) ?_
 exact az [67]
 refine qb (os:=_) rfl ?_
 refine av [63] ?_ ?_
 intro _
 refine au [59] ?_
 refine qq (cells:=[qAG 0,qAG 0,.slice none 0 0]) rfl st140 rfl (by kernel_rfl) rfl ?_
 refine au [25,14,74,26,8] ?_
 exact qv (none,0) (resL (rs:=[.cell 8 140,.tmp 9]) rfl (.cell (i:=2) rfl tf140 rfl rfl (by simp) rfl (.tmp rfl ResOk.nil)) rfl) (fun h=>by subst h;exact (.cons 0 rfl .nil))
 intro _
 refine au [64,60,25,9,25,4,30,0] ?_
 rintro x37 e37 ⟨a38,c39⟩
 refine qq (cells:=[qAG x7,qAG x37.1,.slice a38 x37.2.length c39]) rfl st140 rfl (by kernel_rfl) rfl ?_
 refine au [25,14,61] ?_
 exact qv (a38,c39) (resL (rs:=[.cell 8 140,.tmp 9]) rfl (.cell (i:=2) rfl tf140 rfl rfl (by simp) rfl (.tmp rfl ResOk.nil)) rfl) (fun h=>by subst h;exact (.cons 0 rfl .nil))
set_option maxHeartbeats 4000000 in
theorem qoC {F:Nat}{x1:List (qAE)}{a2:qAF}{c3:Nat}{s3:List (qAF×Nat)}{x4:qAE}{a5:qAF}{c6:Nat}{x7:Int}{x8:Int}{x9:Int}{r:(Int×Int×qAE×Bool)}(hm:qfW F x1 x4 x7 x8 x9=some r) :
    Pure Tryz.prog 78 [.slice a2 x1.length c3,.slice a5 x4.length c6,.agg #[qAG x7,qAG x8,qAG x9]] [SlN eN59 iN59 1 (.slice a2 x1.length c3) x1 s3,Sl (eI .i64) 1 (.slice a5 x4.length c6) x4] (qAF×Nat) (fun g=>.tuple #[.agg #[qAG r.1,qAG r.2.1,.slice g.1 r.2.2.1.length g.2],.bool r.2.2.2]) (fun g=>[Ro (eI .u8) 5 1 (.slice g.1 r.2.2.1.length g.2) r.2.2.1]) (fun _=>[]):=by
 refine qk Tryz.func78 rfl Tryz.ntmps78 rfl hm (fun w=>?_)
 refine au [120] ?_
 intro g10
 refine au [24,12] ?_
 intro g11
 refine au [58] ?_
 refine qc (fun (((x96,x97,x98,x0),(a99,c0)):((Bool×Int×Int×qAE)×(qAF×Nat)))=>([(6,.pointer (some ⟨g11,0,none⟩)),(7,.bool x96)],[⟨g11,140,[qAG x97,qAG x98,.slice a99 x0.length c0]⟩],[Ro (eI .u8) 5 1 (.slice a99 x0.length c0) x0],[],qfx F x96 x97 x98 x0)) ?_ ?_
 refine au [59,93,1,18,28,14,16,1,162,33,15] ?_
 refine qi (fun (((x2,x3,x5,x6,x10),(a0,c1)):((Bool×Int×Int×Int×qAE)×(qAF×Nat)))=>([(0,.slice a2 x1.length c3),(1,.slice a5 x4.length c6),(5,.pointer (some ⟨g10,0,none⟩)),(6,.pointer (some ⟨g11,0,none⟩)),(7,.bool x2),(16,qAG (iadd .i64 (imin x7 (x1.length:Int)) 1)),(17,qAG x3)],[⟨g11,140,[qAG x5,qAG x6,.slice a0 x10.length c1]⟩,⟨g10,26,[qAG x7,qAG x8,qAG x9]⟩],[Ro (eI .u8) 5 1 (.slice a0 x10.length c1) x10],[SlN eN59 iN59 1 (.slice a2 x1.length c3) x1 s3,Sl (eI .i64) 1 (.slice a5 x4.length c6) x4])) (fun k (s:((Bool×Int×Int×Int×qAE)×(qAF×Nat)))=>kq F x1 x4 x7 x8 x9 k s.1) ((false,0,0,0,([]:qAE)),(none,0)) F ?_
 intro k0
 rintro ⟨⟨x2,x3,x5,x6,x10⟩,⟨a0,c1⟩⟩
 try dsimp only
 refine qm (m':=qdb F x1 x4 x7 x8 x9 (kq F x1 x4 x7 x8 x9 k0) x2 x3 x5 x6 x10) rfl ?_
 refine av [140] ?_ ?_
 intro _
 refine au [64] ?_
 refine qc (fun (((x11,x12,x13,x14),(a1,c2)):((Bool×Int×Int×qAE)×(qAF×Nat)))=>([(0,.slice a2 x1.length c3),(1,.slice a5 x4.length c6),(5,.pointer (some ⟨g10,0,none⟩)),(6,.pointer (some ⟨g11,0,none⟩)),(7,.bool x11),(16,qAG (iadd .i64 (imin x7 (x1.length:Int)) 1)),(17,qAG x3)],[⟨g11,140,[qAG x12,qAG x13,.slice a1 x14.length c2]⟩,⟨g10,26,[qAG x7,qAG x8,qAG x9]⟩],[Ro (eI .u8) 5 1 (.slice a1 x14.length c2) x14],[SlN eN59 iN59 1 (.slice a2 x1.length c3) x1 s3,Sl (eI .i64) 1 (.slice a5 x4.length c6) x4],vf F (kq F x1 x4 x7 x8 x9 k0) x3 x11 x12 x13 x14)) ?_ ?_
 refine au [14,60,58,69,1,25,9] ?_
 refine qg qoD ?_
 rintro x15 e0 ⟨a3,c4⟩
 refine au [92,24,12] ?_
 intro g0
 refine au [167,69] ?_
 refine qU 12 (fun ((x16,_):(Bool×Unit))=>([(0,.slice a2 x1.length c3),(1,.slice a5 x4.length c6),(5,.pointer (some ⟨g10,0,none⟩)),(6,.pointer (some ⟨g11,0,none⟩)),(7,.bool x2),(9,.pointer (some ⟨g0,0,none⟩)),(16,qAG (iadd .i64 (imin x7 (x1.length:Int)) 1)),(17,qAG x3),(41,.bool x16)],[⟨g0,140,[qAG x15.1,qAG x15.2.1,.slice a3 x15.2.2.1.length c4]⟩,⟨g11,140,[qAG x5,qAG x6,.slice a0 x10.length c1]⟩,⟨g10,26,[qAG x7,qAG x8,qAG x9]⟩],[Ro (eI .u8) 5 1 (.slice a3 x15.2.2.1.length c4) x15.2.2.1,Ro (eI .u8) 5 1 (.slice a0 x10.length c1) x10],[SlN eN59 iN59 1 (.slice a2 x1.length c3) x1 s3,Sl (eI .i64) 1 (.slice a5 x4.length c6) x4],qdc F (kq F x1 x4 x7 x8 x9 k0) x2 x3 x5 x6 x10 x15 x16)) ?_ ?_
 refine qb (os:=_) rfl ?_
 refine av [25,10] ?_ ?_
 intro h0
 refine qp (k:=29) rfl h0 ?_
 refine au [1,25,3,1] ?_
 refine qC 8 (!x2) [(0,.slice a2 x1.length c3),(1,.slice a5 x4.length c6),(5,.pointer (some ⟨g10,0,none⟩)),(6,.pointer (some ⟨g11,0,none⟩)),(7,.bool x2),(16,qAG (iadd .i64 (imin x7 (x1.length:Int)) 1)),(17,qAG x3),(9,.pointer (some ⟨g0,0,none⟩)),(29,.bool true),(30,.bool x2),(31,.bool (!x2)),(32,.bool (!x2)),(40,.bool ((!x2) || (decide (x15.2.1<x6))))] (fun h1=>?_) (fun h1=>?_) ?_
 refine qb (os:=_) rfl (qp (k:=32) rfl h1 ?_)
 refine au [76,71,174] ?_
 refine qd (d:=40) (v:=.bool ((!x2) || (decide (x15.2.1<x6)))) rfl (by rw[h1];simp only[qyg]) (qd (d:=32) (v:=.bool (!x2)) rfl (by rw[h1] <;> rfl) ?_)
 exact az [67]
 refine qb (os:=_) rfl (qo (k:=32) rfl h1 ?_)
 refine au [13,62,13,93,23,24,8] ?_
 refine qd (d:=40) (v:=.bool ((!x2) || (decide (x15.2.1<x6)))) rfl (by rw[h1];simp only[qyd]) (qd (d:=32) (v:=.bool (!x2)) rfl (by rw[h1] <;> rfl) ?_)
 exact az [67]
 refine qb (os:=_) rfl ?_
 refine au [97] ?_
 exact qa (((!x2) || (decide (x15.2.1<x6))),())
 intro h0
 refine qo (k:=29) rfl h0 ?_
 refine au [76,76,71,7,117] ?_
 exact qa (false,())
 rintro ⟨x16,_⟩
 try dsimp only
 refine qb (os:=_) rfl ?_
 refine av [63] ?_ ?_
 intro _
 refine au [4,25,4,25,7,172] ?_
 exact qa ((true,x15.1,x15.2.1,x15.2.2.1),(a3,c4))
 intro _
 refine au [157] ?_
 exact qa ((x2,x5,x6,x10),(a0,c1))
 rintro ⟨⟨x11,x12,x13,x14⟩,⟨a1,c2⟩⟩
 try dsimp only
 refine au [4,16,1,0] ?_
 exact qh ((x11,iadd .i64 x3 1,x12,x13,x14),(a1,c2))
 intro _
 refine au [73] ?_
 exact qa ((x2,x5,x6,x10),(a0,c1))
 rintro ⟨⟨x96,x97,x98,x0⟩,⟨a99,c0⟩⟩
 try dsimp only
 refine au [124,1,24,10,61] ?_
 exact qv (a99,c0) (resL (rs:=[.cell 6 140,.tmp 7]) rfl (.cell (i:=0) rfl tf140 rfl rfl (by simp) rfl (.tmp rfl ResOk.nil)) rfl) (fun h=>by subst h;exact (.cons 0 rfl .nil))
set_option maxHeartbeats 4000000 in
theorem qh8 {F:Nat}{g1:Nat}{x2:Int}{x3:Int}{x4:Int}{x5:Int}{x6:Int}{x7:qAE}{a8:qAF}{c9:Nat}{x10:qAE}{a11:qAF}{c12:Nat}{x13:qAE}{a14:qAF}{c15:Nat}{x16:List (qAE)}{a17:qAF}{c18:Nat}{s18:List (qAF×Nat)}{r:(Bool×Int×Int×Int×Int×Int×qAE×qAE×qAE)}(hm:qdo F x2 x3 x4 x5 x6 x7 x10 x13 x16=some r) :
    PureM Tryz.prog 61 [.pointer (some ⟨g1,0,none⟩),.agg #[.slice a17 x16.length c18]] [⟨g1,107,[qAG x2,qAG x3,qAG x4,qAG x5,qAG x6,.slice a8 x7.length c9,.slice a11 x10.length c12,.slice a14 x13.length c15]⟩] [Ro (eI .u8) 5 1 (.slice a8 x7.length c9) x7,Ro (eI .i64) 3 1 (.slice a11 x10.length c12) x10,Ro (eI .i64) 3 1 (.slice a14 x13.length c15) x13] [SlN eN59 iN59 1 (.slice a17 x16.length c18) x16 s18] ((qAF×Nat)×(qAF×Nat)×(qAF×Nat)) (fun _=>.bool r.1) (fun g=>[⟨g1,107,[qAG r.2.1,qAG r.2.2.1,qAG r.2.2.2.1,qAG r.2.2.2.2.1,qAG r.2.2.2.2.2.1,.slice g.1.1 r.2.2.2.2.2.2.1.length g.1.2,.slice g.2.1.1 r.2.2.2.2.2.2.2.1.length g.2.1.2,.slice g.2.2.1 r.2.2.2.2.2.2.2.2.length g.2.2.2]⟩]) (fun g=>[Ro (eI .u8) 5 1 (.slice g.1.1 r.2.2.2.2.2.2.1.length g.1.2) r.2.2.2.2.2.2.1,Ro (eI .i64) 3 1 (.slice g.2.1.1 r.2.2.2.2.2.2.2.1.length g.2.1.2) r.2.2.2.2.2.2.2.1,Ro (eI .i64) 3 1 (.slice g.2.2.1 r.2.2.2.2.2.2.2.2.length g.2.2.2) r.2.2.2.2.2.2.2.2]):=by
 refine zZ Tryz.func61 rfl Tryz.ntmps61 rfl hm (fun w=>?_)
 refine au [155] ?_
 intro g19
 refine au [58] ?_
 refine qc (fun (((x0,x1,x8,x9),(a0,c0,a1,c1,a2,c2)):((Int×qAE×qAE×qAE)×(qAF×Nat×qAF×Nat×qAF×Nat)))=>([],[⟨g1,107,[qAG x2,qAG x3,qAG x4,qAG x5,qAG x0,.slice a0 x1.length c0,.slice a1 x8.length c1,.slice a2 x9.length c2]⟩],[Ro (eI .u8) 5 1 (.slice a0 x1.length c0) x1,Ro (eI .i64) 3 1 (.slice a1 x8.length c1) x8,Ro (eI .i64) 3 1 (.slice a2 x9.length c2) x9],[],qaJ F x2 x3 x4 x5 x0 x1 x8 x9)) ?_ ?_
 refine au [116,18,1,162] ?_
 refine qi (fun (((x11,x12,x14,x15,x17),(a3,c3,a4,c4,a5,c5)):((Int×Int×qAE×qAE×qAE)×(qAF×Nat×qAF×Nat×qAF×Nat)))=>([(0,.pointer (some ⟨g1,0,none⟩)),(3,.pointer (some ⟨g19,0,none⟩)),(10,.slice a17 x16.length c18),(11,qAG (x16.length:Int)),(12,qAG x11)],[⟨g19,24,[.slice a17 x16.length c18]⟩,⟨g1,107,[qAG x2,qAG x3,qAG x4,qAG x5,qAG x12,.slice a3 x14.length c3,.slice a4 x15.length c4,.slice a5 x17.length c5]⟩],[Ro (eI .u8) 5 1 (.slice a3 x14.length c3) x14,Ro (eI .i64) 3 1 (.slice a4 x15.length c4) x15,Ro (eI .i64) 3 1 (.slice a5 x17.length c5) x17],[SlN eN59 iN59 1 (.slice a17 x16.length c18) x16 s18])) (fun k (s:((Int×Int×qAE×qAE×qAE)×(qAF×Nat×qAF×Nat×qAF×Nat)))=>qO F x2 x3 x4 x5 x16 k s.1) ((0,x6,x7,x10,x13),(a8,c9,a11,c12,a14,c15)) F ?_
 intro k0
 rintro ⟨⟨x11,x12,x14,x15,x17⟩,⟨a3,c3,a4,c4,a5,c5⟩⟩
 try dsimp only
 refine qm (m':=vj F x2 x3 x4 x5 x16 (qO F x2 x3 x4 x5 x16 k0) x11 x12 x14 x15 x17) rfl ?_
 refine av [140] ?_ ?_
 intro _
 refine au [91,60,27,5] ?_
 intro x18 e0 g0 b0 o0
 refine au [24,14,79] ?_
 refine qc (fun (((x19,x20,x21,x22),(g2,a6,c6)):((Bool×Int×Int×qAE)×(Nat×qAF×Nat)))=>([(0,.pointer (some ⟨g1,0,none⟩)),(3,.pointer (some ⟨g19,0,none⟩)),(7,.pointer (some ⟨g2,0,none⟩)),(8,.bool x19),(10,.slice a17 x16.length c18),(11,qAG (x16.length:Int)),(12,qAG x11)],[⟨g19,24,[.slice a17 x16.length c18]⟩,⟨g1,107,[qAG x2,qAG x3,qAG x4,qAG x5,qAG x12,.slice a3 x14.length c3,.slice a4 x15.length c4,.slice a5 x17.length c5]⟩,⟨g2,140,[qAG x20,qAG x21,.slice a6 x22.length c6]⟩],[Ro (eI .u8) 5 1 (.slice a3 x14.length c3) x14,Ro (eI .i64) 3 1 (.slice a4 x15.length c4) x15,Ro (eI .i64) 3 1 (.slice a5 x17.length c5) x17,Ro (eI .u8) 5 1 (.slice a6 x22.length c6) x22],[SlN eN59 iN59 1 (.slice a17 x16.length c18) x16 s18],vk F (qO F x2 x3 x4 x5 x16 k0) x2 x3 x4 x5 x11 x12 x14 x15 x17 x19 x20 x21 x22)) ?_ ?_
 refine qsN 2 kL rfl ?_
 intro x23 e1 a7 c7 g3 h0 h1
 refine qu mixed [] [⟨g19,24,[.slice a17 x16.length c18]⟩,⟨g1,107,[qAG x2,qAG x3,qAG x4,qAG x5,qAG x12,.slice a3 x14.length c3,.slice a4 x15.length c4,.slice a5 x17.length c5]⟩] [SlN eN59 iN59 1 (.slice a7 x23.length c7) x23 g3,qz b0 o0 (eN59 (x18,g0)),Sl (eI .i64) 1 (.slice g0.1 x18.length g0.2) x18,SlN eN59 iN59 1 (.slice a17 x16.length c18) x16 s18] (.cons 0 rfl (.cons 0 rfl .nil)) (qx 0 rfl (qx 1 rfl (qx 2 rfl (qx 3 rfl qr)))) 17 rfl ?_
 refine au [24,2,0,25,8,1,6,2] ?_
 refine qn 3 (.slice a7 x23.length c7) rfl rfl rfl (qk9 Tryz.underlying22 tf59 rfl rfl rfl e1 h1 h0) ?_
 refine au [118,6,6,24,2,7,24,2,8] ?_
 refine qK 9 (.agg #[qAG x3,qAG x4,qAG x5]) rfl rfl rfl (qH (i:=1) rfl tf26 rfl rfl (by simp) rfl) (qeM 10 14 rfl rfl (by kernel_rfl) rfl rfl ?_ ?_)
 refine au [34,0] ?_
 rintro x24 e2 ⟨a9,c8⟩
 refine au [0,31,3,6,11,123,21,14,24,12] ?_
 intro g4
 refine au [0,29,10,21,15,134,29,10,6,16,24,3] ?_
 exact qy (qa ((x24.2.2.2,x24.1,x24.2.1,x24.2.2.1),(g4,a9,c8))) (by intro c h;cases h)
 refine qeN (m':=((qfW F x23 x18 x3 x4 x5).bind fun x25=>vk F (qO F x2 x3 x4 x5 x16 k0) x2 x3 x4 x5 x11 x12 x14 x15 x17 x25.2.2.2 x25.1 x25.2.1 x25.2.2.1)) (rfl) ?_
 refine au [24,12] ?_
 intro g5
 refine au [0,29,10,21,10,34,0] ?_
 rintro x25 e3 ⟨a10,c10⟩
 refine au [0,29,10,6,11,123,21,15,134,29,10,6,16,24,3] ?_
 exact qy (qa ((x25.2.2.2,x25.1,x25.2.1,x25.2.2.1),(g5,a10,c10))) (by intro c h;cases h)
 rintro ⟨⟨x19,x20,x21,x22⟩,⟨g2,a6,c6⟩⟩
 try dsimp only
 refine au [3] ?_
 refine qc (fun ((x26,_):(Bool×Unit))=>([(0,.pointer (some ⟨g1,0,none⟩)),(3,.pointer (some ⟨g19,0,none⟩)),(7,.pointer (some ⟨g2,0,none⟩)),(10,.slice a17 x16.length c18),(11,qAG (x16.length:Int)),(12,qAG x11),(45,.bool x26)],[⟨g19,24,[.slice a17 x16.length c18]⟩,⟨g1,107,[qAG x2,qAG x3,qAG x4,qAG x5,qAG x12,.slice a3 x14.length c3,.slice a4 x15.length c4,.slice a5 x17.length c5]⟩,⟨g2,140,[qAG x20,qAG x21,.slice a6 x22.length c6]⟩],[Ro (eI .u8) 5 1 (.slice a3 x14.length c3) x14,Ro (eI .i64) 3 1 (.slice a4 x15.length c4) x15,Ro (eI .i64) 3 1 (.slice a5 x17.length c5) x17,Ro (eI .u8) 5 1 (.slice a6 x22.length c6) x22],[SlN eN59 iN59 1 (.slice a17 x16.length c18) x16 s18],k7 F (qO F x2 x3 x4 x5 x16 k0) x2 x3 x4 x5 x11 x12 x14 x15 x17 x20 x21 x22 x26)) ?_ ?_
 refine av [26,15] ?_ ?_
 intro h2
 refine qu mixed [] [⟨g19,24,[.slice a17 x16.length c18]⟩,⟨g1,107,[qAG x2,qAG x3,qAG x4,qAG x5,qAG x12,.slice a3 x14.length c3,.slice a4 x15.length c4,.slice a5 x17.length c5]⟩,⟨g2,140,[qAG x20,qAG x21,.slice a6 x22.length c6]⟩] [SlN eN59 iN59 1 (.slice a17 x16.length c18) x16 s18] (.cons 0 rfl (.cons 0 rfl (.cons 0 rfl .nil))) (qx 0 rfl qr) 15 rfl ?_
 refine au [113] ?_
 refine qf (d:=33) (v:=.bool true) rfl (by rw[h2] <;> rfl) ?_
 refine au [11,3,11,4,11,5,11,6,11,7,141,112,105,6,14,24,3] ?_
 exact qy (qa (true,())) (by intro c h;cases h)
 intro h2
 refine qu mixed [] [⟨g19,24,[.slice a17 x16.length c18]⟩,⟨g1,107,[qAG x2,qAG x3,qAG x4,qAG x5,qAG x12,.slice a3 x14.length c3,.slice a4 x15.length c4,.slice a5 x17.length c5]⟩,⟨g2,140,[qAG x20,qAG x21,.slice a6 x22.length c6]⟩] [SlN eN59 iN59 1 (.slice a17 x16.length c18) x16 s18] (.cons 0 rfl (.cons 0 rfl (.cons 0 rfl .nil))) (qx 0 rfl qr) 15 rfl ?_
 refine au [113] ?_
 refine qf (d:=33) (v:=.bool false) rfl (by rw[h2] <;> rfl) ?_
 refine au [6,3,6,4,24,2,5,24,2,6,24,2,7,26,11,8,24,2,9,24,2,10,29,0,11,123,6,14,24,3] ?_
 exact qy (qa ((decide (8192<(iadd .i64 x12 x21))),())) (by intro c h;cases h)
 rintro ⟨x26,_⟩
 try dsimp only
 refine av [8] ?_ ?_
 intro _
 refine au [59,158,78] ?_
 exact zU ((a3,c3),(a4,c4),(a5,c5))
 intro _
 refine au [64] ?_
 refine qc (fun (((x27,x28),(a12,c11,a13,c13)):((qAE×qAE)×(qAF×Nat×qAF×Nat)))=>([(0,.pointer (some ⟨g1,0,none⟩)),(3,.pointer (some ⟨g19,0,none⟩)),(7,.pointer (some ⟨g2,0,none⟩)),(10,.slice a17 x16.length c18),(11,qAG (x16.length:Int)),(12,qAG x11)],[⟨g19,24,[.slice a17 x16.length c18]⟩,⟨g1,107,[qAG x2,qAG x3,qAG x4,qAG x5,qAG x12,.slice a3 x14.length c3,.slice a12 x27.length c11,.slice a13 x28.length c13]⟩,⟨g2,140,[qAG x20,qAG x21,.slice a6 x22.length c6]⟩],[Ro (eI .u8) 5 1 (.slice a3 x14.length c3) x14,Ro (eI .i64) 3 1 (.slice a12 x27.length c11) x27,Ro (eI .i64) 3 1 (.slice a13 x28.length c13) x28,Ro (eI .u8) 5 1 (.slice a6 x22.length c6) x22],[SlN eN59 iN59 1 (.slice a17 x16.length c18) x16 s18],k8 F (qO F x2 x3 x4 x5 x16 k0) x11 x12 x14 x21 x22 x27 x28)) ?_ ?_
 refine qu mixed [24,27] [⟨g19,24,[.slice a17 x16.length c18]⟩,⟨g2,140,[qAG x20,qAG x21,.slice a6 x22.length c6]⟩] [SlN eN59 iN59 1 (.slice a17 x16.length c18) x16 s18,(BlkD.is ⟨g1,107,[qAG x2,qAG x3,qAG x4,qAG x5,qAG x12,.slice a3 x14.length c3,.slice a4 x15.length c4,.slice a5 x17.length c5]⟩)] (.cons 0 rfl (.cons 1 rfl .nil)) (qx 0 rfl (qjO 1 rfl qr)) 28 rfl ?_
 refine au [113,6,3,24,2,4] ?_
 refine qI 5 (.slice a4 x15.length c4) [[24],[27]] rfl rfl rfl (qa7 (j:=1) rfl tf59 rfl rfl (fun _=>rfl) rfl) ?_
 refine au [24,2,6,26,11,7,154,24,2,12] ?_
 refine qI 13 (.slice a5 x17.length c5) [[24],[27]] rfl rfl rfl (qa7 (j:=1) rfl tf59 rfl rfl (fun _=>rfl) rfl) ?_
 refine au [6,14,6,15,24,2,16,24,2,17,24,2,18] ?_
 refine qI 19 (qAG x12) [[24],[27]] rfl rfl rfl (qa7 (j:=1) rfl tf3 rfl rfl (fun _=>rfl) rfl) (qeM 8 20 rfl rfl (by kernel_rfl) rfl rfl ?_ ?_)
 refine qt (vs:=[qAG x20]) (ys:=([x20]:qAE)) (ql .i64) (by decide) rfl Tryz.underlying59 tf3 rfl rfl rfl rfl rfl (by decide) (fun a15 c14=>?_)
 refine au [0,27,1] ?_
 refine qeM 9 20 rfl rfl (by kernel_rfl) rfl rfl ?_ ?_
 refine qB 2 (ql .i64) rfl Tryz.underlying59 tf3 rfl rfl rfl rfl rfl (.inl ⟨0,_,rfl⟩) rfl rfl (fun x29 e4 a16 c16=>?_)
 refine au [0,27,1,21,20] ?_
 refine qt (vs:=[qAG x12]) (ys:=([x12]:qAE)) (ql .i64) (by decide) rfl Tryz.underlying59 tf3 rfl rfl rfl rfl rfl (by decide) (fun a18 c17=>?_)
 refine au [0,27,1,21,21] ?_
 refine qB 4 (ql .i64) rfl Tryz.underlying59 tf3 rfl rfl rfl rfl rfl (.inl ⟨0,_,rfl⟩) rfl rfl (fun x30 e5 a19 c19=>?_)
 refine au [0,27,1,6,22,24,2,23,21,24,25,7,0,29,2,6,25,24,2,26,21,27,25,7,0,29,2,24,3] ?_
 exact qy (qa ((x29,x30),(a16,c16,a19,c19))) (by intro c h;cases h)
 refine qeN (m':=((app 8796093022208 x15 ([x20]:qAE)).bind fun x31=>((app 8796093022208 x17 ([x12]:qAE)).bind fun x32=>k8 F (qO F x2 x3 x4 x5 x16 k0) x11 x12 x14 x21 x22 x31 x32))) (rfl) (qt (vs:=[qAG x12]) (ys:=([x12]:qAE)) (ql .i64) (by decide) rfl Tryz.underlying59 tf3 rfl rfl rfl rfl rfl (by decide) (fun a20 c20=>?_))
 refine au [0,27,1,21,9] ?_
 refine qB 3 (ql .i64) rfl Tryz.underlying59 tf3 rfl rfl rfl rfl rfl (.inl ⟨1,_,rfl⟩) rfl rfl (fun x31 e6 a21 c21=>?_)
 refine au [0,27,1,21,21] ?_
 refine qB 4 (ql .i64) rfl Tryz.underlying59 tf3 rfl rfl rfl rfl rfl (.inl ⟨1,_,rfl⟩) rfl rfl (fun x32 e7 a22 c22=>?_)
 refine au [0,27,1,6,22,24,2,23,21,24,25,7,0,29,2,6,25,24,2,26,21,27,25,7,0,29,2,24,3] ?_
 exact qy (qa ((x31,x32),(a21,c21,a22,c22))) (by intro c h;cases h)
 refine qeN (m':=((app 8796093022208 x15 ([x20]:qAE)).bind fun x33=>((app 8796093022208 x17 ([x12]:qAE)).bind fun x34=>k8 F (qO F x2 x3 x4 x5 x16 k0) x11 x12 x14 x21 x22 x33 x34))) (rfl) (qt (vs:=[qAG x12]) (ys:=([x12]:qAE)) (ql .i64) (by decide) rfl Tryz.underlying59 tf3 rfl rfl rfl rfl rfl (by decide) (fun a23 c23=>?_))
 refine au [0,27,1,21,8] ?_
 refine qt (vs:=[qAG x20]) (ys:=([x20]:qAE)) (ql .i64) (by decide) rfl Tryz.underlying59 tf3 rfl rfl rfl rfl rfl (by decide) (fun a24 c24=>?_)
 refine au [0,27,1,21,9] ?_
 refine qB 3 (ql .i64) rfl Tryz.underlying59 tf3 rfl rfl rfl rfl rfl (.inl ⟨0,_,rfl⟩) rfl rfl (fun x33 e8 a25 c25=>?_)
 refine au [0,27,1,21,21] ?_
 refine qB 4 (ql .i64) rfl Tryz.underlying59 tf3 rfl rfl rfl rfl rfl (.inl ⟨2,_,rfl⟩) rfl rfl (fun x34 e9 a26 c26=>?_)
 refine au [0,27,1,6,22,24,2,23,21,24,25,7,0,29,2,6,25,24,2,26,21,27,25,7,0,29,2,24,3] ?_
 exact qy (qa ((x33,x34),(a25,c25,a26,c26))) (by intro c h;cases h)
 rintro ⟨⟨x27,x28⟩,⟨a12,c11,a13,c13⟩⟩
 try dsimp only
 refine qu mixed [12] [⟨g19,24,[.slice a17 x16.length c18]⟩,⟨g2,140,[qAG x20,qAG x21,.slice a6 x22.length c6]⟩] [SlN eN59 iN59 1 (.slice a17 x16.length c18) x16 s18,(BlkD.is ⟨g1,107,[qAG x2,qAG x3,qAG x4,qAG x5,qAG x12,.slice a3 x14.length c3,.slice a12 x27.length c11,.slice a13 x28.length c13]⟩)] (.cons 0 rfl (.cons 1 rfl .nil)) (qx 0 rfl (qjO 1 rfl qr)) 13 rfl ?_
 refine au [113,24,2,3,24,2,4] ?_
 refine qI 5 (.agg #[qAG x12,.slice a3 x14.length c3]) [[12]] rfl rfl rfl (qa7 (j:=1) rfl tf65 rfl rfl (by simp) rfl) ?_
 refine au [24,2,6] ?_
 refine qK 7 (.agg #[qAG x21,.slice a6 x22.length c6]) rfl rfl rfl (qH (i:=1) rfl tf65 rfl rfl (by simp) rfl) ?_
 refine au [21,8,30,0] ?_
 rintro x35 e10 ⟨a27,c27⟩
 refine au [0,27,1,6,9,24,2,10,24,2,11,21,12,25,7,0] ?_
 refine qeU 12 rfl (by kernel_rfl) (.cons 0 rfl (.cons 1 rfl .nil)) ?_
 refine au [24,3] ?_
 refine qy ?_ (by intro c h;cases h)
 refine au [22,2,4,16,1,0] ?_
 exact qh ((iadd .i64 x11 1,x35.1,x35.2,x27,x28),(a27,c27,a12,c11,a13,c13))
 intro _
 refine au [73] ?_
 exact qa ((x12,x14,x15,x17),(a3,c3,a4,c4,a5,c5))
 rintro ⟨⟨x0,x1,x8,x9⟩,⟨a0,c0,a1,c1,a2,c2⟩⟩
 try dsimp only
 refine au [59,61] ?_
 exact zU ((a0,c0),(a1,c1),(a2,c2))
set_option maxHeartbeats 4000000 in
theorem qlB {F:Nat}{x1:List (qAE)}{a2:qAF}{c3:Nat}{s3:List (qAF×Nat)}{x4:Int}{x5:Int}{x6:Int}{r:(Int×Int×Int×Int×Int×qAE×qAE×qAE×Int)}(hm:qeG F x1 x4 x5 x6=some r) :
    PureM Tryz.prog 46 [.agg #[.slice a2 x1.length c3],.agg #[qAG x4,qAG x5,qAG x6]] [] [] [SlN eN59 iN59 1 (.slice a2 x1.length c3) x1 s3] ((qAF×Nat)×(qAF×Nat)×(qAF×Nat)×Nat) (fun g=>.tuple #[.pointer (some ⟨g.2.2.2,0,none⟩),qAG r.2.2.2.2.2.2.2.2]) (fun g=>[⟨g.2.2.2,107,[qAG r.1,qAG r.2.1,qAG r.2.2.1,qAG r.2.2.2.1,qAG r.2.2.2.2.1,.slice g.1.1 r.2.2.2.2.2.1.length g.1.2,.slice g.2.1.1 r.2.2.2.2.2.2.1.length g.2.1.2,.slice g.2.2.1.1 r.2.2.2.2.2.2.2.1.length g.2.2.1.2]⟩]) (fun g=>[Ro (eI .u8) 5 1 (.slice g.1.1 r.2.2.2.2.2.1.length g.1.2) r.2.2.2.2.2.1,Ro (eI .i64) 3 1 (.slice g.2.1.1 r.2.2.2.2.2.2.1.length g.2.1.2) r.2.2.2.2.2.2.1,Ro (eI .i64) 3 1 (.slice g.2.2.1.1 r.2.2.2.2.2.2.2.1.length g.2.2.1.2) r.2.2.2.2.2.2.2.1]):=by
 refine zZ Tryz.func46 rfl Tryz.ntmps46 rfl hm (fun w=>?_)
 refine au [155] ?_
 intro g7
 refine au [24,9] ?_
 intro g8
 refine au [79,119,31,4] ?_
 intro x9 e9 _
 refine au [58] ?_
 refine qc (fun ((x12,_):(Int×Unit))=>([(2,.pointer (some ⟨g7,0,none⟩)),(3,.pointer (some ⟨g8,0,none⟩)),(6,qAG x12)],[⟨g8,26,[qAG x4,qAG x5,qAG x6]⟩,⟨g7,24,[.slice a2 x1.length c3]⟩],[],[SlN eN59 iN59 1 (.slice a2 x1.length c3) x1 s3],qaj F x1 x4 x5 x6 x12)) ?_ ?_
 refine av [60,82] ?_ ?_
 intro _
 refine au [4,25,4,31,2] ?_
 intro x97 e97 _
 refine au [5,0] ?_
 exact qa (x97,())
 intro _
 refine au [10] ?_
 exact qa (x9,())
 rintro ⟨x12,_⟩
 try dsimp only
 refine au [59,93,18,25,4] ?_
 refine qq (cells:=[qAG (x1.length:Int),qAG x4,qAG x5,qAG x6,qAG 0,.slice none 0 0]) rfl st75 rfl (by kernel_rfl) rfl (qq (cells:=[qAG (x1.length:Int),qAG x4,qAG x5,qAG x6,qAG 0,.slice none 0 0,.slice none 0 0,.slice none 0 0]) rfl st107 rfl (by kernel_rfl) rfl ?_)
 refine au [24,9] ?_
 intro g13
 refine au [58] ?_
 refine qc (fun (((x48,x49,x50,x51,x52,x53,x56,x59,x62),(a54,c55,a57,c58,a60,c61)):((Int×Int×Int×Int×Int×Int×qAE×qAE×qAE)×(qAF×Nat×qAF×Nat×qAF×Nat)))=>([(6,qAG x48),(7,.pointer (some ⟨g13,0,none⟩))],[⟨g13,107,[qAG x49,qAG x50,qAG x51,qAG x52,qAG x53,.slice a54 x56.length c55,.slice a57 x59.length c58,.slice a60 x62.length c61]⟩],[Ro (eI .u8) 5 1 (.slice a54 x56.length c55) x56,Ro (eI .i64) 3 1 (.slice a57 x59.length c58) x59,Ro (eI .i64) 3 1 (.slice a60 x62.length c61) x62],[],vE F x48 x49 x50 x51 x52 x53 x56 x59 x62)) ?_ ?_
 refine au [60,144] ?_
 refine qU 5 (fun (((x74,x75,x76,x77,x78,x79,x82,x85,x88),(a80,c81,a83,c84,a86,c87)):((Bool×Int×Int×Int×Int×Int×qAE×qAE×qAE)×(qAF×Nat×qAF×Nat×qAF×Nat)))=>([(6,qAG x12),(7,.pointer (some ⟨g13,0,none⟩)),(28,.bool x74)],[⟨g13,107,[qAG x75,qAG x76,qAG x77,qAG x78,qAG x79,.slice a80 x82.length c81,.slice a83 x85.length c84,.slice a86 x88.length c87]⟩],[Ro (eI .u8) 5 1 (.slice a80 x82.length c81) x82,Ro (eI .i64) 3 1 (.slice a83 x85.length c84) x85,Ro (eI .i64) 3 1 (.slice a86 x88.length c87) x88],[],vF F x12 x74 x75 x76 x77 x78 x79 x82 x85 x88)) ?_ ?_
 refine qb (os:=_) rfl ?_
 refine av [25,10] ?_ ?_
 intro h63
 refine qp (k:=23) rfl h63 ?_
 refine au [1,26,13,29,1,27,14,27,14] ?_
 refine zr qh8 ?_
 rintro x90 e90 ⟨⟨a91,c92⟩,⟨a93,c94⟩,⟨a95,c96⟩⟩
 refine au [25,3,97] ?_
 exact qa (((!x90.1),x90.2.1,x90.2.2.1,x90.2.2.2.1,x90.2.2.2.2.1,x90.2.2.2.2.2.1,x90.2.2.2.2.2.2.1,x90.2.2.2.2.2.2.2.1,x90.2.2.2.2.2.2.2.2),(a91,c92,a93,c94,a95,c96))
 intro h63
 refine qo (k:=23) rfl h63 ?_
 refine au [76,117,26,8,25,2,25,2] ?_
 exact qa ((false,(x1.length:Int),x4,x5,x6,(0:Int),([]:qAE),([]:qAE),([]:qAE)),(none,0,none,0,none,0))
 rintro ⟨⟨x74,x75,x76,x77,x78,x79,x82,x85,x88⟩,⟨a80,c81,a83,c84,a86,c87⟩⟩
 try dsimp only
 refine qb (os:=_) rfl ?_
 refine av [63] ?_ ?_
 intro _
 refine au [4,5,0] ?_
 exact qa (((8:Int),x75,x76,x77,x78,x79,x82,x85,x88),(a80,c81,a83,c84,a86,c87))
 intro _
 refine au [10] ?_
 exact qa ((x12,x75,x76,x77,x78,x79,x82,x85,x88),(a80,c81,a83,c84,a86,c87))
 rintro ⟨⟨x48,x49,x50,x51,x52,x53,x56,x59,x62⟩,⟨a54,c55,a57,c58,a60,c61⟩⟩
 try dsimp only
 refine au [69,5,61] ?_
 exact zU ((a54,c55),(a57,c58),(a60,c61),g13)
theorem qnc {F:Nat}{x1:List (qAE)}{a2:qAF}{c3:Nat}{s3:List (qAF×Nat)}{x4:Int}{x5:Int}{x6:Int}{r:(Int×Int×Int×Int×Int×qAE×Int)}(hm:qdT F x1 x4 x5 x6=some r) :
    Pure Tryz.prog 35 [.agg #[.slice a2 x1.length c3],.agg #[qAG x4,qAG x5,qAG x6]] [SlN eN59 iN59 1 (.slice a2 x1.length c3) x1 s3] (qAF×Nat) (fun g=>.tuple #[.agg #[qAG r.1,qAG r.2.1,qAG r.2.2.1,qAG r.2.2.2.1,qAG r.2.2.2.2.1,.slice g.1 r.2.2.2.2.2.1.length g.2],qAG r.2.2.2.2.2.2]) (fun g=>[Ro (eI .u8) 5 1 (.slice g.1 r.2.2.2.2.2.1.length g.2) r.2.2.2.2.2.1]) (fun _=>[]):=by
 refine qk Tryz.func35 rfl Tryz.ntmps35 rfl hm (fun w=>?_)
 refine au [155] ?_
 intro g7
 refine au [24,9] ?_
 intro g8
 refine au [24,12] ?_
 intro g9
 refine au [58,59,26,13,25,9] ?_
 refine zr qlB ?_
 rintro x10 e10 ⟨⟨a11,c12⟩,⟨a13,c14⟩,⟨a15,c16⟩,g17⟩
 refine av [92,114,85] ?_ ?_
 intro _
 refine au [59] ?_
 refine qq (cells:=[qAG 0,qAG 0,qAG 0,qAG 0,qAG 0,.slice none 0 0]) rfl st75 rfl (by kernel_rfl) rfl ?_
 refine au [1,25,7,74,26,8] ?_
 exact qv (none,0) (resL (rs:=[.cell 4 75,.tmp 5]) rfl (.cell (i:=1) rfl tf75 rfl rfl (by simp) rfl (.tmp rfl ResOk.nil)) rfl) (fun h=>by subst h;exact (.cons 0 rfl .nil))
 intro _
 refine au [64,60,98,25,4,25,7,61] ?_
 exact qv (a11,c12) (resL (rs:=[.cell 4 75,.tmp 5]) rfl (.cell (i:=1) rfl tf75 rfl rfl (by simp) rfl (.tmp rfl ResOk.nil)) rfl) (fun h=>by subst h;exact (.cons 0 rfl .nil))
set_option maxHeartbeats 4000000 in
theorem qjL {F:Nat}{x1:List (qAE)}{a2:qAF}{c3:Nat}{s3:List (qAF×Nat)}{x4:Int}{x5:Int}{x6:Int}{r:(qAE×Int)}(hm:qc9 F x1 x4 x5 x6=some r) :
    Pure Tryz.prog 20 [.agg #[.slice a2 x1.length c3],.agg #[qAG x4,qAG x5,qAG x6]] [SlN eN59 iN59 1 (.slice a2 x1.length c3) x1 s3] (qAF×Nat) (fun g=>.tuple #[.slice g.1 r.1.length g.2,qAG r.2]) (fun g=>[Ro (eI .u8) 5 1 (.slice g.1 r.1.length g.2) r.1]) (fun _=>[]):=by
 refine qk Tryz.func20 rfl Tryz.ntmps20 rfl hm (fun w=>?_)
 refine au [155] ?_
 intro g7
 refine au [24,9] ?_
 intro g8
 refine au [79,119,25,4,34,1] ?_
 rintro x9 e9 ⟨a10,c11⟩
 refine au [92,24,12] ?_
 intro g12
 refine av [167,75,85] ?_ ?_
 intro _
 refine au [60,5,74,26,8] ?_
 exact qj (none,0)
 intro _
 refine au [64,59] ?_
 refine qjk (vs:=[.int .u8 76,.int .u8 87]) (ys:=([76,87]:qAE)) (ql .u8) (by decide) rfl Tryz.underlying27 tf5 rfl rfl rfl rfl rfl (by decide) (by decide) (fun g14=>?_)
 refine au [30,7] ?_
 refine qt (vs:=[.int .u8 2]) (ys:=([2]:qAE)) (ql .u8) (by decide) rfl Tryz.underlying27 tf5 rfl rfl rfl rfl rfl (by decide) (fun a15 c16=>qi0 0 rfl Tryz.underlying27 tf5 rfl rfl rfl rfl rfl (.inl ⟨0,_,rfl⟩) (by decide) rfl rfl (fun x17 e17 a18 c19=>?_))
 refine au [58] ?_
 refine qc (fun ((x71,(a69,c70)):(qAE×(qAF×Nat)))=>([(6,.pointer (some ⟨g12,0,none⟩)),(8,.slice a69 x71.length c70)],[⟨g12,75,[qAG x9.1,qAG x9.2.1,qAG x9.2.2.1,qAG x9.2.2.2.1,qAG x9.2.2.2.2.1,.slice a10 x9.2.2.2.2.2.1.length c11]⟩],[Ro (eI .u8) 5 1 (.slice a69 x71.length c70) x71,Ro (eI .u8) 5 1 (.slice a10 x9.2.2.2.2.2.1.length c11) x9.2.2.2.2.2.1],[],qdn F x9 x71)) ?_ ?_
 refine au [116,93,93,93,13,62] ?_
 refine qt (vs:=[qAG x9.1,qAG x4,qAG x5,qAG x6,qAG x9.2.2.2.2.1]) (ys:=([x9.1,x4,x5,x6,x9.2.2.2.2.1]:qAE)) (ql .i64) (by decide) rfl Tryz.underlying59 tf3 rfl rfl rfl rfl rfl (by decide) (fun a75 c76=>?_)
 refine au [18,1,162] ?_
 refine qi (fun (((x93,x94),(a91,c92)):((qAE×Int)×(qAF×Nat)))=>([(6,.pointer (some ⟨g12,0,none⟩)),(8,.slice a91 x93.length c92),(35,.slice a75 ([x9.1,x4,x5,x6,x9.2.2.2.2.1]:qAE).length c76),(36,qAG (([x9.1,x4,x5,x6,x9.2.2.2.2.1]:qAE).length:Int)),(37,qAG x94)],[⟨g12,75,[qAG x9.1,qAG x9.2.1,qAG x9.2.2.1,qAG x9.2.2.2.1,qAG x9.2.2.2.2.1,.slice a10 x9.2.2.2.2.2.1.length c11]⟩],[Ro (eI .u8) 5 1 (.slice a91 x93.length c92) x93,Ro (eI .i64) 3 1 (.slice a75 ([x9.1,x4,x5,x6,x9.2.2.2.2.1]:qAE).length c76) ([x9.1,x4,x5,x6,x9.2.2.2.2.1]:qAE),Ro (eI .u8) 5 1 (.slice a10 x9.2.2.2.2.2.1.length c11) x9.2.2.2.2.2.1],[])) (fun k (s:((qAE×Int)×(qAF×Nat)))=>zR F x4 x5 x6 x9 k s.1) ((x17,0),(a18,c19)) F ?_
 intro k0
 rintro ⟨⟨x93,x94⟩,⟨a91,c92⟩⟩
 try dsimp only
 refine qm (m':=yB F x4 x5 x6 x9 (zR F x4 x5 x6 x9 k0) x93 x94) rfl ?_
 refine av [140] ?_ ?_
 intro _
 refine au [91,59,30,9] ?_
 intro x0 e0 g0 h0
 refine qaq (j:=1) (y:=x0) (ql .i64) rfl rfl tf3 rfl h0 (qF e0).2.2 (fun _=>rfl) rfl rfl ?_
 refine au [58,99,24,11,28,13] ?_
 rintro x2 e1 ⟨a0,c0⟩
 refine au [173,4,16,1,0] ?_
 exact qh ((x2,iadd .i64 x94 1),(a0,c0))
 intro _
 refine au [73] ?_
 exact qa (x93,(a91,c92))
 rintro ⟨x71,⟨a69,c70⟩⟩
 try dsimp only
 refine au [60,13,62] ?_
 refine qB 0 (ql .u8) rfl Tryz.underlying27 tf5 rfl rfl rfl rfl rfl (.inl ⟨1,_,rfl⟩) rfl rfl (fun x72 e72 a73 c74=>?_)
 refine au [5,61] ?_
 exact qj (a73,c74)
set_option maxHeartbeats 4000000 in
theorem qoy {F:Nat}{x1:List (qAE)}{a2:qAF}{c3:Nat}{s3:List (qAF×Nat)}{x4:Int}{x5:Int}{x6:Int}{x7:Int}{r:(qAE×Int)}(hm:qdv F x1 x4 x5 x6 x7=some r) :
    Pure Tryz.prog 10 [.agg #[.slice a2 x1.length c3],qAG x4,.agg #[qAG x5,qAG x6,qAG x7]] [SlN eN59 iN59 1 (.slice a2 x1.length c3) x1 s3] (qAF×Nat) (fun g=>.tuple #[.slice g.1 r.1.length g.2,qAG r.2]) (fun g=>[Ro (eI .u8) 5 1 (.slice g.1 r.1.length g.2) r.1]) (fun _=>[]):=by
 refine qk Tryz.func10 rfl Tryz.ntmps10 rfl hm (fun w=>?_)
 refine au [120] ?_
 intro g8
 refine au [24,9] ?_
 intro g9
 refine au [79,119,31,4] ?_
 intro x10 e10 _
 refine au [58] ?_
 refine qc (fun (((x22,x23),(a20,c21)):((qAE×Int)×(qAF×Nat)))=>([(6,.slice a20 x22.length c21),(7,qAG x23)],[],[Ro (eI .u8) 5 1 (.slice a20 x22.length c21) x22],[],k6 F x22 x23)) ?_ ?_
 refine av [14,60,25,1,58,8] ?_ ?_
 intro _
 refine au [157,26,8] ?_
 exact qa ((([]:qAE),x10),(none,0))
 intro _
 refine av [60,24,15,58,8] ?_ ?_
 intro _
 refine au [4,25,9] ?_
 refine qg qjM ?_
 rintro x31 e31 ⟨a32,c33⟩
 refine au [172] ?_
 exact qa ((x31,x10),(a32,c33))
 intro _
 refine av [60,24,15,58,8] ?_ ?_
 intro _
 refine au [4,25,9,25,4] ?_
 refine qg qjL ?_
 rintro x34 e34 ⟨a35,c36⟩
 refine au [92,5,172] ?_
 exact qa ((x34.1,x34.2),(a35,c36))
 intro _
 refine au [4,172,26,8] ?_
 exact qa ((([]:qAE),(3:Int)),(none,0))
 rintro ⟨⟨x22,x23⟩,⟨a20,c21⟩⟩
 try dsimp only
 refine qc (fun ((x26,_):(Int×Unit))=>([(6,.slice a20 x22.length c21),(7,qAG x26)],[],[Ro (eI .u8) 5 1 (.slice a20 x22.length c21) x22],[],qbX F x22 x26)) ?_ ?_
 refine au [60,144] ?_
 refine qC 4 ((x23:Int) == 0) [(6,.slice a20 x22.length c21),(7,qAG x23),(33,.bool (((x23:Int) == 0) && (decide (4096<(x22.length:Int)))))] (fun h29=>?_) (fun h29=>?_) ?_
 refine qb (os:=_) rfl (qp (k:=29) rfl h29 ?_)
 refine au [1,18,24,4,24,7] ?_
 refine qd (d:=33) (v:=.bool (((x23:Int) == 0) && (decide (4096<(x22.length:Int))))) rfl (by rw[h29];simp only[qyt]) ?_
 exact az [67]
 refine qb (os:=_) rfl (qo (k:=29) rfl h29 ?_)
 refine au [71,7,24,8] ?_
 refine qd (d:=33) (v:=.bool (((x23:Int) == 0) && (decide (4096<(x22.length:Int))))) rfl (by rw[h29];simp only[qyj]) ?_
 exact az [67]
 refine qb (os:=_) rfl ?_
 refine av [63] ?_ ?_
 intro _
 refine au [4,5,0] ?_
 exact qa ((2:Int),())
 intro _
 refine au [10] ?_
 exact qa (x23,())
 rintro ⟨x26,_⟩
 try dsimp only
 refine av [75,85] ?_ ?_
 intro _
 refine au [60,5,74,26,8] ?_
 exact qj (none,0)
 intro _
 refine au [64,60,5,61] ?_
 exact qj (a20,c21)
set_option maxHeartbeats 4000000 in
theorem qlH {F:Nat}{x1:qAE}{a2:qAF}{c3:Nat}{x4:Int}{r:(Int×Int×Int)}(hm:qeK F x1 x4=some r) :
    Pure Tryz.prog 62 [.slice a2 x1.length c3,qAG x4] [Sl (eI .u8) 1 (.slice a2 x1.length c3) x1] Unit (fun _=>.tuple #[.int .u64 r.1,qAG r.2.1,qAG r.2.2]) (fun _=>[]) (fun _=>[]):=by
 refine qk Tryz.func62 rfl Tryz.ntmps62 rfl hm (fun w=>?_)
 refine au [25,0,94,79,168] ?_
 refine qi (fun (((x37,x38),_):((Int×Int)×Unit))=>([(0,.slice a2 x1.length c3),(1,qAG x4),(4,.int .u64 x37),(7,qAG x38)],[],[],[Sl (eI .u8) 1 (.slice a2 x1.length c3) x1])) (fun k (s:((Int×Int)×Unit))=>vG F x1 x4 k s.1) ((0,0),()) F ?_
 intro k71
 rintro ⟨⟨x37,x38⟩,_⟩
 try dsimp only
 refine qm (m':=qcz F x1 x4 (vG F x1 x4 k71) x37 x38) rfl ?_
 refine av [3,14,3,69,16,1,18,26,3,63] ?_ ?_
 intro _
 exact az [94,5,158,20,19]
 intro _
 refine au [64,69,1,16,28,6] ?_
 intro x89 e89 b90 o91
 refine au [143,3,14,60,144] ?_
 refine qC 3 ((x38:Int) == 9) [(0,.slice a2 x1.length c3),(1,qAG x4),(4,.int .u64 x37),(7,qAG x38),(8,.int .u8 x89),(29,.bool (((x38:Int) == 9) && (decide (1<x89))))] (fun h96=>?_) (fun h96=>?_) ?_
 refine qb (os:=_) rfl (qp (k:=26) rfl h96 ?_)
 refine au [1,24,4,24,7] ?_
 refine qd (d:=29) (v:=.bool (((x38:Int) == 9) && (decide (1<x89)))) rfl (by rw[h96];simp only[qyt]) ?_
 exact az [67]
 refine qb (os:=_) rfl (qo (k:=26) rfl h96 ?_)
 refine au [71,24,8] ?_
 refine qd (d:=29) (v:=.bool (((x38:Int) == 9) && (decide (1<x89)))) rfl (by rw[h96];simp only[qyj]) ?_
 exact az [67]
 refine qb (os:=_) rfl ?_
 refine av [58,8] ?_ ?_
 intro _
 exact az [94,5,61,78,78,9,20,19]
 intro _
 refine au [60,24,4,1] ?_
 refine qC 3 (decide (0<x38)) [(0,.slice a2 x1.length c3),(1,qAG x4),(4,.int .u64 x37),(7,qAG x38),(8,.int .u8 x89),(36,.bool ((decide (0<x38)) && ((x89:Int) == 0)))] (fun h97=>?_) (fun h97=>?_) ?_
 refine qb (os:=_) rfl (qp (k:=33) rfl h97 ?_)
 refine au [1,24,15,24,7] ?_
 refine qd (d:=36) (v:=.bool ((decide (0<x38)) && ((x89:Int) == 0))) rfl (by rw[h97];simp only[qyt]) ?_
 exact az [67]
 refine qb (os:=_) rfl (qo (k:=33) rfl h97 ?_)
 refine au [71,24,8] ?_
 refine qd (d:=36) (v:=.bool ((decide (0<x38)) && ((x89:Int) == 0))) rfl (by rw[h97];simp only[qyj]) ?_
 exact az [67]
 refine qb (os:=_) rfl ?_
 refine av [58,8] ?_ ?_
 intro _
 exact az [94,5,61,78,78,9,20,19]
 intro _
 refine au [157,2,69,29,4,24,11,1,27,2,26,6] ?_
 intro h98
 refine qcB rfl rfl rfl rfl h98 ?_
 refine au [30,6,5,26,1] ?_
 intro x99 e99
 refine qd (d:=4) (v:=.int .u64 x99) rfl (by rw[e99] <;> rfl) ?_
 refine av [57,60,83] ?_ ?_
 intro _
 exact az [69,1,16,86,5,61,78,9,20,19]
 intro _
 refine au [157,2,89,0] ?_
 exact qh ((x99,iadd .i64 x38 1),())
set_option maxHeartbeats 4000000 in
theorem qg5 {F:Nat}{g1:Nat}{x2:qAE}{a3:qAF}{c4:Nat}{x5:Int}{x6:Int}{x7:Bool}{x8:Int}{r:(Int×Int×Int×Bool)}(hm:qJ F x2 x5 x6 x7 x8=some r) :
    PureM Tryz.prog 47 [.pointer (some ⟨g1,0,none⟩),qAG x8] [⟨g1,80,[.slice a3 x2.length c4,qAG x5,qAG x6,.bool x7]⟩] [] [Sl (eI .u8) 1 (.slice a3 x2.length c4) x2] Unit (fun _=>qAG r.1) (fun _=>[⟨g1,80,[.slice a3 x2.length c4,qAG r.2.1,qAG r.2.2.1,.bool r.2.2.2]⟩]) (fun _=>[]):=by
 refine zZ Tryz.func47 rfl Tryz.ntmps47 rfl hm (fun w=>?_)
 refine au [102,3] ?_
 refine qu mixed [] [⟨g1,80,[.slice a3 x2.length c4,qAG x5,qAG x6,.bool x7]⟩] [Sl (eI .u8) 1 (.slice a3 x2.length c4) x2] (.cons 0 rfl .nil) (qx 0 rfl qr) 16 rfl ?_
 refine au [81,24,2,2,25,8,3,118,24,2,6,25,8,7,21,8] ?_
 refine qg qlH ?_
 intro x10 e10 _
 refine au [0,26,7,6,9,154,123,6,14,6,15,24,3] ?_
 refine qy ?_ (by intro c h;cases h)
 refine au [2,3,69,125,1] ?_
 refine qC 3 x7 [(0,.pointer (some ⟨g1,0,none⟩)),(1,qAG x8),(5,.int .u64 x10.1),(6,qAG x10.2.1),(21,.pointer (some ⟨g1,0,none⟩)),(29,.bool (x7 || ((x10.2.2:Int) != 0)))] (fun h14=>?_) (fun h14=>?_) ?_
 refine qb (os:=_) rfl (qp (k:=26) rfl h14 ?_)
 refine au [132] ?_
 refine qd (d:=29) (v:=.bool (x7 || ((x10.2.2:Int) != 0))) rfl (by rw[h14];simp only[qyg]) ?_
 exact az [67]
 refine qb (os:=_) rfl (qo (k:=26) rfl h14 ?_)
 refine au [1,25,1,24,8] ?_
 refine qd (d:=29) (v:=.bool (x7 || ((x10.2.2:Int) != 0))) rfl (by rw[h14];simp only[qyd]) ?_
 exact az [67]
 refine qb (os:=_) rfl ?_
 refine au [1] ?_
 refine qC 5 (x7 || ((x10.2.2:Int) != 0)) [(0,.pointer (some ⟨g1,0,none⟩)),(5,.int .u64 x10.1),(6,qAG x10.2.1),(21,.pointer (some ⟨g1,0,none⟩)),(35,.bool ((x7 || ((x10.2.2:Int) != 0)) || (decide ((iconv .u64 x8)<x10.1))))] (fun h15=>?_) (fun h15=>?_) ?_
 refine qb (os:=_) rfl (qp (k:=30) rfl h15 ?_)
 refine au [76,24,7] ?_
 refine qd (d:=35) (v:=.bool ((x7 || ((x10.2.2:Int) != 0)) || (decide ((iconv .u64 x8)<x10.1)))) rfl (by rw[h15];simp only[qyg]) ?_
 exact az [67]
 refine qb (os:=_) rfl (qo (k:=30) rfl h15 ?_)
 refine au [1,135,80] ?_
 refine qd (d:=35) (v:=.bool ((x7 || ((x10.2.2:Int) != 0)) || (decide ((iconv .u64 x8)<x10.1)))) rfl (by rw[h15];simp only[qyd]) ?_
 exact az [67]
 refine qb (os:=_) rfl ?_
 refine av [98,84,60,125,63] ?_ ?_
 intro _
 exact az [59,74,29,3]
 intro _
 exact az [64,69,98,84,60,125,16,98,84,60,24,11,61,29,3]
theorem qjN {F:Nat}{x1:Int}{r:Int}(hm:qa5 F x1=some r) :
    Pure Tryz.prog 94 [.int .u64 x1] [] Unit (fun _=>qAG r) (fun _=>[]) (fun _=>[]):=by
 refine qk Tryz.func94 rfl Tryz.ntmps94 rfl hm (fun w=>?_)
 refine au [126,60,28,4,24,11,1,29,4,24,11,34,2,32,10,5,26,1] ?_
 intro x2 e2
 refine qd (d:=2) (v:=qAG x2) rfl (by rw[e2] <;> rfl) ?_
 exact az [57,12,19]
set_option maxHeartbeats 4000000 in
theorem qh3 {F:Nat}{g1:Nat}{x2:Int}{x3:Bool}{x4:Int}{r:(Bool×Int×Bool)}(hm:kj F x2 x3 x4=some r) :
    PureM Tryz.prog 81 [.pointer (some ⟨g1,0,none⟩),.int .u64 x4] [⟨g1,101,[qAG x2,.bool x3]⟩] [] [] Unit (fun _=>.bool r.1) (fun _=>[⟨g1,101,[qAG r.2.1,.bool r.2.2]⟩]) (fun _=>[]):=by
 refine zZ Tryz.func81 rfl Tryz.ntmps81 rfl hm (fun w=>?_)
 refine av [102,75,77] ?_ ?_
 intro _
 exact az [59,74,29,3]
 intro _
 refine au [64] ?_
 refine qc (fun ((x8,_):(Int×Unit))=>([(0,.pointer (some ⟨g1,0,none⟩))],[⟨g1,101,[qAG x8,.bool x3]⟩],[],[],yo F x8)) ?_ ?_
 refine av [60,125,63] ?_ ?_
 intro _
 refine au [88,125,135,16,16,98,134] ?_
 exact qa (iadd .i64 x2 (iadd .i64 (iconv .i64 x4) 1),())
 intro _
 refine qu mixed [9] [] [(BlkD.is ⟨g1,101,[qAG x2,.bool x3]⟩)] .nil (qjO 0 rfl qr) 10 rfl ?_
 refine au [81,24,2,2] ?_
 refine qI 3 (qAG x2) [[9]] rfl rfl rfl (qa7 (j:=0) rfl tf3 rfl rfl (fun _=>rfl) rfl) ?_
 refine au [6,4,21,5,34,3] ?_
 intro x10 e10 _
 refine au [0,30,14,150,24,2,8,21,9,134] ?_
 refine qeU 9 rfl (by kernel_rfl) .nil ?_
 refine au [24,3] ?_
 exact qy (qa (iadd .i64 x2 x10,())) (by intro c h;cases h)
 rintro ⟨x8,_⟩
 try dsimp only
 refine au [60,98,84,60,125,30,13] ?_
 intro x9 e9 _
 exact az [61,29,3]
set_option maxHeartbeats 4000000 in
theorem qot {F:Nat}{x1:qAE}{a2:qAF}{c3:Nat}{x4:Int}{r:(qAE×Int)}(hm:qfS F x1 x4=some r) :
    Pure Tryz.prog 63 [.slice a2 x1.length c3,qAG x4] [Sl (eI .u64) 1 (.slice a2 x1.length c3) x1] (qAF×Nat) (fun g=>.tuple #[.slice g.1 r.1.length g.2,qAG r.2]) (fun g=>[Ro (eI .i64) 3 1 (.slice g.1 r.1.length g.2) r.1]) (fun _=>[]):=by
 refine qk Tryz.func63 rfl Tryz.ntmps63 rfl hm (fun w=>?_)
 refine av [25,0,59,79,3,14,169,24,4,58,8] ?_ ?_
 intro _
 refine au [94,61,131] ?_
 exact qj (none,0)
 intro _
 refine au [60,30,13] ?_
 intro x8 e8 _
 refine av [25,3,58,8] ?_ ?_
 intro _
 refine au [94,61,131] ?_
 exact qj (none,0)
 intro _
 refine au [157,2,60] ?_
 refine qq (cells:=[qAG x4,.bool false]) rfl st101 rfl (by kernel_rfl) rfl ?_
 refine au [24,9] ?_
 intro g9
 refine au [58,68] ?_
 refine qc (fun ((x97,(a95,c96)):(qAE×(qAF×Nat)))=>([(7,.slice a95 x97.length c96)],[],[Ro (eI .i64) 3 1 (.slice a95 x97.length c96) x97],[],qfu F x97)) ?_ ?_
 refine au [169,1,57,108] ?_
 refine qi (fun (((x0,x2,x3,x5),(a0,c0)):((qAE×Int×Int×Bool)×(qAF×Nat)))=>([(6,.pointer (some ⟨g9,0,none⟩)),(7,.slice a0 x0.length c0),(21,.slice a2 x1.length c3),(22,qAG (x1.length:Int)),(23,qAG x2)],[⟨g9,101,[qAG x3,.bool x5]⟩],[Ro (eI .i64) 3 1 (.slice a0 x0.length c0) x0],[Sl (eI .u64) 1 (.slice a2 x1.length c3) x1])) (fun k (s:((qAE×Int×Int×Bool)×(qAF×Nat)))=>qag F x1 k s.1) ((([]:qAE),0,x4,false),(none,0)) F ?_
 intro k0
 rintro ⟨⟨x0,x2,x3,x5⟩,⟨a0,c0⟩⟩
 try dsimp only
 refine qm (m':=qdL F x1 (qag F x1 k0) x0 x2 x3 x5) rfl ?_
 refine av [140] ?_ ?_
 intro _
 refine au [91,59,28,8] ?_
 intro x6 e0 b0 o0
 refine au [143,3,69,34,4] ?_
 intro x7 e1 _
 refine av [101] ?_ ?_
 intro _
 refine au [94,158,131] ?_
 exact qj (none,0)
 intro _
 refine au [64,99,125] ?_
 refine qt (vs:=[qAG x7.2.1]) (ys:=([x7.2.1]:qAE)) (ql .i64) (by decide) rfl Tryz.underlying59 tf3 rfl rfl rfl rfl rfl (by decide) (fun a1 c1=>qB 1 (ql .i64) rfl Tryz.underlying59 tf3 rfl rfl rfl rfl rfl (.inl ⟨0,_,rfl⟩) rfl rfl (fun x9 e2 a3 c2=>?_))
 refine au [173,4,16,1,0] ?_
 exact qh ((x9,iadd .i64 x2 1,x7.2.1,x7.2.2),(a3,c2))
 intro _
 refine au [73] ?_
 exact qa (x0,(a0,c0))
 rintro ⟨x97,⟨a95,c96⟩⟩
 try dsimp only
 refine au [60,5,61] ?_
 exact qj (a95,c96)
set_option maxHeartbeats 4000000 in
theorem qh7 {F:Nat}{g1:Nat}{x2:qAE}{a3:qAF}{c4:Nat}{x5:Int}{x6:Int}{x7:Bool}{x8:Int}{x9:Int}{r:(qAE×Int×Int×Bool)}(hm:kO F x2 x5 x6 x7 x8 x9=some r) :
    PureM Tryz.prog 48 [.pointer (some ⟨g1,0,none⟩),qAG x8,qAG x9] [⟨g1,80,[.slice a3 x2.length c4,qAG x5,qAG x6,.bool x7]⟩] [] [Sl (eI .u8) 1 (.slice a3 x2.length c4) x2] (qAF×Nat) (fun g=>.slice g.1 r.1.length g.2) (fun _=>[⟨g1,80,[.slice a3 x2.length c4,qAG r.2.1,qAG r.2.2.1,.bool r.2.2.2]⟩]) (fun g=>[Ro (eI .i64) 3 1 (.slice g.1 r.1.length g.2) r.1]):=by
 refine zZ Tryz.func48 rfl Tryz.ntmps48 rfl hm (fun w=>?_)
 refine au [25,15,68,68] ?_
 refine qc (fun (((x63,x64,x65,x66),(a61,c62)):((qAE×Int×Int×Bool)×(qAF×Nat)))=>([(0,.pointer (some ⟨g1,0,none⟩)),(1,qAG x8),(7,.slice a61 x63.length c62)],[⟨g1,80,[.slice a3 x2.length c4,qAG x64,qAG x65,.bool x66]⟩],[Ro (eI .u64) 58 1 (.slice a61 x63.length c62) x63],[Sl (eI .u8) 1 (.slice a3 x2.length c4) x2],zW F x8 x63 x64 x65 x66)) ?_ ?_
 refine au [69,28,1] ?_
 intro x71 e71 _
 refine au [1,162,29,14] ?_
 refine qi (fun (((x88,x89,x90,x91,x92),(a86,c87)):((qAE×Int×Int×Int×Bool)×(qAF×Nat)))=>([(0,.pointer (some ⟨g1,0,none⟩)),(1,qAG x8),(7,.slice a86 x88.length c87),(12,qAG x71.1),(13,qAG x89)],[⟨g1,80,[.slice a3 x2.length c4,qAG x90,qAG x91,.bool x92]⟩],[Ro (eI .u64) 58 1 (.slice a86 x88.length c87) x88],[Sl (eI .u8) 1 (.slice a3 x2.length c4) x2])) (fun k (s:((qAE×Int×Int×Int×Bool)×(qAF×Nat)))=>za F x2 x8 x71 k s.1) ((([]:qAE),0,x71.2.1,x71.2.2.1,x71.2.2.2),(none,0)) F ?_
 intro k0
 rintro ⟨⟨x88,x89,x90,x91,x92⟩,⟨a86,c87⟩⟩
 try dsimp only
 refine qm (m':=kF F x2 x8 x71 (za F x2 x8 x71 k0) x88 x89 x90 x91 x92) rfl ?_
 refine av [140] ?_ ?_
 intro _
 refine au [91,99,28,1] ?_
 intro x0 e0 _
 refine au [24,11] ?_
 refine qt (vs:=[.int .u64 (iconv .u64 x0.1)]) (ys:=([iconv .u64 x0.1]:qAE)) (ql .u64) (by decide) rfl Tryz.underlying60 tf58 rfl rfl rfl rfl rfl (by decide) (fun a0 c0=>qB 1 (ql .u64) rfl Tryz.underlying60 tf58 rfl rfl rfl rfl rfl (.inl ⟨0,_,rfl⟩) rfl rfl (fun x1 e1 a1 c1=>?_))
 refine au [173,4,16,1,0] ?_
 exact qh ((x1,iadd .i64 x89 1,x0.2.1,x0.2.2.1,x0.2.2.2),(a1,c1))
 intro _
 refine au [73] ?_
 exact qa ((x88,x90,x91,x92),(a86,c87))
 rintro ⟨⟨x63,x64,x65,x66⟩,⟨a61,c62⟩⟩
 try dsimp only
 refine au [69] ?_
 refine qg qot ?_
 rintro x67 e67 ⟨a68,c69⟩
 refine au [92,79,69,125,1] ?_
 refine qC 3 x66 [(8,.slice a68 x67.1.length c69),(28,.pointer (some ⟨g1,0,none⟩)),(36,.bool (x66 || ((x67.2:Int) != 0)))] (fun h70=>?_) (fun h70=>?_) ?_
 refine qb (os:=_) rfl (qp (k:=33) rfl h70 ?_)
 refine au [132] ?_
 refine qd (d:=36) (v:=.bool (x66 || ((x67.2:Int) != 0))) rfl (by rw[h70];simp only[qyg]) ?_
 exact az [67]
 refine qb (os:=_) rfl (qo (k:=33) rfl h70 ?_)
 refine au [1,25,1,24,8] ?_
 refine qd (d:=36) (v:=.bool (x66 || ((x67.2:Int) != 0))) rfl (by rw[h70];simp only[qyd]) ?_
 exact az [67]
 refine qb (os:=_) rfl ?_
 refine au [98,84,60,61] ?_
 exact zU (a68,c69)
end Go.Proofs.YtlioijpkhffbnaaGreat
