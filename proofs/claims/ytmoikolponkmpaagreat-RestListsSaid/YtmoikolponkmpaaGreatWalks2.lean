/- Each Go function of this seat computes what its model says, part 2. -/
import Derived.Test.YtmoikolponkmpaaGreatWalks
open Bool renaming false_and→qvT, false_or→qv2, true_or→qv4
namespace Go.Proofs.YtmoikolponkmpaaGreat
open Go SX
set_option maxHeartbeats 4000000 in
theorem qjr (F:Nat){σ τ:Type}{J:Rounds σ τ}{yy:σ→(Int×Int)→Option (σ ⊕ τ)}{L:Nat}(hY:YieldC Tryz.prog L (fun (p:(Int×Int))=>[.agg #[qyq p.1,qyq p.2]]) J yy)(s0:σ)(gs0:J.γ)(g1:Nat)(x2:qyo)(a3:qyp)(c4:Nat)(r:σ ⊕ τ)(hm:qbh F yy x2 s0=some r) :
    PureM Tryz.prog 217 ([.func (.yield L) #[] #[],.pointer (some ⟨g1,0,none⟩)]) ([⟨g1,22,[.slice a3 x2.length c4]⟩]++J.IB s0 gs0) (J.IR s0 gs0) [J.F,Sl (eI .i64) 1 (.slice a3 x2.length c4) x2] (J.G r) (fun _=>.tuple #[]) (fun g=>[⟨g1,22,[.slice a3 x2.length c4]⟩]++J.bs r g) (fun g=>J.rs r g):=by
 refine zw Tryz.func217 rfl Tryz.ntmps217 rfl hm (fun w=>?_)
 refine au [69,60,19] ?_
 refine qdG (fun (((x0,x1),g0):((Int×σ)×J.γ))=>[(0,.func (.yield L) #[] #[]),(1,.pointer (some ⟨g1,0,none⟩)),(3,qyq x0)]) (fun (((x0,x1),g0):((Int×σ)×J.γ))=>[⟨g1,22,[.slice a3 x2.length c4]⟩]++J.IB x1 g0) (fun (((x0,x1),g0):((Int×σ)×J.γ))=>[]++J.IR x1 g0) (fun (((x0,x1),g0):((Int×σ)×J.γ))=>[Sl (eI .i64) 1 (.slice a3 x2.length c4) x2,J.F]) (fun k (s:((Int×σ)×J.γ))=>qX F yy x2 k s.1) ((0,s0),gs0) F ?_ (hB:=(.cons 0 rfl (qE 0 rfl))) (hR:=(qE 0 rfl)) (hF:=(qj 1 rfl (qj 0 rfl zA)))
 intro k0
 rintro ⟨⟨x0,x1⟩,g0⟩
 try dsimp only
 refine qB (m':=qao F yy x2 (qX F yy x2 k0) x0 x1) rfl ?_
 refine av [83,22,24,6,101] ?_ ?_
 intro _
 refine au [74,19,61,60] ?_
 refine qfo (fun ((x3,_):(Int×Unit))=>[(0,.func (.yield L) #[] #[]),(1,.pointer (some ⟨g1,0,none⟩)),(3,qyq x0),(4,qyq x3)]) (fun ((x3,_):(Int×Unit))=>[⟨g1,22,[.slice a3 x2.length c4]⟩]++J.IB x1 g0) (fun ((x3,_):(Int×Unit))=>[]++J.IR x1 g0) (fun ((x3,_):(Int×Unit))=>[Sl (eI .i64) 1 (.slice a3 x2.length c4) x2,J.F]) (fun ((x3,_):(Int×Unit))=>qaq F yy (qX F yy x2 k0) x2 x0 x1 x3) ?_ ?_
 refine au [19] ?_
 refine qdG (fun ((x4,_):(Int×Unit))=>[(0,.func (.yield L) #[] #[]),(1,.pointer (some ⟨g1,0,none⟩)),(3,qyq x0),(4,qyq x4)]) (fun ((x4,_):(Int×Unit))=>[⟨g1,22,[.slice a3 x2.length c4]⟩]++J.IB x1 g0) (fun ((x4,_):(Int×Unit))=>[]++J.IR x1 g0) (fun ((x4,_):(Int×Unit))=>[Sl (eI .i64) 1 (.slice a3 x2.length c4) x2,J.F]) (fun k (s:(Int×Unit))=>kw F yy (qX F yy x2 k0) x2 x0 x1 k s.1) (1,()) F ?_ (hB:=(.cons 0 rfl (qE 0 rfl))) (hR:=(qE 0 rfl)) (hF:=(qj 0 rfl (qj 1 rfl zA)))
 intro k1
 rintro ⟨x4,_⟩
 try dsimp only
 refine qB (m':=qap F yy (qX F yy x2 k0) x2 x0 x1 (kw F yy (qX F yy x2 k0) x2 x0 x1 k1) x4) rfl ?_
 refine au [3] ?_
 refine qfo (fun ((x5,_):(Bool×Unit))=>[(0,.func (.yield L) #[] #[]),(1,.pointer (some ⟨g1,0,none⟩)),(3,qyq x0),(4,qyq x4),(29,.bool x5)]) (fun ((x5,_):(Bool×Unit))=>[⟨g1,22,[.slice a3 x2.length c4]⟩]++J.IB x1 g0) (fun ((x5,_):(Bool×Unit))=>[]++J.IR x1 g0) (fun ((x5,_):(Bool×Unit))=>[Sl (eI .i64) 1 (.slice a3 x2.length c4) x2,J.F]) (fun ((x5,_):(Bool×Unit))=>qar F yy (qX F yy x2 k0) (kw F yy (qX F yy x2 k0) x2 x0 x1 k1) x2 x0 x1 x4 x5) ?_ ?_
 refine av [27,5] ?_ ?_
 intro h0
 refine au [29,12] ?_
 intro x6 e0 b0 o0 h1
 replace h1:a3=some ⟨b0,o0,none⟩:=h1
 refine qbo (j:=1) (qp .i64) (by decide) rfl ?_
 intro x7 e1 b1 o1 h2
 replace h2:a3=some ⟨b1,o1,none⟩:=h2
 refine qy mixed [] [⟨g1,22,[.slice a3 x2.length c4]⟩] [qK b1 (o1+x0.toNat*1) ((eI .i64) x7),qK b0 (o0+(iadd .i64 x0 x4).toNat*1) ((eI .i64) x6),Sl (eI .i64) 1 (.slice a3 x2.length c4) x2,J.F] (.cons 0 rfl .nil) (qt 0 rfl (qt 1 rfl (qt 2 rfl (qt 3 rfl qw)))) 21 rfl ?_
 refine au [88,7,2,25,2,3,26,11,4,7,5,7,6] ?_
 refine qi (d:=15) (v:=.bool true) rfl (by rw[h0] <;> rfl) ?_
 refine au [25,2,7,7,8,7,9,7,10] ?_
 refine qi (d:=16) (v:=.slice (some ⟨b0,o0,none⟩) x2.length c4) rfl (by rw[h1] <;> rfl) (qm 11 (.pointer (some ⟨b0,(o0+(iadd .i64 x0 x4).toNat*1),none⟩)) rfl rfl rfl (vI Tryz.underlying22 tf3 rfl rfl (qP e0).1 (yr e0)) (qi (d:=16) (v:=.slice a3 x2.length c4) rfl (by rw[h1] <;> rfl) (qO 12 (qyq x6) [] rfl rfl rfl (zG (j:=1) rfl tf3 rfl rfl (fun _=>rfl) rfl) ?_)))
 refine au [25,2,13,7,14] ?_
 refine qi (d:=22) (v:=.slice (some ⟨b1,o1,none⟩) x2.length c4) rfl (by rw[h2] <;> rfl) (qm 15 (.pointer (some ⟨b1,(o1+x0.toNat*1),none⟩)) rfl rfl rfl (vI Tryz.underlying22 tf3 rfl rfl (qP e1).1 (yr e1)) (qi (d:=22) (v:=.slice a3 x2.length c4) rfl (by rw[h2] <;> rfl) (qO 16 (qyq x7) [] rfl rfl rfl (zG (j:=0) rfl tf3 rfl rfl (fun _=>rfl) rfl) ?_)))
 refine au [7,17,7,18,7,19,7,20,24,8] ?_
 exact qx (zj (((x6:Int) == (iadd .i64 x7 x4)),()) (hB:=(.cons 0 rfl (qE 0 rfl))) (hR:=(qE 0 rfl)) (hF:=(qj 2 rfl (qj 3 rfl zA)))) (by intro c h;cases h)
 intro h0
 refine qy mixed [] [⟨g1,22,[.slice a3 x2.length c4]⟩] [Sl (eI .i64) 1 (.slice a3 x2.length c4) x2,J.F] (.cons 0 rfl .nil) (qt 0 rfl (qt 1 rfl qw)) 21 rfl ?_
 refine au [88,7,2,25,2,3,26,11,4,7,5,7,6] ?_
 refine qi (d:=15) (v:=.bool false) rfl (by rw[h0] <;> rfl) ?_
 refine au [8,7,8,8,8,9,8,10,8,11,8,12,8,13,8,14,8,15,8,16,8,17,8,18,8,19,7,20,24,8] ?_
 exact qx (zj (false,()) (hB:=(.cons 0 rfl (qE 0 rfl))) (hR:=(qE 0 rfl)) (hF:=(qj 0 rfl (qj 1 rfl zA)))) (by intro c h;cases h)
 rintro ⟨x5,_⟩
 try dsimp only
 refine av [11] ?_ ?_
 intro _
 refine au [74,19,4,1,23,5,0,24,10] ?_
 exact qd4 (iadd .i64 x4 1,()) (hB:=(.cons 0 rfl (qE 0 rfl))) (hR:=(qE 0 rfl)) (hF:=(qj 0 rfl (qj 1 rfl zA)))
 intro _
 refine au [87] ?_
 exact zj (x4,()) (hB:=(.cons 0 rfl (qE 0 rfl))) (hR:=(qE 0 rfl)) (hF:=(qj 0 rfl (qj 1 rfl zA)))
 rintro ⟨x3,_⟩
 try dsimp only
 refine au [83,22,1,26,12] ?_
 intro x8 e2 b2 o2
 refine au [25,14,1] ?_
 refine qo (cells:=[qyq x8,qyq x3]) rfl st154 rfl (by kernel_rfl) rfl (qhm hY x1 (x8,x3) g0 (B1:=[⟨g1,22,[.slice a3 x2.length c4]⟩]) (R1:=[]) (j:=2) rfl rfl rfl rfl rfl rfl rfl (fun x9 _ g2=>?_) (fun x10 _ g2=>?_))
 refine au [25,1,59] ?_
 refine qaS (b:=false) rfl (fun h=>by cases h) (fun _=>?_)
 refine au [74,4,1,1,23,5,0,24,10] ?_
 exact qd4 ((iadd .i64 x0 x3,x9),g2) (hB:=(.cons 0 rfl (qE 0 rfl))) (hR:=(qE 0 rfl)) (hF:=(qj 1 rfl (qj 2 rfl zA)))
 refine au [25,1,59] ?_
 refine qaS (b:=true) rfl (fun _=>?_) (fun h=>by cases h)
 refine au [9,14,67,24,7] ?_
 exact qdI (B0:=[⟨g1,22,[.slice a3 x2.length c4]⟩]) (x:=.inr x10) g2 (.inl rfl) (res0 rfl) (.cons 0 rfl (qE 0 rfl)) (qE 0 rfl)
 intro _
 refine au [87] ?_
 exact qdI (B0:=[⟨g1,22,[.slice a3 x2.length c4]⟩]) (x:=.inl x1) g0 (.inr rfl) (res0 rfl) (.cons 0 rfl (qE 0 rfl)) (qE 0 rfl)
set_option maxHeartbeats 4000000 in
theorem qnb {F:Nat}{x1:qyo}{a2:qyp}{c3:Nat}{x4:Int}{r:(List (Int×Int)×qyo)}(hm:qdV F x1 x4=some r) :
    PureM Tryz.prog 70 [.slice a2 x1.length c3,qyq x4] [] [] [Sl (eI .i64) 1 (.slice a2 x1.length c3) x1] ((qyp×Nat)×(qyp×Nat)) (fun g=>.tuple #[.slice g.1.1 r.1.length g.1.2,.slice g.2.1 r.2.length g.2.2]) (fun _=>[]) (fun g=>[Ro eS154 154 2 (.slice g.1.1 r.1.length g.1.2) r.1,Ro (eI .i64) 3 1 (.slice g.2.1 r.2.length g.2.2) r.2]):=by
 refine qiA Tryz.func70 rfl Tryz.ntmps70 rfl hm (fun w=>?_)
 refine au [94] ?_
 intro g5
 refine au [24,9] ?_
 intro g6
 refine au [24,9] ?_
 intro g7
 refine au [59,83] ?_
 refine qW qlR ?_
 intro x0 e0 g0
 refine au [109,27,4] ?_
 refine qeT (Int×Int) eS154 154 2 (qhj (encs:=(fun (p:(Int×Int))=>[.agg #[qyq p.1,qyq p.2]])) (y:=(fun ((x2,x3):(qyo×List (Int×Int))) ((x5,x6):(Int×Int))=>qbg F x4 x2 x3 x5 x6)) (lb:=[.pointer (some ⟨g0,0,none⟩)]) (fun ((x2,x3):(qyo×List (Int×Int))) ((a0,c0,a1,c1):(qyp×Nat×qyp×Nat))=>[⟨g7,22,[.slice a0 x2.length c0]⟩,⟨g6,41,[.slice a1 x3.length c1]⟩,⟨g5,3,[qyq x4]⟩]) (fun ((x2,x3):(qyo×List (Int×Int))) ((a0,c0,a1,c1):(qyp×Nat×qyp×Nat))=>[Ro (eI .i64) 3 1 (.slice a0 x2.length c0) x2,Ro eS154 154 2 (.slice a1 x3.length c1) x3]) (fun (_:Empty) (_:Unit)=>[]) (fun (_:Empty) (_:Unit)=>[]) (fun _=>.skip) (([]:qyo),([]:List (Int×Int))) (none,0,none,0) rfl ent217 (fun _=>rfl) rfl (.cons 0 rfl .nil) (.cons 0 rfl (.cons 0 rfl (.cons 0 rfl .nil))) (.cons 1 rfl (.cons 0 rfl .nil)) (.consF 0 rfl .nil) (fun z hz _ _ _ hY=>qjr F hY (([]:qyo),([]:List (Int×Int))) (none,0,none,0) g0 x1 a2 c3 z hz) ?_ ?_ ?_)
 rintro rc1 L1 D1 ⟨x2,x3⟩ ⟨a0,c0,a1,c1⟩ ⟨x5,x6⟩ z w M _
 try dsimp only
 refine qiY [(0,.slice a2 x1.length c3),(1,qyq x4),(3,.pointer (some ⟨g5,0,none⟩)),(4,.pointer (some ⟨g6,0,none⟩)),(5,.pointer (some ⟨g7,0,none⟩)),(8,.slice a2 x1.length c3),(9,.func (.func 217) #[] #[.pointer (some ⟨g0,0,none⟩)]),(10,.agg #[qyq x5,qyq x6])] (zm rfl (zm rfl (zm rfl (zm rfl (zm rfl (zm rfl (zm rfl (zm rfl qf5)))))))) ?_
 refine au [4,24,9] ?_
 intro g1
 refine au [102] ?_
 refine qhn (i:=4) rfl ?_
 refine av [19,3,61,73,28,12,26,7,63] ?_ ?_
 intro _
 refine au [61,27,15,24,4] ?_
 refine qn (vs:=[.agg #[qyq x5,qyq x6]]) (ys:=([(x5,x6)]:List (Int×Int))) qbn (by decide) rfl Tryz.underlying41 tf154 rfl rfl rfl rfl rfl (by decide) (fun a3 c2=>zY 2 qbn rfl Tryz.underlying41 tf154 rfl rfl rfl rfl rfl (.inl ⟨0,_,rfl⟩) rfl rfl (fun x7 e1 a4 c4=>?_))
 refine au [27,0,59,70,24,14] ?_
 exact qeB (rc:=rc1) rfl (.cons 4 rfl .nil) rfl (a0,c0,a4,c4) (.cons 2 rfl (.cons 2 rfl (.cons 2 rfl (.cons 0 rfl (.cons 1 rfl .nil))))) (.cons 2 rfl (.cons 0 rfl .nil))
 intro _
 refine au [108,73,1,109] ?_
 refine qu (fun (((x8,x9),(a5,c5)):((Int×qyo)×(qyp×Nat)))=>([(3,.pointer (some ⟨g5,0,none⟩)),(4,.pointer (some ⟨g6,0,none⟩)),(5,.pointer (some ⟨g7,0,none⟩)),(6,.pointer (some ⟨g1,0,none⟩)),(20,qyq x6),(21,qyq x8)],[⟨g1,154,[qyq x5,qyq x6]⟩,⟨g7,22,[.slice a5 x9.length c5]⟩,⟨g6,41,[.slice a1 x3.length c1]⟩,⟨g5,3,[qyq x4]⟩,(blkO L1 (.loop (bsy rc1))),(dblk D1)],[Ro (eI .i64) 3 1 (.slice a5 x9.length c5) x9,Ro eS154 154 2 (.slice a1 x3.length c1) x3],[])) (fun k (s:((Int×qyo)×(qyp×Nat)))=>jQ F x3 x5 x6 k s.1) ((0,x2),(a0,c0)) F ?_
 intro k0
 rintro ⟨⟨x8,x9⟩,⟨a5,c5⟩⟩
 try dsimp only
 refine qB (m':=qdi F x3 x5 x6 (jQ F x3 x5 x6 k0) x8 x9) rfl ?_
 refine av [118] ?_ ?_
 intro _
 refine au [74,3,19,62,60,4,25,6,73,1,23] ?_
 refine qn (vs:=[qyq (iadd .i64 x5 x8)]) (ys:=([iadd .i64 x5 x8]:qyo)) (qp .i64) (by decide) rfl Tryz.underlying22 tf3 rfl rfl rfl rfl rfl (by decide) (fun a6 c6=>zY 1 (qp .i64) rfl Tryz.underlying22 tf3 rfl rfl rfl rfl rfl (.inl ⟨0,_,rfl⟩) rfl rfl (fun x10 e2 a7 c7=>?_))
 refine au [25,8,0,78,4,23,1,0] ?_
 exact qr ((iadd .i64 x8 1,x10),(a7,c7))
 intro _
 refine au [87,24,10] ?_
 exact qeB (rc:=rc1) rfl (.cons 4 rfl .nil) rfl (a5,c5,a1,c1) (.cons 2 rfl (.cons 2 rfl (.cons 2 rfl (.cons 0 rfl (.cons 1 rfl .nil))))) (.cons 0 rfl (.cons 0 rfl .nil))
 rintro ⟨x2,x3⟩ _ ⟨a0,c0,a1,c1⟩ D1
 try dsimp only
 refine au [78,3] ?_
 refine qy mixed [] [(dblk D1),⟨g0,22,[.slice a2 x1.length c3]⟩,⟨g7,22,[.slice a0 x2.length c0]⟩,⟨g6,41,[.slice a1 x3.length c1]⟩,⟨g5,3,[qyq x4]⟩] [Sl (eI .i64) 1 (.slice a2 x1.length c3) x1] (.cons 0 rfl (.cons 0 rfl (.cons 0 rfl (.cons 0 rfl (.cons 0 rfl .nil))))) (qt 0 rfl qw) 4 rfl ?_
 refine au [29,13,0,33,11,1,20,2,33,12,0,33,13,20,3,27,0,0,33,13,24,8] ?_
 refine qx ?_ (by intro c h;cases h)
 refine au [2,9] ?_
 exact qfD [D1] ((a1,c1),(a0,c0)) (.inl rfl) rfl (.cons 0 rfl .nil) (resL (rs:=[.cell 4 41,.cell 5 22]) rfl (.cell (i:=2) rfl tf41 rfl rfl (fun _=>rfl) rfl (.cell (i:=1) rfl tf22 rfl rfl (fun _=>rfl) rfl ResOk.nil)) rfl) (fun h=>by subst h;rfl) (fun h=>by subst h;exact .nil) (fun h=>by subst h;exact (.cons 1 rfl (.cons 0 rfl .nil)))
 intro t;exact t.elim
set_option maxHeartbeats 4000000 in
theorem qgm (F:Nat)(x1:qyo)(a2:qyp)(c3:Nat)(x4:Int)(r:(List (Int×Int)×qyo×Int))(hm:qch F x1 x4=some r) :
    Pure Tryz.prog 10 [.slice a2 x1.length c3,qyq x4] [Sl (eI .i64) 1 (.slice a2 x1.length c3) x1] ((qyp×Nat)×(qyp×Nat)) (fun g=>.tuple #[.slice g.1.1 r.1.length g.1.2,.slice g.2.1 r.2.1.length g.2.2,qyq r.2.2]) (fun g=>[Ro eS154 154 2 (.slice g.1.1 r.1.length g.1.2) r.1,Ro (eI .i64) 3 1 (.slice g.2.1 r.2.1.length g.2.2) r.2.1]) (fun _=>[]):=by
 refine ql Tryz.func10 rfl Tryz.ntmps10 rfl hm (fun w=>?_)
 refine au [69,5,5,75,26,14] ?_
 intro x5 e5 _
 refine au [60] ?_
 refine qh (fun ((x11,_):(Int×Unit))=>([(0,.slice a2 x1.length c3),(1,qyq x4),(7,qyq x11)],[],[],[Sl (eI .i64) 1 (.slice a2 x1.length c3) x1],jE F x1 x4 x11)) ?_ ?_
 refine au [98,1] ?_
 refine qq 7 (fun ((x21,_):(Bool×Unit))=>([(0,.slice a2 x1.length c3),(1,qyq x4),(7,qyq x5),(21,.bool x21)],[],[],[Sl (eI .i64) 1 (.slice a2 x1.length c3) x1],jF F x1 x4 x5 x21)) ?_ ?_
 refine qa (os:=_) rfl ?_
 refine av [24,12] ?_ ?_
 intro h19
 refine qf (k:=14) rfl h19 ?_
 refine au [1,125] ?_
 refine qk 3 (decide (x4<2)) [(0,.slice a2 x1.length c3),(1,qyq x4),(7,qyq x5),(14,.bool true),(20,.bool ((decide (x4<2)) || (decide (300<x4))))] (fun h23=>?_) (fun h23=>?_) ?_
 refine qa (os:=_) rfl (qf (k:=17) rfl h23 ?_)
 refine au [66,16] ?_
 refine qc (d:=20) (v:=.bool ((decide (x4<2)) || (decide (300<x4)))) rfl (by rw[h23];simp only[qv4]) ?_
 exact az [68]
 refine qa (os:=_) rfl (qe (k:=17) rfl h23 ?_)
 refine au [1,92] ?_
 refine qc (d:=20) (v:=.bool ((decide (x4<2)) || (decide (300<x4)))) rfl (by rw[h23];simp only[qv2]) ?_
 exact az [68]
 refine qa (os:=_) rfl ?_
 refine au [16,0] ?_
 exact qb (((decide (x4<2)) || (decide (300<x4))),())
 intro h19
 refine qe (k:=14) rfl h19 ?_
 refine au [72,90,0] ?_
 exact qb (false,())
 rintro ⟨x21,_⟩
 try dsimp only
 refine qa (os:=_) rfl ?_
 refine av [63] ?_ ?_
 intro _
 refine au [4,5,0] ?_
 exact qb ((3:Int),())
 intro _
 refine au [13] ?_
 exact qb (x5,())
 rintro ⟨x11,_⟩
 try dsimp only
 refine av [83,81] ?_ ?_
 intro _
 refine au [62,5,5,77,33,14,25,5] ?_
 exact qs ((none,0),(none,0))
 intro _
 refine au [74,62,1,33,15] ?_
 rintro x13 e13 ⟨⟨a14,c15⟩,⟨a16,c17⟩⟩
 refine au [80,5,75,1,5,5,64] ?_
 exact qs ((a14,c15),(a16,c17))
theorem qjt {F:Nat}{x1:Int}{x2:Int}{x3:Int}{r:Bool}(hm:qbi F x1 x2 x3=some r) :
    Pure Tryz.prog 160 [qyq x1,qyq x2,qyq x3] [] Unit (fun _=>.bool r) (fun _=>[]) (fun _=>[]):=by
 refine ql Tryz.func160 rfl Tryz.ntmps160 rfl hm (fun w=>?_)
 refine au [25,15,61,75,1,26,7,1] ?_
 refine qk 4 (decide (x2≤x1)) [(14,.bool ((decide (x2≤x1)) && (decide (x1≤x3))))] (fun h4=>?_) (fun h4=>?_) ?_
 refine qa (os:=_) rfl (qf (k:=10) rfl h4 ?_)
 refine au [1,1,26,15,16] ?_
 refine qc (d:=14) (v:=.bool ((decide (x2≤x1)) && (decide (x1≤x3)))) rfl (by rw[h4];simp only[Bool.true_and]) ?_
 exact az [68]
 refine qa (os:=_) rfl (qe (k:=10) rfl h4 ?_)
 refine au [66,6,17] ?_
 refine qc (d:=14) (v:=.bool ((decide (x2≤x1)) && (decide (x1≤x3)))) rfl (by rw[h4];simp only[qvT]) ?_
 exact az [68]
 refine qa (os:=_) rfl ?_
 exact az [85]
set_option maxHeartbeats 4000000 in
theorem qjs {F:Nat}{x1:List (Int×Int)}{a2:qyp}{c3:Nat}{r:(qyo×Int)}(hm:qdj F x1=some r) :
    Pure Tryz.prog 71 [.slice a2 x1.length c3] [Sl eS154 2 (.slice a2 x1.length c3) x1] (qyp×Nat) (fun g=>.tuple #[.slice g.1 r.1.length g.2,qyq r.2]) (fun g=>[Ro (eI .i64) 3 1 (.slice g.1 r.1.length g.2) r.1]) (fun _=>[]):=by
 refine ql Tryz.func71 rfl Tryz.ntmps71 rfl hm (fun w=>?_)
 refine av [116,5,93,24,6,103] ?_ ?_
 intro _
 refine au [61,5,114] ?_
 exact qs (none,0)
 intro _
 refine au [108,60] ?_
 refine qh (fun ((_,_):(Unit×Unit))=>([(0,.slice a2 x1.length c3)],[],[],[Sl eS154 2 (.slice a2 x1.length c3) x1],qav F x1)) ?_ ?_
 refine au [124] ?_
 refine qu (fun (((x0,x2),_):((Int×Int)×Unit))=>([(0,.slice a2 x1.length c3),(4,qyq x0),(14,.slice a2 x1.length c3),(15,qyq (x1.length:Int)),(16,qyq x2)],[],[],[Sl eS154 2 (.slice a2 x1.length c3) x1])) (fun k (s:((Int×Int)×Unit))=>kx F x1 k s.1) ((-2,0),()) F ?_
 intro k0
 rintro ⟨⟨x0,x2⟩,_⟩
 try dsimp only
 refine qB (m':=qau F x1 (kx F x1 k0) x0 x2) rfl ?_
 refine av [118] ?_ ?_
 intro _
 refine au [74,3,19,61,30,15] ?_
 intro x3 e0 b0 o0
 refine au [31,0,24,9] ?_
 intro g0
 refine au [97,3,19] ?_
 refine qh (fun ((x4,_):(Bool×Unit))=>([(0,.slice a2 x1.length c3),(4,qyq x0),(6,.pointer (some ⟨g0,0,none⟩)),(14,.slice a2 x1.length c3),(15,qyq (x1.length:Int)),(16,qyq x2),(20,.bool x4)],[⟨g0,154,[qyq x3.1,qyq x3.2]⟩],[],[Sl eS154 2 (.slice a2 x1.length c3) x1],vx F (kx F x1 k0) x0 x2 x3 x4)) ?_ ?_
 refine au [61,73,34,0] ?_
 intro x5 e1 _
 refine av [25,1,60,11] ?_ ?_
 intro _
 refine au [13] ?_
 exact qb ((!x5),())
 intro _
 refine au [61,73,34,0] ?_
 intro x6 e2 _
 refine av [25,1,60,11] ?_ ?_
 intro _
 refine au [13] ?_
 exact qb ((!x6),())
 intro _
 refine au [4,73,73,23,25,7,24,15,5,0] ?_
 exact qb ((decide (1048576<(isub .i64 (iadd .i64 x3.1 x3.2) 1))),())
 rintro ⟨x4,_⟩
 try dsimp only
 refine av [11] ?_ ?_
 intro _
 refine au [61,5,64,67,129,25,5] ?_
 exact qs (none,0)
 intro _
 refine av [61,73,1,23,24,5,60,11] ?_ ?_
 intro _
 refine au [61,5,64,67,129,25,5] ?_
 exact qs (none,0)
 intro _
 refine au [13,78,4,73,73,23,25,7,5,0,78,4,23,1,0] ?_
 exact qr ((isub .i64 (iadd .i64 x3.1 x3.2) 1,iadd .i64 x2 1),())
 intro _
 exact az [87,26,0]
 rintro ⟨_,_⟩
 try dsimp only
 refine au [61,60] ?_
 refine qh (fun ((x7,(a0,c0)):(qyo×(qyp×Nat)))=>([(7,.slice a0 x7.length c0)],[],[Ro (eI .i64) 3 1 (.slice a0 x7.length c0) x7],[],qed F x7)) ?_ ?_
 refine au [124,27,4] ?_
 refine qu (fun (((x8,x9),(a1,c1)):((qyo×Int)×(qyp×Nat)))=>([(7,.slice a1 x8.length c1),(49,.slice a2 x1.length c3),(50,qyq (x1.length:Int)),(51,qyq x9)],[],[Ro (eI .i64) 3 1 (.slice a1 x8.length c1) x8],[Sl eS154 2 (.slice a2 x1.length c3) x1])) (fun k (s:((qyo×Int)×(qyp×Nat)))=>zk F x1 k s.1) ((([]:qyo),0),(none,0)) F ?_
 intro k1
 rintro ⟨⟨x8,x9⟩,⟨a1,c1⟩⟩
 try dsimp only
 refine qB (m':=qas F x1 (zk F x1 k1) x8 x9) rfl ?_
 refine av [118] ?_ ?_
 intro _
 refine au [74] ?_
 refine qh (fun ((x10,(a3,c2)):(qyo×(qyp×Nat)))=>([(7,.slice a3 x10.length c2),(49,.slice a2 x1.length c3),(50,qyq (x1.length:Int)),(51,qyq x9)],[],[Ro (eI .i64) 3 1 (.slice a3 x10.length c2) x10],[Sl eS154 2 (.slice a2 x1.length c3) x1],qaw F (zk F x1 k1) x9 x10)) ?_ ?_
 refine au [19,61,30,15] ?_
 intro x11 e3 b1 o1
 refine au [31,0,24,9] ?_
 intro g1
 refine au [97,61,73,1,109] ?_
 refine qu (fun (((x12,x13),(a4,c4)):((qyo×Int)×(qyp×Nat)))=>([(7,.slice a4 x12.length c4),(9,.pointer (some ⟨g1,0,none⟩)),(49,.slice a2 x1.length c3),(50,qyq (x1.length:Int)),(51,qyq x9),(56,qyq x11.2),(57,qyq x13)],[⟨g1,154,[qyq x11.1,qyq x11.2]⟩],[Ro (eI .i64) 3 1 (.slice a4 x12.length c4) x12],[Sl eS154 2 (.slice a2 x1.length c3) x1])) (fun k (s:((qyo×Int)×(qyp×Nat)))=>yk F (zk F x1 k1) x9 x11 k s.1) ((x8,0),(a1,c1)) F ?_
 intro k2
 rintro ⟨⟨x12,x13⟩,⟨a4,c4⟩⟩
 try dsimp only
 refine qB (m':=qat F (zk F x1 k1) x9 x11 (yk F (zk F x1 k1) x9 x11 k2) x12 x13) rfl ?_
 refine av [118] ?_ ?_
 intro _
 refine au [74,3,19,62,60,4,1,73,1,23] ?_
 refine qn (vs:=[qyq (iadd .i64 x11.1 x13)]) (ys:=([iadd .i64 x11.1 x13]:qyo)) (qp .i64) (by decide) rfl Tryz.underlying22 tf3 rfl rfl rfl rfl rfl (by decide) (fun a5 c5=>zY 1 (qp .i64) rfl Tryz.underlying22 tf3 rfl rfl rfl rfl rfl (.inl ⟨0,_,rfl⟩) rfl rfl (fun x14 e4 a6 c6=>?_))
 refine au [5,0,78,4,23,1,0] ?_
 exact qr ((x14,iadd .i64 x13 1),(a6,c6))
 intro _
 refine au [87,24,10] ?_
 exact qb (x12,(a4,c4))
 rintro ⟨x10,⟨a3,c2⟩⟩
 try dsimp only
 refine au [4,23,1,0] ?_
 exact qr ((x10,iadd .i64 x9 1),(a3,c2))
 intro _
 refine au [87] ?_
 exact qb (x8,(a1,c1))
 rintro ⟨x7,⟨a0,c0⟩⟩
 try dsimp only
 refine au [62,5,64] ?_
 exact qs (a0,c0)
set_option maxHeartbeats 4000000 in
theorem qe5 {F:Nat}{x1:qyo}{a2:qyp}{c3:Nat}{x4:Int}{r:qyo}(hm:yV F x1 c3 x4=some r) :
    PureM Tryz.prog 161 [.slice a2 x1.length c3,qyq x4] [] [Ro (eI .i64) 3 1 (.slice a2 x1.length c3) x1] [] (qyp×Nat) (fun g=>.slice g.1 r.length g.2) (fun _=>[]) (fun g=>[Ro (eI .i64) 3 1 (.slice g.1 r.length g.2) r]):=by
 refine zw Tryz.func161 rfl Tryz.ntmps161 rfl hm (fun w=>?_)
 refine av [69,93,101] ?_ ?_
 intro _
 exact az [34,1]
 intro _
 refine au [74] ?_
 refine qh (fun ((x15,(a13,c14)):(qyo×(qyp×Nat)))=>([(0,.slice a13 x15.length c14)],[],[Ro (eI .i64) 3 1 (.slice a13 x15.length c14) x15],[],vG F x15)) ?_ ?_
 refine au [62,1,34,2,126,25,7,25,7,5,26,13] ?_
 intro x16 e16
 refine qc (d:=1) (v:=qyq x16) rfl (by rw[e16] <;> rfl) ?_
 refine av [59,62,103] ?_ ?_
 intro _
 refine au [4,1,1,34,2,34,3] ?_
 intro x17 e17
 refine au [1] ?_
 refine qsl (y:=(0:Int)) 0 (qp .i64) rfl UnF.u UnF.u inferInstance rfl rfl rfl rfl rfl rfl rfl rfl rfl ?_
 intro x18 e18 a19 c20
 refine au [126,34,3] ?_
 intro x21 e21
 refine au [5,0] ?_
 exact qb (x21,(a19,c20))
 intro _
 refine au [13] ?_
 exact qb (x1,(a2,c3))
 rintro ⟨x15,⟨a13,c14⟩⟩
 try dsimp only
 refine au [62,64] ?_
 exact zy (a13,c14)
set_option maxHeartbeats 4000000 in
theorem qes {F:Nat}{x1:List (qyo)}{a2:qyp}{c3:Nat}{s3:List (qyp×Nat)}{r:qyo}(hm:zi F x1=some r) :
    Pure Tryz.prog 72 [.slice a2 x1.length c3] [SlN eN22 iN22 1 (.slice a2 x1.length c3) x1 s3] (qyp×Nat) (fun g=>.slice g.1 r.length g.2) (fun g=>[Ro (eI .i64) 3 1 (.slice g.1 r.length g.2) r]) (fun _=>[]):=by
 refine ql Tryz.func72 rfl Tryz.ntmps72 rfl hm (fun w=>?_)
 refine au [116,79,60] ?_
 refine qh (fun ((x43,_):(Int×Unit))=>([(0,.slice a2 x1.length c3),(3,qyq x43)],[],[],[SlN eN22 iN22 1 (.slice a2 x1.length c3) x1 s3],zQ F x1 x43)) ?_ ?_
 refine au [124] ?_
 refine qu (fun (((x0,x2),_):((Int×Int)×Unit))=>([(0,.slice a2 x1.length c3),(3,qyq x0),(9,.slice a2 x1.length c3),(10,qyq (x1.length:Int)),(11,qyq x2)],[],[],[SlN eN22 iN22 1 (.slice a2 x1.length c3) x1 s3])) (fun k (s:((Int×Int)×Unit))=>qN F x1 k s.1) ((0,0),()) F ?_
 intro k0
 rintro ⟨⟨x0,x2⟩,_⟩
 try dsimp only
 refine qB (m':=qI F x1 (qN F x1 k0) x0 x2) rfl ?_
 refine av [118] ?_ ?_
 intro _
 refine au [74,3,19,61,28,13] ?_
 intro x3 e0 g0 b0 o0
 refine av [25,14,75,126,23,75,101] ?_ ?_
 intro _
 exact az [34,1]
 intro _
 refine au [13,78,4,23,1,0] ?_
 exact qr ((iadd .i64 x0 (x3.length:Int),iadd .i64 x2 1),())
 intro _
 refine au [87] ?_
 exact qb (x0,())
 rintro ⟨x43,_⟩
 try dsimp only
 refine au [62,26,3] ?_
 refine qW qe5 ?_
 rintro x44 e44 ⟨a45,c46⟩
 refine au [60] ?_
 refine qh (fun ((x4,(a0,c0)):(qyo×(qyp×Nat)))=>([(6,.slice a0 x4.length c0)],[],[Ro (eI .i64) 3 1 (.slice a0 x4.length c0) x4],[],yL F x4)) ?_ ?_
 refine au [124] ?_
 refine qu (fun (((x5,x6),(a1,c1)):((qyo×Int)×(qyp×Nat)))=>([(6,.slice a1 x5.length c1),(25,.slice a2 x1.length c3),(26,qyq (x1.length:Int)),(27,qyq x6)],[],[Ro (eI .i64) 3 1 (.slice a1 x5.length c1) x5],[SlN eN22 iN22 1 (.slice a2 x1.length c3) x1 s3])) (fun k (s:((qyo×Int)×(qyp×Nat)))=>qM F x1 k s.1) ((x44,0),(a45,c46)) F ?_
 intro k1
 rintro ⟨⟨x5,x6⟩,⟨a1,c1⟩⟩
 try dsimp only
 refine qB (m':=qH F x1 (qM F x1 k1) x5 x6) rfl ?_
 refine av [118] ?_ ?_
 intro _
 refine au [74,3,19,61,28,13] ?_
 intro x7 e1 g1 b1 o1
 refine au [25,14,60,4,1,1] ?_
 refine zY 0 (qp .i64) rfl UnF.u inferInstance rfl rfl rfl rfl rfl (.inr ⟨1,rfl⟩) rfl rfl ?_
 intro x8 e2 a3 c2
 refine au [5,0,78,4,23,1,0] ?_
 exact qr ((x8,iadd .i64 x6 1),(a3,c2))
 intro _
 refine au [87] ?_
 exact qb (x5,(a1,c1))
 rintro ⟨x4,⟨a0,c0⟩⟩
 try dsimp only
 refine au [62,64] ?_
 exact qs (a0,c0)
theorem qe6 {F:Nat}{x1:qyo}{a2:qyp}{c3:Nat}{r:qyo}(hm:zg F x1=some r) :
    PureM Tryz.prog 73 [.slice a2 x1.length c3] [] [Ro (eI .i64) 3 1 (.slice a2 x1.length c3) x1] [] Unit (fun _=>.tuple #[]) (fun _=>[]) (fun _=>[Ro (eI .i64) 3 1 (.slice a2 r.length c3) r]):=by
  unfold zg at hm
  split at hm
  · cases hm
    exact qnN Tryz.slices_Sort_int Tryz.slices_Sort_int_none (by assumption)
  · simp at hm
theorem qeh {F:Nat}{x1:qyo}{a2:qyp}{c3:Nat}{r:qyo}(hm:zE F x1=some r) :
    PureM Tryz.prog 74 [.slice a2 x1.length c3] [] [Ro (eI .i64) 3 1 (.slice a2 x1.length c3) x1] [] (qyp×Nat) (fun g=>.slice g.1 r.length g.2) (fun _=>[]) (fun g=>[Ro (eI .i64) 3 1 (.slice g.1 r.length g.2) r]):=by
  unfold zE at hm
  split at hm
  · cases hm
    exact qjz Tryz.slices_Compact_int Tryz.slices_Compact_int_empty (by assumption)
  · simp at hm
theorem qeC {F:Nat}{x1:qyo}{a2:qyp}{c3:Nat}{r:qyo}(hm:kC F x1=some r) :
    Pure Tryz.prog 75 [.slice a2 x1.length c3] [Sl (eI .i64) 1 (.slice a2 x1.length c3) x1] (qyp×Nat) (fun g=>.slice g.1 r.length g.2) (fun g=>[Ro (eI .i64) 3 1 (.slice g.1 r.length g.2) r]) (fun _=>[]):=by
 refine ql Tryz.func75 rfl Tryz.ntmps75 rfl hm (fun w=>?_)
 refine av [116,93,33,5,59,33,6] ?_ ?_
 intro h11
 refine qmP 0 (qp .i64) (by decide) rfl h11 (fun h12=>?_)
 subst h12
 refine qB (m':=some ([]:qyo)) rfl ?_
 refine au [61,114] ?_
 exact qs (none,0)
 intro _
 refine au [108] ?_
 refine qn (vs:=[]) (ys:=([]:qyo)) (qp .i64) (by decide) rfl UnF.u inferInstance rfl rfl rfl rfl rfl (by decide) ?_
 intro a6 c7
 refine au [1,29,5] ?_
 intro x8 e8 a9 c10
 refine au [64] ?_
 exact qs (a9,c10)
set_option maxHeartbeats 4000000 in
theorem qkG {F:Nat}{x1:List (Int×Int)}{a2:qyp}{c3:Nat}{x4:qyo}{a5:qyp}{c6:Nat}{r:(qyo×Int)}(hm:yB F x1 x4=some r) :
    Pure Tryz.prog 11 [.slice a2 x1.length c3,.slice a5 x4.length c6] [Sl eS154 2 (.slice a2 x1.length c3) x1,Sl (eI .i64) 1 (.slice a5 x4.length c6) x4] (qyp×Nat) (fun g=>.tuple #[.slice g.1 r.1.length g.2,qyq r.2]) (fun g=>[Ro (eI .i64) 3 1 (.slice g.1 r.1.length g.2) r.1]) (fun _=>[]):=by
 refine ql Tryz.func11 rfl Tryz.ntmps11 rfl hm (fun w=>?_)
 refine au [69,5,75] ?_
 refine qg qjs ?_
 rintro x7 e7 ⟨a8,c9⟩
 refine au [80,5,60] ?_
 refine qh (fun ((x12,_):(Int×Unit))=>([(1,.slice a5 x4.length c6),(6,.slice a8 x7.1.length c9),(7,qyq x12)],[],[Ro (eI .i64) 3 1 (.slice a8 x7.1.length c9) x7.1],[Sl (eI .i64) 1 (.slice a5 x4.length c6) x4],jD F x4 x7 x12)) ?_ ?_
 refine av [98,63] ?_ ?_
 intro _
 refine au [4,1,26,14] ?_
 intro x38 e38 _
 refine au [5,0] ?_
 exact qb (x38,())
 intro _
 refine au [13] ?_
 exact qb (x7.2,())
 rintro ⟨x12,_⟩
 try dsimp only
 refine av [83,81] ?_ ?_
 intro _
 refine au [62,5,114] ?_
 exact qs (none,0)
 intro _
 refine au [74,62,1,31,1] ?_
 refine qn (vs:=[.slice a8 x7.1.length c9,.slice a5 x4.length c6]) (ys:=([(x7.1,(a8,c9)),(x4,(a5,c6))]:List (qyo×(qyp×Nat)))) zX (by decide) rfl Tryz.underlying28 tf22 rfl rfl rfl rfl rfl (by decide) (fun a14 c15=>qhl (inn:=iN22) ([x7.1,x4]:List (qyo)) ([(a8,c9),(a5,c6)]:List (qyp×Nat)) 0 rfl rfl (qj 0 rfl (qj 1 rfl zA)) ?_)
 refine au [31,2] ?_
 rintro x16 e16 ⟨a17,c18⟩
 refine au [75,31,3] ?_
 intro x19 e19 _
 refine au [25,13] ?_
 intro h20
 replace h20:=of_decide_eq_true h20
 refine qc (d:=8) (v:=.slice a17 x19.length c18) rfl (by rw[h20] <;> rfl) (qc (d:=24) (v:=.slice a17 x19.length c18) rfl (by rw[h20] <;> rfl) (qc (d:=25) (v:=.slice a17 x19.length c18) rfl (by rw[h20] <;> rfl) ?_))
 refine au [59,3,19,62,34,4] ?_
 rintro x29 e29 ⟨a30,c31⟩
 refine au [34,5] ?_
 rintro x32 e32 ⟨a33,c34⟩
 refine av [89,24,6,24,5,60,11] ?_ ?_
 intro _
 refine au [61,5,64,67,25,5] ?_
 exact qs (none,0)
 intro _
 refine av [62,24,6,24,15,60,11] ?_ ?_
 intro _
 refine au [61,5,64,67,25,5] ?_
 exact qs (none,0)
 intro _
 refine au [13,78,62,5,64] ?_
 exact qs (a17,c18)
theorem qhH {F:Nat}{x1:Int}{r:Bool}(hm:jx F x1=some r) :
    Pure Tryz.prog 238 [qyq x1] [] Unit (fun _=>.bool r) (fun _=>[]) (fun _=>[]):=by
 refine ql Tryz.func238 rfl Tryz.ntmps238 rfl hm (fun w=>?_)
 exact az [116,75,1,25,0,85]
set_option maxHeartbeats 4000000 in
theorem qhY {F:Nat}{x1:Int}{x2:Int}{r:Bool}(hm:vP F x1 x2=some r) :
    Pure Tryz.prog 224 [qyq x1,qyq x2] [] Unit (fun _=>.bool r) (fun _=>[]) (fun _=>[]):=by
 refine ql Tryz.func224 rfl Tryz.ntmps224 rfl hm (fun w=>?_)
 refine au [69,75,34,6] ?_
 intro x3 e3 _
 refine au [1] ?_
 refine qq 4 (fun ((x6,_):(Bool×Unit))=>([(0,qyq x1),(1,qyq x2),(11,.bool x6)],[],[],[],vq F x1 x2 x6)) ?_ ?_
 refine qa (os:=_) rfl ?_
 refine av [24,12] ?_ ?_
 intro h4
 refine qf (k:=7) rfl h4 ?_
 refine au [1,34,6] ?_
 intro x8 e8 _
 refine au [25,1,16,0] ?_
 exact qb ((!x8),())
 intro h4
 refine qe (k:=7) rfl h4 ?_
 refine au [66,6,17,0] ?_
 exact qb (false,())
 rintro ⟨x6,_⟩
 try dsimp only
 refine qa (os:=_) rfl ?_
 refine au [1] ?_
 refine qk 4 x6 [(16,.bool (x6 || (decide (x1<x2))))] (fun h7=>?_) (fun h7=>?_) ?_
 refine qa (os:=_) rfl (qf (k:=12) rfl h7 ?_)
 refine au [66,6,16] ?_
 refine qc (d:=16) (v:=.bool (x6 || (decide (x1<x2)))) rfl (by rw[h7];simp only[qv4]) ?_
 exact az [68]
 refine qa (os:=_) rfl (qe (k:=12) rfl h7 ?_)
 refine au [1,1,24,5,17] ?_
 refine qc (d:=16) (v:=.bool (x6 || (decide (x1<x2)))) rfl (by rw[h7];simp only[qv2]) ?_
 exact az [68]
 refine qa (os:=_) rfl ?_
 exact az [85]
theorem qfW {F:Nat}{x1:Int}{r:Bool}(hm:kW F x1=some r) :
    Pure Tryz.prog 229 [qyq x1] [] Unit (fun _=>.bool r) (fun _=>[]) (fun _=>[]):=by
 refine ql Tryz.func229 rfl Tryz.ntmps229 rfl hm (fun w=>?_)
 exact az [116,75,1,25,0,85]
set_option maxHeartbeats 4000000 in
theorem qdl {F:Nat}{x1:qyo}{a2:qyp}{c3:Nat}{x4:Int}{r:(Int×Bool)}(hm:qA F x1 x4=some r) :
    Pure Tryz.prog 164 [.slice a2 x1.length c3,qyq x4] [Sl (eI .i64) 1 (.slice a2 x1.length c3) x1] Unit (fun _=>.tuple #[qyq r.1,.bool r.2]) (fun _=>[]) (fun _=>[]):=by
 refine ql Tryz.func164 rfl Tryz.ntmps164 rfl hm (fun w=>?_)
 refine au [69,5,75,24,6,75,5,60] ?_
 refine qh (fun ((x32,_):(Int×Unit))=>([(0,.slice a2 x1.length c3),(1,qyq x4),(6,qyq (x1.length:Int)),(7,qyq x32)],[],[],[Sl (eI .i64) 1 (.slice a2 x1.length c3) x1],qY F x1 x4 x32)) ?_ ?_
 refine au [19] ?_
 refine qu (fun (((x85,x86),_):((Int×Int)×Unit))=>([(0,.slice a2 x1.length c3),(1,qyq x4),(6,qyq (x1.length:Int)),(7,qyq x85),(8,qyq x86)],[],[],[Sl (eI .i64) 1 (.slice a2 x1.length c3) x1])) (fun k (s:((Int×Int)×Unit))=>qz F x1 x4 k s.1) ((0,(x1.length:Int)),()) F ?_
 intro k95
 rintro ⟨⟨x85,x86⟩,_⟩
 try dsimp only
 refine qB (m':=qV F x1 x4 (qz F x1 x4 k95) x85 x86) rfl ?_
 refine av [83,1,101] ?_ ?_
 intro _
 refine au [74,19,62,1,23,25,11,27,14,25,11,5,26,13] ?_
 intro x97 e97
 refine qc (d:=9) (v:=qyq x97) rfl (by rw[e97] <;> rfl) ?_
 refine au [59,62,1,26,12] ?_
 intro x98 e98 b99 o0
 refine au [25,14,1] ?_
 refine qg qhY ?_
 intro x0 e0 _
 refine av [63] ?_ ?_
 intro _
 refine au [4,1,23,5,0,24,10] ?_
 exact qr ((iadd .i64 x97 1,x86),())
 intro _
 refine au [4,1,5,0,24,10] ?_
 exact qr ((x85,x97),())
 intro _
 refine au [87] ?_
 exact qb (x85,())
 rintro ⟨x32,_⟩
 try dsimp only
 refine au [62,1,1,125] ?_
 refine qq 18 (fun ((x55,_):(Bool×Unit))=>([(31,qyq x32),(53,.bool x55)],[],[],[],kz F x32 x55)) ?_ ?_
 refine qa (os:=_) rfl ?_
 refine av [24,12] ?_ ?_
 intro h33
 refine qf (k:=35) rfl h33 ?_
 refine au [1,1,26,12] ?_
 intro x56 e56 b57 o58
 refine au [25,14,1,24,2,1] ?_
 refine qq 10 (fun ((x68,_):(Bool×Unit))=>([(31,qyq x32),(35,.bool true),(52,.bool x68)],[],[],[],kA F x32 x68)) ?_ ?_
 refine qa (os:=_) rfl ?_
 refine av [24,12] ?_ ?_
 intro h59
 refine qf (k:=42) rfl h59 ?_
 refine au [72,72,6,16,0] ?_
 exact qb (true,())
 intro h59
 refine qe (k:=42) rfl h59 ?_
 refine au [1,1,29,14] ?_
 intro x69 e69 b70 o71
 refine au [25,14,34,7] ?_
 intro x72 e72 _
 refine au [1] ?_
 refine qq 3 (fun ((x75,_):(Bool×Unit))=>([(31,qyq x32),(35,.bool true),(42,.bool false),(51,.bool x75)],[],[],[],kB F x32 x75)) ?_ ?_
 refine qa (os:=_) rfl ?_
 refine av [24,12] ?_ ?_
 intro h73
 refine qf (k:=48) rfl h73 ?_
 refine au [1,34,7] ?_
 intro x76 e76 _
 refine au [16,0] ?_
 exact qb (x76,())
 intro h73
 refine qe (k:=48) rfl h73 ?_
 refine au [90,0] ?_
 exact qb (false,())
 rintro ⟨x75,_⟩
 try dsimp only
 refine qa (os:=_) rfl ?_
 refine au [17,0] ?_
 exact qb (x75,())
 rintro ⟨x68,_⟩
 try dsimp only
 refine qa (os:=_) rfl ?_
 refine au [16,0] ?_
 exact qb (x68,())
 intro h33
 refine qe (k:=35) rfl h33 ?_
 refine au [72,72,72,72,6,17,0] ?_
 exact qb (false,())
 rintro ⟨x55,_⟩
 try dsimp only
 refine qa (os:=_) rfl ?_
 exact az [5,85]
set_option maxHeartbeats 4000000 in
theorem qfV {F:Nat}{g1:Nat}{x2:qyo}{a3:qyp}{c4:Nat}{x5:Bool}{x6:Int}{x7:Bool}{r:(qyo×Bool×Int)}(hm:jn F x2 x5 x6 x7=some r) :
    PureM Tryz.prog 165 [.pointer (some ⟨g1,0,none⟩),.bool x7] [⟨g1,222,[.slice a3 x2.length c4,.bool x5,qyq x6]⟩] [Ro (eI .i64) 3 1 (.slice a3 x2.length c4) x2] [] (qyp×Nat) (fun _=>.tuple #[]) (fun g=>[⟨g1,222,[.slice g.1 r.1.length g.2,.bool r.2.1,qyq r.2.2]⟩]) (fun g=>[Ro (eI .i64) 3 1 (.slice g.1 r.1.length g.2) r.1]):=by
 refine zw Tryz.func165 rfl Tryz.ntmps165 rfl hm (fun w=>?_)
 refine au [24,11] ?_
 refine qh (fun (((x21,x22,x23),(a19,c20)):((qyo×Bool×Int)×(qyp×Nat)))=>([(0,.pointer (some ⟨g1,0,none⟩))],[⟨g1,222,[.slice a19 x21.length c20,.bool x22,qyq x23]⟩],[Ro (eI .i64) 3 1 (.slice a19 x21.length c20) x21],[],yU F x21 x22 x23)) ?_ ?_
 refine au [62,1,25,3,73] ?_
 refine qtS rfl UnF.u rfl rfl rfl ?_
 refine av [63] ?_ ?_
 intro _
 refine au [3] ?_
 refine qy mixed [13] [] [(BlkD.is ⟨g1,222,[.slice a3 x2.length c4,.bool x5,qyq x6]⟩)] .nil (qgx 0 rfl qw) 14 rfl ?_
 refine au [88,7,2,24,0,3] ?_
 refine qO 4 (.slice a3 x2.length c4) [[13]] rfl rfl rfl (yS (j:=0) rfl tf22 rfl rfl (fun _=>rfl) rfl) ?_
 refine au [7,5,7,6,24,0,7] ?_
 refine qO 8 (qyq x6) [[13]] rfl rfl rfl (yS (j:=0) rfl tf3 rfl rfl (fun _=>rfl) rfl) ?_
 refine au [20,9] ?_
 refine qn (vs:=[qyq x6]) (ys:=([x6]:qyo)) (qp .i64) (by decide) rfl Tryz.underlying22 tf3 rfl rfl rfl rfl rfl (by decide) (fun a29 c30=>?_)
 refine au [0,30,10,20,10] ?_
 refine zY 1 (qp .i64) rfl Tryz.underlying22 tf3 rfl rfl rfl rfl rfl (.inl ⟨0,_,rfl⟩) rfl rfl (fun x31 e31 a32 c33=>?_)
 refine au [0,30,10,7,11,24,0,12,20,13,102] ?_
 refine qbp 13 rfl (by kernel_rfl) .nil ?_
 refine au [24,8] ?_
 refine qx ?_ (by intro c h;cases h)
 refine au [2,4,1,1,1,96,24,3,96,102] ?_
 exact qb ((x31,x7,(0:Int)),(a32,c33))
 intro _
 refine au [13] ?_
 exact qb ((x2,x5,x6),(a3,c4))
 rintro ⟨⟨x21,x22,x23⟩,⟨a19,c20⟩⟩
 try dsimp only
 refine au [4,1,25,3,73,23,96,102] ?_
 exact zy (a19,c20)
set_option maxHeartbeats 4000000 in
theorem qlO {F:Nat}{x1:qyo}{a2:qyp}{c3:Nat}{x4:qyo}{a5:qyp}{c6:Nat}{r:(qyo×qyo)}(hm:qbN F x1 x4=some r) :
    Pure Tryz.prog 76 [.slice a2 x1.length c3,.slice a5 x4.length c6] [Sl (eI .i64) 1 (.slice a2 x1.length c3) x1,Sl (eI .i64) 1 (.slice a5 x4.length c6) x4] ((qyp×Nat)×(qyp×Nat)) (fun g=>.tuple #[.slice g.1.1 r.1.length g.1.2,.slice g.2.1 r.2.length g.2.2]) (fun g=>[Ro (eI .i64) 3 1 (.slice g.1.1 r.1.length g.1.2) r.1,Ro (eI .i64) 3 1 (.slice g.2.1 r.2.length g.2.2) r.2]) (fun _=>[]):=by
 refine ql Tryz.func76 rfl Tryz.ntmps76 rfl hm (fun w=>?_)
 refine au [69,5,79] ?_
 refine qo (cells:=[.slice none 0 0,.bool true,qyq 0]) rfl st222 rfl (by kernel_rfl) rfl ?_
 refine au [24,1] ?_
 intro g7
 refine au [60] ?_
 refine qh (fun (((x66,x67,x68),(a64,c65)):((qyo×Bool×Int)×(qyp×Nat)))=>([(0,.slice a2 x1.length c3),(1,.slice a5 x4.length c6),(5,.slice none 0 0),(6,.pointer (some ⟨g7,0,none⟩))],[⟨g7,222,[.slice a64 x66.length c65,.bool x67,qyq x68]⟩],[Ro (eI .i64) 3 1 (.slice a64 x66.length c65) x66],[Sl (eI .i64) 1 (.slice a2 x1.length c3) x1,Sl (eI .i64) 1 (.slice a5 x4.length c6) x4],qdS F x1 x4 x66 x67 x68)) ?_ ?_
 refine au [124,27,4] ?_
 refine qu (fun (((x0,x2,x3,x5),(a0,c0)):((Int×qyo×Bool×Int)×(qyp×Nat)))=>([(0,.slice a2 x1.length c3),(1,.slice a5 x4.length c6),(5,.slice none 0 0),(6,.pointer (some ⟨g7,0,none⟩)),(17,.slice a2 x1.length c3),(18,qyq (x1.length:Int)),(19,qyq x0)],[⟨g7,222,[.slice a0 x2.length c0,.bool x3,qyq x5]⟩],[Ro (eI .i64) 3 1 (.slice a0 x2.length c0) x2],[Sl (eI .i64) 1 (.slice a2 x1.length c3) x1,Sl (eI .i64) 1 (.slice a5 x4.length c6) x4])) (fun k (s:((Int×qyo×Bool×Int)×(qyp×Nat)))=>vb F x1 x4 k s.1) ((0,([]:qyo),true,0),(none,0)) F ?_
 intro k0
 rintro ⟨⟨x0,x2,x3,x5⟩,⟨a0,c0⟩⟩
 try dsimp only
 refine qB (m':=qbA F x1 x4 (vb F x1 x4 k0) x0 x2 x3 x5) rfl ?_
 refine av [118] ?_ ?_
 intro _
 refine au [74,3,19,61,26,12] ?_
 intro x6 e0 b0 o0
 refine au [25,14,75,1,29,15] ?_
 intro x7 e1 _
 refine au [80,5,60,4,1,1] ?_
 refine qW qfV ?_
 rintro x8 e2 ⟨a1,c1⟩
 refine au [0,78,4,23,1,0] ?_
 exact qr ((iadd .i64 x0 1,x8.1,x8.2.1,x8.2.2),(a1,c1))
 intro _
 refine au [87] ?_
 exact qb ((x2,x3,x5),(a0,c0))
 rintro ⟨⟨x66,x67,x68⟩,⟨a64,c65⟩⟩
 try dsimp only
 refine qh (fun ((x9,(a3,c2)):(qyo×(qyp×Nat)))=>([(5,.slice a3 x9.length c2),(6,.pointer (some ⟨g7,0,none⟩))],[⟨g7,222,[.slice a64 x66.length c65,.bool x67,qyq x68]⟩],[Ro (eI .i64) 3 1 (.slice a3 x9.length c2) x9,Ro (eI .i64) 3 1 (.slice a64 x66.length c65) x66],[],qdT F x66 x9)) ?_ ?_
 refine au [124,27,4] ?_
 refine qu (fun (((x10,x11),(a4,c4)):((qyo×Int)×(qyp×Nat)))=>([(0,.slice a2 x1.length c3),(5,.slice a4 x10.length c4),(6,.pointer (some ⟨g7,0,none⟩)),(33,.slice a5 x4.length c6),(34,qyq (x4.length:Int)),(35,qyq x11)],[⟨g7,222,[.slice a64 x66.length c65,.bool x67,qyq x68]⟩],[Ro (eI .i64) 3 1 (.slice a4 x10.length c4) x10,Ro (eI .i64) 3 1 (.slice a64 x66.length c65) x66],[Sl (eI .i64) 1 (.slice a2 x1.length c3) x1,Sl (eI .i64) 1 (.slice a5 x4.length c6) x4])) (fun k (s:((qyo×Int)×(qyp×Nat)))=>yq F x1 x4 x66 k s.1) ((([]:qyo),0),(none,0)) F ?_
 intro k1
 rintro ⟨⟨x10,x11⟩,⟨a4,c4⟩⟩
 try dsimp only
 refine qB (m':=qbz F x1 x4 x66 (yq F x1 x4 x66 k1) x10 x11) rfl ?_
 refine av [118] ?_ ?_
 intro _
 refine au [74] ?_
 refine qh (fun ((x12,(a6,c5)):(qyo×(qyp×Nat)))=>([(0,.slice a2 x1.length c3),(5,.slice a6 x12.length c5),(6,.pointer (some ⟨g7,0,none⟩)),(33,.slice a5 x4.length c6),(34,qyq (x4.length:Int)),(35,qyq x11)],[⟨g7,222,[.slice a64 x66.length c65,.bool x67,qyq x68]⟩],[Ro (eI .i64) 3 1 (.slice a6 x12.length c5) x12,Ro (eI .i64) 3 1 (.slice a64 x66.length c65) x66],[Sl (eI .i64) 1 (.slice a2 x1.length c3) x1,Sl (eI .i64) 1 (.slice a5 x4.length c6) x4],qbB F (yq F x1 x4 x66 k1) x11 x12)) ?_ ?_
 refine au [19,61,29,14] ?_
 intro x13 e3 b1 o1
 refine au [25,14,75,1,29,15] ?_
 intro x14 e4 _
 refine av [80,5,75,25,1,63] ?_ ?_
 intro _
 refine au [4,1,1] ?_
 refine qn (vs:=[qyq x13]) (ys:=([x13]:qyo)) (qp .i64) (by decide) rfl Tryz.underlying22 tf3 rfl rfl rfl rfl rfl (by decide) (fun a7 c7=>zY 1 (qp .i64) rfl Tryz.underlying22 tf3 rfl rfl rfl rfl rfl (.inl ⟨0,_,rfl⟩) rfl rfl (fun x15 e5 a8 c8=>?_))
 refine au [5,0,24,10] ?_
 exact qb (x15,(a8,c8))
 intro _
 refine au [13,24,10] ?_
 exact qb (x10,(a4,c4))
 rintro ⟨x12,⟨a6,c5⟩⟩
 try dsimp only
 refine au [4,23,1,0] ?_
 exact qr ((x12,iadd .i64 x11 1),(a6,c5))
 intro _
 refine au [87] ?_
 exact qb (x10,(a4,c4))
 rintro ⟨x9,⟨a3,c2⟩⟩
 try dsimp only
 refine au [62,25,3,73,1,5,64] ?_
 exact qs ((a64,c65),(a3,c2))
theorem qe8 (F:Nat)(x1:qyo)(a2:qyp)(c3:Nat)(x4:qyo)(a5:qyp)(c6:Nat)(r:(qyo×qyo×Int))(hm:vV F x1 x4=some r) :
    Pure Tryz.prog 12 [.slice a2 x1.length c3,.slice a5 x4.length c6] [Sl (eI .i64) 1 (.slice a2 x1.length c3) x1,Sl (eI .i64) 1 (.slice a5 x4.length c6) x4] ((qyp×Nat)×(qyp×Nat)) (fun g=>.tuple #[.slice g.1.1 r.1.length g.1.2,.slice g.2.1 r.2.1.length g.2.2,qyq r.2.2]) (fun g=>[Ro (eI .i64) 3 1 (.slice g.1.1 r.1.length g.1.2) r.1,Ro (eI .i64) 3 1 (.slice g.2.1 r.2.1.length g.2.2) r.2.1]) (fun _=>[]):=by
 refine ql Tryz.func12 rfl Tryz.ntmps12 rfl hm (fun w=>?_)
 refine au [69,5,5,75,26,14] ?_
 intro x7 e7 _
 refine au [60] ?_
 refine qh (fun ((x10,_):(Int×Unit))=>([(0,.slice a2 x1.length c3),(1,.slice a5 x4.length c6),(7,qyq x10)],[],[],[Sl (eI .i64) 1 (.slice a2 x1.length c3) x1,Sl (eI .i64) 1 (.slice a5 x4.length c6) x4],vu F x1 x4 x10)) ?_ ?_
 refine av [98,63] ?_ ?_
 intro _
 refine au [4,1,26,14] ?_
 intro x18 e18 _
 refine au [5,0] ?_
 exact qb (x18,())
 intro _
 refine au [13] ?_
 exact qb (x7,())
 rintro ⟨x10,_⟩
 try dsimp only
 refine av [83,81] ?_ ?_
 intro _
 refine au [62,5,5,114,25,5] ?_
 exact qs ((none,0),(none,0))
 intro _
 refine au [74,62,1,34,8] ?_
 rintro x12 e12 ⟨⟨a13,c14⟩,⟨a15,c16⟩⟩
 refine au [80,5,75,1,5,5,64] ?_
 exact qs ((a13,c14),(a15,c16))
set_option maxHeartbeats 4000000 in
theorem qjo {F:Nat}{x1:qyo}{a2:qyp}{c3:Nat}{x4:Int}{r:Int}(hm:qdf F x1 x4=some r) :
    Pure Tryz.prog 77 [.slice a2 x1.length c3,qyq x4] [Sl (eI .i64) 1 (.slice a2 x1.length c3) x1] Unit (fun _=>qyq r) (fun _=>[]) (fun _=>[]):=by
 refine ql Tryz.func77 rfl Tryz.ntmps77 rfl hm (fun w=>?_)
 refine av [69,93,89,23,103] ?_ ?_
 intro _
 exact az [61,99]
 intro _
 refine au [108,60] ?_
 refine qh (fun ((x99,_):(Int×Unit))=>([(1,qyq x4),(5,qyq x99)],[],[],[],qcb F x4 x99)) ?_ ?_
 refine au [124] ?_
 refine qu (fun (((x0,x2),_):((Int×Int)×Unit))=>([(1,qyq x4),(5,qyq x0),(13,.slice a2 x1.length c3),(14,qyq (x1.length:Int)),(15,qyq x2)],[],[],[Sl (eI .i64) 1 (.slice a2 x1.length c3) x1])) (fun k (s:((Int×Int)×Unit))=>kv F x1 x4 k s.1) ((0,0),()) F ?_
 intro k0
 rintro ⟨⟨x0,x2⟩,_⟩
 try dsimp only
 refine qB (m':=qal F x1 x4 (kv F x1 x4 k0) x0 x2) rfl ?_
 refine av [118] ?_ ?_
 intro _
 refine au [74,3,19,62,26,12] ?_
 intro x3 e0 b0 o0
 refine au [25,14,5,93,125] ?_
 refine qq 7 (fun ((x5,_):(Bool×Unit))=>([(1,qyq x4),(5,qyq x0),(7,qyq x3),(13,.slice a2 x1.length c3),(14,qyq (x1.length:Int)),(15,qyq x2),(29,.bool x5)],[],[],[Sl (eI .i64) 1 (.slice a2 x1.length c3) x1],qam F (kv F x1 x4 k0) x4 x0 x2 x3 x5)) ?_ ?_
 refine qa (os:=_) rfl ?_
 refine av [24,12] ?_ ?_
 intro h0
 refine qf (k:=22) rfl h0 ?_
 refine au [72,66,16,0] ?_
 exact qb (true,())
 intro h0
 refine qe (k:=22) rfl h0 ?_
 refine au [1,125] ?_
 refine qk 3 (decide (x3<1)) [(1,qyq x4),(5,qyq x0),(13,.slice a2 x1.length c3),(14,qyq (x1.length:Int)),(15,qyq x2),(7,qyq x3),(22,.bool false),(23,qyq x3),(24,.bool (decide (x3<1))),(25,.bool (decide (x3<1))),(28,.bool ((decide (x3<1)) && (decide (0<x2))))] (fun h1=>?_) (fun h1=>?_) ?_
 refine qa (os:=_) rfl (qf (k:=25) rfl h1 ?_)
 refine au [1,24,15,16] ?_
 refine qc (d:=28) (v:=.bool ((decide (x3<1)) && (decide (0<x2)))) rfl (by rw[h1];simp only[Bool.true_and]) (qc (d:=25) (v:=.bool (decide (x3<1))) rfl (by rw[h1] <;> rfl) ?_)
 exact az [68]
 refine qa (os:=_) rfl (qe (k:=25) rfl h1 ?_)
 refine au [90] ?_
 refine qc (d:=28) (v:=.bool ((decide (x3<1)) && (decide (0<x2)))) rfl (by rw[h1];simp only[qvT]) (qc (d:=25) (v:=.bool (decide (x3<1))) rfl (by rw[h1] <;> rfl) ?_)
 exact az [68]
 refine qa (os:=_) rfl ?_
 refine au [17,0] ?_
 exact qb (((decide (x3<1)) && (decide (0<x2))),())
 rintro ⟨x5,_⟩
 try dsimp only
 refine qa (os:=_) rfl ?_
 refine av [63] ?_ ?_
 intro _
 exact az [61,77,129,18]
 intro _
 refine au [74,4,1,1,1,23,28,0,23,1,23,28,0,5,26,13] ?_
 intro x6 e1
 refine qc (d:=5) (v:=qyq x6) rfl (by rw[e1] <;> rfl) ?_
 refine au [0,78,4,23,1,0] ?_
 exact qr ((x6,iadd .i64 x2 1),())
 intro _
 refine au [87] ?_
 exact qb (x0,())
 rintro ⟨x99,_⟩
 try dsimp only
 refine av [83,1,103] ?_ ?_
 intro _
 exact az [61,99]
 intro _
 exact az [108,85]
set_option maxHeartbeats 4000000 in
theorem qh4 {F:Nat}{x1:qyo}{a2:qyp}{c3:Nat}{x4:qyo}{a5:qyp}{c6:Nat}{r:qyo}(hm:qdU F x1 x4=some r) :
    Pure Tryz.prog 78 [.slice a2 x1.length c3,.slice a5 x4.length c6] [Sl (eI .i64) 1 (.slice a2 x1.length c3) x1,Sl (eI .i64) 1 (.slice a5 x4.length c6) x4] (qyp×Nat) (fun g=>.slice g.1 r.length g.2) (fun g=>[Ro (eI .i64) 3 1 (.slice g.1 r.length g.2) r]) (fun _=>[]):=by
 refine ql Tryz.func78 rfl Tryz.ntmps78 rfl hm (fun w=>?_)
 refine au [69,79,79,60] ?_
 refine qh (fun (((x0,x2,x3),(a0,c0,a1,c1)):((qyo×qyo×Bool)×(qyp×Nat×qyp×Nat)))=>([(0,.slice a0 x0.length c0),(5,.slice a1 x2.length c1),(6,.bool x3)],[],[Ro (eI .i64) 3 1 (.slice a1 x2.length c1) x2],[Sl (eI .i64) 1 (.slice a0 x0.length c0) x0],qcc F x0 x2 x3)) ?_ ?_
 refine au [124,27,4] ?_
 refine qu (fun (((x5,x6,x7,x8),(a3,c2,a4,c4)):((qyo×qyo×Bool×Int)×(qyp×Nat×qyp×Nat)))=>([(0,.slice a3 x5.length c2),(5,.slice a4 x6.length c4),(6,.bool x7),(9,.slice a5 x4.length c6),(10,qyq (x4.length:Int)),(11,qyq x8)],[],[Ro (eI .i64) 3 1 (.slice a4 x6.length c4) x6],[Sl (eI .i64) 1 (.slice a3 x5.length c2) x5,Sl (eI .i64) 1 (.slice a5 x4.length c6) x4])) (fun k (s:((qyo×qyo×Bool×Int)×(qyp×Nat×qyp×Nat)))=>kf F x4 k s.1) ((x1,([]:qyo),true,0),(a2,c3,none,0)) F ?_
 intro k0
 rintro ⟨⟨x5,x6,x7,x8⟩,⟨a3,c2,a4,c4⟩⟩
 try dsimp only
 refine qB (m':=jl F x4 (kf F x4 k0) x5 x6 x7 x8) rfl ?_
 refine av [118] ?_ ?_
 intro _
 refine au [74,3,19,61,29,14] ?_
 intro x9 e0 b0 o0
 refine au [25,14,60] ?_
 refine qh (fun ((x10,(a6,c5)):(qyo×(qyp×Nat)))=>([(0,.slice a3 x5.length c2),(5,.slice a6 x10.length c5),(6,.bool x7),(8,qyq x9),(9,.slice a5 x4.length c6),(10,qyq (x4.length:Int)),(11,qyq x8)],[],[Ro (eI .i64) 3 1 (.slice a6 x10.length c5) x10],[Sl (eI .i64) 1 (.slice a3 x5.length c2) x5,Sl (eI .i64) 1 (.slice a5 x4.length c6) x4],jm F (kf F x4 k0) x5 x7 x8 x9 x10)) ?_ ?_
 refine av [62,63] ?_ ?_
 intro _
 refine au [4,1,1,1] ?_
 refine qpl (j:=1) (qp .i64) rfl UnF.u inferInstance rfl rfl rfl rfl rfl ?_
 intro x11 e1 a7 c7
 refine au [29,5] ?_
 intro x12 e2 a8 c8
 refine au [5,0] ?_
 exact qb (x12,(a8,c8))
 intro _
 refine au [13] ?_
 exact qb (x6,(a4,c4))
 rintro ⟨x10,⟨a6,c5⟩⟩
 try dsimp only
 refine au [4,1,1] ?_
 refine qpl (j:=0) (qp .i64) rfl UnF.u inferInstance rfl rfl rfl rfl rfl ?_
 intro x13 e3 a9 c9
 refine au [1,25,1,5,5,0,78,4,23,1,0] ?_
 exact qr ((x13,x10,(!x7),iadd .i64 x8 1),(a9,c9,a6,c5))
 intro _
 refine au [87] ?_
 exact qb ((x5,x6,x7),(a3,c2,a4,c4))
 rintro ⟨⟨x0,x2,x3⟩,⟨a0,c0,a1,c1⟩⟩
 try dsimp only
 refine qh (fun ((x14,(a10,c10)):(qyo×(qyp×Nat)))=>([(5,.slice a10 x14.length c10)],[],[Ro (eI .i64) 3 1 (.slice a10 x14.length c10) x14],[],qan F x14)) ?_ ?_
 refine av [62,63] ?_ ?_
 intro _
 refine au [4,1,1,29,5] ?_
 intro x15 e4 a11 c11
 refine au [5,0] ?_
 exact qb (x15,(a11,c11))
 intro _
 refine au [13] ?_
 exact qb (x2,(a1,c1))
 rintro ⟨x14,⟨a10,c10⟩⟩
 try dsimp only
 refine au [62,64] ?_
 exact qs (a10,c10)
set_option maxHeartbeats 4000000 in
theorem qgj (F:Nat)(x1:qyo)(a2:qyp)(c3:Nat)(x4:qyo)(a5:qyp)(c6:Nat)(r:(qyo×Int))(hm:vv F x1 x4=some r) :
    Pure Tryz.prog 13 [.slice a2 x1.length c3,.slice a5 x4.length c6] [Sl (eI .i64) 1 (.slice a2 x1.length c3) x1,Sl (eI .i64) 1 (.slice a5 x4.length c6) x4] (qyp×Nat) (fun g=>.tuple #[.slice g.1 r.1.length g.2,qyq r.2]) (fun g=>[Ro (eI .i64) 3 1 (.slice g.1 r.1.length g.2) r.1]) (fun _=>[]):=by
 refine ql Tryz.func13 rfl Tryz.ntmps13 rfl hm (fun w=>?_)
 refine au [69,5,75,26,14] ?_
 intro x7 e7 _
 refine au [60] ?_
 refine qh (fun ((x10,_):(Int×Unit))=>([(0,.slice a2 x1.length c3),(1,.slice a5 x4.length c6),(6,qyq x10)],[],[],[Sl (eI .i64) 1 (.slice a2 x1.length c3) x1,Sl (eI .i64) 1 (.slice a5 x4.length c6) x4],jB F x1 x4 x10)) ?_ ?_
 refine av [98,63] ?_ ?_
 intro _
 refine au [4,1,126] ?_
 refine qg qjo ?_
 intro x16 e16 _
 refine au [5,0] ?_
 exact qb (x16,())
 intro _
 refine au [13] ?_
 exact qb (x7,())
 rintro ⟨x10,_⟩
 try dsimp only
 refine av [83,81] ?_ ?_
 intro _
 refine au [62,5,114] ?_
 exact qs (none,0)
 intro _
 refine au [74,62,1] ?_
 refine qg qh4 ?_
 rintro x12 e12 ⟨a13,c14⟩
 refine au [5,64] ?_
 exact qs (a13,c14)
set_option maxHeartbeats 4000000 in
theorem qgk (F:Nat)(x1:qyo)(a2:qyp)(c3:Nat)(x4:qyo)(a5:qyp)(c6:Nat)(x7:qyo)(a8:qyp)(c9:Nat)(r:(qyo×Int))(hm:qca F x1 x4 x7=some r) :
    Pure Tryz.prog 14 [.slice a2 x1.length c3,.slice a5 x4.length c6,.slice a8 x7.length c9] [Sl (eI .i64) 1 (.slice a2 x1.length c3) x1,Sl (eI .i64) 1 (.slice a5 x4.length c6) x4,Sl (eI .i64) 1 (.slice a8 x7.length c9) x7] (qyp×Nat) (fun g=>.tuple #[.slice g.1 r.1.length g.2,qyq r.2]) (fun g=>[Ro (eI .i64) 3 1 (.slice g.1 r.1.length g.2) r.1]) (fun _=>[]):=by
 refine ql Tryz.func14 rfl Tryz.ntmps14 rfl hm (fun w=>?_)
 refine au [25,15,61,5,75,1,30,0] ?_
 rintro x10 e10 ⟨a11,c12⟩
 refine au [80,5,60] ?_
 refine qh (fun ((x15,_):(Int×Unit))=>([(2,.slice a8 x7.length c9),(8,.slice a11 x10.1.length c12),(9,qyq x15)],[],[Ro (eI .i64) 3 1 (.slice a11 x10.1.length c12) x10.1],[Sl (eI .i64) 1 (.slice a8 x7.length c9) x7],jC F x7 x10 x15)) ?_ ?_
 refine av [98,63] ?_ ?_
 intro _
 refine au [4,1,26,14] ?_
 intro x41 e41 _
 refine au [5,0] ?_
 exact qb (x41,())
 intro _
 refine au [13] ?_
 exact qb (x10.2,())
 rintro ⟨x15,_⟩
 try dsimp only
 refine av [83,81] ?_ ?_
 intro _
 refine au [62,5,114] ?_
 exact qs (none,0)
 intro _
 refine au [74,62,1,31,1] ?_
 refine qn (vs:=[.slice a11 x10.1.length c12,.slice a8 x7.length c9]) (ys:=([(x10.1,(a11,c12)),(x7,(a8,c9))]:List (qyo×(qyp×Nat)))) zX (by decide) rfl Tryz.underlying28 tf22 rfl rfl rfl rfl rfl (by decide) (fun a17 c18=>qhl (inn:=iN22) ([x10.1,x7]:List (qyo)) ([(a11,c12),(a8,c9)]:List (qyp×Nat)) 0 rfl rfl (qj 0 rfl (qj 1 rfl zA)) ?_)
 refine au [31,2] ?_
 rintro x19 e19 ⟨a20,c21⟩
 refine au [75,31,3] ?_
 intro x22 e22 _
 refine au [25,13] ?_
 intro h23
 replace h23:=of_decide_eq_true h23
 refine qc (d:=10) (v:=.slice a20 x22.length c21) rfl (by rw[h23] <;> rfl) (qc (d:=27) (v:=.slice a20 x22.length c21) rfl (by rw[h23] <;> rfl) (qc (d:=28) (v:=.slice a20 x22.length c21) rfl (by rw[h23] <;> rfl) ?_))
 refine au [59,3,19,62,34,4] ?_
 rintro x32 e32 ⟨a33,c34⟩
 refine au [34,5] ?_
 rintro x35 e35 ⟨a36,c37⟩
 refine av [89,24,6,24,5,60,11] ?_ ?_
 intro _
 refine au [61,5,64,67,25,5] ?_
 exact qs (none,0)
 intro _
 refine av [62,24,6,24,15,60,11] ?_ ?_
 intro _
 refine au [61,5,64,67,25,5] ?_
 exact qs (none,0)
 intro _
 refine au [13,78,62,5,64] ?_
 exact qs (a20,c21)
set_option maxHeartbeats 4000000 in
theorem qkJ {F:Nat}{x1:Int}{x2:Int}{x3:Int}{r:Int}(hm:vy F x1 x2 x3=some r) :
    Pure Tryz.prog 79 [.agg #[qyq x1,qyq x2,qyq x3]] [] Unit (fun _=>qyq r) (fun _=>[]) (fun _=>[]):=by
 refine ql Tryz.func79 rfl Tryz.ntmps79 rfl hm (fun w=>?_)
 refine au [25,9,82] ?_
 intro g4
 refine au [60,3,61,73,125] ?_
 refine qk 4 (decide (x1<0)) [(1,.pointer (some ⟨g4,0,none⟩)),(10,.bool ((decide (x1<0)) || (decide (7<x1))))] (fun h12=>?_) (fun h12=>?_) ?_
 refine qa (os:=_) rfl (qf (k:=6) rfl h12 ?_)
 refine au [66,6,16] ?_
 refine qc (d:=10) (v:=.bool ((decide (x1<0)) || (decide (7<x1)))) rfl (by rw[h12];simp only[qv4]) ?_
 exact az [68]
 refine qa (os:=_) rfl (qe (k:=6) rfl h12 ?_)
 refine au [73,92] ?_
 refine qc (d:=10) (v:=.bool ((decide (x1<0)) || (decide (7<x1)))) rfl (by rw[h12];simp only[qv2]) ?_
 exact az [68]
 refine qa (os:=_) rfl ?_
 refine au [1] ?_
 refine qk 4 ((decide (x1<0)) || (decide (7<x1))) [(1,.pointer (some ⟨g4,0,none⟩)),(15,.bool (((decide (x1<0)) || (decide (7<x1))) || (decide (x2<0))))] (fun h13=>?_) (fun h13=>?_) ?_
 refine qa (os:=_) rfl (qf (k:=11) rfl h13 ?_)
 refine au [66,6,16] ?_
 refine qc (d:=15) (v:=.bool (((decide (x1<0)) || (decide (7<x1))) || (decide (x2<0)))) rfl (by rw[h13];simp only[qv4]) ?_
 exact az [68]
 refine qa (os:=_) rfl (qe (k:=11) rfl h13 ?_)
 refine au [73,24,5,17] ?_
 refine qc (d:=15) (v:=.bool (((decide (x1<0)) || (decide (7<x1))) || (decide (x2<0)))) rfl (by rw[h13];simp only[qv2]) ?_
 exact az [68]
 refine qa (os:=_) rfl ?_
 refine au [1] ?_
 refine qk 4 (((decide (x1<0)) || (decide (7<x1))) || (decide (x2<0))) [(1,.pointer (some ⟨g4,0,none⟩)),(20,.bool ((((decide (x1<0)) || (decide (7<x1))) || (decide (x2<0))) || ((x2:Int) == 1)))] (fun h14=>?_) (fun h14=>?_) ?_
 refine qa (os:=_) rfl (qf (k:=16) rfl h14 ?_)
 refine au [66,6,16] ?_
 refine qc (d:=20) (v:=.bool ((((decide (x1<0)) || (decide (7<x1))) || (decide (x2<0))) || ((x2:Int) == 1))) rfl (by rw[h14];simp only[qv4]) ?_
 exact az [68]
 refine qa (os:=_) rfl (qe (k:=16) rfl h14 ?_)
 refine au [73,24,2,17] ?_
 refine qc (d:=20) (v:=.bool ((((decide (x1<0)) || (decide (7<x1))) || (decide (x2<0))) || ((x2:Int) == 1))) rfl (by rw[h14];simp only[qv2]) ?_
 exact az [68]
 refine qa (os:=_) rfl ?_
 refine au [1] ?_
 refine qk 4 ((((decide (x1<0)) || (decide (7<x1))) || (decide (x2<0))) || ((x2:Int) == 1)) [(1,.pointer (some ⟨g4,0,none⟩)),(25,.bool (((((decide (x1<0)) || (decide (7<x1))) || (decide (x2<0))) || ((x2:Int) == 1)) || (decide (300<x2))))] (fun h15=>?_) (fun h15=>?_) ?_
 refine qa (os:=_) rfl (qf (k:=21) rfl h15 ?_)
 refine au [66,6,16] ?_
 refine qc (d:=25) (v:=.bool (((((decide (x1<0)) || (decide (7<x1))) || (decide (x2<0))) || ((x2:Int) == 1)) || (decide (300<x2)))) rfl (by rw[h15];simp only[qv4]) ?_
 exact az [68]
 refine qa (os:=_) rfl (qe (k:=21) rfl h15 ?_)
 refine au [73,92] ?_
 refine qc (d:=25) (v:=.bool (((((decide (x1<0)) || (decide (7<x1))) || (decide (x2<0))) || ((x2:Int) == 1)) || (decide (300<x2)))) rfl (by rw[h15];simp only[qv2]) ?_
 exact az [68]
 refine qa (os:=_) rfl ?_
 refine au [1] ?_
 refine qk 4 (((((decide (x1<0)) || (decide (7<x1))) || (decide (x2<0))) || ((x2:Int) == 1)) || (decide (300<x2))) [(1,.pointer (some ⟨g4,0,none⟩)),(30,.bool ((((((decide (x1<0)) || (decide (7<x1))) || (decide (x2<0))) || ((x2:Int) == 1)) || (decide (300<x2))) || (decide (x3<1))))] (fun h16=>?_) (fun h16=>?_) ?_
 refine qa (os:=_) rfl (qf (k:=26) rfl h16 ?_)
 refine au [66,6,16] ?_
 refine qc (d:=30) (v:=.bool ((((((decide (x1<0)) || (decide (7<x1))) || (decide (x2<0))) || ((x2:Int) == 1)) || (decide (300<x2))) || (decide (x3<1)))) rfl (by rw[h16];simp only[qv4]) ?_
 exact az [68]
 refine qa (os:=_) rfl (qe (k:=26) rfl h16 ?_)
 refine au [73,24,5,17] ?_
 refine qc (d:=30) (v:=.bool ((((((decide (x1<0)) || (decide (7<x1))) || (decide (x2<0))) || ((x2:Int) == 1)) || (decide (300<x2))) || (decide (x3<1)))) rfl (by rw[h16];simp only[qv2]) ?_
 exact az [68]
 refine qa (os:=_) rfl ?_
 refine au [1] ?_
 refine qk 4 ((((((decide (x1<0)) || (decide (7<x1))) || (decide (x2<0))) || ((x2:Int) == 1)) || (decide (300<x2))) || (decide (x3<1))) [(35,.bool (((((((decide (x1<0)) || (decide (7<x1))) || (decide (x2<0))) || ((x2:Int) == 1)) || (decide (300<x2))) || (decide (x3<1))) || (decide (16<x3))))] (fun h17=>?_) (fun h17=>?_) ?_
 refine qa (os:=_) rfl (qf (k:=31) rfl h17 ?_)
 refine au [66,6,16] ?_
 refine qc (d:=35) (v:=.bool (((((((decide (x1<0)) || (decide (7<x1))) || (decide (x2<0))) || ((x2:Int) == 1)) || (decide (300<x2))) || (decide (x3<1))) || (decide (16<x3)))) rfl (by rw[h17];simp only[qv4]) ?_
 exact az [68]
 refine qa (os:=_) rfl (qe (k:=31) rfl h17 ?_)
 refine au [73,92] ?_
 refine qc (d:=35) (v:=.bool (((((((decide (x1<0)) || (decide (7<x1))) || (decide (x2<0))) || ((x2:Int) == 1)) || (decide (300<x2))) || (decide (x3<1))) || (decide (16<x3)))) rfl (by rw[h17];simp only[qv2]) ?_
 exact az [68]
 refine qa (os:=_) rfl ?_
 refine av [63] ?_ ?_
 intro _
 exact az [61,99]
 intro _
 exact az [108,85]
theorem qkK {F:Nat}{x1:Int}{x2:qyo}{a3:qyp}{c4:Nat}{x5:Int}{x6:Int}{x7:Int}{r:Int}(hm:qcj F x1 x2 x5 x6 x7=some r) :
    Pure Tryz.prog 80 [qyq x1,.slice a3 x2.length c4,.agg #[qyq x5,qyq x6,qyq x7]] [Sl (eI .i64) 1 (.slice a3 x2.length c4) x2] Unit (fun _=>qyq r) (fun _=>[]) (fun _=>[]):=by
 refine ql Tryz.func80 rfl Tryz.ntmps80 rfl hm (fun w=>?_)
 refine au [106] ?_
 intro g8
 refine au [93,125] ?_
 refine qk 3 (decide (x1<0)) [(1,.slice a3 x2.length c4),(5,.pointer (some ⟨g8,0,none⟩)),(12,.bool ((decide (x1<0)) || (decide (1048576<x1))))] (fun h11=>?_) (fun h11=>?_) ?_
 refine qa (os:=_) rfl (qf (k:=9) rfl h11 ?_)
 refine au [66,16] ?_
 refine qc (d:=12) (v:=.bool ((decide (x1<0)) || (decide (1048576<x1)))) rfl (by rw[h11];simp only[qv4]) ?_
 exact az [68]
 refine qa (os:=_) rfl (qe (k:=9) rfl h11 ?_)
 refine au [1,92] ?_
 refine qc (d:=12) (v:=.bool ((decide (x1<0)) || (decide (1048576<x1)))) rfl (by rw[h11];simp only[qv2]) ?_
 exact az [68]
 refine qa (os:=_) rfl ?_
 refine av [63] ?_ ?_
 intro _
 exact az [61,99]
 intro _
 refine av [74,3,61,73,103] ?_ ?_
 intro _
 refine au [62,26,14] ?_
 intro x14 e14 _
 exact az [99]
 intro _
 exact az [108,85]
theorem qku {F:Nat}{x1:Int}{r:Int}(hm:qdx F x1=some r) :
    Pure Tryz.prog 188 [.int .u64 x1] [] Unit (fun _=>qyq r) (fun _=>[]) (fun _=>[]):=by
 refine ql Tryz.func188 rfl Tryz.ntmps188 rfl hm (fun w=>?_)
 refine au [116,75,23,30,13] ?_
 intro x2 e2 _
 exact az [25,7,85]
theorem qlE {F:Nat}{x1:Int}{x2:Int}{r:Int}(hm:qea F x1 x2=some r) :
    Pure Tryz.prog 189 [.int .u64 x1,qyq x2] [] Unit (fun _=>.int .u64 r) (fun _=>[]) (fun _=>[]):=by
 refine ql Tryz.func189 rfl Tryz.ntmps189 rfl hm (fun w=>?_)
 refine au [69,75,1,25,13] ?_
 intro h3
 refine qfC rfl rfl rfl rfl h3 ?_
 refine au [25,7,29,7,5,26,13] ?_
 intro x4 e4
 refine qc (d:=4) (v:=.int .u64 x4) rfl (by rw[e4] <;> rfl) ?_
 exact az [59,9,18]
theorem qgV {F:Nat}{x1:Int}{r:(Int×qyo)}(hm:vQ F x1=some r) :
    Pure Tryz.prog 117 [.int .u64 x1] [] (qyp×Nat) (fun g=>.agg #[qyq r.1,.slice g.1 r.2.length g.2]) (fun g=>[Ro (eI .u8) 5 1 (.slice g.1 r.2.length g.2) r.2]) (fun _=>[]):=by
 refine ql Tryz.func117 rfl Tryz.ntmps117 rfl hm (fun w=>?_)
 refine au [116,24,9] ?_
 intro g2
 refine au [59,62] ?_
 refine qg qku ?_
 intro x3 e3 _
 refine au [75,25,11,33,10] ?_
 rintro x4 e4 ⟨a5,c6⟩
 refine au [1,23,1] ?_
 refine qg qlE ?_
 intro x7 e7 _
 refine au [1,27,11] ?_
 rintro x8 e8 ⟨a9,c10⟩
 refine au [97,9] ?_
 exact qF (a9,c10) (resL (rs:=[.cell 2 25]) rfl (.cell (i:=0) rfl tf25 rfl rfl (by simp) rfl ResOk.nil) rfl) (fun h=>by subst h;exact (.cons 0 rfl .nil))
set_option maxHeartbeats 4000000 in
theorem qgo {F:Nat}{g1:Nat}{x2:Int}{x3:qyo}{a4:qyp}{c5:Nat}{x6:Bool}{x7:Int}{x8:qyo}{a9:qyp}{c10:Nat}{r:(Int×qyo×Bool)}(hm:ym F x2 x3 x6 x7 x8=some r) :
    PureM Tryz.prog 169 [.pointer (some ⟨g1,0,none⟩),.agg #[qyq x7,.slice a9 x8.length c10]] [⟨g1,129,[qyq x2,.slice a4 x3.length c5,.bool x6]⟩] [Ro (eI .u8) 5 1 (.slice a4 x3.length c5) x3] [Sl (eI .u8) 1 (.slice a9 x8.length c10) x8] (qyp×Nat) (fun _=>.tuple #[]) (fun g=>[⟨g1,129,[qyq r.1,.slice g.1 r.2.1.length g.2,.bool r.2.2]⟩]) (fun g=>[Ro (eI .u8) 5 1 (.slice g.1 r.2.1.length g.2) r.2.1]):=by
 refine zw Tryz.func169 rfl Tryz.ntmps169 rfl hm (fun w=>?_)
 refine au [94] ?_
 intro g11
 refine au [59] ?_
 refine qh (fun ((x13,_):(Bool×Unit))=>([(0,.pointer (some ⟨g1,0,none⟩)),(3,.pointer (some ⟨g11,0,none⟩))],[⟨g11,25,[qyq x7,.slice a9 x8.length c10]⟩,⟨g1,129,[qyq x2,.slice a4 x3.length c5,.bool x13]⟩],[Ro (eI .u8) 5 1 (.slice a4 x3.length c5) x3],[Sl (eI .u8) 1 (.slice a9 x8.length c10) x8],ya F x2 x3 x7 x8 x13)) ?_ ?_
 refine av [27,5] ?_ ?_
 intro h18
 refine qy mixed [18] [⟨g11,25,[qyq x7,.slice a9 x8.length c10]⟩] [Sl (eI .u8) 1 (.slice a9 x8.length c10) x8,(BlkD.is ⟨g1,129,[qyq x2,.slice a4 x3.length c5,.bool x6]⟩)] (.cons 0 rfl .nil) (qt 0 rfl (qgx 1 rfl qw)) 19 rfl ?_
 refine au [88,7,2,24,0,3] ?_
 refine qO 4 (.bool x6) [[18]] rfl rfl rfl (yS (j:=1) rfl tf4 rfl rfl (fun _=>rfl) rfl) ?_
 refine au [7,5] ?_
 refine qi (d:=9) (v:=.bool true) rfl (by rw[h18] <;> rfl) ?_
 refine au [8,6,8,7,8,8,8,9,8,10,8,11,8,12,8,13,8,14,7,15,7,16,24,0,17,20,18,25,8,0,34,9,24,8] ?_
 exact qx (qb (true,())) (by intro c h;cases h)
 intro h18
 refine qy mixed [18] [⟨g11,25,[qyq x7,.slice a9 x8.length c10]⟩] [Sl (eI .u8) 1 (.slice a9 x8.length c10) x8,(BlkD.is ⟨g1,129,[qyq x2,.slice a4 x3.length c5,.bool x6]⟩)] (.cons 0 rfl .nil) (qt 0 rfl (qgx 1 rfl qw)) 19 rfl ?_
 refine au [88,7,2,24,0,3] ?_
 refine qO 4 (.bool x6) [[18]] rfl rfl rfl (yS (j:=1) rfl tf4 rfl rfl (fun _=>rfl) rfl) ?_
 refine au [7,5] ?_
 refine qi (d:=9) (v:=.bool false) rfl (by rw[h18] <;> rfl) ?_
 refine au [7,6,7,7,24,0,8,24,0,9] ?_
 refine qO 10 (qyq x2) [[18]] rfl rfl rfl (yS (j:=1) rfl tf3 rfl rfl (fun _=>rfl) rfl) ?_
 refine au [24,0,11,25,2,12,7,13,7,14,7,15,7,16,24,0,17,20,18,25,8,0,34,9,24,8] ?_
 exact qx (qb ((decide (8192<(iadd .i64 x2 x7))),())) (by intro c h;cases h)
 rintro ⟨x13,_⟩
 try dsimp only
 refine av [62,25,3,84,25,1,63] ?_ ?_
 intro _
 refine qy mixed [9] [⟨g11,25,[qyq x7,.slice a9 x8.length c10]⟩] [Sl (eI .u8) 1 (.slice a9 x8.length c10) x8,(BlkD.is ⟨g1,129,[qyq x2,.slice a4 x3.length c5,.bool x13]⟩)] (.cons 0 rfl .nil) (qt 0 rfl (qgx 1 rfl qw)) 10 rfl ?_
 refine au [88,7,2,24,0,3] ?_
 refine qO 4 (.agg #[qyq x2,.slice a4 x3.length c5]) [[9]] rfl rfl rfl (yS (j:=1) rfl tf25 rfl rfl (by simp) rfl) (q8 5 (.agg #[qyq x7,.slice a9 x8.length c10]) rfl rfl rfl (qQ (i:=0) rfl tf25 rfl rfl (by simp) rfl) ?_)
 refine au [20,6,29,10] ?_
 rintro x14 e14 ⟨a15,c16⟩
 refine au [0] ?_
 refine zd (.cons 0 rfl .nil) (qt 0 rfl (qgx 1 rfl qw)) ?_
 refine au [7,7,24,0,8,20,9,25,8,0] ?_
 refine qbp 9 rfl (by kernel_rfl) (.cons 0 rfl .nil) ?_
 refine au [24,8] ?_
 exact qx (zy (a15,c16)) (by intro c h;cases h)
 intro _
 refine au [13] ?_
 exact zy (a4,c5)
theorem qfG {F:Nat}{g1:Nat}{x2:Int}{x3:qyo}{a4:qyp}{c5:Nat}{x6:Bool}{x7:Int}{r:(Int×qyo×Bool)}(hm:q7 F x2 x3 x6 x7=some r) :
    PureM Tryz.prog 166 [.pointer (some ⟨g1,0,none⟩),qyq x7] [⟨g1,129,[qyq x2,.slice a4 x3.length c5,.bool x6]⟩] [Ro (eI .u8) 5 1 (.slice a4 x3.length c5) x3] [] (qyp×Nat) (fun _=>.tuple #[]) (fun g=>[⟨g1,129,[qyq r.1,.slice g.1 r.2.1.length g.2,.bool r.2.2]⟩]) (fun g=>[Ro (eI .u8) 5 1 (.slice g.1 r.2.1.length g.2) r.2.1]):=by
 refine zw Tryz.func166 rfl Tryz.ntmps166 rfl hm (fun w=>?_)
 refine au [24,11,4,1,1,25,11,34,10] ?_
 rintro x8 e8 ⟨a9,c10⟩
 refine au [34,11] ?_
 rintro x11 e11 ⟨a12,c13⟩
 refine au [0] ?_
 exact zy (a12,c13)
theorem qfa {F:Nat}{g1:Nat}{x2:Int}{x3:qyo}{a4:qyp}{c5:Nat}{x6:Bool}{x7:qyo}{a8:qyp}{c9:Nat}{r:(Int×qyo×Bool)}(hm:vB F x2 x3 x6 x7=some r) :
    PureM Tryz.prog 167 [.pointer (some ⟨g1,0,none⟩),.slice a8 x7.length c9] [⟨g1,129,[qyq x2,.slice a4 x3.length c5,.bool x6]⟩] [Ro (eI .u8) 5 1 (.slice a4 x3.length c5) x3] [Sl (eI .i64) 1 (.slice a8 x7.length c9) x7] (qyp×Nat) (fun _=>.tuple #[]) (fun g=>[⟨g1,129,[qyq r.1,.slice g.1 r.2.1.length g.2,.bool r.2.2]⟩]) (fun g=>[Ro (eI .u8) 5 1 (.slice g.1 r.2.1.length g.2) r.2.1]):=by
 refine zw Tryz.func167 rfl Tryz.ntmps167 rfl hm (fun w=>?_)
 refine au [24,11,62,126,27,12] ?_
 rintro x10 e10 ⟨a11,c12⟩
 refine au [59,124] ?_
 refine qu (fun (((x27,x28,x31,x32),(a29,c30)):((Int×Int×qyo×Bool)×(qyp×Nat)))=>([(0,.pointer (some ⟨g1,0,none⟩)),(10,.slice a8 x7.length c9),(11,qyq (x7.length:Int)),(12,qyq x27)],[⟨g1,129,[qyq x28,.slice a29 x31.length c30,.bool x32]⟩],[Ro (eI .u8) 5 1 (.slice a29 x31.length c30) x31],[Sl (eI .i64) 1 (.slice a8 x7.length c9) x7])) (fun k (s:((Int×Int×qyo×Bool)×(qyp×Nat)))=>zL F x7 k s.1) ((0,x10.1,x10.2.1,x10.2.2),(a11,c12)) F ?_
 intro k47
 rintro ⟨⟨x27,x28,x31,x32⟩,⟨a29,c30⟩⟩
 try dsimp only
 refine qB (m':=yn F x7 (zL F x7 k47) x27 x28 x31 x32) rfl ?_
 refine av [118] ?_ ?_
 intro _
 refine au [74,3,19,62,26,12] ?_
 intro x55 e55 b56 o57
 refine au [25,14,5,60,4,1,1,1,28,0,25,7,27,12] ?_
 rintro x58 e58 ⟨a59,c60⟩
 refine au [0,78,4,23,1,0] ?_
 exact qr ((iadd .i64 x27 1,x58.1,x58.2.1,x58.2.2),(a59,c60))
 intro _
 refine au [87] ?_
 exact zy (a29,c30)
set_option maxHeartbeats 4000000 in
theorem qf1 {F:Nat}{g1:Nat}{x2:Int}{x3:qyo}{a4:qyp}{c5:Nat}{x6:Bool}{x7:Int}{x8:Int}{x9:List (Int×Int)}{a10:qyp}{c11:Nat}{r:(Int×qyo×Bool)}(hm:jq F x2 x3 x6 x7 x8 x9=some r) :
    PureM Tryz.prog 168 [.pointer (some ⟨g1,0,none⟩),qyq x7,qyq x8,.slice a10 x9.length c11] [⟨g1,129,[qyq x2,.slice a4 x3.length c5,.bool x6]⟩] [Ro (eI .u8) 5 1 (.slice a4 x3.length c5) x3] [Sl eS154 2 (.slice a10 x9.length c11) x9] (qyp×Nat) (fun _=>.tuple #[]) (fun g=>[⟨g1,129,[qyq r.1,.slice g.1 r.2.1.length g.2,.bool r.2.2]⟩]) (fun g=>[Ro (eI .u8) 5 1 (.slice g.1 r.2.1.length g.2) r.2.1]):=by
 refine zw Tryz.func168 rfl Tryz.ntmps168 rfl hm (fun w=>?_)
 refine au [27,9,62,126,27,12] ?_
 rintro x12 e12 ⟨a13,c14⟩
 refine au [59,62,75,110] ?_
 refine qu (fun (((x73,x74,x75,x78,x79),(a76,c77)):((Int×Int×Int×qyo×Bool)×(qyp×Nat)))=>([(0,.pointer (some ⟨g1,0,none⟩)),(2,qyq x8),(8,qyq x73),(16,.slice a10 x9.length c11),(17,qyq (x9.length:Int)),(18,qyq x74)],[⟨g1,129,[qyq x75,.slice a76 x78.length c77,.bool x79]⟩],[Ro (eI .u8) 5 1 (.slice a76 x78.length c77) x78],[Sl eS154 2 (.slice a10 x9.length c11) x9])) (fun k (s:((Int×Int×Int×qyo×Bool)×(qyp×Nat)))=>zu F x8 x9 k s.1) ((x7,0,x12.1,x12.2.1,x12.2.2),(a13,c14)) F ?_
 intro k0
 rintro ⟨⟨x73,x74,x75,x78,x79⟩,⟨a76,c77⟩⟩
 try dsimp only
 refine qB (m':=yY F x8 x9 (zu F x8 x9 k0) x73 x74 x75 x78 x79) rfl ?_
 refine av [118] ?_ ?_
 intro _
 refine au [74,3,19,62,30,15] ?_
 intro x0 e0 b0 o0
 refine au [31,0,24,9] ?_
 intro g0
 refine au [5,97] ?_
 refine qh (fun (((x1,x4,x5),(a0,c0)):((Int×qyo×Bool)×(qyp×Nat)))=>([(0,.pointer (some ⟨g1,0,none⟩)),(2,qyq x8),(10,.pointer (some ⟨g0,0,none⟩)),(16,.slice a10 x9.length c11),(17,qyq (x9.length:Int)),(18,qyq x74)],[⟨g1,129,[qyq x1,.slice a0 x4.length c0,.bool x5]⟩,⟨g0,154,[qyq x0.1,qyq x0.2]⟩],[Ro (eI .u8) 5 1 (.slice a0 x4.length c0) x4],[Sl eS154 2 (.slice a10 x9.length c11) x9],kT F (zu F x8 x9 k0) x8 x74 x0 x1 x4 x5)) ?_ ?_
 refine av [98,63] ?_ ?_
 intro _
 refine au [4,1,73,1,25,7,32,15] ?_
 intro x10 e1 _
 refine au [25,11,27,12] ?_
 rintro x11 e2 ⟨a1,c1⟩
 refine au [0] ?_
 exact qb ((x11.1,x11.2.1,x11.2.2),(a1,c1))
 intro _
 refine au [4,1,73,1,25,7,25,7,27,12] ?_
 rintro x13 e3 ⟨a2,c2⟩
 refine au [0] ?_
 exact qb ((x13.1,x13.2.1,x13.2.2),(a2,c2))
 rintro ⟨⟨x1,x4,x5⟩,⟨a0,c0⟩⟩
 try dsimp only
 refine au [62,84,1,25,7,27,12] ?_
 rintro x14 e4 ⟨a3,c3⟩
 refine au [59,4,84,84,23,25,7,5,0,78,4,23,1,0] ?_
 exact qr ((isub .i64 (iadd .i64 x0.1 x0.2) 1,iadd .i64 x74 1,x14.1,x14.2.1,x14.2.2),(a3,c3))
 intro _
 refine au [87] ?_
 exact zy (a76,c77)
set_option maxHeartbeats 4000000 in
theorem qf0 {F:Nat}{g1:Nat}{x2:Int}{x3:qyo}{a4:qyp}{c5:Nat}{x6:Bool}{x7:Int}{x8:qyo}{a9:qyp}{c10:Nat}{x11:qyo}{a12:qyp}{c13:Nat}{x14:Int}{x15:Int}{x16:Int}{r:(Int×qyo×Bool)}(hm:yO F x2 x3 x6 x7 x8 x11 x14 x15 x16=some r) :
    PureM Tryz.prog 81 [.pointer (some ⟨g1,0,none⟩),qyq x7,.slice a9 x8.length c10,.slice a12 x11.length c13,.agg #[qyq x14,qyq x15,qyq x16]] [⟨g1,129,[qyq x2,.slice a4 x3.length c5,.bool x6]⟩] [Ro (eI .u8) 5 1 (.slice a4 x3.length c5) x3] [Sl (eI .i64) 1 (.slice a9 x8.length c10) x8,Sl (eI .i64) 1 (.slice a12 x11.length c13) x11] (qyp×Nat) (fun _=>.tuple #[]) (fun g=>[⟨g1,129,[qyq r.1,.slice g.1 r.2.1.length g.2,.bool r.2.2]⟩]) (fun g=>[Ro (eI .u8) 5 1 (.slice g.1 r.2.1.length g.2) r.2.1]):=by
 refine zw Tryz.func81 rfl Tryz.ntmps81 rfl hm (fun w=>?_)
 refine au [28,14,82] ?_
 intro g17
 refine au [59,62,126,27,12] ?_
 rintro x18 e18 ⟨a19,c20⟩
 refine av [59,83,24,6,24,2,63] ?_ ?_
 intro _
 refine au [9,14] ?_
 exact zy (a19,c20)
 intro _
 refine au [74,62,60] ?_
 refine qh (fun (((x33,x34,x37,x38),(a31,c32,a35,c36)):((qyo×Int×qyo×Bool)×(qyp×Nat×qyp×Nat)))=>([(0,.pointer (some ⟨g1,0,none⟩)),(1,qyq x7),(9,.pointer (some ⟨g17,0,none⟩)),(10,.slice a31 x33.length c32)],[⟨g1,129,[qyq x34,.slice a35 x37.length c36,.bool x38]⟩,⟨g17,27,[qyq x14,qyq x15,qyq x16]⟩],[Ro (eI .u8) 5 1 (.slice a35 x37.length c36) x37],[Sl (eI .i64) 1 (.slice a31 x33.length c32) x33],kQ F x7 x15 x16 x33 x34 x37 x38)) ?_ ?_
 refine av [61,84,103] ?_ ?_
 intro _
 refine au [61,75,1,34,8] ?_
 rintro x0 e0 ⟨⟨a0,c0⟩,⟨a1,c1⟩⟩
 refine au [80,5,60,4,1,1] ?_
 refine qW qfa ?_
 rintro x1 e1 ⟨a2,c2⟩
 refine au [0,34,12] ?_
 exact qb ((x0.2,x1.1,x1.2.1,x1.2.2),(a1,c1,a2,c2))
 intro _
 refine au [13] ?_
 exact qb ((x8,x18.1,x18.2.1,x18.2.2),(a9,c10,a19,c20))
 rintro ⟨⟨x33,x34,x37,x38⟩,⟨a31,c32,a35,c36⟩⟩
 try dsimp only
 refine av [83,24,6,24,2,63] ?_ ?_
 intro _
 refine au [9,14] ?_
 exact zy (a35,c36)
 intro _
 refine au [74] ?_
 refine qh (fun (((x51,x52,x55,x56),(a49,c50,a53,c54)):((qyo×Int×qyo×Bool)×(qyp×Nat×qyp×Nat)))=>([(0,.pointer (some ⟨g1,0,none⟩)),(1,qyq x7),(9,.pointer (some ⟨g17,0,none⟩)),(10,.slice a49 x51.length c50)],[⟨g1,129,[qyq x52,.slice a53 x55.length c54,.bool x56]⟩,⟨g17,27,[qyq x14,qyq x15,qyq x16]⟩],[Ro (eI .u8) 5 1 (.slice a53 x55.length c54) x55],[Sl (eI .i64) 1 (.slice a49 x51.length c50) x51],kR F x7 x16 x51 x52 x55 x56)) ?_ ?_
 refine av [61,84,103] ?_ ?_
 intro _
 refine au [61,75,84,33,15] ?_
 rintro x4 e2 ⟨⟨a3,c3⟩,⟨a5,c4⟩⟩
 refine au [80,5,60,4,1,1,84,1] ?_
 refine qW qf1 ?_
 rintro x5 e3 ⟨a6,c6⟩
 refine au [0,34,12] ?_
 exact qb ((x4.2,x5.1,x5.2.1,x5.2.2),(a5,c4,a6,c6))
 intro _
 refine au [13] ?_
 exact qb ((x33,x34,x37,x38),(a31,c32,a35,c36))
 rintro ⟨⟨x51,x52,x55,x56⟩,⟨a49,c50,a53,c54⟩⟩
 try dsimp only
 refine qh (fun (((x76,x77,x80),(g75,a78,c79)):((Bool×Int×qyo)×(Nat×qyp×Nat)))=>([(0,.pointer (some ⟨g1,0,none⟩)),(13,.pointer (some ⟨g75,0,none⟩)),(14,.bool x76)],[⟨g1,129,[qyq x52,.slice a53 x55.length c54,.bool x56]⟩,⟨g75,25,[qyq x77,.slice a78 x80.length c79]⟩],[Ro (eI .u8) 5 1 (.slice a53 x55.length c54) x55,Ro (eI .u8) 5 1 (.slice a78 x80.length c79) x80],[],kS F x52 x55 x56 x76 x77 x80)) ?_ ?_
 refine qy mixed [] [⟨g1,129,[qyq x52,.slice a53 x55.length c54,.bool x56]⟩,⟨g17,27,[qyq x14,qyq x15,qyq x16]⟩] [Sl (eI .i64) 1 (.slice a49 x51.length c50) x51] (.cons 0 rfl (.cons 0 rfl .nil)) (qt 0 rfl qw) 13 rfl (qm 0 (.agg #[qyq 0,.slice none 0 0]) rfl rfl rfl (qdr (cells:=[qyq 0,.slice none 0 0]) st25 rfl (by kernel_rfl)) ?_)
 refine au [7,1,7,2,24,0,4,27,13,5] ?_
 refine qa9 3 10 rfl rfl (by kernel_rfl) rfl rfl ?_ ?_
 refine au [30,9] ?_
 rintro x85 e85 ⟨a86,c87⟩
 refine au [0,31,4] ?_
 refine qa9 6 10 rfl rfl (by kernel_rfl) rfl rfl ?_ ?_
 refine au [26,8,29,11] ?_
 rintro x88 e88 ⟨a89,c90⟩
 refine au [0,31,4,7,7,7,8,7,9,20,10,24,9] ?_
 intro g91
 refine au [0,27,1,20,11,102,27,1,7,12,24,8] ?_
 exact qx (qb ((x88.2.2,x88.1,x88.2.1),(g91,a89,c90))) (by intro c h;cases h)
 refine qba (m':=((qaH F 0 ([]:qyo) x85 x16).bind fun x93=>kS F x52 x55 x56 x93.2.2 x93.1 x93.2.1)) (rfl) ?_
 refine au [24,9] ?_
 intro g92
 refine au [0,27,1,20,6,26,8,29,11] ?_
 rintro x93 e93 ⟨a94,c95⟩
 refine au [0,27,1,7,7,7,8,7,9,20,11,102,27,1,7,12,24,8] ?_
 exact qx (qb ((x93.2.2,x93.1,x93.2.1),(g92,a94,c95))) (by intro c h;cases h)
 refine qba (m':=((qcH F x51 x7).bind fun x97=>((qaH F 0 ([]:qyo) x97 x16).bind fun x9=>kS F x52 x55 x56 x9.2.2 x9.1 x9.2.1))) (rfl) ?_
 refine au [24,9] ?_
 intro g96
 refine au [0,27,1,20,3,30,9] ?_
 rintro x97 e97 ⟨a98,c99⟩
 refine au [0,27,1,20,6,26,8,29,11] ?_
 rintro x9 e4 ⟨a7,c7⟩
 refine au [0,27,1,7,7,7,8,7,9,20,11,102,27,1,7,12,24,8] ?_
 exact qx (qb ((x9.2.2,x9.1,x9.2.1),(g96,a7,c7))) (by intro c h;cases h)
 rintro ⟨⟨x76,x77,x80⟩,⟨g75,a78,c79⟩⟩
 try dsimp only
 refine au [62,1,25,3,73,1] ?_
 refine qk 3 x56 [(0,.pointer (some ⟨g1,0,none⟩)),(13,.pointer (some ⟨g75,0,none⟩)),(64,.pointer (some ⟨g1,0,none⟩)),(72,.bool (x56 || (!x76)))] (fun h81=>?_) (fun h81=>?_) ?_
 refine qa (os:=_) rfl (qf (k:=69) rfl h81 ?_)
 refine au [66,16] ?_
 refine qc (d:=72) (v:=.bool (x56 || (!x76))) rfl (by rw[h81];simp only[qv4]) ?_
 exact az [68]
 refine qa (os:=_) rfl (qe (k:=69) rfl h81 ?_)
 refine au [1,25,1,17] ?_
 refine qc (d:=72) (v:=.bool (x56 || (!x76))) rfl (by rw[h81];simp only[qv2]) ?_
 exact az [68]
 refine qa (os:=_) rfl ?_
 refine au [96,97,4,1,25,4,34,11] ?_
 rintro x82 e82 ⟨a83,c84⟩
 refine au [0] ?_
 exact zy (a83,c84)
set_option maxHeartbeats 4000000 in
theorem qgn (F:Nat)(x1:Int)(x2:qyo)(a3:qyp)(c4:Nat)(x5:qyo)(a6:qyp)(c7:Nat)(x8:Int)(x9:Int)(x10:Int)(r:(Int×qyo×Int))(hm:jo F x1 x2 x5 x8 x9 x10=some r) :
    Pure Tryz.prog 15 [qyq x1,.slice a3 x2.length c4,.slice a6 x5.length c7,.agg #[qyq x8,qyq x9,qyq x10]] [Sl (eI .i64) 1 (.slice a3 x2.length c4) x2,Sl (eI .i64) 1 (.slice a6 x5.length c7) x5] (qyp×Nat) (fun g=>.tuple #[.agg #[qyq r.1,.slice g.1 r.2.1.length g.2],qyq r.2.2]) (fun g=>[Ro (eI .u8) 5 1 (.slice g.1 r.2.1.length g.2) r.2.1]) (fun _=>[]):=by
 refine ql Tryz.func15 rfl Tryz.ntmps15 rfl hm (fun w=>?_)
 refine au [27,9,82] ?_
 intro g11
 refine au [24,9] ?_
 intro g12
 refine au [79,25,4,28,15] ?_
 intro x13 e13 _
 refine au [60] ?_
 refine qh (fun ((x19,_):(Int×Unit))=>([(0,qyq x1),(1,.slice a3 x2.length c4),(2,.slice a6 x5.length c7),(7,.pointer (some ⟨g11,0,none⟩)),(8,.pointer (some ⟨g12,0,none⟩)),(10,qyq x19)],[⟨g12,25,[qyq 0,.slice none 0 0]⟩,⟨g11,27,[qyq x8,qyq x9,qyq x10]⟩],[],[Sl (eI .i64) 1 (.slice a3 x2.length c4) x2,Sl (eI .i64) 1 (.slice a6 x5.length c7) x5],vg F x1 x2 x5 x8 x9 x10 x19)) ?_ ?_
 refine au [98,1] ?_
 refine qq 7 (fun ((x40,_):(Bool×Unit))=>([(0,qyq x1),(1,.slice a3 x2.length c4),(2,.slice a6 x5.length c7),(7,.pointer (some ⟨g11,0,none⟩)),(8,.pointer (some ⟨g12,0,none⟩)),(10,qyq x13),(23,.bool x40)],[⟨g12,25,[qyq 0,.slice none 0 0]⟩,⟨g11,27,[qyq x8,qyq x9,qyq x10]⟩],[],[Sl (eI .i64) 1 (.slice a3 x2.length c4) x2,Sl (eI .i64) 1 (.slice a6 x5.length c7) x5],jH F x1 x2 x5 x8 x9 x10 x13 x40)) ?_ ?_
 refine qa (os:=_) rfl ?_
 refine av [24,12] ?_ ?_
 intro h38
 refine qf (k:=16) rfl h38 ?_
 refine au [1,125] ?_
 refine qk 3 (decide (x1<0)) [(0,qyq x1),(1,.slice a3 x2.length c4),(2,.slice a6 x5.length c7),(7,.pointer (some ⟨g11,0,none⟩)),(8,.pointer (some ⟨g12,0,none⟩)),(10,qyq x13),(16,.bool true),(22,.bool ((decide (x1<0)) || (decide (1048576<x1))))] (fun h42=>?_) (fun h42=>?_) ?_
 refine qa (os:=_) rfl (qf (k:=19) rfl h42 ?_)
 refine au [66,16] ?_
 refine qc (d:=22) (v:=.bool ((decide (x1<0)) || (decide (1048576<x1)))) rfl (by rw[h42];simp only[qv4]) ?_
 exact az [68]
 refine qa (os:=_) rfl (qe (k:=19) rfl h42 ?_)
 refine au [1,92] ?_
 refine qc (d:=22) (v:=.bool ((decide (x1<0)) || (decide (1048576<x1)))) rfl (by rw[h42];simp only[qv2]) ?_
 exact az [68]
 refine qa (os:=_) rfl ?_
 refine au [16,0] ?_
 exact qb (((decide (x1<0)) || (decide (1048576<x1))),())
 intro h38
 refine qe (k:=16) rfl h38 ?_
 refine au [72,90,0] ?_
 exact qb (false,())
 rintro ⟨x40,_⟩
 try dsimp only
 refine qa (os:=_) rfl ?_
 refine av [63] ?_ ?_
 intro _
 refine au [4,5,0] ?_
 exact qb ((3:Int),())
 intro _
 refine au [13] ?_
 exact qb (x13,())
 rintro ⟨x19,_⟩
 try dsimp only
 refine qh (fun ((x22,_):(Int×Unit))=>([(0,qyq x1),(1,.slice a3 x2.length c4),(2,.slice a6 x5.length c7),(7,.pointer (some ⟨g11,0,none⟩)),(8,.pointer (some ⟨g12,0,none⟩)),(10,qyq x22)],[⟨g12,25,[qyq 0,.slice none 0 0]⟩,⟨g11,27,[qyq x8,qyq x9,qyq x10]⟩],[],[Sl (eI .i64) 1 (.slice a3 x2.length c4) x2,Sl (eI .i64) 1 (.slice a6 x5.length c7) x5],vh F x1 x2 x5 x8 x9 x10 x22)) ?_ ?_
 refine av [98,63] ?_ ?_
 intro _
 refine au [4,1,26,14] ?_
 intro x36 e36 _
 refine au [5,0] ?_
 exact qb (x36,())
 intro _
 refine au [13] ?_
 exact qb (x19,())
 rintro ⟨x22,_⟩
 try dsimp only
 refine qh (fun ((x25,_):(Int×Unit))=>([(0,qyq x1),(1,.slice a3 x2.length c4),(2,.slice a6 x5.length c7),(7,.pointer (some ⟨g11,0,none⟩)),(8,.pointer (some ⟨g12,0,none⟩)),(10,qyq x25)],[⟨g12,25,[qyq 0,.slice none 0 0]⟩,⟨g11,27,[qyq x8,qyq x9,qyq x10]⟩],[],[Sl (eI .i64) 1 (.slice a3 x2.length c4) x2,Sl (eI .i64) 1 (.slice a6 x5.length c7) x5],jG F x1 x2 x5 x8 x9 x10 x25)) ?_ ?_
 refine av [98,63] ?_ ?_
 intro _
 refine au [4,1,1,25,4,34,13] ?_
 intro x34 e34 _
 refine au [5,0] ?_
 exact qb (x34,())
 intro _
 refine au [13] ?_
 exact qb (x22,())
 rintro ⟨x25,_⟩
 try dsimp only
 refine av [83,81] ?_ ?_
 intro _
 refine au [61] ?_
 refine qo (cells:=[qyq 0,.slice none 0 0]) rfl st25 rfl (by kernel_rfl) rfl ?_
 refine au [1,24,3,77,25,12] ?_
 exact qF (none,0) (resL (rs:=[.cell 8 25,.tmp 9]) rfl (.cell (i:=0) rfl tf25 rfl rfl (by simp) rfl (.tmp rfl ResOk.nil)) rfl) (fun h=>by subst h;exact (.cons 0 rfl .nil))
 intro _
 refine au [108] ?_
 refine qo (cells:=[qyq 0,.slice none 0 0,.bool false]) rfl st129 rfl (by kernel_rfl) rfl ?_
 refine au [24,1] ?_
 intro g27
 refine au [75,1,1,1,26,2,26,8,34,14] ?_
 rintro x28 e28 ⟨a29,c30⟩
 refine av [59,83,25,3,73,63] ?_ ?_
 intro _
 refine au [61] ?_
 refine qo (cells:=[qyq 0,.slice none 0 0]) rfl st25 rfl (by kernel_rfl) rfl ?_
 refine au [25,8,77,25,12] ?_
 exact qF (none,0) (resL (rs:=[.cell 8 25,.tmp 9]) rfl (.cell (i:=1) rfl tf25 rfl rfl (by simp) rfl (.tmp rfl ResOk.nil)) rfl) (fun h=>by subst h;exact (.cons 0 rfl .nil))
 intro _
 refine au [74,62,96,24,4,25,8,64] ?_
 exact qF (a29,c30) (resL (rs:=[.cell 8 25,.tmp 9]) rfl (.cell (i:=1) rfl tf25 rfl rfl (by simp) rfl (.tmp rfl ResOk.nil)) rfl) (fun h=>by subst h;exact (.cons 0 rfl .nil))
set_option maxHeartbeats 4000000 in
theorem qkt {F:Nat}{x1:Int}{x2:qyo}{a3:qyp}{c4:Nat}{r:Int}(hm:yw F x1 x2=some r) :
    Pure Tryz.prog 110 [.agg #[qyq x1,.slice a3 x2.length c4]] [Sl (eI .u8) 1 (.slice a3 x2.length c4) x2] Unit (fun _=>qyq r) (fun _=>[]) (fun _=>[]):=by
 refine ql Tryz.func110 rfl Tryz.ntmps110 rfl hm (fun w=>?_)
 refine au [25,9,82] ?_
 intro g5
 refine au [60,3,19,61,73,125] ?_
 refine qk 4 (decide (x1<0)) [(1,.pointer (some ⟨g5,0,none⟩)),(11,.bool ((decide (x1<0)) || (decide (8192<x1))))] (fun h27=>?_) (fun h27=>?_) ?_
 refine qa (os:=_) rfl (qf (k:=7) rfl h27 ?_)
 refine au [66,6,16] ?_
 refine qc (d:=11) (v:=.bool ((decide (x1<0)) || (decide (8192<x1)))) rfl (by rw[h27];simp only[qv4]) ?_
 exact az [68]
 refine qa (os:=_) rfl (qe (k:=7) rfl h27 ?_)
 refine au [73,92] ?_
 refine qc (d:=11) (v:=.bool ((decide (x1<0)) || (decide (8192<x1)))) rfl (by rw[h27];simp only[qv2]) ?_
 exact az [68]
 refine qa (os:=_) rfl ?_
 refine av [60,11] ?_ ?_
 intro _
 exact az [61,64,67,18]
 intro _
 refine av [61,73,24,6,73,23,30,12,25,0,60,11] ?_ ?_
 intro _
 exact az [61,64,67,18]
 intro _
 refine qh (fun ((x36,_):(Bool×Unit))=>([(21,.bool x36)],[],[],[],jw F x36)) ?_ ?_
 refine av [27,5] ?_ ?_
 intro h38
 refine au [31,5] ?_
 intro x39 e39 b40 o41 h42
 replace h42:a3=some ⟨b40,o41,none⟩:=h42
 refine au [27,8] ?_
 intro h43
 refine qy mixed [] [⟨g5,25,[qyq x1,.slice a3 x2.length c4]⟩] [qK b40 (o41+(isub .i64 (x2.length:Int) 1).toNat*1) ((eI .u8) x39),Sl (eI .u8) 1 (.slice a3 x2.length c4) x2] (.cons 0 rfl .nil) (qt 0 rfl (qt 1 rfl qw)) 20 rfl ?_
 refine au [100] ?_
 refine qm 2 (qyq (irem x1 8)) rfl rfl rfl (qlA rfl rfl rfl) ?_
 refine au [7,3,7,4] ?_
 refine qi (d:=26) (v:=.bool true) rfl (by rw[h38] <;> rfl) ?_
 refine au [24,0,5,25,2,6,24,0,7,25,2,8,26,11,9,7,10] ?_
 refine qi (d:=28) (v:=.slice (some ⟨b40,o41,none⟩) x2.length c4) rfl (by rw[h42] <;> rfl) (qm 11 (.pointer (some ⟨b40,(o41+(isub .i64 (x2.length:Int) 1).toNat*1),none⟩)) rfl rfl rfl (vI Tryz.underlying23 tf5 rfl rfl (qP e39).1 (yr e39)) (qi (d:=28) (v:=.slice a3 x2.length c4) rfl (by rw[h42] <;> rfl) (qO 12 (.int .u8 x39) [] rfl rfl rfl (zG (j:=0) rfl tf5 rfl rfl (fun _=>rfl) rfl) ?_)))
 refine au [24,0,13,25,2,14] ?_
 refine qm 15 (qyq (irem x1 8)) rfl rfl rfl (qlA rfl rfl rfl) (qm 16 (.int .u8 (ishl .u8 x39 (irem x1 8))) rfl rfl rfl (qga rfl rfl h43) ?_)
 refine au [7,17,7,18,7,19,24,8] ?_
 exact qx (qb ((((ishl .u8 x39 (irem x1 8)):Int) != 0),())) (by intro c h;cases h)
 intro h38
 refine qy mixed [] [⟨g5,25,[qyq x1,.slice a3 x2.length c4]⟩] [Sl (eI .u8) 1 (.slice a3 x2.length c4) x2] (.cons 0 rfl .nil) (qt 0 rfl qw) 20 rfl ?_
 refine au [100] ?_
 refine qm 2 (qyq (irem x1 8)) rfl rfl rfl (qlA rfl rfl rfl) ?_
 refine au [7,3,7,4] ?_
 refine qi (d:=26) (v:=.bool false) rfl (by rw[h38] <;> rfl) ?_
 refine au [8,5,8,6,8,7,8,8,8,9,8,10,8,11,8,12,8,13,8,14,8,15,8,16,8,17,7,18,7,19,24,8] ?_
 exact qx (qb (false,())) (by intro c h;cases h)
 rintro ⟨x36,_⟩
 try dsimp only
 refine av [11] ?_ ?_
 intro _
 exact az [61,64,67,18]
 intro _
 exact az [13,78,61,85]
set_option maxHeartbeats 4000000 in
theorem qjj {F:Nat}{x1:Int}{x2:qyo}{a3:qyp}{c4:Nat}{x5:Int}{r:Int}(hm:jM F x1 x2 x5=some r) :
    Pure Tryz.prog 82 [.agg #[qyq x1,.slice a3 x2.length c4],qyq x5] [Sl (eI .u8) 1 (.slice a3 x2.length c4) x2] Unit (fun _=>qyq r) (fun _=>[]) (fun _=>[]):=by
 refine ql Tryz.func82 rfl Tryz.ntmps82 rfl hm (fun w=>?_)
 refine au [94] ?_
 intro g6
 refine au [91,28,1] ?_
 intro x7 e7 _
 refine au [60] ?_
 refine qh (fun ((x13,_):(Int×Unit))=>([(5,qyq x13)],[],[],[],qa1 F x13)) ?_ ?_
 refine au [98,1] ?_
 refine qq 9 (fun ((x16,_):(Bool×Unit))=>([(5,qyq x7),(19,.bool x16)],[],[],[],qa2 F x7 x16)) ?_ ?_
 refine qa (os:=_) rfl ?_
 refine av [24,12] ?_ ?_
 intro h14
 refine qf (k:=10) rfl h14 ?_
 refine au [1,125] ?_
 refine qk 5 (decide (x5<0)) [(5,qyq x7),(10,.bool true),(18,.bool ((decide (x5<0)) || (decide (x1<x5))))] (fun h18=>?_) (fun h18=>?_) ?_
 refine qa (os:=_) rfl (qf (k:=13) rfl h18 ?_)
 refine au [72,16] ?_
 refine qc (d:=18) (v:=.bool ((decide (x5<0)) || (decide (x1<x5)))) rfl (by rw[h18];simp only[qv4]) ?_
 exact az [68]
 refine qa (os:=_) rfl (qe (k:=13) rfl h18 ?_)
 refine au [1,73,92] ?_
 refine qc (d:=18) (v:=.bool ((decide (x5<0)) || (decide (x1<x5)))) rfl (by rw[h18];simp only[qv2]) ?_
 exact az [68]
 refine qa (os:=_) rfl ?_
 refine au [16,0] ?_
 exact qb (((decide (x5<0)) || (decide (x1<x5))),())
 intro h14
 refine qe (k:=10) rfl h14 ?_
 refine au [72,72,17,0] ?_
 exact qb (false,())
 rintro ⟨x16,_⟩
 try dsimp only
 refine qa (os:=_) rfl ?_
 refine av [63] ?_ ?_
 intro _
 refine au [4,5,0] ?_
 exact qb ((3:Int),())
 intro _
 refine au [13] ?_
 exact qb (x7,())
 rintro ⟨x13,_⟩
 try dsimp only
 exact az [62,85]
set_option maxHeartbeats 4000000 in
theorem qkL {F:Nat}{x1:Int}{x2:qyo}{a3:qyp}{c4:Nat}{x5:Int}{r:(Int×Int×Bool)}(hm:qck F x1 x2 x5=some r) :
    Pure Tryz.prog 125 [.agg #[qyq x1,.slice a3 x2.length c4],qyq x5] [Sl (eI .u8) 1 (.slice a3 x2.length c4) x2] Unit (fun _=>.tuple #[.int .u64 r.1,qyq r.2.1,.bool r.2.2]) (fun _=>[]) (fun _=>[]):=by
 refine ql Tryz.func125 rfl Tryz.ntmps125 rfl hm (fun w=>?_)
 refine au [94] ?_
 intro g6
 refine au [5,5,60] ?_
 refine qh (fun ((_,_):(Unit×Unit))=>([],[],[],[],qe4 F)) ?_ ?_
 refine au [62,60,19] ?_
 refine qu (fun ((x33,_):(Int×Unit))=>([(1,qyq x5),(2,.pointer (some ⟨g6,0,none⟩)),(7,qyq x33)],[⟨g6,25,[qyq x1,.slice a3 x2.length c4]⟩],[],[Sl (eI .u8) 1 (.slice a3 x2.length c4) x2])) (fun k (s:(Int×Unit))=>vi F x1 x2 x5 k s.1) (x5,()) F ?_
 intro k40
 rintro ⟨x33,_⟩
 try dsimp only
 refine qB (m':=qbI F x1 x2 x5 (vi F x1 x2 x5 k40) x33) rfl ?_
 refine av [83,73,101] ?_ ?_
 intro _
 refine au [74,3,19,61,24,4,1,27,10] ?_
 intro x44 e44 _
 refine av [24,2,63] ?_ ?_
 intro _
 exact az [62,1,25,7,25,11,1,23,5,5,64,129,18]
 intro _
 refine au [13,78,4,1,23,5,0] ?_
 exact qr (iadd .i64 x33 1,())
 intro _
 exact az [87,26,0]
 rintro ⟨_,_⟩
 try dsimp only
 exact az [61,5,5,85]
set_option maxHeartbeats 4000000 in
theorem qlD {F:Nat}{x1:Int}{x2:qyo}{a3:qyp}{c4:Nat}{x5:Int}{x6:Int}{r:(Int×Bool)}(hm:vn F x1 x2 x5 x6=some r) :
    Pure Tryz.prog 206 [.agg #[qyq x1,.slice a3 x2.length c4],qyq x5,qyq x6] [Sl (eI .u8) 1 (.slice a3 x2.length c4) x2] Unit (fun _=>.tuple #[.int .u64 r.1,.bool r.2]) (fun _=>[]) (fun _=>[]):=by
 refine ql Tryz.func206 rfl Tryz.ntmps206 rfl hm (fun w=>?_)
 refine au [106] ?_
 intro g7
 refine av [5,60,3,61,73,1,25,7,1,101] ?_ ?_
 intro _
 exact az [61,5,99]
 intro _
 refine au [74] ?_
 refine qh (fun ((x24,_):(Int×Unit))=>([(6,.int .u64 x24)],[],[],[],qdJ F x24)) ?_ ?_
 refine au [62,1,109] ?_
 refine qu (fun (((x29,x30),_):((Int×Int)×Unit))=>([(1,qyq x5),(3,.pointer (some ⟨g7,0,none⟩)),(6,.int .u64 x29),(15,qyq x6),(16,qyq x30)],[⟨g7,25,[qyq x1,.slice a3 x2.length c4]⟩],[],[Sl (eI .u8) 1 (.slice a3 x2.length c4) x2])) (fun k (s:((Int×Int)×Unit))=>vO F x1 x2 x5 x6 k s.1) ((0,0),()) F ?_
 intro k35
 rintro ⟨⟨x29,x30⟩,_⟩
 try dsimp only
 refine qB (m':=qbY F x1 x2 x5 x6 (vO F x1 x2 x5 x6 k35) x29 x30) rfl ?_
 refine av [118] ?_ ?_
 intro _
 refine au [74,3,19,62,60,4,1,32,13,24,4,1,1,23,27,10] ?_
 intro x38 e38 _
 refine au [34,15,5,0,78,4,23,1,0] ?_
 exact qr ((ior .u64 (ishl .u64 x29 1) x38,iadd .i64 x30 1),())
 intro _
 refine au [87] ?_
 exact qb (x29,())
 rintro ⟨x24,_⟩
 try dsimp only
 exact az [62,5,85]
set_option maxHeartbeats 4000000 in
theorem qfT {F:Nat}{x1:Int}{x2:qyo}{a3:qyp}{c4:Nat}{x5:Int}{x6:Int}{r:(Int×Int×Bool)}(hm:zn F x1 x2 x5 x6=some r) :
    Pure Tryz.prog 213 [.agg #[qyq x1,.slice a3 x2.length c4],qyq x5,.int .u64 x6] [Sl (eI .u8) 1 (.slice a3 x2.length c4) x2] Unit (fun _=>.tuple #[.int .u64 r.1,qyq r.2.1,.bool r.2.2]) (fun _=>[]) (fun _=>[]):=by
 refine ql Tryz.func213 rfl Tryz.ntmps213 rfl hm (fun w=>?_)
 refine au [106] ?_
 intro g7
 refine au [5,5,75,33,9] ?_
 intro x8 e8 _
 refine au [80,5,60] ?_
 refine qh (fun ((_,_):(Unit×Unit))=>([(1,qyq x5),(3,.pointer (some ⟨g7,0,none⟩)),(9,qyq x8.1),(10,.int .u64 x8.2)],[⟨g7,25,[qyq x1,.slice a3 x2.length c4]⟩],[],[Sl (eI .u8) 1 (.slice a3 x2.length c4) x2],zp F x1 x2 x5 x8)) ?_ ?_
 refine av [62,103] ?_ ?_
 intro _
 refine au [61,24,4,1,1,25,7,30,1] ?_
 intro x15 e15 _
 refine av [80,5,93,25,1,63] ?_ ?_
 intro _
 exact az [61,5,5,77,14,18]
 intro _
 refine av [74,62,1,101] ?_ ?_
 intro _
 exact az [62,1,1,23,25,7,5,5,99]
 intro _
 exact az [13,26,0]
 intro _
 exact az [13,26,0]
 rintro ⟨_,_⟩
 try dsimp only
 refine au [61,24,4,1,1,30,1] ?_
 intro x14 e14 _
 exact az [80,5,75,1,25,7,1,1,23,1,5,5,85]
theorem qh1 {F:Nat}{x1:Int}{x2:Int}{x3:Bool}{r:(Int×Int×Int)}(hm:qb6 F x1 x2 x3=some r) :
    Pure Tryz.prog 214 [.int .u64 x1,qyq x2,.bool x3] [] Unit (fun _=>.tuple #[.int .u64 r.1,qyq r.2.1,qyq r.2.2]) (fun _=>[]) (fun _=>[]):=by
 refine ql Tryz.func214 rfl Tryz.ntmps214 rfl hm (fun w=>?_)
 refine av [25,15,61,5,5,60,3,19,62,25,1,60,11] ?_ ?_
 intro _
 exact az [61,5,5,64,67,18]
 intro _
 refine av [62,24,15,60,11] ?_ ?_
 intro _
 exact az [61,5,5,64,67,18]
 intro _
 exact az [13,78,62,1,5,5,85]
set_option maxHeartbeats 4000000 in
theorem qgg {F:Nat}{x1:Int}{x2:qyo}{a3:qyp}{c4:Nat}{x5:Int}{x6:Int}{r:(Int×Int×Int)}(hm:qag F x1 x2 x5 x6=some r) :
    Pure Tryz.prog 215 [.agg #[qyq x1,.slice a3 x2.length c4],qyq x5,qyq x6] [Sl (eI .u8) 1 (.slice a3 x2.length c4) x2] Unit (fun _=>.tuple #[.int .u64 r.1,qyq r.2.1,qyq r.2.2]) (fun _=>[]) (fun _=>[]):=by
 refine ql Tryz.func215 rfl Tryz.ntmps215 rfl hm (fun w=>?_)
 refine au [106] ?_
 intro g7
 refine au [5,5,91,1,35,0] ?_
 intro x8 e8 _
 refine av [80,10,5,5,93,25,1,63] ?_ ?_
 intro _
 exact az [61,5,5,99]
 intro _
 refine av [74,83,1,25,11,30,2,26,7,63] ?_ ?_
 intro _
 exact az [61,5,5,99]
 intro _
 refine au [74,62,25,11,1,30,2,25,13] ?_
 intro h11
 refine qfC rfl rfl rfl rfl h11 ?_
 refine au [5,26,13] ?_
 intro x12 e12
 refine qc (d:=12) (v:=.int .u64 x12) rfl (by rw[e12] <;> rfl) ?_
 refine au [59,3,27,8] ?_
 intro h17
 refine qy mixed [] [⟨g7,25,[qyq x1,.slice a3 x2.length c4]⟩] [Sl (eI .u8) 1 (.slice a3 x2.length c4) x2] (.cons 0 rfl .nil) (qt 0 rfl qw) 15 rfl (q8 0 (.agg #[qyq x1,.slice a3 x2.length c4]) rfl rfl rfl (qQ (i:=0) rfl tf25 rfl rfl (by simp) rfl) ?_)
 refine au [7,1,7,2,7,3] ?_
 refine qm 4 (.int .u64 (ishl .u64 x12 x6)) rfl rfl rfl (qga rfl rfl h17) ?_
 refine au [7,5,7,6,20,7] ?_
 refine qg qfT ?_
 intro x20 e20 _
 refine au [0,30,11,7,8,7,9,7,10,7,11,112,7,14,24,8] ?_
 refine qx ?_ (by intro c h;cases h)
 refine au [2,62,1,23,25,7,1,1] ?_
 refine qg qh1 ?_
 intro x21 e21 _
 exact az [65,10,5,5,85]
end Go.Proofs.YtmoikolponkmpaaGreat
