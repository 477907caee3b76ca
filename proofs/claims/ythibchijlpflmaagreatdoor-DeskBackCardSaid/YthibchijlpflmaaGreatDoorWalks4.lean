/- Each Go function of this seat computes what its model says, part 4. -/
import Derived.Test.YthibchijlpflmaaGreatDoorWalks3
open Bool renaming false_or→qqT, true_or→qqU
namespace Go.Proofs.YthibchijlpflmaaGreatDoor
open Go SX
set_option linter.unusedSimpArgs false
set_option maxHeartbeats 4000000 in
theorem qlj {F:Nat}{x1:qsO}{a2:qsP}{c3:Nat}{x4:qsO}{a5:qsP}{c6:Nat}{r:(qsO×qsO)}(hm:qh4 F x1 x4=some r) :
    Pure Tryz.prog 275 [qsR a2 x1 c3,qsR a5 x4 c6] [qsT a2 x1 c3,qsT a5 x4 c6] ((qsP×Nat)×(qsP×Nat)) (fun g=>.tuple #[qsR g.1.1 r.1 g.1.2,qsR g.2.1 r.2 g.2.2]) (fun g=>[qsU g.1.1 r.1 g.1.2,qsU g.2.1 r.2 g.2.2]) (fun _=>[]):=by
 refine qs Tryz.func275 rfl Tryz.ntmps275 rfl hm (fun w=>?_)
 refine au [56,5,84] ?_
 refine qq (cells:=[.slice none 0 0,.bool true,qsQ 0]) rfl st363 rfl (by kernel_rfl) rfl ?_
 refine au [22] ?_
 intro g7
 refine au [46] ?_
 refine qj (fun (((x66,x67,x68),(a64,c65)):((qsO×Bool×Int)×(qsP×Nat)))=>([(0,qsR a2 x1 c3),(1,qsR a5 x4 c6),(5,.slice none 0 0),(6,qsS g7)],[⟨g7,363,[qsR a64 x66 c65,.bool x67,qsQ x68]⟩],[qsU a64 x66 c65],[qsT a2 x1 c3,qsT a5 x4 c6],qfD F x1 x4 x66 x67 x68)) ?_ ?_
 refine au [72,3,76,27,12] ?_
 refine qB (fun (((x0,x2,x3,x5),(a0,c0)):((Int×qsO×Bool×Int)×(qsP×Nat)))=>([(0,qsR a2 x1 c3),(1,qsR a5 x4 c6),(5,.slice none 0 0),(6,qsS g7),(17,qsR a2 x1 c3),(18,qsQ (x1.length:Int)),(19,qsQ x0)],[⟨g7,363,[qsR a0 x2 c0,.bool x3,qsQ x5]⟩],[qsU a0 x2 c0],[qsT a2 x1 c3,qsT a5 x4 c6])) (fun k (s:((Int×qsO×Bool×Int)×(qsP×Nat)))=>qap F x1 x4 k s.1) ((0,([]:qsO),true,0),(none,0)) F ?_
 intro k0
 rintro ⟨⟨x0,x2,x3,x5⟩,⟨a0,c0⟩⟩
 try dsimp only
 refine qH (m':=qe3 F x1 x4 (qap F x1 x4 k0) x0 x2 x3 x5) rfl ?_
 refine av [96] ?_ ?_
 intro _
 refine au [83,47,26,2] ?_
 intro x6 e0 b0 o0
 refine au [25,2,58,3,31,11] ?_
 intro x7 e1 _
 refine au [93,5,46,4,3,3] ?_
 refine qF qgD ?_
 rintro x8 e2 ⟨a1,c1⟩
 refine au [0,99] ?_
 exact qr ((iadd .i64 x0 1,x8.1,x8.2.1,x8.2.2),(a1,c1))
 intro _
 refine au [73] ?_
 exact qb ((x2,x3,x5),(a0,c0))
 rintro ⟨⟨x66,x67,x68⟩,⟨a64,c65⟩⟩
 try dsimp only
 refine qj (fun ((x9,(a3,c2)):(qsO×(qsP×Nat)))=>([(5,qsR a3 x9 c2),(6,qsS g7)],[⟨g7,363,[qsR a64 x66 c65,.bool x67,qsQ x68]⟩],[qsU a3 x9 c2,qsU a64 x66 c65],[],qfE F x66 x9)) ?_ ?_
 refine au [72,3,76,27,12] ?_
 refine qB (fun (((x10,x11),(a4,c4)):((qsO×Int)×(qsP×Nat)))=>([(0,qsR a2 x1 c3),(5,qsR a4 x10 c4),(6,qsS g7),(33,qsR a5 x4 c6),(34,qsQ (x4.length:Int)),(35,qsQ x11)],[⟨g7,363,[qsR a64 x66 c65,.bool x67,qsQ x68]⟩],[qsU a4 x10 c4,qsU a64 x66 c65],[qsT a2 x1 c3,qsT a5 x4 c6])) (fun k (s:((qsO×Int)×(qsP×Nat)))=>vT F x1 x4 x66 k s.1) ((([]:qsO),0),(none,0)) F ?_
 intro k1
 rintro ⟨⟨x10,x11⟩,⟨a4,c4⟩⟩
 try dsimp only
 refine qH (m':=qe2 F x1 x4 x66 (vT F x1 x4 x66 k1) x10 x11) rfl ?_
 refine av [96] ?_ ?_
 intro _
 refine au [57] ?_
 refine qj (fun ((x12,(a6,c5)):(qsO×(qsP×Nat)))=>([(0,qsR a2 x1 c3),(5,qsR a6 x12 c5),(6,qsS g7),(33,qsR a5 x4 c6),(34,qsQ (x4.length:Int)),(35,qsQ x11)],[⟨g7,363,[qsR a64 x66 c65,.bool x67,qsQ x68]⟩],[qsU a6 x12 c5,qsU a64 x66 c65],[qsT a2 x1 c3,qsT a5 x4 c6],qcy F (vT F x1 x4 x66 k1) x11 x12)) ?_ ?_
 refine au [14,47,28,9] ?_
 intro x13 e3 b1 o1
 refine au [25,2,58,3,31,11] ?_
 intro x14 e4 _
 refine av [93,5,58,25,8,50] ?_ ?_
 intro _
 refine au [4,3,3] ?_
 refine qV (vs:=[qsQ x13]) (ys:=([x13]:qsO)) (qu .i64) (by decide) rfl Tryz.underlying56 tf3 rfl rfl rfl rfl rfl (by decide) (fun a7 c7=>zu 1 (qu .i64) rfl Tryz.underlying56 tf3 rfl rfl rfl rfl rfl (.inl ⟨0,_,rfl⟩) rfl rfl (fun x15 e5 a8 c8=>?_))
 refine au [5,0,24,2] ?_
 exact qb (x15,(a8,c8))
 intro _
 refine au [11,24,2] ?_
 exact qb (x10,(a4,c4))
 rintro ⟨x12,⟨a6,c5⟩⟩
 try dsimp only
 refine au [98] ?_
 exact qr ((x12,iadd .i64 x11 1),(a6,c5))
 intro _
 refine au [73] ?_
 exact qb (x10,(a4,c4))
 rintro ⟨x9,⟨a3,c2⟩⟩
 try dsimp only
 refine au [48,114,3,5,49] ?_
 exact qI ((a64,c65),(a3,c2))
theorem qfh {F:Nat}{g1:Nat}{x2:Int}{x3:qsO}{a4:qsP}{c5:Nat}{x6:Bool}{x7:qsO}{a8:qsP}{c9:Nat}{r:(Int×qsO×Bool)}(hm:qcl F x2 x3 x6 x7=some r) :
    PureM Tryz.prog 276 [qsS g1,qsR a8 x7 c9] [⟨g1,316,[qsQ x2,qsR a4 x3 c5,.bool x6]⟩] [qsW a4 x3 c5] [qsT a8 x7 c9] (qsP×Nat) (fun _=>.tuple #[]) (fun g=>[⟨g1,316,[qsQ r.1,qsR g.1 r.2.1 g.2,.bool r.2.2]⟩]) (fun g=>[qsW g.1 r.2.1 g.2]):=by
 refine qE Tryz.func276 rfl Tryz.ntmps276 rfl hm (fun w=>?_)
 refine au [24,8,87,24,6,28,11] ?_
 rintro x10 e10 ⟨a11,c12⟩
 refine au [45,72,3,76] ?_
 refine qB (fun (((x27,x28,x31,x32),(a29,c30)):((Int×Int×qsO×Bool)×(qsP×Nat)))=>([(0,qsS g1),(10,qsR a8 x7 c9),(11,qsQ (x7.length:Int)),(12,qsQ x27)],[⟨g1,316,[qsQ x28,qsR a29 x31 c30,.bool x32]⟩],[qsW a29 x31 c30],[qsT a8 x7 c9])) (fun k (s:((Int×Int×qsO×Bool)×(qsP×Nat)))=>yr F x7 k s.1) ((0,x10.1,x10.2.1,x10.2.2),(a11,c12)) F ?_
 intro k47
 rintro ⟨⟨x27,x28,x31,x32⟩,⟨a29,c30⟩⟩
 try dsimp only
 refine qH (m':=qaM F x7 (yr F x7 k47) x27 x28 x31 x32) rfl ?_
 refine av [96] ?_ ?_
 intro _
 refine au [83,48,26,2] ?_
 intro x55 e55 b56 o57
 refine au [25,2,5,46,4,3,3,3,28,8,25,10,28,11] ?_
 rintro x58 e58 ⟨a59,c60⟩
 refine au [0,99] ?_
 exact qr ((iadd .i64 x27 1,x58.1,x58.2.1,x58.2.2),(a59,c60))
 intro _
 refine au [73] ?_
 exact qX (a29,c30)
theorem qlk {F:Nat}{x1:qsO}{a2:qsP}{c3:Nat}{r:Unit}(hm:qh5 F x1=some r) :
    PureM Tryz.prog 297 [qsR a2 x1 c3] [] [] [qsT a2 x1 c3] Nat (fun g=>.func (.func 304) #[] #[qsS g]) (fun g=>[⟨g,56,[qsR a2 x1 c3]⟩]) (fun _=>[]):=by
 refine qE Tryz.func297 rfl Tryz.ntmps297 rfl hm (fun w=>?_)
 refine au [59,22] ?_
 intro g4
 refine au [84,27,4,49] ?_
 exact qX g4
set_option maxHeartbeats 4000000 in
theorem qjn (F:Nat){σ τ:Type}{J:Rounds σ τ}{yy:σ→(Int×Int)→Option (σ ⊕ τ)}{L:Nat}(hY:YieldC Tryz.prog L (fun (p:(Int×Int))=>[.agg #[qsQ p.1,qsQ p.2]]) J yy)(s0:σ)(gs0:J.γ)(g1:Nat)(x2:qsO)(a3:qsP)(c4:Nat)(r:σ ⊕ τ)(hm:qgl F yy x2 s0=some r) :
    PureM Tryz.prog 304 ([.func (.yield L) #[] #[],qsS g1]) ([⟨g1,56,[qsR a3 x2 c4]⟩]++J.IB s0 gs0) (J.IR s0 gs0) [J.F,qsT a3 x2 c4] (J.G r) (fun _=>.tuple #[]) (fun g=>[⟨g1,56,[qsR a3 x2 c4]⟩]++J.bs r g) (fun g=>J.rs r g):=by
 refine qE Tryz.func304 rfl Tryz.ntmps304 rfl hm (fun w=>?_)
 refine au [56,46,14] ?_
 refine yv (fun (((x0,x1),g0):((Int×σ)×J.γ))=>[(0,.func (.yield L) #[] #[]),(1,qsS g1),(3,qsQ x0)]) (fun (((x0,x1),g0):((Int×σ)×J.γ))=>[⟨g1,56,[qsR a3 x2 c4]⟩]++J.IB x1 g0) (fun (((x0,x1),g0):((Int×σ)×J.γ))=>[]++J.IR x1 g0) (fun (((x0,x1),g0):((Int×σ)×J.γ))=>[qsT a3 x2 c4,J.F]) (fun k (s:((Int×σ)×J.γ))=>zN F yy x2 k s.1) ((0,s0),gs0) F ?_ (hB:=(.cons 0 rfl (qn 0 rfl))) (hR:=(qn 0 rfl)) (hF:=(qp 1 rfl (qp 0 rfl zx)))
 intro k0
 rintro ⟨⟨x0,x1⟩,g0⟩
 try dsimp only
 refine qH (m':=qdM F yy x2 (zN F yy x2 k0) x0 x1) rfl ?_
 refine av [1,48,21,24,6,91] ?_ ?_
 intro _
 refine au [57,14,47,46] ?_
 refine jN (fun ((x3,_):(Int×Unit))=>[(0,.func (.yield L) #[] #[]),(1,qsS g1),(3,qsQ x0),(4,qsQ x3)]) (fun ((x3,_):(Int×Unit))=>[⟨g1,56,[qsR a3 x2 c4]⟩]++J.IB x1 g0) (fun ((x3,_):(Int×Unit))=>[]++J.IR x1 g0) (fun ((x3,_):(Int×Unit))=>[qsT a3 x2 c4,J.F]) (fun ((x3,_):(Int×Unit))=>qdO F yy (zN F yy x2 k0) x2 x0 x1 x3) ?_ ?_
 refine au [14] ?_
 refine yv (fun ((x4,_):(Int×Unit))=>[(0,.func (.yield L) #[] #[]),(1,qsS g1),(3,qsQ x0),(4,qsQ x4)]) (fun ((x4,_):(Int×Unit))=>[⟨g1,56,[qsR a3 x2 c4]⟩]++J.IB x1 g0) (fun ((x4,_):(Int×Unit))=>[]++J.IR x1 g0) (fun ((x4,_):(Int×Unit))=>[qsT a3 x2 c4,J.F]) (fun k (s:(Int×Unit))=>y6 F yy (zN F yy x2 k0) x2 x0 x1 k s.1) (1,()) F ?_ (hB:=(.cons 0 rfl (qn 0 rfl))) (hR:=(qn 0 rfl)) (hF:=(qp 0 rfl (qp 1 rfl zx)))
 intro k1
 rintro ⟨x4,_⟩
 try dsimp only
 refine qH (m':=qdN F yy (zN F yy x2 k0) x2 x0 x1 (y6 F yy (zN F yy x2 k0) x2 x0 x1 k1) x4) rfl ?_
 refine au [1] ?_
 refine jN (fun ((x5,_):(Bool×Unit))=>[(0,.func (.yield L) #[] #[]),(1,qsS g1),(3,qsQ x0),(4,qsQ x4),(29,.bool x5)]) (fun ((x5,_):(Bool×Unit))=>[⟨g1,56,[qsR a3 x2 c4]⟩]++J.IB x1 g0) (fun ((x5,_):(Bool×Unit))=>[]++J.IR x1 g0) (fun ((x5,_):(Bool×Unit))=>[qsT a3 x2 c4,J.F]) (fun ((x5,_):(Bool×Unit))=>qa7 F yy (zN F yy x2 k0) (y6 F yy (zN F yy x2 k0) x2 x0 x1 k1) x2 x0 x1 x4 x5) ?_ ?_
 refine av [29,14] ?_ ?_
 intro h0
 refine au [29,11] ?_
 intro x6 e0 b0 o0 h1
 replace h1:a3=some ⟨b0,o0,none⟩:=h1
 refine au [28,2] ?_
 intro x7 e1 b1 o1 h2
 replace h2:a3=some ⟨b1,o1,none⟩:=h2
 refine qt mixed [] [⟨g1,56,[qsR a3 x2 c4]⟩] [qC b1 (o1+x0.toNat*1) ((eI .i64) x7),qC b0 (o0+(iadd .i64 x0 x4).toNat*1) ((eI .i64) x6),qsT a3 x2 c4,J.F] (.cons 0 rfl .nil) (qf 0 rfl (qf 1 rfl (qf 2 rfl (qf 3 rfl qh)))) 21 rfl ?_
 refine au [97,24,14,3,28,1,4,6,5,6,6] ?_
 refine qg (d:=15) (v:=.bool true) rfl (by simp only[qsR,h0] <;> rfl) ?_
 refine au [24,14,7,6,8,6,9,6,10] ?_
 refine qg (d:=16) (v:=qsR (some ⟨b0,o0,none⟩) x2 c4) rfl (by simp only[qsR,h1] <;> rfl) (qe 11 (.pointer (some ⟨b0,(o0+(iadd .i64 x0 x4).toNat*1),none⟩)) rfl rfl rfl (k8 Tryz.underlying56 tf3 rfl rfl (qo e0).1 (zf e0)) (qg (d:=16) (v:=qsR a3 x2 c4) rfl (by simp only[qsR,h1] <;> rfl) (qJ 12 (qsQ x6) [] rfl rfl rfl (q7 (j:=1) rfl tf3 rfl rfl (fun _=>rfl) rfl) ?_)))
 refine au [24,14,13,6,14] ?_
 refine qg (d:=22) (v:=qsR (some ⟨b1,o1,none⟩) x2 c4) rfl (by simp only[qsR,h2] <;> rfl) (qe 15 (.pointer (some ⟨b1,(o1+x0.toNat*1),none⟩)) rfl rfl rfl (k8 Tryz.underlying56 tf3 rfl rfl (qo e1).1 (zf e1)) (qg (d:=22) (v:=qsR a3 x2 c4) rfl (by simp only[qsR,h2] <;> rfl) (qJ 16 (qsQ x7) [] rfl rfl rfl (q7 (j:=0) rfl tf3 rfl rfl (fun _=>rfl) rfl) ?_)))
 refine au [6,17,6,18,6,19,6,20,16] ?_
 exact qm (kF (((x6:Int) == (iadd .i64 x7 x4)),()) (hB:=(.cons 0 rfl (qn 0 rfl))) (hR:=(qn 0 rfl)) (hF:=(qp 2 rfl (qp 3 rfl zx)))) (by intro c h;cases h)
 intro h0
 refine qt mixed [] [⟨g1,56,[qsR a3 x2 c4]⟩] [qsT a3 x2 c4,J.F] (.cons 0 rfl .nil) (qf 0 rfl (qf 1 rfl qh)) 21 rfl ?_
 refine au [97,24,14,3,28,1,4,6,5,6,6] ?_
 refine qg (d:=15) (v:=.bool false) rfl (by simp only[qsR,h0] <;> rfl) ?_
 refine au [19,7,19,8,19,9,19,10,19,11,19,12,19,13,19,14,19,15,19,16,19,17,19,18,19,19,6,20,16] ?_
 exact qm (kF (false,()) (hB:=(.cons 0 rfl (qn 0 rfl))) (hR:=(qn 0 rfl)) (hF:=(qp 0 rfl (qp 1 rfl zx)))) (by intro c h;cases h)
 rintro ⟨x5,_⟩
 try dsimp only
 refine av [10] ?_ ?_
 intro _
 refine au [57,14,4,3,23,5,0,24,2] ?_
 exact yz (iadd .i64 x4 1,()) (hB:=(.cons 0 rfl (qn 0 rfl))) (hR:=(qn 0 rfl)) (hF:=(qp 0 rfl (qp 1 rfl zx)))
 intro _
 refine au [73] ?_
 exact kF (x4,()) (hB:=(.cons 0 rfl (qn 0 rfl))) (hR:=(qn 0 rfl)) (hF:=(qp 0 rfl (qp 1 rfl zx)))
 rintro ⟨x3,_⟩
 try dsimp only
 refine au [1,48,21,3,26,2] ?_
 intro x8 e2 b2 o2
 refine au [25,2,3] ?_
 refine qq (cells:=[qsQ x8,qsQ x3]) rfl st209 rfl (by kernel_rfl) rfl (qcT hY x1 (x8,x3) g0 (B1:=[⟨g1,56,[qsR a3 x2 c4]⟩]) (R1:=[]) (j:=2) rfl rfl rfl rfl rfl rfl rfl (fun x9 _ g2=>?_) (fun x10 _ g2=>?_))
 refine au [25,8,45] ?_
 refine kD (b:=false) rfl (fun h=>by cases h) (fun _=>?_)
 refine au [57,4,3,3,23,5,0,24,2] ?_
 exact yz ((iadd .i64 x0 x3,x9),g2) (hB:=(.cons 0 rfl (qn 0 rfl))) (hR:=(qn 0 rfl)) (hF:=(qp 1 rfl (qp 2 rfl zx)))
 refine au [25,8,45] ?_
 refine kD (b:=true) rfl (fun _=>?_) (fun h=>by cases h)
 refine au [8,12,52,24,5] ?_
 exact y0 (B0:=[⟨g1,56,[qsR a3 x2 c4]⟩]) (x:=.inr x10) g2 (.inl rfl) (res0 rfl) (.cons 0 rfl (qn 0 rfl)) (qn 0 rfl)
 intro _
 refine au [73] ?_
 exact y0 (B0:=[⟨g1,56,[qsR a3 x2 c4]⟩]) (x:=.inl x1) g0 (.inr rfl) (res0 rfl) (.cons 0 rfl (qn 0 rfl)) (qn 0 rfl)
set_option maxHeartbeats 4000000 in
theorem qmh {F:Nat}{x1:qsO}{a2:qsP}{c3:Nat}{x4:Int}{r:(List (Int×Int)×qsO)}(hm:qiH F x1 x4=some r) :
    PureM Tryz.prog 277 [qsR a2 x1 c3,qsQ x4] [] [] [qsT a2 x1 c3] ((qsP×Nat)×(qsP×Nat)) (fun g=>.tuple #[qsR g.1.1 r.1 g.1.2,qsR g.2.1 r.2 g.2.2]) (fun _=>[]) (fun g=>[Ro eS209 209 2 (qsR g.1.1 r.1 g.1.2) r.1,qsU g.2.1 r.2 g.2.2]):=by
 refine qbf Tryz.func277 rfl Tryz.ntmps277 rfl hm (fun w=>?_)
 refine au [118] ?_
 intro g5
 refine au [24,4] ?_
 intro g6
 refine au [24,4] ?_
 intro g7
 refine au [45,1,48] ?_
 refine qF qlk ?_
 intro x0 e0 g0
 refine au [76,27,12] ?_
 refine qbM (Int×Int) eS209 209 2 (jW (encs:=(fun (p:(Int×Int))=>[.agg #[qsQ p.1,qsQ p.2]])) (y:=(fun ((x2,x3):(qsO×List (Int×Int))) ((x5,x6):(Int×Int))=>qgk F x4 x2 x3 x5 x6)) (lb:=[qsS g0]) (fun ((x2,x3):(qsO×List (Int×Int))) ((a0,c0,a1,c1):(qsP×Nat×qsP×Nat))=>[⟨g7,56,[qsR a0 x2 c0]⟩,⟨g6,204,[qsR a1 x3 c1]⟩,⟨g5,3,[qsQ x4]⟩]) (fun ((x2,x3):(qsO×List (Int×Int))) ((a0,c0,a1,c1):(qsP×Nat×qsP×Nat))=>[qsU a0 x2 c0,Ro eS209 209 2 (qsR a1 x3 c1) x3]) (fun (_:Empty) (_:Unit)=>[]) (fun (_:Empty) (_:Unit)=>[]) (fun _=>.skip) (([]:qsO),([]:List (Int×Int))) (none,0,none,0) rfl ent304 (fun _=>rfl) rfl (.cons 0 rfl .nil) (.cons 0 rfl (.cons 0 rfl (.cons 0 rfl .nil))) (.cons 1 rfl (.cons 0 rfl .nil)) (.consF 0 rfl .nil) (fun z hz _ _ _ hY=>qjn F hY (([]:qsO),([]:List (Int×Int))) (none,0,none,0) g0 x1 a2 c3 z hz) ?_ ?_ ?_)
 rintro rc1 L1 D1 ⟨x2,x3⟩ ⟨a0,c0,a1,c1⟩ ⟨x5,x6⟩ z w M _
 try dsimp only
 refine qbi [(0,qsR a2 x1 c3),(1,qsQ x4),(3,qsS g5),(4,qsS g6),(5,qsS g7),(8,qsR a2 x1 c3),(9,.func (.func 304) #[] #[qsS g0]),(10,.agg #[qsQ x5,qsQ x6])] (qw rfl (qw rfl (qw rfl (qw rfl (qw rfl (qw rfl (qw rfl (qw rfl qbK)))))))) ?_
 refine au [4,24,4] ?_
 intro g1
 refine av [86,34,2,14,1,47,78,29,13,26,5,50] ?_ ?_
 intro _
 refine au [47,26,1,24,10] ?_
 refine qV (vs:=[.agg #[qsQ x5,qsQ x6]]) (ys:=([(x5,x6)]:List (Int×Int))) qer (by decide) rfl Tryz.underlying204 tf209 rfl rfl rfl rfl rfl (by decide) (fun a3 c2=>zu 2 qer rfl Tryz.underlying204 tf209 rfl rfl rfl rfl rfl (.inl ⟨0,_,rfl⟩) rfl rfl (fun x7 e1 a4 c4=>?_))
 refine au [27,5,45,53,24,13] ?_
 exact yw (rc:=rc1) rfl (.cons 4 rfl .nil) rfl (a0,c0,a4,c4) (.cons 2 rfl (.cons 2 rfl (.cons 2 rfl (.cons 0 rfl (.cons 1 rfl .nil))))) (.cons 2 rfl (.cons 0 rfl .nil))
 intro _
 refine au [115,78,3,76] ?_
 refine qB (fun (((x8,x9),(a5,c5)):((Int×qsO)×(qsP×Nat)))=>([(3,qsS g5),(4,qsS g6),(5,qsS g7),(6,qsS g1),(20,qsQ x6),(21,qsQ x8)],[⟨g1,209,[qsQ x5,qsQ x6]⟩,⟨g7,56,[qsR a5 x9 c5]⟩,⟨g6,204,[qsR a1 x3 c1]⟩,⟨g5,3,[qsQ x4]⟩,(blkO L1 (.loop (bsy rc1))),(dblk D1)],[qsU a5 x9 c5,Ro eS209 209 2 (qsR a1 x3 c1) x3],[])) (fun k (s:((Int×qsO)×(qsP×Nat)))=>qb0 F x3 x5 x6 k s.1) ((0,x2),(a0,c0)) F ?_
 intro k0
 rintro ⟨⟨x8,x9⟩,⟨a5,c5⟩⟩
 try dsimp only
 refine qH (m':=qgj F x3 x5 x6 (qb0 F x3 x5 x6 k0) x8 x9) rfl ?_
 refine av [96] ?_ ?_
 intro _
 refine au [83,48,46,4,25,6,78,3,23] ?_
 refine qV (vs:=[qsQ (iadd .i64 x5 x8)]) (ys:=([iadd .i64 x5 x8]:qsO)) (qu .i64) (by decide) rfl Tryz.underlying56 tf3 rfl rfl rfl rfl rfl (by decide) (fun a6 c6=>zu 1 (qu .i64) rfl Tryz.underlying56 tf3 rfl rfl rfl rfl rfl (.inl ⟨0,_,rfl⟩) rfl rfl (fun x10 e2 a7 c7=>?_))
 refine au [120,99] ?_
 exact qr ((iadd .i64 x8 1,x10),(a7,c7))
 intro _
 refine au [73,24,2] ?_
 exact yw (rc:=rc1) rfl (.cons 4 rfl .nil) rfl (a5,c5,a1,c1) (.cons 2 rfl (.cons 2 rfl (.cons 2 rfl (.cons 0 rfl (.cons 1 rfl .nil))))) (.cons 0 rfl (.cons 0 rfl .nil))
 rintro ⟨x2,x3⟩ _ ⟨a0,c0,a1,c1⟩ D1
 try dsimp only
 refine au [63,1] ?_
 refine qt mixed [] [(dblk D1),⟨g0,56,[qsR a2 x1 c3]⟩,⟨g7,56,[qsR a0 x2 c0]⟩,⟨g6,204,[qsR a1 x3 c1]⟩,⟨g5,3,[qsQ x4]⟩] [qsT a2 x1 c3] (.cons 0 rfl (.cons 0 rfl (.cons 0 rfl (.cons 0 rfl (.cons 0 rfl .nil))))) (qf 0 rfl qh) 4 rfl ?_
 refine au [31,12,0,29,2,1,13,2,28,15,0,29,3,13,3,27,5,0,29,3,16] ?_
 refine qm ?_ (by intro c h;cases h)
 refine au [2,8] ?_
 exact y1 [D1] ((a1,c1),(a0,c0)) (.inl rfl) rfl (.cons 0 rfl .nil) (resL (rs:=[.cell 4 204,.cell 5 56]) rfl (.cell (i:=2) rfl tf204 rfl rfl (fun _=>rfl) rfl (.cell (i:=1) rfl tf56 rfl rfl (fun _=>rfl) rfl ResOk.nil)) rfl) (fun h=>by subst h;rfl) (fun h=>by subst h;exact .nil) (fun h=>by subst h;exact (.cons 1 rfl (.cons 0 rfl .nil)))
 intro t;exact t.elim
theorem qjt {F:Nat}{x1:Int}{r:Int}(hm:qeb F x1=some r) :
    Pure Tryz.prog 298 [qsQ x1] [] Unit (fun _=>.int .u64 r) (fun _=>[]) (fun _=>[]):=by
 refine qs Tryz.func298 rfl Tryz.ntmps298 rfl hm (fun w=>?_)
 refine au [59,58,25,11,34,3,3,27,2,25,11,34,4,121] ?_
 intro x2 e2
 refine qa (d:=2) (v:=.int .u64 x2) rfl (by simp only[qsR,e2] <;> rfl) ?_
 exact az [45,8,24,0]
set_option maxHeartbeats 4000000 in
theorem qgJ {F:Nat}{g1:Nat}{x2:Int}{x3:qsO}{a4:qsP}{c5:Nat}{x6:Bool}{x7:Int}{x8:Int}{x9:List (Int×Int)}{a10:qsP}{c11:Nat}{r:(Int×qsO×Bool)}(hm:qdl F x2 x3 x6 x7 x8 x9=some r) :
    PureM Tryz.prog 278 [qsS g1,qsQ x7,qsQ x8,qsR a10 x9 c11] [⟨g1,316,[qsQ x2,qsR a4 x3 c5,.bool x6]⟩] [qsW a4 x3 c5] [Sl eS209 2 (qsR a10 x9 c11) x9] (qsP×Nat) (fun _=>.tuple #[]) (fun g=>[⟨g1,316,[qsQ r.1,qsR g.1 r.2.1 g.2,.bool r.2.2]⟩]) (fun g=>[qsW g.1 r.2.1 g.2]):=by
 refine qE Tryz.func278 rfl Tryz.ntmps278 rfl hm (fun w=>?_)
 refine au [28,5,87,24,6,28,11] ?_
 rintro x12 e12 ⟨a13,c14⟩
 refine au [45,48,58,122,76] ?_
 refine qB (fun (((x73,x74,x75,x78,x79),(a76,c77)):((Int×Int×Int×qsO×Bool)×(qsP×Nat)))=>([(0,qsS g1),(2,qsQ x8),(8,qsQ x73),(16,qsR a10 x9 c11),(17,qsQ (x9.length:Int)),(18,qsQ x74)],[⟨g1,316,[qsQ x75,qsR a76 x78 c77,.bool x79]⟩],[qsW a76 x78 c77],[Sl eS209 2 (qsR a10 x9 c11) x9])) (fun k (s:((Int×Int×Int×qsO×Bool)×(qsP×Nat)))=>k6 F x8 x9 k s.1) ((x7,0,x12.1,x12.2.1,x12.2.2),(a13,c14)) F ?_
 intro k0
 rintro ⟨⟨x73,x74,x75,x78,x79⟩,⟨a76,c77⟩⟩
 try dsimp only
 refine qH (m':=qbv F x8 x9 (k6 F x8 x9 k0) x73 x74 x75 x78 x79) rfl ?_
 refine av [96] ?_ ?_
 intro _
 refine au [83,48,31,13] ?_
 intro x0 e0 b0 o0
 refine au [28,14,24,4] ?_
 intro g0
 refine au [5,119] ?_
 refine qj (fun (((x1,x4,x5),(a0,c0)):((Int×qsO×Bool)×(qsP×Nat)))=>([(0,qsS g1),(2,qsQ x8),(10,qsS g0),(16,qsR a10 x9 c11),(17,qsQ (x9.length:Int)),(18,qsQ x74)],[⟨g1,316,[qsQ x1,qsR a0 x4 c0,.bool x5]⟩,⟨g0,209,[qsQ x0.1,qsQ x0.2]⟩],[qsW a0 x4 c0],[Sl eS209 2 (qsR a10 x9 c11) x9],jf F (k6 F x8 x9 k0) x8 x74 x0 x1 x4 x5)) ?_ ?_
 refine av [48,112] ?_ ?_
 intro _
 refine au [4,3,78,3,25,10,34,5] ?_
 intro x10 e1 _
 refine au [25,11,28,11] ?_
 rintro x11 e2 ⟨a1,c1⟩
 refine au [0] ?_
 exact qb ((x11.1,x11.2.1,x11.2.2),(a1,c1))
 intro _
 refine au [4,3,78,3,25,10,25,10,28,11] ?_
 rintro x13 e3 ⟨a2,c2⟩
 refine au [0] ?_
 exact qb ((x13.1,x13.2.1,x13.2.2),(a2,c2))
 rintro ⟨⟨x1,x4,x5⟩,⟨a0,c0⟩⟩
 try dsimp only
 refine au [48,89,3,25,10,28,11] ?_
 rintro x14 e4 ⟨a3,c3⟩
 refine au [45,4,89,89,23,25,10,5,0,99] ?_
 exact qr ((isub .i64 (iadd .i64 x0.1 x0.2) 1,iadd .i64 x74 1,x14.1,x14.2.1,x14.2.2),(a3,c3))
 intro _
 refine au [73] ?_
 exact qX (a76,c77)
theorem qjg {F:Nat}{x1:Int}{x2:Int}{r:(Int×Int×Int)}(hm:qgg F x1 x2=some r) :
    Pure Tryz.prog 305 [.int .u64 x1,qsQ x2] [] Unit (fun _=>.tuple #[qsQ r.1,.int .u64 r.2.1,.int .u64 r.2.2]) (fun _=>[]) (fun _=>[]):=by
 refine qs Tryz.func305 rfl Tryz.ntmps305 rfl hm (fun w=>?_)
 refine au [56,5,5,58,23,31,9] ?_
 intro x3 e3 _
 refine au [25,10,3,26,10] ?_
 intro h4
 refine qkZ rfl rfl rfl rfl h4 ?_
 refine au [71,28,4] ?_
 intro h11
 refine au [28,4] ?_
 intro h13
 refine qt mixed [] [] [] .nil qh 14 rfl ?_
 refine au [97,6,3] ?_
 refine qe 4 (.int .u64 (ishl .u64 1 (imul .i64 (iquo .i64 (isub .i64 x3 1) x2) x2))) rfl rfl rfl (qgW rfl rfl h11) ?_
 refine au [6,5,67,6,8,6,9] ?_
 refine qe 10 (.int .u64 (ishl .u64 1 (iadd .i64 (imul .i64 (iquo .i64 (isub .i64 x3 1) x2) x2) x2))) rfl rfl rfl (qgW rfl rfl h13) ?_
 refine au [6,11,101,16] ?_
 refine qm ?_ (by intro c h;cases h)
 exact az [2,8,24,0]
theorem qix {F:Nat}{x1:Int}{r:(Int×Int)}(hm:qc5 F x1=some r) :
    Pure Tryz.prog 307 [.int .u64 x1] [] Unit (fun _=>.tuple #[qsQ r.1,.int .u64 r.2]) (fun _=>[]) (fun _=>[]):=by
 refine qs Tryz.func307 rfl Tryz.ntmps307 rfl hm (fun w=>?_)
 refine au [59,5,58,25,10,31,9] ?_
 intro x2 e2 _
 refine au [71,28,4] ?_
 intro h6
 refine qt mixed [] [] [] .nil qh 7 rfl ?_
 refine au [69] ?_
 refine qe 2 (.int .u64 (ishl .u64 1 x2)) rfl rfl rfl (qgW rfl rfl h6) ?_
 refine au [6,3,6,4,6,5,6,6,16] ?_
 refine qm ?_ (by intro c h;cases h)
 exact az [2,8,24,0]
theorem qg7 {F:Nat}{x1:Int}{x2:qsO}{a3:qsP}{c4:Nat}{x5:Int}{x6:Int}{r:(Int×qsO)}(hm:qdG F x1 x2 x5 x6=some r) :
    Pure Tryz.prog 306 [.agg #[qsQ x1,qsR a3 x2 c4],.int .u64 x5,.int .u64 x6] [qsV a3 x2 c4] (qsP×Nat) (fun g=>.agg #[qsQ r.1,qsR g.1 r.2 g.2]) (fun g=>[qsW g.1 r.2 g.2]) (fun _=>[]):=by
 refine qs Tryz.func306 rfl Tryz.ntmps306 rfl hm (fun w=>?_)
 refine au [111,22] ?_
 intro g7
 refine au [24,4] ?_
 intro g8
 refine au [45,48,34,6] ?_
 intro x9 e9 _
 refine av [93,5,85,3,91] ?_ ?_
 intro _
 refine au [47,25,7,3,3,25,10,28,10] ?_
 rintro x14 e14 ⟨a15,c16⟩
 refine au [119,8,12] ?_
 exact qS (a15,c16) (resL (rs:=[.cell 6 65]) rfl (.cell (i:=0) rfl tf65 rfl rfl (by simp) rfl ResOk.nil) rfl) (fun h=>by subst h;exact (.cons 0 rfl .nil))
 intro _
 refine au [115,25,7,3,3,88,28,10] ?_
 rintro x17 e17 ⟨a18,c19⟩
 refine au [119,8] ?_
 exact qS (a18,c19) (resL (rs:=[.cell 6 65]) rfl (.cell (i:=0) rfl tf65 rfl rfl (by simp) rfl ResOk.nil) rfl) (fun h=>by subst h;exact (.cons 0 rfl .nil))
set_option maxHeartbeats 4000000 in
theorem qjf {F:Nat}{x1:Int}{x2:Int}{r:(Int×qsO×Int)}(hm:qgf F x1 x2=some r) :
    Pure Tryz.prog 299 [.int .u64 x1,qsQ x2] [] (qsP×Nat) (fun g=>.tuple #[.agg #[qsQ r.1,qsR g.1 r.2.1 g.2],qsQ r.2.2]) (fun g=>[qsW g.1 r.2.1 g.2]) (fun _=>[]):=by
 refine qs Tryz.func299 rfl Tryz.ntmps299 rfl hm (fun w=>?_)
 refine au [56,24,4] ?_
 intro g3
 refine au [85,24,3,3] ?_
 refine qO 3 (decide (x2<1)) [(0,.int .u64 x1),(1,qsQ x2),(4,qsS g3),(14,.bool ((decide (x2<1)) || (decide (16<x2))))] (fun h7=>?_) (fun h7=>?_) ?_
 refine qc (os:=_) rfl (qA (k:=11) rfl h7 ?_)
 refine au [61,24,7] ?_
 refine qa (d:=14) (v:=.bool ((decide (x2<1)) || (decide (16<x2)))) rfl (by rw[h7];simp only[qqU]) ?_
 exact az [51]
 refine qc (os:=_) rfl (qz (k:=11) rfl h7 ?_)
 refine au [3,81] ?_
 refine qa (d:=14) (v:=.bool ((decide (x2<1)) || (decide (16<x2)))) rfl (by rw[h7];simp only[qqT]) ?_
 exact az [51]
 refine qc (os:=_) rfl ?_
 refine au [3] ?_
 refine qO 3 ((decide (x2<1)) || (decide (16<x2))) [(0,.int .u64 x1),(1,qsQ x2),(4,qsS g3),(18,.bool (((decide (x2<1)) || (decide (16<x2))) || (decide (1099511627776<x1))))] (fun h8=>?_) (fun h8=>?_) ?_
 refine qc (os:=_) rfl (qA (k:=15) rfl h8 ?_)
 refine au [61,24,7] ?_
 refine qa (d:=18) (v:=.bool (((decide (x2<1)) || (decide (16<x2))) || (decide (1099511627776<x1)))) rfl (by rw[h8];simp only[qqU]) ?_
 exact az [51]
 refine qc (os:=_) rfl (qz (k:=15) rfl h8 ?_)
 refine au [3,81] ?_
 refine qa (d:=18) (v:=.bool (((decide (x2<1)) || (decide (16<x2))) || (decide (1099511627776<x1)))) rfl (by rw[h8];simp only[qqT]) ?_
 exact az [51]
 refine qc (os:=_) rfl ?_
 refine av [50] ?_ ?_
 intro _
 refine au [47] ?_
 refine qq (cells:=[qsQ 0,.slice none 0 0]) rfl st65 rfl (by kernel_rfl) rfl ?_
 refine au [20,60,25,15] ?_
 exact qS (none,0) (resL (rs:=[.cell 4 65,.tmp 5]) rfl (.cell (i:=0) rfl tf65 rfl rfl (by simp) rfl (.tmp rfl ResOk.nil)) rfl) (fun h=>by subst h;exact (.cons 0 rfl .nil))
 intro _
 refine au [57,87] ?_
 refine qk qjg ?_
 intro x9 e9 _
 refine au [93,18,5,5,58,25,11,33,12] ?_
 rintro x10 e10 ⟨a11,c12⟩
 refine au [3,88,25,10,3,3,25,10] ?_
 refine qk qg7 ?_
 rintro x13 e13 ⟨a14,c15⟩
 refine au [20,49] ?_
 exact qS (a14,c15) (resL (rs:=[.cell 4 65,.tmp 5]) rfl (.cell (i:=0) rfl tf65 rfl rfl (by simp) rfl (.tmp rfl ResOk.nil)) rfl) (fun h=>by subst h;exact (.cons 0 rfl .nil))
set_option maxHeartbeats 4000000 in
theorem qme {F:Nat}{x1:Int}{x2:qsO}{a3:qsP}{c4:Nat}{x5:qsO}{a6:qsP}{c7:Nat}{x8:Int}{r:(Int×qsO×Bool)}(hm:qeE F x1 x2 x5 x8=some r) :
    PureM Tryz.prog 279 [.agg #[qsQ x1,qsR a3 x2 c4],qsR a6 x5 c7,qsQ x8] [] [qsW a3 x2 c4] [Sl (eI .u64) 1 (qsR a6 x5 c7) x5] (qsP×Nat) (fun g=>.tuple #[.agg #[qsQ r.1,qsR g.1 r.2.1 g.2],.bool r.2.2]) (fun _=>[]) (fun g=>[qsW g.1 r.2.1 g.2]):=by
 refine qE Tryz.func279 rfl Tryz.ntmps279 rfl hm (fun w=>?_)
 refine au [111,22] ?_
 intro g9
 refine au [24,4] ?_
 intro g10
 refine au [46] ?_
 refine qj (fun (((x0,x3),(a0,c0)):((Int×qsO)×(qsP×Nat)))=>([(3,qsS g9),(6,qsS g10)],[⟨g10,65,[qsQ 0,.slice none 0 0]⟩,⟨g9,65,[qsQ x0,qsR a0 x3 c0]⟩],[qsW a0 x3 c0],[],qgc F x0 x3)) ?_ ?_
 refine au [72,3,76] ?_
 refine qB (fun (((x4,x6,x7),(a1,c1)):((Int×Int×qsO)×(qsP×Nat)))=>([(2,qsQ x8),(3,qsS g9),(6,qsS g10),(12,qsR a6 x5 c7),(13,qsQ (x5.length:Int)),(14,qsQ x4)],[⟨g10,65,[qsQ 0,.slice none 0 0]⟩,⟨g9,65,[qsQ x6,qsR a1 x7 c1]⟩],[qsW a1 x7 c1],[Sl (eI .u64) 1 (qsR a6 x5 c7) x5])) (fun k (s:((Int×Int×qsO)×(qsP×Nat)))=>qbW F x5 x8 k s.1) ((0,x1,x2),(a3,c4)) F ?_
 intro k0
 rintro ⟨⟨x4,x6,x7⟩,⟨a1,c1⟩⟩
 try dsimp only
 refine qH (m':=qgb F x5 x8 (qbW F x5 x8 k0) x4 x6 x7) rfl ?_
 refine av [96] ?_ ?_
 intro _
 refine au [83,47] ?_
 refine yM (j:=0) (qu .u64) (by decide) rfl UnF.u inferInstance rfl rfl rfl rfl ?_
 intro x9 e0 b0 o0
 refine au [25,2,58,3] ?_
 refine qk qjf ?_
 rintro x10 e1 ⟨a2,c2⟩
 refine au [93,24,4] ?_
 intro g0
 refine au [20,85,25,1,3] ?_
 refine qO 7 ((x10.2.2:Int) != 0) [(2,qsQ x8),(3,qsS g9),(6,qsS g10),(12,qsR a6 x5 c7),(13,qsQ (x5.length:Int)),(14,qsQ x4),(10,qsS g0),(33,.bool (((x10.2.2:Int) != 0) || (decide (8192<(iadd .i64 x6 x10.1)))))] (fun h0=>?_) (fun h0=>?_) ?_
 refine qc (os:=_) rfl (qA (k:=26) rfl h0 ?_)
 refine au [65,61,24,7] ?_
 refine qa (d:=33) (v:=.bool (((x10.2.2:Int) != 0) || (decide (8192<(iadd .i64 x6 x10.1))))) rfl (by rw[h0];simp only[qqU]) ?_
 exact az [51]
 refine qc (os:=_) rfl (qz (k:=26) rfl h0 ?_)
 refine au [9,26,1,78,23,81] ?_
 refine qa (d:=33) (v:=.bool (((x10.2.2:Int) != 0) || (decide (8192<(iadd .i64 x6 x10.1))))) rfl (by rw[h0];simp only[qqT]) ?_
 exact az [51]
 refine qc (os:=_) rfl ?_
 refine av [50] ?_ ?_
 intro _
 refine au [47] ?_
 refine qq (cells:=[qsQ 0,.slice none 0 0]) rfl st65 rfl (by kernel_rfl) rfl ?_
 refine au [25,4,60,92,52,25,15] ?_
 exact kU (none,0) (resL (rs:=[.cell 6 65,.tmp 7]) rfl (.cell (i:=1) rfl tf65 rfl rfl (by simp) rfl (.tmp rfl ResOk.nil)) rfl) (hR:=fun h=>by subst h;exact (.cons 0 rfl .nil))
 intro _
 refine au [57,4,26,6,24,10,30,10] ?_
 rintro x11 e2 ⟨a4,c3⟩
 refine au [27,5,0,99] ?_
 exact qr ((iadd .i64 x4 1,x11.1,x11.2),(a4,c3))
 intro _
 refine au [73] ?_
 exact qb ((x6,x7),(a1,c1))
 rintro ⟨⟨x0,x3⟩,⟨a0,c0⟩⟩
 try dsimp only
 refine au [47,25,7,20,49] ?_
 exact kU (a0,c0) (resL (rs:=[.cell 6 65,.tmp 7]) rfl (.cell (i:=0) rfl tf65 rfl rfl (by simp) rfl (.tmp rfl ResOk.nil)) rfl) (hR:=fun h=>by subst h;exact (.cons 0 rfl .nil))
theorem qg5 {F:Nat}{g1:Nat}{x2:Int}{x3:Bool}{x4:Int}{r:(Int×Int×Bool)}(hm:qdE F x2 x3 x4=some r) :
    PureM Tryz.prog 300 [qsS g1,qsQ x4] [⟨g1,359,[qsQ x2,.bool x3]⟩] [] [] Unit (fun _=>.int .u64 r.1) (fun _=>[⟨g1,359,[qsQ r.2.1,.bool r.2.2]⟩]) (fun _=>[]):=by
 refine qE Tryz.func300 rfl Tryz.ntmps300 rfl hm (fun w=>?_)
 refine au [56,46] ?_
 refine qj (fun ((x8,_):(Int×Unit))=>([(0,qsS g1),(1,qsQ x4),(4,.int .u64 x8)],[⟨g1,359,[qsQ x2,.bool x3]⟩],[],[],jB F x4 x8)) ?_ ?_
 refine av [48,114,50] ?_ ?_
 intro _
 refine au [4,3,3,114,25,10,25,10,25,11,121] ?_
 intro x9 e9
 refine qa (d:=4) (v:=.int .u64 x9) rfl (by simp only[qsR,e9] <;> rfl) ?_
 refine au [0] ?_
 exact qb (x9,())
 intro _
 refine au [4,3,3,114,25,10,34,5] ?_
 intro x10 e10 _
 refine au [5,0] ?_
 exact qb (x10,())
 rintro ⟨x8,_⟩
 try dsimp only
 exact az [87,3,55,20,55,119,48,90]
set_option maxHeartbeats 4000000 in
theorem qmf {F:Nat}{x1:qsO}{a2:qsP}{c3:Nat}{x4:Int}{r:qsO}(hm:qgM F x1 x4=some r) :
    Pure Tryz.prog 280 [qsR a2 x1 c3,qsQ x4] [qsT a2 x1 c3] (qsP×Nat) (fun g=>qsR g.1 r g.2) (fun g=>[Ro (eI .u64) 119 1 (qsR g.1 r g.2) r]) (fun _=>[]):=by
 refine qs Tryz.func280 rfl Tryz.ntmps280 rfl hm (fun w=>?_)
 refine au [56,58] ?_
 refine qq (cells:=[qsQ x4,.bool false]) rfl st359 rfl (by kernel_rfl) rfl ?_
 refine au [22] ?_
 intro g5
 refine au [84,46] ?_
 refine qj (fun ((x75,(a73,c74)):(qsO×(qsP×Nat)))=>([(6,qsR a73 x75 c74)],[],[Ro (eI .u64) 119 1 (qsR a73 x75 c74) x75],[],qge F x75)) ?_ ?_
 refine au [72,3,76] ?_
 refine qbM Int (eI .u64) 119 1 (qB (fun (((x98,x99,x0,x2),(a96,c97)):((qsO×Int×Int×Bool)×(qsP×Nat)))=>([(5,qsS g5),(6,qsR a96 x98 c97),(12,qsR a2 x1 c3),(13,qsQ (x1.length:Int)),(14,qsQ x99)],[⟨g5,359,[qsQ x0,.bool x2]⟩],[Ro (eI .u64) 119 1 (qsR a96 x98 c97) x98],[qsT a2 x1 c3])) (fun k (s:((qsO×Int×Int×Bool)×(qsP×Nat)))=>qbX F x1 k s.1) ((([]:qsO),0,x4,false),(none,0)) F ?_)
 intro k0
 rintro ⟨⟨x98,x99,x0,x2⟩,⟨a96,c97⟩⟩
 try dsimp only
 refine qH (m':=qgd F x1 (qbX F x1 k0) x98 x99 x0 x2) rfl ?_
 refine av [96] ?_ ?_
 intro _
 refine au [83,47,26,2] ?_
 intro x3 e0 b0 o0
 refine au [25,2,46,4,3,3,3] ?_
 refine qF qg5 ?_
 intro x5 e1 _
 refine qV (vs:=[.int .u64 x5.1]) (ys:=([x5.1]:qsO)) (qu .u64) (by decide) rfl Tryz.underlying211 tf119 rfl rfl rfl rfl rfl (by decide) (fun a0 c0=>zu 1 (qu .u64) rfl Tryz.underlying211 tf119 rfl rfl rfl rfl rfl (.inl ⟨0,_,rfl⟩) rfl rfl (fun x6 e2 a1 c1=>?_))
 refine au [5,0,99] ?_
 exact qr ((x6,iadd .i64 x99 1,x5.2.1,x5.2.2),(a1,c1))
 intro _
 refine au [73] ?_
 exact qb (x98,(a96,c97))
 rintro ⟨x75,⟨a73,c74⟩⟩
 try dsimp only
 refine au [48,49] ?_
 exact qI (a73,c74)
set_option maxHeartbeats 4000000 in
theorem qgI {F:Nat}{g1:Nat}{x2:Int}{x3:qsO}{a4:qsP}{c5:Nat}{x6:Bool}{x7:Int}{x8:qsO}{a9:qsP}{c10:Nat}{x11:qsO}{a12:qsP}{c13:Nat}{x14:Int}{x15:Int}{x16:Int}{r:(Int×qsO×Bool)}(hm:qaz F x2 x3 x6 x7 x8 x11 x14 x15 x16=some r) :
    PureM Tryz.prog 247 [qsS g1,qsQ x7,qsR a9 x8 c10,qsR a12 x11 c13,.agg #[qsQ x14,qsQ x15,qsQ x16]] [⟨g1,316,[qsQ x2,qsR a4 x3 c5,.bool x6]⟩] [qsW a4 x3 c5] [qsT a9 x8 c10,qsT a12 x11 c13] (qsP×Nat) (fun _=>.tuple #[]) (fun g=>[⟨g1,316,[qsQ r.1,qsR g.1 r.2.1 g.2,.bool r.2.2]⟩]) (fun g=>[qsW g.1 r.2.1 g.2]):=by
 refine qE Tryz.func247 rfl Tryz.ntmps247 rfl hm (fun w=>?_)
 refine au [31,14,47,22] ?_
 intro g17
 refine au [45,87,24,6,28,11] ?_
 rintro x18 e18 ⟨a19,c20⟩
 refine av [45,1,72,112] ?_ ?_
 intro _
 refine au [8,12] ?_
 exact qX (a19,c20)
 intro _
 refine au [57,48,46] ?_
 refine qj (fun (((x33,x34,x37,x38),(a31,c32,a35,c36)):((qsO×Int×qsO×Bool)×(qsP×Nat×qsP×Nat)))=>([(0,qsS g1),(1,qsQ x7),(9,qsS g17),(10,qsR a31 x33 c32)],[⟨g1,316,[qsQ x34,qsR a35 x37 c36,.bool x38]⟩,⟨g17,26,[qsQ x14,qsQ x15,qsQ x16]⟩],[qsW a35 x37 c36],[qsT a31 x33 c32],jd F x7 x15 x16 x33 x34 x37 x38)) ?_ ?_
 refine av [47,89,104] ?_ ?_
 intro _
 refine au [47,58,3] ?_
 refine qk qlj ?_
 rintro x0 e0 ⟨⟨a0,c0⟩,⟨a1,c1⟩⟩
 refine au [93,5,46,4,3,3] ?_
 refine qF qfh ?_
 rintro x1 e1 ⟨a2,c2⟩
 refine au [0,34,7] ?_
 exact qb ((x0.2,x1.1,x1.2.1,x1.2.2),(a1,c1,a2,c2))
 intro _
 refine au [11] ?_
 exact qb ((x8,x18.1,x18.2.1,x18.2.2),(a9,c10,a19,c20))
 rintro ⟨⟨x33,x34,x37,x38⟩,⟨a31,c32,a35,c36⟩⟩
 try dsimp only
 refine av [1,72,112] ?_ ?_
 intro _
 refine au [8,12] ?_
 exact qX (a35,c36)
 intro _
 refine au [57] ?_
 refine qj (fun (((x51,x52,x55,x56),(a49,c50,a53,c54)):((qsO×Int×qsO×Bool)×(qsP×Nat×qsP×Nat)))=>([(0,qsS g1),(1,qsQ x7),(9,qsS g17),(10,qsR a49 x51 c50)],[⟨g1,316,[qsQ x52,qsR a53 x55 c54,.bool x56]⟩,⟨g17,26,[qsQ x14,qsQ x15,qsQ x16]⟩],[qsW a53 x55 c54],[qsT a49 x51 c50],je F x7 x16 x51 x52 x55 x56)) ?_ ?_
 refine av [47,89,104] ?_ ?_
 intro _
 refine au [47,58,89] ?_
 refine qF qmh ?_
 rintro x4 e2 ⟨⟨a3,c3⟩,⟨a5,c4⟩⟩
 refine au [93,5,46,4,3,3,89,3] ?_
 refine qF qgJ ?_
 rintro x5 e3 ⟨a6,c6⟩
 refine au [0,34,7] ?_
 exact qb ((x4.2,x5.1,x5.2.1,x5.2.2),(a5,c4,a6,c6))
 intro _
 refine au [11] ?_
 exact qb ((x33,x34,x37,x38),(a31,c32,a35,c36))
 rintro ⟨⟨x51,x52,x55,x56⟩,⟨a49,c50,a53,c54⟩⟩
 try dsimp only
 refine qj (fun (((x76,x77,x80),(g75,a78,c79)):((Bool×Int×qsO)×(Nat×qsP×Nat)))=>([(0,qsS g1),(13,qsS g75),(14,.bool x76)],[⟨g1,316,[qsQ x52,qsR a53 x55 c54,.bool x56]⟩,⟨g75,65,[qsQ x77,qsR a78 x80 c79]⟩],[qsW a53 x55 c54,qsW a78 x80 c79],[],yQ F x52 x55 x56 x76 x77 x80)) ?_ ?_
 refine qt mixed [] [⟨g1,316,[qsQ x52,qsR a53 x55 c54,.bool x56]⟩,⟨g17,26,[qsQ x14,qsQ x15,qsQ x16]⟩] [qsT a49 x51 c50] (.cons 0 rfl (.cons 0 rfl .nil)) (qf 0 rfl qh) 13 rfl (qe 0 (.agg #[qsQ 0,.slice none 0 0]) rfl rfl rfl (qbj (cells:=[qsQ 0,.slice none 0 0]) st65 rfl (by kernel_rfl)) ?_)
 refine au [6,1,6,2,15,4,26,4,5] ?_
 refine ye 3 10 rfl rfl (by kernel_rfl) rfl rfl ?_ ?_
 refine au [34,8] ?_
 rintro x85 e85 ⟨a86,c87⟩
 refine au [0,30,2] ?_
 refine ye 6 10 rfl rfl (by kernel_rfl) rfl rfl ?_ ?_
 refine au [29,4,31,15] ?_
 rintro x88 e88 ⟨a89,c90⟩
 refine au [0,30,2,6,7,6,8,6,9,13,10,24,4] ?_
 intro g91
 refine au [0,26,14,13,11,86,26,14,6,12,16] ?_
 exact qm (qb ((x88.2.2,x88.1,x88.2.1),(g91,a89,c90))) (by intro c h;cases h)
 refine kz (m':=((qeE F 0 ([]:qsO) x85 x16).bind fun x93=>yQ F x52 x55 x56 x93.2.2 x93.1 x93.2.1)) (rfl) ?_
 refine au [24,4] ?_
 intro g92
 refine au [0,26,14,13,6,29,4,31,15] ?_
 rintro x93 e93 ⟨a94,c95⟩
 refine au [0,26,14,6,7,6,8,6,9,13,11,86,26,14,6,12,16] ?_
 exact qm (qb ((x93.2.2,x93.1,x93.2.1),(g92,a94,c95))) (by intro c h;cases h)
 refine kz (m':=((qgM F x51 x7).bind fun x97=>((qeE F 0 ([]:qsO) x97 x16).bind fun x9=>yQ F x52 x55 x56 x9.2.2 x9.1 x9.2.1))) (rfl) ?_
 refine au [24,4] ?_
 intro g96
 refine au [0,26,14,13,3,34,8] ?_
 rintro x97 e97 ⟨a98,c99⟩
 refine au [0,26,14,13,6,29,4,31,15] ?_
 rintro x9 e4 ⟨a7,c7⟩
 refine au [0,26,14,6,7,6,8,6,9,13,11,86,26,14,6,12,16] ?_
 exact qm (qb ((x9.2.2,x9.1,x9.2.1),(g96,a7,c7))) (by intro c h;cases h)
 rintro ⟨⟨x76,x77,x80⟩,⟨g75,a78,c79⟩⟩
 try dsimp only
 refine au [87,114,3] ?_
 refine qO 3 x56 [(0,qsS g1),(13,qsS g75),(64,qsS g1),(72,.bool (x56 || (!x76)))] (fun h81=>?_) (fun h81=>?_) ?_
 refine qc (os:=_) rfl (qA (k:=69) rfl h81 ?_)
 refine au [61,24,7] ?_
 refine qa (d:=72) (v:=.bool (x56 || (!x76))) rfl (by rw[h81];simp only[qqU]) ?_
 exact az [51]
 refine qc (os:=_) rfl (qz (k:=69) rfl h81 ?_)
 refine au [3,25,8,24,9] ?_
 refine qa (d:=72) (v:=.bool (x56 || (!x76))) rfl (by rw[h81];simp only[qqT]) ?_
 exact az [51]
 refine qc (os:=_) rfl ?_
 refine au [55,119,4,3,25,7,34,0] ?_
 rintro x82 e82 ⟨a83,c84⟩
 refine au [0] ?_
 exact qX (a83,c84)
theorem qku {F:Nat}{x1:Int}{x2:qsO}{a3:qsP}{c4:Nat}{x5:Int}{x6:Int}{x7:Int}{r:Int}(hm:qhm F x1 x2 x5 x6 x7=some r) :
    Pure Tryz.prog 287 [qsQ x1,qsR a3 x2 c4,.agg #[qsQ x5,qsQ x6,qsQ x7]] [qsT a3 x2 c4] Unit (fun _=>qsQ r) (fun _=>[]) (fun _=>[]):=by
 refine qs Tryz.func287 rfl Tryz.ntmps287 rfl hm (fun w=>?_)
 refine au [111,22] ?_
 intro g8
 refine au [85,24,3,3] ?_
 refine qO 3 (decide (x1<0)) [(1,qsR a3 x2 c4),(5,qsS g8),(12,.bool ((decide (x1<0)) || (decide (1048576<x1))))] (fun h11=>?_) (fun h11=>?_) ?_
 refine qc (os:=_) rfl (qA (k:=9) rfl h11 ?_)
 refine au [61,24,7] ?_
 refine qa (d:=12) (v:=.bool ((decide (x1<0)) || (decide (1048576<x1)))) rfl (by rw[h11];simp only[qqU]) ?_
 exact az [51]
 refine qc (os:=_) rfl (qz (k:=9) rfl h11 ?_)
 refine au [3,81] ?_
 refine qa (d:=12) (v:=.bool ((decide (x1<0)) || (decide (1048576<x1)))) rfl (by rw[h11];simp only[qqT]) ?_
 exact az [51]
 refine qc (os:=_) rfl ?_
 refine av [50] ?_ ?_
 intro _
 exact az [47,77]
 intro _
 refine av [82,47,78,104] ?_ ?_
 intro _
 refine au [48,29,15] ?_
 intro x14 e14 _
 exact az [77]
 intro _
 exact az [115,68]
set_option maxHeartbeats 4000000 in
theorem qkt {F:Nat}{x1:Int}{x2:qsO}{a3:qsP}{c4:Nat}{x5:qsO}{a6:qsP}{c7:Nat}{x8:Int}{x9:Int}{x10:Int}{r:(Int×qsO×Int)}(hm:qhl F x1 x2 x5 x8 x9 x10=some r) :
    Pure Tryz.prog 259 [qsQ x1,qsR a3 x2 c4,qsR a6 x5 c7,.agg #[qsQ x8,qsQ x9,qsQ x10]] [qsT a3 x2 c4,qsT a6 x5 c7] (qsP×Nat) (fun g=>.tuple #[.agg #[qsQ r.1,qsR g.1 r.2.1 g.2],qsQ r.2.2]) (fun g=>[qsW g.1 r.2.1 g.2]) (fun _=>[]):=by
 refine qs Tryz.func259 rfl Tryz.ntmps259 rfl hm (fun w=>?_)
 refine au [28,5,47,22] ?_
 intro g11
 refine au [24,4] ?_
 intro g12
 refine au [84,25,7,29,7] ?_
 intro x13 e13 _
 refine au [46] ?_
 refine qj (fun ((x19,_):(Int×Unit))=>([(0,qsQ x1),(1,qsR a3 x2 c4),(2,qsR a6 x5 c7),(7,qsS g11),(8,qsS g12),(10,qsQ x19)],[⟨g12,65,[qsQ 0,.slice none 0 0]⟩,⟨g11,26,[qsQ x8,qsQ x9,qsQ x10]⟩],[],[qsT a3 x2 c4,qsT a6 x5 c7],qcE F x1 x2 x5 x8 x9 x10 x19)) ?_ ?_
 refine au [48,25,5,3] ?_
 refine zp 7 (fun ((x40,_):(Bool×Unit))=>([(0,qsQ x1),(1,qsR a3 x2 c4),(2,qsR a6 x5 c7),(7,qsS g11),(8,qsS g12),(10,qsQ x13),(23,.bool x40)],[⟨g12,65,[qsQ 0,.slice none 0 0]⟩,⟨g11,26,[qsQ x8,qsQ x9,qsQ x10]⟩],[],[qsT a3 x2 c4,qsT a6 x5 c7],qcH F x1 x2 x5 x8 x9 x10 x13 x40)) ?_ ?_
 refine qc (os:=_) rfl ?_
 refine av [25,14] ?_ ?_
 intro h38
 refine qA (k:=16) rfl h38 ?_
 refine au [3,24,3,3] ?_
 refine qO 3 (decide (x1<0)) [(0,qsQ x1),(1,qsR a3 x2 c4),(2,qsR a6 x5 c7),(7,qsS g11),(8,qsS g12),(10,qsQ x13),(16,.bool true),(22,.bool ((decide (x1<0)) || (decide (1048576<x1))))] (fun h42=>?_) (fun h42=>?_) ?_
 refine qc (os:=_) rfl (qA (k:=19) rfl h42 ?_)
 refine au [61,24,7] ?_
 refine qa (d:=22) (v:=.bool ((decide (x1<0)) || (decide (1048576<x1)))) rfl (by rw[h42];simp only[qqU]) ?_
 exact az [51]
 refine qc (os:=_) rfl (qz (k:=19) rfl h42 ?_)
 refine au [3,81] ?_
 refine qa (d:=22) (v:=.bool ((decide (x1<0)) || (decide (1048576<x1)))) rfl (by rw[h42];simp only[qqT]) ?_
 exact az [51]
 refine qc (os:=_) rfl ?_
 refine au [106] ?_
 exact qb (((decide (x1<0)) || (decide (1048576<x1))),())
 intro h38
 refine qz (k:=16) rfl h38 ?_
 refine au [65,61,109] ?_
 exact qb (false,())
 rintro ⟨x40,_⟩
 try dsimp only
 refine qc (os:=_) rfl ?_
 refine av [50] ?_ ?_
 intro _
 refine au [4,5,0] ?_
 exact qb ((3:Int),())
 intro _
 refine au [11] ?_
 exact qb (x13,())
 rintro ⟨x19,_⟩
 try dsimp only
 refine qj (fun ((x22,_):(Int×Unit))=>([(0,qsQ x1),(1,qsR a3 x2 c4),(2,qsR a6 x5 c7),(7,qsS g11),(8,qsS g12),(10,qsQ x22)],[⟨g12,65,[qsQ 0,.slice none 0 0]⟩,⟨g11,26,[qsQ x8,qsQ x9,qsQ x10]⟩],[],[qsT a3 x2 c4,qsT a6 x5 c7],qcF F x1 x2 x5 x8 x9 x10 x22)) ?_ ?_
 refine av [48,112] ?_ ?_
 intro _
 refine au [4,3,29,15] ?_
 intro x36 e36 _
 refine au [5,0] ?_
 exact qb (x36,())
 intro _
 refine au [11] ?_
 exact qb (x19,())
 rintro ⟨x22,_⟩
 try dsimp only
 refine qj (fun ((x25,_):(Int×Unit))=>([(0,qsQ x1),(1,qsR a3 x2 c4),(2,qsR a6 x5 c7),(7,qsS g11),(8,qsS g12),(10,qsQ x25)],[⟨g12,65,[qsQ 0,.slice none 0 0]⟩,⟨g11,26,[qsQ x8,qsQ x9,qsQ x10]⟩],[],[qsT a3 x2 c4,qsT a6 x5 c7],qcG F x1 x2 x5 x8 x9 x10 x25)) ?_ ?_
 refine av [48,112] ?_ ?_
 intro _
 refine au [4,3,3,25,7] ?_
 refine qk qku ?_
 intro x34 e34 _
 refine au [5,0] ?_
 exact qb (x34,())
 intro _
 refine au [11] ?_
 exact qb (x22,())
 rintro ⟨x25,_⟩
 try dsimp only
 refine av [1,48,70] ?_ ?_
 intro _
 refine au [47] ?_
 refine qq (cells:=[qsQ 0,.slice none 0 0]) rfl st65 rfl (by kernel_rfl) rfl ?_
 refine au [3,20,60,25,15] ?_
 exact qS (none,0) (resL (rs:=[.cell 8 65,.tmp 9]) rfl (.cell (i:=0) rfl tf65 rfl rfl (by simp) rfl (.tmp rfl ResOk.nil)) rfl) (fun h=>by subst h;exact (.cons 0 rfl .nil))
 intro _
 refine au [115] ?_
 refine qq (cells:=[qsQ 0,.slice none 0 0,.bool false]) rfl st316 rfl (by kernel_rfl) rfl ?_
 refine au [22] ?_
 intro g27
 refine au [58,3,3,3,26,6,29,4,34,9] ?_
 rintro x28 e28 ⟨a29,c30⟩
 refine av [45,1,48,114,50] ?_ ?_
 intro _
 refine au [47] ?_
 refine qq (cells:=[qsQ 0,.slice none 0 0]) rfl st65 rfl (by kernel_rfl) rfl ?_
 refine au [25,4,60,25,15] ?_
 exact qS (none,0) (resL (rs:=[.cell 8 65,.tmp 9]) rfl (.cell (i:=1) rfl tf65 rfl rfl (by simp) rfl (.tmp rfl ResOk.nil)) rfl) (fun h=>by subst h;exact (.cons 0 rfl .nil))
 intro _
 refine au [57,48,55,24,10,25,4,49] ?_
 exact qS (a29,c30) (resL (rs:=[.cell 8 65,.tmp 9]) rfl (.cell (i:=1) rfl tf65 rfl rfl (by simp) rfl (.tmp rfl ResOk.nil)) rfl) (fun h=>by subst h;exact (.cons 0 rfl .nil))
set_option maxHeartbeats 4000000 in
theorem qli {F:Nat}{x1:List (qsO)}{a2:qsP}{c3:Nat}{s3:List (qsP×Nat)}{x4:qsO}{a5:qsP}{c6:Nat}{x7:Int}{x8:Int}{x9:Int}{x10:Int}{r:(Int×Int×qsO×Bool)}(hm:qh3 F x1 x4 x7 x8 x9 x10=some r) :
    Pure Tryz.prog 230 [qsR a2 x1 c3,qsR a5 x4 c6,qsQ x7,.agg #[qsQ x8,qsQ x9,qsQ x10]] [SlN eN56 iN56 1 (qsR a2 x1 c3) x1 s3,qsT a5 x4 c6] (qsP×Nat) (fun g=>.tuple #[.agg #[qsQ r.1,qsQ r.2.1,qsR g.1 r.2.2.1 g.2],.bool r.2.2.2]) (fun g=>[qsW g.1 r.2.2.1 g.2]) (fun _=>[]):=by
 refine qs Tryz.func230 rfl Tryz.ntmps230 rfl hm (fun w=>?_)
 refine au [28,5,47,22] ?_
 intro g11
 refine au [24,4] ?_
 intro g12
 refine au [58,24,6,84] ?_
 refine qq (cells:=[qsQ 0,.slice none 0 0]) rfl st65 rfl (by kernel_rfl) rfl ?_
 refine au [24,4] ?_
 intro g13
 refine au [119] ?_
 refine qj (fun (((x18,x21),(a19,c20)):((Int×qsO)×(qsP×Nat)))=>([(0,qsR a2 x1 c3),(1,qsR a5 x4 c6),(2,qsQ x7),(7,qsS g11),(8,qsS g12),(10,qsQ (x1.length:Int)),(11,qsS g13)],[⟨g13,65,[qsQ x18,qsR a19 x21 c20]⟩,⟨g12,247,[qsQ 0,qsQ 0,.slice none 0 0]⟩,⟨g11,26,[qsQ x8,qsQ x9,qsQ x10]⟩],[qsW a19 x21 c20],[SlN eN56 iN56 1 (qsR a2 x1 c3) x1 s3,qsT a5 x4 c6],qc9 F x1 x4 x7 x9 x10 x18 x21)) ?_ ?_
 refine av [47,9,26,1,104] ?_ ?_
 intro _
 refine au [4,3,25,11,33,15] ?_
 rintro x46 e46 ⟨a47,c48⟩
 refine au [86] ?_
 exact qb ((x46.1,x46.2),(a47,c48))
 intro _
 refine au [11,25,15] ?_
 exact qb (((0:Int),([]:qsO)),(none,0))
 rintro ⟨⟨x18,x21⟩,⟨a19,c20⟩⟩
 try dsimp only
 refine au [47,46] ?_
 refine qj (fun ((x29,(a27,c28)):(qsO×(qsP×Nat)))=>([(1,qsR a5 x4 c6),(2,qsQ x7),(7,qsS g11),(8,qsS g12),(10,qsQ (x1.length:Int)),(11,qsS g13),(12,qsR a27 x29 c28)],[⟨g13,65,[qsQ x18,qsR a19 x21 c20]⟩,⟨g12,247,[qsQ 0,qsQ 0,.slice none 0 0]⟩,⟨g11,26,[qsQ x8,qsQ x9,qsQ x10]⟩],[qsW a19 x21 c20],[qsT a5 x4 c6,qsT a27 x29 c28],qda F x1 x4 x7 x9 x10 x18 x21 x29)) ?_ ?_
 refine av [48,104] ?_ ?_
 intro _
 refine au [4,3,3,3,25,10,27,1] ?_
 intro x41 e41 g44 b42 o43
 refine au [25,2,5,0] ?_
 exact qb (x41,(g44.1,g44.2))
 intro _
 refine au [11,25,9] ?_
 exact qi8 0 rfl (qb (([]:qsO),(none,0)))
 rintro ⟨x29,⟨a27,c28⟩⟩
 try dsimp only
 refine au [48,9,27,5,45,87,3,26,6] ?_
 refine qk qkt ?_
 rintro x30 e30 ⟨a31,c32⟩
 refine au [93,24,4] ?_
 intro g33
 refine au [20,85,25,1,3] ?_
 refine qO 7 ((x30.2.2:Int) != 0) [(2,qsQ x7),(8,qsS g12),(11,qsS g13),(13,qsS g33),(51,.bool (((x30.2.2:Int) != 0) || (decide (8192<(iadd .i64 x18 x30.1)))))] (fun h36=>?_) (fun h36=>?_) ?_
 refine qc (os:=_) rfl (qA (k:=44) rfl h36 ?_)
 refine au [65,61,24,7] ?_
 refine qa (d:=51) (v:=.bool (((x30.2.2:Int) != 0) || (decide (8192<(iadd .i64 x18 x30.1))))) rfl (by rw[h36];simp only[qqU]) ?_
 exact az [51]
 refine qc (os:=_) rfl (qz (k:=44) rfl h36 ?_)
 refine au [89,78,23,81] ?_
 refine qa (d:=51) (v:=.bool (((x30.2.2:Int) != 0) || (decide (8192<(iadd .i64 x18 x30.1))))) rfl (by rw[h36];simp only[qqT]) ?_
 exact az [51]
 refine qc (os:=_) rfl ?_
 refine av [50] ?_ ?_
 intro _
 refine au [47] ?_
 refine qq (cells:=[qsQ 0,qsQ 0,.slice none 0 0]) rfl st247 rfl (by kernel_rfl) rfl ?_
 refine au [27,5,60,25,15] ?_
 exact qS (none,0) (resL (rs:=[.cell 8 247,.tmp 9]) rfl (.cell (i:=2) rfl tf247 rfl rfl (by simp) rfl (.tmp rfl ResOk.nil)) rfl) (fun h=>by subst h;exact (.cons 0 rfl .nil))
 intro _
 refine au [57,48,25,7,24,10,30,10] ?_
 rintro x37 e37 ⟨a38,c39⟩
 refine qq (cells:=[qsQ x7,qsQ x37.1,qsR a38 x37.2 c39]) rfl st247 rfl (by kernel_rfl) rfl ?_
 refine au [27,5,49] ?_
 exact qS (a38,c39) (resL (rs:=[.cell 8 247,.tmp 9]) rfl (.cell (i:=2) rfl tf247 rfl rfl (by simp) rfl (.tmp rfl ResOk.nil)) rfl) (fun h=>by subst h;exact (.cons 0 rfl .nil))
set_option maxHeartbeats 4000000 in
theorem qlh {F:Nat}{x1:List (qsO)}{a2:qsP}{c3:Nat}{s3:List (qsP×Nat)}{x4:qsO}{a5:qsP}{c6:Nat}{x7:Int}{x8:Int}{x9:Int}{r:(Int×Int×qsO×Bool)}(hm:qfB F x1 x4 x7 x8 x9=some r) :
    Pure Tryz.prog 191 [qsR a2 x1 c3,qsR a5 x4 c6,.agg #[qsQ x7,qsQ x8,qsQ x9]] [SlN eN56 iN56 1 (qsR a2 x1 c3) x1 s3,qsT a5 x4 c6] (qsP×Nat) (fun g=>.tuple #[.agg #[qsQ r.1,qsQ r.2.1,qsR g.1 r.2.2.1 g.2],.bool r.2.2.2]) (fun g=>[qsW g.1 r.2.2.1 g.2]) (fun _=>[]):=by
 refine qs Tryz.func191 rfl Tryz.ntmps191 rfl hm (fun w=>?_)
 refine au [111,22] ?_
 intro g10
 refine au [24,4] ?_
 intro g11
 refine au [46] ?_
 refine qj (fun (((x96,x97,x98,x0),(a99,c0)):((Bool×Int×Int×qsO)×(qsP×Nat)))=>([(6,qsS g11),(7,.bool x96)],[⟨g11,247,[qsQ x97,qsQ x98,qsR a99 x0 c0]⟩],[qsW a99 x0 c0],[],qfC F x96 x97 x98 x0)) ?_ ?_
 refine au [47,89,3,24,6,28,8,88,76,30,11] ?_
 refine qB (fun (((x2,x3,x5,x6,x10),(a0,c1)):((Bool×Int×Int×Int×qsO)×(qsP×Nat)))=>([(0,qsR a2 x1 c3),(1,qsR a5 x4 c6),(5,qsS g10),(6,qsS g11),(7,.bool x2),(16,qsQ (iadd .i64 (imin x7 (x1.length:Int)) 1)),(17,qsQ x3)],[⟨g11,247,[qsQ x5,qsQ x6,qsR a0 x10 c1]⟩,⟨g10,26,[qsQ x7,qsQ x8,qsQ x9]⟩],[qsW a0 x10 c1],[SlN eN56 iN56 1 (qsR a2 x1 c3) x1 s3,qsT a5 x4 c6])) (fun k (s:((Bool×Int×Int×Int×qsO)×(qsP×Nat)))=>yV F x1 x4 x7 x8 x9 k s.1) ((false,0,0,0,([]:qsO)),(none,0)) F ?_
 intro k0
 rintro ⟨⟨x2,x3,x5,x6,x10⟩,⟨a0,c1⟩⟩
 try dsimp only
 refine qH (m':=qeZ F x1 x4 x7 x8 x9 (yV F x1 x4 x7 x8 x9 k0) x2 x3 x5 x6 x10) rfl ?_
 refine av [96] ?_ ?_
 intro _
 refine au [57] ?_
 refine qj (fun (((x11,x12,x13,x14),(a1,c2)):((Bool×Int×Int×qsO)×(qsP×Nat)))=>([(0,qsR a2 x1 c3),(1,qsR a5 x4 c6),(5,qsS g10),(6,qsS g11),(7,.bool x11),(16,qsQ (iadd .i64 (imin x7 (x1.length:Int)) 1)),(17,qsQ x3)],[⟨g11,247,[qsQ x12,qsQ x13,qsR a1 x14 c2]⟩,⟨g10,26,[qsQ x7,qsQ x8,qsQ x9]⟩],[qsW a1 x14 c2],[SlN eN56 iN56 1 (qsR a2 x1 c3) x1 s3,qsT a5 x4 c6],qcu F (yV F x1 x4 x7 x8 x9 k0) x3 x11 x12 x13 x14)) ?_ ?_
 refine au [14,48,58,3,3,25,7] ?_
 refine qk qli ?_
 rintro x15 e0 ⟨a3,c4⟩
 refine au [93,24,4] ?_
 intro g0
 refine au [20,58,3] ?_
 refine zp 12 (fun ((x16,_):(Bool×Unit))=>([(0,qsR a2 x1 c3),(1,qsR a5 x4 c6),(5,qsS g10),(6,qsS g11),(7,.bool x2),(9,qsS g0),(16,qsQ (iadd .i64 (imin x7 (x1.length:Int)) 1)),(17,qsQ x3),(41,.bool x16)],[⟨g0,247,[qsQ x15.1,qsQ x15.2.1,qsR a3 x15.2.2.1 c4]⟩,⟨g11,247,[qsQ x5,qsQ x6,qsR a0 x10 c1]⟩,⟨g10,26,[qsQ x7,qsQ x8,qsQ x9]⟩],[qsW a3 x15.2.2.1 c4,qsW a0 x10 c1],[SlN eN56 iN56 1 (qsR a2 x1 c3) x1 s3,qsT a5 x4 c6],qcv F (yV F x1 x4 x7 x8 x9 k0) x2 x3 x5 x6 x10 x15 x16)) ?_ ?_
 refine qc (os:=_) rfl ?_
 refine av [25,14] ?_ ?_
 intro h0
 refine qA (k:=29) rfl h0 ?_
 refine au [3,25,8,3] ?_
 refine qO 8 (!x2) [(0,qsR a2 x1 c3),(1,qsR a5 x4 c6),(5,qsS g10),(6,qsS g11),(7,.bool x2),(16,qsQ (iadd .i64 (imin x7 (x1.length:Int)) 1)),(17,qsQ x3),(9,qsS g0),(29,.bool true),(30,.bool x2),(31,.bool (!x2)),(32,.bool (!x2)),(40,.bool ((!x2) || (decide (x15.2.1<x6))))] (fun h1=>?_) (fun h1=>?_) ?_
 refine qc (os:=_) rfl (qA (k:=32) rfl h1 ?_)
 refine au [65,61,7,24,7] ?_
 refine qa (d:=40) (v:=.bool ((!x2) || (decide (x15.2.1<x6)))) rfl (by rw[h1];simp only[qqU]) (qa (d:=32) (v:=.bool (!x2)) rfl (by simp only[qsR,h1] <;> rfl) ?_)
 exact az [51]
 refine qc (os:=_) rfl (qz (k:=32) rfl h1 ?_)
 refine au [9,78,9,89,24,3,24,9] ?_
 refine qa (d:=40) (v:=.bool ((!x2) || (decide (x15.2.1<x6)))) rfl (by rw[h1];simp only[qqT]) (qa (d:=32) (v:=.bool (!x2)) rfl (by simp only[qsR,h1] <;> rfl) ?_)
 exact az [51]
 refine qc (os:=_) rfl ?_
 refine au [106] ?_
 exact qb (((!x2) || (decide (x15.2.1<x6))),())
 intro h0
 refine qz (k:=29) rfl h0 ?_
 refine au [65,65,61,7,109] ?_
 exact qb (false,())
 rintro ⟨x16,_⟩
 try dsimp only
 refine qc (os:=_) rfl ?_
 refine av [50] ?_ ?_
 intro _
 refine au [4,24,10,25,4,5,0,24,2] ?_
 exact qb ((true,x15.1,x15.2.1,x15.2.2.1),(a3,c4))
 intro _
 refine au [11,24,2] ?_
 exact qb ((x2,x5,x6,x10),(a0,c1))
 rintro ⟨⟨x11,x12,x13,x14⟩,⟨a1,c2⟩⟩
 try dsimp only
 refine au [98] ?_
 exact qr ((x11,iadd .i64 x3 1,x12,x13,x14),(a1,c2))
 intro _
 refine au [73] ?_
 exact qb ((x2,x5,x6,x10),(a0,c1))
 rintro ⟨⟨x96,x97,x98,x0⟩,⟨a99,c0⟩⟩
 try dsimp only
 refine au [74,3,20,49] ?_
 exact qS (a99,c0) (resL (rs:=[.cell 6 247,.tmp 7]) rfl (.cell (i:=0) rfl tf247 rfl rfl (by simp) rfl (.tmp rfl ResOk.nil)) rfl) (fun h=>by subst h;exact (.cons 0 rfl .nil))
set_option maxHeartbeats 4000000 in
theorem qgC {F:Nat}{g1:Nat}{x2:Int}{x3:Int}{x4:Int}{x5:Int}{x6:Int}{x7:qsO}{a8:qsP}{c9:Nat}{x10:qsO}{a11:qsP}{c12:Nat}{x13:qsO}{a14:qsP}{c15:Nat}{x16:List (qsO)}{a17:qsP}{c18:Nat}{s18:List (qsP×Nat)}{r:(Bool×Int×Int×Int×Int×Int×qsO×qsO×qsO)}(hm:qc8 F x2 x3 x4 x5 x6 x7 x10 x13 x16=some r) :
    PureM Tryz.prog 164 [qsS g1,.agg #[qsR a17 x16 c18]] [⟨g1,169,[qsQ x2,qsQ x3,qsQ x4,qsQ x5,qsQ x6,qsR a8 x7 c9,qsR a11 x10 c12,qsR a14 x13 c15]⟩] [qsW a8 x7 c9,qsU a11 x10 c12,qsU a14 x13 c15] [SlN eN56 iN56 1 (qsR a17 x16 c18) x16 s18] ((qsP×Nat)×(qsP×Nat)×(qsP×Nat)) (fun _=>.bool r.1) (fun g=>[⟨g1,169,[qsQ r.2.1,qsQ r.2.2.1,qsQ r.2.2.2.1,qsQ r.2.2.2.2.1,qsQ r.2.2.2.2.2.1,qsR g.1.1 r.2.2.2.2.2.2.1 g.1.2,qsR g.2.1.1 r.2.2.2.2.2.2.2.1 g.2.1.2,qsR g.2.2.1 r.2.2.2.2.2.2.2.2 g.2.2.2]⟩]) (fun g=>[qsW g.1.1 r.2.2.2.2.2.2.1 g.1.2,qsU g.2.1.1 r.2.2.2.2.2.2.2.1 g.2.1.2,qsU g.2.2.1 r.2.2.2.2.2.2.2.2 g.2.2.2]):=by
 refine qE Tryz.func164 rfl Tryz.ntmps164 rfl hm (fun w=>?_)
 refine au [118] ?_
 intro g19
 refine au [46] ?_
 refine qj (fun (((x0,x1,x8,x9),(a0,c0,a1,c1,a2,c2)):((Int×qsO×qsO×qsO)×(qsP×Nat×qsP×Nat×qsP×Nat)))=>([],[⟨g1,169,[qsQ x2,qsQ x3,qsQ x4,qsQ x5,qsQ x0,qsR a0 x1 c0,qsR a1 x8 c1,qsR a2 x9 c2]⟩],[qsW a0 x1 c0,qsU a1 x8 c1,qsU a2 x9 c2],[],qa4 F x2 x3 x4 x5 x0 x1 x8 x9)) ?_ ?_
 refine au [47,78,122,76] ?_
 refine qB (fun (((x11,x12,x14,x15,x17),(a3,c3,a4,c4,a5,c5)):((Int×Int×qsO×qsO×qsO)×(qsP×Nat×qsP×Nat×qsP×Nat)))=>([(0,qsS g1),(3,qsS g19),(10,qsR a17 x16 c18),(11,qsQ (x16.length:Int)),(12,qsQ x11)],[⟨g19,24,[qsR a17 x16 c18]⟩,⟨g1,169,[qsQ x2,qsQ x3,qsQ x4,qsQ x5,qsQ x12,qsR a3 x14 c3,qsR a4 x15 c4,qsR a5 x17 c5]⟩],[qsW a3 x14 c3,qsU a4 x15 c4,qsU a5 x17 c5],[SlN eN56 iN56 1 (qsR a17 x16 c18) x16 s18])) (fun k (s:((Int×Int×qsO×qsO×qsO)×(qsP×Nat×qsP×Nat×qsP×Nat)))=>zi F x2 x3 x4 x5 x16 k s.1) ((0,x6,x7,x10,x13),(a8,c9,a11,c12,a14,c15)) F ?_
 intro k0
 rintro ⟨⟨x11,x12,x14,x15,x17⟩,⟨a3,c3,a4,c4,a5,c5⟩⟩
 try dsimp only
 refine qH (m':=qa3 F x2 x3 x4 x5 x16 (zi F x2 x3 x4 x5 x16 k0) x11 x12 x14 x15 x17) rfl ?_
 refine av [96] ?_ ?_
 intro _
 refine au [83,48,27,1] ?_
 intro x18 e0 g0 b0 o0
 refine au [25,2,5,46] ?_
 refine qj (fun (((x19,x20,x21,x22),(g2,a6,c6)):((Bool×Int×Int×qsO)×(Nat×qsP×Nat)))=>([(0,qsS g1),(3,qsS g19),(7,qsS g2),(8,.bool x19),(10,qsR a17 x16 c18),(11,qsQ (x16.length:Int)),(12,qsQ x11)],[⟨g19,24,[qsR a17 x16 c18]⟩,⟨g1,169,[qsQ x2,qsQ x3,qsQ x4,qsQ x5,qsQ x12,qsR a3 x14 c3,qsR a4 x15 c4,qsR a5 x17 c5]⟩,⟨g2,247,[qsQ x20,qsQ x21,qsR a6 x22 c6]⟩],[qsW a3 x14 c3,qsU a4 x15 c4,qsU a5 x17 c5,qsW a6 x22 c6],[SlN eN56 iN56 1 (qsR a17 x16 c18) x16 s18],vJ F (zi F x2 x3 x4 x5 x16 k0) x2 x3 x4 x5 x11 x12 x14 x15 x17 x19 x20 x21 x22)) ?_ ?_
 refine qnM 2 qy rfl ?_
 intro x23 e1 a7 c7 g3 h0 h1
 refine qt mixed [] [⟨g19,24,[qsR a17 x16 c18]⟩,⟨g1,169,[qsQ x2,qsQ x3,qsQ x4,qsQ x5,qsQ x12,qsR a3 x14 c3,qsR a4 x15 c4,qsR a5 x17 c5]⟩] [SlN eN56 iN56 1 (qsR a7 x23 c7) x23 g3,qC b0 o0 (eN56 (x18,g0)),qsT g0.1 x18 g0.2,SlN eN56 iN56 1 (qsR a17 x16 c18) x16 s18] (.cons 0 rfl (.cons 0 rfl .nil)) (qf 0 rfl (qf 1 rfl (qf 2 rfl (qf 3 rfl qh)))) 17 rfl ?_
 refine au [117,6,2] ?_
 refine qe 3 (qsR a7 x23 c7) rfl rfl rfl (qaD Tryz.underlying22 tf56 rfl rfl rfl e1 h1 h0) ?_
 refine au [6,4,6,5,6,6,15,7,15,8] ?_
 refine qN 9 (.agg #[qsQ x3,qsQ x4,qsQ x5]) rfl rfl rfl (qM (i:=1) rfl tf26 rfl rfl (by simp) rfl) (ye 10 14 rfl rfl (by kernel_rfl) rfl rfl ?_ ?_)
 refine au [34,10] ?_
 rintro x24 e2 ⟨a9,c8⟩
 refine au [0,34,11,6,11,101,13,14,24,4] ?_
 intro g4
 refine au [0,30,0,13,15,86,30,0,6,16,16] ?_
 exact qm (qb ((x24.2.2.2,x24.1,x24.2.1,x24.2.2.1),(g4,a9,c8))) (by intro c h;cases h)
 refine kz (m':=((qfB F x23 x18 x3 x4 x5).bind fun x25=>vJ F (zi F x2 x3 x4 x5 x16 k0) x2 x3 x4 x5 x11 x12 x14 x15 x17 x25.2.2.2 x25.1 x25.2.1 x25.2.2.1)) (rfl) ?_
 refine au [24,4] ?_
 intro g5
 refine au [0,30,0,13,10,34,10] ?_
 rintro x25 e3 ⟨a10,c10⟩
 refine au [0,30,0,6,11,101,13,15,86,30,0,6,16,16] ?_
 exact qm (qb ((x25.2.2.2,x25.1,x25.2.1,x25.2.2.1),(g5,a10,c10))) (by intro c h;cases h)
 rintro ⟨⟨x19,x20,x21,x22⟩,⟨g2,a6,c6⟩⟩
 try dsimp only
 refine au [1] ?_
 refine qj (fun ((x26,_):(Bool×Unit))=>([(0,qsS g1),(3,qsS g19),(7,qsS g2),(10,qsR a17 x16 c18),(11,qsQ (x16.length:Int)),(12,qsQ x11),(45,.bool x26)],[⟨g19,24,[qsR a17 x16 c18]⟩,⟨g1,169,[qsQ x2,qsQ x3,qsQ x4,qsQ x5,qsQ x12,qsR a3 x14 c3,qsR a4 x15 c4,qsR a5 x17 c5]⟩,⟨g2,247,[qsQ x20,qsQ x21,qsR a6 x22 c6]⟩],[qsW a3 x14 c3,qsU a4 x15 c4,qsU a5 x17 c5,qsW a6 x22 c6],[SlN eN56 iN56 1 (qsR a17 x16 c18) x16 s18],vK F (zi F x2 x3 x4 x5 x16 k0) x2 x3 x4 x5 x11 x12 x14 x15 x17 x20 x21 x22 x26)) ?_ ?_
 refine av [29,14] ?_ ?_
 intro h2
 refine qt mixed [] [⟨g19,24,[qsR a17 x16 c18]⟩,⟨g1,169,[qsQ x2,qsQ x3,qsQ x4,qsQ x5,qsQ x12,qsR a3 x14 c3,qsR a4 x15 c4,qsR a5 x17 c5]⟩,⟨g2,247,[qsQ x20,qsQ x21,qsR a6 x22 c6]⟩] [SlN eN56 iN56 1 (qsR a17 x16 c18) x16 s18] (.cons 0 rfl (.cons 0 rfl (.cons 0 rfl .nil))) (qf 0 rfl qh) 15 rfl ?_
 refine au [97] ?_
 refine qg (d:=33) (v:=.bool true) rfl (by simp only[qsR,h2] <;> rfl) ?_
 refine au [19,3,19,4,19,5,19,6,19,7,19,8,19,9,19,10,19,11,19,12,19,13,6,14,16] ?_
 exact qm (qb (true,())) (by intro c h;cases h)
 intro h2
 refine qt mixed [] [⟨g19,24,[qsR a17 x16 c18]⟩,⟨g1,169,[qsQ x2,qsQ x3,qsQ x4,qsQ x5,qsQ x12,qsR a3 x14 c3,qsR a4 x15 c4,qsR a5 x17 c5]⟩,⟨g2,247,[qsQ x20,qsQ x21,qsR a6 x22 c6]⟩] [SlN eN56 iN56 1 (qsR a17 x16 c18) x16 s18] (.cons 0 rfl (.cons 0 rfl (.cons 0 rfl .nil))) (qf 0 rfl qh) 15 rfl ?_
 refine au [97] ?_
 refine qg (d:=33) (v:=.bool false) rfl (by simp only[qsR,h2] <;> rfl) ?_
 refine au [6,3,6,4,15,5,15,6,15,7,26,4,8,15,9,15,10,29,2,11,101,6,14,16] ?_
 exact qm (qb ((decide (8192<(iadd .i64 x12 x21))),())) (by intro c h;cases h)
 rintro ⟨x26,_⟩
 try dsimp only
 refine av [10] ?_ ?_
 intro _
 refine au [47,60,92,52] ?_
 exact qX ((a3,c3),(a4,c4),(a5,c5))
 intro _
 refine au [57] ?_
 refine qj (fun (((x27,x28),(a12,c11,a13,c13)):((qsO×qsO)×(qsP×Nat×qsP×Nat)))=>([(0,qsS g1),(3,qsS g19),(7,qsS g2),(10,qsR a17 x16 c18),(11,qsQ (x16.length:Int)),(12,qsQ x11)],[⟨g19,24,[qsR a17 x16 c18]⟩,⟨g1,169,[qsQ x2,qsQ x3,qsQ x4,qsQ x5,qsQ x12,qsR a3 x14 c3,qsR a12 x27 c11,qsR a13 x28 c13]⟩,⟨g2,247,[qsQ x20,qsQ x21,qsR a6 x22 c6]⟩],[qsW a3 x14 c3,qsU a12 x27 c11,qsU a13 x28 c13,qsW a6 x22 c6],[SlN eN56 iN56 1 (qsR a17 x16 c18) x16 s18],yA F (zi F x2 x3 x4 x5 x16 k0) x11 x12 x14 x21 x22 x27 x28)) ?_ ?_
 refine qt mixed [24,27] [⟨g19,24,[qsR a17 x16 c18]⟩,⟨g2,247,[qsQ x20,qsQ x21,qsR a6 x22 c6]⟩] [SlN eN56 iN56 1 (qsR a17 x16 c18) x16 s18,(BlkD.is ⟨g1,169,[qsQ x2,qsQ x3,qsQ x4,qsQ x5,qsQ x12,qsR a3 x14 c3,qsR a4 x15 c4,qsR a5 x17 c5]⟩)] (.cons 0 rfl (.cons 1 rfl .nil)) (qf 0 rfl (qeK 1 rfl qh)) 28 rfl ?_
 refine au [97,6,3,15,4] ?_
 refine qJ 5 (qsR a4 x15 c4) [[24],[27]] rfl rfl rfl (kj (j:=1) rfl tf56 rfl rfl (fun _=>rfl) rfl) ?_
 refine au [15,6,26,4,7,6,10,6,11,15,12] ?_
 refine qJ 13 (qsR a5 x17 c5) [[24],[27]] rfl rfl rfl (kj (j:=1) rfl tf56 rfl rfl (fun _=>rfl) rfl) ?_
 refine au [6,14,6,15,15,16,15,17,15,18] ?_
 refine qJ 19 (qsQ x12) [[24],[27]] rfl rfl rfl (kj (j:=1) rfl tf3 rfl rfl (fun _=>rfl) rfl) (ye 8 20 rfl rfl (by kernel_rfl) rfl rfl ?_ ?_)
 refine qV (vs:=[qsQ x20]) (ys:=([x20]:qsO)) (qu .i64) (by decide) rfl Tryz.underlying56 tf3 rfl rfl rfl rfl rfl (by decide) (fun a15 c14=>?_)
 refine au [0,27,6] ?_
 refine ye 9 20 rfl rfl (by kernel_rfl) rfl rfl ?_ ?_
 refine zu 2 (qu .i64) rfl Tryz.underlying56 tf3 rfl rfl rfl rfl rfl (.inl ⟨0,_,rfl⟩) rfl rfl (fun x29 e4 a16 c16=>?_)
 refine au [0,27,6,13,20] ?_
 refine qV (vs:=[qsQ x12]) (ys:=([x12]:qsO)) (qu .i64) (by decide) rfl Tryz.underlying56 tf3 rfl rfl rfl rfl rfl (by decide) (fun a18 c17=>?_)
 refine au [0,27,6,13,21] ?_
 refine zu 4 (qu .i64) rfl Tryz.underlying56 tf3 rfl rfl rfl rfl rfl (.inl ⟨0,_,rfl⟩) rfl rfl (fun x30 e5 a19 c19=>?_)
 refine au [0,27,6,6,22,15,23,13,24,120,29,5,6,25,15,26,13,27,120,29,5,16] ?_
 exact qm (qb ((x29,x30),(a16,c16,a19,c19))) (by intro c h;cases h)
 refine kz (m':=((app 8796093022208 x15 ([x20]:qsO)).bind fun x31=>((app 8796093022208 x17 ([x12]:qsO)).bind fun x32=>yA F (zi F x2 x3 x4 x5 x16 k0) x11 x12 x14 x21 x22 x31 x32))) (rfl) (qV (vs:=[qsQ x12]) (ys:=([x12]:qsO)) (qu .i64) (by decide) rfl Tryz.underlying56 tf3 rfl rfl rfl rfl rfl (by decide) (fun a20 c20=>?_))
 refine au [0,27,6,13,9] ?_
 refine zu 3 (qu .i64) rfl Tryz.underlying56 tf3 rfl rfl rfl rfl rfl (.inl ⟨1,_,rfl⟩) rfl rfl (fun x31 e6 a21 c21=>?_)
 refine au [0,27,6,13,21] ?_
 refine zu 4 (qu .i64) rfl Tryz.underlying56 tf3 rfl rfl rfl rfl rfl (.inl ⟨1,_,rfl⟩) rfl rfl (fun x32 e7 a22 c22=>?_)
 refine au [0,27,6,6,22,15,23,13,24,120,29,5,6,25,15,26,13,27,120,29,5,16] ?_
 exact qm (qb ((x31,x32),(a21,c21,a22,c22))) (by intro c h;cases h)
 refine kz (m':=((app 8796093022208 x15 ([x20]:qsO)).bind fun x33=>((app 8796093022208 x17 ([x12]:qsO)).bind fun x34=>yA F (zi F x2 x3 x4 x5 x16 k0) x11 x12 x14 x21 x22 x33 x34))) (rfl) (qV (vs:=[qsQ x12]) (ys:=([x12]:qsO)) (qu .i64) (by decide) rfl Tryz.underlying56 tf3 rfl rfl rfl rfl rfl (by decide) (fun a23 c23=>?_))
 refine au [0,27,6,13,8] ?_
 refine qV (vs:=[qsQ x20]) (ys:=([x20]:qsO)) (qu .i64) (by decide) rfl Tryz.underlying56 tf3 rfl rfl rfl rfl rfl (by decide) (fun a24 c24=>?_)
 refine au [0,27,6,13,9] ?_
 refine zu 3 (qu .i64) rfl Tryz.underlying56 tf3 rfl rfl rfl rfl rfl (.inl ⟨0,_,rfl⟩) rfl rfl (fun x33 e8 a25 c25=>?_)
 refine au [0,27,6,13,21] ?_
 refine zu 4 (qu .i64) rfl Tryz.underlying56 tf3 rfl rfl rfl rfl rfl (.inl ⟨2,_,rfl⟩) rfl rfl (fun x34 e9 a26 c26=>?_)
 refine au [0,27,6,6,22,15,23,13,24,120,29,5,6,25,15,26,13,27,120,29,5,16] ?_
 exact qm (qb ((x33,x34),(a25,c25,a26,c26))) (by intro c h;cases h)
 rintro ⟨⟨x27,x28⟩,⟨a12,c11,a13,c13⟩⟩
 try dsimp only
 refine qt mixed [12] [⟨g19,24,[qsR a17 x16 c18]⟩,⟨g2,247,[qsQ x20,qsQ x21,qsR a6 x22 c6]⟩] [SlN eN56 iN56 1 (qsR a17 x16 c18) x16 s18,(BlkD.is ⟨g1,169,[qsQ x2,qsQ x3,qsQ x4,qsQ x5,qsQ x12,qsR a3 x14 c3,qsR a12 x27 c11,qsR a13 x28 c13]⟩)] (.cons 0 rfl (.cons 1 rfl .nil)) (qf 0 rfl (qeK 1 rfl qh)) 13 rfl ?_
 refine au [97,15,3,15,4] ?_
 refine qJ 5 (.agg #[qsQ x12,.slice a3 x14.length c3]) [[12]] rfl rfl rfl (kj (j:=1) rfl tf65 rfl rfl (by simp) rfl) ?_
 refine au [15,6] ?_
 refine qN 7 (.agg #[qsQ x21,.slice a6 x22.length c6]) rfl rfl rfl (qM (i:=1) rfl tf65 rfl rfl (by simp) rfl) ?_
 refine au [13,8,30,10] ?_
 rintro x35 e10 ⟨a27,c27⟩
 refine au [0,27,6,6,9,15,10,15,11,13,12,120] ?_
 refine kw 12 rfl (by kernel_rfl) (.cons 0 rfl (.cons 1 rfl .nil)) ?_
 refine au [16] ?_
 refine qm ?_ (by intro c h;cases h)
 refine au [99] ?_
 exact qr ((iadd .i64 x11 1,x35.1,x35.2,x27,x28),(a27,c27,a12,c11,a13,c13))
 intro _
 refine au [73] ?_
 exact qb ((x12,x14,x15,x17),(a3,c3,a4,c4,a5,c5))
 rintro ⟨⟨x0,x1,x8,x9⟩,⟨a0,c0,a1,c1,a2,c2⟩⟩
 try dsimp only
 refine au [47,49] ?_
 exact qX ((a0,c0),(a1,c1),(a2,c2))
set_option maxHeartbeats 4000000 in
theorem qjk {F:Nat}{x1:List (qsO)}{a2:qsP}{c3:Nat}{s3:List (qsP×Nat)}{x4:Int}{x5:Int}{x6:Int}{r:(Int×Int×Int×Int×Int×qsO×qsO×qsO×Int)}(hm:qd8 F x1 x4 x5 x6=some r) :
    PureM Tryz.prog 121 [.agg #[qsR a2 x1 c3],.agg #[qsQ x4,qsQ x5,qsQ x6]] [] [] [SlN eN56 iN56 1 (qsR a2 x1 c3) x1 s3] ((qsP×Nat)×(qsP×Nat)×(qsP×Nat)×Nat) (fun g=>.tuple #[qsS g.2.2.2,qsQ r.2.2.2.2.2.2.2.2]) (fun g=>[⟨g.2.2.2,169,[qsQ r.1,qsQ r.2.1,qsQ r.2.2.1,qsQ r.2.2.2.1,qsQ r.2.2.2.2.1,qsR g.1.1 r.2.2.2.2.2.1 g.1.2,qsR g.2.1.1 r.2.2.2.2.2.2.1 g.2.1.2,qsR g.2.2.1.1 r.2.2.2.2.2.2.2.1 g.2.2.1.2]⟩]) (fun g=>[qsW g.1.1 r.2.2.2.2.2.1 g.1.2,qsU g.2.1.1 r.2.2.2.2.2.2.1 g.2.1.2,qsU g.2.2.1.1 r.2.2.2.2.2.2.2.1 g.2.2.1.2]):=by
 refine qE Tryz.func121 rfl Tryz.ntmps121 rfl hm (fun w=>?_)
 refine au [118] ?_
 intro g7
 refine au [22] ?_
 intro g8
 refine au [5,84,25,7,28,0] ?_
 intro x9 e9 _
 refine au [46] ?_
 refine qj (fun ((x12,_):(Int×Unit))=>([(2,qsS g7),(3,qsS g8),(6,qsQ x12)],[⟨g8,26,[qsQ x4,qsQ x5,qsQ x6]⟩,⟨g7,24,[qsR a2 x1 c3]⟩],[],[SlN eN56 iN56 1 (qsR a2 x1 c3) x1 s3],qbC F x1 x4 x5 x6 x12)) ?_ ?_
 refine av [48,112] ?_ ?_
 intro _
 refine au [4,24,10,29,7] ?_
 intro x97 e97 _
 refine au [5,0] ?_
 exact qb (x97,())
 intro _
 refine au [11] ?_
 exact qb (x9,())
 rintro ⟨x12,_⟩
 try dsimp only
 refine au [47,89,24,6,24,10] ?_
 refine qq (cells:=[qsQ (x1.length:Int),qsQ x4,qsQ x5,qsQ x6,qsQ 0,.slice none 0 0]) rfl st67 rfl (by kernel_rfl) rfl (qq (cells:=[qsQ (x1.length:Int),qsQ x4,qsQ x5,qsQ x6,qsQ 0,.slice none 0 0,.slice none 0 0,.slice none 0 0]) rfl st169 rfl (by kernel_rfl) rfl ?_)
 refine au [22] ?_
 intro g13
 refine au [46] ?_
 refine qj (fun (((x48,x49,x50,x51,x52,x53,x56,x59,x62),(a54,c55,a57,c58,a60,c61)):((Int×Int×Int×Int×Int×Int×qsO×qsO×qsO)×(qsP×Nat×qsP×Nat×qsP×Nat)))=>([(6,qsQ x48),(7,qsS g13)],[⟨g13,169,[qsQ x49,qsQ x50,qsQ x51,qsQ x52,qsQ x53,qsR a54 x56 c55,qsR a57 x59 c58,qsR a60 x62 c61]⟩],[qsW a54 x56 c55,qsU a57 x59 c58,qsU a60 x62 c61],[],qbD F x48 x49 x50 x51 x52 x53 x56 x59 x62)) ?_ ?_
 refine au [48,25,5,3] ?_
 refine zp 5 (fun (((x74,x75,x76,x77,x78,x79,x82,x85,x88),(a80,c81,a83,c84,a86,c87)):((Bool×Int×Int×Int×Int×Int×qsO×qsO×qsO)×(qsP×Nat×qsP×Nat×qsP×Nat)))=>([(6,qsQ x12),(7,qsS g13),(28,.bool x74)],[⟨g13,169,[qsQ x75,qsQ x76,qsQ x77,qsQ x78,qsQ x79,qsR a80 x82 c81,qsR a83 x85 c84,qsR a86 x88 c87]⟩],[qsW a80 x82 c81,qsU a83 x85 c84,qsU a86 x88 c87],[],qbE F x12 x74 x75 x76 x77 x78 x79 x82 x85 x88)) ?_ ?_
 refine qc (os:=_) rfl ?_
 refine av [25,14] ?_ ?_
 intro h63
 refine qA (k:=23) rfl h63 ?_
 refine au [3,26,6,29,4,26,9,26,9] ?_
 refine qF qgC ?_
 rintro x90 e90 ⟨⟨a91,c92⟩,⟨a93,c94⟩,⟨a95,c96⟩⟩
 refine au [25,8,106] ?_
 exact qb (((!x90.1),x90.2.1,x90.2.2.1,x90.2.2.2.1,x90.2.2.2.2.1,x90.2.2.2.2.2.1,x90.2.2.2.2.2.2.1,x90.2.2.2.2.2.2.2.1,x90.2.2.2.2.2.2.2.2),(a91,c92,a93,c94,a95,c96))
 intro h63
 refine qz (k:=23) rfl h63 ?_
 refine au [65,109,25,15,25,9,25,9] ?_
 exact qb ((false,(x1.length:Int),x4,x5,x6,(0:Int),([]:qsO),([]:qsO),([]:qsO)),(none,0,none,0,none,0))
 rintro ⟨⟨x74,x75,x76,x77,x78,x79,x82,x85,x88⟩,⟨a80,c81,a83,c84,a86,c87⟩⟩
 try dsimp only
 refine qc (os:=_) rfl ?_
 refine av [50] ?_ ?_
 intro _
 refine au [4,5,0] ?_
 exact qb (((8:Int),x75,x76,x77,x78,x79,x82,x85,x88),(a80,c81,a83,c84,a86,c87))
 intro _
 refine au [11] ?_
 exact qb ((x12,x75,x76,x77,x78,x79,x82,x85,x88),(a80,c81,a83,c84,a86,c87))
 rintro ⟨⟨x48,x49,x50,x51,x52,x53,x56,x59,x62⟩,⟨a54,c55,a57,c58,a60,c61⟩⟩
 try dsimp only
 refine au [87,5,49] ?_
 exact qX ((a54,c55),(a57,c58),(a60,c61),g13)
theorem qkl {F:Nat}{x1:List (qsO)}{a2:qsP}{c3:Nat}{s3:List (qsP×Nat)}{x4:Int}{x5:Int}{x6:Int}{r:(Int×Int×Int×Int×Int×qsO×Int)}(hm:qa2 F x1 x4 x5 x6=some r) :
    Pure Tryz.prog 87 [.agg #[qsR a2 x1 c3],.agg #[qsQ x4,qsQ x5,qsQ x6]] [SlN eN56 iN56 1 (qsR a2 x1 c3) x1 s3] (qsP×Nat) (fun g=>.tuple #[.agg #[qsQ r.1,qsQ r.2.1,qsQ r.2.2.1,qsQ r.2.2.2.1,qsQ r.2.2.2.2.1,qsR g.1 r.2.2.2.2.2.1 g.2],qsQ r.2.2.2.2.2.2]) (fun g=>[qsW g.1 r.2.2.2.2.2.1 g.2]) (fun _=>[]):=by
 refine qs Tryz.func87 rfl Tryz.ntmps87 rfl hm (fun w=>?_)
 refine au [118] ?_
 intro g7
 refine au [22] ?_
 intro g8
 refine au [24,4] ?_
 intro g9
 refine au [84,26,6,25,7,34,12] ?_
 rintro x10 e10 ⟨⟨a11,c12⟩,⟨a13,c14⟩,⟨a15,c16⟩,g17⟩
 refine av [93,5,85,70] ?_ ?_
 intro _
 refine au [47] ?_
 refine qq (cells:=[qsQ 0,qsQ 0,qsQ 0,qsQ 0,qsQ 0,.slice none 0 0]) rfl st67 rfl (by kernel_rfl) rfl ?_
 refine au [3,25,4,60,25,15] ?_
 exact qS (none,0) (resL (rs:=[.cell 4 67,.tmp 5]) rfl (.cell (i:=1) rfl tf67 rfl rfl (by simp) rfl (.tmp rfl ResOk.nil)) rfl) (fun h=>by subst h;exact (.cons 0 rfl .nil))
 intro _
 refine au [57,48,55,24,10,25,4,49] ?_
 exact qS (a11,c12) (resL (rs:=[.cell 4 67,.tmp 5]) rfl (.cell (i:=1) rfl tf67 rfl rfl (by simp) rfl (.tmp rfl ResOk.nil)) rfl) (fun h=>by subst h;exact (.cons 0 rfl .nil))
set_option maxHeartbeats 4000000 in
theorem qgZ (F:Nat)(g1:Nat)(x2:List (qsO))(a3:qsP)(c4:(Nat×List (qsP×Nat)))(x5:Int)(x6:Int)(x7:Int)(x8:qsO)(a9:qsP)(c10:Nat)(x11:qsO)(r:(Int×qsO))(hm:qdA F x2 x5 x6 x7 x8 x11=some r) :
    PureM Tryz.prog 62 [qsS g1] [⟨g1,85,[qsR a3 x2 c4.1,qsQ x5,qsQ x6,qsQ x7,qsR a9 x8 c10,.string (bstr x11)]⟩] [] [SlN eN56 iN56 1 (qsR a3 x2 c4.1) x2 c4.2,qsT a9 x8 c10,GF] Unit (fun _=>qsQ r.1) (fun _=>[⟨g1,85,[qsR a3 x2 c4.1,qsQ x5,qsQ x6,qsQ x7,qsR a9 x8 c10,.string (bstr r.2)]⟩]) (fun _=>[]):=by
 refine qE Tryz.func62 rfl Tryz.ntmps62 rfl hm (fun w=>?_)
 refine au [59,46] ?_
 refine qj (fun (((x21,x22,x23,x24,x25,x26,x29),(g20,a27,c28)):((Int×Int×Int×Int×Int×Int×qsO)×(Nat×qsP×Nat)))=>([(0,qsS g1),(3,qsS g20),(4,qsQ x21)],[⟨g1,85,[qsR a3 x2 c4.1,qsQ x5,qsQ x6,qsQ x7,qsR a9 x8 c10,.string (bstr x11)]⟩,⟨g20,67,[qsQ x22,qsQ x23,qsQ x24,qsQ x25,qsQ x26,qsR a27 x29 c28]⟩],[qsW a27 x29 c28],[SlN eN56 iN56 1 (qsR a3 x2 c4.1) x2 c4.2,qsT a9 x8 c10,GF],jz F x21 x22 x23 x24 x25 x26 x29)) ?_ ?_
 refine qt mixed [] [⟨g1,85,[qsR a3 x2 c4.1,qsQ x5,qsQ x6,qsQ x7,qsR a9 x8 c10,.string (bstr x11)]⟩] [SlN eN56 iN56 1 (qsR a3 x2 c4.1) x2 c4.2,qsT a9 x8 c10,GF] (.cons 0 rfl .nil) (qf 0 rfl (qf 1 rfl (qf 2 rfl qh))) 17 rfl ?_
 refine au [69,15,2,15,3] ?_
 refine qN 4 (.agg #[.slice a3 x2.length c4.1]) rfl rfl rfl (qM (i:=0) rfl tf24 rfl rfl (by simp) rfl) ?_
 refine au [6,5,6,6,15,7,15,8] ?_
 refine qN 9 (.agg #[qsQ x5,qsQ x6,qsQ x7]) rfl rfl rfl (qM (i:=0) rfl tf26 rfl rfl (by simp) rfl) (ye 10 14 rfl rfl (by kernel_rfl) rfl rfl ?_ ?_)
 refine au [30,12] ?_
 rintro x31 e31 ⟨a32,c33⟩
 refine au [0,34,13,6,11,101,13,14,24,4] ?_
 intro g34
 refine au [0,27,14,13,15,86,27,14,6,16,16] ?_
 exact qm (qb ((x31.2.2.2.2.2.2,x31.1,x31.2.1,x31.2.2.1,x31.2.2.2.1,x31.2.2.2.2.1,x31.2.2.2.2.2.1),(g34,a32,c33))) (by intro c h;cases h)
 refine kz (m':=((qa2 F x2 x5 x6 x7).bind fun x36=>jz F x36.2.2.2.2.2.2 x36.1 x36.2.1 x36.2.2.1 x36.2.2.2.1 x36.2.2.2.2.1 x36.2.2.2.2.2.1)) (rfl) ?_
 refine au [24,4] ?_
 intro g35
 refine au [0,27,14,13,10,30,12] ?_
 rintro x36 e36 ⟨a37,c38⟩
 refine au [0,27,14,6,11,101,13,15,86,27,14,6,16,16] ?_
 exact qm (qb ((x36.2.2.2.2.2.2,x36.1,x36.2.1,x36.2.2.1,x36.2.2.2.1,x36.2.2.2.2.1,x36.2.2.2.2.2.1),(g35,a37,c38))) (by intro c h;cases h)
 rintro ⟨⟨x21,x22,x23,x24,x25,x26,x29⟩,⟨g20,a27,c28⟩⟩
 try dsimp only
 refine au [48,9,89] ?_
 refine yj ent24 rfl rfl rfl (fun x30 e30=>qdv x26 x30 e30) (.consF 2 rfl .nil) (fun x30 e30 _=>?_)
 exact az [55,119,48,90]
theorem qlg {F:Nat}{x1:List (qsO)}{a2:qsP}{c3:Nat}{s3:List (qsP×Nat)}{x4:Int}{x5:Int}{x6:Int}{r:(qsO×qsO×Int)}(hm:qfA F x1 x4 x5 x6=some r) :
    Pure Tryz.prog 165 [.agg #[qsR a2 x1 c3],.agg #[qsQ x4,qsQ x5,qsQ x6]] [SlN eN56 iN56 1 (qsR a2 x1 c3) x1 s3] ((qsP×Nat)×(qsP×Nat)) (fun g=>.tuple #[qsR g.1.1 r.1 g.1.2,qsR g.2.1 r.2.1 g.2.2,qsQ r.2.2]) (fun g=>[qsU g.1.1 r.1 g.1.2,qsU g.2.1 r.2.1 g.2.2]) (fun _=>[]):=by
 refine qs Tryz.func165 rfl Tryz.ntmps165 rfl hm (fun w=>?_)
 refine au [118] ?_
 intro g7
 refine au [22] ?_
 intro g8
 refine au [5,5,84,25,7,24,10,34,12] ?_
 rintro x9 e9 ⟨⟨a10,c11⟩,⟨a12,c13⟩,⟨a14,c15⟩,g16⟩
 refine av [93,5,85,70] ?_ ?_
 intro _
 refine au [48,5,5,107,25,9] ?_
 exact qI ((none,0),(none,0))
 intro _
 refine au [82] ?_
 refine qt mixed [] [⟨g16,169,[qsQ x9.1,qsQ x9.2.1,qsQ x9.2.2.1,qsQ x9.2.2.2.1,qsQ x9.2.2.2.2.1,qsR a10 x9.2.2.2.2.2.1 c11,qsR a12 x9.2.2.2.2.2.2.1 c13,qsR a14 x9.2.2.2.2.2.2.2.1 c15]⟩,⟨g8,26,[qsQ x4,qsQ x5,qsQ x6]⟩,⟨g7,24,[qsR a2 x1 c3]⟩] [SlN eN56 iN56 1 (qsR a2 x1 c3) x1 s3] (.cons 0 rfl (.cons 0 rfl (.cons 0 rfl .nil))) (qf 0 rfl qh) 11 rfl ?_
 refine au [69,15,2,24,14,3,6,4,6,5,15,6,24,14,7,6,8,6,9,6,10,16] ?_
 refine qm ?_ (by intro c h;cases h)
 refine au [2,8] ?_
 exact qI ((a12,c13),(a14,c15))
set_option maxHeartbeats 4000000 in
theorem qkf {F:Nat}{x1:qsO}{a2:qsP}{c3:Nat}{x4:Int}{r:Int}(hm:qeC F x1 x4=some r) :
    Pure Tryz.prog 193 [qsR a2 x1 c3,qsQ x4] [qsT a2 x1 c3] Unit (fun _=>qsQ r) (fun _=>[]) (fun _=>[]):=by
 refine qs Tryz.func193 rfl Tryz.ntmps193 rfl hm (fun w=>?_)
 refine au [56,71,14,48,24,3,3] ?_
 refine qO 3 (decide (x4<0)) [(0,qsR a2 x1 c3),(1,qsQ x4),(14,.bool ((decide (x4<0)) || (decide (1048576<x4))))] (fun h8=>?_) (fun h8=>?_) ?_
 refine qc (os:=_) rfl (qA (k:=11) rfl h8 ?_)
 refine au [61,24,7] ?_
 refine qa (d:=14) (v:=.bool ((decide (x4<0)) || (decide (1048576<x4)))) rfl (by rw[h8];simp only[qqU]) ?_
 exact az [51]
 refine qc (os:=_) rfl (qz (k:=11) rfl h8 ?_)
 refine au [3,81] ?_
 refine qa (d:=14) (v:=.bool ((decide (x4<0)) || (decide (1048576<x4)))) rfl (by rw[h8];simp only[qqT]) ?_
 exact az [51]
 refine qc (os:=_) rfl ?_
 refine av [46,10] ?_ ?_
 intro _
 exact az [47,49,108]
 intro _
 refine av [72,25,0,46,10] ?_ ?_
 intro _
 exact az [47,49,108]
 intro _
 refine au [11,63,47,46] ?_
 refine qj (fun ((_,_):(Unit×Unit))=>([],[],[],[],qeU F)) ?_ ?_
 refine au [72,3,76] ?_
 refine qB (fun (((x92,x93),_):((Int×Int)×Unit))=>([(1,qsQ x4),(5,qsQ x92),(19,qsR a2 x1 c3),(20,qsQ (x1.length:Int)),(21,qsQ x93)],[],[],[qsT a2 x1 c3])) (fun k (s:((Int×Int)×Unit))=>qam F x1 x4 k s.1) ((0,0),()) F ?_
 intro k0
 rintro ⟨⟨x92,x93⟩,_⟩
 try dsimp only
 refine qH (m':=qeT F x1 x4 (qam F x1 x4 k0) x92 x93) rfl ?_
 refine av [96] ?_ ?_
 intro _
 refine au [83,47,26,2] ?_
 intro x0 e0 b0 o0
 refine au [25,2,71,14,48,24,3,3] ?_
 refine qO 4 (decide (x0<0)) [(1,qsQ x4),(5,qsQ x92),(19,qsR a2 x1 c3),(20,qsQ (x1.length:Int)),(21,qsQ x93),(7,qsQ x0),(32,.bool ((decide (x0<0)) || (decide (x4<x0))))] (fun h0=>?_) (fun h0=>?_) ?_
 refine qc (os:=_) rfl (qA (k:=28) rfl h0 ?_)
 refine au [61,7,24,7] ?_
 refine qa (d:=32) (v:=.bool ((decide (x0<0)) || (decide (x4<x0)))) rfl (by rw[h0];simp only[qqU]) ?_
 exact az [51]
 refine qc (os:=_) rfl (qz (k:=28) rfl h0 ?_)
 refine au [3,3,81] ?_
 refine qa (d:=32) (v:=.bool ((decide (x0<0)) || (decide (x4<x0)))) rfl (by rw[h0];simp only[qqT]) ?_
 exact az [51]
 refine qc (os:=_) rfl ?_
 refine av [46,10] ?_ ?_
 intro _
 exact az [47,49,52,92,108]
 intro _
 refine av [87,24,3,46,10] ?_ ?_
 intro _
 exact az [47,49,52,92,108]
 intro _
 refine au [11,63,4,3,5,0,99] ?_
 exact qr ((x0,iadd .i64 x93 1),())
 intro _
 exact az [73,26,8]
 rintro ⟨_,_⟩
 try dsimp only
 exact az [47,68]
set_option maxHeartbeats 4000000 in
theorem qkg {F:Nat}{x1:Int}{x2:Int}{r:Int}(hm:qeD F x1 x2=some r) :
    Pure Tryz.prog 234 [qsQ x1,qsQ x2] [] Unit (fun _=>qsQ r) (fun _=>[]) (fun _=>[]):=by
 refine qs Tryz.func234 rfl Tryz.ntmps234 rfl hm (fun w=>?_)
 refine au [56,46] ?_
 refine qj (fun ((x35,_):(Int×Unit))=>([(4,qsQ x35)],[],[],[],qeV F x35)) ?_ ?_
 refine au [14] ?_
 refine yv (fun ((x46,_):(Int×Unit))=>[(0,qsQ x1),(1,qsQ x2),(4,qsQ x46)]) (fun ((x46,_):(Int×Unit))=>[]) (fun ((x46,_):(Int×Unit))=>[]) (fun ((x46,_):(Int×Unit))=>[]) (fun k (s:(Int×Unit))=>vu F x1 x2 k s.1) (0,()) F ?_
 intro k57
 rintro ⟨x46,_⟩
 try dsimp only
 refine qH (m':=qep F x1 x2 (vu F x1 x2 k57) x46) rfl ?_
 refine au [1,48,25,0,3] ?_
 refine zp 8 (fun ((x65,_):(Bool×Unit))=>([(0,qsQ x1),(1,qsQ x2),(4,qsQ x46),(15,.bool x65)],[],[],[],qbB F (vu F x1 x2 k57) x46 x65)) ?_ ?_
 refine qc (os:=_) rfl ?_
 refine av [25,14] ?_ ?_
 intro h63
 refine qA (k:=7) rfl h63 ?_
 refine au [3,3,23,26,10] ?_
 intro h67
 refine qfY rfl rfl rfl rfl h67 ?_
 refine au [3,23,28,3,106] ?_
 exact qb ((decide ((ishl .i64 x1 (iadd .i64 x46 1))≤(iadd .i64 x2 1))),())
 intro h63
 refine qz (k:=7) rfl h63 ?_
 refine au [65,61,7,109] ?_
 exact qb (false,())
 rintro ⟨x65,_⟩
 try dsimp only
 refine qc (os:=_) rfl ?_
 refine av [50] ?_ ?_
 intro _
 refine au [57,14,4,3,23,5,0,24,2] ?_
 exact qr (iadd .i64 x46 1,())
 intro _
 refine au [73] ?_
 exact qb (x46,())
 rintro ⟨x35,_⟩
 try dsimp only
 exact az [48,68]
theorem qgz {F:Nat}{g1:Nat}{x2:Int}{x3:qsO}{a4:qsP}{c5:Nat}{x6:Int}{x7:Int}{r:(Int×qsO×Int)}(hm:qau F x2 x3 x6 x7=some r) :
    PureM Tryz.prog 236 [qsS g1,qsQ x7] [⟨g1,302,[qsQ x2,qsR a4 x3 c5,qsQ x6]⟩] [qsW a4 x3 c5] [] (qsP×Nat) (fun _=>.tuple #[]) (fun g=>[⟨g1,302,[qsQ r.1,qsR g.1 r.2.1 g.2,qsQ r.2.2]⟩]) (fun g=>[qsW g.1 r.2.1 g.2]):=by
 refine qE Tryz.func236 rfl Tryz.ntmps236 rfl hm (fun w=>?_)
 refine au [24,8,14] ?_
 refine qB (fun (((x16,x19,x20),(a17,c18)):((Int×qsO×Int)×(qsP×Nat)))=>([(0,qsS g1),(1,qsQ x7)],[⟨g1,302,[qsQ x16,qsR a17 x19 c18,qsQ x20]⟩],[qsW a17 x19 c18],[])) (fun k (s:((Int×qsO×Int)×(qsP×Nat)))=>yO F x7 k s.1) ((x2,x3,x6),(a4,c5)) F ?_
 intro k29
 rintro ⟨⟨x16,x19,x20⟩,⟨a17,c18⟩⟩
 try dsimp only
 refine qH (m':=qbp F x7 (yO F x7 k29) x16 x19 x20) rfl ?_
 refine av [1,48,114,3,91] ?_ ?_
 intro _
 refine au [83,4,3,3,55,24,10,28,10] ?_
 rintro x34 e34 ⟨a35,c36⟩
 refine au [55,86,63,4,3,114,23,55,86] ?_
 exact qr ((x34.1,x34.2,iadd .i64 x20 1),(a35,c36))
 intro _
 refine au [73] ?_
 exact qX (a17,c18)
end Go.Proofs.YthibchijlpflmaaGreatDoor
