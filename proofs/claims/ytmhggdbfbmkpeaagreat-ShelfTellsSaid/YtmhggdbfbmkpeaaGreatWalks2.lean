/- Each Go function of this seat computes what its model says, part 2. -/
import Derived.Test.YtmhggdbfbmkpeaaGreatWalks
open Bool renaming false_or→qxU, true_or→qx0
namespace Go.Proofs.YtmhggdbfbmkpeaaGreat
open Go SX
set_option maxHeartbeats 4000000 in
theorem qlH (F:Nat){σ τ:Type}{J:Rounds σ τ}{yy:σ→(Int×Int)→Option (σ ⊕ τ)}{L:Nat}(hY:YieldC Tryz.prog L (fun (p:(Int×Int))=>[.agg #[qAs p.1,qAs p.2]]) J yy)(s0:σ)(gs0:J.γ)(g1:Nat)(x2:qAq)(a3:qAr)(c4:Nat)(r:σ ⊕ τ)(hm:qcK F yy x2 s0=some r) :
    PureM Tryz.prog 211 ([.func (.yield L) #[] #[],.pointer (some ⟨g1,0,none⟩)]) ([⟨g1,39,[.slice a3 x2.length c4]⟩]++J.IB s0 gs0) (J.IR s0 gs0) [J.F,Sl (eI .i64) 1 (.slice a3 x2.length c4) x2] (J.G r) (fun _=>.tuple #[]) (fun g=>[⟨g1,39,[.slice a3 x2.length c4]⟩]++J.bs r g) (fun g=>J.rs r g):=by
 refine zS Tryz.func211 rfl Tryz.ntmps211 rfl hm (fun w=>?_)
 refine au [87,14] ?_
 refine qcz (fun (((x0,x1),g0):((Int×σ)×J.γ))=>[(0,.func (.yield L) #[] #[]),(1,.pointer (some ⟨g1,0,none⟩)),(3,qAs x0)]) (fun (((x0,x1),g0):((Int×σ)×J.γ))=>[⟨g1,39,[.slice a3 x2.length c4]⟩]++J.IB x1 g0) (fun (((x0,x1),g0):((Int×σ)×J.γ))=>[]++J.IR x1 g0) (fun (((x0,x1),g0):((Int×σ)×J.γ))=>[Sl (eI .i64) 1 (.slice a3 x2.length c4) x2,J.F]) (fun k (s:((Int×σ)×J.γ))=>q9 F yy x2 k s.1) ((0,s0),gs0) F ?_ (hB:=(.cons 0 rfl (qH 0 rfl))) (hR:=(qH 0 rfl)) (hF:=(qG 1 rfl (qG 0 rfl jF)))
 intro k0
 rintro ⟨⟨x0,x1⟩,g0⟩
 try dsimp only
 refine qp (m':=qbI F yy x2 (q9 F yy x2 k0) x0 x1) rfl ?_
 refine av [64,20,21,75] ?_ ?_
 intro _
 refine au [66,14,53] ?_
 refine qht (fun ((x3,_):(Int×Unit))=>[(0,.func (.yield L) #[] #[]),(1,.pointer (some ⟨g1,0,none⟩)),(3,qAs x0),(4,qAs x3)]) (fun ((x3,_):(Int×Unit))=>[⟨g1,39,[.slice a3 x2.length c4]⟩]++J.IB x1 g0) (fun ((x3,_):(Int×Unit))=>[]++J.IR x1 g0) (fun ((x3,_):(Int×Unit))=>[Sl (eI .i64) 1 (.slice a3 x2.length c4) x2,J.F]) (fun ((x3,_):(Int×Unit))=>qbK F yy (q9 F yy x2 k0) x2 x0 x1 x3) ?_ ?_
 refine au [14] ?_
 refine qcz (fun ((x4,_):(Int×Unit))=>[(0,.func (.yield L) #[] #[]),(1,.pointer (some ⟨g1,0,none⟩)),(3,qAs x0),(4,qAs x4)]) (fun ((x4,_):(Int×Unit))=>[⟨g1,39,[.slice a3 x2.length c4]⟩]++J.IB x1 g0) (fun ((x4,_):(Int×Unit))=>[]++J.IR x1 g0) (fun ((x4,_):(Int×Unit))=>[Sl (eI .i64) 1 (.slice a3 x2.length c4) x2,J.F]) (fun k (s:(Int×Unit))=>kN F yy (q9 F yy x2 k0) x2 x0 x1 k s.1) (1,()) F ?_ (hB:=(.cons 0 rfl (qH 0 rfl))) (hR:=(qH 0 rfl)) (hF:=(qG 0 rfl (qG 1 rfl jF)))
 intro k1
 rintro ⟨x4,_⟩
 try dsimp only
 refine qp (m':=qbJ F yy (q9 F yy x2 k0) x2 x0 x1 (kN F yy (q9 F yy x2 k0) x2 x0 x1 k1) x4) rfl ?_
 refine au [3] ?_
 refine qht (fun ((x5,_):(Bool×Unit))=>[(0,.func (.yield L) #[] #[]),(1,.pointer (some ⟨g1,0,none⟩)),(3,qAs x0),(4,qAs x4),(29,.bool x5)]) (fun ((x5,_):(Bool×Unit))=>[⟨g1,39,[.slice a3 x2.length c4]⟩]++J.IB x1 g0) (fun ((x5,_):(Bool×Unit))=>[]++J.IR x1 g0) (fun ((x5,_):(Bool×Unit))=>[Sl (eI .i64) 1 (.slice a3 x2.length c4) x2,J.F]) (fun ((x5,_):(Bool×Unit))=>qbL F yy (q9 F yy x2 k0) (kN F yy (q9 F yy x2 k0) x2 x0 x1 k1) x2 x0 x1 x4 x5) ?_ ?_
 refine av [27,2] ?_ ?_
 intro h0
 refine au [28,11] ?_
 intro x6 e0 b0 o0 h1
 replace h1:a3=some ⟨b0,o0,none⟩:=h1
 refine au [27,12] ?_
 intro x7 e1 b1 o1 h2
 replace h2:a3=some ⟨b1,o1,none⟩:=h2
 refine qB mixed [] [⟨g1,39,[.slice a3 x2.length c4]⟩] [qv b1 (o1+x0.toNat*1) ((eI .i64) x7),qv b0 (o0+(iadd .i64 x0 x4).toNat*1) ((eI .i64) x6),Sl (eI .i64) 1 (.slice a3 x2.length c4) x2,J.F] (.cons 0 rfl .nil) (qF 0 rfl (qF 1 rfl (qF 2 rfl (qF 3 rfl qA)))) 21 rfl ?_
 refine au [105,25,12,3,28,12,4,130] ?_
 refine qh (d:=15) (v:=.bool true) rfl (by rw[h0] <;> rfl) ?_
 refine au [25,12,7,7,8,7,9,7,10] ?_
 refine qh (d:=16) (v:=.slice (some ⟨b0,o0,none⟩) x2.length c4) rfl (by rw[h1] <;> rfl) (qo 11 (.pointer (some ⟨b0,(o0+(iadd .i64 x0 x4).toNat*1),none⟩)) rfl rfl rfl (yV Tryz.underlying39 tf3 rfl rfl (qQ e0).1 (kC e0)) (qh (d:=16) (v:=.slice a3 x2.length c4) rfl (by rw[h1] <;> rfl) (qJ 12 (qAs x6) [] rfl rfl rfl (zJ (j:=1) rfl tf3 rfl rfl (fun _=>rfl) rfl) ?_)))
 refine au [25,12,13,7,14] ?_
 refine qh (d:=22) (v:=.slice (some ⟨b1,o1,none⟩) x2.length c4) rfl (by rw[h2] <;> rfl) (qo 15 (.pointer (some ⟨b1,(o1+x0.toNat*1),none⟩)) rfl rfl rfl (yV Tryz.underlying39 tf3 rfl rfl (qQ e1).1 (kC e1)) (qh (d:=22) (v:=.slice a3 x2.length c4) rfl (by rw[h2] <;> rfl) (qJ 16 (qAs x7) [] rfl rfl rfl (zJ (j:=0) rfl tf3 rfl rfl (fun _=>rfl) rfl) ?_)))
 refine au [7,17,7,18,7,19,7,20,24,14] ?_
 exact qM (qdt (((x6:Int) == (iadd .i64 x7 x4)),()) (hB:=(.cons 0 rfl (qH 0 rfl))) (hR:=(qH 0 rfl)) (hF:=(qG 2 rfl (qG 3 rfl jF)))) (by intro c h;cases h)
 intro h0
 refine qB mixed [] [⟨g1,39,[.slice a3 x2.length c4]⟩] [Sl (eI .i64) 1 (.slice a3 x2.length c4) x2,J.F] (.cons 0 rfl .nil) (qF 0 rfl (qF 1 rfl qA)) 21 rfl ?_
 refine au [105,25,12,3,28,12,4,130] ?_
 refine qh (d:=15) (v:=.bool false) rfl (by rw[h0] <;> rfl) ?_
 refine au [15,7,15,8,118,110,15,13,15,14,15,15,15,16,15,17,15,18,15,19,7,20,24,14] ?_
 exact qM (qdt (false,()) (hB:=(.cons 0 rfl (qH 0 rfl))) (hR:=(qH 0 rfl)) (hF:=(qG 0 rfl (qG 1 rfl jF)))) (by intro c h;cases h)
 rintro ⟨x5,_⟩
 try dsimp only
 refine av [8] ?_ ?_
 intro _
 refine au [66,14,4,78,95] ?_
 exact qfH (iadd .i64 x4 1,()) (hB:=(.cons 0 rfl (qH 0 rfl))) (hR:=(qH 0 rfl)) (hF:=(qG 0 rfl (qG 1 rfl jF)))
 intro _
 refine au [63] ?_
 exact qdt (x4,()) (hB:=(.cons 0 rfl (qH 0 rfl))) (hR:=(qH 0 rfl)) (hF:=(qG 0 rfl (qG 1 rfl jF)))
 rintro ⟨x3,_⟩
 try dsimp only
 refine au [64,20,1,25,14] ?_
 intro x8 e2 b2 o2
 refine au [25,3,1] ?_
 refine qr (cells:=[qAs x8,qAs x3]) rfl st189 rfl (by kernel_rfl) rfl (qjt hY x1 (x8,x3) g0 (B1:=[⟨g1,39,[.slice a3 x2.length c4]⟩]) (R1:=[]) (j:=2) rfl rfl rfl rfl rfl rfl rfl (fun x9 _ g2=>?_) (fun x10 _ g2=>?_))
 refine au [25,4,45] ?_
 refine qb3 (b:=false) rfl (fun h=>by cases h) (fun _=>?_)
 refine au [66,4,1,78,95] ?_
 exact qfH ((iadd .i64 x0 x3,x9),g2) (hB:=(.cons 0 rfl (qH 0 rfl))) (hR:=(qH 0 rfl)) (hF:=(qG 1 rfl (qG 2 rfl jF)))
 refine au [25,4,45] ?_
 refine qb3 (b:=true) rfl (fun _=>?_) (fun h=>by cases h)
 refine au [10,11,50,24,0] ?_
 exact qff (B0:=[⟨g1,39,[.slice a3 x2.length c4]⟩]) (x:=.inr x10) g2 (.inl rfl) (res0 rfl) (.cons 0 rfl (qH 0 rfl)) (qH 0 rfl)
 intro _
 refine au [63] ?_
 exact qff (B0:=[⟨g1,39,[.slice a3 x2.length c4]⟩]) (x:=.inl x1) g0 (.inr rfl) (res0 rfl) (.cons 0 rfl (qH 0 rfl)) (qH 0 rfl)
set_option maxHeartbeats 4000000 in
theorem qpX {F:Nat}{x1:qAq}{a2:qAr}{c3:Nat}{x4:Int}{r:(List (Int×Int)×qAq)}(hm:qgC F x1 x4=some r) :
    PureM Tryz.prog 159 [.slice a2 x1.length c3,qAs x4] [] [] [Sl (eI .i64) 1 (.slice a2 x1.length c3) x1] ((qAr×Nat)×(qAr×Nat)) (fun g=>.tuple #[.slice g.1.1 r.1.length g.1.2,.slice g.2.1 r.2.length g.2.2]) (fun _=>[]) (fun g=>[Ro eS189 189 2 (.slice g.1.1 r.1.length g.1.2) r.1,Ro (eI .i64) 3 1 (.slice g.2.1 r.2.length g.2.2) r.2]):=by
 refine qkO Tryz.func159 rfl Tryz.ntmps159 rfl hm (fun w=>?_)
 refine au [77] ?_
 intro g5
 refine au [25,0] ?_
 intro g6
 refine au [25,0] ?_
 intro g7
 refine au [45,64] ?_
 refine zg qoy ?_
 intro x0 e0 g0
 refine au [45,98,32,9] ?_
 refine qjr (encs:=(fun (p:(Int×Int))=>[.agg #[qAs p.1,qAs p.2]])) (y:=(fun ((x2,x3):(qAq×List (Int×Int))) ((x5,x6):(Int×Int))=>qcJ F x4 x2 x3 x5 x6)) (lb:=[.pointer (some ⟨g0,0,none⟩)]) (fun ((x2,x3):(qAq×List (Int×Int))) ((a0,c0,a1,c1):(qAr×Nat×qAr×Nat))=>[⟨g7,39,[.slice a0 x2.length c0]⟩,⟨g6,184,[.slice a1 x3.length c1]⟩,⟨g5,3,[qAs x4]⟩]) (fun ((x2,x3):(qAq×List (Int×Int))) ((a0,c0,a1,c1):(qAr×Nat×qAr×Nat))=>[Ro (eI .i64) 3 1 (.slice a0 x2.length c0) x2,Ro eS189 189 2 (.slice a1 x3.length c1) x3]) (fun (_:Empty) (_:Unit)=>[]) (fun (_:Empty) (_:Unit)=>[]) (fun _=>.skip) (([]:qAq),([]:List (Int×Int))) (none,0,none,0) rfl ent211 (fun _=>rfl) rfl (.cons 0 rfl .nil) (.cons 0 rfl (.cons 0 rfl (.cons 0 rfl .nil))) (.cons 1 rfl (.cons 0 rfl .nil)) (.consF 0 rfl .nil) (fun z hz _ _ _ hY=>qlH F hY (([]:qAq),([]:List (Int×Int))) (none,0,none,0) g0 x1 a2 c3 z hz) ?_ ?_ ?_
 rintro rc1 L1 D1 ⟨x2,x3⟩ ⟨a0,c0,a1,c1⟩ ⟨x5,x6⟩ z w M _
 try dsimp only
 refine qk6 [(0,.slice a2 x1.length c3),(1,qAs x4),(3,.pointer (some ⟨g5,0,none⟩)),(4,.pointer (some ⟨g6,0,none⟩)),(5,.pointer (some ⟨g7,0,none⟩)),(8,.slice a2 x1.length c3),(9,.func (.func 211) #[] #[.pointer (some ⟨g0,0,none⟩)]),(10,.agg #[qAs x5,qAs x6])] (zo rfl (zo rfl (zo rfl (zo rfl (zo rfl (zo rfl (zo rfl (zo rfl qip)))))))) ?_
 refine au [4,25,0] ?_
 intro g1
 refine au [125] ?_
 refine qju (i:=4) rfl ?_
 refine av [14,3,94,28,10,26,3,51] ?_ ?_
 intro _
 refine au [47,26,10,24,8] ?_
 refine qx (vs:=[.agg #[qAs x5,qAs x6]]) (ys:=([(x5,x6)]:List (Int×Int))) ku (by decide) rfl Tryz.underlying184 tf189 rfl rfl rfl rfl rfl (by decide) (fun a3 c2=>qE 2 ku rfl Tryz.underlying184 tf189 rfl rfl rfl rfl rfl (.inl ⟨0,_,rfl⟩) rfl rfl (fun x7 e1 a4 c4=>?_))
 refine au [27,3,45,24,5,52] ?_
 exact qgq (rc:=rc1) rfl (.cons 4 rfl .nil) rfl (a0,c0,a4,c4) (.cons 2 rfl (.cons 2 rfl (.cons 2 rfl (.cons 0 rfl (.cons 1 rfl .nil))))) (.cons 2 rfl (.cons 0 rfl .nil))
 intro _
 refine au [66,94,1,45,14] ?_
 refine ql (fun (((x8,x9),(a5,c5)):((Int×qAq)×(qAr×Nat)))=>([(3,.pointer (some ⟨g5,0,none⟩)),(4,.pointer (some ⟨g6,0,none⟩)),(5,.pointer (some ⟨g7,0,none⟩)),(6,.pointer (some ⟨g1,0,none⟩)),(20,qAs x6),(21,qAs x8)],[⟨g1,189,[qAs x5,qAs x6]⟩,⟨g7,39,[.slice a5 x9.length c5]⟩,⟨g6,184,[.slice a1 x3.length c1]⟩,⟨g5,3,[qAs x4]⟩,(blkO L1 (.loop (bsy rc1))),(dblk D1)],[Ro (eI .i64) 3 1 (.slice a5 x9.length c5) x9,Ro eS189 189 2 (.slice a1 x3.length c1) x3],[])) (fun k (s:((Int×qAq)×(qAr×Nat)))=>qbf F x3 x5 x6 k s.1) ((0,x2),(a0,c0)) F ?_
 intro k0
 rintro ⟨⟨x8,x9⟩,⟨a5,c5⟩⟩
 try dsimp only
 refine qp (m':=qeD F x3 x5 x6 (qbf F x3 x5 x6 k0) x8 x9) rfl ?_
 refine av [127] ?_ ?_
 intro _
 refine au [90,48,46,4,25,10,57,78] ?_
 refine qx (vs:=[qAs (iadd .i64 x5 x8)]) (ys:=([iadd .i64 x5 x8]:qAq)) (qs .i64) (by decide) rfl Tryz.underlying39 tf3 rfl rfl rfl rfl rfl (by decide) (fun a6 c6=>qE 1 (qs .i64) rfl Tryz.underlying39 tf3 rfl rfl rfl rfl rfl (.inl ⟨0,_,rfl⟩) rfl rfl (fun x10 e2 a7 c7=>?_))
 refine au [25,6,84,2,4,16,1,0] ?_
 exact qg ((iadd .i64 x8 1,x10),(a7,c7))
 intro _
 refine au [63,22] ?_
 exact qgq (rc:=rc1) rfl (.cons 4 rfl .nil) rfl (a5,c5,a1,c1) (.cons 2 rfl (.cons 2 rfl (.cons 2 rfl (.cons 0 rfl (.cons 1 rfl .nil))))) (.cons 0 rfl (.cons 0 rfl .nil))
 rintro ⟨x2,x3⟩ _ ⟨a0,c0,a1,c1⟩ D1
 try dsimp only
 refine au [22,2,3] ?_
 refine qB mixed [] [(dblk D1),⟨g0,39,[.slice a2 x1.length c3]⟩,⟨g7,39,[.slice a0 x2.length c0]⟩,⟨g6,184,[.slice a1 x3.length c1]⟩,⟨g5,3,[qAs x4]⟩] [Sl (eI .i64) 1 (.slice a2 x1.length c3) x1] (.cons 0 rfl (.cons 0 rfl (.cons 0 rfl (.cons 0 rfl (.cons 0 rfl .nil))))) (qF 0 rfl qA) 4 rfl (kZ 0 _ rfl rfl rfl (zN (i:=3) rfl inferInstance rfl rfl (fun _=>rfl) rfl) ?_)
 refine au [30,1,1,24,9,2,32,10,0,32,11,24,9,3,27,3,0,32,11,24,14] ?_
 refine qM ?_ (by intro c h;cases h)
 refine au [2,10] ?_
 exact qhP [D1] ((a1,c1),(a0,c0)) (.inl rfl) rfl (.cons 0 rfl .nil) (resL (rs:=[.cell 4 184,.cell 5 39]) rfl (.cell (i:=2) rfl tf184 rfl rfl (fun _=>rfl) rfl (.cell (i:=1) rfl tf39 rfl rfl (fun _=>rfl) rfl ResOk.nil)) rfl) (fun h=>by subst h;rfl) (fun h=>by subst h;exact .nil) (fun h=>by subst h;exact (.cons 1 rfl (.cons 0 rfl .nil)))
 intro t;exact t.elim
theorem qlO {F:Nat}{x1:Int}{r:Int}(hm:qcN F x1=some r) :
    Pure Tryz.prog 188 [qAs x1] [] Unit (fun _=>.int .u64 r) (fun _=>[]) (fun _=>[]):=by
 refine qi Tryz.func188 rfl Tryz.ntmps188 rfl hm (fun w=>?_)
 refine au [109,48,24,15,32,12,1,28,3,24,15,32,13,120] ?_
 intro x2 e2
 refine qc (d:=2) (v:=.int .u64 x2) rfl (by rw[e2] <;> rfl) ?_
 exact az [45,10,18]
set_option maxHeartbeats 4000000 in
theorem qie {F:Nat}{g1:Nat}{x2:Int}{x3:qAq}{a4:qAr}{c5:Nat}{x6:Bool}{x7:Int}{x8:Int}{x9:List (Int×Int)}{a10:qAr}{c11:Nat}{r:(Int×qAq×Bool)}(hm:qaL F x2 x3 x6 x7 x8 x9=some r) :
    PureM Tryz.prog 160 [.pointer (some ⟨g1,0,none⟩),qAs x7,qAs x8,.slice a10 x9.length c11] [⟨g1,179,[qAs x2,.slice a4 x3.length c5,.bool x6]⟩] [Ro (eI .u8) 5 1 (.slice a4 x3.length c5) x3] [Sl eS189 2 (.slice a10 x9.length c11) x9] (qAr×Nat) (fun _=>.tuple #[]) (fun g=>[⟨g1,179,[qAs r.1,.slice g.1 r.2.1.length g.2,.bool r.2.2]⟩]) (fun g=>[Ro (eI .u8) 5 1 (.slice g.1 r.2.1.length g.2) r.2.1]):=by
 refine zS Tryz.func160 rfl Tryz.ntmps160 rfl hm (fun w=>?_)
 refine au [27,6,115,27,11] ?_
 rintro x12 e12 ⟨a13,c14⟩
 refine au [45,48,46,121,1,45,14] ?_
 refine ql (fun (((x73,x74,x75,x78,x79),(a76,c77)):((Int×Int×Int×qAq×Bool)×(qAr×Nat)))=>([(0,.pointer (some ⟨g1,0,none⟩)),(2,qAs x8),(8,qAs x73),(16,.slice a10 x9.length c11),(17,qAs (x9.length:Int)),(18,qAs x74)],[⟨g1,179,[qAs x75,.slice a76 x78.length c77,.bool x79]⟩],[Ro (eI .u8) 5 1 (.slice a76 x78.length c77) x78],[Sl eS189 2 (.slice a10 x9.length c11) x9])) (fun k (s:((Int×Int×Int×qAq×Bool)×(qAr×Nat)))=>zy F x8 x9 k s.1) ((x7,0,x12.1,x12.2.1,x12.2.2),(a13,c14)) F ?_
 intro k0
 rintro ⟨⟨x73,x74,x75,x78,x79⟩,⟨a76,c77⟩⟩
 try dsimp only
 refine qp (m':=vN F x8 x9 (zy F x8 x9 k0) x73 x74 x75 x78 x79) rfl ?_
 refine av [127] ?_ ?_
 intro _
 refine au [90,48,30,2] ?_
 intro x0 e0 b0 o0
 refine au [30,3,25,0] ?_
 intro g0
 refine au [5,83] ?_
 refine qd (fun (((x1,x4,x5),(a0,c0)):((Int×qAq×Bool)×(qAr×Nat)))=>([(0,.pointer (some ⟨g1,0,none⟩)),(2,qAs x8),(10,.pointer (some ⟨g0,0,none⟩)),(16,.slice a10 x9.length c11),(17,qAs (x9.length:Int)),(18,qAs x74)],[⟨g1,179,[qAs x1,.slice a0 x4.length c0,.bool x5]⟩,⟨g0,189,[qAs x0.1,qAs x0.2]⟩],[Ro (eI .u8) 5 1 (.slice a0 x4.length c0) x4],[Sl eS189 2 (.slice a10 x9.length c11) x9],yg F (zy F x8 x9 k0) x8 x74 x0 x1 x4 x5)) ?_ ?_
 refine av [48,68] ?_ ?_
 intro _
 refine au [4,1,57,85,32,14] ?_
 intro x10 e1 _
 refine au [24,15,27,11] ?_
 rintro x11 e2 ⟨a1,c1⟩
 refine au [0] ?_
 exact qa ((x11.1,x11.2.1,x11.2.2),(a1,c1))
 intro _
 refine au [4,1,57,85,24,13,27,11] ?_
 rintro x13 e3 ⟨a2,c2⟩
 refine au [0] ?_
 exact qa ((x13.1,x13.2.1,x13.2.2),(a2,c2))
 rintro ⟨⟨x1,x4,x5⟩,⟨a0,c0⟩⟩
 try dsimp only
 refine au [48,69,85,27,11] ?_
 rintro x14 e4 ⟨a3,c3⟩
 refine au [45,4,69,69,16,24,13,95,2,4,16,1,0] ?_
 exact qg ((isub .i64 (iadd .i64 x0.1 x0.2) 1,iadd .i64 x74 1,x14.1,x14.2.1,x14.2.2),(a3,c3))
 intro _
 refine au [63] ?_
 exact zP (a76,c77)
theorem qlC {F:Nat}{x1:Int}{x2:Int}{r:(Int×Int×Int)}(hm:qey F x1 x2=some r) :
    Pure Tryz.prog 212 [.int .u64 x1,qAs x2] [] Unit (fun _=>.tuple #[qAs r.1,.int .u64 r.2.1,.int .u64 r.2.2]) (fun _=>[]) (fun _=>[]):=by
 refine qi Tryz.func212 rfl Tryz.ntmps212 rfl hm (fun w=>?_)
 refine au [24,12,93,67,48,16,29,14] ?_
 intro x3 e3 _
 refine au [24,13,1,26,0] ?_
 intro h4
 refine qhO rfl rfl rfl rfl h4 ?_
 refine au [46,3,27,5] ?_
 intro h11
 refine au [27,5] ?_
 intro h13
 refine qB mixed [] [] [] .nil qA 14 rfl ?_
 refine au [105,7,3] ?_
 refine qo 4 (.int .u64 (ishl .u64 1 (imul .i64 (iquo .i64 (isub .i64 x3 1) x2) x2))) rfl rfl rfl (qhw rfl rfl h11) ?_
 refine au [130,7,7,7,8,7,9] ?_
 refine qo 10 (.int .u64 (ishl .u64 1 (iadd .i64 (imul .i64 (iquo .i64 (isub .i64 x3 1) x2) x2) x2))) rfl rfl rfl (qhw rfl rfl h13) ?_
 refine au [7,11,112,24,14] ?_
 refine qM ?_ (by intro c h;cases h)
 exact az [2,10,18]
theorem qke {F:Nat}{x1:Int}{r:(Int×Int)}(hm:qb0 F x1=some r) :
    Pure Tryz.prog 214 [.int .u64 x1] [] Unit (fun _=>.tuple #[qAs r.1,.int .u64 r.2]) (fun _=>[]) (fun _=>[]):=by
 refine qi Tryz.func214 rfl Tryz.ntmps214 rfl hm (fun w=>?_)
 refine au [25,8,47,67,48,24,13,29,14] ?_
 intro x2 e2 _
 refine au [46,3,27,5] ?_
 intro h6
 refine qB mixed [] [] [] .nil qA 7 rfl ?_
 refine au [72] ?_
 refine qo 2 (.int .u64 (ishl .u64 1 x2)) rfl rfl rfl (qhw rfl rfl h6) ?_
 refine au [7,3,7,4,130,24,14] ?_
 refine qM ?_ (by intro c h;cases h)
 exact az [2,10,18]
theorem qiC {F:Nat}{x1:Int}{x2:qAq}{a3:qAr}{c4:Nat}{x5:Int}{x6:Int}{r:(Int×qAq)}(hm:qbB F x1 x2 x5 x6=some r) :
    Pure Tryz.prog 213 [.agg #[qAs x1,.slice a3 x2.length c4],.int .u64 x5,.int .u64 x6] [Sl (eI .u8) 1 (.slice a3 x2.length c4) x2] (qAr×Nat) (fun g=>.agg #[qAs r.1,.slice g.1 r.2.length g.2]) (fun g=>[Ro (eI .u8) 5 1 (.slice g.1 r.2.length g.2) r.2]) (fun _=>[]):=by
 refine qi Tryz.func213 rfl Tryz.ntmps213 rfl hm (fun w=>?_)
 refine au [104] ?_
 intro g7
 refine au [25,0] ?_
 intro g8
 refine au [45,48,32,15] ?_
 intro x9 e9 _
 refine av [79,67,3,60,75] ?_ ?_
 intro _
 refine au [107,1,85,27,10] ?_
 rintro x14 e14 ⟨a15,c16⟩
 refine au [83,10,11] ?_
 exact qu (a15,c16) (resL (rs:=[.cell 6 29]) rfl (.cell (i:=0) rfl tf29 rfl rfl (by simp) rfl ResOk.nil) rfl) (fun h=>by subst h;exact (.cons 0 rfl .nil))
 intro _
 refine au [66,107,1,78,1,27,10] ?_
 rintro x17 e17 ⟨a18,c19⟩
 refine au [83,10] ?_
 exact qu (a18,c19) (resL (rs:=[.cell 6 29]) rfl (.cell (i:=0) rfl tf29 rfl rfl (by simp) rfl ResOk.nil) rfl) (fun h=>by subst h;exact (.cons 0 rfl .nil))
set_option maxHeartbeats 4000000 in
theorem qlB {F:Nat}{x1:Int}{x2:Int}{r:(Int×qAq×Int)}(hm:qex F x1 x2=some r) :
    Pure Tryz.prog 189 [.int .u64 x1,qAs x2] [] (qAr×Nat) (fun g=>.tuple #[.agg #[qAs r.1,.slice g.1 r.2.1.length g.2],qAs r.2.2]) (fun g=>[Ro (eI .u8) 5 1 (.slice g.1 r.2.1.length g.2) r.2.1]) (fun _=>[]):=by
 refine qi Tryz.func189 rfl Tryz.ntmps189 rfl hm (fun w=>?_)
 refine au [124,25,0] ?_
 intro g3
 refine au [46,64,23,1] ?_
 refine qq 3 (decide (x2<1)) [(0,.int .u64 x1),(1,qAs x2),(4,.pointer (some ⟨g3,0,none⟩)),(14,.bool ((decide (x2<1)) || (decide (16<x2))))] (fun h7=>?_) (fun h7=>?_) ?_
 refine qb (os:=_) rfl (qk (k:=11) rfl h7 ?_)
 refine au [117] ?_
 refine qc (d:=14) (v:=.bool ((decide (x2<1)) || (decide (16<x2)))) rfl (by rw[h7];simp only[qx0]) ?_
 exact az [62]
 refine qb (os:=_) rfl (qj (k:=11) rfl h7 ?_)
 refine au [1,70] ?_
 refine qc (d:=14) (v:=.bool ((decide (x2<1)) || (decide (16<x2)))) rfl (by rw[h7];simp only[qxU]) ?_
 exact az [62]
 refine qb (os:=_) rfl ?_
 refine au [1] ?_
 refine qq 3 ((decide (x2<1)) || (decide (16<x2))) [(0,.int .u64 x1),(1,qAs x2),(4,.pointer (some ⟨g3,0,none⟩)),(18,.bool (((decide (x2<1)) || (decide (16<x2))) || (decide (1099511627776<x1))))] (fun h8=>?_) (fun h8=>?_) ?_
 refine qb (os:=_) rfl (qk (k:=15) rfl h8 ?_)
 refine au [117] ?_
 refine qc (d:=18) (v:=.bool (((decide (x2<1)) || (decide (16<x2))) || (decide (1099511627776<x1)))) rfl (by rw[h8];simp only[qx0]) ?_
 exact az [62]
 refine qb (os:=_) rfl (qj (k:=15) rfl h8 ?_)
 refine au [1,70] ?_
 refine qc (d:=18) (v:=.bool (((decide (x2<1)) || (decide (16<x2))) || (decide (1099511627776<x1)))) rfl (by rw[h8];simp only[qxU]) ?_
 exact az [62]
 refine qb (os:=_) rfl ?_
 refine av [51] ?_ ?_
 intro _
 refine au [47] ?_
 refine qr (cells:=[qAs 0,.slice none 0 0]) rfl st29 rfl (by kernel_rfl) rfl ?_
 refine au [24,10,55,25,11] ?_
 exact qu (none,0) (resL (rs:=[.cell 4 29,.tmp 5]) rfl (.cell (i:=0) rfl tf29 rfl rfl (by simp) rfl (.tmp rfl ResOk.nil)) rfl) (fun h=>by subst h;exact (.cons 0 rfl .nil))
 intro _
 refine au [66,60] ?_
 refine qf qlC ?_
 intro x9 e9 _
 refine au [129,5,67,48,24,15,32,1] ?_
 rintro x10 e10 ⟨a11,c12⟩
 refine au [78,85,1,85] ?_
 refine qf qiC ?_
 rintro x13 e13 ⟨a14,c15⟩
 refine au [24,10,49] ?_
 exact qu (a14,c15) (resL (rs:=[.cell 4 29,.tmp 5]) rfl (.cell (i:=0) rfl tf29 rfl rfl (by simp) rfl (.tmp rfl ResOk.nil)) rfl) (fun h=>by subst h;exact (.cons 0 rfl .nil))
set_option maxHeartbeats 4000000 in
theorem qpV {F:Nat}{x1:Int}{x2:qAq}{a3:qAr}{c4:Nat}{x5:qAq}{a6:qAr}{c7:Nat}{x8:Int}{r:(Int×qAq×Bool)}(hm:qdj F x1 x2 x5 x8=some r) :
    PureM Tryz.prog 161 [.agg #[qAs x1,.slice a3 x2.length c4],.slice a6 x5.length c7,qAs x8] [] [Ro (eI .u8) 5 1 (.slice a3 x2.length c4) x2] [Sl (eI .u64) 1 (.slice a6 x5.length c7) x5] (qAr×Nat) (fun g=>.tuple #[.agg #[qAs r.1,.slice g.1 r.2.1.length g.2],.bool r.2.2]) (fun _=>[]) (fun g=>[Ro (eI .u8) 5 1 (.slice g.1 r.2.1.length g.2) r.2.1]):=by
 refine zS Tryz.func161 rfl Tryz.ntmps161 rfl hm (fun w=>?_)
 refine au [104] ?_
 intro g9
 refine au [25,0] ?_
 intro g10
 refine au [46] ?_
 refine qd (fun (((x0,x3),(a0,c0)):((Int×qAq)×(qAr×Nat)))=>([(3,.pointer (some ⟨g9,0,none⟩)),(6,.pointer (some ⟨g10,0,none⟩))],[⟨g10,29,[qAs 0,.slice none 0 0]⟩,⟨g9,29,[qAs x0,.slice a0 x3.length c0]⟩],[Ro (eI .u8) 5 1 (.slice a0 x3.length c0) x3],[],qhZ F x0 x3)) ?_ ?_
 refine au [121,1,45,14] ?_
 refine ql (fun (((x4,x6,x7),(a1,c1)):((Int×Int×qAq)×(qAr×Nat)))=>([(2,qAs x8),(3,.pointer (some ⟨g9,0,none⟩)),(6,.pointer (some ⟨g10,0,none⟩)),(12,.slice a6 x5.length c7),(13,qAs (x5.length:Int)),(14,qAs x4)],[⟨g10,29,[qAs 0,.slice none 0 0]⟩,⟨g9,29,[qAs x6,.slice a1 x7.length c1]⟩],[Ro (eI .u8) 5 1 (.slice a1 x7.length c1) x7],[Sl (eI .u64) 1 (.slice a6 x5.length c7) x5])) (fun k (s:((Int×Int×qAq)×(qAr×Nat)))=>qbd F x5 x8 k s.1) ((0,x1,x2),(a3,c4)) F ?_
 intro k0
 rintro ⟨⟨x4,x6,x7⟩,⟨a1,c1⟩⟩
 try dsimp only
 refine qp (m':=qev F x5 x8 (qbd F x5 x8 k0) x4 x6 x7) rfl ?_
 refine av [127] ?_ ?_
 intro _
 refine au [90,47,33,0] ?_
 intro x9 e0 b0 o0
 refine au [25,3,46,60] ?_
 refine qf qlB ?_
 rintro x10 e1 ⟨a2,c2⟩
 refine au [111] ?_
 intro g0
 refine au [101,64,25,2,1] ?_
 refine qq 7 ((x10.2.2:Int) != 0) [(2,qAs x8),(3,.pointer (some ⟨g9,0,none⟩)),(6,.pointer (some ⟨g10,0,none⟩)),(12,.slice a6 x5.length c7),(13,qAs (x5.length:Int)),(14,qAs x4),(10,.pointer (some ⟨g0,0,none⟩)),(33,.bool (((x10.2.2:Int) != 0) || (decide (8192<(iadd .i64 x6 x10.1)))))] (fun h0=>?_) (fun h0=>?_) ?_
 refine qb (os:=_) rfl (qk (k:=26) rfl h0 ?_)
 refine au [61,117] ?_
 refine qc (d:=33) (v:=.bool (((x10.2.2:Int) != 0) || (decide (8192<(iadd .i64 x6 x10.1))))) rfl (by rw[h0];simp only[qx0]) ?_
 exact az [62]
 refine qb (os:=_) rfl (qj (k:=26) rfl h0 ?_)
 refine au [12,26,10,57,16,70] ?_
 refine qc (d:=33) (v:=.bool (((x10.2.2:Int) != 0) || (decide (8192<(iadd .i64 x6 x10.1))))) rfl (by rw[h0];simp only[qxU]) ?_
 exact az [62]
 refine qb (os:=_) rfl ?_
 refine av [51] ?_ ?_
 intro _
 refine au [47] ?_
 refine qr (cells:=[qAs 0,.slice none 0 0]) rfl st29 rfl (by kernel_rfl) rfl ?_
 refine au [132,92,25,11] ?_
 exact vx (none,0) (resL (rs:=[.cell 6 29,.tmp 7]) rfl (.cell (i:=1) rfl tf29 rfl rfl (by simp) rfl (.tmp rfl ResOk.nil)) rfl) (hR:=fun h=>by subst h;exact (.cons 0 rfl .nil))
 intro _
 refine au [66,4,26,1,24,8,29,3] ?_
 rintro x11 e2 ⟨a4,c3⟩
 refine au [27,3,84,2,4,16,1,0] ?_
 exact qg ((iadd .i64 x4 1,x11.1,x11.2),(a4,c3))
 intro _
 refine au [63] ?_
 exact qa ((x6,x7),(a1,c1))
 rintro ⟨⟨x0,x3⟩,⟨a0,c0⟩⟩
 try dsimp only
 refine au [107,24,10,49] ?_
 exact vx (a0,c0) (resL (rs:=[.cell 6 29,.tmp 7]) rfl (.cell (i:=0) rfl tf29 rfl rfl (by simp) rfl (.tmp rfl ResOk.nil)) rfl) (hR:=fun h=>by subst h;exact (.cons 0 rfl .nil))
theorem qiA {F:Nat}{g1:Nat}{x2:Int}{x3:Bool}{x4:Int}{r:(Int×Int×Bool)}(hm:qbz F x2 x3 x4=some r) :
    PureM Tryz.prog 190 [.pointer (some ⟨g1,0,none⟩),qAs x4] [⟨g1,248,[qAs x2,.bool x3]⟩] [] [] Unit (fun _=>.int .u64 r.1) (fun _=>[⟨g1,248,[qAs r.2.1,.bool r.2.2]⟩]) (fun _=>[]):=by
 refine zS Tryz.func190 rfl Tryz.ntmps190 rfl hm (fun w=>?_)
 refine au [87] ?_
 refine qd (fun ((x8,_):(Int×Unit))=>([(0,.pointer (some ⟨g1,0,none⟩)),(1,qAs x4),(4,.int .u64 x8)],[⟨g1,248,[qAs x2,.bool x3]⟩],[],[],qbZ F x4 x8)) ?_ ?_
 refine av [48,131,51] ?_ ?_
 intro _
 refine au [99,131,24,13,24,13,24,15,120] ?_
 intro x9 e9
 refine qc (d:=4) (v:=.int .u64 x9) rfl (by rw[e9] <;> rfl) ?_
 refine au [0] ?_
 exact qa (x9,())
 intro _
 refine au [99,131,24,13,32,14] ?_
 intro x10 e10 _
 refine au [5,0] ?_
 exact qa (x10,())
 rintro ⟨x8,_⟩
 try dsimp only
 exact az [60,1,88,24,10,88,83,48,49,30,4]
set_option maxHeartbeats 4000000 in
theorem qpW {F:Nat}{x1:qAq}{a2:qAr}{c3:Nat}{x4:Int}{r:qAq}(hm:qfr F x1 x4=some r) :
    Pure Tryz.prog 162 [.slice a2 x1.length c3,qAs x4] [Sl (eI .i64) 1 (.slice a2 x1.length c3) x1] (qAr×Nat) (fun g=>.slice g.1 r.length g.2) (fun g=>[Ro (eI .u64) 119 1 (.slice g.1 r.length g.2) r]) (fun _=>[]):=by
 refine qi Tryz.func162 rfl Tryz.ntmps162 rfl hm (fun w=>?_)
 refine au [87,48] ?_
 refine qr (cells:=[qAs x4,.bool false]) rfl st248 rfl (by kernel_rfl) rfl ?_
 refine au [24,3] ?_
 intro g5
 refine au [46,53] ?_
 refine qd (fun ((x75,(a73,c74)):(qAq×(qAr×Nat)))=>([(6,.slice a73 x75.length c74)],[],[Ro (eI .u64) 119 1 (.slice a73 x75.length c74) x75],[],qf8 F x75)) ?_ ?_
 refine au [121,1,45,14,33,1] ?_
 refine ql (fun (((x98,x99,x0,x2),(a96,c97)):((qAq×Int×Int×Bool)×(qAr×Nat)))=>([(5,.pointer (some ⟨g5,0,none⟩)),(6,.slice a96 x98.length c97),(12,.slice a2 x1.length c3),(13,qAs (x1.length:Int)),(14,qAs x99)],[⟨g5,248,[qAs x0,.bool x2]⟩],[Ro (eI .u64) 119 1 (.slice a96 x98.length c97) x98],[Sl (eI .i64) 1 (.slice a2 x1.length c3) x1])) (fun k (s:((qAq×Int×Int×Bool)×(qAr×Nat)))=>qbe F x1 k s.1) ((([]:qAq),0,x4,false),(none,0)) F ?_
 intro k0
 rintro ⟨⟨x98,x99,x0,x2⟩,⟨a96,c97⟩⟩
 try dsimp only
 refine qp (m':=qew F x1 (qbe F x1 k0) x98 x99 x0 x2) rfl ?_
 refine av [127] ?_ ?_
 intro _
 refine au [90,47,25,14] ?_
 intro x3 e0 b0 o0
 refine au [25,3,46,99,1] ?_
 refine zg qiA ?_
 intro x5 e1 _
 refine qx (vs:=[.int .u64 x5.1]) (ys:=([x5.1]:qAq)) (qs .u64) (by decide) rfl Tryz.underlying191 tf119 rfl rfl rfl rfl rfl (by decide) (fun a0 c0=>qE 1 (qs .u64) rfl Tryz.underlying191 tf119 rfl rfl rfl rfl rfl (.inl ⟨0,_,rfl⟩) rfl rfl (fun x6 e2 a1 c1=>?_))
 refine au [95,2,4,16,1,0] ?_
 exact qg ((x6,iadd .i64 x99 1,x5.2.1,x5.2.2),(a1,c1))
 intro _
 refine au [63] ?_
 exact qa (x98,(a96,c97))
 rintro ⟨x75,⟨a73,c74⟩⟩
 try dsimp only
 refine au [48,49] ?_
 exact qm (a73,c74)
set_option maxHeartbeats 4000000 in
theorem qid {F:Nat}{g1:Nat}{x2:Int}{x3:qAq}{a4:qAr}{c5:Nat}{x6:Bool}{x7:Int}{x8:qAq}{a9:qAr}{c10:Nat}{x11:qAq}{a12:qAr}{c13:Nat}{x14:Int}{x15:Int}{x16:Int}{r:(Int×qAq×Bool)}(hm:vG F x2 x3 x6 x7 x8 x11 x14 x15 x16=some r) :
    PureM Tryz.prog 116 [.pointer (some ⟨g1,0,none⟩),qAs x7,.slice a9 x8.length c10,.slice a12 x11.length c13,.agg #[qAs x14,qAs x15,qAs x16]] [⟨g1,179,[qAs x2,.slice a4 x3.length c5,.bool x6]⟩] [Ro (eI .u8) 5 1 (.slice a4 x3.length c5) x3] [Sl (eI .i64) 1 (.slice a9 x8.length c10) x8,Sl (eI .i64) 1 (.slice a12 x11.length c13) x11] (qAr×Nat) (fun _=>.tuple #[]) (fun g=>[⟨g1,179,[qAs r.1,.slice g.1 r.2.1.length g.2,.bool r.2.2]⟩]) (fun g=>[Ro (eI .u8) 5 1 (.slice g.1 r.2.1.length g.2) r.2.1]):=by
 refine zS Tryz.func116 rfl Tryz.ntmps116 rfl hm (fun w=>?_)
 refine au [27,13,58] ?_
 intro g17
 refine au [45,115,27,11] ?_
 rintro x18 e18 ⟨a19,c20⟩
 refine av [45,64,21,68] ?_ ?_
 intro _
 refine au [10,11] ?_
 exact zP (a19,c20)
 intro _
 refine au [66,48,46] ?_
 refine qd (fun (((x33,x34,x37,x38),(a31,c32,a35,c36)):((qAq×Int×qAq×Bool)×(qAr×Nat×qAr×Nat)))=>([(0,.pointer (some ⟨g1,0,none⟩)),(1,qAs x7),(9,.pointer (some ⟨g17,0,none⟩)),(10,.slice a31 x33.length c32)],[⟨g1,179,[qAs x34,.slice a35 x37.length c36,.bool x38]⟩,⟨g17,26,[qAs x14,qAs x15,qAs x16]⟩],[Ro (eI .u8) 5 1 (.slice a35 x37.length c36) x37],[Sl (eI .i64) 1 (.slice a31 x33.length c32) x33],yd F x7 x15 x16 x33 x34 x37 x38)) ?_ ?_
 refine av [47,69,65] ?_ ?_
 intro _
 refine au [53,60] ?_
 refine qf qox ?_
 rintro x0 e0 ⟨⟨a0,c0⟩,⟨a1,c1⟩⟩
 refine au [79,67,99] ?_
 refine zg qg9 ?_
 rintro x1 e1 ⟨a2,c2⟩
 refine au [0,33,2] ?_
 exact qa ((x0.2,x1.1,x1.2.1,x1.2.2),(a1,c1,a2,c2))
 intro _
 refine au [9] ?_
 exact qa ((x8,x18.1,x18.2.1,x18.2.2),(a9,c10,a19,c20))
 rintro ⟨⟨x33,x34,x37,x38⟩,⟨a31,c32,a35,c36⟩⟩
 try dsimp only
 refine av [64,21,68] ?_ ?_
 intro _
 refine au [10,11] ?_
 exact zP (a35,c36)
 intro _
 refine au [66] ?_
 refine qd (fun (((x51,x52,x55,x56),(a49,c50,a53,c54)):((qAq×Int×qAq×Bool)×(qAr×Nat×qAr×Nat)))=>([(0,.pointer (some ⟨g1,0,none⟩)),(1,qAs x7),(9,.pointer (some ⟨g17,0,none⟩)),(10,.slice a49 x51.length c50)],[⟨g1,179,[qAs x52,.slice a53 x55.length c54,.bool x56]⟩,⟨g17,26,[qAs x14,qAs x15,qAs x16]⟩],[Ro (eI .u8) 5 1 (.slice a53 x55.length c54) x55],[Sl (eI .i64) 1 (.slice a49 x51.length c50) x51],ye F x7 x16 x51 x52 x55 x56)) ?_ ?_
 refine av [47,69,65] ?_ ?_
 intro _
 refine au [53,48,69] ?_
 refine zg qpX ?_
 rintro x4 e2 ⟨⟨a3,c3⟩,⟨a5,c4⟩⟩
 refine au [79,67,99,69,1] ?_
 refine zg qie ?_
 rintro x5 e3 ⟨a6,c6⟩
 refine au [0,33,2] ?_
 exact qa ((x4.2,x5.1,x5.2.1,x5.2.2),(a5,c4,a6,c6))
 intro _
 refine au [9] ?_
 exact qa ((x33,x34,x37,x38),(a31,c32,a35,c36))
 rintro ⟨⟨x51,x52,x55,x56⟩,⟨a49,c50,a53,c54⟩⟩
 try dsimp only
 refine qd (fun (((x76,x77,x80),(g75,a78,c79)):((Bool×Int×qAq)×(Nat×qAr×Nat)))=>([(0,.pointer (some ⟨g1,0,none⟩)),(13,.pointer (some ⟨g75,0,none⟩)),(14,.bool x76)],[⟨g1,179,[qAs x52,.slice a53 x55.length c54,.bool x56]⟩,⟨g75,29,[qAs x77,.slice a78 x80.length c79]⟩],[Ro (eI .u8) 5 1 (.slice a53 x55.length c54) x55,Ro (eI .u8) 5 1 (.slice a78 x80.length c79) x80],[],yf F x52 x55 x56 x76 x77 x80)) ?_ ?_
 refine qB mixed [] [⟨g1,179,[qAs x52,.slice a53 x55.length c54,.bool x56]⟩,⟨g17,26,[qAs x14,qAs x15,qAs x16]⟩] [Sl (eI .i64) 1 (.slice a49 x51.length c50) x51] (.cons 0 rfl (.cons 0 rfl .nil)) (qF 0 rfl qA) 13 rfl (qo 0 (.agg #[qAs 0,.slice none 0 0]) rfl rfl rfl (qgr (cells:=[qAs 0,.slice none 0 0]) st29 rfl (by kernel_rfl)) ?_)
 refine au [7,1,7,2,24,4,4,28,5,5] ?_
 refine qgS 3 10 rfl rfl (by kernel_rfl) rfl rfl ?_ ?_
 refine au [33,3] ?_
 rintro x85 e85 ⟨a86,c87⟩
 refine au [0,30,5] ?_
 refine qgS 6 10 rfl rfl (by kernel_rfl) rfl rfl ?_ ?_
 refine au [27,7,30,6] ?_
 rintro x88 e88 ⟨a89,c90⟩
 refine au [0,30,5,7,7,7,8,7,9,24,9,10,25,0] ?_
 intro g91
 refine au [0,27,4,24,9,11,125,27,4,7,12,24,14] ?_
 exact qM (qa ((x88.2.2,x88.1,x88.2.1),(g91,a89,c90))) (by intro c h;cases h)
 refine qgV (m':=((qdj F 0 ([]:qAq) x85 x16).bind fun x93=>yf F x52 x55 x56 x93.2.2 x93.1 x93.2.1)) (rfl) ?_
 refine au [25,0] ?_
 intro g92
 refine au [0,27,4,24,9,6,27,7,30,6] ?_
 rintro x93 e93 ⟨a94,c95⟩
 refine au [0,27,4,7,7,7,8,7,9,24,9,11,125,27,4,7,12,24,14] ?_
 exact qM (qa ((x93.2.2,x93.1,x93.2.1),(g92,a94,c95))) (by intro c h;cases h)
 refine qgV (m':=((qfr F x51 x7).bind fun x97=>((qdj F 0 ([]:qAq) x97 x16).bind fun x9=>yf F x52 x55 x56 x9.2.2 x9.1 x9.2.1))) (rfl) ?_
 refine au [25,0] ?_
 intro g96
 refine au [0,27,4,24,9,3,33,3] ?_
 rintro x97 e97 ⟨a98,c99⟩
 refine au [0,27,4,24,9,6,27,7,30,6] ?_
 rintro x9 e4 ⟨a7,c7⟩
 refine au [0,27,4,7,7,7,8,7,9,24,9,11,125,27,4,7,12,24,14] ?_
 exact qM (qa ((x9.2.2,x9.1,x9.2.1),(g96,a7,c7))) (by intro c h;cases h)
 rintro ⟨⟨x76,x77,x80⟩,⟨g75,a78,c79⟩⟩
 try dsimp only
 refine au [60,131,1] ?_
 refine qq 3 x56 [(0,.pointer (some ⟨g1,0,none⟩)),(13,.pointer (some ⟨g75,0,none⟩)),(64,.pointer (some ⟨g1,0,none⟩)),(72,.bool (x56 || (!x76)))] (fun h81=>?_) (fun h81=>?_) ?_
 refine qb (os:=_) rfl (qk (k:=69) rfl h81 ?_)
 refine au [117] ?_
 refine qc (d:=72) (v:=.bool (x56 || (!x76))) rfl (by rw[h81];simp only[qx0]) ?_
 exact az [62]
 refine qb (os:=_) rfl (qj (k:=69) rfl h81 ?_)
 refine au [1,25,4,24,2] ?_
 refine qc (d:=72) (v:=.bool (x56 || (!x76))) rfl (by rw[h81];simp only[qxU]) ?_
 exact az [62]
 refine qb (os:=_) rfl ?_
 refine au [88,83,4,1,25,5,32,5] ?_
 rintro x82 e82 ⟨a83,c84⟩
 refine au [0] ?_
 exact zP (a83,c84)
theorem qng {F:Nat}{x1:Int}{x2:qAq}{a3:qAr}{c4:Nat}{x5:Int}{x6:Int}{x7:Int}{r:Int}(hm:qe8 F x1 x2 x5 x6 x7=some r) :
    Pure Tryz.prog 199 [qAs x1,.slice a3 x2.length c4,.agg #[qAs x5,qAs x6,qAs x7]] [Sl (eI .i64) 1 (.slice a3 x2.length c4) x2] Unit (fun _=>qAs r) (fun _=>[]) (fun _=>[]):=by
 refine qi Tryz.func199 rfl Tryz.ntmps199 rfl hm (fun w=>?_)
 refine au [104] ?_
 intro g8
 refine au [46,64,23,1] ?_
 refine qq 3 (decide (x1<0)) [(1,.slice a3 x2.length c4),(5,.pointer (some ⟨g8,0,none⟩)),(12,.bool ((decide (x1<0)) || (decide (1048576<x1))))] (fun h11=>?_) (fun h11=>?_) ?_
 refine qb (os:=_) rfl (qk (k:=9) rfl h11 ?_)
 refine au [117] ?_
 refine qc (d:=12) (v:=.bool ((decide (x1<0)) || (decide (1048576<x1)))) rfl (by rw[h11];simp only[qx0]) ?_
 exact az [62]
 refine qb (os:=_) rfl (qj (k:=9) rfl h11 ?_)
 refine au [1,70] ?_
 refine qc (d:=12) (v:=.bool ((decide (x1<0)) || (decide (1048576<x1)))) rfl (by rw[h11];simp only[qxU]) ?_
 exact az [62]
 refine qb (os:=_) rfl ?_
 refine av [51] ?_ ?_
 intro _
 exact az [47,82]
 intro _
 refine av [89,94,65] ?_ ?_
 intro _
 refine au [48,28,13] ?_
 intro x14 e14 _
 exact az [82]
 intro _
 exact az [66,47,73]
set_option maxHeartbeats 4000000 in
theorem qnf {F:Nat}{x1:Int}{x2:qAq}{a3:qAr}{c4:Nat}{x5:qAq}{a6:qAr}{c7:Nat}{x8:Int}{x9:Int}{x10:Int}{r:(Int×qAq×Int)}(hm:qe7 F x1 x2 x5 x8 x9 x10=some r) :
    Pure Tryz.prog 172 [qAs x1,.slice a3 x2.length c4,.slice a6 x5.length c7,.agg #[qAs x8,qAs x9,qAs x10]] [Sl (eI .i64) 1 (.slice a3 x2.length c4) x2,Sl (eI .i64) 1 (.slice a6 x5.length c7) x5] (qAr×Nat) (fun g=>.tuple #[.agg #[qAs r.1,.slice g.1 r.2.1.length g.2],qAs r.2.2]) (fun g=>[Ro (eI .u8) 5 1 (.slice g.1 r.2.1.length g.2) r.2.1]) (fun _=>[]):=by
 refine qi Tryz.func172 rfl Tryz.ntmps172 rfl hm (fun w=>?_)
 refine au [27,6,58] ?_
 intro g11
 refine au [25,0] ?_
 intro g12
 refine au [46,107,30,7] ?_
 intro x13 e13 _
 refine au [46] ?_
 refine qd (fun ((x19,_):(Int×Unit))=>([(0,qAs x1),(1,.slice a3 x2.length c4),(2,.slice a6 x5.length c7),(7,.pointer (some ⟨g11,0,none⟩)),(8,.pointer (some ⟨g12,0,none⟩)),(10,qAs x19)],[⟨g12,29,[qAs 0,.slice none 0 0]⟩,⟨g11,26,[qAs x8,qAs x9,qAs x10]⟩],[],[Sl (eI .i64) 1 (.slice a3 x2.length c4) x2,Sl (eI .i64) 1 (.slice a6 x5.length c7) x5],v7 F x1 x2 x5 x8 x9 x10 x19)) ?_ ?_
 refine au [48,106] ?_
 refine qD 7 (fun ((x40,_):(Bool×Unit))=>([(0,qAs x1),(1,.slice a3 x2.length c4),(2,.slice a6 x5.length c7),(7,.pointer (some ⟨g11,0,none⟩)),(8,.pointer (some ⟨g12,0,none⟩)),(10,qAs x13),(23,.bool x40)],[⟨g12,29,[qAs 0,.slice none 0 0]⟩,⟨g11,26,[qAs x8,qAs x9,qAs x10]⟩],[],[Sl (eI .i64) 1 (.slice a3 x2.length c4) x2,Sl (eI .i64) 1 (.slice a6 x5.length c7) x5],qa3 F x1 x2 x5 x8 x9 x10 x13 x40)) ?_ ?_
 refine qb (os:=_) rfl ?_
 refine av [25,7] ?_ ?_
 intro h38
 refine qk (k:=16) rfl h38 ?_
 refine au [1,23,1] ?_
 refine qq 3 (decide (x1<0)) [(0,qAs x1),(1,.slice a3 x2.length c4),(2,.slice a6 x5.length c7),(7,.pointer (some ⟨g11,0,none⟩)),(8,.pointer (some ⟨g12,0,none⟩)),(10,qAs x13),(16,.bool true),(22,.bool ((decide (x1<0)) || (decide (1048576<x1))))] (fun h42=>?_) (fun h42=>?_) ?_
 refine qb (os:=_) rfl (qk (k:=19) rfl h42 ?_)
 refine au [117] ?_
 refine qc (d:=22) (v:=.bool ((decide (x1<0)) || (decide (1048576<x1)))) rfl (by rw[h42];simp only[qx0]) ?_
 exact az [62]
 refine qb (os:=_) rfl (qj (k:=19) rfl h42 ?_)
 refine au [1,70] ?_
 refine qc (d:=22) (v:=.bool ((decide (x1<0)) || (decide (1048576<x1)))) rfl (by rw[h42];simp only[qxU]) ?_
 exact az [62]
 refine qb (os:=_) rfl ?_
 refine au [74] ?_
 exact qa (((decide (x1<0)) || (decide (1048576<x1))),())
 intro h38
 refine qj (k:=16) rfl h38 ?_
 refine au [61,56,76] ?_
 exact qa (false,())
 rintro ⟨x40,_⟩
 try dsimp only
 refine qb (os:=_) rfl ?_
 refine av [51] ?_ ?_
 intro _
 refine au [4,5,0] ?_
 exact qa ((3:Int),())
 intro _
 refine au [9] ?_
 exact qa (x13,())
 rintro ⟨x19,_⟩
 try dsimp only
 refine qd (fun ((x22,_):(Int×Unit))=>([(0,qAs x1),(1,.slice a3 x2.length c4),(2,.slice a6 x5.length c7),(7,.pointer (some ⟨g11,0,none⟩)),(8,.pointer (some ⟨g12,0,none⟩)),(10,qAs x22)],[⟨g12,29,[qAs 0,.slice none 0 0]⟩,⟨g11,26,[qAs x8,qAs x9,qAs x10]⟩],[],[Sl (eI .i64) 1 (.slice a3 x2.length c4) x2,Sl (eI .i64) 1 (.slice a6 x5.length c7) x5],v8 F x1 x2 x5 x8 x9 x10 x22)) ?_ ?_
 refine av [48,68] ?_ ?_
 intro _
 refine au [4,1,28,13] ?_
 intro x36 e36 _
 refine au [5,0] ?_
 exact qa (x36,())
 intro _
 refine au [9] ?_
 exact qa (x19,())
 rintro ⟨x22,_⟩
 try dsimp only
 refine qd (fun ((x25,_):(Int×Unit))=>([(0,qAs x1),(1,.slice a3 x2.length c4),(2,.slice a6 x5.length c7),(7,.pointer (some ⟨g11,0,none⟩)),(8,.pointer (some ⟨g12,0,none⟩)),(10,qAs x25)],[⟨g12,29,[qAs 0,.slice none 0 0]⟩,⟨g11,26,[qAs x8,qAs x9,qAs x10]⟩],[],[Sl (eI .i64) 1 (.slice a3 x2.length c4) x2,Sl (eI .i64) 1 (.slice a6 x5.length c7) x5],qa2 F x1 x2 x5 x8 x9 x10 x25)) ?_ ?_
 refine av [48,68] ?_ ?_
 intro _
 refine au [99,25,5] ?_
 refine qf qng ?_
 intro x34 e34 _
 refine au [5,0] ?_
 exact qa (x34,())
 intro _
 refine au [9] ?_
 exact qa (x22,())
 rintro ⟨x25,_⟩
 try dsimp only
 refine av [64,71] ?_ ?_
 intro _
 refine au [47] ?_
 refine qr (cells:=[qAs 0,.slice none 0 0]) rfl st29 rfl (by kernel_rfl) rfl ?_
 refine au [1,24,10,55,25,11] ?_
 exact qu (none,0) (resL (rs:=[.cell 8 29,.tmp 9]) rfl (.cell (i:=0) rfl tf29 rfl rfl (by simp) rfl (.tmp rfl ResOk.nil)) rfl) (fun h=>by subst h;exact (.cons 0 rfl .nil))
 intro _
 refine au [66,47] ?_
 refine qr (cells:=[qAs 0,.slice none 0 0,.bool false]) rfl st179 rfl (by kernel_rfl) rfl ?_
 refine au [24,3] ?_
 intro g27
 refine au [46,60,91,26,1,27,7,33,4] ?_
 rintro x28 e28 ⟨a29,c30⟩
 refine av [45,64,131,51] ?_ ?_
 intro _
 refine au [47] ?_
 refine qr (cells:=[qAs 0,.slice none 0 0]) rfl st29 rfl (by kernel_rfl) rfl ?_
 refine au [132,25,11] ?_
 exact qu (none,0) (resL (rs:=[.cell 8 29,.tmp 9]) rfl (.cell (i:=1) rfl tf29 rfl rfl (by simp) rfl (.tmp rfl ResOk.nil)) rfl) (fun h=>by subst h;exact (.cons 0 rfl .nil))
 intro _
 refine au [66,48,88,24,8,25,6,49] ?_
 exact qu (a29,c30) (resL (rs:=[.cell 8 29,.tmp 9]) rfl (.cell (i:=1) rfl tf29 rfl rfl (by simp) rfl (.tmp rfl ResOk.nil)) rfl) (fun h=>by subst h;exact (.cons 0 rfl .nil))
set_option maxHeartbeats 4000000 in
theorem qow {F:Nat}{x1:List (qAq)}{a2:qAr}{c3:Nat}{s3:List (qAr×Nat)}{x4:qAq}{a5:qAr}{c6:Nat}{x7:Int}{x8:Int}{x9:Int}{x10:Int}{r:(Int×Int×qAq×Bool)}(hm:qfR F x1 x4 x7 x8 x9 x10=some r) :
    Pure Tryz.prog 139 [.slice a2 x1.length c3,.slice a5 x4.length c6,qAs x7,.agg #[qAs x8,qAs x9,qAs x10]] [SlN eN39 iN39 1 (.slice a2 x1.length c3) x1 s3,Sl (eI .i64) 1 (.slice a5 x4.length c6) x4] (qAr×Nat) (fun g=>.tuple #[.agg #[qAs r.1,qAs r.2.1,.slice g.1 r.2.2.1.length g.2],.bool r.2.2.2]) (fun g=>[Ro (eI .u8) 5 1 (.slice g.1 r.2.2.1.length g.2) r.2.2.1]) (fun _=>[]):=by
 refine qi Tryz.func139 rfl Tryz.ntmps139 rfl hm (fun w=>?_)
 refine au [27,6,58] ?_
 intro g11
 refine au [25,0] ?_
 intro g12
 refine au [46,121,46,47] ?_
 refine qr (cells:=[qAs 0,.slice none 0 0]) rfl st29 rfl (by kernel_rfl) rfl ?_
 refine au [25,0] ?_
 intro g13
 refine au [83] ?_
 refine qd (fun (((x18,x21),(a19,c20)):((Int×qAq)×(qAr×Nat)))=>([(0,.slice a2 x1.length c3),(1,.slice a5 x4.length c6),(2,qAs x7),(7,.pointer (some ⟨g11,0,none⟩)),(8,.pointer (some ⟨g12,0,none⟩)),(10,qAs (x1.length:Int)),(11,.pointer (some ⟨g13,0,none⟩))],[⟨g13,29,[qAs x18,.slice a19 x21.length c20]⟩,⟨g12,159,[qAs 0,qAs 0,.slice none 0 0]⟩,⟨g11,26,[qAs x8,qAs x9,qAs x10]⟩],[Ro (eI .u8) 5 1 (.slice a19 x21.length c20) x21],[SlN eN39 iN39 1 (.slice a2 x1.length c3) x1 s3,Sl (eI .i64) 1 (.slice a5 x4.length c6) x4],qb1 F x1 x4 x7 x9 x10 x18 x21)) ?_ ?_
 refine av [47,12,26,10,65] ?_ ?_
 intro _
 refine au [4,1,24,15,32,4] ?_
 rintro x46 e46 ⟨a47,c48⟩
 refine au [125] ?_
 exact qa ((x46.1,x46.2),(a47,c48))
 intro _
 refine au [9,25,11] ?_
 exact qa (((0:Int),([]:qAq)),(none,0))
 rintro ⟨⟨x18,x21⟩,⟨a19,c20⟩⟩
 try dsimp only
 refine au [53] ?_
 refine qd (fun ((x29,(a27,c28)):(qAq×(qAr×Nat)))=>([(1,.slice a5 x4.length c6),(2,qAs x7),(7,.pointer (some ⟨g11,0,none⟩)),(8,.pointer (some ⟨g12,0,none⟩)),(10,qAs (x1.length:Int)),(11,.pointer (some ⟨g13,0,none⟩)),(12,.slice a27 x29.length c28)],[⟨g13,29,[qAs x18,.slice a19 x21.length c20]⟩,⟨g12,159,[qAs 0,qAs 0,.slice none 0 0]⟩,⟨g11,26,[qAs x8,qAs x9,qAs x10]⟩],[Ro (eI .u8) 5 1 (.slice a19 x21.length c20) x21],[Sl (eI .i64) 1 (.slice a5 x4.length c6) x4,Sl (eI .i64) 1 (.slice a27 x29.length c28) x29],qb2 F x1 x4 x7 x9 x10 x18 x21 x29)) ?_ ?_
 refine av [48,65] ?_ ?_
 intro _
 refine au [99,85,27,0] ?_
 intro x41 e41 g44 b42 o43
 refine au [25,3,5,0] ?_
 exact qa (x41,(g44.1,g44.2))
 intro _
 refine au [9,25,1,30,8] ?_
 exact qa (([]:qAq),(none,0))
 rintro ⟨x29,⟨a27,c28⟩⟩
 try dsimp only
 refine au [48,12,27,3,45,60,1,26,1] ?_
 refine qf qnf ?_
 rintro x30 e30 ⟨a31,c32⟩
 refine au [111] ?_
 intro g33
 refine au [101,64,25,2,1] ?_
 refine qq 7 ((x30.2.2:Int) != 0) [(2,qAs x7),(8,.pointer (some ⟨g12,0,none⟩)),(11,.pointer (some ⟨g13,0,none⟩)),(13,.pointer (some ⟨g33,0,none⟩)),(51,.bool (((x30.2.2:Int) != 0) || (decide (8192<(iadd .i64 x18 x30.1)))))] (fun h36=>?_) (fun h36=>?_) ?_
 refine qb (os:=_) rfl (qk (k:=44) rfl h36 ?_)
 refine au [61,117] ?_
 refine qc (d:=51) (v:=.bool (((x30.2.2:Int) != 0) || (decide (8192<(iadd .i64 x18 x30.1))))) rfl (by rw[h36];simp only[qx0]) ?_
 exact az [62]
 refine qb (os:=_) rfl (qj (k:=44) rfl h36 ?_)
 refine au [69,57,16,70] ?_
 refine qc (d:=51) (v:=.bool (((x30.2.2:Int) != 0) || (decide (8192<(iadd .i64 x18 x30.1))))) rfl (by rw[h36];simp only[qxU]) ?_
 exact az [62]
 refine qb (os:=_) rfl ?_
 refine av [51] ?_ ?_
 intro _
 refine au [47] ?_
 refine qr (cells:=[qAs 0,qAs 0,.slice none 0 0]) rfl st159 rfl (by kernel_rfl) rfl ?_
 refine au [27,3,55,25,11] ?_
 exact qu (none,0) (resL (rs:=[.cell 8 159,.tmp 9]) rfl (.cell (i:=2) rfl tf159 rfl rfl (by simp) rfl (.tmp rfl ResOk.nil)) rfl) (fun h=>by subst h;exact (.cons 0 rfl .nil))
 intro _
 refine au [66,48,25,5,24,8,29,3] ?_
 rintro x37 e37 ⟨a38,c39⟩
 refine qr (cells:=[qAs x7,qAs x37.1,.slice a38 x37.2.length c39]) rfl st159 rfl (by kernel_rfl) rfl ?_
 refine au [27,3,49] ?_
 exact qu (a38,c39) (resL (rs:=[.cell 8 159,.tmp 9]) rfl (.cell (i:=2) rfl tf159 rfl rfl (by simp) rfl (.tmp rfl ResOk.nil)) rfl) (fun h=>by subst h;exact (.cons 0 rfl .nil))
set_option maxHeartbeats 4000000 in
theorem qov {F:Nat}{x1:List (qAq)}{a2:qAr}{c3:Nat}{s3:List (qAr×Nat)}{x4:qAq}{a5:qAr}{c6:Nat}{x7:Int}{x8:Int}{x9:Int}{r:(Int×Int×qAq×Bool)}(hm:qfQ F x1 x4 x7 x8 x9=some r) :
    Pure Tryz.prog 102 [.slice a2 x1.length c3,.slice a5 x4.length c6,.agg #[qAs x7,qAs x8,qAs x9]] [SlN eN39 iN39 1 (.slice a2 x1.length c3) x1 s3,Sl (eI .i64) 1 (.slice a5 x4.length c6) x4] (qAr×Nat) (fun g=>.tuple #[.agg #[qAs r.1,qAs r.2.1,.slice g.1 r.2.2.1.length g.2],.bool r.2.2.2]) (fun g=>[Ro (eI .u8) 5 1 (.slice g.1 r.2.2.1.length g.2) r.2.2.1]) (fun _=>[]):=by
 refine qi Tryz.func102 rfl Tryz.ntmps102 rfl hm (fun w=>?_)
 refine au [104] ?_
 intro g10
 refine au [25,0] ?_
 intro g11
 refine au [46] ?_
 refine qd (fun (((x96,x97,x98,x0),(a99,c0)):((Bool×Int×Int×qAq)×(qAr×Nat)))=>([(6,.pointer (some ⟨g11,0,none⟩)),(7,.bool x96)],[⟨g11,159,[qAs x97,qAs x98,.slice a99 x0.length c0]⟩],[Ro (eI .u8) 5 1 (.slice a99 x0.length c0) x0],[],qft F x96 x97 x98 x0)) ?_ ?_
 refine au [47,69,1,21,28,4,16,1,45,14,29,4] ?_
 refine ql (fun (((x2,x3,x5,x6,x10),(a0,c1)):((Bool×Int×Int×Int×qAq)×(qAr×Nat)))=>([(0,.slice a2 x1.length c3),(1,.slice a5 x4.length c6),(5,.pointer (some ⟨g10,0,none⟩)),(6,.pointer (some ⟨g11,0,none⟩)),(7,.bool x2),(16,qAs (iadd .i64 (imin x7 (x1.length:Int)) 1)),(17,qAs x3)],[⟨g11,159,[qAs x5,qAs x6,.slice a0 x10.length c1]⟩,⟨g10,26,[qAs x7,qAs x8,qAs x9]⟩],[Ro (eI .u8) 5 1 (.slice a0 x10.length c1) x10],[SlN eN39 iN39 1 (.slice a2 x1.length c3) x1 s3,Sl (eI .i64) 1 (.slice a5 x4.length c6) x4])) (fun k (s:((Bool×Int×Int×Int×qAq)×(qAr×Nat)))=>ke F x1 x4 x7 x8 x9 k s.1) ((false,0,0,0,([]:qAq)),(none,0)) F ?_
 intro k0
 rintro ⟨⟨x2,x3,x5,x6,x10⟩,⟨a0,c1⟩⟩
 try dsimp only
 refine qp (m':=qc6 F x1 x4 x7 x8 x9 (ke F x1 x4 x7 x8 x9 k0) x2 x3 x5 x6 x10) rfl ?_
 refine av [127] ?_ ?_
 intro _
 refine au [66] ?_
 refine qd (fun (((x11,x12,x13,x14),(a1,c2)):((Bool×Int×Int×qAq)×(qAr×Nat)))=>([(0,.slice a2 x1.length c3),(1,.slice a5 x4.length c6),(5,.pointer (some ⟨g10,0,none⟩)),(6,.pointer (some ⟨g11,0,none⟩)),(7,.bool x11),(16,qAs (iadd .i64 (imin x7 (x1.length:Int)) 1)),(17,qAs x3)],[⟨g11,159,[qAs x12,qAs x13,.slice a1 x14.length c2]⟩,⟨g10,26,[qAs x7,qAs x8,qAs x9]⟩],[Ro (eI .u8) 5 1 (.slice a1 x14.length c2) x14],[SlN eN39 iN39 1 (.slice a2 x1.length c3) x1 s3,Sl (eI .i64) 1 (.slice a5 x4.length c6) x4],yT F (ke F x1 x4 x7 x8 x9 k0) x3 x11 x12 x13 x14)) ?_ ?_
 refine au [14,48,46,60,1,25,5] ?_
 refine qf qow ?_
 rintro x15 e0 ⟨a3,c4⟩
 refine au [111] ?_
 intro g0
 refine au [101,60] ?_
 refine qD 12 (fun ((x16,_):(Bool×Unit))=>([(0,.slice a2 x1.length c3),(1,.slice a5 x4.length c6),(5,.pointer (some ⟨g10,0,none⟩)),(6,.pointer (some ⟨g11,0,none⟩)),(7,.bool x2),(9,.pointer (some ⟨g0,0,none⟩)),(16,qAs (iadd .i64 (imin x7 (x1.length:Int)) 1)),(17,qAs x3),(41,.bool x16)],[⟨g0,159,[qAs x15.1,qAs x15.2.1,.slice a3 x15.2.2.1.length c4]⟩,⟨g11,159,[qAs x5,qAs x6,.slice a0 x10.length c1]⟩,⟨g10,26,[qAs x7,qAs x8,qAs x9]⟩],[Ro (eI .u8) 5 1 (.slice a3 x15.2.2.1.length c4) x15.2.2.1,Ro (eI .u8) 5 1 (.slice a0 x10.length c1) x10],[SlN eN39 iN39 1 (.slice a2 x1.length c3) x1 s3,Sl (eI .i64) 1 (.slice a5 x4.length c6) x4],qc7 F (ke F x1 x4 x7 x8 x9 k0) x2 x3 x5 x6 x10 x15 x16)) ?_ ?_
 refine qb (os:=_) rfl ?_
 refine av [25,7] ?_ ?_
 intro h0
 refine qk (k:=29) rfl h0 ?_
 refine au [1,25,4,1] ?_
 refine qq 8 (!x2) [(0,.slice a2 x1.length c3),(1,.slice a5 x4.length c6),(5,.pointer (some ⟨g10,0,none⟩)),(6,.pointer (some ⟨g11,0,none⟩)),(7,.bool x2),(16,qAs (iadd .i64 (imin x7 (x1.length:Int)) 1)),(17,qAs x3),(9,.pointer (some ⟨g0,0,none⟩)),(29,.bool true),(30,.bool x2),(31,.bool (!x2)),(32,.bool (!x2)),(40,.bool ((!x2) || (decide (x15.2.1<x6))))] (fun h1=>?_) (fun h1=>?_) ?_
 refine qb (os:=_) rfl (qk (k:=32) rfl h1 ?_)
 refine au [61,56,113] ?_
 refine qc (d:=40) (v:=.bool ((!x2) || (decide (x15.2.1<x6)))) rfl (by rw[h1];simp only[qx0]) (qc (d:=32) (v:=.bool (!x2)) rfl (by rw[h1] <;> rfl) ?_)
 exact az [62]
 refine qb (os:=_) rfl (qj (k:=32) rfl h1 ?_)
 refine au [12,57,12,69,23,24,2] ?_
 refine qc (d:=40) (v:=.bool ((!x2) || (decide (x15.2.1<x6)))) rfl (by rw[h1];simp only[qxU]) (qc (d:=32) (v:=.bool (!x2)) rfl (by rw[h1] <;> rfl) ?_)
 exact az [62]
 refine qb (os:=_) rfl ?_
 refine au [74] ?_
 exact qa (((!x2) || (decide (x15.2.1<x6))),())
 intro h0
 refine qj (k:=29) rfl h0 ?_
 refine au [61,61,56,6,76] ?_
 exact qa (false,())
 rintro ⟨x16,_⟩
 try dsimp only
 refine qb (os:=_) rfl ?_
 refine av [51] ?_ ?_
 intro _
 refine au [4,24,8,25,6,95] ?_
 exact qa ((true,x15.1,x15.2.1,x15.2.2.1),(a3,c4))
 intro _
 refine au [9,22] ?_
 exact qa ((x2,x5,x6,x10),(a0,c1))
 rintro ⟨⟨x11,x12,x13,x14⟩,⟨a1,c2⟩⟩
 try dsimp only
 refine au [4,16,1,0] ?_
 exact qg ((x11,iadd .i64 x3 1,x12,x13,x14),(a1,c2))
 intro _
 refine au [63] ?_
 exact qa ((x2,x5,x6,x10),(a0,c1))
 rintro ⟨⟨x96,x97,x98,x0⟩,⟨a99,c0⟩⟩
 try dsimp only
 refine au [80,1,24,10,49] ?_
 exact qu (a99,c0) (resL (rs:=[.cell 6 159,.tmp 7]) rfl (.cell (i:=0) rfl tf159 rfl rfl (by simp) rfl (.tmp rfl ResOk.nil)) rfl) (fun h=>by subst h;exact (.cons 0 rfl .nil))
set_option maxHeartbeats 4000000 in
theorem qh7 {F:Nat}{g1:Nat}{x2:Int}{x3:Int}{x4:Int}{x5:Int}{x6:Int}{x7:qAq}{a8:qAr}{c9:Nat}{x10:qAq}{a11:qAr}{c12:Nat}{x13:qAq}{a14:qAr}{c15:Nat}{x16:List (qAq)}{a17:qAr}{c18:Nat}{s18:List (qAr×Nat)}{r:(Bool×Int×Int×Int×Int×Int×qAq×qAq×qAq)}(hm:qdk F x2 x3 x4 x5 x6 x7 x10 x13 x16=some r) :
    PureM Tryz.prog 79 [.pointer (some ⟨g1,0,none⟩),.agg #[.slice a17 x16.length c18]] [⟨g1,104,[qAs x2,qAs x3,qAs x4,qAs x5,qAs x6,.slice a8 x7.length c9,.slice a11 x10.length c12,.slice a14 x13.length c15]⟩] [Ro (eI .u8) 5 1 (.slice a8 x7.length c9) x7,Ro (eI .i64) 3 1 (.slice a11 x10.length c12) x10,Ro (eI .i64) 3 1 (.slice a14 x13.length c15) x13] [SlN eN39 iN39 1 (.slice a17 x16.length c18) x16 s18] ((qAr×Nat)×(qAr×Nat)×(qAr×Nat)) (fun _=>.bool r.1) (fun g=>[⟨g1,104,[qAs r.2.1,qAs r.2.2.1,qAs r.2.2.2.1,qAs r.2.2.2.2.1,qAs r.2.2.2.2.2.1,.slice g.1.1 r.2.2.2.2.2.2.1.length g.1.2,.slice g.2.1.1 r.2.2.2.2.2.2.2.1.length g.2.1.2,.slice g.2.2.1 r.2.2.2.2.2.2.2.2.length g.2.2.2]⟩]) (fun g=>[Ro (eI .u8) 5 1 (.slice g.1.1 r.2.2.2.2.2.2.1.length g.1.2) r.2.2.2.2.2.2.1,Ro (eI .i64) 3 1 (.slice g.2.1.1 r.2.2.2.2.2.2.2.1.length g.2.1.2) r.2.2.2.2.2.2.2.1,Ro (eI .i64) 3 1 (.slice g.2.2.1 r.2.2.2.2.2.2.2.2.length g.2.2.2) r.2.2.2.2.2.2.2.2]):=by
 refine zS Tryz.func79 rfl Tryz.ntmps79 rfl hm (fun w=>?_)
 refine au [77] ?_
 intro g19
 refine au [46] ?_
 refine qd (fun (((x0,x1,x8,x9),(a0,c0,a1,c1,a2,c2)):((Int×qAq×qAq×qAq)×(qAr×Nat×qAr×Nat×qAr×Nat)))=>([],[⟨g1,104,[qAs x2,qAs x3,qAs x4,qAs x5,qAs x0,.slice a0 x1.length c0,.slice a1 x8.length c1,.slice a2 x9.length c2]⟩],[Ro (eI .u8) 5 1 (.slice a0 x1.length c0) x1,Ro (eI .i64) 3 1 (.slice a1 x8.length c1) x8,Ro (eI .i64) 3 1 (.slice a2 x9.length c2) x9],[],qaF F x2 x3 x4 x5 x0 x1 x8 x9)) ?_ ?_
 refine au [94,21,1,45,14] ?_
 refine ql (fun (((x11,x12,x14,x15,x17),(a3,c3,a4,c4,a5,c5)):((Int×Int×qAq×qAq×qAq)×(qAr×Nat×qAr×Nat×qAr×Nat)))=>([(0,.pointer (some ⟨g1,0,none⟩)),(3,.pointer (some ⟨g19,0,none⟩)),(10,.slice a17 x16.length c18),(11,qAs (x16.length:Int)),(12,qAs x11)],[⟨g19,24,[.slice a17 x16.length c18]⟩,⟨g1,104,[qAs x2,qAs x3,qAs x4,qAs x5,qAs x12,.slice a3 x14.length c3,.slice a4 x15.length c4,.slice a5 x17.length c5]⟩],[Ro (eI .u8) 5 1 (.slice a3 x14.length c3) x14,Ro (eI .i64) 3 1 (.slice a4 x15.length c4) x15,Ro (eI .i64) 3 1 (.slice a5 x17.length c5) x17],[SlN eN39 iN39 1 (.slice a17 x16.length c18) x16 s18])) (fun k (s:((Int×Int×qAq×qAq×qAq)×(qAr×Nat×qAr×Nat×qAr×Nat)))=>qN F x2 x3 x4 x5 x16 k s.1) ((0,x6,x7,x10,x13),(a8,c9,a11,c12,a14,c15)) F ?_
 intro k0
 rintro ⟨⟨x11,x12,x14,x15,x17⟩,⟨a3,c3,a4,c4,a5,c5⟩⟩
 try dsimp only
 refine qp (m':=va F x2 x3 x4 x5 x16 (qN F x2 x3 x4 x5 x16 k0) x11 x12 x14 x15 x17) rfl ?_
 refine av [127] ?_ ?_
 intro _
 refine au [90,48,27,0] ?_
 intro x18 e0 g0 b0 o0
 refine au [25,3,67] ?_
 refine qd (fun (((x19,x20,x21,x22),(g2,a6,c6)):((Bool×Int×Int×qAq)×(Nat×qAr×Nat)))=>([(0,.pointer (some ⟨g1,0,none⟩)),(3,.pointer (some ⟨g19,0,none⟩)),(7,.pointer (some ⟨g2,0,none⟩)),(8,.bool x19),(10,.slice a17 x16.length c18),(11,qAs (x16.length:Int)),(12,qAs x11)],[⟨g19,24,[.slice a17 x16.length c18]⟩,⟨g1,104,[qAs x2,qAs x3,qAs x4,qAs x5,qAs x12,.slice a3 x14.length c3,.slice a4 x15.length c4,.slice a5 x17.length c5]⟩,⟨g2,159,[qAs x20,qAs x21,.slice a6 x22.length c6]⟩],[Ro (eI .u8) 5 1 (.slice a3 x14.length c3) x14,Ro (eI .i64) 3 1 (.slice a4 x15.length c4) x15,Ro (eI .i64) 3 1 (.slice a5 x17.length c5) x17,Ro (eI .u8) 5 1 (.slice a6 x22.length c6) x22],[SlN eN39 iN39 1 (.slice a17 x16.length c18) x16 s18],vb F (qN F x2 x3 x4 x5 x16 k0) x2 x3 x4 x5 x11 x12 x14 x15 x17 x19 x20 x21 x22)) ?_ ?_
 refine qsP 2 vf rfl ?_
 intro x23 e1 a7 c7 g3 h0 h1
 refine qB mixed [] [⟨g19,24,[.slice a17 x16.length c18]⟩,⟨g1,104,[qAs x2,qAs x3,qAs x4,qAs x5,qAs x12,.slice a3 x14.length c3,.slice a4 x15.length c4,.slice a5 x17.length c5]⟩] [SlN eN39 iN39 1 (.slice a7 x23.length c7) x23 g3,qv b0 o0 (eN39 (x18,g0)),Sl (eI .i64) 1 (.slice g0.1 x18.length g0.2) x18,SlN eN39 iN39 1 (.slice a17 x16.length c18) x16 s18] (.cons 0 rfl (.cons 0 rfl .nil)) (qF 0 rfl (qF 1 rfl (qF 2 rfl (qF 3 rfl qA)))) 17 rfl ?_
 refine au [134,7,2] ?_
 refine qo 3 (.slice a7 x23.length c7) rfl rfl rfl (qqR Tryz.underlying22 tf39 rfl rfl rfl e1 h1 h0) ?_
 refine au [7,4,130,24,4,7,24,4,8] ?_
 refine kZ 9 (.agg #[qAs x3,qAs x4,qAs x5]) rfl rfl rfl (zN (i:=1) rfl tf26 rfl rfl (by simp) rfl) (qgS 10 14 rfl rfl (by kernel_rfl) rfl rfl ?_ ?_)
 refine au [33,5] ?_
 rintro x24 e2 ⟨a9,c8⟩
 refine au [0,30,9,7,11,112,24,9,14,25,0] ?_
 intro g4
 refine au [0,28,14,24,9,15,125,28,14,7,16,24,14] ?_
 exact qM (qa ((x24.2.2.2,x24.1,x24.2.1,x24.2.2.1),(g4,a9,c8))) (by intro c h;cases h)
 refine qgV (m':=((qfQ F x23 x18 x3 x4 x5).bind fun x25=>vb F (qN F x2 x3 x4 x5 x16 k0) x2 x3 x4 x5 x11 x12 x14 x15 x17 x25.2.2.2 x25.1 x25.2.1 x25.2.2.1)) (rfl) ?_
 refine au [25,0] ?_
 intro g5
 refine au [0,28,14,24,9,10,33,5] ?_
 rintro x25 e3 ⟨a10,c10⟩
 refine au [0,28,14,7,11,112,24,9,15,125,28,14,7,16,24,14] ?_
 exact qM (qa ((x25.2.2.2,x25.1,x25.2.1,x25.2.2.1),(g5,a10,c10))) (by intro c h;cases h)
 rintro ⟨⟨x19,x20,x21,x22⟩,⟨g2,a6,c6⟩⟩
 try dsimp only
 refine au [3] ?_
 refine qd (fun ((x26,_):(Bool×Unit))=>([(0,.pointer (some ⟨g1,0,none⟩)),(3,.pointer (some ⟨g19,0,none⟩)),(7,.pointer (some ⟨g2,0,none⟩)),(10,.slice a17 x16.length c18),(11,qAs (x16.length:Int)),(12,qAs x11),(45,.bool x26)],[⟨g19,24,[.slice a17 x16.length c18]⟩,⟨g1,104,[qAs x2,qAs x3,qAs x4,qAs x5,qAs x12,.slice a3 x14.length c3,.slice a4 x15.length c4,.slice a5 x17.length c5]⟩,⟨g2,159,[qAs x20,qAs x21,.slice a6 x22.length c6]⟩],[Ro (eI .u8) 5 1 (.slice a3 x14.length c3) x14,Ro (eI .i64) 3 1 (.slice a4 x15.length c4) x15,Ro (eI .i64) 3 1 (.slice a5 x17.length c5) x17,Ro (eI .u8) 5 1 (.slice a6 x22.length c6) x22],[SlN eN39 iN39 1 (.slice a17 x16.length c18) x16 s18],kK F (qN F x2 x3 x4 x5 x16 k0) x2 x3 x4 x5 x11 x12 x14 x15 x17 x20 x21 x22 x26)) ?_ ?_
 refine av [27,2] ?_ ?_
 intro h2
 refine qB mixed [] [⟨g19,24,[.slice a17 x16.length c18]⟩,⟨g1,104,[qAs x2,qAs x3,qAs x4,qAs x5,qAs x12,.slice a3 x14.length c3,.slice a4 x15.length c4,.slice a5 x17.length c5]⟩,⟨g2,159,[qAs x20,qAs x21,.slice a6 x22.length c6]⟩] [SlN eN39 iN39 1 (.slice a17 x16.length c18) x16 s18] (.cons 0 rfl (.cons 0 rfl (.cons 0 rfl .nil))) (qF 0 rfl qA) 15 rfl ?_
 refine au [105] ?_
 refine qh (d:=33) (v:=.bool true) rfl (by rw[h2] <;> rfl) ?_
 refine au [15,3,15,4,15,5,15,6,15,7,15,8,118,110,15,13,7,14,24,14] ?_
 exact qM (qa (true,())) (by intro c h;cases h)
 intro h2
 refine qB mixed [] [⟨g19,24,[.slice a17 x16.length c18]⟩,⟨g1,104,[qAs x2,qAs x3,qAs x4,qAs x5,qAs x12,.slice a3 x14.length c3,.slice a4 x15.length c4,.slice a5 x17.length c5]⟩,⟨g2,159,[qAs x20,qAs x21,.slice a6 x22.length c6]⟩] [SlN eN39 iN39 1 (.slice a17 x16.length c18) x16 s18] (.cons 0 rfl (.cons 0 rfl (.cons 0 rfl .nil))) (qF 0 rfl qA) 15 rfl ?_
 refine au [105] ?_
 refine qh (d:=33) (v:=.bool false) rfl (by rw[h2] <;> rfl) ?_
 refine au [7,3,7,4,24,4,5,24,4,6,24,4,7,28,5,8,24,4,9,24,4,10,30,1,11,112,7,14,24,14] ?_
 exact qM (qa ((decide (8192<(iadd .i64 x12 x21))),())) (by intro c h;cases h)
 rintro ⟨x26,_⟩
 try dsimp only
 refine av [8] ?_ ?_
 intro _
 refine au [47,55,92] ?_
 exact zP ((a3,c3),(a4,c4),(a5,c5))
 intro _
 refine au [66] ?_
 refine qd (fun (((x27,x28),(a12,c11,a13,c13)):((qAq×qAq)×(qAr×Nat×qAr×Nat)))=>([(0,.pointer (some ⟨g1,0,none⟩)),(3,.pointer (some ⟨g19,0,none⟩)),(7,.pointer (some ⟨g2,0,none⟩)),(10,.slice a17 x16.length c18),(11,qAs (x16.length:Int)),(12,qAs x11)],[⟨g19,24,[.slice a17 x16.length c18]⟩,⟨g1,104,[qAs x2,qAs x3,qAs x4,qAs x5,qAs x12,.slice a3 x14.length c3,.slice a12 x27.length c11,.slice a13 x28.length c13]⟩,⟨g2,159,[qAs x20,qAs x21,.slice a6 x22.length c6]⟩],[Ro (eI .u8) 5 1 (.slice a3 x14.length c3) x14,Ro (eI .i64) 3 1 (.slice a12 x27.length c11) x27,Ro (eI .i64) 3 1 (.slice a13 x28.length c13) x28,Ro (eI .u8) 5 1 (.slice a6 x22.length c6) x22],[SlN eN39 iN39 1 (.slice a17 x16.length c18) x16 s18],kL F (qN F x2 x3 x4 x5 x16 k0) x11 x12 x14 x21 x22 x27 x28)) ?_ ?_
 refine qB mixed [24,27] [⟨g19,24,[.slice a17 x16.length c18]⟩,⟨g2,159,[qAs x20,qAs x21,.slice a6 x22.length c6]⟩] [SlN eN39 iN39 1 (.slice a17 x16.length c18) x16 s18,(BlkD.is ⟨g1,104,[qAs x2,qAs x3,qAs x4,qAs x5,qAs x12,.slice a3 x14.length c3,.slice a4 x15.length c4,.slice a5 x17.length c5]⟩)] (.cons 0 rfl (.cons 1 rfl .nil)) (qF 0 rfl (qjS 1 rfl qA)) 28 rfl ?_
 refine au [105,7,3,24,4,4] ?_
 refine qJ 5 (.slice a4 x15.length c4) [[24],[27]] rfl rfl rfl (jC (j:=1) rfl tf39 rfl rfl (fun _=>rfl) rfl) ?_
 refine au [24,4,6,28,5,7,7,10,7,11,24,4,12] ?_
 refine qJ 13 (.slice a5 x17.length c5) [[24],[27]] rfl rfl rfl (jC (j:=1) rfl tf39 rfl rfl (fun _=>rfl) rfl) ?_
 refine au [7,14,7,15,24,4,16,24,4,17,24,4,18] ?_
 refine qJ 19 (qAs x12) [[24],[27]] rfl rfl rfl (jC (j:=1) rfl tf3 rfl rfl (fun _=>rfl) rfl) (qgS 8 20 rfl rfl (by kernel_rfl) rfl rfl ?_ ?_)
 refine qx (vs:=[qAs x20]) (ys:=([x20]:qAq)) (qs .i64) (by decide) rfl Tryz.underlying39 tf3 rfl rfl rfl rfl rfl (by decide) (fun a15 c14=>?_)
 refine au [0,26,11] ?_
 refine qgS 9 20 rfl rfl (by kernel_rfl) rfl rfl ?_ ?_
 refine qE 2 (qs .i64) rfl Tryz.underlying39 tf3 rfl rfl rfl rfl rfl (.inl ⟨0,_,rfl⟩) rfl rfl (fun x29 e4 a16 c16=>?_)
 refine au [0,26,11,24,9,20] ?_
 refine qx (vs:=[qAs x12]) (ys:=([x12]:qAq)) (qs .i64) (by decide) rfl Tryz.underlying39 tf3 rfl rfl rfl rfl rfl (by decide) (fun a18 c17=>?_)
 refine au [0,26,11,24,9,21] ?_
 refine qE 4 (qs .i64) rfl Tryz.underlying39 tf3 rfl rfl rfl rfl rfl (.inl ⟨0,_,rfl⟩) rfl rfl (fun x30 e5 a19 c19=>?_)
 refine au [0,26,11,7,22,24,4,23,24,9,24,25,6,0,28,6,7,25,24,4,26,24,9,27,25,6,0,28,6,24,14] ?_
 exact qM (qa ((x29,x30),(a16,c16,a19,c19))) (by intro c h;cases h)
 refine qgV (m':=((app 8796093022208 x15 ([x20]:qAq)).bind fun x31=>((app 8796093022208 x17 ([x12]:qAq)).bind fun x32=>kL F (qN F x2 x3 x4 x5 x16 k0) x11 x12 x14 x21 x22 x31 x32))) (rfl) (qx (vs:=[qAs x12]) (ys:=([x12]:qAq)) (qs .i64) (by decide) rfl Tryz.underlying39 tf3 rfl rfl rfl rfl rfl (by decide) (fun a20 c20=>?_))
 refine au [0,26,11,24,9,9] ?_
 refine qE 3 (qs .i64) rfl Tryz.underlying39 tf3 rfl rfl rfl rfl rfl (.inl ⟨1,_,rfl⟩) rfl rfl (fun x31 e6 a21 c21=>?_)
 refine au [0,26,11,24,9,21] ?_
 refine qE 4 (qs .i64) rfl Tryz.underlying39 tf3 rfl rfl rfl rfl rfl (.inl ⟨1,_,rfl⟩) rfl rfl (fun x32 e7 a22 c22=>?_)
 refine au [0,26,11,7,22,24,4,23,24,9,24,25,6,0,28,6,7,25,24,4,26,24,9,27,25,6,0,28,6,24,14] ?_
 exact qM (qa ((x31,x32),(a21,c21,a22,c22))) (by intro c h;cases h)
 refine qgV (m':=((app 8796093022208 x15 ([x20]:qAq)).bind fun x33=>((app 8796093022208 x17 ([x12]:qAq)).bind fun x34=>kL F (qN F x2 x3 x4 x5 x16 k0) x11 x12 x14 x21 x22 x33 x34))) (rfl) (qx (vs:=[qAs x12]) (ys:=([x12]:qAq)) (qs .i64) (by decide) rfl Tryz.underlying39 tf3 rfl rfl rfl rfl rfl (by decide) (fun a23 c23=>?_))
 refine au [0,26,11,24,9,8] ?_
 refine qx (vs:=[qAs x20]) (ys:=([x20]:qAq)) (qs .i64) (by decide) rfl Tryz.underlying39 tf3 rfl rfl rfl rfl rfl (by decide) (fun a24 c24=>?_)
 refine au [0,26,11,24,9,9] ?_
 refine qE 3 (qs .i64) rfl Tryz.underlying39 tf3 rfl rfl rfl rfl rfl (.inl ⟨0,_,rfl⟩) rfl rfl (fun x33 e8 a25 c25=>?_)
 refine au [0,26,11,24,9,21] ?_
 refine qE 4 (qs .i64) rfl Tryz.underlying39 tf3 rfl rfl rfl rfl rfl (.inl ⟨2,_,rfl⟩) rfl rfl (fun x34 e9 a26 c26=>?_)
 refine au [0,26,11,7,22,24,4,23,24,9,24,25,6,0,28,6,7,25,24,4,26,24,9,27,25,6,0,28,6,24,14] ?_
 exact qM (qa ((x33,x34),(a25,c25,a26,c26))) (by intro c h;cases h)
 rintro ⟨⟨x27,x28⟩,⟨a12,c11,a13,c13⟩⟩
 try dsimp only
 refine qB mixed [12] [⟨g19,24,[.slice a17 x16.length c18]⟩,⟨g2,159,[qAs x20,qAs x21,.slice a6 x22.length c6]⟩] [SlN eN39 iN39 1 (.slice a17 x16.length c18) x16 s18,(BlkD.is ⟨g1,104,[qAs x2,qAs x3,qAs x4,qAs x5,qAs x12,.slice a3 x14.length c3,.slice a12 x27.length c11,.slice a13 x28.length c13]⟩)] (.cons 0 rfl (.cons 1 rfl .nil)) (qF 0 rfl (qjS 1 rfl qA)) 13 rfl ?_
 refine au [105,24,4,3,24,4,4] ?_
 refine qJ 5 (.agg #[qAs x12,.slice a3 x14.length c3]) [[12]] rfl rfl rfl (jC (j:=1) rfl tf29 rfl rfl (by simp) rfl) ?_
 refine au [24,4,6] ?_
 refine kZ 7 (.agg #[qAs x21,.slice a6 x22.length c6]) rfl rfl rfl (zN (i:=1) rfl tf29 rfl rfl (by simp) rfl) ?_
 refine au [24,9,8,29,3] ?_
 rintro x35 e10 ⟨a27,c27⟩
 refine au [0,26,11,7,9,24,4,10,24,4,11,24,9,12,25,6,0] ?_
 refine qeO 12 rfl (by kernel_rfl) (.cons 0 rfl (.cons 1 rfl .nil)) ?_
 refine au [24,14] ?_
 refine qM ?_ (by intro c h;cases h)
 refine au [22,2,4,16,1,0] ?_
 exact qg ((iadd .i64 x11 1,x35.1,x35.2,x27,x28),(a27,c27,a12,c11,a13,c13))
 intro _
 refine au [63] ?_
 exact qa ((x12,x14,x15,x17),(a3,c3,a4,c4,a5,c5))
 rintro ⟨⟨x0,x1,x8,x9⟩,⟨a0,c0,a1,c1,a2,c2⟩⟩
 try dsimp only
 refine au [47,49] ?_
 exact zP ((a0,c0),(a1,c1),(a2,c2))
set_option maxHeartbeats 4000000 in
theorem qlE {F:Nat}{x1:List (qAq)}{a2:qAr}{c3:Nat}{s3:List (qAr×Nat)}{x4:Int}{x5:Int}{x6:Int}{r:(Int×Int×Int×Int×Int×qAq×qAq×qAq×Int)}(hm:qcI F x1 x4 x5 x6=some r) :
    PureM Tryz.prog 52 [.agg #[.slice a2 x1.length c3],.agg #[qAs x4,qAs x5,qAs x6]] [] [] [SlN eN39 iN39 1 (.slice a2 x1.length c3) x1 s3] ((qAr×Nat)×(qAr×Nat)×(qAr×Nat)×Nat) (fun g=>.tuple #[.pointer (some ⟨g.2.2.2,0,none⟩),qAs r.2.2.2.2.2.2.2.2]) (fun g=>[⟨g.2.2.2,104,[qAs r.1,qAs r.2.1,qAs r.2.2.1,qAs r.2.2.2.1,qAs r.2.2.2.2.1,.slice g.1.1 r.2.2.2.2.2.1.length g.1.2,.slice g.2.1.1 r.2.2.2.2.2.2.1.length g.2.1.2,.slice g.2.2.1.1 r.2.2.2.2.2.2.2.1.length g.2.2.1.2]⟩]) (fun g=>[Ro (eI .u8) 5 1 (.slice g.1.1 r.2.2.2.2.2.1.length g.1.2) r.2.2.2.2.2.1,Ro (eI .i64) 3 1 (.slice g.2.1.1 r.2.2.2.2.2.2.1.length g.2.1.2) r.2.2.2.2.2.2.1,Ro (eI .i64) 3 1 (.slice g.2.2.1.1 r.2.2.2.2.2.2.2.1.length g.2.2.1.2) r.2.2.2.2.2.2.2.1]):=by
 refine zS Tryz.func52 rfl Tryz.ntmps52 rfl hm (fun w=>?_)
 refine au [77] ?_
 intro g7
 refine au [24,3] ?_
 intro g8
 refine au [67,107] ?_
 refine qf qlD ?_
 intro x9 e9 _
 refine au [46] ?_
 refine qd (fun ((x12,_):(Int×Unit))=>([(2,.pointer (some ⟨g7,0,none⟩)),(3,.pointer (some ⟨g8,0,none⟩)),(6,qAs x12)],[⟨g8,26,[qAs x4,qAs x5,qAs x6]⟩,⟨g7,24,[.slice a2 x1.length c3]⟩],[],[SlN eN39 iN39 1 (.slice a2 x1.length c3) x1 s3],j8 F x1 x4 x5 x6 x12)) ?_ ?_
 refine av [48,68] ?_ ?_
 intro _
 refine au [4,24,8,30,7] ?_
 intro x97 e97 _
 refine au [5,0] ?_
 exact qa (x97,())
 intro _
 refine au [9] ?_
 exact qa (x9,())
 rintro ⟨x12,_⟩
 try dsimp only
 refine au [47,69,21,24,8] ?_
 refine qr (cells:=[qAs (x1.length:Int),qAs x4,qAs x5,qAs x6,qAs 0,.slice none 0 0]) rfl st31 rfl (by kernel_rfl) rfl (qr (cells:=[qAs (x1.length:Int),qAs x4,qAs x5,qAs x6,qAs 0,.slice none 0 0,.slice none 0 0,.slice none 0 0]) rfl st104 rfl (by kernel_rfl) rfl ?_)
 refine au [24,3] ?_
 intro g13
 refine au [46] ?_
 refine qd (fun (((x48,x49,x50,x51,x52,x53,x56,x59,x62),(a54,c55,a57,c58,a60,c61)):((Int×Int×Int×Int×Int×Int×qAq×qAq×qAq)×(qAr×Nat×qAr×Nat×qAr×Nat)))=>([(6,qAs x48),(7,.pointer (some ⟨g13,0,none⟩))],[⟨g13,104,[qAs x49,qAs x50,qAs x51,qAs x52,qAs x53,.slice a54 x56.length c55,.slice a57 x59.length c58,.slice a60 x62.length c61]⟩],[Ro (eI .u8) 5 1 (.slice a54 x56.length c55) x56,Ro (eI .i64) 3 1 (.slice a57 x59.length c58) x59,Ro (eI .i64) 3 1 (.slice a60 x62.length c61) x62],[],vt F x48 x49 x50 x51 x52 x53 x56 x59 x62)) ?_ ?_
 refine au [48,106] ?_
 refine qD 5 (fun (((x74,x75,x76,x77,x78,x79,x82,x85,x88),(a80,c81,a83,c84,a86,c87)):((Bool×Int×Int×Int×Int×Int×qAq×qAq×qAq)×(qAr×Nat×qAr×Nat×qAr×Nat)))=>([(6,qAs x12),(7,.pointer (some ⟨g13,0,none⟩)),(28,.bool x74)],[⟨g13,104,[qAs x75,qAs x76,qAs x77,qAs x78,qAs x79,.slice a80 x82.length c81,.slice a83 x85.length c84,.slice a86 x88.length c87]⟩],[Ro (eI .u8) 5 1 (.slice a80 x82.length c81) x82,Ro (eI .i64) 3 1 (.slice a83 x85.length c84) x85,Ro (eI .i64) 3 1 (.slice a86 x88.length c87) x88],[],vu F x12 x74 x75 x76 x77 x78 x79 x82 x85 x88)) ?_ ?_
 refine qb (os:=_) rfl ?_
 refine av [25,7] ?_ ?_
 intro h63
 refine qk (k:=23) rfl h63 ?_
 refine au [1,26,1,27,7,27,14,27,14] ?_
 refine zg qh7 ?_
 rintro x90 e90 ⟨⟨a91,c92⟩,⟨a93,c94⟩,⟨a95,c96⟩⟩
 refine au [25,4,74] ?_
 exact qa (((!x90.1),x90.2.1,x90.2.2.1,x90.2.2.2.1,x90.2.2.2.2.1,x90.2.2.2.2.2.1,x90.2.2.2.2.2.2.1,x90.2.2.2.2.2.2.2.1,x90.2.2.2.2.2.2.2.2),(a91,c92,a93,c94,a95,c96))
 intro h63
 refine qj (k:=23) rfl h63 ?_
 refine au [61,76,25,11,25,1,25,1] ?_
 exact qa ((false,(x1.length:Int),x4,x5,x6,(0:Int),([]:qAq),([]:qAq),([]:qAq)),(none,0,none,0,none,0))
 rintro ⟨⟨x74,x75,x76,x77,x78,x79,x82,x85,x88⟩,⟨a80,c81,a83,c84,a86,c87⟩⟩
 try dsimp only
 refine qb (os:=_) rfl ?_
 refine av [51] ?_ ?_
 intro _
 refine au [4,5,0] ?_
 exact qa (((8:Int),x75,x76,x77,x78,x79,x82,x85,x88),(a80,c81,a83,c84,a86,c87))
 intro _
 refine au [9] ?_
 exact qa ((x12,x75,x76,x77,x78,x79,x82,x85,x88),(a80,c81,a83,c84,a86,c87))
 rintro ⟨⟨x48,x49,x50,x51,x52,x53,x56,x59,x62⟩,⟨a54,c55,a57,c58,a60,c61⟩⟩
 try dsimp only
 refine au [60,5,49] ?_
 exact zP ((a54,c55),(a57,c58),(a60,c61),g13)
theorem qm7 {F:Nat}{x1:List (qAq)}{a2:qAr}{c3:Nat}{s3:List (qAr×Nat)}{x4:Int}{x5:Int}{x6:Int}{r:(Int×Int×Int×Int×Int×qAq×Int)}(hm:qdQ F x1 x4 x5 x6=some r) :
    Pure Tryz.prog 23 [.agg #[.slice a2 x1.length c3],.agg #[qAs x4,qAs x5,qAs x6]] [SlN eN39 iN39 1 (.slice a2 x1.length c3) x1 s3] (qAr×Nat) (fun g=>.tuple #[.agg #[qAs r.1,qAs r.2.1,qAs r.2.2.1,qAs r.2.2.2.1,qAs r.2.2.2.2.1,.slice g.1 r.2.2.2.2.2.1.length g.2],qAs r.2.2.2.2.2.2]) (fun g=>[Ro (eI .u8) 5 1 (.slice g.1 r.2.2.2.2.2.1.length g.2) r.2.2.2.2.2.1]) (fun _=>[]):=by
 refine qi Tryz.func23 rfl Tryz.ntmps23 rfl hm (fun w=>?_)
 refine au [77] ?_
 intro g7
 refine au [24,3] ?_
 intro g8
 refine au [25,0] ?_
 intro g9
 refine au [46,47,26,1,25,5,33,6] ?_
 rintro x10 e10 ⟨⟨a11,c12⟩,⟨a13,c14⟩,⟨a15,c16⟩,g17⟩
 refine av [79,114,71] ?_ ?_
 intro _
 refine au [47] ?_
 refine qr (cells:=[qAs 0,qAs 0,qAs 0,qAs 0,qAs 0,.slice none 0 0]) rfl st31 rfl (by kernel_rfl) rfl ?_
 refine au [1,132,25,11] ?_
 exact qu (none,0) (resL (rs:=[.cell 4 31,.tmp 5]) rfl (.cell (i:=1) rfl tf31 rfl rfl (by simp) rfl (.tmp rfl ResOk.nil)) rfl) (fun h=>by subst h;exact (.cons 0 rfl .nil))
 intro _
 refine au [66,48,88,24,8,25,6,49] ?_
 exact qu (a11,c12) (resL (rs:=[.cell 4 31,.tmp 5]) rfl (.cell (i:=1) rfl tf31 rfl rfl (by simp) rfl (.tmp rfl ResOk.nil)) rfl) (fun h=>by subst h;exact (.cons 0 rfl .nil))
theorem qou {F:Nat}{x1:List (qAq)}{a2:qAr}{c3:Nat}{s3:List (qAr×Nat)}{x4:Int}{x5:Int}{x6:Int}{r:(qAq×qAq×Int)}(hm:qeJ F x1 x4 x5 x6=some r) :
    Pure Tryz.prog 35 [.agg #[.slice a2 x1.length c3],.agg #[qAs x4,qAs x5,qAs x6]] [SlN eN39 iN39 1 (.slice a2 x1.length c3) x1 s3] ((qAr×Nat)×(qAr×Nat)) (fun g=>.tuple #[.slice g.1.1 r.1.length g.1.2,.slice g.2.1 r.2.1.length g.2.2,qAs r.2.2]) (fun g=>[Ro (eI .i64) 3 1 (.slice g.1.1 r.1.length g.1.2) r.1,Ro (eI .i64) 3 1 (.slice g.2.1 r.2.1.length g.2.2) r.2.1]) (fun _=>[]):=by
 refine qi Tryz.func35 rfl Tryz.ntmps35 rfl hm (fun w=>?_)
 refine au [77] ?_
 intro g7
 refine au [24,3] ?_
 intro g8
 refine au [5,67,107,24,8,33,6] ?_
 rintro x9 e9 ⟨⟨a10,c11⟩,⟨a12,c13⟩,⟨a14,c15⟩,g16⟩
 refine av [79,114,71] ?_ ?_
 intro _
 refine au [48,5,5,96,25,1] ?_
 exact qm ((none,0),(none,0))
 intro _
 refine au [89] ?_
 refine qB mixed [] [⟨g16,104,[qAs x9.1,qAs x9.2.1,qAs x9.2.2.1,qAs x9.2.2.2.1,qAs x9.2.2.2.2.1,.slice a10 x9.2.2.2.2.2.1.length c11,.slice a12 x9.2.2.2.2.2.2.1.length c13,.slice a14 x9.2.2.2.2.2.2.2.1.length c15]⟩,⟨g8,26,[qAs x4,qAs x5,qAs x6]⟩,⟨g7,24,[.slice a2 x1.length c3]⟩] [SlN eN39 iN39 1 (.slice a2 x1.length c3) x1 s3] (.cons 0 rfl (.cons 0 rfl (.cons 0 rfl .nil))) (qF 0 rfl qA) 11 rfl ?_
 refine au [72,24,4,2,25,12,3,7,4,7,5,24,4,6,25,12,7,7,8,7,9,7,10,24,14] ?_
 refine qM ?_ (by intro c h;cases h)
 refine au [2,10] ?_
 exact qm ((a12,c13),(a14,c15))
set_option maxHeartbeats 4000000 in
theorem qm3 {F:Nat}{x1:qAq}{a2:qAr}{c3:Nat}{x4:Int}{r:Int}(hm:qdI F x1 x4=some r) :
    Pure Tryz.prog 80 [.slice a2 x1.length c3,qAs x4] [Sl (eI .i64) 1 (.slice a2 x1.length c3) x1] Unit (fun _=>qAs r) (fun _=>[]) (fun _=>[]):=by
 refine qi Tryz.func80 rfl Tryz.ntmps80 rfl hm (fun w=>?_)
 refine au [87,3,14,48,23,1] ?_
 refine qq 3 (decide (x4<0)) [(0,.slice a2 x1.length c3),(1,qAs x4),(14,.bool ((decide (x4<0)) || (decide (1048576<x4))))] (fun h8=>?_) (fun h8=>?_) ?_
 refine qb (os:=_) rfl (qk (k:=11) rfl h8 ?_)
 refine au [117] ?_
 refine qc (d:=14) (v:=.bool ((decide (x4<0)) || (decide (1048576<x4)))) rfl (by rw[h8];simp only[qx0]) ?_
 exact az [62]
 refine qb (os:=_) rfl (qj (k:=11) rfl h8 ?_)
 refine au [1,70] ?_
 refine qc (d:=14) (v:=.bool ((decide (x4<0)) || (decide (1048576<x4)))) rfl (by rw[h8];simp only[qxU]) ?_
 exact az [62]
 refine qb (os:=_) rfl ?_
 refine av [46,8] ?_ ?_
 intro _
 exact az [47,49,50,18]
 intro _
 refine av [121,24,7,46,8] ?_ ?_
 intro _
 exact az [47,49,50,18]
 intro _
 refine au [9,22,2,53] ?_
 refine qd (fun ((_,_):(Unit×Unit))=>([],[],[],[],qg1 F)) ?_ ?_
 refine au [121,1,45,14] ?_
 refine ql (fun (((x92,x93),_):((Int×Int)×Unit))=>([(1,qAs x4),(5,qAs x92),(19,.slice a2 x1.length c3),(20,qAs (x1.length:Int)),(21,qAs x93)],[],[],[Sl (eI .i64) 1 (.slice a2 x1.length c3) x1])) (fun k (s:((Int×Int)×Unit))=>vW F x1 x4 k s.1) ((0,0),()) F ?_
 intro k0
 rintro ⟨⟨x92,x93⟩,_⟩
 try dsimp only
 refine qp (m':=qc4 F x1 x4 (vW F x1 x4 k0) x92 x93) rfl ?_
 refine av [127] ?_ ?_
 intro _
 refine au [90,47,25,14] ?_
 intro x0 e0 b0 o0
 refine au [25,3,46,3,14,48,23,1] ?_
 refine qq 4 (decide (x0<0)) [(1,qAs x4),(5,qAs x92),(19,.slice a2 x1.length c3),(20,qAs (x1.length:Int)),(21,qAs x93),(7,qAs x0),(32,.bool ((decide (x0<0)) || (decide (x4<x0))))] (fun h0=>?_) (fun h0=>?_) ?_
 refine qb (os:=_) rfl (qk (k:=28) rfl h0 ?_)
 refine au [56,113] ?_
 refine qc (d:=32) (v:=.bool ((decide (x0<0)) || (decide (x4<x0)))) rfl (by rw[h0];simp only[qx0]) ?_
 exact az [62]
 refine qb (os:=_) rfl (qj (k:=28) rfl h0 ?_)
 refine au [91,70] ?_
 refine qc (d:=32) (v:=.bool ((decide (x0<0)) || (decide (x4<x0)))) rfl (by rw[h0];simp only[qxU]) ?_
 exact az [62]
 refine qb (os:=_) rfl ?_
 refine av [46,8] ?_ ?_
 intro _
 exact az [47,49,50,92,18]
 intro _
 refine av [60,23,46,8] ?_ ?_
 intro _
 exact az [47,49,50,92,18]
 intro _
 refine au [9,22,2,4,1,95,2,4,16,1,0] ?_
 exact qg ((x0,iadd .i64 x93 1),())
 intro _
 exact az [119]
 rintro ⟨_,_⟩
 try dsimp only
 exact az [47,73]
set_option maxHeartbeats 4000000 in
theorem qm4 {F:Nat}{x1:Int}{x2:Int}{r:Int}(hm:qdK F x1 x2=some r) :
    Pure Tryz.prog 104 [qAs x1,qAs x2] [] Unit (fun _=>qAs r) (fun _=>[]) (fun _=>[]):=by
 refine qi Tryz.func104 rfl Tryz.ntmps104 rfl hm (fun w=>?_)
 refine au [87] ?_
 refine qd (fun ((x35,_):(Int×Unit))=>([(4,qAs x35)],[],[],[],qg2 F x35)) ?_ ?_
 refine au [14] ?_
 refine qcz (fun ((x46,_):(Int×Unit))=>[(0,qAs x1),(1,qAs x2),(4,qAs x46)]) (fun ((x46,_):(Int×Unit))=>[]) (fun ((x46,_):(Int×Unit))=>[]) (fun ((x46,_):(Int×Unit))=>[]) (fun k (s:(Int×Unit))=>yn F x1 x2 k s.1) (0,()) F ?_
 intro k57
 rintro ⟨x46,_⟩
 try dsimp only
 refine qp (m':=qcw F x1 x2 (yn F x1 x2 k57) x46) rfl ?_
 refine au [64,24,7,1] ?_
 refine qD 8 (fun ((x65,_):(Bool×Unit))=>([(0,qAs x1),(1,qAs x2),(4,qAs x46),(15,.bool x65)],[],[],[],j6 F (yn F x1 x2 k57) x46 x65)) ?_ ?_
 refine qb (os:=_) rfl ?_
 refine av [25,7] ?_ ?_
 intro h63
 refine qk (k:=7) rfl h63 ?_
 refine au [1,78,26,0] ?_
 intro h67
 refine qbU rfl rfl rfl rfl h67 ?_
 refine au [78,26,7,74] ?_
 exact qa ((decide ((ishl .i64 x1 (iadd .i64 x46 1))≤(iadd .i64 x2 1))),())
 intro h63
 refine qj (k:=7) rfl h63 ?_
 refine au [61,56,6,76] ?_
 exact qa (false,())
 rintro ⟨x65,_⟩
 try dsimp only
 refine qb (os:=_) rfl ?_
 refine av [51] ?_ ?_
 intro _
 refine au [66,14,4,78,95] ?_
 exact qg (iadd .i64 x46 1,())
 intro _
 refine au [63] ?_
 exact qa (x46,())
 rintro ⟨x35,_⟩
 try dsimp only
 exact az [48,73]
theorem qh4 {F:Nat}{g1:Nat}{x2:Int}{x3:qAq}{a4:qAr}{c5:Nat}{x6:Int}{x7:Int}{r:(Int×qAq×Int)}(hm:vC F x2 x3 x6 x7=some r) :
    PureM Tryz.prog 106 [.pointer (some ⟨g1,0,none⟩),qAs x7] [⟨g1,165,[qAs x2,.slice a4 x3.length c5,qAs x6]⟩] [Ro (eI .u8) 5 1 (.slice a4 x3.length c5) x3] [] (qAr×Nat) (fun _=>.tuple #[]) (fun g=>[⟨g1,165,[qAs r.1,.slice g.1 r.2.1.length g.2,qAs r.2.2]⟩]) (fun g=>[Ro (eI .u8) 5 1 (.slice g.1 r.2.1.length g.2) r.2.1]):=by
 refine zS Tryz.func106 rfl Tryz.ntmps106 rfl hm (fun w=>?_)
 refine au [24,12,14] ?_
 refine ql (fun (((x16,x19,x20),(a17,c18)):((Int×qAq×Int)×(qAr×Nat)))=>([(0,.pointer (some ⟨g1,0,none⟩)),(1,qAs x7)],[⟨g1,165,[qAs x16,.slice a17 x19.length c18,qAs x20]⟩],[Ro (eI .u8) 5 1 (.slice a17 x19.length c18) x19],[])) (fun k (s:((Int×qAq×Int)×(qAr×Nat)))=>ko F x7 k s.1) ((x2,x3,x6),(a4,c5)) F ?_
 intro k29
 rintro ⟨⟨x16,x19,x20⟩,⟨a17,c18⟩⟩
 try dsimp only
 refine qp (m':=vI F x7 (ko F x7 k29) x16 x19 x20) rfl ?_
 refine av [64,131,1,75] ?_ ?_
 intro _
 refine au [90,99,88,24,8,27,10] ?_
 rintro x34 e34 ⟨a35,c36⟩
 refine au [88,24,10,84,2,4,1,131,16,88,125] ?_
 exact qg ((x34.1,x34.2,iadd .i64 x20 1),(a35,c36))
 intro _
 refine au [63] ?_
 exact zP (a17,c18)
set_option maxHeartbeats 4000000 in
theorem qpU {F:Nat}{x1:qAq}{a2:qAr}{c3:Nat}{x4:Int}{r:(Int×Int×Int×Int×qAq×Int×qAq×Bool)}(hm:qfp F x1 x4=some r) :
    Pure Tryz.prog 81 [.slice a2 x1.length c3,qAs x4] [Sl (eI .i64) 1 (.slice a2 x1.length c3) x1] ((qAr×Nat)×(qAr×Nat)) (fun g=>.tuple #[.agg #[qAs r.1,qAs r.2.1,qAs r.2.2.1,qAs r.2.2.2.1,.slice g.1.1 r.2.2.2.2.1.length g.1.2,qAs r.2.2.2.2.2.1,.slice g.2.1 r.2.2.2.2.2.2.1.length g.2.2],.bool r.2.2.2.2.2.2.2]) (fun g=>[Ro (eI .u8) 5 1 (.slice g.1.1 r.2.2.2.2.1.length g.1.2) r.2.2.2.2.1,Ro (eI .u8) 5 1 (.slice g.2.1 r.2.2.2.2.2.2.1.length g.2.2) r.2.2.2.2.2.2.1]) (fun _=>[]):=by
 refine qi Tryz.func81 rfl Tryz.ntmps81 rfl hm (fun w=>?_)
 refine au [124,25,0] ?_
 intro g5
 refine au [46,121,91,21,1,33,7] ?_
 intro x6 e6 _
 refine qr (cells:=[qAs (x1.length:Int),qAs x4,qAs x6,qAs 0,.slice none 0 0,qAs 0,.slice none 0 0]) rfl st33 rfl (by kernel_rfl) rfl ?_
 refine au [25,0] ?_
 intro g7
 refine au [83,48,57,26,0] ?_
 intro h8
 refine qi6 rfl rfl rfl rfl h8 ?_
 refine au [16,46,3,94,57,26,6,24,7,1] ?_
 refine qq 6 (decide (8192<(imul .i64 (x1.length:Int) x6))) [(0,.slice a2 x1.length c3),(4,.pointer (some ⟨g5,0,none⟩)),(6,.pointer (some ⟨g7,0,none⟩)),(7,qAs (iadd .i64 (ishr .i64 x4 x6) 1)),(36,.bool ((decide (8192<(imul .i64 (x1.length:Int) x6))) || (decide (8192<(iadd .i64 (x1.length:Int) (iadd .i64 (ishr .i64 x4 x6) 1))))))] (fun h11=>?_) (fun h11=>?_) ?_
 refine qb (os:=_) rfl (qk (k:=30) rfl h11 ?_)
 refine au [61,113] ?_
 refine qc (d:=36) (v:=.bool ((decide (8192<(imul .i64 (x1.length:Int) x6))) || (decide (8192<(iadd .i64 (x1.length:Int) (iadd .i64 (ishr .i64 x4 x6) 1)))))) rfl (by rw[h11];simp only[qx0]) ?_
 exact az [62]
 refine qb (os:=_) rfl (qj (k:=30) rfl h11 ?_)
 refine au [57,78,70] ?_
 refine qc (d:=36) (v:=.bool ((decide (8192<(imul .i64 (x1.length:Int) x6))) || (decide (8192<(iadd .i64 (x1.length:Int) (iadd .i64 (ishr .i64 x4 x6) 1)))))) rfl (by rw[h11];simp only[qxU]) ?_
 exact az [62]
 refine qb (os:=_) rfl ?_
 refine av [51] ?_ ?_
 intro _
 refine au [47] ?_
 refine qr (cells:=[qAs 0,qAs 0,qAs 0,qAs 0,.slice none 0 0,qAs 0,.slice none 0 0]) rfl st33 rfl (by kernel_rfl) rfl ?_
 refine au [132,81] ?_
 exact qu ((none,0),(none,0)) (resL (rs:=[.cell 4 33,.tmp 5]) rfl (.cell (i:=1) rfl tf33 rfl rfl (by simp) rfl (.tmp rfl ResOk.nil)) rfl) (fun h=>by subst h;exact (.cons 0 rfl (.cons 0 rfl .nil)))
 intro _
 refine au [66,47] ?_
 refine qr (cells:=[qAs 0,.slice none 0 0,qAs 0]) rfl st165 rfl (by kernel_rfl) rfl ?_
 refine au [24,3] ?_
 intro g12
 refine au [46] ?_
 refine qd (fun (((x0,x2,x3,x5,x7),(a0,c0,a1,c1)):((Int×qAq×Int×Int×qAq)×(qAr×Nat×qAr×Nat)))=>([(4,.pointer (some ⟨g5,0,none⟩)),(6,.pointer (some ⟨g7,0,none⟩)),(7,qAs (iadd .i64 (ishr .i64 x4 x6) 1)),(8,.pointer (some ⟨g12,0,none⟩))],[⟨g12,165,[qAs x0,.slice a0 x2.length c0,qAs x3]⟩,⟨g7,33,[qAs (x1.length:Int),qAs x4,qAs x6,qAs x5,.slice a1 x7.length c1,qAs 0,.slice none 0 0]⟩,⟨g5,33,[qAs 0,qAs 0,qAs 0,qAs 0,.slice none 0 0,qAs 0,.slice none 0 0]⟩],[Ro (eI .u8) 5 1 (.slice a0 x2.length c0) x2,Ro (eI .u8) 5 1 (.slice a1 x7.length c1) x7],[],qf7 F x1 x4 x6 x0 x2 x3 x5 x7)) ?_ ?_
 refine au [121,1,45,14,29,4,29,4] ?_
 refine ql (fun (((x8,x9,x10,x11,x12,x13),(a3,c2,a4,c4)):((Int×Int×qAq×Int×Int×qAq)×(qAr×Nat×qAr×Nat)))=>([(4,.pointer (some ⟨g5,0,none⟩)),(6,.pointer (some ⟨g7,0,none⟩)),(7,qAs (iadd .i64 (ishr .i64 x4 x6) 1)),(8,.pointer (some ⟨g12,0,none⟩)),(40,.slice a2 x1.length c3),(41,qAs (x1.length:Int)),(42,qAs x8)],[⟨g12,165,[qAs x9,.slice a3 x10.length c2,qAs x11]⟩,⟨g7,33,[qAs (x1.length:Int),qAs x4,qAs x6,qAs x12,.slice a4 x13.length c4,qAs 0,.slice none 0 0]⟩,⟨g5,33,[qAs 0,qAs 0,qAs 0,qAs 0,.slice none 0 0,qAs 0,.slice none 0 0]⟩],[Ro (eI .u8) 5 1 (.slice a3 x10.length c2) x10,Ro (eI .u8) 5 1 (.slice a4 x13.length c4) x13],[Sl (eI .i64) 1 (.slice a2 x1.length c3) x1])) (fun k (s:((Int×Int×qAq×Int×Int×qAq)×(qAr×Nat×qAr×Nat)))=>qbc F x1 x4 x6 k s.1) ((0,0,([]:qAq),0,0,([]:qAq)),(none,0,none,0)) F ?_
 intro k0
 rintro ⟨⟨x8,x9,x10,x11,x12,x13⟩,⟨a3,c2,a4,c4⟩⟩
 try dsimp only
 refine qp (m':=qeu F x1 x4 x6 (qbc F x1 x4 x6 k0) x8 x9 x10 x11 x12 x13) rfl ?_
 refine av [127] ?_ ?_
 intro _
 refine au [90,47,25,14] ?_
 intro x14 e0 b0 o0
 refine au [25,3,46,3,27,5] ?_
 intro h0
 refine qB mixed [13] [⟨g12,165,[qAs x9,.slice a3 x10.length c2,qAs x11]⟩,⟨g5,33,[qAs 0,qAs 0,qAs 0,qAs 0,.slice none 0 0,qAs 0,.slice none 0 0]⟩] [qv b0 o0 ((eI .i64) x14),Sl (eI .i64) 1 (.slice a2 x1.length c3) x1,(BlkD.is ⟨g7,33,[qAs (x1.length:Int),qAs x4,qAs x6,qAs x12,.slice a4 x13.length c4,qAs 0,.slice none 0 0]⟩)] (.cons 0 rfl (.cons 1 rfl .nil)) (qF 0 rfl (qF 1 rfl (qjS 1 rfl qA))) 14 rfl ?_
 refine au [24,4,0] ?_
 refine qJ 1 (.agg #[qAs x12,.slice a4 x13.length c4]) [[13]] rfl rfl rfl (jC (j:=2) rfl tf29 rfl rfl (by simp) rfl) ?_
 refine au [7,2,24,4,3] ?_
 refine qJ 4 (qAs x6) [[13]] rfl rfl rfl (jC (j:=2) rfl tf3 rfl rfl (fun _=>rfl) rfl) (qo 5 (qAs (ishl .i64 1 x6)) rfl rfl rfl (qhw rfl rfl h0) ?_)
 refine au [7,6,7,7,28,9,8,24,4,9] ?_
 refine qJ 10 (qAs x6) [[13]] rfl rfl rfl (jC (j:=2) rfl tf3 rfl rfl (fun _=>rfl) rfl) ?_
 refine au [24,9,11,27,10] ?_
 rintro x15 e1 ⟨a5,c5⟩
 refine au [0] ?_
 refine kb (.cons 0 rfl (.cons 1 rfl .nil)) (qF 0 rfl (qF 1 rfl (qjS 1 rfl qA))) ?_
 refine au [24,4,12,24,9,13,25,6,0] ?_
 refine qeO 13 rfl (by kernel_rfl) (.cons 0 rfl (.cons 1 rfl .nil)) ?_
 refine au [24,14] ?_
 refine qM ?_ (by intro c h;cases h)
 refine au [2,60,69,26,0] ?_
 intro h1
 refine qi6 rfl rfl rfl rfl h1 ?_
 refine au [33,8] ?_
 rintro x16 e2 ⟨a6,c6⟩
 refine au [45,99,88,24,8,27,10] ?_
 rintro x17 e3 ⟨a7,c7⟩
 refine au [88,24,10,84,2,4,16,1,0] ?_
 exact qg ((iadd .i64 x8 1,x17.1,x17.2,x16.2.2,x15.1,x15.2),(a7,c7,a5,c5))
 intro _
 refine au [63] ?_
 exact qa ((x9,x10,x11,x12,x13),(a3,c2,a4,c4))
 rintro ⟨⟨x0,x2,x3,x5,x7⟩,⟨a0,c0,a1,c1⟩⟩
 try dsimp only
 refine au [60,33,8] ?_
 rintro x18 e4 ⟨a8,c8⟩
 refine au [45,48,88,24,8,12,25,6,45,107,27,3,49] ?_
 exact qu ((a1,c1),(a8,c8)) (resL (rs:=[.cell 4 33,.tmp 5]) rfl (.cell (i:=2) rfl tf33 rfl rfl (by simp) rfl (.tmp rfl ResOk.nil)) rfl) (fun h=>by subst h;exact (.cons 1 rfl (.cons 0 rfl .nil)))
theorem qm2 {F:Nat}{x1:qAq}{a2:qAr}{c3:Nat}{x4:Int}{r:(Int×Int×Int×Int×qAq×Int×qAq×Int)}(hm:qdH F x1 x4=some r) :
    Pure Tryz.prog 53 [.slice a2 x1.length c3,qAs x4] [Sl (eI .i64) 1 (.slice a2 x1.length c3) x1] ((qAr×Nat)×(qAr×Nat)) (fun g=>.tuple #[.agg #[qAs r.1,qAs r.2.1,qAs r.2.2.1,qAs r.2.2.2.1,.slice g.1.1 r.2.2.2.2.1.length g.1.2,qAs r.2.2.2.2.2.1,.slice g.2.1 r.2.2.2.2.2.2.1.length g.2.2],qAs r.2.2.2.2.2.2.2]) (fun g=>[Ro (eI .u8) 5 1 (.slice g.1.1 r.2.2.2.2.1.length g.1.2) r.2.2.2.2.1,Ro (eI .u8) 5 1 (.slice g.2.1 r.2.2.2.2.2.2.1.length g.2.2) r.2.2.2.2.2.2.1]) (fun _=>[]):=by
 refine qi Tryz.func53 rfl Tryz.ntmps53 rfl hm (fun w=>?_)
 refine au [124,25,0] ?_
 intro g5
 refine au [46,3,60,33,9] ?_
 intro x8 e8 _
 refine av [46,48,71] ?_ ?_
 intro _
 refine au [47] ?_
 refine qr (cells:=[qAs 0,qAs 0,qAs 0,qAs 0,.slice none 0 0,qAs 0,.slice none 0 0]) rfl st33 rfl (by kernel_rfl) rfl ?_
 refine au [1,24,10,55,81] ?_
 exact qu ((none,0),(none,0)) (resL (rs:=[.cell 4 33,.tmp 5]) rfl (.cell (i:=0) rfl tf33 rfl rfl (by simp) rfl (.tmp rfl ResOk.nil)) rfl) (fun h=>by subst h;exact (.cons 0 rfl (.cons 0 rfl .nil)))
 intro _
 refine au [66,60,33,10] ?_
 rintro x9 e9 ⟨⟨a10,c11⟩,⟨a12,c13⟩⟩
 refine au [111] ?_
 intro g14
 refine av [101,64,102] ?_ ?_
 intro _
 refine au [47] ?_
 refine qr (cells:=[qAs 0,qAs 0,qAs 0,qAs 0,.slice none 0 0,qAs 0,.slice none 0 0]) rfl st33 rfl (by kernel_rfl) rfl ?_
 refine au [132,81] ?_
 exact qu ((none,0),(none,0)) (resL (rs:=[.cell 4 33,.tmp 5]) rfl (.cell (i:=1) rfl tf33 rfl rfl (by simp) rfl (.tmp rfl ResOk.nil)) rfl) (fun h=>by subst h;exact (.cons 0 rfl (.cons 0 rfl .nil)))
 intro _
 refine au [66,80,25,6,49] ?_
 exact qu ((a10,c11),(a12,c13)) (resL (rs:=[.cell 4 33,.tmp 5]) rfl (.cell (i:=1) rfl tf33 rfl rfl (by simp) rfl (.tmp rfl ResOk.nil)) rfl) (fun h=>by subst h;exact (.cons 0 rfl (.cons 0 rfl .nil)))
set_option maxHeartbeats 4000000 in
theorem qlN {F:Nat}{x1:List (qAq)}{a2:qAr}{c3:Nat}{s3:List (qAr×Nat)}{x4:Int}{x5:Int}{x6:Int}{x7:Int}{x8:Int}{x9:qAq}{a10:qAr}{c11:Nat}{r:(Int×Int×Int×Int×Int×qAq×Int×Int×Int×Int×qAq×Int×qAq×Int)}(hm:qbg F x1 x4 x5 x6 x7 x8 x9=some r) :
    PureM Tryz.prog 24 [.agg #[.slice a2 x1.length c3],.agg #[qAs x4,qAs x5,qAs x6,qAs x7,qAs x8,.slice a10 x9.length c11]] [] [Ro (eI .u8) 5 1 (.slice a10 x9.length c11) x9] [SlN eN39 iN39 1 (.slice a2 x1.length c3) x1 s3] ((qAr×Nat)×(qAr×Nat)×(qAr×Nat)) (fun g=>.tuple #[.agg #[qAs r.1,qAs r.2.1,qAs r.2.2.1,qAs r.2.2.2.1,qAs r.2.2.2.2.1,.slice g.1.1 r.2.2.2.2.2.1.length g.1.2,qAs r.2.2.2.2.2.2.1,qAs r.2.2.2.2.2.2.2.1,qAs r.2.2.2.2.2.2.2.2.1,qAs r.2.2.2.2.2.2.2.2.2.1,.slice g.2.1.1 r.2.2.2.2.2.2.2.2.2.2.1.length g.2.1.2,qAs r.2.2.2.2.2.2.2.2.2.2.2.1,.slice g.2.2.1 r.2.2.2.2.2.2.2.2.2.2.2.2.1.length g.2.2.2],qAs r.2.2.2.2.2.2.2.2.2.2.2.2.2]) (fun _=>[]) (fun g=>[Ro (eI .u8) 5 1 (.slice g.1.1 r.2.2.2.2.2.1.length g.1.2) r.2.2.2.2.2.1,Ro (eI .u8) 5 1 (.slice g.2.1.1 r.2.2.2.2.2.2.2.2.2.2.1.length g.2.1.2) r.2.2.2.2.2.2.2.2.2.2.1,Ro (eI .u8) 5 1 (.slice g.2.2.1 r.2.2.2.2.2.2.2.2.2.2.2.2.1.length g.2.2.2) r.2.2.2.2.2.2.2.2.2.2.2.2.1]):=by
 refine zS Tryz.func24 rfl Tryz.ntmps24 rfl hm (fun w=>?_)
 refine au [77] ?_
 intro g12
 refine au [24,3] ?_
 intro g13
 refine au [25,0] ?_
 intro g14
 refine au [46,47,26,1,128,33,11] ?_
 rintro x15 e15 ⟨⟨a16,c17⟩,⟨a18,c19⟩⟩
 refine av [129,5,114,71] ?_ ?_
 intro _
 refine au [47] ?_
 refine qr (cells:=[qAs 0,qAs 0,qAs 0,qAs 0,qAs 0,.slice none 0 0,qAs 0,qAs 0,qAs 0,qAs 0,.slice none 0 0,qAs 0,.slice none 0 0]) rfl st35 rfl (by kernel_rfl) rfl ?_
 refine au [1,24,10,55,81,25,11] ?_
 exact vx ((none,0),(none,0),(none,0)) (resL (rs:=[.cell 4 35,.tmp 5]) rfl (.cell (i:=0) rfl tf35 rfl rfl (by simp) rfl (.tmp rfl ResOk.nil)) rfl) (hR:=fun h=>by subst h;exact (.cons 0 rfl (.cons 0 rfl (.cons 0 rfl .nil))))
 intro _
 refine au [66,48,12,69,33,12] ?_
 rintro x21 e21 ⟨⟨a22,c23⟩,⟨a24,c25⟩⟩
 refine au [111] ?_
 intro g26
 refine av [101,64,71] ?_ ?_
 intro _
 refine au [47] ?_
 refine qr (cells:=[qAs 0,qAs 0,qAs 0,qAs 0,qAs 0,.slice none 0 0,qAs 0,qAs 0,qAs 0,qAs 0,.slice none 0 0,qAs 0,.slice none 0 0]) rfl st35 rfl (by kernel_rfl) rfl ?_
 refine au [1,132,81,25,11] ?_
 exact vx ((none,0),(none,0),(none,0)) (resL (rs:=[.cell 4 35,.tmp 5]) rfl (.cell (i:=1) rfl tf35 rfl rfl (by simp) rfl (.tmp rfl ResOk.nil)) rfl) (hR:=fun h=>by subst h;exact (.cons 0 rfl (.cons 0 rfl (.cons 0 rfl .nil))))
 intro _
 refine au [66,47,26,1,24,8] ?_
 refine qr (cells:=[qAs x4,qAs x5,qAs x6,qAs x7,qAs x8,.slice a10 x9.length c11,qAs x21.1,qAs x21.2.1,qAs x21.2.2.1,qAs x21.2.2.2.1,.slice a22 x21.2.2.2.2.1.length c23,qAs x21.2.2.2.2.2.1,.slice a24 x21.2.2.2.2.2.2.1.length c25]) rfl st35 rfl (by kernel_rfl) rfl ?_
 refine au [25,6,49] ?_
 exact vx ((a10,c11),(a22,c23),(a24,c25)) (resL (rs:=[.cell 4 35,.tmp 5]) rfl (.cell (i:=1) rfl tf35 rfl rfl (by simp) rfl (.tmp rfl ResOk.nil)) rfl) (hR:=fun h=>by subst h;exact (.cons 4 rfl (.cons 0 rfl (.cons 0 rfl .nil))))
theorem qlK {F:Nat}{x1:List (qAq)}{a2:qAr}{c3:Nat}{s3:List (qAr×Nat)}{x4:Int}{x5:Int}{x6:Int}{r:(Int×Int×Int×Int×Int×qAq×Int×Int×Int×Int×qAq×Int×qAq×Int)}(hm:qcM F x1 x4 x5 x6=some r) :
    Pure Tryz.prog 8 [.agg #[.slice a2 x1.length c3],.agg #[qAs x4,qAs x5,qAs x6]] [SlN eN39 iN39 1 (.slice a2 x1.length c3) x1 s3] ((qAr×Nat)×(qAr×Nat)×(qAr×Nat)) (fun g=>.tuple #[.agg #[qAs r.1,qAs r.2.1,qAs r.2.2.1,qAs r.2.2.2.1,qAs r.2.2.2.2.1,.slice g.1.1 r.2.2.2.2.2.1.length g.1.2,qAs r.2.2.2.2.2.2.1,qAs r.2.2.2.2.2.2.2.1,qAs r.2.2.2.2.2.2.2.2.1,qAs r.2.2.2.2.2.2.2.2.2.1,.slice g.2.1.1 r.2.2.2.2.2.2.2.2.2.2.1.length g.2.1.2,qAs r.2.2.2.2.2.2.2.2.2.2.2.1,.slice g.2.2.1 r.2.2.2.2.2.2.2.2.2.2.2.2.1.length g.2.2.2],qAs r.2.2.2.2.2.2.2.2.2.2.2.2.2]) (fun g=>[Ro (eI .u8) 5 1 (.slice g.1.1 r.2.2.2.2.2.1.length g.1.2) r.2.2.2.2.2.1,Ro (eI .u8) 5 1 (.slice g.2.1.1 r.2.2.2.2.2.2.2.2.2.2.1.length g.2.1.2) r.2.2.2.2.2.2.2.2.2.2.1,Ro (eI .u8) 5 1 (.slice g.2.2.1 r.2.2.2.2.2.2.2.2.2.2.2.2.1.length g.2.2.2) r.2.2.2.2.2.2.2.2.2.2.2.2.1]) (fun _=>[]):=by
 refine qi Tryz.func8 rfl Tryz.ntmps8 rfl hm (fun w=>?_)
 refine au [77] ?_
 intro g7
 refine au [24,3] ?_
 intro g8
 refine au [25,0] ?_
 intro g9
 refine au [46,47,26,1,25,5,33,13] ?_
 rintro x10 e10 ⟨a11,c12⟩
 refine au [111] ?_
 intro g13
 refine av [101,64,71] ?_ ?_
 intro _
 refine au [47] ?_
 refine qr (cells:=[qAs 0,qAs 0,qAs 0,qAs 0,qAs 0,.slice none 0 0,qAs 0,qAs 0,qAs 0,qAs 0,.slice none 0 0,qAs 0,.slice none 0 0]) rfl st35 rfl (by kernel_rfl) rfl ?_
 refine au [1,132,81,25,11] ?_
 exact qu ((none,0),(none,0),(none,0)) (resL (rs:=[.cell 4 35,.tmp 5]) rfl (.cell (i:=1) rfl tf35 rfl rfl (by simp) rfl (.tmp rfl ResOk.nil)) rfl) (fun h=>by subst h;exact (.cons 0 rfl (.cons 0 rfl (.cons 0 rfl .nil))))
 intro _
 refine au [66,47,29,2,24,8] ?_
 refine zg qlN ?_
 rintro x15 e15 ⟨⟨a16,c17⟩,⟨a18,c19⟩,⟨a20,c21⟩⟩
 refine au [59,25,6,49] ?_
 exact qu ((a16,c17),(a18,c19),(a20,c21)) (resL (rs:=[.cell 4 35,.tmp 5]) rfl (.cell (i:=1) rfl tf35 rfl rfl (by simp) rfl (.tmp rfl ResOk.nil)) rfl) (fun h=>by subst h;exact (.cons 0 rfl (.cons 0 rfl (.cons 0 rfl .nil))))
end Go.Proofs.YtmhggdbfbmkpeaaGreat
