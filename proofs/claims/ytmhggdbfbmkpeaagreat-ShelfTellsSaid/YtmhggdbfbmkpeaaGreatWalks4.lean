/- Each Go function of this seat computes what its model says, part 4. -/
import Derived.Test.YtmhggdbfbmkpeaaGreatWalks3
open Bool renaming false_or→qxU, true_or→qx0
namespace Go.Proofs.YtmhggdbfbmkpeaaGreat
open Go SX
theorem qlG {F:Nat}{x1:Int}{x2:qAq}{a3:qAr}{c4:Nat}{x5:Int}{r:Unit}(hm:qeC F x1 x2 x5=some r) :
    PureM Tryz.prog 145 [.agg #[qAs x1,.slice a3 x2.length c4],.int .u64 x5] [] [] [Sl (eI .u8) 1 (.slice a3 x2.length c4) x2] (Nat×Nat) (fun g=>.func (.func 175) #[] #[.pointer (some ⟨g.1,0,none⟩),.pointer (some ⟨g.2,0,none⟩)]) (fun g=>[⟨g.1,29,[qAs x1,.slice a3 x2.length c4]⟩,⟨g.2,119,[.int .u64 x5]⟩]) (fun _=>[]):=by
 refine zS Tryz.func145 rfl Tryz.ntmps145 rfl hm (fun w=>?_)
 refine au [77] ?_
 intro g6
 refine au [24,3] ?_
 intro g7
 refine au [46,47,29,0,49] ?_
 exact zP (g6,g7)
set_option maxHeartbeats 4000000 in
theorem qjP (F:Nat){σ τ:Type}{J:Rounds σ τ}{yy:σ→Int→Option (σ ⊕ τ)}{L:Nat}(hY:YieldC Tryz.prog L (fun (p:Int)=>[qAs p]) J yy)(s0:σ)(gs0:J.γ)(g1:Nat)(x2:Int)(x3:qAq)(a4:qAr)(c5:Nat)(g6:Nat)(x7:Int)(r:σ ⊕ τ)(hm:qdc F yy x2 x3 x7 s0=some r) :
    PureM Tryz.prog 175 ([.func (.yield L) #[] #[],.pointer (some ⟨g1,0,none⟩),.pointer (some ⟨g6,0,none⟩)]) ([⟨g1,29,[qAs x2,.slice a4 x3.length c5]⟩,⟨g6,119,[.int .u64 x7]⟩]++J.IB s0 gs0) (J.IR s0 gs0) [J.F,Sl (eI .u8) 1 (.slice a4 x3.length c5) x3] (J.G r) (fun _=>.tuple #[]) (fun g=>[⟨g1,29,[qAs x2,.slice a4 x3.length c5]⟩,⟨g6,119,[.int .u64 x7]⟩]++J.bs r g) (fun g=>J.rs r g):=by
 refine zS Tryz.func175 rfl Tryz.ntmps175 rfl hm (fun w=>?_)
 refine au [25,15,94,1,45,14] ?_
 refine qcz (fun (((x36,x37),g38):((Int×σ)×J.γ))=>[(0,.func (.yield L) #[] #[]),(1,.pointer (some ⟨g1,0,none⟩)),(2,.pointer (some ⟨g6,0,none⟩)),(6,qAs x2),(7,qAs x36)]) (fun (((x36,x37),g38):((Int×σ)×J.γ))=>[⟨g1,29,[qAs x2,.slice a4 x3.length c5]⟩,⟨g6,119,[.int .u64 x7]⟩]++J.IB x37 g38) (fun (((x36,x37),g38):((Int×σ)×J.γ))=>[]++J.IR x37 g38) (fun (((x36,x37),g38):((Int×σ)×J.γ))=>[Sl (eI .u8) 1 (.slice a4 x3.length c5) x3,J.F]) (fun k (s:((Int×σ)×J.γ))=>qW F yy x2 x3 x7 k s.1) ((0,s0),gs0) F ?_ (hB:=(.cons 0 rfl (.cons 0 rfl (qH 0 rfl)))) (hR:=(qH 0 rfl)) (hF:=(qG 1 rfl (qG 0 rfl jF)))
 intro k67
 rintro ⟨⟨x36,x37⟩,g38⟩
 try dsimp only
 refine qp (m':=yo F yy x2 x3 x7 (qW F yy x2 x3 x7 k67) x36 x37) rfl ?_
 refine av [127] ?_ ?_
 intro _
 refine au [66] ?_
 refine qht (fun ((x81,g82):(σ×J.γ))=>[(0,.func (.yield L) #[] #[]),(1,.pointer (some ⟨g1,0,none⟩)),(2,.pointer (some ⟨g6,0,none⟩)),(6,qAs x2),(7,qAs x36)]) (fun ((x81,g82):(σ×J.γ))=>[⟨g1,29,[qAs x2,.slice a4 x3.length c5]⟩,⟨g6,119,[.int .u64 x7]⟩]++J.IB x81 g82) (fun ((x81,g82):(σ×J.γ))=>[]++J.IR x81 g82) (fun ((x81,g82):(σ×J.γ))=>[Sl (eI .u8) 1 (.slice a4 x3.length c5) x3,J.F]) (fun ((x81,_):(σ×J.γ))=>kB F yy (qW F yy x2 x3 x7 k67) x36 x81) ?_ ?_
 refine au [14,48,46,3] ?_
 refine qB mixed [] [⟨g1,29,[qAs x2,.slice a4 x3.length c5]⟩,⟨g6,119,[.int .u64 x7]⟩] [Sl (eI .u8) 1 (.slice a4 x3.length c5) x3,J.F] (.cons 0 rfl (.cons 0 rfl .nil)) (qF 0 rfl (qF 1 rfl qA)) 11 rfl (kZ 0 (.agg #[qAs x2,.slice a4 x3.length c5]) rfl rfl rfl (zN (i:=0) rfl tf29 rfl rfl (by simp) rfl) ?_)
 refine au [7,1,28,5,3,24,9,2,28,2] ?_
 intro x89 e89 _
 refine av [0,31,3,7,4,7,5,28,7] ?_ ?_
 intro h90
 refine qh (d:=15) (v:=.bool true) rfl (by rw[h90] <;> rfl) ?_
 refine au [7,6,7,7,24,9,8] ?_
 refine qjt hY x37 x36 g38 (B1:=[⟨g1,29,[qAs x2,.slice a4 x3.length c5]⟩,⟨g6,119,[.int .u64 x7]⟩]) (R1:=[]) (j:=1) rfl rfl rfl rfl rfl rfl rfl (fun x91 _ g93=>?_) (fun x92 _ g93=>?_)
 refine au [0,31,3,7,9,7,10,24,14] ?_
 refine qM ?_ (by intro c h;cases h)
 refine au [2] ?_
 refine qb3 (b:=false) rfl (fun h=>by cases h) (fun _=>?_)
 refine au [9,22] ?_
 exact qdt (x91,g93) (hB:=(.cons 0 rfl (.cons 0 rfl (qH 0 rfl)))) (hR:=(qH 0 rfl)) (hF:=(qG 0 rfl (qG 1 rfl jF)))
 refine au [0,31,3,7,9,7,10,24,14] ?_
 refine qM ?_ (by intro c h;cases h)
 refine au [2] ?_
 refine qb3 (b:=true) rfl (fun _=>?_) (fun h=>by cases h)
 refine au [10,86,24,0] ?_
 exact qff (B0:=[⟨g1,29,[qAs x2,.slice a4 x3.length c5]⟩,⟨g6,119,[.int .u64 x7]⟩]) (x:=.inr x92) g93 (.inl rfl) (res0 rfl) (.cons 0 rfl (.cons 0 rfl (qH 0 rfl))) (qH 0 rfl)
 intro h90
 refine qh (d:=15) (v:=.bool false) rfl (by rw[h90] <;> rfl) ?_
 refine au [15,6,15,7,15,8,15,9,7,10,24,14] ?_
 refine qM ?_ (by intro c h;cases h)
 refine au [2] ?_
 refine qb3 (b:=false) rfl (fun h=>by cases h) (fun _=>?_)
 refine au [9,22] ?_
 exact qdt (x37,g38) (hB:=(.cons 0 rfl (.cons 0 rfl (qH 0 rfl)))) (hR:=(qH 0 rfl)) (hF:=(qG 0 rfl (qG 1 rfl jF)))
 rintro ⟨x81,g82⟩
 try dsimp only
 refine au [4,16,1,0] ?_
 exact qfH ((iadd .i64 x36 1,x81),g82) (hB:=(.cons 0 rfl (.cons 0 rfl (qH 0 rfl)))) (hR:=(qH 0 rfl)) (hF:=(qG 0 rfl (qG 1 rfl jF)))
 intro _
 refine au [63] ?_
 exact qff (B0:=[⟨g1,29,[qAs x2,.slice a4 x3.length c5]⟩,⟨g6,119,[.int .u64 x7]⟩]) (x:=.inl x37) g38 (.inr rfl) (res0 rfl) (.cons 0 rfl (.cons 0 rfl (qH 0 rfl))) (qH 0 rfl)
set_option maxHeartbeats 4000000 in
theorem qna {F:Nat}{x1:Int}{x2:qAq}{a3:qAr}{c4:Nat}{x5:Int}{x6:Int}{r:Int}(hm:qaJ F x1 x2 x5 x6=some r) :
    PureM Tryz.prog 108 [.agg #[qAs x1,.slice a3 x2.length c4],.int .u64 x5,qAs x6] [] [] [Sl (eI .u8) 1 (.slice a3 x2.length c4) x2] Unit (fun _=>qAs r) (fun _=>[]) (fun _=>[]):=by
 refine qkO Tryz.func108 rfl Tryz.ntmps108 rfl hm (fun w=>?_)
 refine au [104] ?_
 intro g7
 refine au [24,3] ?_
 intro g8
 refine au [25,0] ?_
 intro g9
 refine au [45,3,47,26,1,1] ?_
 refine zg qlG ?_
 rintro x25 e25 ⟨g26,g27⟩
 refine au [45,14] ?_
 refine qjr (encs:=(fun (p:Int)=>[qAs p])) (y:=(fun (x31:Int) (x37:Int)=>q5 F x31 x37)) (lb:=[.pointer (some ⟨g26,0,none⟩),.pointer (some ⟨g27,0,none⟩)]) (fun (x31:Int) (_:Unit)=>[⟨g9,3,[qAs 0]⟩,⟨g8,3,[qAs x31]⟩,⟨g7,29,[qAs x1,.slice a3 x2.length c4]⟩]) (fun (x31:Int) (_:Unit)=>[]) (fun ((x35,x36):(Int×Int)) (_:Unit)=>[⟨g9,3,[qAs x35]⟩,⟨g8,3,[qAs x36]⟩,⟨g7,29,[qAs x1,.slice a3 x2.length c4]⟩]) (fun ((x35,x36):(Int×Int)) (_:Unit)=>[]) (fun _=>.ret) x6 () rfl ent175 (fun _=>rfl) rfl (.cons 0 rfl (.cons 0 rfl .nil)) (.cons 0 rfl (.cons 0 rfl (.cons 0 rfl .nil))) .nil (.consF 0 rfl .nil) (fun z hz _ _ _ hY=>qjP F hY x6 () g26 x1 x2 a3 c4 g27 x5 z hz) ?_ ?_ ?_
 rintro rc1 L1 D1 x31 _ x37 z w M _
 try dsimp only
 refine qk6 [(0,.agg #[qAs x1,.slice a3 x2.length c4]),(1,.int .u64 x5),(2,qAs x6),(3,.pointer (some ⟨g7,0,none⟩)),(5,.pointer (some ⟨g8,0,none⟩)),(6,.pointer (some ⟨g9,0,none⟩)),(8,.agg #[qAs x1,.slice a3 x2.length c4]),(9,.int .u64 x5),(10,.func (.func 175) #[] #[.pointer (some ⟨g26,0,none⟩),.pointer (some ⟨g27,0,none⟩)]),(11,qAs x37)] (zo rfl (zo rfl (zo rfl (zo rfl (zo rfl (zo rfl (zo rfl (zo rfl (zo rfl (zo rfl qip)))))))))) ?_
 refine au [4,5,0] ?_
 refine qju (i:=3) rfl ?_
 refine av [14,3,47,25,10,68] ?_ ?_
 intro _
 refine au [48,83,10,11,24,0] ?_
 exact qgq (rc:=rc1) rfl (.cons 3 rfl .nil) rfl () (.cons 1 rfl (.cons 1 rfl (.cons 1 rfl (.cons 0 rfl (.cons 0 rfl .nil))))) .nil
 intro _
 refine au [66,4,25,10,24,13,25,6,84] ?_
 exact qgq (rc:=rc1) rfl (.cons 3 rfl .nil) rfl () (.cons 1 rfl (.cons 1 rfl (.cons 1 rfl (.cons 0 rfl (.cons 0 rfl .nil))))) .nil
 rintro x31 _ _ D1
 try dsimp only
 refine au [22,2,47,32,10,45,10] ?_
 exact qhP [D1] () (.inl rfl) rfl (.cons 0 rfl .nil) (resL (rs:=[.cell 6 3]) rfl (.cell (i:=2) rfl tf3 rfl rfl (fun _=>rfl) rfl ResOk.nil) rfl) (fun h=>by subst h;rfl) (fun h=>by subst h;exact .nil) (fun h=>by subst h;exact .nil)
 rintro ⟨x35,x36⟩ _ _ D1
 try dsimp only
 refine au [10,50] ?_
 exact qhP [D1] () (.inl rfl) rfl (.cons 0 rfl .nil) (resL (rs:=[.cell 6 3]) rfl (.cell (i:=2) rfl tf3 rfl rfl (fun _=>rfl) rfl ResOk.nil) rfl) (fun h=>by subst h;rfl) (fun h=>by subst h;exact .nil) (fun h=>by subst h;exact .nil)
theorem qse {F:Nat}{x1:Int}{x2:Int}{x3:Int}{x4:Int}{x5:qAq}{a6:qAr}{c7:Nat}{x8:Int}{x9:qAq}{a10:qAr}{c11:Nat}{x12:Int}{r:Int}(hm:qcv F x1 x2 x3 x4 x5 x8 x9 x12=some r) :
    Pure Tryz.prog 83 [.agg #[qAs x1,qAs x2,qAs x3,qAs x4,.slice a6 x5.length c7,qAs x8,.slice a10 x9.length c11],qAs x12] [Sl (eI .u8) 1 (.slice a6 x5.length c7) x5,Sl (eI .u8) 1 (.slice a10 x9.length c11) x9] Unit (fun _=>qAs r) (fun _=>[]) (fun _=>[]):=by
 refine qi Tryz.func83 rfl Tryz.ntmps83 rfl hm (fun w=>?_)
 refine au [77] ?_
 intro g13
 refine au [46,47,103,1,35,8] ?_
 intro x14 e14 _
 refine au [85,46,47,103,1,57,26,6,57,29,5] ?_
 intro x15 e15 _
 refine au [79,67,48,57,26,0] ?_
 intro h16
 refine qbU rfl rfl rfl rfl h16 ?_
 refine au [1,24,15,33,15,120] ?_
 intro x17 e17
 refine qc (d:=4) (v:=qAs x17) rfl (by rw[e17] <;> rfl) ?_
 exact az [45,10,18]
theorem qoq {F:Nat}{x1:Int}{x2:qAq}{a3:qAr}{c4:Nat}{x5:Int}{x6:qAq}{a7:qAr}{c8:Nat}{r:Bool}(hm:qeH F x1 x2 x5 x6=some r) :
    Pure Tryz.prog 144 [.agg #[qAs x1,.slice a3 x2.length c4],.agg #[qAs x5,.slice a7 x6.length c8]] [Sl (eI .u8) 1 (.slice a3 x2.length c4) x2,Sl (eI .u8) 1 (.slice a7 x6.length c8) x6] Unit (fun _=>.bool r) (fun _=>[]) (fun _=>[]):=by
 refine qi Tryz.func144 rfl Tryz.ntmps144 rfl hm (fun w=>?_)
 refine au [77] ?_
 intro g9
 refine au [24,3] ?_
 intro g10
 refine au [46,47,69,57,106] ?_
 refine qD 6 (fun ((x13,_):(Bool×Unit))=>([(16,.bool x13)],[],[],[],qbY F x13)) ?_ ?_
 refine qb (os:=_) rfl ?_
 refine av [25,7] ?_ ?_
 intro h11
 refine qk (k:=10) rfl h11 ?_
 refine au [69,57,29,6] ?_
 intro x14 e14 _
 refine au [74] ?_
 exact qa (x14,())
 intro h11
 refine qj (k:=10) rfl h11 ?_
 refine au [61,6,76] ?_
 exact qa (false,())
 rintro ⟨x13,_⟩
 try dsimp only
 refine qb (os:=_) rfl ?_
 exact az [73]
set_option maxHeartbeats 4000000 in
theorem qkc {F:Nat}{x1:Int}{x2:Int}{x3:Int}{x4:Int}{x5:qAq}{a6:qAr}{c7:Nat}{x8:Int}{x9:qAq}{a10:qAr}{c11:Nat}{r:(qAq×Int)}(hm:j5 F x1 x2 x3 x4 x5 x8 x9=some r) :
    Pure Tryz.prog 107 [.agg #[qAs x1,qAs x2,qAs x3,qAs x4,.slice a6 x5.length c7,qAs x8,.slice a10 x9.length c11]] [Sl (eI .u8) 1 (.slice a6 x5.length c7) x5,Sl (eI .u8) 1 (.slice a10 x9.length c11) x9] (qAr×Nat) (fun g=>.tuple #[.slice g.1 r.1.length g.2,qAs r.2]) (fun g=>[Ro (eI .i64) 3 1 (.slice g.1 r.1.length g.2) r.1]) (fun _=>[]):=by
 refine qi Tryz.func107 rfl Tryz.ntmps107 rfl hm (fun w=>?_)
 refine au [108] ?_
 intro g12
 refine au [67,3,94,23,1] ?_
 refine qq 4 (decide (x1<0)) [(1,.pointer (some ⟨g12,0,none⟩)),(15,.bool ((decide (x1<0)) || (decide (300<x1))))] (fun h17=>?_) (fun h17=>?_) ?_
 refine qb (os:=_) rfl (qk (k:=11) rfl h17 ?_)
 refine au [56,113] ?_
 refine qc (d:=15) (v:=.bool ((decide (x1<0)) || (decide (300<x1)))) rfl (by rw[h17];simp only[qx0]) ?_
 exact az [62]
 refine qb (os:=_) rfl (qj (k:=11) rfl h17 ?_)
 refine au [57,70] ?_
 refine qc (d:=15) (v:=.bool ((decide (x1<0)) || (decide (300<x1)))) rfl (by rw[h17];simp only[qxU]) ?_
 exact az [62]
 refine qb (os:=_) rfl ?_
 refine au [1] ?_
 refine qq 4 ((decide (x1<0)) || (decide (300<x1))) [(1,.pointer (some ⟨g12,0,none⟩)),(20,.bool (((decide (x1<0)) || (decide (300<x1))) || (decide (x2<0))))] (fun h18=>?_) (fun h18=>?_) ?_
 refine qb (os:=_) rfl (qk (k:=16) rfl h18 ?_)
 refine au [56,113] ?_
 refine qc (d:=20) (v:=.bool (((decide (x1<0)) || (decide (300<x1))) || (decide (x2<0)))) rfl (by rw[h18];simp only[qx0]) ?_
 exact az [62]
 refine qb (os:=_) rfl (qj (k:=16) rfl h18 ?_)
 refine au [57,23,24,2] ?_
 refine qc (d:=20) (v:=.bool (((decide (x1<0)) || (decide (300<x1))) || (decide (x2<0)))) rfl (by rw[h18];simp only[qxU]) ?_
 exact az [62]
 refine qb (os:=_) rfl ?_
 refine au [1] ?_
 refine qq 4 (((decide (x1<0)) || (decide (300<x1))) || (decide (x2<0))) [(1,.pointer (some ⟨g12,0,none⟩)),(25,.bool ((((decide (x1<0)) || (decide (300<x1))) || (decide (x2<0))) || (decide (1048576<x2))))] (fun h19=>?_) (fun h19=>?_) ?_
 refine qb (os:=_) rfl (qk (k:=21) rfl h19 ?_)
 refine au [56,113] ?_
 refine qc (d:=25) (v:=.bool ((((decide (x1<0)) || (decide (300<x1))) || (decide (x2<0))) || (decide (1048576<x2)))) rfl (by rw[h19];simp only[qx0]) ?_
 exact az [62]
 refine qb (os:=_) rfl (qj (k:=21) rfl h19 ?_)
 refine au [57,70] ?_
 refine qc (d:=25) (v:=.bool ((((decide (x1<0)) || (decide (300<x1))) || (decide (x2<0))) || (decide (1048576<x2)))) rfl (by rw[h19];simp only[qxU]) ?_
 exact az [62]
 refine qb (os:=_) rfl ?_
 refine av [51] ?_ ?_
 intro _
 refine au [93,96] ?_
 exact qm (none,0)
 intro _
 refine au [89] ?_
 refine qd (fun ((x49,_):(Bool×Unit))=>([(1,.pointer (some ⟨g12,0,none⟩)),(70,.bool x49)],[⟨g12,33,[qAs x1,qAs x2,qAs x3,qAs x4,.slice a6 x5.length c7,qAs x8,.slice a10 x9.length c11]⟩],[],[Sl (eI .u8) 1 (.slice a6 x5.length c7) x5,Sl (eI .u8) 1 (.slice a10 x9.length c11) x9],zH F x1 x2 x3 x4 x5 x8 x9 x49)) ?_ ?_
 refine qB mixed [] [⟨g12,33,[qAs x1,qAs x2,qAs x3,qAs x4,.slice a6 x5.length c7,qAs x8,.slice a10 x9.length c11]⟩] [Sl (eI .u8) 1 (.slice a6 x5.length c7) x5,Sl (eI .u8) 1 (.slice a10 x9.length c11) x9] (.cons 0 rfl .nil) (qF 0 rfl (qF 1 rfl qA)) 45 rfl ?_
 refine au [134,24,4,2,25,12,3,24,4,4,25,12,5,24,9,6,33,7] ?_
 intro x0 e0 _
 refine av [0,29,7,7,7,7,8,28,7] ?_ ?_
 intro h0
 refine qh (d:=34) (v:=.bool true) rfl (by rw[h0] <;> rfl) ?_
 refine au [118,110,7,13,7,14,15,15,15,16,15,17,15,18,7,19,7,20,15,21,15,22,15,23,15,24,15,25,15,26,15,27,15,28,15,29,7,30,7,31,15,32,15,33,15,34,15,35,15,36,15,37,15,38,15,39,15,40,15,41,15,42,15,43,7,44,24,14] ?_
 exact qM (qa (true,())) (by intro c h;cases h)
 intro h0
 refine qh (d:=34) (v:=.bool false) rfl (by rw[h0] <;> rfl) ?_
 refine au [24,4,9] ?_
 refine kZ 10 (.agg #[qAs x4,.slice a6 x5.length c7]) rfl rfl rfl (zN (i:=0) rfl tf29 rfl rfl (by simp) rfl) ?_
 refine au [24,9,11,30,11] ?_
 intro x6 e1 _
 refine av [0,29,7,112,7,14,28,7] ?_ ?_
 intro h1
 refine qh (d:=40) (v:=.bool true) rfl (by rw[h1] <;> rfl) ?_
 refine au [15,15,15,16,15,17,15,18,7,19,7,20,15,21,15,22,15,23,15,24,15,25,15,26,15,27,15,28,15,29,7,30,7,31,15,32,15,33,15,34,15,35,15,36,15,37,15,38,15,39,15,40,15,41,15,42,15,43,7,44,24,14] ?_
 exact qM (qa (true,())) (by intro c h;cases h)
 intro h1
 refine qh (d:=40) (v:=.bool false) rfl (by rw[h1] <;> rfl) ?_
 refine au [24,4,15] ?_
 refine kZ 16 (.agg #[qAs x8,.slice a10 x9.length c11]) rfl rfl rfl (zN (i:=0) rfl tf29 rfl rfl (by simp) rfl) ?_
 refine au [24,9,17,30,11] ?_
 intro x7 e2 _
 refine av [0,29,7,7,18,7,19,7,20,28,7] ?_ ?_
 intro h2
 refine qh (d:=46) (v:=.bool true) rfl (by rw[h2] <;> rfl) ?_
 refine au [15,21,15,22,15,23,15,24,15,25,15,26,15,27,15,28,15,29,7,30,7,31,15,32,15,33,15,34,15,35,15,36,15,37,15,38,15,39,15,40,15,41,15,42,15,43,7,44,24,14] ?_
 exact qM (qa (true,())) (by intro c h;cases h)
 intro h2
 refine qh (d:=46) (v:=.bool false) rfl (by rw[h2] <;> rfl) ?_
 refine av [24,4,21,24,4,22,25,12,23,24,4,24,25,12,25,24,4,26,25,12,27,7,28,7,29,7,30,7,31,28,7] ?_ ?_
 intro h3
 refine qh (d:=57) (v:=.bool true) rfl (by rw[h3] <;> rfl) ?_
 refine au [15,32,15,33,15,34,15,35,15,36,15,37,15,38,15,39,15,40,15,41,15,42,15,43,7,44,24,14] ?_
 exact qM (qa (true,())) (by intro c h;cases h)
 intro h3
 refine qh (d:=57) (v:=.bool false) rfl (by rw[h3] <;> rfl) ?_
 refine au [24,4,32] ?_
 refine kZ 33 (.agg #[qAs x8,.slice a10 x9.length c11]) rfl rfl rfl (zN (i:=0) rfl tf29 rfl rfl (by simp) rfl) ?_
 refine au [24,4,34,25,12,35,7,36,24,9,37,35,8] ?_
 intro x10 e3 _
 refine av [0,29,7,7,38,7,39,28,7] ?_ ?_
 intro h4
 refine qh (d:=65) (v:=.bool true) rfl (by rw[h4] <;> rfl) ?_
 refine au [24,4,40,25,12,41,7,42,7,43,7,44,24,14] ?_
 exact qM (qa ((decide (0<x1)),())) (by intro c h;cases h)
 intro h4
 refine qh (d:=65) (v:=.bool false) rfl (by rw[h4] <;> rfl) ?_
 refine au [15,40,15,41,15,42,7,43,7,44,24,14] ?_
 exact qM (qa (false,())) (by intro c h;cases h)
 rintro ⟨x49,_⟩
 try dsimp only
 refine av [8] ?_ ?_
 intro _
 refine au [93,96] ?_
 exact qm (none,0)
 intro _
 refine au [66,53] ?_
 refine qd (fun ((x99,(a97,c98)):(qAq×(qAr×Nat)))=>([(1,.pointer (some ⟨g12,0,none⟩)),(4,.slice a97 x99.length c98)],[⟨g12,33,[qAs x1,qAs x2,qAs x3,qAs x4,.slice a6 x5.length c7,qAs x8,.slice a10 x9.length c11]⟩],[Ro (eI .i64) 3 1 (.slice a97 x99.length c98) x99],[Sl (eI .u8) 1 (.slice a6 x5.length c7) x5,Sl (eI .u8) 1 (.slice a10 x9.length c11) x9],yG F x2 x4 x5 x8 x9 x99)) ?_ ?_
 refine au [94,1,45,98] ?_
 refine ql (fun (((x11,x12),(a0,c0)):((qAq×Int)×(qAr×Nat)))=>([(1,.pointer (some ⟨g12,0,none⟩)),(4,.slice a0 x11.length c0),(72,qAs x1),(73,qAs x12)],[⟨g12,33,[qAs x1,qAs x2,qAs x3,qAs x4,.slice a6 x5.length c7,qAs x8,.slice a10 x9.length c11]⟩],[Ro (eI .i64) 3 1 (.slice a0 x11.length c0) x11],[Sl (eI .u8) 1 (.slice a6 x5.length c7) x5,Sl (eI .u8) 1 (.slice a10 x9.length c11) x9])) (fun k (s:((qAq×Int)×(qAr×Nat)))=>yH F x1 x2 x3 x4 x5 x8 x9 k s.1) ((([]:qAq),0),(none,0)) F ?_
 intro k0
 rintro ⟨⟨x11,x12⟩,⟨a0,c0⟩⟩
 try dsimp only
 refine qp (m':=qbx F x1 x2 x3 x4 x5 x8 x9 (yH F x1 x2 x3 x4 x5 x8 x9 k0) x11 x12) rfl ?_
 refine av [127] ?_ ?_
 intro _
 refine au [90,48,46,4,1,24,8,1,35,9] ?_
 intro x13 e4 _
 refine qx (vs:=[qAs x13]) (ys:=([x13]:qAq)) (qs .i64) (by decide) rfl Tryz.underlying39 tf3 rfl rfl rfl rfl rfl (by decide) (fun a1 c1=>qE 1 (qs .i64) rfl Tryz.underlying39 tf3 rfl rfl rfl rfl rfl (.inl ⟨0,_,rfl⟩) rfl rfl (fun x14 e5 a2 c2=>?_))
 refine au [95,2,4,16,1,0] ?_
 exact qg ((x14,iadd .i64 x12 1),(a2,c2))
 intro _
 refine au [63] ?_
 exact qa (x11,(a0,c0))
 rintro ⟨x99,⟨a97,c98⟩⟩
 try dsimp only
 refine au [64,57,33,9] ?_
 intro x15 e6 _
 refine av [71] ?_ ?_
 intro _
 refine au [93,96] ?_
 exact qm (none,0)
 intro _
 refine au [66,64,57,33,10] ?_
 rintro x16 e7 ⟨⟨a3,c3⟩,⟨a4,c4⟩⟩
 refine au [111] ?_
 intro g0
 refine au [101,48,25,4,1] ?_
 refine qD 7 (fun ((x17,_):(Bool×Unit))=>([(1,.pointer (some ⟨g12,0,none⟩)),(4,.slice a97 x99.length c98),(6,.pointer (some ⟨g0,0,none⟩)),(104,.bool x17)],[⟨g0,33,[qAs x16.1,qAs x16.2.1,qAs x16.2.2.1,qAs x16.2.2.2.1,.slice a3 x16.2.2.2.2.1.length c3,qAs x16.2.2.2.2.2.1,.slice a4 x16.2.2.2.2.2.2.1.length c4]⟩,⟨g12,33,[qAs x1,qAs x2,qAs x3,qAs x4,.slice a6 x5.length c7,qAs x8,.slice a10 x9.length c11]⟩],[Ro (eI .i64) 3 1 (.slice a97 x99.length c98) x99,Ro (eI .u8) 5 1 (.slice a3 x16.2.2.2.2.1.length c3) x16.2.2.2.2.1,Ro (eI .u8) 5 1 (.slice a4 x16.2.2.2.2.2.2.1.length c4) x16.2.2.2.2.2.2.1],[Sl (eI .u8) 1 (.slice a6 x5.length c7) x5,Sl (eI .u8) 1 (.slice a10 x9.length c11) x9],qby F x8 x9 x99 x16 x17)) ?_ ?_
 refine qb (os:=_) rfl ?_
 refine av [25,7] ?_ ?_
 intro h5
 refine qk (k:=97) rfl h5 ?_
 refine au [61,56,74] ?_
 exact qa (true,())
 intro h5
 refine qj (k:=97) rfl h5 ?_
 refine au [103,128,35,10] ?_
 intro x18 e8 _
 refine au [25,4,76] ?_
 exact qa ((!x18),())
 rintro ⟨x17,_⟩
 try dsimp only
 refine qb (os:=_) rfl ?_
 refine au [1] ?_
 refine qD 7 (fun ((x19,_):(Bool×Unit))=>([(4,.slice a97 x99.length c98),(112,.bool x19)],[],[Ro (eI .i64) 3 1 (.slice a97 x99.length c98) x99],[],qdJ F x99 x19)) ?_ ?_
 refine qb (os:=_) rfl ?_
 refine av [25,7] ?_ ?_
 intro h6
 refine qk (k:=105) rfl h6 ?_
 refine au [61,56,74] ?_
 exact qa (true,())
 intro h6
 refine qj (k:=105) rfl h6 ?_
 refine au [103,128,35,10] ?_
 intro x20 e9 _
 refine au [25,4,76] ?_
 exact qa ((!x20),())
 rintro ⟨x19,_⟩
 try dsimp only
 refine qb (os:=_) rfl ?_
 refine av [51] ?_ ?_
 intro _
 refine au [93,96] ?_
 exact qm (none,0)
 intro _
 refine au [66,48,5,49] ?_
 exact qm (a97,c98)
theorem qm1 {F:Nat}{x1:Int}{x2:Int}{x3:Int}{x4:Int}{x5:qAq}{a6:qAr}{c7:Nat}{x8:Int}{x9:qAq}{a10:qAr}{c11:Nat}{r:Int}(hm:qe2 F x1 x2 x3 x4 x5 x8 x9=some r) :
    Pure Tryz.prog 82 [.agg #[qAs x1,qAs x2,qAs x3,qAs x4,.slice a6 x5.length c7,qAs x8,.slice a10 x9.length c11]] [Sl (eI .u8) 1 (.slice a6 x5.length c7) x5,Sl (eI .u8) 1 (.slice a10 x9.length c11) x9] Unit (fun _=>qAs r) (fun _=>[]) (fun _=>[]):=by
 refine qi Tryz.func82 rfl Tryz.ntmps82 rfl hm (fun w=>?_)
 refine au [108] ?_
 intro g12
 refine au [46,80] ?_
 refine qf qkc ?_
 rintro x13 e13 ⟨a14,c15⟩
 exact az [79,67,48,73]
set_option maxHeartbeats 4000000 in
theorem qpT {F:Nat}{x1:Int}{x2:Int}{x3:Int}{x4:Int}{x5:qAq}{a6:qAr}{c7:Nat}{x8:Int}{x9:qAq}{a10:qAr}{c11:Nat}{x12:Int}{r:(Int×Int)}(hm:qfo F x1 x2 x3 x4 x5 x8 x9 x12=some r) :
    Pure Tryz.prog 54 [.agg #[qAs x1,qAs x2,qAs x3,qAs x4,.slice a6 x5.length c7,qAs x8,.slice a10 x9.length c11],qAs x12] [Sl (eI .u8) 1 (.slice a6 x5.length c7) x5,Sl (eI .u8) 1 (.slice a10 x9.length c11) x9] Unit (fun _=>.tuple #[qAs r.1,qAs r.2]) (fun _=>[]) (fun _=>[]):=by
 refine qi Tryz.func54 rfl Tryz.ntmps54 rfl hm (fun w=>?_)
 refine au [77] ?_
 intro g13
 refine au [67,80] ?_
 refine qf qm1 ?_
 intro x14 e14 _
 refine au [46] ?_
 refine qd (fun ((x20,_):(Int×Unit))=>([(1,qAs x12),(2,.pointer (some ⟨g13,0,none⟩)),(6,qAs x20)],[⟨g13,33,[qAs x1,qAs x2,qAs x3,qAs x4,.slice a6 x5.length c7,qAs x8,.slice a10 x9.length c11]⟩],[],[Sl (eI .u8) 1 (.slice a6 x5.length c7) x5,Sl (eI .u8) 1 (.slice a10 x9.length c11) x9],qes F x1 x2 x3 x4 x5 x8 x9 x12 x20)) ?_ ?_
 refine au [48,106] ?_
 refine qD 9 (fun ((x26,_):(Bool×Unit))=>([(1,qAs x12),(2,.pointer (some ⟨g13,0,none⟩)),(6,qAs x14),(20,.bool x26)],[⟨g13,33,[qAs x1,qAs x2,qAs x3,qAs x4,.slice a6 x5.length c7,qAs x8,.slice a10 x9.length c11]⟩],[],[Sl (eI .u8) 1 (.slice a6 x5.length c7) x5,Sl (eI .u8) 1 (.slice a10 x9.length c11) x9],qet F x1 x2 x3 x4 x5 x8 x9 x12 x14 x26)) ?_ ?_
 refine qb (os:=_) rfl ?_
 refine av [25,7] ?_ ?_
 intro h24
 refine qk (k:=11) rfl h24 ?_
 refine au [1,23,1] ?_
 refine qq 5 (decide (x12<0)) [(1,qAs x12),(2,.pointer (some ⟨g13,0,none⟩)),(6,qAs x14),(11,.bool true),(19,.bool ((decide (x12<0)) || (decide (x1≤x12))))] (fun h28=>?_) (fun h28=>?_) ?_
 refine qb (os:=_) rfl (qk (k:=14) rfl h28 ?_)
 refine au [61,24,1] ?_
 refine qc (d:=19) (v:=.bool ((decide (x12<0)) || (decide (x1≤x12)))) rfl (by rw[h28];simp only[qx0]) ?_
 exact az [62]
 refine qb (os:=_) rfl (qj (k:=14) rfl h28 ?_)
 refine au [1,57,26,3,24,2] ?_
 refine qc (d:=19) (v:=.bool ((decide (x12<0)) || (decide (x1≤x12)))) rfl (by rw[h28];simp only[qxU]) ?_
 exact az [62]
 refine qb (os:=_) rfl ?_
 refine au [74] ?_
 exact qa (((decide (x12<0)) || (decide (x1≤x12))),())
 intro h24
 refine qj (k:=11) rfl h24 ?_
 refine au [61,61,76] ?_
 exact qa (false,())
 rintro ⟨x26,_⟩
 try dsimp only
 refine qb (os:=_) rfl ?_
 refine av [51] ?_ ?_
 intro _
 refine au [4,5,0] ?_
 exact qa ((3:Int),())
 intro _
 refine au [9] ?_
 exact qa (x14,())
 rintro ⟨x20,_⟩
 try dsimp only
 refine av [64,71] ?_ ?_
 intro _
 exact az [48,5,82]
 intro _
 refine au [66,80,1,35,9] ?_
 intro x22 e22 _
 exact az [5,73]
theorem qhW:∀ (F:Nat) (g1:Nat) (x2:Int) (x3:Int) (x4:Int) (x5:Int) (x6:Int) (x7:qAq) (a8:qAr) (c9:Nat) (x10:Int) (x11:Int) (x12:Int) (x13:Int) (x14:qAq) (a15:qAr) (c16:Nat) (x17:Int) (x18:qAq) (a19:qAr) (c20:Nat) (x21:Int) (x22:Int) (r:(qAq×Int×Int×Int×Int×Int×Int×Int×Int×Int×Int×Int)),kX F x2 x3 x4 x5 x6 x7 x10 x11 x12 x13 x14 x17 x18 x21 x22=some r→PureM Tryz.prog 25 [.pointer (some ⟨g1,0,none⟩),qAs x22] [⟨g1,64,[qAs x2,qAs x3,qAs x4,qAs x5,qAs x6,.slice a8 x7.length c9,qAs x10,qAs x11,qAs x12,qAs x13,.slice a15 x14.length c16,qAs x17,.slice a19 x18.length c20,qAs x21]⟩] [] [Sl (eI .u8) 1 (.slice a8 x7.length c9) x7,Sl (eI .u8) 1 (.slice a15 x14.length c16) x14,Sl (eI .u8) 1 (.slice a19 x18.length c20) x18] (qAr×Nat) (fun g=>.slice g.1 r.1.length g.2) (fun _=>[⟨g1,64,[qAs r.2.1,qAs r.2.2.1,qAs r.2.2.2.1,qAs r.2.2.2.2.1,qAs r.2.2.2.2.2.1,.slice a8 x7.length c9,qAs r.2.2.2.2.2.2.1,qAs r.2.2.2.2.2.2.2.1,qAs r.2.2.2.2.2.2.2.2.1,qAs r.2.2.2.2.2.2.2.2.2.1,.slice a15 x14.length c16,qAs r.2.2.2.2.2.2.2.2.2.2.1,.slice a19 x18.length c20,qAs r.2.2.2.2.2.2.2.2.2.2.2]⟩]) (fun g=>[Ro (eI .i64) 3 1 (.slice g.1 r.1.length g.2) r.1]):=by
  intro F
  induction F with
  | zero=>intro g1 x2 x3 x4 x5 x6 x7 a8 c9 x10 x11 x12 x13 x14 a15 c16 x17 x18 a19 c20 x21 x22 r hm;exact absurd hm (by simp[kX])
  | succ F ih =>
    intro g1 x2 x3 x4 x5 x6 x7 a8 c9 x10 x11 x12 x13 x14 a15 c16 x17 x18 a19 c20 x21 x22 r hm
    refine zS Tryz.func25 rfl Tryz.ntmps25 rfl hm (fun w=>?_)
    refine qv2 (l':=[(0,.pointer (some ⟨g1,0,none⟩)),(1,qAs x22)]) rfl ?_
    refine qbT ?_
    refine kD ?_
    refine jH rfl rfl rfl ?_
    refine jP ?_
    refine jA ?_
    refine qbT ?_
    refine kD ?_
    refine yY rfl rfl rfl ?_
    refine qcB rfl rfl rfl ?_
    refine kv rfl rfl ff64_1 rfl ?_
    refine yq (i:=0) rfl rfl tf3 rfl rfl (fun _=>rfl) rfl rfl ?_
    refine qrY rfl rfl rfl rfl ?_
    refine qcB rfl rfl rfl ?_
    refine kv rfl rfl ff64_1 rfl ?_
    refine vH (i:=0) rfl rfl rfl tf3 rfl rfl rfl rfl rfl ?_
    refine jP ?_
    refine jA ?_
    refine qbT ?_
    refine kD ?_
    refine yY rfl rfl rfl ?_
    refine qcB rfl rfl rfl ?_
    refine kv rfl rfl ff64_0 rfl ?_
    refine kv rfl rfl ff35_1 rfl ?_
    refine yq (i:=0) rfl rfl tf33 rfl rfl (by simp) rfl rfl ?_
    refine yY rfl rfl rfl ?_
    refine qi5 ent54 rfl rfl rfl (fun x23 e23=>qpT e23) (.consF 1 rfl (.consF 2 rfl .nil)) (fun x23 e23=>?_)
    intro _
    refine yY rfl rfl rfl ?_
    refine qam rfl rfl rfl rfl ?_
    refine qam rfl rfl rfl rfl ?_
    refine jH rfl rfl rfl ?_
    refine jH rfl rfl rfl ?_
    refine jP ?_
    refine jA ?_
    refine qbT ?_
    refine kD ?_
    refine yY rfl rfl rfl ?_
    refine qcB rfl rfl rfl ?_
    refine kv rfl rfl ff64_0 rfl ?_
    refine kv rfl rfl ff35_0 rfl ?_
    refine yq (i:=0) rfl rfl tf31 rfl rfl (by simp) rfl rfl ?_
    refine yY rfl rfl rfl ?_
    refine yY rfl rfl rfl ?_
    refine qi5 ent55 rfl rfl rfl (fun x24 e24=>qkf e24) (.consF 0 rfl .nil) (fun x24 e24=>?_)
    intro _
    refine yY rfl rfl rfl ?_
    refine qam rfl rfl rfl rfl ?_
    refine qam rfl rfl rfl rfl ?_
    refine qam rfl rfl rfl rfl ?_
    refine jH rfl rfl rfl ?_
    refine jH rfl rfl rfl ?_
    refine jH rfl rfl rfl ?_
    refine jP ?_
    refine jA ?_
    refine qbT ?_
    refine kD ?_
    refine jH rfl rfl rfl ?_
    refine jP ?_
    refine jA ?_
    refine qht (fun (((x31,x32,x33,x34,x35,x36,x37,x38,x39,x40,x41,x42),(a29,c30)):((qAq×Int×Int×Int×Int×Int×Int×Int×Int×Int×Int×Int)×(qAr×Nat)))=>[(0,.pointer (some ⟨g1,0,none⟩)),(1,qAs x22),(7,qAs x24.1),(8,qAs x24.2.1),(10,.slice a29 x31.length c30)]) (fun (((x31,x32,x33,x34,x35,x36,x37,x38,x39,x40,x41,x42),(a29,c30)):((qAq×Int×Int×Int×Int×Int×Int×Int×Int×Int×Int×Int)×(qAr×Nat)))=>[⟨g1,64,[qAs x32,qAs x33,qAs x34,qAs x35,qAs x36,.slice a8 x7.length c9,qAs x37,qAs x38,qAs x39,qAs x40,.slice a15 x14.length c16,qAs x41,.slice a19 x18.length c20,qAs x42]⟩]) (fun (((x31,x32,x33,x34,x35,x36,x37,x38,x39,x40,x41,x42),(a29,c30)):((qAq×Int×Int×Int×Int×Int×Int×Int×Int×Int×Int×Int)×(qAr×Nat)))=>[Ro (eI .i64) 3 1 (.slice a29 x31.length c30) x31]) (fun (((x31,x32,x33,x34,x35,x36,x37,x38,x39,x40,x41,x42),(a29,c30)):((qAq×Int×Int×Int×Int×Int×Int×Int×Int×Int×Int×Int)×(qAr×Nat)))=>[Sl (eI .u8) 1 (.slice a8 x7.length c9) x7,Sl (eI .u8) 1 (.slice a15 x14.length c16) x14,Sl (eI .u8) 1 (.slice a19 x18.length c20) x18]) (fun (((x31,x32,x33,x34,x35,x36,x37,x38,x39,x40,x41,x42),_):((qAq×Int×Int×Int×Int×Int×Int×Int×Int×Int×Int×Int)×(qAr×Nat)))=>kQ F x7 x22 x24 x31 x32 x33 x34 x35 x36 x37 x38 x39 x40 x41 x42) ?_ ?_
    · refine qbT ?_
      refine kD ?_
      refine yY rfl rfl rfl ?_
      refine qr0 rfl rfl rfl rfl ?_
      refine jP ?_
      refine jA ?_
      refine quO rfl (fun h53=>?_) (fun h53=>?_)
      · refine kD ?_
        refine yY rfl rfl rfl ?_
        refine yY rfl rfl rfl ?_
        refine yY rfl rfl rfl ?_
        refine qr2 rfl rfl rfl rfl ?_
        refine qmB ent25 rfl rfl rfl (fun x50 e50=>ih g1 x2 x3 x4 x5 x6 x7 a8 c9 x10 x11 x12 x13 x14 a15 c16 x17 x18 a19 c20 (iadd .i64 x21 1) (isub .i64 x22 x24.1) x50 e50) (.cons 0 rfl .nil) .nil (.consF 0 rfl (.consF 1 rfl (.consF 2 rfl .nil))) (fun x50 e50=>?_)
        rintro ⟨a51,c52⟩
        refine jH rfl rfl rfl ?_
        refine jP ?_
        exact qdt ((x50.1,x50.2.1,x50.2.2.1,x50.2.2.2.1,x50.2.2.2.2.1,x50.2.2.2.2.2.1,x50.2.2.2.2.2.2.1,x50.2.2.2.2.2.2.2.1,x50.2.2.2.2.2.2.2.2.1,x50.2.2.2.2.2.2.2.2.2.1,x50.2.2.2.2.2.2.2.2.2.2.1,x50.2.2.2.2.2.2.2.2.2.2.2),(a51,c52)) (hB:=(.cons 0 rfl .nil)) (hR:=(.cons 0 rfl .nil)) (hF:=(qG 0 rfl (qG 1 rfl (qG 2 rfl jF))))
      · refine qpz ?_
        refine qgX Int (eI .i64) 3 1 ?_
        exact qdt ((([]:qAq),x2,x3,x4,x5,x6,x10,x11,x12,x13,x17,iadd .i64 x21 1),(none,0)) (hB:=(.cons 0 rfl .nil)) (hR:=(.cons 0 rfl .nil)) (hF:=(qG 0 rfl (qG 1 rfl (qG 2 rfl jF))))
    · rintro ⟨⟨x31,x32,x33,x34,x35,x36,x37,x38,x39,x40,x41,x42⟩,⟨a29,c30⟩⟩
      try dsimp only
      refine qbT ?_
      refine kD ?_
      refine yY rfl rfl rfl ?_
      refine qcB rfl rfl rfl ?_
      refine kv rfl rfl ff64_0 rfl ?_
      refine kv rfl rfl ff35_0 rfl ?_
      refine kv rfl rfl ff31_1 rfl ?_
      refine yq (i:=0) rfl rfl tf26 rfl rfl (by simp) rfl rfl ?_
      refine qjs rfl tf26 rfl (fun g43=>?_)
      refine vH (i:=0) rfl rfl rfl tf26 rfl rfl rfl rfl rfl ?_
      refine jP ?_
      refine jA ?_
      refine qbT ?_
      refine kD ?_
      refine yY rfl rfl rfl ?_
      refine kv rfl rfl ff26_0 rfl ?_
      refine vH (i:=0) rfl rfl rfl tf3 rfl rfl rfl rfl rfl ?_
      refine jP ?_
      refine jA ?_
      refine qbT ?_
      refine qB mixed [] [⟨g43,26,[qAs x24.1,qAs x34,qAs x35]⟩,⟨g1,64,[qAs x32,qAs x33,qAs x34,qAs x35,qAs x36,.slice a8 x7.length c9,qAs x37,qAs x38,qAs x39,qAs x40,.slice a15 x14.length c16,qAs x41,.slice a19 x18.length c20,qAs x42]⟩] [Sl (eI .u8) 1 (.slice a8 x7.length c9) x7,Sl (eI .u8) 1 (.slice a15 x14.length c16) x14,Sl (eI .u8) 1 (.slice a19 x18.length c20) x18] (.cons 0 rfl (.cons 0 rfl .nil)) (qF 0 rfl (qF 1 rfl (qF 2 rfl qA))) 18 rfl ?_
      refine qo 0 (.pointer (some ⟨g1,0,none⟩)) rfl rfl rfl (qag rfl) ?_
      refine qo 1 (.pointer (some ⟨g1,0,none⟩)) rfl rfl rfl (qag rfl) ?_
      refine qo 2 (.pointer (some ⟨g1,0,none⟩)) rfl rfl rfl (jB rfl ff64_0) ?_
      refine qo 3 (.pointer (some ⟨g1,0,none⟩)) rfl rfl rfl (jB rfl ff35_0) ?_
      refine qo 4 (.pointer (some ⟨g1,4,none⟩)) rfl rfl rfl (jB rfl ff31_2) ?_
      refine kZ 5 (.agg #[qAs x36,.slice a8 x7.length c9]) rfl rfl rfl (zN (i:=1) rfl tf29 rfl rfl (by simp) rfl) ?_
      refine qo 6 (qAs x24.2.1) rfl rfl rfl (qag rfl) ?_
      refine qo 7 (qAs x22) rfl rfl rfl (qag rfl) ?_
      refine qo 8 (.slice a29 x31.length c30) rfl rfl rfl (qag rfl) ?_
      refine kZ 9 (.agg #[qAs x24.1,qAs x34,qAs x35]) rfl rfl rfl (zN (i:=0) rfl tf26 rfl rfl (by simp) rfl) ?_
      refine qpv 10 rfl (by kernel_rfl) rfl ?_
      refine qi5 ent56 rfl rfl rfl (fun x47 e47=>qjx e47) (.consF 0 rfl (.consR 0 (Ro (eI .i64) 3 1 (.slice a29 x31.length c30) x31) rfl .nil)) (fun x47 e47=>?_)
      rintro ⟨a48,c49⟩
      refine jP ?_
      refine kb (.cons 0 rfl (.cons 0 rfl .nil)) (qF 0 rfl (qF 1 rfl (qF 2 rfl qA))) ?_
      refine qo 11 (.tuple #[.slice a48 x47.1.length c49,qAs x47.2.1,qAs x47.2.2]) rfl rfl rfl (qag rfl) ?_
      refine qo 12 (.slice a48 x47.1.length c49) rfl rfl rfl (qag rfl) ?_
      refine qo 13 (qAs x47.2.1) rfl rfl rfl (qag rfl) ?_
      refine qo 14 (qAs x47.2.2) rfl rfl rfl (qag rfl) ?_
      refine qo 15 (.slice a48 x47.1.length c49) rfl rfl rfl (qag rfl) ?_
      refine qo 16 (qAs x47.2.1) rfl rfl rfl (qag rfl) ?_
      refine qo 17 (qAs x47.2.2) rfl rfl rfl (qag rfl) ?_
      refine qpu (by kernel_rfl) ?_
      refine qM ?_ (by intro c h;cases h)
      refine jA ?_
      refine qbT ?_
      refine kD ?_
      refine yY rfl rfl rfl ?_
      refine jH rfl rfl rfl ?_
      refine jP ?_
      refine jA ?_
      refine qrX ?_
      exact vx (a48,c49) (res1 rfl rfl) (hB:=fun h=>by subst h;exact (.cons 1 rfl .nil)) (hR:=fun h=>by subst h;exact (.cons 0 rfl .nil))
set_option maxHeartbeats 4000000 in
theorem qnc {F:Nat}{x1:Int}{x2:Int}{x3:Int}{x4:Int}{x5:Int}{x6:qAq}{a7:qAr}{c8:Nat}{x9:Int}{x10:Int}{x11:Int}{x12:Int}{x13:qAq}{a14:qAr}{c15:Nat}{x16:Int}{x17:qAq}{a18:qAr}{c19:Nat}{x20:Int}{r:(qAq×Int×Int)}(hm:kP F x1 x2 x3 x4 x5 x6 x9 x10 x11 x12 x13 x16 x17 x20=some r) :
    Pure Tryz.prog 9 [.agg #[qAs x1,qAs x2,qAs x3,qAs x4,qAs x5,.slice a7 x6.length c8,qAs x9,qAs x10,qAs x11,qAs x12,.slice a14 x13.length c15,qAs x16,.slice a18 x17.length c19],qAs x20] [Sl (eI .u8) 1 (.slice a7 x6.length c8) x6,Sl (eI .u8) 1 (.slice a14 x13.length c15) x13,Sl (eI .u8) 1 (.slice a18 x17.length c19) x17] (qAr×Nat) (fun g=>.tuple #[.slice g.1 r.1.length g.2,qAs r.2.1,qAs r.2.2]) (fun g=>[Ro (eI .i64) 3 1 (.slice g.1 r.1.length g.2) r.1]) (fun _=>[]):=by
 refine qi Tryz.func9 rfl Tryz.ntmps9 rfl hm (fun w=>?_)
 refine au [77] ?_
 intro g21
 refine au [5,67,80,29,8] ?_
 intro x22 e22 _
 refine au [46] ?_
 refine qd (fun ((x28,_):(Int×Unit))=>([(1,qAs x20),(2,.pointer (some ⟨g21,0,none⟩)),(7,qAs x28)],[⟨g21,35,[qAs x1,qAs x2,qAs x3,qAs x4,qAs x5,.slice a7 x6.length c8,qAs x9,qAs x10,qAs x11,qAs x12,.slice a14 x13.length c15,qAs x16,.slice a18 x17.length c19]⟩],[],[Sl (eI .u8) 1 (.slice a7 x6.length c8) x6,Sl (eI .u8) 1 (.slice a14 x13.length c15) x13,Sl (eI .u8) 1 (.slice a18 x17.length c19) x17],vZ F x1 x2 x3 x4 x5 x6 x9 x10 x11 x12 x13 x16 x17 x20 x28)) ?_ ?_
 refine au [48,106] ?_
 refine qD 10 (fun ((x37,_):(Bool×Unit))=>([(1,qAs x20),(2,.pointer (some ⟨g21,0,none⟩)),(7,qAs x22),(24,.bool x37)],[⟨g21,35,[qAs x1,qAs x2,qAs x3,qAs x4,qAs x5,.slice a7 x6.length c8,qAs x9,qAs x10,qAs x11,qAs x12,.slice a14 x13.length c15,qAs x16,.slice a18 x17.length c19]⟩],[],[Sl (eI .u8) 1 (.slice a7 x6.length c8) x6,Sl (eI .u8) 1 (.slice a14 x13.length c15) x13,Sl (eI .u8) 1 (.slice a18 x17.length c19) x17],v6 F x1 x2 x3 x4 x5 x6 x9 x10 x11 x12 x13 x16 x17 x20 x22 x37)) ?_ ?_
 refine qb (os:=_) rfl ?_
 refine av [25,7] ?_ ?_
 intro h35
 refine qk (k:=14) rfl h35 ?_
 refine au [1,23,1] ?_
 refine qq 6 (decide (x20<0)) [(1,qAs x20),(2,.pointer (some ⟨g21,0,none⟩)),(7,qAs x22),(14,.bool true),(23,.bool ((decide (x20<0)) || (decide (x1≤x20))))] (fun h39=>?_) (fun h39=>?_) ?_
 refine qb (os:=_) rfl (qk (k:=17) rfl h39 ?_)
 refine au [61,113] ?_
 refine qc (d:=23) (v:=.bool ((decide (x20<0)) || (decide (x1≤x20)))) rfl (by rw[h39];simp only[qx0]) ?_
 exact az [62]
 refine qb (os:=_) rfl (qj (k:=17) rfl h39 ?_)
 refine au [1,12,57,26,3,24,2] ?_
 refine qc (d:=23) (v:=.bool ((decide (x20<0)) || (decide (x1≤x20)))) rfl (by rw[h39];simp only[qxU]) ?_
 exact az [62]
 refine qb (os:=_) rfl ?_
 refine au [74] ?_
 exact qa (((decide (x20<0)) || (decide (x1≤x20))),())
 intro h35
 refine qj (k:=14) rfl h35 ?_
 refine au [61,61,6,76] ?_
 exact qa (false,())
 rintro ⟨x37,_⟩
 try dsimp only
 refine qb (os:=_) rfl ?_
 refine av [51] ?_ ?_
 intro _
 refine au [4,5,0] ?_
 exact qa ((3:Int),())
 intro _
 refine au [9] ?_
 exact qa (x22,())
 rintro ⟨x28,_⟩
 try dsimp only
 refine av [64,71] ?_ ?_
 intro _
 refine au [48,5,5,96] ?_
 exact qm (none,0)
 intro _
 refine au [66,80] ?_
 refine qr (cells:=[qAs x1,qAs x2,qAs x3,qAs x4,qAs x5,.slice a7 x6.length c8,qAs x9,qAs x10,qAs x11,qAs x12,.slice a14 x13.length c15,qAs x16,.slice a18 x17.length c19,qAs 0]) rfl st64 rfl (by kernel_rfl) rfl ?_
 refine au [24,3] ?_
 intro g30
 refine au [46,60] ?_
 refine zg (fun h=>qhW F _ _ _ _ _ _ _ _ _ _ _ _ _ _ _ _ _ _ _ _ _ _ _ h) ?_
 rintro x31 e31 ⟨a32,c33⟩
 refine au [46,3] ?_
 refine qB mixed [] [⟨g30,64,[qAs x31.2.1,qAs x31.2.2.1,qAs x31.2.2.2.1,qAs x31.2.2.2.2.1,qAs x31.2.2.2.2.2.1,.slice a7 x6.length c8,qAs x31.2.2.2.2.2.2.1,qAs x31.2.2.2.2.2.2.2.1,qAs x31.2.2.2.2.2.2.2.2.1,qAs x31.2.2.2.2.2.2.2.2.2.1,.slice a14 x13.length c15,qAs x31.2.2.2.2.2.2.2.2.2.2.1,.slice a18 x17.length c19,qAs x31.2.2.2.2.2.2.2.2.2.2.2]⟩,⟨g21,35,[qAs x1,qAs x2,qAs x3,qAs x4,qAs x5,.slice a7 x6.length c8,qAs x9,qAs x10,qAs x11,qAs x12,.slice a14 x13.length c15,qAs x16,.slice a18 x17.length c19]⟩] [Sl (eI .u8) 1 (.slice a7 x6.length c8) x6,Sl (eI .u8) 1 (.slice a14 x13.length c15) x13,Sl (eI .u8) 1 (.slice a18 x17.length c19) x17] (.cons 0 rfl (.cons 0 rfl .nil)) (qF 0 rfl (qF 1 rfl (qF 2 rfl qA))) 8 rfl ?_
 refine au [105,133,130,7,7,24,14] ?_
 refine qM ?_ (by intro c h;cases h)
 refine au [2,10] ?_
 exact qm (a32,c33)
set_option maxHeartbeats 4000000 in
theorem qlM {F:Nat}{x1:Int}{x2:Int}{x3:Int}{x4:Int}{x5:Int}{x6:qAq}{a7:qAr}{c8:Nat}{x9:Int}{x10:Int}{x11:Int}{x12:Int}{x13:qAq}{a14:qAr}{c15:Nat}{x16:Int}{x17:qAq}{a18:qAr}{c19:Nat}{x20:Int}{x21:Int}{r:(Bool×Int)}(hm:kF F x1 x2 x3 x4 x5 x6 x9 x10 x11 x12 x13 x16 x17 x20 x21=some r) :
    Pure Tryz.prog 10 [.agg #[qAs x1,qAs x2,qAs x3,qAs x4,qAs x5,.slice a7 x6.length c8,qAs x9,qAs x10,qAs x11,qAs x12,.slice a14 x13.length c15,qAs x16,.slice a18 x17.length c19],qAs x20,qAs x21] [Sl (eI .u8) 1 (.slice a7 x6.length c8) x6,Sl (eI .u8) 1 (.slice a14 x13.length c15) x13,Sl (eI .u8) 1 (.slice a18 x17.length c19) x17] Unit (fun _=>.tuple #[.bool r.1,qAs r.2]) (fun _=>[]) (fun _=>[]):=by
 refine qi Tryz.func10 rfl Tryz.ntmps10 rfl hm (fun w=>?_)
 refine au [104] ?_
 intro g22
 refine au [67,80,1,29,9] ?_
 rintro x23 e23 ⟨a24,c25⟩
 refine au [129,5,67] ?_
 refine qd (fun ((x31,_):(Int×Unit))=>([(2,qAs x21),(8,.slice a24 x23.1.length c25),(10,qAs x31)],[],[Ro (eI .i64) 3 1 (.slice a24 x23.1.length c25) x23.1],[],vv F x21 x23 x31)) ?_ ?_
 refine au [48,106] ?_
 refine qD 10 (fun ((x37,_):(Bool×Unit))=>([(2,qAs x21),(8,.slice a24 x23.1.length c25),(10,qAs x23.2.2),(32,.bool x37)],[],[Ro (eI .i64) 3 1 (.slice a24 x23.1.length c25) x23.1],[],vw F x21 x23 x37)) ?_ ?_
 refine qb (os:=_) rfl ?_
 refine av [25,7] ?_ ?_
 intro h35
 refine qk (k:=22) rfl h35 ?_
 refine au [1,23,1] ?_
 refine qq 6 (decide (x21<0)) [(2,qAs x21),(8,.slice a24 x23.1.length c25),(10,qAs x23.2.2),(22,.bool true),(31,.bool ((decide (x21<0)) || (decide (x1≤x21))))] (fun h39=>?_) (fun h39=>?_) ?_
 refine qb (os:=_) rfl (qk (k:=25) rfl h39 ?_)
 refine au [61,113] ?_
 refine qc (d:=31) (v:=.bool ((decide (x21<0)) || (decide (x1≤x21)))) rfl (by rw[h39];simp only[qx0]) ?_
 exact az [62]
 refine qb (os:=_) rfl (qj (k:=25) rfl h39 ?_)
 refine au [1,12,57,26,3,24,2] ?_
 refine qc (d:=31) (v:=.bool ((decide (x21<0)) || (decide (x1≤x21)))) rfl (by rw[h39];simp only[qxU]) ?_
 exact az [62]
 refine qb (os:=_) rfl ?_
 refine au [74] ?_
 exact qa (((decide (x21<0)) || (decide (x1≤x21))),())
 intro h35
 refine qj (k:=22) rfl h35 ?_
 refine au [61,61,6,76] ?_
 exact qa (false,())
 rintro ⟨x37,_⟩
 try dsimp only
 refine qb (os:=_) rfl ?_
 refine av [51] ?_ ?_
 intro _
 refine au [4,5,0] ?_
 exact qa ((3:Int),())
 intro _
 refine au [9] ?_
 exact qa (x23.2.2,())
 rintro ⟨x31,_⟩
 try dsimp only
 refine av [64,71] ?_ ?_
 intro _
 exact az [48,5,82]
 intro _
 refine au [66,60,30,0] ?_
 intro x33 e33 _
 exact az [79,67,48,5,73]
theorem qom {F:Nat}{x1:Int}{x2:Int}{x3:Int}{r:Bool}(hm:zu F x1 x2 x3=some r) :
    Pure Tryz.prog 87 [qAs x1,qAs x2,qAs x3] [] Unit (fun _=>.bool r) (fun _=>[]) (fun _=>[]):=by
 refine qi Tryz.func87 rfl Tryz.ntmps87 rfl hm (fun w=>?_)
 refine au [25,15,53,60,26,3,1] ?_
 refine qq 4 (decide (x2≤x1)) [(14,.bool ((decide (x2≤x1)) && (decide (x1≤x3))))] (fun h4=>?_) (fun h4=>?_) ?_
 refine qb (os:=_) rfl (qk (k:=10) rfl h4 ?_)
 refine au [91,26,7,24,1] ?_
 refine qc (d:=14) (v:=.bool ((decide (x2≤x1)) && (decide (x1≤x3)))) rfl (by rw[h4];simp only[Bool.true_and]) ?_
 exact az [62]
 refine qb (os:=_) rfl (qj (k:=10) rfl h4 ?_)
 refine au [56,6,24,2] ?_
 refine qc (d:=14) (v:=.bool ((decide (x2≤x1)) && (decide (x1≤x3)))) rfl (by rw[h4];simp only[Bool.false_and]) ?_
 exact az [62]
 refine qb (os:=_) rfl ?_
 exact az [73]
set_option maxHeartbeats 4000000 in
theorem qj8 {F:Nat}{x1:List (qAq)}{a2:qAr}{c3:Nat}{s3:List (qAr×Nat)}{r:Int}(hm:qdx F x1=some r) :
    Pure Tryz.prog 59 [.agg #[.slice a2 x1.length c3]] [SlN eN39 iN39 1 (.slice a2 x1.length c3) x1 s3] Unit (fun _=>qAs r) (fun _=>[]) (fun _=>[]):=by
 refine qi Tryz.func59 rfl Tryz.ntmps59 rfl hm (fun w=>?_)
 refine au [108] ?_
 intro g4
 refine av [46,94,21,46,64,65] ?_ ?_
 intro _
 exact az [47,82]
 intro _
 refine au [66,53] ?_
 refine qd (fun ((x0,_):(Int×Unit))=>([(4,qAs x0)],[],[],[],qdh F x0)) ?_ ?_
 refine au [53,14] ?_
 refine ql (fun (((x2,x3),_):((Int×Int)×Unit))=>([(1,.pointer (some ⟨g4,0,none⟩)),(3,qAs (x1.length:Int)),(4,qAs x2),(5,qAs x3)],[⟨g4,24,[.slice a2 x1.length c3]⟩],[],[SlN eN39 iN39 1 (.slice a2 x1.length c3) x1 s3])) (fun k (s:((Int×Int)×Unit))=>qY F x1 k s.1) ((0,0),()) F ?_
 intro k0
 rintro ⟨⟨x2,x3⟩,_⟩
 try dsimp only
 refine qp (m':=jI F x1 (qY F x1 k0) x2 x3) rfl ?_
 refine av [3,60,75] ?_ ?_
 intro _
 refine au [66] ?_
 refine qd (fun ((x4,_):(Int×Unit))=>([(1,.pointer (some ⟨g4,0,none⟩)),(3,qAs (x1.length:Int)),(4,qAs x4),(5,qAs x3)],[⟨g4,24,[.slice a2 x1.length c3]⟩],[],[SlN eN39 iN39 1 (.slice a2 x1.length c3) x1 s3],kh F (qY F x1 k0) x3 x4)) ?_ ?_
 refine au [14,53,14] ?_
 refine ql (fun (((x5,x6),_):((Int×Int)×Unit))=>([(1,.pointer (some ⟨g4,0,none⟩)),(3,qAs (x1.length:Int)),(4,qAs x5),(5,qAs x3),(6,qAs x6)],[⟨g4,24,[.slice a2 x1.length c3]⟩],[],[SlN eN39 iN39 1 (.slice a2 x1.length c3) x1 s3])) (fun k (s:((Int×Int)×Unit))=>zk F (qY F x1 k0) x1 x3 k s.1) ((x2,0),()) F ?_
 intro k1
 rintro ⟨⟨x5,x6⟩,_⟩
 try dsimp only
 refine qp (m':=jJ F (qY F x1 k0) x1 x3 (zk F (qY F x1 k0) x1 x3 k1) x5 x6) rfl ?_
 refine au [64,57,1,27,0] ?_
 intro x7 e0 g0 b0 o0
 refine av [25,3,21,75] ?_ ?_
 intro _
 refine au [90,3,94,1] ?_
 refine qla (j:=2) vf (by decide) rfl UnF.u inferInstance rfl rfl rfl rfl ?_
 intro x8 e1 g1 b1 o1
 refine au [25,3,1,26,15] ?_
 intro x9 e2 b2 o2
 refine au [25,3,85,26,13] ?_
 intro x10 e3 _
 refine av [102] ?_ ?_
 intro _
 exact az [47,55,86,24,0,92,18]
 intro _
 refine au [89] ?_
 refine qd (fun ((x11,_):(Bool×Unit))=>([(1,.pointer (some ⟨g4,0,none⟩)),(3,qAs (x1.length:Int)),(4,qAs x5),(5,qAs x3),(6,qAs x6),(60,.bool x11)],[⟨g4,24,[.slice a2 x1.length c3]⟩],[],[SlN eN39 iN39 1 (.slice a2 x1.length c3) x1 s3],kj F (zk F (qY F x1 k0) x1 x3 k1) x5 x6 x11)) ?_ ?_
 refine av [27,2] ?_ ?_
 intro h0
 refine qk5 (j:=5) vf (by decide) rfl ?_
 intro x12 e4 g2 b3 o3 h1
 replace h1:a2=some ⟨b3,o3,none⟩:=h1
 refine au [27,12] ?_
 intro x13 e5 b4 o4 h2
 replace h2:g2.1=some ⟨b4,o4,none⟩:=h2
 refine qk5 (j:=8) vf (by decide) rfl ?_
 intro x14 e6 g3 b5 o5 h3
 replace h3:a2=some ⟨b5,o5,none⟩:=h3
 refine au [27,12] ?_
 intro x15 e7 b6 o6 h4
 replace h4:g3.1=some ⟨b6,o6,none⟩:=h4
 refine qB mixed [] [⟨g4,24,[.slice a2 x1.length c3]⟩] [qv b6 (o6+(isub .i64 x6 1).toNat*1) ((eI .i64) x15),qv b5 (o5+x3.toNat*1) (eN39 (x14,g3)),Sl (eI .i64) 1 (.slice g3.1 x14.length g3.2) x14,qv b4 (o4+x6.toNat*1) ((eI .i64) x13),qv b3 (o3+x3.toNat*1) (eN39 (x12,g2)),Sl (eI .i64) 1 (.slice g2.1 x12.length g2.2) x12,qv b2 o2 ((eI .i64) x9),qv b1 o1 (eN39 (x8,g1)),Sl (eI .i64) 1 (.slice g1.1 x8.length g1.2) x8,qv b0 o0 (eN39 (x7,g0)),Sl (eI .i64) 1 (.slice g0.1 x7.length g0.2) x7,SlN eN39 iN39 1 (.slice a2 x1.length c3) x1 s3] (.cons 0 rfl .nil) (qF 0 rfl (qF 1 rfl (qF 2 rfl (qF 3 rfl (qF 4 rfl (qF 5 rfl (qF 6 rfl (qF 7 rfl (qF 8 rfl (qF 9 rfl (qF 10 rfl (qF 11 rfl qA)))))))))))) 22 rfl ?_
 refine au [105] ?_
 refine qh (d:=41) (v:=.bool true) rfl (by rw[h0] <;> rfl) ?_
 refine au [133,7,5] ?_
 refine qh (d:=43) (v:=.slice (some ⟨b3,o3,none⟩) x1.length c3) rfl (by rw[h1] <;> rfl) (qo 6 (.pointer (some ⟨b3,(o3+x3.toNat*1),none⟩)) rfl rfl rfl (yV Tryz.underlying22 tf39 rfl rfl (qQ e4).1 (kC e4)) (qh (d:=43) (v:=.slice a2 x1.length c3) rfl (by rw[h1] <;> rfl) (qJ 7 (.slice g2.1 x12.length g2.2) [] rfl rfl rfl (zJ (j:=4) rfl tf39 rfl rfl (fun _=>rfl) rfl) ?_)))
 refine au [7,8] ?_
 refine qh (d:=46) (v:=.slice (some ⟨b4,o4,none⟩) x12.length g2.2) rfl (by rw[h2] <;> rfl) (qo 9 (.pointer (some ⟨b4,(o4+x6.toNat*1),none⟩)) rfl rfl rfl (yV Tryz.underlying39 tf3 rfl rfl (qQ e5).1 (kC e5)) (qh (d:=46) (v:=.slice g2.1 x12.length g2.2) rfl (by rw[h2] <;> rfl) (qJ 10 (qAs x13) [] rfl rfl rfl (zJ (j:=3) rfl tf3 rfl rfl (fun _=>rfl) rfl) ?_)))
 refine au [24,4,11,25,12,12,7,13] ?_
 refine qh (d:=51) (v:=.slice (some ⟨b5,o5,none⟩) x1.length c3) rfl (by rw[h3] <;> rfl) (qo 14 (.pointer (some ⟨b5,(o5+x3.toNat*1),none⟩)) rfl rfl rfl (yV Tryz.underlying22 tf39 rfl rfl (qQ e6).1 (kC e6)) (qh (d:=51) (v:=.slice a2 x1.length c3) rfl (by rw[h3] <;> rfl) (qJ 15 (.slice g3.1 x14.length g3.2) [] rfl rfl rfl (zJ (j:=1) rfl tf39 rfl rfl (fun _=>rfl) rfl) ?_)))
 refine au [7,16,7,17] ?_
 refine qh (d:=54) (v:=.slice (some ⟨b6,o6,none⟩) x14.length g3.2) rfl (by rw[h4] <;> rfl) (qo 18 (.pointer (some ⟨b6,(o6+(isub .i64 x6 1).toNat*1),none⟩)) rfl rfl rfl (yV Tryz.underlying39 tf3 rfl rfl (qQ e7).1 (kC e7)) (qh (d:=54) (v:=.slice g3.1 x14.length g3.2) rfl (by rw[h4] <;> rfl) (qJ 19 (qAs x15) [] rfl rfl rfl (zJ (j:=0) rfl tf3 rfl rfl (fun _=>rfl) rfl) ?_)))
 refine au [7,20,7,21,24,14] ?_
 exact qM (qa ((decide (x13≤x15)),())) (by intro c h;cases h)
 intro h0
 refine qB mixed [] [⟨g4,24,[.slice a2 x1.length c3]⟩] [qv b2 o2 ((eI .i64) x9),qv b1 o1 (eN39 (x8,g1)),Sl (eI .i64) 1 (.slice g1.1 x8.length g1.2) x8,qv b0 o0 (eN39 (x7,g0)),Sl (eI .i64) 1 (.slice g0.1 x7.length g0.2) x7,SlN eN39 iN39 1 (.slice a2 x1.length c3) x1 s3] (.cons 0 rfl .nil) (qF 0 rfl (qF 1 rfl (qF 2 rfl (qF 3 rfl (qF 4 rfl (qF 5 rfl qA)))))) 22 rfl ?_
 refine au [105] ?_
 refine qh (d:=41) (v:=.bool false) rfl (by rw[h0] <;> rfl) ?_
 refine au [15,3,15,4,15,5,15,6,15,7,15,8,118,110,15,13,15,14,15,15,15,16,15,17,15,18,15,19,15,20,7,21,24,14] ?_
 exact qM (qa (false,())) (by intro c h;cases h)
 rintro ⟨x11,_⟩
 try dsimp only
 refine av [8] ?_ ?_
 intro _
 exact az [47,55,86,24,0,92,18]
 intro _
 refine au [66,4,78,95,2,4,78,5,0] ?_
 exact qg ((iadd .i64 x5 1,iadd .i64 x6 1),())
 intro _
 refine au [63,22] ?_
 exact qa (x5,())
 rintro ⟨x4,_⟩
 try dsimp only
 refine au [4,78,5,0] ?_
 exact qg ((x4,iadd .i64 x3 1),())
 intro _
 refine au [63] ?_
 exact qa (x2,())
 rintro ⟨x0,_⟩
 try dsimp only
 refine av [64,65] ?_ ?_
 intro _
 exact az [47,82]
 intro _
 exact az [66,47,73]
set_option maxHeartbeats 4000000 in
theorem qmM {F:Nat}{x1:Int}{x2:Int}{x3:Int}{r:Int}(hm:qca F x1 x2 x3=some r) :
    Pure Tryz.prog 60 [.agg #[qAs x1,qAs x2,qAs x3]] [] Unit (fun _=>qAs r) (fun _=>[]) (fun _=>[]):=by
 refine qi Tryz.func60 rfl Tryz.ntmps60 rfl hm (fun w=>?_)
 refine au [108] ?_
 intro g4
 refine au [46,3,94,26,13] ?_
 intro x21 e21 _
 refine au [25,4,1] ?_
 refine qD 10 (fun ((x27,_):(Bool×Unit))=>([(1,.pointer (some ⟨g4,0,none⟩)),(17,.bool x27)],[⟨g4,26,[qAs x1,qAs x2,qAs x3]⟩],[],[],qaQ F x3 x27)) ?_ ?_
 refine qb (os:=_) rfl ?_
 refine av [25,7] ?_ ?_
 intro h22
 refine qk (k:=7) rfl h22 ?_
 refine au [61,61,6,74] ?_
 exact qa (true,())
 intro h22
 refine qj (k:=7) rfl h22 ?_
 refine au [57,25,2,1] ?_
 refine qD 5 (fun ((x35,_):(Bool×Unit))=>([(1,.pointer (some ⟨g4,0,none⟩)),(7,.bool false),(16,.bool x35)],[⟨g4,26,[qAs x1,qAs x2,qAs x3]⟩],[],[],qcV F x3 x35)) ?_ ?_
 refine qb (os:=_) rfl ?_
 refine av [25,7] ?_ ?_
 intro h33
 refine qk (k:=11) rfl h33 ?_
 refine au [57,26,13] ?_
 intro x36 e36 _
 refine au [25,4,74] ?_
 exact qa ((!x36),())
 intro h33
 refine qj (k:=11) rfl h33 ?_
 refine au [61,76] ?_
 exact qa (false,())
 rintro ⟨x35,_⟩
 try dsimp only
 refine qb (os:=_) rfl ?_
 refine au [76] ?_
 exact qa (x35,())
 rintro ⟨x27,_⟩
 try dsimp only
 refine qb (os:=_) rfl ?_
 refine au [1] ?_
 refine qD 5 (fun ((x30,_):(Bool×Unit))=>([(23,.bool x30)],[],[],[],qcU F x30)) ?_ ?_
 refine qb (os:=_) rfl ?_
 refine av [25,7] ?_ ?_
 intro h28
 refine qk (k:=18) rfl h28 ?_
 refine au [61,74] ?_
 exact qa (true,())
 intro h28
 refine qj (k:=18) rfl h28 ?_
 refine au [57,26,13] ?_
 intro x32 e32 _
 refine au [25,4,76] ?_
 exact qa ((!x32),())
 rintro ⟨x30,_⟩
 try dsimp only
 refine qb (os:=_) rfl ?_
 refine av [51] ?_ ?_
 intro _
 exact az [47,82]
 intro _
 exact az [66,47,73]
theorem qpQ {F:Nat}{x1:Int}{r:qAq}(hm:qgz F x1=some r) :
    Pure Tryz.prog 118 [.int .u64 x1] [] (qAr×Nat) (fun g=>.slice g.1 r.length g.2) (fun g=>[Ro (eI .i64) 3 1 (.slice g.1 r.length g.2) r]) (fun _=>[]):=by
 refine qi Tryz.func118 rfl Tryz.ntmps118 rfl hm (fun w=>?_)
 refine au [109,53] ?_
 refine qd (fun ((x31,(a29,c30)):(qAq×(qAr×Nat)))=>([(3,.slice a29 x31.length c30)],[],[Ro (eI .i64) 3 1 (.slice a29 x31.length c30) x31],[],qf5 F x31)) ?_ ?_
 refine au [98] ?_
 refine ql (fun (((x40,x43),(a41,c42)):((Int×qAq)×(qAr×Nat)))=>([(0,.int .u64 x40),(3,.slice a41 x43.length c42)],[],[Ro (eI .i64) 3 1 (.slice a41 x43.length c42) x43],[])) (fun k (s:((Int×qAq)×(qAr×Nat)))=>qba F k s.1) ((x1,([]:qAq)),(none,0)) F ?_
 intro k51
 rintro ⟨⟨x40,x43⟩,⟨a41,c42⟩⟩
 try dsimp only
 refine qp (m':=qeq F (qba F k51) x40 x43) rfl ?_
 refine av [64,65] ?_ ?_
 intro _
 refine au [66,14,48,27,1,24,15] ?_
 refine qx (vs:=[qAs (iconv .i64 (irem x40 2))]) (ys:=([iconv .i64 (irem x40 2)]:qAq)) (qs .i64) (by decide) rfl Tryz.underlying39 tf3 rfl rfl rfl rfl rfl (by decide) (fun a53 c54=>?_)
 refine au [1] ?_
 refine qE 0 (qs .i64) rfl Tryz.underlying39 tf3 rfl rfl rfl rfl rfl (.inl ⟨1,_,rfl⟩) rfl rfl (fun x55 e55 a56 c57=>?_)
 refine au [46,4,1,26,14,95] ?_
 exact qg ((iquo .u64 x40 2,x55),(a56,c57))
 intro _
 refine au [63] ?_
 exact qa (x43,(a41,c42))
 rintro ⟨x31,⟨a29,c30⟩⟩
 try dsimp only
 refine au [48,49] ?_
 exact qm (a29,c30)
set_option maxHeartbeats 4000000 in
theorem qll {F:Nat}{x1:Int}{r:qAq}(hm:kd F x1=some r) :
    Pure Tryz.prog 88 [.int .u64 x1] [] (qAr×Nat) (fun g=>.slice g.1 r.length g.2) (fun g=>[Ro (eI .i64) 3 1 (.slice g.1 r.length g.2) r]) (fun _=>[]):=by
 refine qi Tryz.func88 rfl Tryz.ntmps88 rfl hm (fun w=>?_)
 refine au [109,48,16] ?_
 refine qf qpQ ?_
 rintro x2 e2 ⟨a3,c4⟩
 refine au [46,53] ?_
 refine qd (fun ((x48,(a46,c47)):(qAq×(qAr×Nat)))=>([(3,.slice a3 x2.length c4),(4,.slice a46 x48.length c47)],[],[Ro (eI .i64) 3 1 (.slice a3 x2.length c4) x2,Ro (eI .i64) 3 1 (.slice a46 x48.length c47) x48],[],qdY F x2 x48)) ?_ ?_
 refine au [53,98] ?_
 refine ql (fun (((x66,x67),(a64,c65)):((qAq×Int)×(qAr×Nat)))=>([(3,.slice a3 x2.length c4),(4,.slice a64 x66.length c65),(5,qAs x67)],[],[Ro (eI .i64) 3 1 (.slice a3 x2.length c4) x2,Ro (eI .i64) 3 1 (.slice a64 x66.length c65) x66],[])) (fun k (s:((qAq×Int)×(qAr×Nat)))=>vk F x2 k s.1) ((([]:qAq),1),(none,0)) F ?_
 intro k80
 rintro ⟨⟨x66,x67⟩,⟨a64,c65⟩⟩
 try dsimp only
 refine qp (m':=qb9 F x2 (vk F x2 k80) x66 x67) rfl ?_
 refine av [3,116] ?_ ?_
 intro _
 refine au [90,4,1] ?_
 refine qx (vs:=[qAs 0]) (ys:=([0]:qAq)) (qs .i64) (by decide) rfl Tryz.underlying39 tf3 rfl rfl rfl rfl rfl (by decide) (fun a87 c88=>qE 2 (qs .i64) rfl Tryz.underlying39 tf3 rfl rfl rfl rfl rfl (.inl ⟨0,_,rfl⟩) rfl rfl (fun x89 e89 a90 c91=>?_))
 refine au [95,2,4,78,5,0] ?_
 exact qg ((x89,iadd .i64 x67 1),(a90,c91))
 intro _
 refine au [63] ?_
 exact qa (x66,(a64,c65))
 rintro ⟨x48,⟨a46,c47⟩⟩
 try dsimp only
 refine au [60] ?_
 refine qE 1 (qs .i64) rfl Tryz.underlying39 tf3 rfl rfl rfl rfl rfl (.inl ⟨0,_,rfl⟩) rfl rfl (fun x49 e49 a50 c51=>?_)
 refine au [49] ?_
 exact qm (a50,c51)
theorem qpO {F:Nat}{x1:qAq}{a2:qAr}{c3:Nat}{x4:Int}{r:Bool}(hm:qau F x1 x4=some r) :
    Pure Tryz.prog 18 [.slice a2 x1.length c3,qAs x4] [Sl (eI .i64) 1 (.slice a2 x1.length c3) x1] Unit (fun _=>.bool r) (fun _=>[]) (fun _=>[]):=by
 refine qi Tryz.func18 rfl Tryz.ntmps18 rfl hm (fun w=>?_)
 refine au [87] ?_
 refine qd (fun ((_,_):(Unit×Unit))=>([],[],[],[],qf3 F)) ?_ ?_
 refine au [53,14] ?_
 refine ql (fun ((x47,_):(Int×Unit))=>([(0,.slice a2 x1.length c3),(1,qAs x4),(5,qAs x47)],[],[],[Sl (eI .i64) 1 (.slice a2 x1.length c3) x1])) (fun k (s:(Int×Unit))=>qa6 F x1 x4 k s.1) (0,()) F ?_
 intro k58
 rintro ⟨x47,_⟩
 try dsimp only
 refine qp (m':=qei F x1 x4 (qa6 F x1 x4 k58) x47) rfl ?_
 refine av [3,116] ?_ ?_
 intro _
 refine au [90,60,25,14] ?_
 intro x64 e64 b65 o66
 refine av [25,3,1,68] ?_ ?_
 intro _
 exact az [47,49,92,18]
 intro _
 refine au [9,22,2,4,78,5,0] ?_
 exact qg (iadd .i64 x47 1,())
 intro _
 exact az [119]
 rintro ⟨_,_⟩
 try dsimp only
 exact az [47,73]
set_option maxHeartbeats 4000000 in
theorem qjL {F:Nat}{x1:qAq}{a2:qAr}{c3:Nat}{x4:qAq}{a5:qAr}{c6:Nat}{r:(qAq×qAq)}(hm:qcW F x1 x4=some r) :
    Pure Tryz.prog 119 [.slice a2 x1.length c3,.slice a5 x4.length c6] [Sl (eI .i64) 1 (.slice a2 x1.length c3) x1,Sl (eI .i64) 1 (.slice a5 x4.length c6) x4] ((qAr×Nat)×(qAr×Nat)) (fun g=>.tuple #[.slice g.1.1 r.1.length g.1.2,.slice g.2.1 r.2.length g.2.2]) (fun g=>[Ro (eI .i64) 3 1 (.slice g.1.1 r.1.length g.1.2) r.1,Ro (eI .i64) 3 1 (.slice g.2.1 r.2.length g.2.2) r.2]) (fun _=>[]):=by
 refine qi Tryz.func119 rfl Tryz.ntmps119 rfl hm (fun w=>?_)
 refine au [124,67,47,67,53] ?_
 refine qd (fun ((x0,(a0,c0)):(qAq×(qAr×Nat)))=>([(0,.slice a2 x1.length c3),(1,.slice a5 x4.length c6),(6,.slice a0 x0.length c0),(7,.slice none 0 0)],[],[Ro (eI .i64) 3 1 (.slice a0 x0.length c0) x0],[Sl (eI .i64) 1 (.slice a2 x1.length c3) x1,Sl (eI .i64) 1 (.slice a5 x4.length c6) x4],qcC F x1 x4 x0)) ?_ ?_
 refine au [53,98] ?_
 refine ql (fun (((x2,x3,x5),(a1,c1)):((qAq×Int×Int)×(qAr×Nat)))=>([(0,.slice a2 x1.length c3),(1,.slice a5 x4.length c6),(6,.slice a1 x2.length c1),(7,.slice none 0 0),(8,qAs x3),(9,qAs x5)],[],[Ro (eI .i64) 3 1 (.slice a1 x2.length c1) x2],[Sl (eI .i64) 1 (.slice a2 x1.length c3) x1,Sl (eI .i64) 1 (.slice a5 x4.length c6) x4])) (fun k (s:((qAq×Int×Int)×(qAr×Nat)))=>zA F x1 x4 k s.1) ((([]:qAq),0,0),(none,0)) F ?_
 intro k0
 rintro ⟨⟨x2,x3,x5⟩,⟨a1,c1⟩⟩
 try dsimp only
 refine qp (m':=jL F x1 x4 (zA F x1 x4 k0) x2 x3 x5) rfl ?_
 refine av [3,116] ?_ ?_
 intro _
 refine au [66] ?_
 refine qd (fun (((x6,x7),(a3,c2)):((qAq×Int)×(qAr×Nat)))=>([(0,.slice a2 x1.length c3),(1,.slice a5 x4.length c6),(6,.slice a3 x6.length c2),(7,.slice none 0 0),(8,qAs x7),(9,qAs x5)],[],[Ro (eI .i64) 3 1 (.slice a3 x6.length c2) x6],[Sl (eI .i64) 1 (.slice a2 x1.length c3) x1,Sl (eI .i64) 1 (.slice a5 x4.length c6) x4],jN F (zA F x1 x4 k0) x5 x6 x7)) ?_ ?_
 refine au [14,53] ?_
 refine qd (fun ((x8,_):(Bool×Unit))=>([(0,.slice a2 x1.length c3),(1,.slice a5 x4.length c6),(6,.slice a1 x2.length c1),(7,.slice none 0 0),(8,qAs x3),(9,qAs x5),(10,.bool x8)],[],[Ro (eI .i64) 3 1 (.slice a1 x2.length c1) x2],[Sl (eI .i64) 1 (.slice a2 x1.length c3) x1,Sl (eI .i64) 1 (.slice a5 x4.length c6) x4],yW F (zA F x1 x4 k0) x1 x4 x2 x3 x5 x8)) ?_ ?_
 refine av [48,65] ?_ ?_
 intro _
 refine au [99,85,25,14] ?_
 intro x9 e0 b0 o0
 refine au [25,3,28,8] ?_
 intro x10 e1 _
 refine au [5,0] ?_
 exact qa (x10,())
 intro _
 refine au [9] ?_
 exact qa (true,())
 rintro ⟨x8,_⟩
 try dsimp only
 refine au [60,1,25,14] ?_
 intro x11 e2 b1 o1
 refine au [25,3,28,8] ?_
 intro x12 e3 _
 refine av [1,32,8,51] ?_ ?_
 intro _
 refine au [60,85] ?_
 refine qx (vs:=[qAs (isub .i64 x5 x3)]) (ys:=([isub .i64 x5 x3]:qAq)) (qs .i64) (by decide) rfl Tryz.underlying39 tf3 rfl rfl rfl rfl rfl (by decide) (fun a4 c4=>qE 1 (qs .i64) rfl Tryz.underlying39 tf3 rfl rfl rfl rfl rfl (.inl ⟨0,_,rfl⟩) rfl rfl (fun x13 e4 a6 c5=>?_))
 refine au [46,4,1,95] ?_
 exact qa ((x13,x5),(a6,c5))
 intro _
 refine au [9,22] ?_
 exact qa ((x2,x3),(a1,c1))
 rintro ⟨⟨x6,x7⟩,⟨a3,c2⟩⟩
 try dsimp only
 refine au [4,78,5,0] ?_
 exact qg ((x6,x7,iadd .i64 x5 1),(a3,c2))
 intro _
 refine au [63] ?_
 exact qa (x2,(a1,c1))
 rintro ⟨x0,⟨a0,c0⟩⟩
 try dsimp only
 refine qd (fun ((x14,(a7,c7)):(qAq×(qAr×Nat)))=>([(6,.slice a0 x0.length c0),(7,.slice a7 x14.length c7)],[],[Ro (eI .i64) 3 1 (.slice a0 x0.length c0) x0,Ro (eI .i64) 3 1 (.slice a7 x14.length c7) x14],[],qcD F x0 x14)) ?_ ?_
 refine au [53,98] ?_
 refine ql (fun (((x15,x16),(a8,c8)):((qAq×Int)×(qAr×Nat)))=>([(0,.slice a2 x1.length c3),(1,.slice a5 x4.length c6),(6,.slice a0 x0.length c0),(7,.slice a8 x15.length c8),(11,qAs x16)],[],[Ro (eI .i64) 3 1 (.slice a0 x0.length c0) x0,Ro (eI .i64) 3 1 (.slice a8 x15.length c8) x15],[Sl (eI .i64) 1 (.slice a2 x1.length c3) x1,Sl (eI .i64) 1 (.slice a5 x4.length c6) x4])) (fun k (s:((qAq×Int)×(qAr×Nat)))=>km F x1 x4 x0 k s.1) ((([]:qAq),0),(none,0)) F ?_
 intro k1
 rintro ⟨⟨x15,x16⟩,⟨a8,c8⟩⟩
 try dsimp only
 refine qp (m':=jK F x1 x4 x0 (km F x1 x4 x0 k1) x15 x16) rfl ?_
 refine av [3,116] ?_ ?_
 intro _
 refine au [66] ?_
 refine qd (fun ((x17,(a9,c9)):(qAq×(qAr×Nat)))=>([(0,.slice a2 x1.length c3),(1,.slice a5 x4.length c6),(6,.slice a0 x0.length c0),(7,.slice a9 x17.length c9),(11,qAs x16)],[],[Ro (eI .i64) 3 1 (.slice a0 x0.length c0) x0,Ro (eI .i64) 3 1 (.slice a9 x17.length c9) x17],[Sl (eI .i64) 1 (.slice a2 x1.length c3) x1,Sl (eI .i64) 1 (.slice a5 x4.length c6) x4],jM F (km F x1 x4 x0 k1) x16 x17)) ?_ ?_
 refine au [14,60,1,26,15] ?_
 intro x18 e5 b2 o2
 refine au [25,3,28,8] ?_
 intro x19 e6 _
 refine av [102] ?_ ?_
 intro _
 refine au [99,1,35,11] ?_
 intro x20 e7 b3 o3
 refine au [25,3] ?_
 refine qx (vs:=[qAs x20]) (ys:=([x20]:qAq)) (qs .i64) (by decide) rfl Tryz.underlying39 tf3 rfl rfl rfl rfl rfl (by decide) (fun a10 c10=>qE 2 (qs .i64) rfl Tryz.underlying39 tf3 rfl rfl rfl rfl rfl (.inl ⟨0,_,rfl⟩) rfl rfl (fun x21 e8 a11 c11=>?_))
 refine au [95] ?_
 exact qa (x21,(a11,c11))
 intro _
 refine au [9,22] ?_
 exact qa (x15,(a8,c8))
 rintro ⟨x17,⟨a9,c9⟩⟩
 try dsimp only
 refine au [4,78,5,0] ?_
 exact qg ((x17,iadd .i64 x16 1),(a9,c9))
 intro _
 refine au [63] ?_
 exact qa (x15,(a8,c8))
 rintro ⟨x14,⟨a7,c7⟩⟩
 try dsimp only
 refine au [60,5,49] ?_
 exact qm ((a0,c0),(a7,c7))
set_option maxHeartbeats 4000000 in
theorem qls {F:Nat}{x1:qAq}{a2:qAr}{c3:Nat}{x4:Int}{r:(List (Int×Int)×qAq)}(hm:qen F x1 x4=some r) :
    Pure Tryz.prog 120 [.slice a2 x1.length c3,qAs x4] [Sl (eI .i64) 1 (.slice a2 x1.length c3) x1] ((qAr×Nat)×(qAr×Nat)) (fun g=>.tuple #[.slice g.1.1 r.1.length g.1.2,.slice g.2.1 r.2.length g.2.2]) (fun g=>[Ro eS189 189 2 (.slice g.1.1 r.1.length g.1.2) r.1,Ro (eI .i64) 3 1 (.slice g.2.1 r.2.length g.2.2) r.2]) (fun _=>[]):=by
 refine qi Tryz.func120 rfl Tryz.ntmps120 rfl hm (fun w=>?_)
 refine au [124,67,53,53] ?_
 refine qd (fun (((x0,x2),(a0,c0,a1,c1)):((List (Int×Int)×qAq)×(qAr×Nat×qAr×Nat)))=>([(6,.slice a0 x0.length c0),(7,.slice a1 x2.length c1)],[],[Ro eS189 189 2 (.slice a0 x0.length c0) x0,Ro (eI .i64) 3 1 (.slice a1 x2.length c1) x2],[],qdC F x0 x2)) ?_ ?_
 refine au [53,14,32,9,26,2] ?_
 refine ql (fun (((x3,x5,x6),(a3,c2,a4,c4)):((List (Int×Int)×qAq×Int)×(qAr×Nat×qAr×Nat)))=>([(0,.slice a2 x1.length c3),(1,qAs x4),(6,.slice a3 x3.length c2),(7,.slice a4 x5.length c4),(8,qAs x6)],[],[Ro eS189 189 2 (.slice a3 x3.length c2) x3,Ro (eI .i64) 3 1 (.slice a4 x5.length c4) x5],[Sl (eI .i64) 1 (.slice a2 x1.length c3) x1])) (fun k (s:((List (Int×Int)×qAq×Int)×(qAr×Nat×qAr×Nat)))=>qz F x1 x4 k s.1) ((([]:List (Int×Int)),([]:qAq),0),(none,0,none,0)) F ?_
 intro k0
 rintro ⟨⟨x3,x5,x6⟩,⟨a3,c2,a4,c4⟩⟩
 try dsimp only
 refine qp (m':=yD F x1 x4 (qz F x1 x4 k0) x3 x5 x6) rfl ?_
 refine av [3,116] ?_ ?_
 intro _
 refine au [66] ?_
 refine qd (fun (((x7,x8),(a5,c5,a6,c6)):((List (Int×Int)×qAq)×(qAr×Nat×qAr×Nat)))=>([(0,.slice a2 x1.length c3),(1,qAs x4),(6,.slice a5 x7.length c5),(7,.slice a6 x8.length c6),(8,qAs x6)],[],[Ro eS189 189 2 (.slice a5 x7.length c5) x7,Ro (eI .i64) 3 1 (.slice a6 x8.length c6) x8],[Sl (eI .i64) 1 (.slice a2 x1.length c3) x1],jf F (qz F x1 x4 k0) x6 x7 x8)) ?_ ?_
 refine au [14,3,28,11] ?_
 intro x9 e0 b0 o0 h0
 replace h0:a2=some ⟨b0,o0,none⟩:=h0
 refine au [27,12] ?_
 intro x10 e1 b1 o1 h1
 replace h1:a2=some ⟨b1,o1,none⟩:=h1
 refine qB mixed [] [] [qv b1 (o1+x6.toNat*1) ((eI .i64) x10),qv b0 (o0+x6.toNat*1) ((eI .i64) x9),Sl (eI .i64) 1 (.slice a2 x1.length c3) x1] .nil (qF 0 rfl (qF 1 rfl (qF 2 rfl qA))) 10 rfl ?_
 refine au [72] ?_
 refine qh (d:=17) (v:=.slice (some ⟨b0,o0,none⟩) x1.length c3) rfl (by rw[h0] <;> rfl) (qo 2 (.pointer (some ⟨b0,(o0+x6.toNat*1),none⟩)) rfl rfl rfl (yV Tryz.underlying39 tf3 rfl rfl (qQ e0).1 (kC e0)) (qh (d:=17) (v:=.slice a2 x1.length c3) rfl (by rw[h0] <;> rfl) (qJ 3 (qAs x9) [] rfl rfl rfl (zJ (j:=1) rfl tf3 rfl rfl (fun _=>rfl) rfl) ?_)))
 refine au [7,4,7,5] ?_
 refine qh (d:=21) (v:=.slice (some ⟨b1,o1,none⟩) x1.length c3) rfl (by rw[h1] <;> rfl) (qo 6 (.pointer (some ⟨b1,(o1+x6.toNat*1),none⟩)) rfl rfl rfl (yV Tryz.underlying39 tf3 rfl rfl (qQ e1).1 (kC e1)) (qh (d:=21) (v:=.slice a2 x1.length c3) rfl (by rw[h1] <;> rfl) (qJ 7 (qAs x10) [] rfl rfl rfl (zJ (j:=0) rfl tf3 rfl rfl (fun _=>rfl) rfl) ?_)))
 refine au [7,8,7,9,24,14] ?_
 refine qM ?_ (by intro c h;cases h)
 refine au [2] ?_
 refine qd (fun ((x11,_):(Int×Unit))=>([(0,.slice a2 x1.length c3),(1,qAs x4),(6,.slice a3 x3.length c2),(7,.slice a4 x5.length c4),(8,qAs x6),(9,qAs x11),(10,qAs x10)],[],[Ro eS189 189 2 (.slice a3 x3.length c2) x3,Ro (eI .i64) 3 1 (.slice a4 x5.length c4) x5],[Sl (eI .i64) 1 (.slice a2 x1.length c3) x1],qbr F (qz F x1 x4 k0) x1 x4 x3 x5 x6 x10 x11)) ?_ ?_
 refine au [14] ?_
 refine ql (fun ((x12,_):(Int×Unit))=>([(0,.slice a2 x1.length c3),(1,qAs x4),(6,.slice a3 x3.length c2),(7,.slice a4 x5.length c4),(8,qAs x6),(9,qAs x12),(10,qAs x10)],[],[Ro eS189 189 2 (.slice a3 x3.length c2) x3,Ro (eI .i64) 3 1 (.slice a4 x5.length c4) x5],[Sl (eI .i64) 1 (.slice a2 x1.length c3) x1])) (fun k (s:(Int×Unit))=>kI F (qz F x1 x4 k0) x1 x4 x3 x5 x6 x10 k s.1) (x9,()) F ?_
 intro k1
 rintro ⟨x12,_⟩
 try dsimp only
 refine qp (m':=yF F (qz F x1 x4 k0) x1 x4 x3 x5 x6 x10 (kI F (qz F x1 x4 k0) x1 x4 x3 x5 x6 x10 k1) x12) rfl ?_
 refine au [3,60,24,13,28,8] ?_
 intro x13 e2 _
 refine av [51] ?_ ?_
 intro _
 refine au [66,14,4,85,95] ?_
 exact qg (isub .i64 x12 1,())
 intro _
 refine au [63] ?_
 exact qa (x12,())
 rintro ⟨x11,_⟩
 try dsimp only
 refine qd (fun ((x14,_):(Int×Unit))=>([(0,.slice a2 x1.length c3),(1,qAs x4),(6,.slice a3 x3.length c2),(7,.slice a4 x5.length c4),(8,qAs x6),(9,qAs x11),(10,qAs x14)],[],[Ro eS189 189 2 (.slice a3 x3.length c2) x3,Ro (eI .i64) 3 1 (.slice a4 x5.length c4) x5],[Sl (eI .i64) 1 (.slice a2 x1.length c3) x1],qbs F (qz F x1 x4 k0) x1 x4 x3 x5 x6 x11 x14)) ?_ ?_
 refine au [14] ?_
 refine ql (fun ((x15,_):(Int×Unit))=>([(0,.slice a2 x1.length c3),(1,qAs x4),(6,.slice a3 x3.length c2),(7,.slice a4 x5.length c4),(8,qAs x6),(9,qAs x11),(10,qAs x15)],[],[Ro eS189 189 2 (.slice a3 x3.length c2) x3,Ro (eI .i64) 3 1 (.slice a4 x5.length c4) x5],[Sl (eI .i64) 1 (.slice a2 x1.length c3) x1])) (fun k (s:(Int×Unit))=>kH F (qz F x1 x4 k0) x1 x4 x3 x5 x6 x11 k s.1) (x10,()) F ?_
 intro k2
 rintro ⟨x15,_⟩
 try dsimp only
 refine qp (m':=yE F (qz F x1 x4 k0) x1 x4 x3 x5 x6 x11 (kH F (qz F x1 x4 k0) x1 x4 x3 x5 x6 x11 k2) x15) rfl ?_
 refine au [3,60,16,28,8] ?_
 intro x16 e3 _
 refine av [51] ?_ ?_
 intro _
 refine au [66,14,4,78,95] ?_
 exact qg (iadd .i64 x15 1,())
 intro _
 refine au [63] ?_
 exact qa (x15,())
 rintro ⟨x14,_⟩
 try dsimp only
 refine av [60,24,13,16,1,75] ?_ ?_
 intro _
 refine au [99,1,25,14] ?_
 intro x17 e4 b2 o2
 refine au [25,3] ?_
 refine qx (vs:=[qAs x17]) (ys:=([x17]:qAq)) (qs .i64) (by decide) rfl Tryz.underlying39 tf3 rfl rfl rfl rfl rfl (by decide) (fun a7 c7=>qE 2 (qs .i64) rfl Tryz.underlying39 tf3 rfl rfl rfl rfl rfl (.inl ⟨0,_,rfl⟩) rfl rfl (fun x18 e5 a8 c8=>?_))
 refine au [95] ?_
 exact qa ((x3,x18),(a3,c2,a8,c8))
 intro _
 refine au [60,1,25,14] ?_
 intro x19 e6 b3 o3
 refine av [25,3,68] ?_ ?_
 intro _
 refine au [99,1,85,16] ?_
 refine qr (cells:=[qAs x11,qAs (iadd .i64 (isub .i64 x14 x11) 1)]) rfl st189 rfl (by kernel_rfl) rfl (qx (vs:=[.agg #[qAs x11,qAs (iadd .i64 (isub .i64 x14 x11) 1)]]) (ys:=([(x11,iadd .i64 (isub .i64 x14 x11) 1)]:List (Int×Int))) ku (by decide) rfl Tryz.underlying184 tf189 rfl rfl rfl rfl rfl (by decide) (fun a9 c9=>qE 1 ku rfl Tryz.underlying184 tf189 rfl rfl rfl rfl rfl (.inl ⟨0,_,rfl⟩) rfl rfl (fun x20 e7 a10 c10=>?_)))
 refine au [95] ?_
 exact qa ((x20,x5),(a10,c10,a4,c4))
 intro _
 refine au [9,22] ?_
 exact qa ((x3,x5),(a3,c2,a4,c4))
 rintro ⟨⟨x7,x8⟩,⟨a5,c5,a6,c6⟩⟩
 try dsimp only
 refine au [4,78,5,0] ?_
 exact qg ((x7,x8,iadd .i64 x6 1),(a5,c5,a6,c6))
 intro _
 refine au [63] ?_
 exact qa ((x3,x5),(a3,c2,a4,c4))
 rintro ⟨⟨x0,x2⟩,⟨a0,c0,a1,c1⟩⟩
 try dsimp only
 refine au [60,5,49] ?_
 exact qm ((a0,c0),(a1,c1))
theorem qpM {F:Nat}{x1:Int}{r:Int}(hm:qfh F x1=some r) :
    Pure Tryz.prog 121 [qAs x1] [] Unit (fun _=>.int .u64 r) (fun _=>[]) (fun _=>[]):=by
 refine qi Tryz.func121 rfl Tryz.ntmps121 rfl hm (fun w=>?_)
 refine av [109,64,75] ?_ ?_
 intro _
 refine au [48,16,34,2,24,15,26,6,16,120] ?_
 intro x4 e4
 refine qc (d:=2) (v:=.int .u64 x4) rfl (by rw[e4] <;> rfl) ?_
 exact az [45,10,11,18]
 intro _
 exact az [66,48,24,15,26,6,73]
set_option maxHeartbeats 4000000 in
theorem qmY {F:Nat}{x1:Int}{x2:Int}{r:(Int×Int×Int)}(hm:qgA F x1 x2=some r) :
    Pure Tryz.prog 191 [.int .u64 x1,qAs x2] [] Unit (fun _=>.tuple #[.int .u64 r.1,.int .u64 r.2.1,.int .u64 r.2.2]) (fun _=>[]) (fun _=>[]):=by
 refine qi Tryz.func191 rfl Tryz.ntmps191 rfl hm (fun w=>?_)
 refine au [24,12,93,67,47,67] ?_
 refine qd (fun (((x21,x22),_):((Int×Int)×Unit))=>([(1,qAs x2),(7,.int .u64 x21),(8,.int .u64 x22)],[],[],[],qeS F x2 x21 x22)) ?_ ?_
 refine au [14] ?_
 refine qcz (fun (((x34,x35),_):((Int×Int)×Unit))=>[(0,.int .u64 x1),(1,qAs x2),(7,.int .u64 x34),(8,.int .u64 x35)]) (fun (((x34,x35),_):((Int×Int)×Unit))=>[]) (fun (((x34,x35),_):((Int×Int)×Unit))=>[]) (fun (((x34,x35),_):((Int×Int)×Unit))=>[]) (fun k (s:((Int×Int)×Unit))=>vV F x1 x2 k s.1) ((0,1),()) F ?_
 intro k41
 rintro ⟨⟨x34,x35⟩,_⟩
 try dsimp only
 refine qp (m':=qc3 F x1 x2 (vV F x1 x2 k41) x34 x35) rfl ?_
 refine au [64,16,91,26,0] ?_
 intro h44
 refine qbU rfl rfl rfl rfl h44 ?_
 refine av [26,3,51] ?_ ?_
 intro _
 refine au [66,14,60,26,0] ?_
 intro h45
 refine qbU rfl rfl rfl rfl h45 ?_
 refine au [46,4,78,95] ?_
 exact qg ((iadd .u64 x34 1,ishl .u64 x35 x2),())
 intro _
 refine au [63] ?_
 exact qa ((x34,x35),())
 rintro ⟨⟨x21,x22⟩,_⟩
 try dsimp only
 refine au [3,27,5] ?_
 intro h26
 refine qB mixed [] [] [] .nil qA 8 rfl ?_
 refine au [105,7,3] ?_
 refine qo 4 (.int .u64 (ishl .u64 x22 x2)) rfl rfl rfl (qhw rfl rfl h26) ?_
 refine au [130,7,7,24,14] ?_
 refine qM ?_ (by intro c h;cases h)
 exact az [2,10,18]
theorem qlw {F:Nat}{x1:Int}{r:qAq}(hm:qep F x1=some r) :
    Pure Tryz.prog 192 [.int .u64 x1] [] (qAr×Nat) (fun g=>.slice g.1 r.length g.2) (fun g=>[Ro (eI .i64) 3 1 (.slice g.1 r.length g.2) r]) (fun _=>[]):=by
 refine qi Tryz.func192 rfl Tryz.ntmps192 rfl hm (fun w=>?_)
 refine au [109,53] ?_
 refine qd (fun ((x45,(a43,c44)):(qAq×(qAr×Nat)))=>([(3,.slice a43 x45.length c44)],[],[Ro (eI .i64) 3 1 (.slice a43 x45.length c44) x45],[],qd4 F x45)) ?_ ?_
 refine au [53,98] ?_
 refine ql (fun (((x65,x66),(a63,c64)):((qAq×Int)×(qAr×Nat)))=>([(0,.int .u64 x1),(3,.slice a63 x65.length c64),(4,.int .u64 x66)],[],[Ro (eI .i64) 3 1 (.slice a63 x65.length c64) x65],[])) (fun k (s:((qAq×Int)×(qAr×Nat)))=>vq F x1 k s.1) ((([]:qAq),0),(none,0)) F ?_
 intro k79
 rintro ⟨⟨x65,x66⟩,⟨a63,c64⟩⟩
 try dsimp only
 refine qp (m':=qcr F x1 (vq F x1 k79) x65 x66) rfl ?_
 refine av [3,60,75] ?_ ?_
 intro _
 refine au [90,4,1] ?_
 refine qx (vs:=[qAs 0]) (ys:=([0]:qAq)) (qs .i64) (by decide) rfl Tryz.underlying39 tf3 rfl rfl rfl rfl rfl (by decide) (fun a86 c87=>qE 1 (qs .i64) rfl Tryz.underlying39 tf3 rfl rfl rfl rfl rfl (.inl ⟨0,_,rfl⟩) rfl rfl (fun x88 e88 a89 c90=>?_))
 refine au [95,2,4,78,5,0] ?_
 exact qg ((x88,iadd .u64 x66 1),(a89,c90))
 intro _
 refine au [63] ?_
 exact qa (x65,(a63,c64))
 rintro ⟨x45,⟨a43,c44⟩⟩
 try dsimp only
 refine au [48] ?_
 refine qx (vs:=[qAs 1]) (ys:=([1]:qAq)) (qs .i64) (by decide) rfl Tryz.underlying39 tf3 rfl rfl rfl rfl rfl (by decide) (fun a46 c47=>qE 1 (qs .i64) rfl Tryz.underlying39 tf3 rfl rfl rfl rfl rfl (.inl ⟨0,_,rfl⟩) rfl rfl (fun x48 e48 a49 c50=>?_))
 refine au [49] ?_
 exact qm (a49,c50)
set_option maxHeartbeats 4000000 in
theorem qoj {F:Nat}{x1:Int}{x2:Int}{r:qAq}(hm:qdr F x1 x2=some r) :
    Pure Tryz.prog 64 [.int .u64 x1,qAs x2] [] (qAr×Nat) (fun g=>.slice g.1 r.length g.2) (fun g=>[Ro (eI .i64) 3 1 (.slice g.1 r.length g.2) r]) (fun _=>[]):=by
 refine qi Tryz.func64 rfl Tryz.ntmps64 rfl hm (fun w=>?_)
 refine au [87,48,34,1] ?_
 intro x3 e3 a4 c5
 refine au [46] ?_
 refine qd (fun ((x52,_):(qAq×Unit))=>([(5,.slice a4 x52.length c5)],[],[Ro (eI .i64) 3 1 (.slice a4 x52.length c5) x52],[],qfi F x52)) ?_ ?_
 refine au [48,24,13,46,14] ?_
 refine ql (fun (((x67,x68,x69),_):((Int×qAq×Int)×Unit))=>([(0,.int .u64 x67),(5,.slice a4 x68.length c5),(6,qAs x69)],[],[Ro (eI .i64) 3 1 (.slice a4 x68.length c5) x68],[])) (fun k (s:((Int×qAq×Int)×Unit))=>vz F k s.1) ((x1,x3,isub .i64 x2 1),()) F ?_
 intro k84
 rintro ⟨⟨x67,x68,x69⟩,_⟩
 try dsimp only
 refine qp (m':=jS F (vz F k84) x67 x68 x69) rfl ?_
 refine av [64,26,3,51] ?_ ?_
 intro _
 refine au [90,60,1,27,1,24,15,28,15] ?_
 intro x92 e92 g93 h94
 refine qgW (j:=0) (y':=iconv .i64 (irem x67 2)) (qs .i64) rfl rfl rfl tf3 rfl h94 (qQ e92).2.1 rfl (fun x95 e95 h96=>?_)
 have h97:x95.length=x68.length:=by rw[← e95,List.length_set]
 refine qc (d:=5) (v:=.slice a4 x95.length c5) rfl h96 (qc (d:=15) (v:=.slice a4 x95.length c5) rfl h96 ?_)
 refine au [45,4,1,26,14,95,2,4,85,5,0] ?_
 exact qg ((iquo .u64 x67 2,x95,isub .i64 x69 1),())
 intro _
 refine au [63] ?_
 exact qa (x68,())
 rintro ⟨x52,_⟩
 try dsimp only
 refine au [48,49] ?_
 exact qm (a4,c5)
set_option maxHeartbeats 4000000 in
theorem qln {F:Nat}{x1:Int}{x2:Int}{r:qAq}(hm:qej F x1 x2=some r) :
    Pure Tryz.prog 193 [.int .u64 x1,.int .u64 x2] [] (qAr×Nat) (fun g=>.slice g.1 r.length g.2) (fun g=>[Ro (eI .i64) 3 1 (.slice g.1 r.length g.2) r]) (fun _=>[]):=by
 refine qi Tryz.func193 rfl Tryz.ntmps193 rfl hm (fun w=>?_)
 refine au [87,53] ?_
 refine qd (fun ((x15,_):(Int×Unit))=>([(0,.int .u64 x1),(1,.int .u64 x2),(5,qAs x15)],[],[],[],qdZ F x1 x2 x15)) ?_ ?_
 refine au [14] ?_
 refine qcz (fun ((x30,_):(Int×Unit))=>[(0,.int .u64 x1),(1,.int .u64 x2),(5,qAs x30)]) (fun ((x30,_):(Int×Unit))=>[]) (fun ((x30,_):(Int×Unit))=>[]) (fun ((x30,_):(Int×Unit))=>[]) (fun k (s:(Int×Unit))=>vl F x1 x2 k s.1) (0,()) F ?_
 intro k35
 rintro ⟨x30,_⟩
 try dsimp only
 refine qp (m':=qcb F x1 x2 (vl F x1 x2 k35) x30) rfl ?_
 refine au [64,26,0] ?_
 intro h38
 refine qbU rfl rfl rfl rfl h38 ?_
 refine av [1,75] ?_ ?_
 intro _
 refine au [66,14,4,78,95] ?_
 exact qg (iadd .i64 x30 1,())
 intro _
 refine au [63] ?_
 exact qa (x30,())
 rintro ⟨x15,_⟩
 try dsimp only
 refine au [48,26,0] ?_
 intro h16
 refine qbU rfl rfl rfl rfl h16 ?_
 refine av [85,46,3,60,75] ?_ ?_
 intro _
 refine au [60,24,13,31,4] ?_
 rintro x21 e21 ⟨a22,c23⟩
 refine au [55] ?_
 exact qm (a22,c23)
 intro _
 refine au [66,60,16,1,31,4] ?_
 rintro x24 e24 ⟨a25,c26⟩
 refine au [49] ?_
 exact qm (a25,c26)
theorem qmV {F:Nat}{x1:Int}{x2:Int}{r:qAq}(hm:qeY F x1 x2=some r) :
    Pure Tryz.prog 164 [.int .u64 x1,qAs x2] [] (qAr×Nat) (fun g=>.slice g.1 r.length g.2) (fun g=>[Ro (eI .i64) 3 1 (.slice g.1 r.length g.2) r]) (fun _=>[]):=by
 refine qi Tryz.func164 rfl Tryz.ntmps164 rfl hm (fun w=>?_)
 refine au [87,60] ?_
 refine qf qmY ?_
 intro x3 e3 _
 refine au [129,5,67,48] ?_
 refine qf qlw ?_
 rintro x4 e4 ⟨a5,c6⟩
 refine au [78,85,1,85] ?_
 refine qf qln ?_
 rintro x7 e7 ⟨a8,c9⟩
 refine qE 1 (qs .i64) rfl Tryz.underlying39 tf3 rfl rfl rfl rfl rfl (.inl ⟨0,_,rfl⟩) rfl rfl (fun x10 e10 a11 c12=>?_)
 refine au [49] ?_
 exact qm (a11,c12)
set_option maxHeartbeats 4000000 in
theorem qly {F:Nat}{x1:qAq}{a2:qAr}{c3:Nat}{x4:Int}{r:qAq}(hm:qf4 F x1 x4=some r) :
    Pure Tryz.prog 122 [.slice a2 x1.length c3,qAs x4] [Sl (eI .u64) 1 (.slice a2 x1.length c3) x1] (qAr×Nat) (fun g=>.slice g.1 r.length g.2) (fun g=>[Ro (eI .i64) 3 1 (.slice g.1 r.length g.2) r]) (fun _=>[]):=by
 refine qi Tryz.func122 rfl Tryz.ntmps122 rfl hm (fun w=>?_)
 refine au [87,53] ?_
 refine qd (fun ((x72,(a70,c71)):(qAq×(qAr×Nat)))=>([(5,.slice a70 x72.length c71)],[],[Ro (eI .i64) 3 1 (.slice a70 x72.length c71) x72],[],qd5 F x72)) ?_ ?_
 refine au [53,98] ?_
 refine ql (fun (((x95,x96),(a93,c94)):((qAq×Int)×(qAr×Nat)))=>([(0,.slice a2 x1.length c3),(1,qAs x4),(5,.slice a93 x95.length c94),(6,qAs x96)],[],[Ro (eI .i64) 3 1 (.slice a93 x95.length c94) x95],[Sl (eI .u64) 1 (.slice a2 x1.length c3) x1])) (fun k (s:((qAq×Int)×(qAr×Nat)))=>ym F x1 x4 k s.1) ((([]:qAq),0),(none,0)) F ?_
 intro k0
 rintro ⟨⟨x95,x96⟩,⟨a93,c94⟩⟩
 try dsimp only
 refine qp (m':=qct F x1 x4 (ym F x1 x4 k0) x95 x96) rfl ?_
 refine av [3,116] ?_ ?_
 intro _
 refine au [90,99,1,33,0] ?_
 intro x0 e0 b0 o0
 refine au [25,3,1] ?_
 refine qf qmV ?_
 rintro x2 e1 ⟨a0,c0⟩
 refine qE 1 (qs .i64) rfl Tryz.underlying39 tf3 rfl rfl rfl rfl rfl (.inl ⟨0,_,rfl⟩) rfl rfl (fun x3 e2 a1 c1=>?_)
 refine au [95,2,4,78,5,0] ?_
 exact qg ((x3,iadd .i64 x96 1),(a1,c1))
 intro _
 refine au [63] ?_
 exact qa (x95,(a93,c94))
 rintro ⟨x72,⟨a70,c71⟩⟩
 try dsimp only
 refine au [48,49] ?_
 exact qm (a70,c71)
set_option maxHeartbeats 4000000 in
theorem qpN {F:Nat}{x1:qAq}{a2:qAr}{c3:Nat}{x4:Int}{r:qAq}(hm:qgw F x1 x4=some r) :
    Pure Tryz.prog 123 [.slice a2 x1.length c3,qAs x4] [Sl (eI .i64) 1 (.slice a2 x1.length c3) x1] (qAr×Nat) (fun g=>.slice g.1 r.length g.2) (fun g=>[Ro (eI .u64) 119 1 (.slice g.1 r.length g.2) r]) (fun _=>[]):=by
 refine qi Tryz.func123 rfl Tryz.ntmps123 rfl hm (fun w=>?_)
 refine au [87,53] ?_
 refine qd (fun ((x0,(a0,c0)):(qAq×(qAr×Nat)))=>([(5,.slice a0 x0.length c0)],[],[Ro (eI .u64) 119 1 (.slice a0 x0.length c0) x0],[],qf2 F x0)) ?_ ?_
 refine au [53,14,33,1] ?_
 refine ql (fun (((x2,x3),(a1,c1)):((qAq×Int)×(qAr×Nat)))=>([(0,.slice a2 x1.length c3),(1,qAs x4),(5,.slice a1 x2.length c1),(6,qAs x3)],[],[Ro (eI .u64) 119 1 (.slice a1 x2.length c1) x2],[Sl (eI .i64) 1 (.slice a2 x1.length c3) x1])) (fun k (s:((qAq×Int)×(qAr×Nat)))=>jD F x1 x4 k s.1) ((([]:qAq),0),(none,0)) F ?_
 intro k0
 rintro ⟨⟨x2,x3⟩,⟨a1,c1⟩⟩
 try dsimp only
 refine qp (m':=qeh F x1 x4 (jD F x1 x4 k0) x2 x3) rfl ?_
 refine av [3,116] ?_ ?_
 intro _
 refine au [66] ?_
 refine qd (fun ((x5,(a3,c2)):(qAq×(qAr×Nat)))=>([(0,.slice a2 x1.length c3),(1,qAs x4),(5,.slice a3 x5.length c2),(6,qAs x3)],[],[Ro (eI .u64) 119 1 (.slice a3 x5.length c2) x5],[Sl (eI .i64) 1 (.slice a2 x1.length c3) x1],qcG F (jD F x1 x4 k0) x3 x5)) ?_ ?_
 refine av [14,48,68] ?_ ?_
 intro _
 refine au [99,25,14] ?_
 intro x6 e0 b0 o0
 refine au [25,3,85,35,12] ?_
 intro x7 e1 _
 refine qx (vs:=[.int .u64 x7]) (ys:=([x7]:qAq)) (qs .u64) (by decide) rfl Tryz.underlying191 tf119 rfl rfl rfl rfl rfl (by decide) (fun a4 c4=>qE 1 (qs .u64) rfl Tryz.underlying191 tf119 rfl rfl rfl rfl rfl (.inl ⟨0,_,rfl⟩) rfl rfl (fun x8 e2 a5 c5=>?_))
 refine au [95] ?_
 exact qa (x8,(a5,c5))
 intro _
 refine au [28,11] ?_
 intro x9 e3 b1 o1 h0
 replace h0:a2=some ⟨b1,o1,none⟩:=h0
 refine au [27,12] ?_
 intro x10 e4 b2 o2 h1
 replace h1:a2=some ⟨b2,o2,none⟩:=h1
 refine qB mixed [] [] [qv b2 (o2+(isub .i64 x3 1).toNat*1) ((eI .i64) x10),qv b1 (o1+x3.toNat*1) ((eI .i64) x9),Sl (eI .i64) 1 (.slice a2 x1.length c3) x1] .nil (qF 0 rfl (qF 1 rfl (qF 2 rfl qA))) 16 rfl ?_
 refine au [105] ?_
 refine qh (d:=25) (v:=.slice (some ⟨b1,o1,none⟩) x1.length c3) rfl (by rw[h0] <;> rfl) (qo 3 (.pointer (some ⟨b1,(o1+x3.toNat*1),none⟩)) rfl rfl rfl (yV Tryz.underlying39 tf3 rfl rfl (qQ e3).1 (kC e3)) (qh (d:=25) (v:=.slice a2 x1.length c3) rfl (by rw[h0] <;> rfl) (qJ 4 (qAs x9) [] rfl rfl rfl (zJ (j:=1) rfl tf3 rfl rfl (fun _=>rfl) rfl) ?_)))
 refine au [130,7,7] ?_
 refine qh (d:=29) (v:=.slice (some ⟨b2,o2,none⟩) x1.length c3) rfl (by rw[h1] <;> rfl) (qo 8 (.pointer (some ⟨b2,(o2+(isub .i64 x3 1).toNat*1),none⟩)) rfl rfl rfl (yV Tryz.underlying39 tf3 rfl rfl (qQ e4).1 (kC e4)) (qh (d:=29) (v:=.slice a2 x1.length c3) rfl (by rw[h1] <;> rfl) (qJ 9 (qAs x10) [] rfl rfl rfl (zJ (j:=0) rfl tf3 rfl rfl (fun _=>rfl) rfl) ?_)))
 refine au [7,10,7,11,28,9,12,24,9,13] ?_
 refine qx (vs:=[.int .u64 (iconv .u64 (isub .i64 (isub .i64 x9 x10) 1))]) (ys:=([iconv .u64 (isub .i64 (isub .i64 x9 x10) 1)]:qAq)) (qs .u64) (by decide) rfl Tryz.underlying191 tf119 rfl rfl rfl rfl rfl (by decide) (fun a6 c6=>?_)
 refine au [0,35,13,24,9,14] ?_
 refine qE 1 (qs .u64) rfl Tryz.underlying191 tf119 rfl rfl rfl rfl rfl (.inl ⟨0,_,rfl⟩) rfl rfl (fun x11 e5 a7 c7=>?_)
 refine au [0,35,13,7,15,24,14] ?_
 refine qM ?_ (by intro c h;cases h)
 refine au [22] ?_
 exact qa (x11,(a7,c7))
 rintro ⟨x5,⟨a3,c2⟩⟩
 try dsimp only
 refine au [4,78,5,0] ?_
 exact qg ((x5,iadd .i64 x3 1),(a3,c2))
 intro _
 refine au [63] ?_
 exact qa (x2,(a1,c1))
 rintro ⟨x0,⟨a0,c0⟩⟩
 try dsimp only
 refine au [48,49] ?_
 exact qm (a0,c0)
end Go.Proofs.YtmhggdbfbmkpeaaGreat
