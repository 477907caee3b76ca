/- Each Go function of this seat computes what its model says, part 3. -/
import Derived.Test.YthibchijlpflmaaGreatDoorWalks2
namespace Go.Proofs.YthibchijlpflmaaGreatDoor
open Go SX
open Go.Proofs.Tryz
open Go.Proofs.Tryz renaming prog→qFv
set_option maxHeartbeats 4000000
set_option linter.unusedSimpArgs false
variable {F t1 t2 t3 t4 t5:Nat}{i1 i2 i3 i4 i5:Int}{m1 m2 m3:qFm}{l1 l2 l3 l4:qFn}{d1 d2:Bool}{w1:List (Int×Int)}{p1:List (qFm)}{n1:List (qFn×Nat)}
theorem qud (hm:qbm F i1 m1 i2=some i3) :
    qFw 248 [.agg #[qFo i1,qFp l1 m1 t1],qFo i2] [qFt l1 m1 t1] (.int .u64 i3):=by
 refine pureA func248 ntmps248 hm fun _=>?_
 refine au [111] ?_
 intro g6
 refine au [80,78,4,31,11] ?_
 refine vZ (j:=0) (qC .u8) (by decide) rfl UnF.u inferInstance rfl rfl rfl rfl ?_
 intro x7 e7 b8 o9
 refine au [25,2,4,33,14,25,9,26,11] ?_
 intro h10
 refine qjS rfl rfl rfl rfl h10 ?_
 refine au [25,11,28,9,116] ?_
 intro x11 e11
 refine j3 4 e11 ?_
 exact az [46,8,24,1]
theorem qkR (F:Nat){σ τ:Type}{J:Rounds σ τ}{yy:σ→Int→Option (σ ⊕ τ)}{L:Nat}(hY:YieldC qFv L (fun (p:Int)=>[.int .u64 p]) J yy)(s0:σ)(gs0:J.γ)(g1:Nat)(x2:Int)(g3:Nat)(x4:Int)(g5:Nat)(x6:Int)(x7:qFm)(a8:qFn)(c9:Nat)(r:σ ⊕ τ)(hm:qeU F yy x2 x4 x6 x7 s0=some r) :
    PureM qFv 261 ([.func (.yield L) #[] #[],qFq g1,qFq g3,qFq g5]) ([⟨g1,3,[qFo x2]⟩,⟨g3,3,[qFo x4]⟩,⟨g5,65,[qFo x6,qFp a8 x7 c9]⟩]++J.IB s0 gs0) (J.IR s0 gs0) [J.F,qFt a8 x7 c9] (J.G r) (fun _=>.tuple #[]) (fun g=>[⟨g1,3,[qFo x2]⟩,⟨g3,3,[qFo x4]⟩,⟨g5,65,[qFo x6,qFp a8 x7 c9]⟩]++J.bs r g) (fun g=>J.rs r g):=by
 refine pureMA func261 ntmps261 hm fun _=>?_
 refine au [28,7,45,18,47,14] ?_
 refine jm (fun (((x22,x23),g24):(Int×σ)×J.γ)=>[(0,.func (.yield L) #[] #[]),(2,qFq g3),(3,qFq g5),(5,qFo x22)]) (fun (((x22,x23),g24):(Int×σ)×J.γ)=>[⟨g1,3,[qFo x2]⟩,⟨g3,3,[qFo x4]⟩,⟨g5,65,[qFo x6,qFp a8 x7 c9]⟩]++J.IB x23 g24) (fun (((x22,x23),g24):(Int×σ)×J.γ)=>[]++J.IR x23 g24) (fun (((x22,x23),g24):(Int×σ)×J.γ)=>[qFt a8 x7 c9,J.F]) (fun k (s:(Int×σ)×J.γ)=>yT F yy x4 x6 x7 k s.1) ((x2,s0),gs0) F ?_ (hB:=(.cons 0 rfl (.cons 0 rfl (.cons 0 rfl (qe 0 rfl))))) (hR:=(qe 0 rfl)) (hF:=(qh 1 rfl (qh 0 rfl zG)))
 intro k37
 rintro ⟨⟨x22,x23⟩,g24⟩
 try dsimp only
 refine qbR (m':=qaw F yy x4 x6 x7 (yT F yy x4 x6 x7 k37) x22 x23) rfl ?_
 refine aw [1,1,3,4,25,12,24,3,0,2,10] ?_ ?_
 refine au [83,48,26,7,4,29,5] ?_
 intro x44 e44 _
 refine qfu hY x23 x44 g24 (B1:=[⟨g1,3,[qFo x2]⟩,⟨g3,3,[qFo x4]⟩,⟨g5,65,[qFo x6,qFp a8 x7 c9]⟩]) (R1:=[]) (j:=1) rfl rfl rfl rfl rfl rfl rfl (fun x45 _ g47=>?_) (fun x46 _ g47=>?_)
 refine au [25,7,46] ?_
 refine yf (b:=false) rfl (fun h=>by cases h) (fun _=>?_)
 refine au [11,63,3,113,5,0] ?_
 exact vz ((iadd .i64 x22 1,x45),g47) (hB:=(.cons 0 rfl (.cons 0 rfl (.cons 0 rfl (qe 0 rfl))))) (hR:=(qe 0 rfl)) (hF:=(qh 0 rfl (qh 1 rfl zG)))
 refine au [25,7,46] ?_
 refine yf (b:=true) rfl (fun _=>?_) (fun h=>by cases h)
 refine au [8,90,24,7] ?_
 exact jn (B0:=[⟨g1,3,[qFo x2]⟩,⟨g3,3,[qFo x4]⟩,⟨g5,65,[qFo x6,qFp a8 x7 c9]⟩]) (x:=.inr x46) g47 (.inl rfl) (res0 rfl) (.cons 0 rfl (.cons 0 rfl (.cons 0 rfl (qe 0 rfl)))) (qe 0 rfl)
 refine au [71] ?_
 exact jn (B0:=[⟨g1,3,[qFo x2]⟩,⟨g3,3,[qFo x4]⟩,⟨g5,65,[qFo x6,qFp a8 x7 c9]⟩]) (x:=.inl x23) g24 (.inr rfl) (res0 rfl) (.cons 0 rfl (.cons 0 rfl (.cons 0 rfl (qe 0 rfl)))) (qe 0 rfl)
theorem qpo {r:(Int×qFm)}(hm:qap F i1 m1 i2 m2=some r) :
    PureM qFv 192 [.agg #[qFo i1,qFp l1 m1 t1],.agg #[qFo i2,qFp l2 m2 t2]] [] [] [qFt l1 m1 t1,qFt l2 m2 t2] (qFn×Nat) (fun g=>.agg #[qFo r.1,qFp g.1 r.2 g.2]) (fun _=>[]) (fun g=>[qFu g.1 r.2 g.2]):=by
 refine qdM func192 rfl ntmps192 rfl hm (fun w=>?_)
 refine au [111] ?_
 intro g9
 refine au [23] ?_
 intro g10
 refine au [24,5] ?_
 intro g11
 refine au [46,45,26,7,34,0] ?_
 rintro x12 e12 ⟨⟨a13,c14⟩,g15⟩
 refine au [24,5] ?_
 intro g16
 refine au [21,46,1,45,31,12,9,28,13] ?_
 refine qt qmt ?_
 rintro x37 e37 ⟨g38,g39,g40⟩
 refine au [73] ?_
 refine qcr (encs:=(fun (p:Int)=>[.int .u64 p])) (y:=(fun ((x45,x48):(Int×qFm)) (x53:Int)=>qc8 F x45 x48 x53)) (lb:=[qFq g38,qFq g39,qFq g40]) (fun ((x45,x48):(Int×qFm)) ((a46,c47):qFn×Nat)=>[⟨g16,293,[qFq g15]⟩,⟨g15,299,[qFo x45,qFp a46 x48 c47]⟩,⟨g11,65,[qFo 0,.slice none 0 0]⟩,⟨g10,65,[qFo i2,qFp l2 m2 t2]⟩,⟨g9,65,[qFo i1,qFp l1 m1 t1]⟩]) (fun ((x45,x48):(Int×qFm)) ((a46,c47):qFn×Nat)=>[qFu a46 x48 c47]) (fun (_:Empty) (_:Unit)=>[]) (fun (_:Empty) (_:Unit)=>[]) (fun _=>.skip) (x12.1,x12.2) (a13,c14) rfl EnC.e (fun _=>rfl) rfl (.cons 0 rfl (.cons 0 rfl (.cons 0 rfl .nil))) (.cons 0 rfl (.cons 0 rfl (.cons 0 rfl (.cons 0 rfl (.cons 0 rfl .nil))))) (.cons 0 rfl .nil) (.consF 1 rfl .nil) (fun z hz _ _ _ hY=>qkR F hY (x12.1,x12.2) (a13,c14) g38 0 g39 i2 g40 i2 m2 l2 t2 z hz) ?_ ?_ ?_
 rintro rc1 L1 D1 ⟨x45,x48⟩ ⟨a46,c47⟩ x53 z w M _
 try dsimp only
 refine qdQ [(0,.agg #[qFo i1,qFp l1 m1 t1]),(1,.agg #[qFo i2,qFp l2 m2 t2]),(2,qFq g9),(3,qFq g10),(4,qFq g11),(5,qFq g16),(7,.agg #[qFo i1,qFp l1 m1 t1]),(8,qFq g15),(9,.agg #[qFo i2,qFp l2 m2 t2]),(10,qFq g10),(11,qFo i2),(12,.func (.func 261) #[] #[qFq g38,qFq g39,qFq g40]),(13,.int .u64 x53)] (qm rfl (qm rfl (qm rfl (qm rfl (qm rfl (qm rfl (qm rfl (qm rfl (qm rfl (qm rfl (qm rfl (qm rfl (qm rfl qea))))))))))))) ?_
 refine au [3,5,0] ?_
 refine qim (i:=5) rfl ?_
 refine au [14,3,18,4,34,1] ?_
 rintro x54 e54 ⟨a55,c56⟩
 refine au [115] ?_
 exact vv (rc:=rc1) rfl (.cons 5 rfl .nil) rfl (a55,c56) (.cons 2 rfl (.cons 1 rfl (.cons 1 rfl (.cons 1 rfl (.cons 1 rfl (.cons 0 rfl (.cons 0 rfl .nil))))))) (.cons 0 rfl .nil)
 rintro ⟨x45,x48⟩ _ ⟨a46,c47⟩ D1
 refine au [39,63,45,34,2,55] ?_
 refine zU (i:=5) rfl rfl inferInstance rfl rfl (by simp) rfl rfl ?_
 refine au [27,0,46,8] ?_
 exact jo [D1] (a46,c47) (.inl rfl) rfl (.cons 0 rfl .nil) (resL (rs:=[.cell 4 65]) rfl (.cell (i:=5) rfl tf65 rfl rfl (by simp) rfl ResOk.nil) rfl) (fun h=>by subst h;rfl) (fun h=>by subst h;exact .nil) (fun h=>by subst h;exact (.cons 0 rfl .nil))
 intro t;exact t.elim
theorem qhF {r:(Int×qFm)}(hm:js F i1 m1 i2 i3=some r) :
    PureM qFv 262 [qFq t1,.int .u64 i2,qFo i3] [⟨t1,299,[qFo i1,qFp l1 m1 t2]⟩] [qFu l1 m1 t2] [] (qFn×Nat) (fun _=>.tuple #[]) (fun g=>[⟨t1,299,[qFo r.1,qFp g.1 r.2 g.2]⟩]) (fun g=>[qFu g.1 r.2 g.2]):=by
 refine pureMA func262 ntmps262 hm fun _=>?_
 refine au [26,6,48,25,9,47,14] ?_
 refine qq [0,1] [] [] [] (fun (((x18,x19,x22),a20,c21):(Int×Int×qFm)×qFn×Nat)=>([(6,qFo x18)],[⟨t1,299,[qFo x19,qFp a20 x22 c21]⟩],[qFu a20 x22 c21],[])) (isub .i64 i3 1,i1,m1) (l1,t2) ?_
 intro k33
 rintro ⟨⟨x18,x19,x22⟩,a20,c21⟩
 refine aw [39,1,1,3,4,26,4,0,2,10] ?_ ?_
 refine au [83,3,89,4,26,11] ?_
 intro h39
 refine qjS rfl rfl rfl rfl h39 ?_
 refine au [28,9,34,1] ?_
 rintro x40 e40 ⟨a41,c42⟩
 refine au [0,63,3,4,25,9,5,0] ?_
 exact qk ((isub .i64 x18 1,x40.1,x40.2),a41,c42)
 refine au [71] ?_
 exact qK (a20,c21)
theorem qq9 {r:(Int×qFm)}(hm:vM F i1 m1 i2 i3=some r) :
    Pure qFv 235 [.agg #[qFo i1,qFp l1 m1 t1],.int .u64 i2,qFo i3] [qFt l1 m1 t1] (qFn×Nat) (fun g=>.agg #[qFo r.1,qFp g.1 r.2 g.2]) (fun g=>[qFu g.1 r.2 g.2]) (fun _=>[]):=by
 refine pureA func235 ntmps235 hm fun _=>?_
 refine au [108,23] ?_
 intro g7
 refine au [24,5] ?_
 intro g8
 refine au [46,45,25,10,34,0] ?_
 rintro x9 e9 ⟨⟨a10,c11⟩,g12⟩
 refine au [59,89] ?_
 refine qt qhF ?_
 rintro x13 e13 ⟨a14,c15⟩
 refine au [97,55,24,9,25,5,46,8] ?_
 exact qee (a14,c15) 1
theorem qjk (hm:vo F i1=some i2) :
    qFw 148 [.int .u64 i1] [] (qFo i2):=by
 refine pureA func148 ntmps148 hm fun _=>?_
 refine au [64,47] ?_
 refine qN (fun (((x3,x4),_):(Int×Int)×Unit)=>([(0,.int .u64 x3),(2,qFo x4)],[],[],[],vb F x3 x4)) ?_ ?_
 refine aw [1,3,4,26,4,0,2,10] ?_ ?_
 refine au [48,27,3,47,3,5,0] ?_
 exact qa ((ishr .u64 i1 32,(32:Int)),())
 refine au [11] ?_
 exact qa ((i1,(0:Int)),())
 rintro ⟨⟨x3,x4⟩,_⟩
 try dsimp only
 refine qN (fun (((x6,x7),_):(Int×Int)×Unit)=>([(0,.int .u64 x6),(2,qFo x7)],[],[],[],vd F x6 x7)) ?_ ?_
 refine aw [1,3,4,26,4,0,2,10] ?_ ?_
 refine au [48,27,3,47,3,113,5,0] ?_
 exact qa ((ishr .u64 x3 16,iadd .i64 x4 16),())
 refine au [11] ?_
 exact qa ((x3,x4),())
 rintro ⟨⟨x6,x7⟩,_⟩
 try dsimp only
 refine qN (fun (((x9,x10),_):(Int×Int)×Unit)=>([(0,.int .u64 x9),(2,qFo x10)],[],[],[],ve F x9 x10)) ?_ ?_
 refine aw [1,3,4,26,4,0,2,10] ?_ ?_
 refine au [48,27,3,47,3,113,5,0] ?_
 exact qa ((ishr .u64 x6 8,iadd .i64 x7 8),())
 refine au [11] ?_
 exact qa ((x6,x7),())
 rintro ⟨⟨x9,x10⟩,_⟩
 refine au [91,4,25,11] ?_
 refine qsj (xs:=([0,1,2,2,3,3,3,3,4,4,4,4,4,4,4,4,5,5,5,5,5,5,5,5,5,5,5,5,5,5,5,5,6,6,6,6,6,6,6,6,6,6,6,6,6,6,6,6,6,6,6,6,6,6,6,6,6,6,6,6,6,6,6,6,7,7,7,7,7,7,7,7,7,7,7,7,7,7,7,7,7,7,7,7,7,7,7,7,7,7,7,7,7,7,7,7,7,7,7,7,7,7,7,7,7,7,7,7,7,7,7,7,7,7,7,7,7,7,7,7,7,7,7,7,7,7,7,7,8,8,8,8,8,8,8,8,8,8,8,8,8,8,8,8,8,8,8,8,8,8,8,8,8,8,8,8,8,8,8,8,8,8,8,8,8,8,8,8,8,8,8,8,8,8,8,8,8,8,8,8,8,8,8,8,8,8,8,8,8,8,8,8,8,8,8,8,8,8,8,8,8,8,8,8,8,8,8,8,8,8,8,8,8,8,8,8,8,8,8,8,8,8,8,8,8,8,8,8,8,8,8,8,8,8,8,8,8,8,8,8,8,8,8,8,8,8,8,8,8,8,8,8,8,8,8,8]:qFm)) rfl UnF.u rfl rfl (by kernel_rfl) rfl ?_
 intro x11 e11
 exact az [25,11,24,0,69]
theorem qnN (hm:qfe F i1=some i2) :
    qFw 284 [.int .u64 i1] [] (qFo i2):=by
 refine pureA func284 ntmps284 hm fun _=>?_
 refine au [64,59,24,0,31,13] ?_
 intro x2 e2 _
 exact az [25,9,69]
theorem qpF {r:(Int×qFm)}(hm:qeM F i1=some r) :
    Pure qFv 285 [.int .u64 i1] [] (qFn×Nat) (fun g=>.agg #[qFo r.1,qFp g.1 r.2 g.2]) (fun g=>[qFu g.1 r.2 g.2]) (fun _=>[]):=by
 refine pureA func285 ntmps285 hm fun _=>?_
 refine au [64,24,5] ?_
 intro g2
 refine au [97,25,11,113,31,11] ?_
 refine qxV (qC .u8) rfl UnF.u inferInstance rfl rfl rfl rfl rfl rfl rfl ?_
 intro x3 e3 a4 c5
 refine qH [qFo (iconv .i64 i1),qFp a4 x3 c5] ?_
 refine au [28,14] ?_
 rintro x6 e6 ⟨a7,c8⟩
 refine au [21,46,8] ?_
 exact qee (a7,c8) 0
theorem qpt (hm:qf4 F i1 i2=some i3) :
    qFw 286 [.int .u64 i1,qFo i2] [] (.int .u64 i3):=by
 refine pureA func286 ntmps286 hm fun _=>?_
 refine au [56,59,4,26,11] ?_
 intro h3
 refine qil rfl rfl rfl rfl h3 ?_
 refine au [25,9,28,9,116] ?_
 intro x4 e4
 refine j3 4 e4 ?_
 exact az [46,8,24,1]
theorem qj6 {r:(Int×qFm)}(hm:j9 F i1=some r) :
    Pure qFv 258 [.int .u64 i1] [] (qFn×Nat) (fun g=>.agg #[qFo r.1,qFp g.1 r.2 g.2]) (fun g=>[qFu g.1 r.2 g.2]) (fun _=>[]):=by
 refine pureA func258 ntmps258 hm fun _=>?_
 refine au [64,24,5] ?_
 intro g2
 refine au [97] ?_
 refine qd qnN ?_
 intro x3 e3 _
 refine au [59,25,11,34,3] ?_
 rintro x4 e4 ⟨a5,c6⟩
 refine au [4,66] ?_
 refine qd qpt ?_
 intro x7 e7 _
 refine au [4,28,14] ?_
 rintro x8 e8 ⟨a9,c10⟩
 refine au [21,46,8] ?_
 exact qee (a9,c10) 0
theorem qpx (hm:qeK F i1=some d1) :
    qFw 273 [qFo i1] [] (.bool d1):=by
 refine pureA func273 ntmps273 hm fun _=>?_
 refine au [64,59,26,4,4] ?_
 refine vC 3 5 8 [] (decide (i1≤1048576)) ?_ ?_ ?_
 exact az [4,28,5,61]
 exact az [62,60]
 exact az [69]
theorem qnS (hm:jD F m1=some i1) :
    qFw 246 [qFp l1 m1 t1] [qFr l1 m1 t1] (qFo i1):=by
 refine pureA func246 ntmps246 hm fun _=>?_
 refine aw [25,0,1,3,5,0,2,1,1,3,4,24,6,25,1,0,2,10] ?_ ?_
 exact az [45,76]
 refine au [96,47] ?_
 refine qN (fun ((_,_):Unit×Unit)=>([],[],[],[],qhy F)) ?_ ?_
 refine au [48,84] ?_
 refine qq [9,10] [] [] [0] (fun (((x88,x89),_):(Int×Int)×Unit)=>([(3,qFo x88),(11,qFo x89)],[],[],[])) ((-1:Int),(0:Int)) () ?_
 intro k0
 rintro ⟨⟨x88,x89⟩,_⟩
 refine aw [39,1,3,24,3,0,2,1,10] ?_ ?_
 refine au [83,45,26,3] ?_
 intro x0 e0 b0 o0
 refine au [25,2,81,14,48,34,4] ?_
 intro x2 e1 _
 refine aw [25,7,5,0,2,10] ?_ ?_
 exact az [45,49,50,90,103]
 refine aw [1,3,4,4,28,5,5,0,2,10] ?_ ?_
 exact az [45,49,50,90,103]
 refine au [11,63,3,4,5,0,95] ?_
 exact qk ((x0,iadd .i64 x89 1),())
 exact az [71,26,8]
 rintro ⟨_,_⟩
 exact az [117,69]
theorem qjm {r:(Int×qFm×Bool)}(hm:vr F i1 m1 d1 i2 m2=some r) :
    PureM qFv 281 [qFq t1,.agg #[qFo i2,qFp l2 m2 t3]] [⟨t1,316,[qFo i1,qFp l1 m1 t2,.bool d1]⟩] [qFu l1 m1 t2] [qFt l2 m2 t3] (qFn×Nat) (fun _=>.tuple #[]) (fun g=>[⟨t1,316,[qFo r.1,qFp g.1 r.2.1 g.2,.bool r.2.2]⟩]) (fun g=>[qFu g.1 r.2.1 g.2]):=by
 refine pureMA func281 ntmps281 hm fun _=>?_
 refine au [111] ?_
 intro g11
 refine au [46] ?_
 refine qi [0,3] [0] [0] [0] (fun ((x13,_):Bool×Unit)=>([],[⟨t1,316,[qFo i1,qFp l1 m1 t2,.bool x13]⟩],[],[],jL F i1 m1 i2 m2 x13)) ?_ ?_
 refine av [30,1] ?_ ?_
 intro h18
 refine kD mixed [18] _ _ (.cons 0 rfl .nil) (qg 0 rfl (qgV 1 rfl qf)) 19 rfl ?_
 refine au [92,15,3] ?_
 refine qy 4 (.bool d1) [[18]] rfl rfl rfl (kX (j:=1) rfl tf4 rfl rfl (fun _=>rfl) rfl) ?_
 refine au [6,5] ?_
 refine yJ 9 h18 ?_
 refine au [20,6,20,7,20,8,20,9,20,10,20,11,20,12,20,13,20,14,6,15,6,16,15,17,12,18,25,5,0,34,5,54] ?_
 exact qa (true,())
 intro h18
 refine kD mixed [18] _ _ (.cons 0 rfl .nil) (qg 0 rfl (qgV 1 rfl qf)) 19 rfl ?_
 refine au [92,15,3] ?_
 refine qy 4 (.bool d1) [[18]] rfl rfl rfl (kX (j:=1) rfl tf4 rfl rfl (fun _=>rfl) rfl) ?_
 refine au [6,5] ?_
 refine yJ 9 h18 ?_
 refine au [67,15,8,15,9] ?_
 refine qy 10 (qFo i1) [[18]] rfl rfl rfl (kX (j:=1) rfl tf3 rfl rfl (fun _=>rfl) rfl) ?_
 refine au [15,11,24,15,12,6,13,6,14,6,15,6,16,15,17,12,18,25,5,0,34,5,54] ?_
 exact qa ((decide (8192<(iadd .i64 i1 i2))),())
 rintro ⟨x13,_⟩
 refine aw [39,1,3,4,24,10,9,25,12,25,7,0,2,10] ?_ ?_
 refine kD mixed [9] _ _ (.cons 0 rfl .nil) (qg 0 rfl (qgV 1 rfl qf)) 10 rfl ?_
 refine au [92,15,3] ?_
 refine qy 4 (.agg #[qFo i1,.slice l1 m1.length t2]) [[9]] rfl rfl rfl (kX (j:=1) rfl tf65 rfl rfl (by simp) rfl) (qB 5 (.agg #[qFo i2,.slice l2 m2.length t3]) rfl rfl rfl (qz (i:=0) rfl tf65 rfl rfl (by simp) rfl) ?_)
 refine au [12,6,30,12] ?_
 rintro x14 e14 ⟨a15,c16⟩
 refine au [0] ?_
 refine qc (.cons 0 rfl .nil) (qg 0 rfl (qgV 1 rfl qf)) ?_
 refine au [6,7,15,8,12,9,25,5,0] ?_
 refine kY 9 rfl (by kernel_rfl) (.cons 0 rfl .nil) ?_
 refine au [54] ?_
 exact qK (a15,c16)
 refine au [11] ?_
 exact qK (l1,t2)
theorem qiw {r:(Int×qFm×Bool)}(hm:zk F i1 m1 d1 i2=some r) :
    PureM qFv 274 [qFq t1,qFo i2] [⟨t1,316,[qFo i1,qFp l1 m1 t2,.bool d1]⟩] [qFu l1 m1 t2] [] (qFn×Nat) (fun _=>.tuple #[]) (fun g=>[⟨t1,316,[qFo r.1,qFp g.1 r.2.1 g.2,.bool r.2.2]⟩]) (fun g=>[qFu g.1 r.2.1 g.2]):=by
 refine pureMA func274 ntmps274 hm fun _=>?_
 refine au [24,8,3,89,25,11,34,6] ?_
 rintro x8 e8 ⟨a9,c10⟩
 refine au [34,7] ?_
 rintro x11 e11 ⟨a12,c13⟩
 refine au [0] ?_
 exact qK (a12,c13)
theorem qla (hm:qc9 F i1 i2=some d1) :
    qFw 212 [qFo i1,qFo i2] [] (.bool d1):=by
 refine pureA func212 ntmps212 hm fun _=>?_
 refine au [56,59,30,9] ?_
 intro x3 e3 _
 refine au [4] ?_
 refine kI 4 [0,1] [] [] [] (fun ((x6,_):Bool×Unit)=>([(11,.bool x6)],[],[],[],qbw F i1 i2 x6)) ?_ ?_
 refine qD (os:=_) rfl ?_
 refine av [26,2] ?_ ?_
 intro h4
 refine kj (k:=7) rfl h4 ?_
 refine au [4,30,9] ?_
 intro x8 e8 _
 refine au [25,7,86] ?_
 exact qa ((!x8),())
 intro h4
 refine kg (k:=7) rfl h4 ?_
 refine au [62,7,85] ?_
 exact qa (false,())
 rintro ⟨x6,_⟩
 try dsimp only
 refine qD (os:=_) rfl ?_
 refine au [4] ?_
 refine zQ 4 12 16 [] (decide (i1<i2)) ?_ ?_ ?_
 exact az [62,7,61]
 exact az [89,24,3,60]
 exact az [69]
theorem qiP (hm:qaJ F i1=some d1) :
    qFw 216 [qFo i1] [] (.bool d1):=by
 refine pureA func216 ntmps216 hm fun _=>?_
 exact az [64,59,4,25,3,69]
theorem qeH {r:(Int×Bool)}(hm:zx F m1 i1=some r) :
    qFw 180 [qFp l1 m1 t1,qFo i1] [qFr l1 m1 t1] (.tuple #[qFo r.1,.bool r.2]):=by
 refine pureA func180 ntmps180 hm fun _=>?_
 refine au [56,5,59,24,6,59,5,47] ?_
 refine qi [0,1,6] [] [] [0] (fun ((x32,_):Int×Unit)=>([(7,qFo x32)],[],[],[],yp F m1 i1 x32)) ?_ ?_
 refine au [14] ?_
 refine qq [0,1,6] [] [] [0] (fun (((x85,x86),_):(Int×Int)×Unit)=>([(7,qFo x85),(8,qFo x86)],[],[],[])) ((0:Int),(m1.length:Int)) () ?_
 intro k95
 rintro ⟨⟨x85,x86⟩,_⟩
 refine aw [39,1,1,3,4,4,24,3,0,2,10] ?_ ?_
 refine au [57,14,48,113,25,11,27,3,25,11,116] ?_
 intro x97 e97
 refine j3 9 e97 ?_
 refine au [97,4,26,3] ?_
 intro x98 e98 b99 o0
 refine au [25,2,4] ?_
 refine qd qla ?_
 intro x0 e0 _
 refine aw [0,2,10] ?_ ?_
 refine au [3,113,5,115] ?_
 exact qk ((iadd .i64 x97 1,x86),())
 refine au [3,4,5,115] ?_
 exact qk ((x85,x97),())
 refine au [71] ?_
 exact qa (x85,())
 rintro ⟨x32,_⟩
 refine au [91,89,24,3,4] ?_
 refine qft 18 (fun ((x55,_):Bool×Unit)=>([(31,qFo x32),(53,.bool x55)],[],[],[],yq F x32 x55)) ?_ ?_
 refine qD (os:=_) rfl ?_
 refine av [26,2] ?_ ?_
 intro h33
 refine kj (k:=35) rfl h33 ?_
 refine au [89,26,3] ?_
 intro x56 e56 b57 o58
 refine au [25,2,4,25,6,4] ?_
 refine kI 10 [31,35] [] [] [] (fun ((x68,_):Bool×Unit)=>([(52,.bool x68)],[],[],[],yr F x32 x68)) ?_ ?_
 refine qD (os:=_) rfl ?_
 refine av [26,2] ?_ ?_
 intro h59
 refine kj (k:=42) rfl h59 ?_
 refine au [68,68,7,86] ?_
 exact qa (true,())
 intro h59
 refine kg (k:=42) rfl h59 ?_
 refine au [89,29,1] ?_
 intro x69 e69 b70 o71
 refine au [25,2,34,8] ?_
 intro x72 e72 _
 refine au [4] ?_
 refine kI 3 [31,35,42] [] [] [] (fun ((x75,_):Bool×Unit)=>([(51,.bool x75)],[],[],[],yu F x32 x75)) ?_ ?_
 refine qD (os:=_) rfl ?_
 refine av [26,2] ?_ ?_
 intro h73
 refine kj (k:=48) rfl h73 ?_
 refine au [4,34,8] ?_
 intro x76 e76 _
 refine au [86] ?_
 exact qa (x76,())
 intro h73
 refine kg (k:=48) rfl h73 ?_
 refine au [62,85] ?_
 exact qa (false,())
 rintro ⟨x75,_⟩
 try dsimp only
 refine qD (os:=_) rfl ?_
 refine au [85] ?_
 exact qa (x75,())
 rintro ⟨x68,_⟩
 try dsimp only
 refine qD (os:=_) rfl ?_
 refine au [86] ?_
 exact qa (x68,())
 intro h33
 refine kg (k:=35) rfl h33 ?_
 refine au [68,68,68,68,7,85] ?_
 exact qa (false,())
 rintro ⟨x55,_⟩
 try dsimp only
 refine qD (os:=_) rfl ?_
 exact az [5,69]
theorem qiO {r:(qFm×Bool×Int)}(hm:qaH F m1 d1 i1 d2=some r) :
    PureM qFv 296 [qFq t1,.bool d2] [⟨t1,363,[qFp l1 m1 t2,.bool d1,qFo i1]⟩] [qFs l1 m1 t2] [] (qFn×Nat) (fun _=>.tuple #[]) (fun g=>[⟨t1,363,[qFp g.1 r.1 g.2,.bool r.2.1,qFo r.2.2]⟩]) (fun g=>[qFs g.1 r.1 g.2]):=by
 refine pureMA func296 ntmps296 hm fun _=>?_
 refine au [24,8] ?_
 refine qN (fun (((x21,x22,x23),a19,c20):(qFm×Bool×Int)×qFn×Nat)=>([(0,qFq t1)],[⟨t1,363,[qFp a19 x21 c20,.bool x22,qFo x23]⟩],[qFs a19 x21 c20],[],jc F x21 x22 x23)) ?_ ?_
 refine au [48,4,112] ?_
 refine qzF rfl UnF.u rfl rfl rfl ?_
 refine aw [0,2,10] ?_ ?_
 refine au [1] ?_
 refine kD mixed [13] _ _ .nil (qgV 0 rfl qf) 14 rfl ?_
 refine au [92,15,3] ?_
 refine qy 4 (qFp l1 m1 t2) [[13]] rfl rfl rfl (kX (j:=0) rfl tf56 rfl rfl (fun _=>rfl) rfl) ?_
 refine au [6,5,6,6,15,7] ?_
 refine qy 8 (qFo i1) [[13]] rfl rfl rfl (kX (j:=0) rfl tf3 rfl rfl (fun _=>rfl) rfl) ?_
 refine au [12,9] ?_
 refine zI [i1] (fun a29 c30=>?_)
 refine au [0,31,14,12,10] ?_
 refine zA 1 (qC .i64) rfl underlying56 tf3 rfl rfl rfl rfl rfl (.inl ⟨0,_,rfl⟩) rfl rfl (fun x31 e31 a32 c33=>?_)
 refine au [0,31,14,6,11,15,12,12,13,87] ?_
 refine kY 13 rfl (by kernel_rfl) .nil ?_
 refine au [54,2,3,89,4,55,21,55,87] ?_
 exact qa ((x31,d2,(0:Int)),a32,c33)
 refine au [11] ?_
 exact qa ((m1,d1,i1),l1,t2)
 rintro ⟨⟨x21,x22,x23⟩,a19,c20⟩
 refine au [39,3,4,112,24,0,55,87] ?_
 exact qK (a19,c20)
theorem qpD {r:(qFm×qFm)}(hm:qga F m1 m2=some r) :
    Pure qFv 275 [qFp l1 m1 t1,qFp l2 m2 t2] [qFr l1 m1 t1,qFr l2 m2 t2] ((qFn×Nat)×qFn×Nat) (fun g=>.tuple #[qFp g.1.1 r.1 g.1.2,qFp g.2.1 r.2 g.2.2]) (fun g=>[qFs g.1.1 r.1 g.1.2,qFs g.2.1 r.2 g.2.2]) (fun _=>[]):=by
 refine pureA func275 ntmps275 hm fun _=>?_
 refine au [56,5,80] ?_
 refine qH [.slice none 0 0,.bool true,qFo 0] ?_
 refine au [23] ?_
 intro g7
 refine au [47] ?_
 refine qi [0,1,5,6] [] [] [0,1] (fun (((x66,x67,x68),a64,c65):(qFm×Bool×Int)×qFn×Nat)=>([],[⟨g7,363,[qFp a64 x66 c65,.bool x67,qFo x68]⟩],[qFs a64 x66 c65],[],qfM F m1 m2 x66 x67 x68)) ?_ ?_
 refine au [48,84,27,12] ?_
 refine qq [0,1,5,6,17,18] [] [] [0,1] (fun (((x0,x2,x3,x5),a0,c0):(Int×qFm×Bool×Int)×qFn×Nat)=>([(19,qFo x0)],[⟨g7,363,[qFp a0 x2 c0,.bool x3,qFo x5]⟩],[qFs a0 x2 c0],[])) ((0:Int),([]:qFm),true,(0:Int)) (none,0) ?_
 intro k0
 rintro ⟨⟨x0,x2,x3,x5⟩,a0,c0⟩
 refine aw [39,1,3,24,3,0,2,1,10] ?_ ?_
 refine au [83,45,26,3] ?_
 intro x6 e0 b0 o0
 refine au [25,2,59,4,31,15] ?_
 intro x7 e1 _
 refine au [4,79,5,47,3,89] ?_
 refine qt qiO ?_
 rintro x8 e2 ⟨a1,c1⟩
 refine au [0,95] ?_
 exact qk ((iadd .i64 x0 1,x8.1,x8.2.1,x8.2.2),a1,c1)
 refine au [71] ?_
 exact qa ((x2,x3,x5),a0,c0)
 rintro ⟨⟨x66,x67,x68⟩,a64,c65⟩
 try dsimp only
 refine qi [6] [0] [0] [] (fun ((x9,a3,c2):qFm×qFn×Nat)=>([(5,qFp a3 x9 c2)],[],[qFs a3 x9 c2],[],qfN F x66 x9)) ?_ ?_
 refine au [48,84,27,12] ?_
 refine qq [0,6,33,34] [0] [1] [0,1] (fun (((x10,x11),a4,c4):(qFm×Int)×qFn×Nat)=>([(5,qFp a4 x10 c4),(35,qFo x11)],[],[qFs a4 x10 c4],[])) (([]:qFm),(0:Int)) (none,0) ?_
 intro k1
 rintro ⟨⟨x10,x11⟩,a4,c4⟩
 refine aw [39,1,3,24,3,0,2,1,10] ?_ ?_
 refine au [57] ?_
 refine qi [0,6,33,34,35] [0] [0] [0,1] (fun ((x12,a6,c5):qFm×qFn×Nat)=>([(5,qFp a6 x12 c5)],[],[qFs a6 x12 c5],[],qcJ F (qcK F m1 m2 x66 k1) x11 x12)) ?_ ?_
 refine au [14,45,29,1] ?_
 intro x13 e3 b1 o1
 refine au [25,2,59,4,31,15] ?_
 intro x14 e4 _
 refine aw [4,22,22,5,5,0,2,1,3,4,25,7,0,2,10] ?_ ?_
 refine au [3,89] ?_
 refine zI [x13] (fun a7 c7=>?_)
 refine zA 2 (qC .i64) rfl underlying56 tf3 rfl rfl rfl rfl rfl (.inl ⟨0,_,rfl⟩) rfl rfl (fun x15 e5 a8 c8=>?_)
 refine au [5,115] ?_
 exact qa (x15,a8,c8)
 refine au [11,24,2] ?_
 exact qa (x10,a4,c4)
 rintro ⟨x12,a6,c5⟩
 refine au [39,94] ?_
 exact qk ((x12,iadd .i64 x11 1),a6,c5)
 refine au [71] ?_
 exact qa (x10,a4,c4)
 rintro ⟨x9,a3,c2⟩
 refine au [91,112,4,5,49] ?_
 exact qx ((a64,c65),a3,c2)
theorem qhJ {r:(Int×qFm×Bool)}(hm:jM F i1 m1 d1 m2=some r) :
    PureM qFv 276 [qFq t1,qFp l2 m2 t3] [⟨t1,316,[qFo i1,qFp l1 m1 t2,.bool d1]⟩] [qFu l1 m1 t2] [qFr l2 m2 t3] (qFn×Nat) (fun _=>.tuple #[]) (fun g=>[⟨t1,316,[qFo r.1,qFp g.1 r.2.1 g.2,.bool r.2.2]⟩]) (fun g=>[qFu g.1 r.2.1 g.2]):=by
 refine pureMA func276 ntmps276 hm fun _=>?_
 refine au [24,8,48,4,24,6,28,15] ?_
 rintro x10 e10 ⟨a11,c12⟩
 refine au [97,84] ?_
 refine qq [0,10,11] [] [] [0] (fun (((x27,x28,x31,x32),a29,c30):(Int×Int×qFm×Bool)×qFn×Nat)=>([(12,qFo x27)],[⟨t1,316,[qFo x28,qFp a29 x31 c30,.bool x32]⟩],[qFu a29 x31 c30],[])) ((0:Int),x10.1,x10.2.1,x10.2.2) (a11,c12) ?_
 intro k47
 rintro ⟨⟨x27,x28,x31,x32⟩,a29,c30⟩
 refine aw [39,1,3,24,3,0,2,1,10] ?_ ?_
 refine au [83,48,26,3] ?_
 intro x55 e55 b56 o57
 refine au [25,2,5,47,3,89,4,28,10,25,9,28,15] ?_
 rintro x58 e58 ⟨a59,c60⟩
 refine au [0,95] ?_
 exact qk ((iadd .i64 x27 1,x58.1,x58.2.1,x58.2.2),a59,c60)
 refine au [71] ?_
 exact qK (a29,c30)
theorem qpE {r:Unit}(hm:qhM F m1=some r) :
    PureM qFv 297 [qFp l1 m1 t1] [] [] [qFr l1 m1 t1] Nat (fun g=>.func (.func 304) #[] #[qFq g]) (fun g=>[⟨g,56,[qFp l1 m1 t1]⟩]) (fun _=>[]):=by
 refine pureMA func297 ntmps297 hm fun _=>?_
 refine au [64,23] ?_
 intro g4
 refine au [80,27,5,49] ?_
 exact qK g4
theorem qmE (F:Nat){σ τ:Type}{J:Rounds σ τ}{yy:σ→(Int×Int)→Option (σ ⊕ τ)}{L:Nat}(hY:YieldC qFv L (fun (p:Int×Int)=>[.agg #[qFo p.1,qFo p.2]]) J yy)(s0:σ)(gs0:J.γ)(g1:Nat)(x2:qFm)(a3:qFn)(c4:Nat)(r:σ ⊕ τ)(hm:qcB F yy x2 s0=some r) :
    PureM qFv 304 ([.func (.yield L) #[] #[],qFq g1]) ([⟨g1,56,[qFp a3 x2 c4]⟩]++J.IB s0 gs0) (J.IR s0 gs0) [J.F,qFr a3 x2 c4] (J.G r) (fun _=>.tuple #[]) (fun g=>[⟨g1,56,[qFp a3 x2 c4]⟩]++J.bs r g) (fun g=>J.rs r g):=by
 refine pureMA func304 ntmps304 hm fun _=>?_
 refine au [56,47,14] ?_
 refine jm (fun (((x0,x1),g0):(Int×σ)×J.γ)=>[(0,.func (.yield L) #[] #[]),(1,qFq g1),(3,qFo x0)]) (fun (((x0,x1),g0):(Int×σ)×J.γ)=>[⟨g1,56,[qFp a3 x2 c4]⟩]++J.IB x1 g0) (fun (((x0,x1),g0):(Int×σ)×J.γ)=>[]++J.IR x1 g0) (fun (((x0,x1),g0):(Int×σ)×J.γ)=>[qFr a3 x2 c4,J.F]) (fun k (s:(Int×σ)×J.γ)=>zv F yy x2 k s.1) ((0,s0),gs0) F ?_ (hB:=(.cons 0 rfl (qe 0 rfl))) (hR:=(qe 0 rfl)) (hF:=(qh 1 rfl (qh 0 rfl zG)))
 intro k0
 rintro ⟨⟨x0,x1⟩,g0⟩
 try dsimp only
 refine qbR (m':=qbJ F yy x2 (zv F yy x2 k0) x0 x1) rfl ?_
 refine aw [1,1,3,4,18,24,6,24,3,0,2,10] ?_ ?_
 refine au [57,14,45,47] ?_
 refine qdP (fun ((x3,_):Int×Unit)=>[(0,.func (.yield L) #[] #[]),(1,qFq g1),(3,qFo x0),(4,qFo x3)]) (fun ((x3,_):Int×Unit)=>[⟨g1,56,[qFp a3 x2 c4]⟩]++J.IB x1 g0) (fun ((x3,_):Int×Unit)=>[]++J.IR x1 g0) (fun ((x3,_):Int×Unit)=>[qFr a3 x2 c4,J.F]) (fun ((x3,_):Int×Unit)=>qbL F yy (zv F yy x2 k0) x2 x0 x1 x3) ?_ ?_
 refine au [14] ?_
 refine jm (fun ((x4,_):Int×Unit)=>[(0,.func (.yield L) #[] #[]),(1,qFq g1),(3,qFo x0),(4,qFo x4)]) (fun ((x4,_):Int×Unit)=>[⟨g1,56,[qFp a3 x2 c4]⟩]++J.IB x1 g0) (fun ((x4,_):Int×Unit)=>[]++J.IR x1 g0) (fun ((x4,_):Int×Unit)=>[qFr a3 x2 c4,J.F]) (fun k (s:Int×Unit)=>vp F yy (zv F yy x2 k0) x2 x0 x1 k s.1) (1,()) F ?_ (hB:=(.cons 0 rfl (qe 0 rfl))) (hR:=(qe 0 rfl)) (hF:=(qh 0 rfl (qh 1 rfl zG)))
 intro k1
 rintro ⟨x4,_⟩
 try dsimp only
 refine qbR (m':=qbK F yy (zv F yy x2 k0) x2 x0 x1 (vp F yy (zv F yy x2 k0) x2 x0 x1 k1) x4) rfl ?_
 refine au [1] ?_
 refine qdP (fun ((x5,_):Bool×Unit)=>[(0,.func (.yield L) #[] #[]),(1,qFq g1),(3,qFo x0),(4,qFo x4),(29,.bool x5)]) (fun ((x5,_):Bool×Unit)=>[⟨g1,56,[qFp a3 x2 c4]⟩]++J.IB x1 g0) (fun ((x5,_):Bool×Unit)=>[]++J.IR x1 g0) (fun ((x5,_):Bool×Unit)=>[qFr a3 x2 c4,J.F]) (fun ((x5,_):Bool×Unit)=>qbM F yy (zv F yy x2 k0) (vp F yy (zv F yy x2 k0) x2 x0 x1 k1) x2 x0 x1 x4 x5) ?_ ?_
 refine av [30,1] ?_ ?_
 intro h0
 refine au [29,15] ?_
 intro x6 e0 b0 o0 h1
 replace h1:a3=some ⟨b0,o0,none⟩:=h1
 refine au [28,4] ?_
 intro x7 e1 b1 o1 h2
 replace h2:a3=some ⟨b1,o1,none⟩:=h2
 refine qI [] [0] [0,1,2,3] 21 ?_
 refine au [92,24,15,3,28,3,4,6,5,6,6] ?_
 refine yJ 15 h0 ?_
 refine au [24,15,7,6,8,6,9,6,10] ?_
 refine vg 11 h1 e0 ?_
 refine qy 12 (qFo x6) [] rfl rfl rfl (qQ (j:=1) rfl tf3 rfl rfl (fun _=>rfl) rfl) ?_
 refine au [24,15,13,6,14] ?_
 refine vg 15 h2 e1 ?_
 refine qy 16 (qFo x7) [] rfl rfl rfl (qQ (j:=0) rfl tf3 rfl rfl (fun _=>rfl) rfl) ?_
 refine au [6,17,6,18,6,19,6,20,54] ?_
 exact yh (((x6:Int) == (iadd .i64 x7 x4)),()) (hB:=(.cons 0 rfl (qe 0 rfl))) (hR:=(qe 0 rfl)) (hF:=(qh 2 rfl (qh 3 rfl zG)))
 intro h0
 refine qI [] [0] [0,1] 21 ?_
 refine au [92,24,15,3,28,3,4,6,5,6,6] ?_
 refine yJ 15 h0 ?_
 refine au [20,7,20,8,20,9,20,10,20,11,20,12,20,13,20,14,20,15,20,16,20,17,20,18,20,19,6,20,54] ?_
 exact yh (false,()) (hB:=(.cons 0 rfl (qe 0 rfl))) (hR:=(qe 0 rfl)) (hF:=(qh 0 rfl (qh 1 rfl zG)))
 rintro ⟨x5,_⟩
 refine aw [39,10] ?_ ?_
 refine au [57,14,3,113,5,115] ?_
 exact vz (iadd .i64 x4 1,()) (hB:=(.cons 0 rfl (qe 0 rfl))) (hR:=(qe 0 rfl)) (hF:=(qh 0 rfl (qh 1 rfl zG)))
 refine au [71] ?_
 exact yh (x4,()) (hB:=(.cons 0 rfl (qe 0 rfl))) (hR:=(qe 0 rfl)) (hF:=(qh 0 rfl (qh 1 rfl zG)))
 rintro ⟨x3,_⟩
 refine au [39,1,48,18,4,26,3] ?_
 intro x8 e2 b2 o2
 refine au [25,2,4] ?_
 refine qH [qFo x8,qFo x3] ?_
 refine qfu hY x1 (x8,x3) g0 (B1:=[⟨g1,56,[qFp a3 x2 c4]⟩]) (R1:=[]) (j:=2) rfl rfl rfl rfl rfl rfl rfl (fun x9 _ g2=>?_) (fun x10 _ g2=>?_)
 refine au [25,7,46] ?_
 refine yf (b:=false) rfl (fun h=>by cases h) (fun _=>?_)
 refine au [57,3,89,24,0,5,115] ?_
 exact vz ((iadd .i64 x0 x3,x9),g2) (hB:=(.cons 0 rfl (qe 0 rfl))) (hR:=(qe 0 rfl)) (hF:=(qh 1 rfl (qh 2 rfl zG)))
 refine au [25,7,46] ?_
 refine yf (b:=true) rfl (fun _=>?_) (fun h=>by cases h)
 refine au [8,13,50,24,7] ?_
 exact jn (B0:=[⟨g1,56,[qFp a3 x2 c4]⟩]) (x:=.inr x10) g2 (.inl rfl) (res0 rfl) (.cons 0 rfl (qe 0 rfl)) (qe 0 rfl)
 refine au [71] ?_
 exact jn (B0:=[⟨g1,56,[qFp a3 x2 c4]⟩]) (x:=.inl x1) g0 (.inr rfl) (res0 rfl) (.cons 0 rfl (qe 0 rfl)) (qe 0 rfl)
theorem qri {r:(List (Int×Int)×qFm)}(hm:qg9 F m1 i1=some r) :
    PureM qFv 277 [qFp l1 m1 t1,qFo i1] [] [] [qFr l1 m1 t1] ((qFn×Nat)×qFn×Nat) (fun g=>.tuple #[qFp g.1.1 r.1 g.1.2,qFp g.2.1 r.2 g.2.2]) (fun _=>[]) (fun g=>[Ro eS209 209 2 (qFp g.1.1 r.1 g.1.2) r.1,qFs g.2.1 r.2 g.2.2]):=by
 refine qdM func277 rfl ntmps277 rfl hm (fun w=>?_)
 refine au [111] ?_
 intro g5
 refine au [24,5] ?_
 intro g6
 refine au [24,5] ?_
 intro g7
 refine au [46,1,48] ?_
 refine qt qpE ?_
 intro x0 e0 g0
 refine au [73,27,12] ?_
 refine qed (Int×Int) eS209 209 2 (qcr (encs:=(fun (p:Int×Int)=>[.agg #[qFo p.1,qFo p.2]])) (y:=(fun ((x2,x3):(qFm×List (Int×Int))) ((x5,x6):Int×Int)=>qcA F i1 x2 x3 x5 x6)) (lb:=[qFq g0]) (fun ((x2,x3):(qFm×List (Int×Int))) ((a0,c0,a1,c1):qFn×Nat×qFn×Nat)=>[⟨g7,56,[qFp a0 x2 c0]⟩,⟨g6,204,[qFp a1 x3 c1]⟩,⟨g5,3,[qFo i1]⟩]) (fun ((x2,x3):(qFm×List (Int×Int))) ((a0,c0,a1,c1):qFn×Nat×qFn×Nat)=>[qFs a0 x2 c0,Ro eS209 209 2 (qFp a1 x3 c1) x3]) (fun (_:Empty) (_:Unit)=>[]) (fun (_:Empty) (_:Unit)=>[]) (fun _=>.skip) (([]:qFm),([]:List (Int×Int))) (none,0,none,0) rfl EnC.e (fun _=>rfl) rfl (.cons 0 rfl .nil) (.cons 0 rfl (.cons 0 rfl (.cons 0 rfl .nil))) (.cons 1 rfl (.cons 0 rfl .nil)) (.consF 0 rfl .nil) (fun z hz _ _ _ hY=>qmE F hY (([]:qFm),([]:List (Int×Int))) (none,0,none,0) g0 m1 l1 t1 z hz) ?_ ?_ ?_)
 rintro rc1 L1 D1 ⟨x2,x3⟩ ⟨a0,c0,a1,c1⟩ ⟨x5,x6⟩ z w M _
 try dsimp only
 refine qdQ [(0,qFp l1 m1 t1),(1,qFo i1),(3,qFq g5),(4,qFq g6),(5,qFq g7),(8,qFp l1 m1 t1),(9,.func (.func 304) #[] #[qFq g0]),(10,.agg #[qFo x5,qFo x6])] (qm rfl (qm rfl (qm rfl (qm rfl (qm rfl (qm rfl (qm rfl (qm rfl qea)))))))) ?_
 refine au [3,24,5] ?_
 intro g1
 refine aw [21,0,34,9,14,1,1,3,9,18,28,13,26,4,0,2,10] ?_ ?_
 refine au [45,25,15,24,9] ?_
 refine qbl (vs:=[.agg #[qFo x5,qFo x6]]) (ys:=([(x5,x6)]:List (Int×Int))) qgT (by decide) rfl underlying204 tf209 rfl rfl rfl rfl rfl (by decide) (fun a3 c2=>zA 2 qgT rfl underlying204 tf209 rfl rfl rfl rfl rfl (.inl ⟨0,_,rfl⟩) rfl rfl (fun x7 e1 a4 c4=>?_))
 refine au [27,9,46,51,24,14] ?_
 exact vv (rc:=rc1) rfl (.cons 4 rfl .nil) rfl (a0,c0,a4,c4) (.cons 2 rfl (.cons 2 rfl (.cons 2 rfl (.cons 0 rfl (.cons 1 rfl .nil))))) (.cons 2 rfl (.cons 0 rfl .nil))
 refine au [96,78,4,73] ?_
 refine qq [3,4,5,6,20] [0,1,1,1,1] [1] [] (fun (((x8,x9),a5,c5):(Int×qFm)×qFn×Nat)=>([(21,qFo x8)],[⟨g7,56,[qFp a5 x9 c5]⟩],[qFs a5 x9 c5],[])) ((0:Int),x2) (a0,c0) ?_
 intro k0
 rintro ⟨⟨x8,x9⟩,a5,c5⟩
 refine aw [39,1,3,24,3,0,2,1,10] ?_ ?_
 refine au [83,48,47,3] ?_
 refine zU (i:=5) rfl rfl inferInstance rfl rfl (fun _=>rfl) rfl rfl ?_
 refine au [78,113] ?_
 refine zI [iadd .i64 x5 x8] (fun a6 c6=>?_)
 refine zA 2 (qC .i64) rfl underlying56 tf3 rfl rfl rfl rfl rfl (.inl ⟨0,_,rfl⟩) rfl rfl (fun x10 e2 a7 c7=>kP (i:=5) rfl rfl rfl inferInstance rfl rfl rfl rfl rfl ?_)
 refine au [0,95] ?_
 exact qk ((iadd .i64 x8 1,x10),a7,c7)
 refine au [71,24,2] ?_
 exact vv (rc:=rc1) rfl (.cons 3 rfl .nil) rfl (a5,c5,a1,c1) (.cons 5 rfl (.cons 2 rfl (.cons 2 rfl (.cons 0 rfl (.cons 1 rfl .nil))))) (.cons 1 rfl (.cons 0 rfl .nil))
 rintro ⟨x2,x3⟩ _ ⟨a0,c0,a1,c1⟩ D1
 refine au [39,63,1] ?_
 refine qI [] [0,0,0,0,0] [0] 4 ?_
 refine au [32,0,0,28,12,1,12,2,30,2,0,29,6,12,3,27,9,0,29,6,54,2,8] ?_
 exact jo [D1] ((a1,c1),a0,c0) (.inl rfl) rfl (.cons 0 rfl .nil) (resL (rs:=[.cell 4 204,.cell 5 56]) rfl (.cell (i:=2) rfl tf204 rfl rfl (fun _=>rfl) rfl (.cell (i:=1) rfl tf56 rfl rfl (fun _=>rfl) rfl ResOk.nil)) rfl) (fun h=>by subst h;rfl) (fun h=>by subst h;exact .nil) (fun h=>by subst h;exact (.cons 1 rfl (.cons 0 rfl .nil)))
 intro t;exact t.elim
theorem qmK (hm:qcD F i1=some i2) :
    qFw 298 [qFo i1] [] (.int .u64 i2):=by
 refine pureA func298 ntmps298 hm fun _=>?_
 refine au [64,59,25,11,34,10,4,27,3,25,11,34,11,116] ?_
 intro x2 e2
 refine j3 2 e2 ?_
 exact az [46,8,24,1]
theorem qiU {r:(Int×qFm×Bool)}(hm:qaO F i1 m1 d1 i2 i3 w1=some r) :
    PureM qFv 278 [qFq t1,qFo i2,qFo i3,qFp l2 w1 t3] [⟨t1,316,[qFo i1,qFp l1 m1 t2,.bool d1]⟩] [qFu l1 m1 t2] [Sl eS209 2 (qFp l2 w1 t3) w1] (qFn×Nat) (fun _=>.tuple #[]) (fun g=>[⟨t1,316,[qFo r.1,qFp g.1 r.2.1 g.2,.bool r.2.2]⟩]) (fun g=>[qFu g.1 r.2.1 g.2]):=by
 refine pureMA func278 ntmps278 hm fun _=>?_
 refine au [28,7,48,4,24,6,28,15] ?_
 rintro x12 e12 ⟨a13,c14⟩
 refine au [97,59,84] ?_
 refine qq [0,2,16,17] [] [] [0] (fun (((x73,x74,x75,x78,x79),a76,c77):(Int×Int×Int×qFm×Bool)×qFn×Nat)=>([(8,qFo x73),(18,qFo x74)],[⟨t1,316,[qFo x75,qFp a76 x78 c77,.bool x79]⟩],[qFu a76 x78 c77],[])) (i2,(0:Int),x12.1,x12.2.1,x12.2.2) (a13,c14) ?_
 intro k0
 rintro ⟨⟨x73,x74,x75,x78,x79⟩,a76,c77⟩
 refine aw [39,1,3,24,3,0,2,1,10] ?_ ?_
 refine au [83,48,32,1] ?_
 intro x0 e0 b0 o0
 refine au [29,3,24,5] ?_
 intro g0
 refine au [5,21,46] ?_
 refine qi [0,2,10,16,17,18] [0] [] [1] (fun (((x1,x4,x5),a0,c0):(Int×qFm×Bool)×qFn×Nat)=>([],[⟨t1,316,[qFo x1,qFp a0 x4 c0,.bool x5]⟩],[qFu a0 x4 c0],[],yR F (yS F i3 w1 k0) i3 x74 x0 x1 x4 x5)) ?_ ?_
 refine aw [1,3,4,25,6,0,2,10] ?_ ?_
 refine au [3,4,78,4,25,9,34,12] ?_
 intro x10 e1 _
 refine au [25,11,28,15] ?_
 rintro x11 e2 ⟨a1,c1⟩
 refine au [0] ?_
 exact qa ((x11.1,x11.2.1,x11.2.2),a1,c1)
 refine au [3,4,78,4,25,9,25,9,28,15] ?_
 rintro x13 e3 ⟨a2,c2⟩
 refine au [0] ?_
 exact qa ((x13.1,x13.2.1,x13.2.2),a2,c2)
 rintro ⟨⟨x1,x4,x5⟩,a0,c0⟩
 refine au [91,78,4,25,9,28,15] ?_
 rintro x14 e4 ⟨a3,c3⟩
 refine au [46,3,98,98,24,0,25,9,5,0,95] ?_
 exact qk ((isub .i64 (iadd .i64 x0.1 x0.2) 1,iadd .i64 x74 1,x14.1,x14.2.1,x14.2.2),a3,c3)
 refine au [71] ?_
 exact qK (a76,c77)
theorem qmx {r:(Int×Int×Int)}(hm:qeq F i1 i2=some r) :
    qFw 305 [.int .u64 i1,qFo i2] [] (.tuple #[qFo r.1,.int .u64 r.2.1,.int .u64 r.2.2]):=by
 refine pureA func305 ntmps305 hm fun _=>?_
 refine au [56,5,5,59,24,0,31,13] ?_
 intro x3 e3 _
 refine au [25,9,4,26,11] ?_
 intro h4
 refine qo9 rfl rfl rfl rfl h4 ?_
 refine au [81,28,6] ?_
 intro h11
 refine au [28,6] ?_
 intro h13
 refine qI [] [] [] 14 ?_
 refine au [92,6,3] ?_
 refine qb 4 (.int .u64 (ishl .u64 1 (imul .i64 (iquo .i64 (isub .i64 x3 1) i2) i2))) rfl rfl rfl (qi8 rfl rfl h11) ?_
 refine au [6,5,67,6,8,6,9] ?_
 refine qb 10 (.int .u64 (ishl .u64 1 (iadd .i64 (imul .i64 (iquo .i64 (isub .i64 x3 1) i2) i2) i2))) rfl rfl rfl (qi8 rfl rfl h13) ?_
 exact az [6,11,100,54,2,8,24,1]
theorem qle {r:(Int×Int)}(hm:qb4 F i1=some r) :
    qFw 307 [.int .u64 i1] [] (.tuple #[qFo r.1,.int .u64 r.2]):=by
 refine pureA func307 ntmps307 hm fun _=>?_
 refine au [64,5,59,25,9,31,13] ?_
 intro x2 e2 _
 refine au [81,28,6] ?_
 intro h6
 refine qI [] [] [] 7 ?_
 refine au [70] ?_
 refine qb 2 (.int .u64 (ishl .u64 1 x2)) rfl rfl rfl (qi8 rfl rfl h6) ?_
 exact az [6,3,6,4,6,5,6,6,54,2,8,24,1]
theorem qjj {r:(Int×qFm)}(hm:qbD F i1 m1 i2 i3=some r) :
    Pure qFv 306 [.agg #[qFo i1,qFp l1 m1 t1],.int .u64 i2,.int .u64 i3] [qFt l1 m1 t1] (qFn×Nat) (fun g=>.agg #[qFo r.1,qFp g.1 r.2 g.2]) (fun g=>[qFu g.1 r.2 g.2]) (fun _=>[]):=by
 refine pureA func306 ntmps306 hm fun _=>?_
 refine au [108,23] ?_
 intro g7
 refine au [24,5] ?_
 intro g8
 refine au [97,34,13] ?_
 intro x9 e9 _
 refine aw [4,22,22,5,5,0,2,1,1,3,4,4,24,3,0,2,10] ?_ ?_
 refine au [45,25,10,89,25,9,28,14] ?_
 rintro x14 e14 ⟨a15,c16⟩
 refine au [21,46,8,13] ?_
 exact qee (a15,c16) 0
 refine au [96,25,10,89,66,28,14] ?_
 rintro x17 e17 ⟨a18,c19⟩
 refine au [21,46,8] ?_
 exact qee (a18,c19) 0
theorem qmw {r:(Int×qFm×Int)}(hm:qep F i1 i2=some r) :
    Pure qFv 299 [.int .u64 i1,qFo i2] [] (qFn×Nat) (fun g=>.tuple #[.agg #[qFo r.1,qFp g.1 r.2.1 g.2],qFo r.2.2]) (fun g=>[qFu g.1 r.2.1 g.2]) (fun _=>[]):=by
 refine pureA func299 ntmps299 hm fun _=>?_
 refine au [56,24,5] ?_
 intro g3
 refine au [81,48,24,3,4] ?_
 refine zQ 3 11 14 [0,1,4] (decide (16<i2)) ?_ ?_ ?_
 exact az [62,61]
 exact az [4,105]
 refine au [4] ?_
 refine zQ 3 15 18 [0,1,4] (decide (1099511627776<i1)) ?_ ?_ ?_
 exact az [62,61]
 exact az [4,105]
 refine aw [0,2,10] ?_ ?_
 refine au [45] ?_
 refine qH [qFo 0,.slice none 0 0] ?_
 exact az [21,58,26,0,34,14]
 refine au [57,48,4] ?_
 refine qd qmx ?_
 intro x9 e9 _
 refine au [4,79,22,5,5,59,25,11,34,3] ?_
 rintro x10 e10 ⟨a11,c12⟩
 refine au [4,66,25,9,89,25,9] ?_
 refine qd qjj ?_
 rintro x13 e13 ⟨a14,c15⟩
 refine au [21,49] ?_
 exact ku (a14,c15) 0
theorem qrf {r:(Int×qFm×Bool)}(hm:qfJ F i1 m1 m2 i2=some r) :
    PureM qFv 279 [.agg #[qFo i1,qFp l1 m1 t1],qFp l2 m2 t2,qFo i2] [] [qFu l1 m1 t1] [Sl (eI .u64) 1 (qFp l2 m2 t2) m2] (qFn×Nat) (fun g=>.tuple #[.agg #[qFo r.1,qFp g.1 r.2.1 g.2],.bool r.2.2]) (fun _=>[]) (fun g=>[qFu g.1 r.2.1 g.2]):=by
 refine pureMA func279 ntmps279 hm fun _=>?_
 refine au [108,23] ?_
 intro g9
 refine au [24,5] ?_
 intro g10
 refine au [47] ?_
 refine qi [3,6] [0] [] [] (fun (((x0,x3),a0,c0):(Int×qFm)×qFn×Nat)=>([],[⟨g9,65,[qFo x0,qFp a0 x3 c0]⟩],[qFu a0 x3 c0],[],qiy F x0 x3)) ?_ ?_
 refine au [48,84] ?_
 refine qq [2,3,6,12,13] [0] [] [0] (fun (((x4,x6,x7),a1,c1):(Int×Int×qFm)×qFn×Nat)=>([(14,qFo x4)],[⟨g9,65,[qFo x6,qFp a1 x7 c1]⟩],[qFu a1 x7 c1],[])) ((0:Int),i1,m1) (l1,t1) ?_
 intro k0
 rintro ⟨⟨x4,x6,x7⟩,a1,c1⟩
 refine aw [39,1,3,24,3,0,2,1,10] ?_ ?_
 refine au [83,45] ?_
 refine vZ (j:=0) (qC .u64) (by decide) rfl UnF.u inferInstance rfl rfl rfl rfl ?_
 intro x9 e0 b0 o0
 refine au [25,2,59,4] ?_
 refine qd qmw ?_
 rintro x10 e1 ⟨a2,c2⟩
 refine au [4,79,24,5] ?_
 intro g0
 refine au [21,81,48,25,3,4] ?_
 refine zQ 7 26 33 [2,3,6,12,13,14,10] (decide (8192<(iadd .i64 x6 x10.1))) ?_ ?_ ?_
 exact az [68,62,61]
 exact az [110,78,24,0,105]
 refine aw [0,2,10] ?_ ?_
 refine au [45] ?_
 refine qH [qFo 0,.slice none 0 0] ?_
 refine au [25,5,58,90,50,26,0] ?_
 exact yD (none,0) (resL (rs:=[.cell 6 65,.tmp 7]) rfl (.cell (i:=1) rfl tf65 rfl rfl (by simp) rfl (.tmp rfl ResOk.nil)) rfl) (hR:=fun h=>by subst h;exact (.cons 0 rfl .nil))
 refine au [57,3,26,7,24,9,30,12] ?_
 rintro x11 e2 ⟨a4,c3⟩
 refine au [27,9,0,95] ?_
 exact qk ((iadd .i64 x4 1,x11.1,x11.2),a4,c3)
 refine au [71] ?_
 exact qa ((x6,x7),a1,c1)
 rintro ⟨⟨x0,x3⟩,a0,c0⟩
 refine au [117,25,10,21,49] ?_
 exact yD (a0,c0) (resL (rs:=[.cell 6 65,.tmp 7]) rfl (.cell (i:=0) rfl tf65 rfl rfl (by simp) rfl (.tmp rfl ResOk.nil)) rfl) (hR:=fun h=>by subst h;exact (.cons 0 rfl .nil))
theorem qjh {r:(Int×Int×Bool)}(hm:qbB F i1 d1 i2=some r) :
    PureM qFv 300 [qFq t1,qFo i2] [⟨t1,359,[qFo i1,.bool d1]⟩] [] [] Unit (fun _=>.int .u64 r.1) (fun _=>[⟨t1,359,[qFo r.2.1,.bool r.2.2]⟩]) (fun _=>[]):=by
 refine pureMA func300 ntmps300 hm fun _=>?_
 refine au [56,47] ?_
 refine qi [0,1] [0] [] [] (fun ((x8,_):Int×Unit)=>([(4,.int .u64 x8)],[],[],[],qb3 F i2 x8)) ?_ ?_
 refine aw [1,3,4,24,10,9,18,0,2,10] ?_ ?_
 refine au [3,89,112,25,9,25,9,25,11,116] ?_
 intro x9 e9
 refine j3 4 e9 ?_
 refine au [0] ?_
 exact qa (x9,())
 refine au [3,89,112,25,9,34,12] ?_
 intro x10 e10 _
 refine au [5,0] ?_
 exact qa (x10,())
 rintro ⟨x8,_⟩
 exact az [91,89,55,21,55,21,97,88]
theorem qrg (hm:qg6 F m1 i1=some m2) :
    Pure qFv 280 [qFp l1 m1 t1,qFo i1] [qFr l1 m1 t1] (qFn×Nat) (fun g=>qFp g.1 m2 g.2) (fun g=>[Ro (eI .u64) 119 1 (qFp g.1 m2 g.2) m2]) (fun _=>[]):=by
 refine pureA func280 ntmps280 hm fun _=>?_
 refine au [56,59] ?_
 refine qH [qFo i1,.bool false] ?_
 refine au [23] ?_
 intro g5
 refine au [80,47] ?_
 refine qN (fun ((x75,a73,c74):qFm×qFn×Nat)=>([(6,qFp a73 x75 c74)],[],[Ro (eI .u64) 119 1 (qFp a73 x75 c74) x75],[],qgv F x75)) ?_ ?_
 refine au [48,84] ?_
 refine qed Int (eI .u64) 119 1 (qq [5,12,13] [] [] [0] (fun (((x98,x99,x0,x2),a96,c97):(qFm×Int×Int×Bool)×qFn×Nat)=>([(6,qFp a96 x98 c97),(14,qFo x99)],[⟨g5,359,[qFo x0,.bool x2]⟩],[Ro (eI .u64) 119 1 (qFp a96 x98 c97) x98],[])) (([]:qFm),(0:Int),i1,false) (none,0) ?_)
 intro k0
 rintro ⟨⟨x98,x99,x0,x2⟩,a96,c97⟩
 refine aw [39,1,3,24,3,0,2,1,10] ?_ ?_
 refine au [83,45,26,3] ?_
 intro x3 e0 b0 o0
 refine au [25,2,47,3,89,4] ?_
 refine qt qjh ?_
 intro x5 e1 _
 refine zI [x5.1] (fun a0 c0=>?_)
 refine zA 1 (qC .u64) rfl underlying211 tf119 rfl rfl rfl rfl rfl (.inl ⟨0,_,rfl⟩) rfl rfl (fun x6 e2 a1 c1=>?_)
 refine au [5,0,95] ?_
 exact qk ((x6,iadd .i64 x99 1,x5.2.1,x5.2.2),a1,c1)
 refine au [71] ?_
 exact qa (x98,a96,c97)
 rintro ⟨x75,a73,c74⟩
 refine au [91,49] ?_
 exact qx (a73,c74)
theorem qiT {r:(Int×qFm×Bool)}(hm:vW F i1 m1 d1 i2 m2 m3 i3 i4 i5=some r) :
    PureM qFv 247 [qFq t1,qFo i2,qFp l2 m2 t3,qFp l3 m3 t4,.agg #[qFo i3,qFo i4,qFo i5]] [⟨t1,316,[qFo i1,qFp l1 m1 t2,.bool d1]⟩] [qFu l1 m1 t2] [qFr l2 m2 t3,qFr l3 m3 t4] (qFn×Nat) (fun _=>.tuple #[]) (fun g=>[⟨t1,316,[qFo r.1,qFp g.1 r.2.1 g.2,.bool r.2.2]⟩]) (fun g=>[qFu g.1 r.2.1 g.2]):=by
 refine pureMA func247 ntmps247 hm fun _=>?_
 refine au [32,2,45,23] ?_
 intro g17
 refine au [97,4,24,6,28,15] ?_
 rintro x18 e18 ⟨a19,c20⟩
 refine aw [0,2,1,1,3,4,24,6,25,6,0,2,10] ?_ ?_
 refine au [8,13] ?_
 exact qK (a19,c20)
 refine au [57,48,47] ?_
 refine qi [0,1,9] [1] [] [] (fun (((x33,x34,x37,x38),a31,c32,a35,c36):(qFm×Int×qFm×Bool)×qFn×Nat×qFn×Nat)=>([(10,qFp a31 x33 c32)],[⟨t1,316,[qFo x34,qFp a35 x37 c36,.bool x38]⟩],[qFu a35 x37 c36],[qFr a31 x33 c32],yP F i2 i4 i5 x33 x34 x37 x38)) ?_ ?_
 refine aw [1,3,9,25,12,25,1,0,2,10] ?_ ?_
 refine au [45,59,4] ?_
 refine qd qpD ?_
 rintro x0 e0 ⟨⟨a0,c0⟩,a1,c1⟩
 refine au [4,79,5,47,3,89] ?_
 refine qt qhJ ?_
 rintro x1 e1 ⟨a2,c2⟩
 refine au [0,34,15] ?_
 exact qa ((x0.2,x1.1,x1.2.1,x1.2.2),a1,c1,a2,c2)
 refine au [11] ?_
 exact qa ((m2,x18.1,x18.2.1,x18.2.2),l2,t3,a19,c20)
 rintro ⟨⟨x33,x34,x37,x38⟩,a31,c32,a35,c36⟩
 refine aw [39,1,1,3,4,24,6,25,6,0,2,10] ?_ ?_
 refine au [8,13] ?_
 exact qK (a35,c36)
 refine au [57] ?_
 refine qi [0,1,9] [0] [] [] (fun (((x51,x52,x55,x56),a49,c50,a53,c54):(qFm×Int×qFm×Bool)×qFn×Nat×qFn×Nat)=>([(10,qFp a49 x51 c50)],[⟨t1,316,[qFo x52,qFp a53 x55 c54,.bool x56]⟩],[qFu a53 x55 c54],[qFr a49 x51 c50],yQ F i2 i5 x51 x52 x55 x56)) ?_ ?_
 refine aw [1,3,9,18,25,1,0,2,10] ?_ ?_
 refine au [45,59,78] ?_
 refine qt qri ?_
 rintro x4 e2 ⟨⟨a3,c3⟩,a5,c4⟩
 refine au [4,79,5,47,3,89,78,4] ?_
 refine qt qiU ?_
 rintro x5 e3 ⟨a6,c6⟩
 refine au [0,34,15] ?_
 exact qa ((x4.2,x5.1,x5.2.1,x5.2.2),a5,c4,a6,c6)
 refine au [11] ?_
 exact qa ((x33,x34,x37,x38),a31,c32,a35,c36)
 rintro ⟨⟨x51,x52,x55,x56⟩,a49,c50,a53,c54⟩
 try dsimp only
 refine qi [0] [1] [0] [] (fun (((x76,x77,x80),g75,a78,c79):(Bool×Int×qFm)×Nat×qFn×Nat)=>([(13,qFq g75),(14,.bool x76)],[⟨g75,65,[qFo x77,qFp a78 x80 c79]⟩],[qFu a78 x80 c79],[],qbu F x52 x55 x56 x76 x77 x80)) ?_ ?_
 refine qI [] [0,0] [0] 13 ?_
 refine qb 0 (.agg #[qFo 0,.slice none 0 0]) rfl rfl rfl (qdR (cells:=[qFo 0,.slice none 0 0]) st65 rfl (by kernel_rfl)) ?_
 refine au [6,1,6,2,15,4,24,15,5] ?_
 refine yZ 3 10 rfl rfl (by kernel_rfl) rfl rfl ?_ ?_
 refine au [35,0] ?_
 rintro x85 e85 ⟨a86,c87⟩
 refine au [0,30,6] ?_
 refine yZ 6 10 rfl rfl (by kernel_rfl) rfl rfl ?_ ?_
 refine au [29,7,32,3] ?_
 rintro x88 e88 ⟨a89,c90⟩
 refine au [0,30,6,6,7,6,8,6,9,12,10,24,5] ?_
 intro g91
 refine au [0,26,15,12,11,87,26,15,6,12,54] ?_
 exact qa ((x88.2.2,x88.1,x88.2.1),g91,a89,c90)
 refine au [24,5] ?_
 intro g92
 refine au [0,26,15,12,6,29,7,32,3] ?_
 rintro x93 e93 ⟨a94,c95⟩
 refine au [0,26,15,6,7,6,8,6,9,12,11,87,26,15,6,12,54] ?_
 exact qa ((x93.2.2,x93.1,x93.2.1),g92,a94,c95)
 refine au [24,5] ?_
 intro g96
 refine au [0,26,15,12,3,35,0] ?_
 rintro x97 e97 ⟨a98,c99⟩
 refine au [0,26,15,12,6,29,7,32,3] ?_
 rintro x9 e4 ⟨a7,c7⟩
 refine au [0,26,15,6,7,6,8,6,9,12,11,87,26,15,6,12,54] ?_
 exact qa ((x9.2.2,x9.1,x9.2.1),g96,a7,c7)
 rintro ⟨⟨x76,x77,x80⟩,g75,a78,c79⟩
 refine au [91,4,112,4] ?_
 refine zQ 3 69 72 [0,13,64] (!x76) ?_ ?_ ?_
 exact az [62,61]
 exact az [4,25,7,60]
 refine au [55,21,46,3,4,25,10,34,7] ?_
 rintro x82 e82 ⟨a83,c84⟩
 refine au [0] ?_
 exact qK (a83,c84)
theorem qn5 (hm:qfn F i1 m1 i2 i3 i4=some i5) :
    qFw 287 [qFo i1,qFp l1 m1 t1,.agg #[qFo i2,qFo i3,qFo i4]] [qFr l1 m1 t1] (qFo i5):=by
 refine pureA func287 ntmps287 hm fun _=>?_
 refine au [108,23] ?_
 intro g8
 refine au [81,48,24,3,4] ?_
 refine zQ 3 9 12 [1,5] (decide (1048576<i1)) ?_ ?_ ?_
 exact az [62,61]
 exact az [4,105]
 refine aw [0,2,10] ?_ ?_
 exact az [45,76]
 refine aw [11,2,1,1,3,9,18,25,1,0,2,10] ?_ ?_
 refine au [48,30,3] ?_
 intro x14 e14 _
 exact az [76]
 exact az [96,69]
theorem qn4 {r:(Int×qFm×Int)}(hm:qfm F i1 m1 m2 i2 i3 i4=some r) :
    Pure qFv 259 [qFo i1,qFp l1 m1 t1,qFp l2 m2 t2,.agg #[qFo i2,qFo i3,qFo i4]] [qFr l1 m1 t1,qFr l2 m2 t2] (qFn×Nat) (fun g=>.tuple #[.agg #[qFo r.1,qFp g.1 r.2.1 g.2],qFo r.2.2]) (fun g=>[qFu g.1 r.2.1 g.2]) (fun _=>[]):=by
 refine pureA func259 ntmps259 hm fun _=>?_
 refine au [28,7,45,23] ?_
 intro g11
 refine au [24,5] ?_
 intro g12
 refine au [80,25,10,29,10] ?_
 intro x13 e13 _
 refine au [47] ?_
 refine qi [0,1,2,7,8] [0,1] [] [0,1] (fun ((x19,_):Int×Unit)=>([(10,qFo x19)],[],[],[],qbb F i1 m1 m2 i2 i3 i4 x19)) ?_ ?_
 refine au [48,25,6,4] ?_
 refine kI 7 [0,1,2,7,8,10] [0,1] [] [0,1] (fun ((x40,_):Bool×Unit)=>([(23,.bool x40)],[],[],[],qbe F i1 m1 m2 i2 i3 i4 x13 x40)) ?_ ?_
 refine qD (os:=_) rfl ?_
 refine av [26,2] ?_ ?_
 intro h38
 refine kj (k:=16) rfl h38 ?_
 refine au [4,24,3,4] ?_
 refine zQ 3 19 22 [0,1,2,7,8,10,16] (decide (1048576<i1)) ?_ ?_ ?_
 exact az [62,61]
 exact az [4,105]
 refine au [86] ?_
 exact qa ((decide (i1<0) || decide (1048576<i1)),())
 intro h38
 refine kg (k:=16) rfl h38 ?_
 refine au [68,62,85] ?_
 exact qa (false,())
 rintro ⟨x40,_⟩
 try dsimp only
 refine qD (os:=_) rfl ?_
 refine aw [0,2,10] ?_ ?_
 refine au [3,5,0] ?_
 exact qa ((3:Int),())
 refine au [11] ?_
 exact qa (x13,())
 rintro ⟨x19,_⟩
 try dsimp only
 refine qi [0,1,2,7,8] [0,1] [] [0,1] (fun ((x22,_):Int×Unit)=>([(10,qFo x22)],[],[],[],qbc F i1 m1 m2 i2 i3 i4 x22)) ?_ ?_
 refine aw [1,3,4,25,6,0,2,10] ?_ ?_
 refine au [3,4,30,3] ?_
 intro x36 e36 _
 refine au [5,0] ?_
 exact qa (x36,())
 refine au [11] ?_
 exact qa (x19,())
 rintro ⟨x22,_⟩
 try dsimp only
 refine qi [0,1,2,7,8] [0,1] [] [0,1] (fun ((x25,_):Int×Unit)=>([(10,qFo x25)],[],[],[],qbd F i1 m1 m2 i2 i3 i4 x25)) ?_ ?_
 refine aw [1,3,4,25,6,0,2,10] ?_ ?_
 refine au [3,89,25,10] ?_
 refine qd qn5 ?_
 intro x34 e34 _
 refine au [5,0] ?_
 exact qa (x34,())
 refine au [11] ?_
 exact qa (x22,())
 rintro ⟨x25,_⟩
 refine aw [39,1,1,3,4,25,3,0,2,10] ?_ ?_
 refine au [45] ?_
 refine qH [qFo 0,.slice none 0 0] ?_
 exact az [4,21,58,26,0,34,14]
 refine au [96] ?_
 refine qH [qFo 0,.slice none 0 0,.bool false] ?_
 refine au [23] ?_
 intro g27
 refine au [59,89,4,26,7,29,7,35,1] ?_
 rintro x28 e28 ⟨a29,c30⟩
 refine aw [0,2,1,1,3,4,24,10,9,18,0,2,10] ?_ ?_
 refine au [45] ?_
 refine qH [qFo 0,.slice none 0 0] ?_
 exact az [25,5,58,26,0,32,4]
 refine au [57,48,55,24,9,25,5,49] ?_
 exact ku (a29,c30) 1
theorem qpC {r:(Int×Int×qFm×Bool)}(hm:qf9 F p1 m1 i1 i2 i3 i4=some r) :
    Pure qFv 230 [qFp l1 p1 t1,qFp l2 m1 t2,qFo i1,.agg #[qFo i2,qFo i3,qFo i4]] [SlN eN56 iN56 1 (qFp l1 p1 t1) p1 n1,qFr l2 m1 t2] (qFn×Nat) (fun g=>.tuple #[.agg #[qFo r.1,qFo r.2.1,qFp g.1 r.2.2.1 g.2],.bool r.2.2.2]) (fun g=>[qFu g.1 r.2.2.1 g.2]) (fun _=>[]):=by
 refine pureA func230 ntmps230 hm fun _=>?_
 refine au [28,7,45,23] ?_
 intro g11
 refine au [24,5] ?_
 intro g12
 refine au [59,24,6,80] ?_
 refine qH [qFo 0,.slice none 0 0] ?_
 refine au [24,5] ?_
 intro g13
 refine au [21,46] ?_
 refine qi [0,1,2,7,8,10,11] [1,2] [] [0,1] (fun (((x18,x21),a19,c20):(Int×qFm)×qFn×Nat)=>([],[⟨g13,65,[qFo x18,qFp a19 x21 c20]⟩],[qFu a19 x21 c20],[],qb5 F p1 m1 i1 i3 i4 x18 x21)) ?_ ?_
 refine aw [1,3,9,25,15,25,1,0,2,10] ?_ ?_
 refine au [3,4,25,11,34,6] ?_
 rintro x46 e46 ⟨a47,c48⟩
 refine au [87] ?_
 exact qa ((x46.1,x46.2),a47,c48)
 refine au [11,26,0] ?_
 exact qa (((0:Int),([]:qFm)),none,0)
 rintro ⟨⟨x18,x21⟩,a19,c20⟩
 refine au [117,47] ?_
 refine qi [1,2,7,8,10,11] [0,1,2] [0] [1] (fun ((x29,a27,c28):qFm×qFn×Nat)=>([(12,qFp a27 x29 c28)],[],[],[qFr a27 x29 c28],qb6 F p1 m1 i1 i3 i4 x18 x21 x29)) ?_ ?_
 refine aw [1,3,4,25,1,0,2,10] ?_ ?_
 refine au [3,89,4,25,9,27,2] ?_
 intro x41 e41 g44 b42 o43
 refine au [25,2,5,0] ?_
 exact qa (x41,g44.1,g44.2)
 refine au [11,25,8] ?_
 exact qml 0 rfl (qa (([]:qFm),none,0))
 rintro ⟨x29,a27,c28⟩
 refine au [91,9,25,5,97,89,25,10] ?_
 refine qd qn4 ?_
 rintro x30 e30 ⟨a31,c32⟩
 refine au [4,79,24,5] ?_
 intro g33
 refine au [21,81,48,25,3,4] ?_
 refine zQ 7 44 51 [2,8,11,13] (decide (8192<(iadd .i64 x18 x30.1))) ?_ ?_ ?_
 exact az [68,62,61]
 exact az [9,28,13,78,24,0,105]
 refine aw [0,2,10] ?_ ?_
 refine au [45] ?_
 refine qH [qFo 0,qFo 0,.slice none 0 0] ?_
 exact az [25,5,58,26,0,32,4]
 refine au [57,48,31,12,24,9,30,12] ?_
 rintro x37 e37 ⟨a38,c39⟩
 refine qH [qFo i1,qFo x37.1,qFp a38 x37.2 c39] ?_
 refine au [25,5,49] ?_
 exact ku (a38,c39) 1
theorem qpB {r:(Int×Int×qFm×Bool)}(hm:qhL F p1 m1 i1 i2 i3=some r) :
    Pure qFv 191 [qFp l1 p1 t1,qFp l2 m1 t2,.agg #[qFo i1,qFo i2,qFo i3]] [SlN eN56 iN56 1 (qFp l1 p1 t1) p1 n1,qFr l2 m1 t2] (qFn×Nat) (fun g=>.tuple #[.agg #[qFo r.1,qFo r.2.1,qFp g.1 r.2.2.1 g.2],.bool r.2.2.2]) (fun g=>[qFu g.1 r.2.2.1 g.2]) (fun _=>[]):=by
 refine pureA func191 ntmps191 hm fun _=>?_
 refine au [108,23] ?_
 intro g10
 refine au [24,5] ?_
 intro g11
 refine au [47] ?_
 refine qN (fun (((x96,x97,x98,x0),a99,c0):(Bool×Int×Int×qFm)×qFn×Nat)=>([(6,qFq g11),(7,.bool x96)],[⟨g11,247,[qFo x97,qFo x98,qFp a99 x0 c0]⟩],[qFu a99 x0 c0],[],qfL F x96 x97 x98 x0)) ?_ ?_
 refine au [45,98,4,24,6,28,10,66,73,30,13] ?_
 refine qq [0,1,5,6,16] [1] [] [0,1] (fun (((x2,x3,x5,x6,x10),a0,c1):(Bool×Int×Int×Int×qFm)×qFn×Nat)=>([(7,.bool x2),(17,qFo x3)],[⟨g11,247,[qFo x5,qFo x6,qFp a0 x10 c1]⟩],[qFu a0 x10 c1],[])) (false,(0:Int),(0:Int),(0:Int),([]:qFm)) (none,0) ?_
 intro k0
 rintro ⟨⟨x2,x3,x5,x6,x10⟩,a0,c1⟩
 refine aw [39,1,3,24,3,0,2,1,10] ?_ ?_
 refine au [57] ?_
 refine qi [0,1,5,6,16,17] [0] [] [0,1] (fun (((x11,x12,x13,x14),a1,c2):(Bool×Int×Int×qFm)×qFn×Nat)=>([(7,.bool x11)],[⟨g11,247,[qFo x12,qFo x13,qFp a1 x14 c2]⟩],[qFu a1 x14 c2],[],vx F (vy F p1 m1 i1 i2 i3 k0) x3 x11 x12 x13 x14)) ?_ ?_
 refine au [14,48,59,89,24,9] ?_
 refine qd qpC ?_
 rintro x15 e0 ⟨a3,c4⟩
 refine au [4,79,24,5] ?_
 intro g0
 refine au [21,59,4] ?_
 refine kI 12 [0,1,5,6,7,9,16,17] [0,1,2] [0,1] [0,1] (fun ((x16,_):Bool×Unit)=>([(41,.bool x16)],[],[],[],qcI F (vy F p1 m1 i1 i2 i3 k0) x2 x3 x5 x6 x10 x15 x16)) ?_ ?_
 refine qD (os:=_) rfl ?_
 refine av [26,2] ?_ ?_
 intro h0
 refine kj (k:=29) rfl h0 ?_
 refine au [4,25,7,4] ?_
 refine qjQ 8 (!x2) [(0,qFp l1 p1 t1),(1,qFp l2 m1 t2),(5,qFq g10),(6,qFq g11),(7,.bool x2),(16,qFo (iadd .i64 (imin i1 (p1.length:Int)) 1)),(17,qFo x3),(9,qFq g0),(29,.bool true),(30,.bool x2),(31,.bool (!x2)),(32,.bool (!x2)),(40,.bool ((!x2) || decide (x15.2.1<x6)))] (fun h1=>?_) (fun h1=>?_) ?_
 refine qD (os:=_) rfl (kj (k:=32) rfl h1 ?_)
 refine au [68,62,7,24,11] ?_
 refine qs (d:=40) (v:=.bool ((!x2) || decide (x15.2.1<x6))) rfl (by rw[h1];simp only[Bool.true_or]) (qs (d:=32) (v:=.bool (!x2)) rfl (by simp only[qFp,h1] <;> rfl) ?_)
 exact az [53]
 refine qD (os:=_) rfl (kg (k:=32) rfl h1 ?_)
 refine au [9,78,9,110,24,3,24,12] ?_
 refine qs (d:=40) (v:=.bool ((!x2) || decide (x15.2.1<x6))) rfl (by rw[h1];simp only[Bool.false_or]) (qs (d:=32) (v:=.bool (!x2)) rfl (by simp only[qFp,h1] <;> rfl) ?_)
 exact az [53]
 refine qD (os:=_) rfl ?_
 refine au [86] ?_
 exact qa (((!x2) || decide (x15.2.1<x6)),())
 intro h0
 refine kg (k:=29) rfl h0 ?_
 refine au [68,68,62,7,85] ?_
 exact qa (false,())
 rintro ⟨x16,_⟩
 try dsimp only
 refine qD (os:=_) rfl ?_
 refine aw [0,2,10] ?_ ?_
 refine au [3,24,9,27,9,5,115] ?_
 exact qa ((true,x15.1,x15.2.1,x15.2.2.1),a3,c4)
 refine au [11,24,2] ?_
 exact qa ((x2,x5,x6,x10),a0,c1)
 rintro ⟨⟨x11,x12,x13,x14⟩,a1,c2⟩
 refine au [39,94] ?_
 exact qk ((x11,iadd .i64 x3 1,x12,x13,x14),a1,c2)
 refine au [71] ?_
 exact qa ((x2,x5,x6,x10),a0,c1)
 rintro ⟨⟨x96,x97,x98,x0⟩,a99,c0⟩
 refine au [39,77,4,21,49] ?_
 exact ku (a99,c0) 0
theorem qiN {r:(Bool×Int×Int×Int×Int×Int×qFm×qFm×qFm)}(hm:qcQ F i1 i2 i3 i4 i5 m1 m2 m3 p1=some r) :
    PureM qFv 164 [qFq t1,.agg #[qFp l4 p1 t5]] [⟨t1,169,[qFo i1,qFo i2,qFo i3,qFo i4,qFo i5,qFp l1 m1 t2,qFp l2 m2 t3,qFp l3 m3 t4]⟩] [qFu l1 m1 t2,qFs l2 m2 t3,qFs l3 m3 t4] [SlN eN56 iN56 1 (qFp l4 p1 t5) p1 n1] ((qFn×Nat)×(qFn×Nat)×qFn×Nat) (fun _=>.bool r.1) (fun g=>[⟨t1,169,[qFo r.2.1,qFo r.2.2.1,qFo r.2.2.2.1,qFo r.2.2.2.2.1,qFo r.2.2.2.2.2.1,qFp g.1.1 r.2.2.2.2.2.2.1 g.1.2,qFp g.2.1.1 r.2.2.2.2.2.2.2.1 g.2.1.2,qFp g.2.2.1 r.2.2.2.2.2.2.2.2 g.2.2.2]⟩]) (fun g=>[qFu g.1.1 r.2.2.2.2.2.2.1 g.1.2,qFs g.2.1.1 r.2.2.2.2.2.2.2.1 g.2.1.2,qFs g.2.2.1 r.2.2.2.2.2.2.2.2 g.2.2.2]):=by
 refine pureMA func164 ntmps164 hm fun _=>?_
 refine au [111] ?_
 intro g19
 refine au [47] ?_
 refine qN (fun (((x0,x1,x8,x9),a0,c0,a1,c1,a2,c2):(Int×qFm×qFm×qFm)×qFn×Nat×qFn×Nat×qFn×Nat)=>([],[⟨t1,169,[qFo i1,qFo i2,qFo i3,qFo i4,qFo x0,qFp a0 x1 c0,qFp a1 x8 c1,qFp a2 x9 c2]⟩],[qFu a0 x1 c0,qFs a1 x8 c1,qFs a2 x9 c2],[],qaC F i1 i2 i3 i4 x0 x1 x8 x9)) ?_ ?_
 refine au [45,78,84] ?_
 refine qq [0,3,10,11] [0] [] [0] (fun (((x11,x12,x14,x15,x17),a3,c3,a4,c4,a5,c5):(Int×Int×qFm×qFm×qFm)×qFn×Nat×qFn×Nat×qFn×Nat)=>([(12,qFo x11)],[⟨t1,169,[qFo i1,qFo i2,qFo i3,qFo i4,qFo x12,qFp a3 x14 c3,qFp a4 x15 c4,qFp a5 x17 c5]⟩],[qFu a3 x14 c3,qFs a4 x15 c4,qFs a5 x17 c5],[])) ((0:Int),i5,m1,m2,m3) (l1,t2,l2,t3,l3,t4) ?_
 intro k0
 rintro ⟨⟨x11,x12,x14,x15,x17⟩,a3,c3,a4,c4,a5,c5⟩
 refine aw [39,1,3,24,3,0,2,1,10] ?_ ?_
 refine au [83,48,27,2] ?_
 intro x18 e0 g0 b0 o0
 refine au [25,2,5,47] ?_
 refine qi [0,3,10,11,12] [0,1] [0,1,2] [2] (fun (((x19,x20,x21,x22),g2,a6,c6):(Bool×Int×Int×qFm)×Nat×qFn×Nat)=>([(7,qFq g2),(8,.bool x19)],[⟨g2,247,[qFo x20,qFo x21,qFp a6 x22 c6]⟩],[qFu a6 x22 c6],[],qaD F (kS F i1 i2 i3 i4 p1 k0) i1 i2 i3 i4 x11 x12 x14 x15 x17 x19 x20 x21 x22)) ?_ ?_
 refine qu0 2 qp rfl ?_
 intro x23 e1 a7 c7 g3 h0 h1
 refine qI [] [0,0] [0,1,2,3] 17 ?_
 refine au [109,6,2] ?_
 refine qb 3 (qFp a7 x23 c7) rfl rfl rfl (qcY underlying22 tf56 rfl rfl rfl e1 h1 h0) ?_
 refine au [6,4,6,5,6,6,15,7,15,8] ?_
 refine qB 9 (.agg #[qFo i2,qFo i3,qFo i4]) rfl rfl rfl (qz (i:=1) rfl tf26 rfl rfl (by simp) rfl) (yZ 10 14 rfl rfl (by kernel_rfl) rfl rfl ?_ ?_)
 refine au [35,2] ?_
 rintro x24 e2 ⟨a9,c8⟩
 refine au [0,35,3,6,11,100,12,14,24,5] ?_
 intro g4
 refine au [0,30,4,12,15,87,30,4,6,16,54] ?_
 exact qa ((x24.2.2.2,x24.1,x24.2.1,x24.2.2.1),g4,a9,c8)
 refine au [24,5] ?_
 intro g5
 refine au [0,30,4,12,10,35,2] ?_
 rintro x25 e3 ⟨a10,c10⟩
 refine au [0,30,4,6,11,100,12,15,87,30,4,6,16,54] ?_
 exact qa ((x25.2.2.2,x25.1,x25.2.1,x25.2.2.1),g5,a10,c10)
 rintro ⟨⟨x19,x20,x21,x22⟩,g2,a6,c6⟩
 refine au [39,1] ?_
 refine qi [0,3,7,10,11,12] [0,1,2] [0,1,2,3] [0] (fun ((x26,_):Bool×Unit)=>([(45,.bool x26)],[],[],[],yn F (kS F i1 i2 i3 i4 p1 k0) i1 i2 i3 i4 x11 x12 x14 x15 x17 x20 x21 x22 x26)) ?_ ?_
 refine av [30,1] ?_ ?_
 intro h2
 refine au [35,4,92] ?_
 refine yJ 33 h2 ?_
 refine au [20,3,20,4,20,5,20,6,20,7,20,8,20,9,20,10,20,11,20,12,20,13,6,14,54] ?_
 exact qa (true,())
 intro h2
 refine au [35,4,92] ?_
 refine yJ 33 h2 ?_
 refine au [6,3,6,4,15,5,15,6,15,7,26,9,8,15,9,15,10,28,12,11,100,6,14,54] ?_
 exact qa ((decide (8192<(iadd .i64 x12 x21))),())
 rintro ⟨x26,_⟩
 refine aw [39,10] ?_ ?_
 refine au [45,58,90,50] ?_
 exact qK ((a3,c3),(a4,c4),a5,c5)
 refine au [57] ?_
 refine qi [0,3,7,10,11,12] [0,2] [0,3] [0] (fun (((x27,x28),a12,c11,a13,c13):(qFm×qFm)×qFn×Nat×qFn×Nat)=>([],[⟨t1,169,[qFo i1,qFo i2,qFo i3,qFo i4,qFo x12,qFp a3 x14 c3,qFp a12 x27 c11,qFp a13 x28 c13]⟩],[qFs a12 x27 c11,qFs a13 x28 c13],[],qaE F (kS F i1 i2 i3 i4 p1 k0) x11 x12 x14 x21 x22 x27 x28)) ?_ ?_
 refine kD mixed [24,27] _ _ (.cons 0 rfl (.cons 1 rfl .nil)) (qg 0 rfl (qgV 1 rfl qf)) 28 rfl ?_
 refine au [92,6,3,15,4] ?_
 refine qy 5 (qFp a4 x15 c4) [[24],[27]] rfl rfl rfl (kX (j:=1) rfl tf56 rfl rfl (fun _=>rfl) rfl) ?_
 refine au [15,6,26,9,7,6,10,6,11,15,12] ?_
 refine qy 13 (qFp a5 x17 c5) [[24],[27]] rfl rfl rfl (kX (j:=1) rfl tf56 rfl rfl (fun _=>rfl) rfl) ?_
 refine au [6,14,6,15,15,16,15,17,15,18] ?_
 refine qy 19 (qFo x12) [[24],[27]] rfl rfl rfl (kX (j:=1) rfl tf3 rfl rfl (fun _=>rfl) rfl) (yZ 8 20 rfl rfl (by kernel_rfl) rfl rfl ?_ ?_)
 refine zI [x20] (fun a15 c14=>?_)
 refine au [0,27,10] ?_
 refine yZ 9 20 rfl rfl (by kernel_rfl) rfl rfl ?_ ?_
 refine zA 2 (qC .i64) rfl underlying56 tf3 rfl rfl rfl rfl rfl (.inl ⟨0,_,rfl⟩) rfl rfl (fun x29 e4 a16 c16=>?_)
 refine au [0,27,10,12,20] ?_
 refine zI [x12] (fun a18 c17=>?_)
 refine au [0,27,10,12,21] ?_
 refine zA 4 (qC .i64) rfl underlying56 tf3 rfl rfl rfl rfl rfl (.inl ⟨0,_,rfl⟩) rfl rfl (fun x30 e5 a19 c19=>?_)
 refine au [0,27,10,6,22,15,23,12,24,25,5,0,29,8,6,25,15,26,12,27,25,5,0,29,8,54] ?_
 exact qa ((x29,x30),a16,c16,a19,c19)
 refine zI [x12] (fun a20 c20=>?_)
 refine au [0,27,10,12,9] ?_
 refine zA 3 (qC .i64) rfl underlying56 tf3 rfl rfl rfl rfl rfl (.inl ⟨1,_,rfl⟩) rfl rfl (fun x31 e6 a21 c21=>?_)
 refine au [0,27,10,12,21] ?_
 refine zA 4 (qC .i64) rfl underlying56 tf3 rfl rfl rfl rfl rfl (.inl ⟨1,_,rfl⟩) rfl rfl (fun x32 e7 a22 c22=>?_)
 refine au [0,27,10,6,22,15,23,12,24,25,5,0,29,8,6,25,15,26,12,27,25,5,0,29,8,54] ?_
 exact qa ((x31,x32),a21,c21,a22,c22)
 refine zI [x12] (fun a23 c23=>?_)
 refine au [0,27,10,12,8] ?_
 refine zI [x20] (fun a24 c24=>?_)
 refine au [0,27,10,12,9] ?_
 refine zA 3 (qC .i64) rfl underlying56 tf3 rfl rfl rfl rfl rfl (.inl ⟨0,_,rfl⟩) rfl rfl (fun x33 e8 a25 c25=>?_)
 refine au [0,27,10,12,21] ?_
 refine zA 4 (qC .i64) rfl underlying56 tf3 rfl rfl rfl rfl rfl (.inl ⟨2,_,rfl⟩) rfl rfl (fun x34 e9 a26 c26=>?_)
 refine au [0,27,10,6,22,15,23,12,24,25,5,0,29,8,6,25,15,26,12,27,25,5,0,29,8,54] ?_
 exact qa ((x33,x34),a25,c25,a26,c26)
 rintro ⟨⟨x27,x28⟩,a12,c11,a13,c13⟩
 try dsimp only
 refine kD mixed [12] _ _ (.cons 0 rfl (.cons 0 rfl .nil)) (qg 0 rfl (qgV 2 rfl qf)) 13 rfl ?_
 refine au [92,15,3,15,4] ?_
 refine qy 5 (.agg #[qFo x12,.slice a3 x14.length c3]) [[12]] rfl rfl rfl (kX (j:=1) rfl tf65 rfl rfl (by simp) rfl) ?_
 refine au [15,6] ?_
 refine qB 7 (.agg #[qFo x21,.slice a6 x22.length c6]) rfl rfl rfl (qz (i:=1) rfl tf65 rfl rfl (by simp) rfl) ?_
 refine au [12,8,30,12] ?_
 rintro x35 e10 ⟨a27,c27⟩
 refine au [0] ?_
 refine qc (.cons 0 rfl (.cons 0 rfl .nil)) (qg 0 rfl (qgV 2 rfl qf)) ?_
 refine au [6,9,15,10,15,11,12,12,27,9,0] ?_
 refine kY 12 rfl (by kernel_rfl) (.cons 0 rfl (.cons 0 rfl .nil)) ?_
 refine au [54,95] ?_
 exact qk ((iadd .i64 x11 1,x35.1,x35.2,x27,x28),a27,c27,a12,c11,a13,c13)
 refine au [71] ?_
 exact qa ((x12,x14,x15,x17),a3,c3,a4,c4,a5,c5)
 rintro ⟨⟨x0,x1,x8,x9⟩,a0,c0,a1,c1,a2,c2⟩
 refine au [117,49] ?_
 exact qK ((a0,c0),(a1,c1),a2,c2)
theorem qmB {r:(Int×Int×Int×Int×Int×qFm×qFm×qFm×Int)}(hm:qcz F p1 i1 i2 i3=some r) :
    PureM qFv 121 [.agg #[qFp l1 p1 t1],.agg #[qFo i1,qFo i2,qFo i3]] [] [] [SlN eN56 iN56 1 (qFp l1 p1 t1) p1 n1] ((qFn×Nat)×(qFn×Nat)×(qFn×Nat)×Nat) (fun g=>.tuple #[qFq g.2.2.2,qFo r.2.2.2.2.2.2.2.2]) (fun g=>[⟨g.2.2.2,169,[qFo r.1,qFo r.2.1,qFo r.2.2.1,qFo r.2.2.2.1,qFo r.2.2.2.2.1,qFp g.1.1 r.2.2.2.2.2.1 g.1.2,qFp g.2.1.1 r.2.2.2.2.2.2.1 g.2.1.2,qFp g.2.2.1.1 r.2.2.2.2.2.2.2.1 g.2.2.1.2]⟩]) (fun g=>[qFu g.1.1 r.2.2.2.2.2.1 g.1.2,qFs g.2.1.1 r.2.2.2.2.2.2.1 g.2.1.2,qFs g.2.2.1.1 r.2.2.2.2.2.2.2.1 g.2.2.1.2]):=by
 refine pureMA func121 ntmps121 hm fun _=>?_
 refine au [111] ?_
 intro g7
 refine au [23] ?_
 intro g8
 refine au [5,80,25,10,28,2] ?_
 intro x9 e9 _
 refine au [47] ?_
 refine qi [2,3] [0,1] [] [0] (fun ((x12,_):Int×Unit)=>([(6,qFo x12)],[],[],[],qac F p1 i1 i2 i3 x12)) ?_ ?_
 refine aw [1,3,4,25,6,0,2,10] ?_ ?_
 refine au [3,24,9,29,10] ?_
 intro x97 e97 _
 refine au [5,0] ?_
 exact qa (x97,())
 refine au [11] ?_
 exact qa (x9,())
 rintro ⟨x12,_⟩
 refine au [117,98,24,6,24,9] ?_
 refine qH [qFo (p1.length:Int),qFo i1,qFo i2,qFo i3,qFo 0,.slice none 0 0] ?_
 refine qH [qFo (p1.length:Int),qFo i1,qFo i2,qFo i3,qFo 0,.slice none 0 0,.slice none 0 0,.slice none 0 0] ?_
 refine au [23] ?_
 intro g13
 refine au [47] ?_
 refine qN (fun (((x48,x49,x50,x51,x52,x53,x56,x59,x62),a54,c55,a57,c58,a60,c61):(Int×Int×Int×Int×Int×Int×qFm×qFm×qFm)×qFn×Nat×qFn×Nat×qFn×Nat)=>([(6,qFo x48),(7,qFq g13)],[⟨g13,169,[qFo x49,qFo x50,qFo x51,qFo x52,qFo x53,qFp a54 x56 c55,qFp a57 x59 c58,qFp a60 x62 c61]⟩],[qFu a54 x56 c55,qFs a57 x59 c58,qFs a60 x62 c61],[],vI F x48 x49 x50 x51 x52 x53 x56 x59 x62)) ?_ ?_
 refine au [48,25,6,4] ?_
 refine kI 5 [6,7] [] [] [] (fun (((x74,x75,x76,x77,x78,x79,x82,x85,x88),a80,c81,a83,c84,a86,c87):(Bool×Int×Int×Int×Int×Int×qFm×qFm×qFm)×qFn×Nat×qFn×Nat×qFn×Nat)=>([(28,.bool x74)],[⟨g13,169,[qFo x75,qFo x76,qFo x77,qFo x78,qFo x79,qFp a80 x82 c81,qFp a83 x85 c84,qFp a86 x88 c87]⟩],[qFu a80 x82 c81,qFs a83 x85 c84,qFs a86 x88 c87],[],vJ F x12 x74 x75 x76 x77 x78 x79 x82 x85 x88)) ?_ ?_
 refine qD (os:=_) rfl ?_
 refine av [26,2] ?_ ?_
 intro h63
 refine kj (k:=23) rfl h63 ?_
 refine au [4,26,7,29,7,26,10,26,10] ?_
 refine qt qiN ?_
 rintro x90 e90 ⟨⟨a91,c92⟩,⟨a93,c94⟩,a95,c96⟩
 refine au [25,7,86] ?_
 exact qa (((!x90.1),x90.2.1,x90.2.2.1,x90.2.2.2.1,x90.2.2.2.2.1,x90.2.2.2.2.2.1,x90.2.2.2.2.2.2.1,x90.2.2.2.2.2.2.2.1,x90.2.2.2.2.2.2.2.2),a91,c92,a93,c94,a95,c96)
 intro h63
 refine kg (k:=23) rfl h63 ?_
 refine au [68,85,26,0,25,8,25,8] ?_
 exact qa ((false,(p1.length:Int),i1,i2,i3,(0:Int),([]:qFm),([]:qFm),([]:qFm)),none,0,none,0,none,0)
 rintro ⟨⟨x74,x75,x76,x77,x78,x79,x82,x85,x88⟩,a80,c81,a83,c84,a86,c87⟩
 try dsimp only
 refine qD (os:=_) rfl ?_
 refine aw [0,2,10] ?_ ?_
 refine au [3,5,0] ?_
 exact qa (((8:Int),x75,x76,x77,x78,x79,x82,x85,x88),a80,c81,a83,c84,a86,c87)
 refine au [11] ?_
 exact qa ((x12,x75,x76,x77,x78,x79,x82,x85,x88),a80,c81,a83,c84,a86,c87)
 rintro ⟨⟨x48,x49,x50,x51,x52,x53,x56,x59,x62⟩,a54,c55,a57,c58,a60,c61⟩
 refine au [91,4,5,49] ?_
 exact qK ((a54,c55),(a57,c58),(a60,c61),g13)
theorem qnW {r:(Int×Int×Int×Int×Int×qFm×Int)}(hm:qcp F p1 i1 i2 i3=some r) :
    Pure qFv 87 [.agg #[qFp l1 p1 t1],.agg #[qFo i1,qFo i2,qFo i3]] [SlN eN56 iN56 1 (qFp l1 p1 t1) p1 n1] (qFn×Nat) (fun g=>.tuple #[.agg #[qFo r.1,qFo r.2.1,qFo r.2.2.1,qFo r.2.2.2.1,qFo r.2.2.2.2.1,qFp g.1 r.2.2.2.2.2.1 g.2],qFo r.2.2.2.2.2.2]) (fun g=>[qFu g.1 r.2.2.2.2.2.1 g.2]) (fun _=>[]):=by
 refine pureA func87 ntmps87 hm fun _=>?_
 refine au [111] ?_
 intro g7
 refine au [23] ?_
 intro g8
 refine au [24,5] ?_
 intro g9
 refine au [80,26,7,25,10,35,5] ?_
 rintro x10 e10 ⟨⟨a11,c12⟩,⟨a13,c14⟩,⟨a15,c16⟩,g17⟩
 refine aw [4,22,22,5,5,0,2,1,1,3,4,25,3,0,2,10] ?_ ?_
 refine au [45] ?_
 refine qH [qFo 0,qFo 0,qFo 0,qFo 0,qFo 0,.slice none 0 0] ?_
 exact az [4,25,5,58,26,0,32,4]
 refine au [57,48,55,24,9,25,5,49] ?_
 exact ku (a11,c12) 1
theorem qjb (F g1:Nat)(x2:List (qFm))(a3:qFn)(c4:(Nat×List (qFn×Nat)))(x5 x6 x7:Int)(x8:qFm)(a9:qFn)(c10:Nat)(x11:qFm)(r:(Int×qFm))(hm:qby F x2 x5 x6 x7 x8 x11=some r) :
    PureM qFv 62 [qFq g1] [⟨g1,85,[qFp a3 x2 c4.1,qFo x5,qFo x6,qFo x7,qFp a9 x8 c10,.string (bstr x11)]⟩] [] [SlN eN56 iN56 1 (qFp a3 x2 c4.1) x2 c4.2,qFr a9 x8 c10,GF] Unit (fun _=>qFo r.1) (fun _=>[⟨g1,85,[qFp a3 x2 c4.1,qFo x5,qFo x6,qFo x7,qFp a9 x8 c10,.string (bstr r.2)]⟩]) (fun _=>[]):=by
 refine pureMA func62 ntmps62 hm fun _=>?_
 refine au [64,47] ?_
 refine qi [0] [0] [] [0,1,2] (fun (((x21,x22,x23,x24,x25,x26,x29),g20,a27,c28):(Int×Int×Int×Int×Int×Int×qFm)×Nat×qFn×Nat)=>([(3,qFq g20),(4,qFo x21)],[⟨g20,67,[qFo x22,qFo x23,qFo x24,qFo x25,qFo x26,qFp a27 x29 c28]⟩],[qFu a27 x29 c28],[],qbY F x21 x22 x23 x24 x25 x26 x29)) ?_ ?_
 refine au [35,6,70,15,2,15,3] ?_
 refine qB 4 (.agg #[.slice a3 x2.length c4.1]) rfl rfl rfl (qz (i:=0) rfl tf24 rfl rfl (by simp) rfl) ?_
 refine au [6,5,6,6,15,7,15,8] ?_
 refine qB 9 (.agg #[qFo x5,qFo x6,qFo x7]) rfl rfl rfl (qz (i:=0) rfl tf26 rfl rfl (by simp) rfl) (yZ 10 14 rfl rfl (by kernel_rfl) rfl rfl ?_ ?_)
 refine au [30,14] ?_
 rintro x31 e31 ⟨a32,c33⟩
 refine au [0,35,7,6,11,100,12,14,24,5] ?_
 intro g34
 refine au [0,27,14,12,15,87,27,14,6,16,54] ?_
 exact qa ((x31.2.2.2.2.2.2,x31.1,x31.2.1,x31.2.2.1,x31.2.2.2.1,x31.2.2.2.2.1,x31.2.2.2.2.2.1),g34,a32,c33)
 refine au [24,5] ?_
 intro g35
 refine au [0,27,14,12,10,30,14] ?_
 rintro x36 e36 ⟨a37,c38⟩
 refine au [0,27,14,6,11,100,12,15,87,27,14,6,16,54] ?_
 exact qa ((x36.2.2.2.2.2.2,x36.1,x36.2.1,x36.2.2.1,x36.2.2.2.1,x36.2.2.2.2.1,x36.2.2.2.2.2.1),g35,a37,c38)
 rintro ⟨⟨x21,x22,x23,x24,x25,x26,x29⟩,g20,a27,c28⟩
 refine au [91,9,98] ?_
 refine vh EnC.e rfl rfl rfl (fun x30 e30=>qf2 x26 x30 e30) (.consF 2 rfl .nil) (fun x30 e30 _=>?_)
 exact az [55,21,97,88]
theorem qpA {r:(qFm×qFm×Int)}(hm:qeL F p1 i1 i2 i3=some r) :
    Pure qFv 165 [.agg #[qFp l1 p1 t1],.agg #[qFo i1,qFo i2,qFo i3]] [SlN eN56 iN56 1 (qFp l1 p1 t1) p1 n1] ((qFn×Nat)×qFn×Nat) (fun g=>.tuple #[qFp g.1.1 r.1 g.1.2,qFp g.2.1 r.2.1 g.2.2,qFo r.2.2]) (fun g=>[qFs g.1.1 r.1 g.1.2,qFs g.2.1 r.2.1 g.2.2]) (fun _=>[]):=by
 refine pureA func165 ntmps165 hm fun _=>?_
 refine au [111] ?_
 intro g7
 refine au [23] ?_
 intro g8
 refine au [5,5,80,25,10,24,9,35,5] ?_
 rintro x9 e9 ⟨⟨a10,c11⟩,⟨a12,c13⟩,⟨a14,c15⟩,g16⟩
 refine aw [4,22,22,5,5,0,2,1,1,3,4,25,3,0,2,10] ?_ ?_
 refine au [48,5,5,99,25,8] ?_
 exact qx ((none,0),none,0)
 refine au [82] ?_
 refine qI [] [0,0,0] [0] 11 ?_
 refine au [70,15,2,24,15,3,6,4,6,5,15,6,24,15,7,6,8,6,9,6,10,54,2,8] ?_
 exact qx ((a12,c13),a14,c15)
theorem qnQ (hm:qdg F m1 i1=some i2) :
    qFw 193 [qFp l1 m1 t1,qFo i1] [qFr l1 m1 t1] (qFo i2):=by
 refine pureA func193 ntmps193 hm fun _=>?_
 refine au [56,81,14,48,24,3,4] ?_
 refine zQ 3 11 14 [0,1] (decide (1048576<i1)) ?_ ?_ ?_
 exact az [62,61]
 exact az [4,105]
 refine aw [5,0,2,10] ?_ ?_
 exact az [45,49,103]
 refine aw [1,3,4,24,6,25,1,5,0,2,10] ?_ ?_
 exact az [45,49,103]
 refine au [11,63,45,47] ?_
 refine qN (fun ((_,_):Unit×Unit)=>([],[],[],[],qhw F)) ?_ ?_
 refine au [48,84] ?_
 refine qq [1,19,20] [] [] [0] (fun (((x92,x93),_):(Int×Int)×Unit)=>([(5,qFo x92),(21,qFo x93)],[],[],[])) ((0:Int),(0:Int)) () ?_
 intro k0
 rintro ⟨⟨x92,x93⟩,_⟩
 refine aw [39,1,3,24,3,0,2,1,10] ?_ ?_
 refine au [83,45,26,3] ?_
 intro x0 e0 b0 o0
 refine au [25,2,81,14,48,24,3,4] ?_
 refine zQ 4 28 32 [1,5,19,20,21,7] (decide (i1<x0)) ?_ ?_ ?_
 exact az [62,7,61]
 exact az [89,105]
 refine aw [5,0,2,10] ?_ ?_
 exact az [45,49,50,90,103]
 refine aw [1,3,4,4,24,3,5,0,2,10] ?_ ?_
 exact az [45,49,50,90,103]
 refine au [11,63,3,4,5,0,95] ?_
 exact qk ((x0,iadd .i64 x93 1),())
 exact az [71,26,8]
 rintro ⟨_,_⟩
 exact az [117,69]
theorem qnR (hm:qdl F i1 i2=some i3) :
    qFw 234 [qFo i1,qFo i2] [] (qFo i3):=by
 refine pureA func234 ntmps234 hm fun _=>?_
 refine au [56,47] ?_
 refine qN (fun ((x35,_):Int×Unit)=>([(4,qFo x35)],[],[],[],qhx F x35)) ?_ ?_
 refine au [14] ?_
 refine qq [0,1] [] [] [] (fun ((x46,_):Int×Unit)=>([(4,qFo x46)],[],[],[])) (0:Int) () ?_
 intro k57
 rintro ⟨x46,_⟩
 refine au [39,1,48,25,1,4] ?_
 refine kI 8 [0,1,4] [] [] [] (fun ((x65,_):Bool×Unit)=>([(15,.bool x65)],[],[],[],qab F (qcm F i1 i2 k57) x46 x65)) ?_ ?_
 refine qD (os:=_) rfl ?_
 refine av [26,2] ?_ ?_
 intro h63
 refine kj (k:=7) rfl h63 ?_
 refine au [89,24,0,26,11] ?_
 intro h67
 refine qil rfl rfl rfl rfl h67 ?_
 refine au [113,28,5,86] ?_
 exact qa ((decide ((ishl .i64 i1 (iadd .i64 x46 1))≤(iadd .i64 i2 1))),())
 intro h63
 refine kg (k:=7) rfl h63 ?_
 refine au [68,62,7,85] ?_
 exact qa (false,())
 rintro ⟨x65,_⟩
 try dsimp only
 refine qD (os:=_) rfl ?_
 refine aw [0,2,10] ?_ ?_
 refine au [57,14,3,113,5,115] ?_
 exact qk (iadd .i64 x46 1,())
 refine au [71] ?_
 exact qa (x46,())
 rintro ⟨x35,_⟩
 exact az [91,69]
theorem qiK {r:(Int×qFm×Int)}(hm:vO F i1 m1 i2 i3=some r) :
    PureM qFv 236 [qFq t1,qFo i3] [⟨t1,302,[qFo i1,qFp l1 m1 t2,qFo i2]⟩] [qFu l1 m1 t2] [] (qFn×Nat) (fun _=>.tuple #[]) (fun g=>[⟨t1,302,[qFo r.1,qFp g.1 r.2.1 g.2,qFo r.2.2]⟩]) (fun g=>[qFu g.1 r.2.1 g.2]):=by
 refine pureMA func236 ntmps236 hm fun _=>?_
 refine au [24,8,14] ?_
 refine qq [0,1] [] [] [] (fun (((x16,x19,x20),a17,c18):(Int×qFm×Int)×qFn×Nat)=>([],[⟨t1,302,[qFo x16,qFp a17 x19 c18,qFo x20]⟩],[qFu a17 x19 c18],[])) (i1,m1,i2) (l1,t2) ?_
 intro k29
 rintro ⟨⟨x16,x19,x20⟩,a17,c18⟩
 refine aw [39,1,1,3,4,24,10,9,18,4,24,3,0,2,10] ?_ ?_
 refine au [83,3,89,55,24,9,28,14] ?_
 rintro x34 e34 ⟨a35,c36⟩
 refine au [55,87,63,3,4,112,24,0,55,87] ?_
 exact qk ((x34.1,x34.2,iadd .i64 x20 1),a35,c36)
 refine au [71] ?_
 exact qK (a17,c18)
theorem qre {r:(Int×Int×Int×Int×qFm×Int×qFm×Bool)}(hm:qfF F m1 i1=some r) :
    Pure qFv 194 [qFp l1 m1 t1,qFo i1] [qFr l1 m1 t1] ((qFn×Nat)×qFn×Nat) (fun g=>.tuple #[.agg #[qFo r.1,qFo r.2.1,qFo r.2.2.1,qFo r.2.2.2.1,qFp g.1.1 r.2.2.2.2.1 g.1.2,qFo r.2.2.2.2.2.1,qFp g.2.1 r.2.2.2.2.2.2.1 g.2.2],.bool r.2.2.2.2.2.2.2]) (fun g=>[qFu g.1.1 r.2.2.2.2.1 g.1.2,qFu g.2.1 r.2.2.2.2.2.2.1 g.2.2]) (fun _=>[]):=by
 refine pureA func194 ntmps194 hm fun _=>?_
 refine au [56,24,5] ?_
 intro g5
 refine au [59,74,4,74,35,8] ?_
 intro x6 e6 _
 refine qH [qFo (m1.length:Int),qFo i1,qFo x6,qFo 0,.slice none 0 0,qFo 0,.slice none 0 0] ?_
 refine au [24,5] ?_
 intro g7
 refine au [21,97,78,26,11] ?_
 intro h8
 refine qjS rfl rfl rfl rfl h8 ?_
 refine au [24,0,81,45,78,78,27,11,25,1,4] ?_
 refine zQ 6 30 36 [0,4,6,7] (decide (8192<(iadd .i64 (m1.length:Int) (iadd .i64 (ishr .i64 i1 x6) 1)))) ?_ ?_ ?_
 exact az [68,7,61]
 exact az [78,113,105]
 refine aw [0,2,10] ?_ ?_
 refine au [45] ?_
 refine qH [qFo 0,qFo 0,qFo 0,qFo 0,.slice none 0 0,qFo 0,.slice none 0 0] ?_
 exact az [25,5,58,114,35,9]
 refine au [96] ?_
 refine qH [qFo 0,.slice none 0 0,qFo 0] ?_
 refine au [23] ?_
 intro g12
 refine au [47] ?_
 refine qi [4,6,7,8] [2] [] [] (fun (((x0,x2,x3,x5,x7),a0,c0,a1,c1):(Int×qFm×Int×Int×qFm)×qFn×Nat×qFn×Nat)=>([],[⟨g12,302,[qFo x0,qFp a0 x2 c0,qFo x3]⟩,⟨g7,69,[qFo (m1.length:Int),qFo i1,qFo x6,qFo x5,qFp a1 x7 c1,qFo 0,.slice none 0 0]⟩],[qFu a0 x2 c0,qFu a1 x7 c1],[],qgq F m1 i1 x6 x0 x2 x3 x5 x7)) ?_ ?_
 refine au [48,84,30,13,30,13] ?_
 refine qq [4,6,7,8,40,41] [2] [] [0] (fun (((x8,x9,x10,x11,x12,x13),a3,c2,a4,c4):(Int×Int×qFm×Int×Int×qFm)×qFn×Nat×qFn×Nat)=>([(42,qFo x8)],[⟨g12,302,[qFo x9,qFp a3 x10 c2,qFo x11]⟩,⟨g7,69,[qFo (m1.length:Int),qFo i1,qFo x6,qFo x12,qFp a4 x13 c4,qFo 0,.slice none 0 0]⟩],[qFu a3 x10 c2,qFu a4 x13 c4],[])) ((0:Int),(0:Int),([]:qFm),(0:Int),(0:Int),([]:qFm)) (none,0,none,0) ?_
 intro k0
 rintro ⟨⟨x8,x9,x10,x11,x12,x13⟩,a3,c2,a4,c4⟩
 refine aw [39,1,3,24,3,0,2,1,10] ?_ ?_
 refine au [83,45,26,3] ?_
 intro x14 e0 b0 o0
 refine au [25,2,81,28,6] ?_
 intro h0
 refine kD mixed [13] _ _ (.cons 0 rfl (.cons 0 rfl .nil)) (qg 0 rfl (qg 1 rfl (qgV 2 rfl qf))) 14 rfl ?_
 refine au [15,0] ?_
 refine qy 1 (.agg #[qFo x12,.slice a4 x13.length c4]) [[13]] rfl rfl rfl (kX (j:=2) rfl tf65 rfl rfl (by simp) rfl) ?_
 refine au [6,2,15,3] ?_
 refine qy 4 (qFo x6) [[13]] rfl rfl rfl (kX (j:=2) rfl tf3 rfl rfl (fun _=>rfl) rfl) (qb 5 (qFo (ishl .i64 1 x6)) rfl rfl rfl (qi8 rfl rfl h0) ?_)
 refine au [67,33,15,8,15,9] ?_
 refine qy 10 (qFo x6) [[13]] rfl rfl rfl (kX (j:=2) rfl tf3 rfl rfl (fun _=>rfl) rfl) ?_
 refine au [12,11,28,14] ?_
 rintro x15 e1 ⟨a5,c5⟩
 refine au [0] ?_
 refine qc (.cons 0 rfl (.cons 0 rfl .nil)) (qg 0 rfl (qg 1 rfl (qgV 2 rfl qf))) ?_
 refine au [15,12,12,13,27,9,0] ?_
 refine kY 13 rfl (by kernel_rfl) (.cons 0 rfl (.cons 0 rfl .nil)) ?_
 refine au [54,2,48,4,110,26,11] ?_
 intro h1
 refine qjS rfl rfl rfl rfl h1 ?_
 refine au [35,10] ?_
 rintro x16 e2 ⟨a6,c6⟩
 refine au [46,3,89,55,24,9,28,14] ?_
 rintro x17 e3 ⟨a7,c7⟩
 refine au [55,87,95] ?_
 exact qk ((iadd .i64 x8 1,x17.1,x17.2,x16.2.2,x15.1,x15.2),a7,c7,a5,c5)
 refine au [71] ?_
 exact qa ((x9,x10,x11,x12,x13),a3,c2,a4,c4)
 rintro ⟨⟨x0,x2,x3,x5,x7⟩,a0,c0,a1,c1⟩
 refine au [91,4,35,10] ?_
 rintro x18 e4 ⟨a8,c8⟩
 refine au [97,55,24,9,9,27,9,46,45,26,7,25,5,49] ?_
 exact ku ((a1,c1),a8,c8) 1
theorem qnP {r:(Int×Int×Int×Int×qFm×Int×qFm×Int)}(hm:qdf F m1 i1=some r) :
    Pure qFv 166 [qFp l1 m1 t1,qFo i1] [qFr l1 m1 t1] ((qFn×Nat)×qFn×Nat) (fun g=>.tuple #[.agg #[qFo r.1,qFo r.2.1,qFo r.2.2.1,qFo r.2.2.2.1,qFp g.1.1 r.2.2.2.2.1 g.1.2,qFo r.2.2.2.2.2.1,qFp g.2.1 r.2.2.2.2.2.2.1 g.2.2],qFo r.2.2.2.2.2.2.2]) (fun g=>[qFu g.1.1 r.2.2.2.2.1 g.1.2,qFu g.2.1 r.2.2.2.2.2.2.1 g.2.2]) (fun _=>[]):=by
 refine pureA func166 ntmps166 hm fun _=>?_
 refine au [56,24,5] ?_
 intro g5
 refine au [81,48,4,35,11] ?_
 intro x8 e8 _
 refine aw [5,0,2,1,3,4,25,3,0,2,10] ?_ ?_
 refine au [45] ?_
 refine qH [qFo 0,qFo 0,qFo 0,qFo 0,.slice none 0 0,qFo 0,.slice none 0 0] ?_
 refine au [4,21,58,114] ?_
 exact ku ((none,0),none,0) 0
 refine au [57,48,4,35,12] ?_
 rintro x9 e9 ⟨⟨a10,c11⟩,a12,c13⟩
 refine au [4,79,24,5] ?_
 intro g14
 refine aw [21,5,0,2,1,1,3,4,25,7,0,2,10] ?_ ?_
 refine au [45] ?_
 refine qH [qFo 0,qFo 0,qFo 0,qFo 0,.slice none 0 0,qFo 0,.slice none 0 0] ?_
 exact az [25,5,58,114,35,9]
 refine au [57,77,25,5,49] ?_
 exact ku ((a10,c11),a12,c13) 1
end Go.Proofs.YthibchijlpflmaaGreatDoor
