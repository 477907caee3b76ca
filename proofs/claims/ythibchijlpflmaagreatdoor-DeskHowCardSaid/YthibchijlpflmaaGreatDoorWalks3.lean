/- Each Go function of this seat computes what its model says, part 3. -/
import Derived.Test.YthibchijlpflmaaGreatDoorWalks2
namespace Go.Proofs.YthibchijlpflmaaGreatDoor
open Go SX
open Go.Proofs.Tryz
open Go.Proofs.Tryz renaming prog→qD3
set_option maxHeartbeats 4000000
set_option linter.unusedSimpArgs false
variable {F t1 t2 t3 t4 t5:Nat}{i1 i2 i3 i4 i5:Int}{m1 m2 m3:qDU}{l1 l2 l3 l4:qDV}{d1 d2:Bool}{w1:List (Int×Int)}{p1:List (qDU)}{n1:List (qDV×Nat)}
theorem qtn (hm:qa1 F i1 m1 i2=some i3) :
    qD4 248 [.agg #[qDW i1,qDX l1 m1 t1],qDW i2] [qD1 l1 m1 t1] (.int .u64 i3):=by
 refine pureA func248 ntmps248 hm fun _=>?_
 refine au [100] ?_
 intro g6
 refine au [97,57,4,31,0] ?_
 refine vT (j:=0) (qD .u8) (by decide) rfl UnF.u inferInstance rfl rfl rfl rfl ?_
 intro x7 e7 b8 o9
 refine au [25,7,4,31,13,25,14,27,0] ?_
 intro h10
 refine qjw rfl rfl rfl rfl h10 ?_
 refine au [25,15,28,14,6,27,1] ?_
 intro x11 e11
 refine jS 4 e11 ?_
 exact az [50,11,24,8]
theorem qkr (F:Nat){σ τ:Type}{J:Rounds σ τ}{yy:σ→Int→Option (σ ⊕ τ)}{L:Nat}(hY:YieldC qD3 L (fun (p:Int)=>[.int .u64 p]) J yy)(s0:σ)(gs0:J.γ)(g1:Nat)(x2:Int)(g3:Nat)(x4:Int)(g5:Nat)(x6:Int)(x7:qDU)(a8:qDV)(c9:Nat)(r:σ ⊕ τ)(hm:qen F yy x2 x4 x6 x7 s0=some r) :
    PureM qD3 261 ([.func (.yield L) #[] #[],qDY g1,qDY g3,qDY g5]) ([⟨g1,3,[qDW x2]⟩,⟨g3,3,[qDW x4]⟩,⟨g5,65,[qDW x6,qDX a8 x7 c9]⟩]++J.IB s0 gs0) (J.IR s0 gs0) [J.F,qD1 a8 x7 c9] (J.G r) (fun _=>.tuple #[]) (fun g=>[⟨g1,3,[qDW x2]⟩,⟨g3,3,[qDW x4]⟩,⟨g5,65,[qDW x6,qDX a8 x7 c9]⟩]++J.bs r g) (fun g=>J.rs r g):=by
 refine pureMA func261 ntmps261 hm fun _=>?_
 refine au [28,12,48,24,0,51,20] ?_
 refine vE (fun (((x22,x23),g24):(Int×σ)×J.γ)=>[(0,.func (.yield L) #[] #[]),(2,qDY g3),(3,qDY g5),(5,qDW x22)]) (fun (((x22,x23),g24):(Int×σ)×J.γ)=>[⟨g1,3,[qDW x2]⟩,⟨g3,3,[qDW x4]⟩,⟨g5,65,[qDW x6,qDX a8 x7 c9]⟩]++J.IB x23 g24) (fun (((x22,x23),g24):(Int×σ)×J.γ)=>[]++J.IR x23 g24) (fun (((x22,x23),g24):(Int×σ)×J.γ)=>[qD1 a8 x7 c9,J.F]) (fun k (s:(Int×σ)×J.γ)=>yT F yy x4 x6 x7 k s.1) ((x2,s0),gs0) F ?_ (hB:=(.cons 0 rfl (.cons 0 rfl (.cons 0 rfl (qe 0 rfl))))) (hR:=(qe 0 rfl)) (hF:=(qi 1 rfl (qi 0 rfl zG)))
 intro k37
 rintro ⟨⟨x22,x23⟩,g24⟩
 try dsimp only
 refine qaM (m':=qau F yy x4 x6 x7 (yT F yy x4 x6 x7 k37) x22 x23) rfl ?_
 refine aw [1,1,5,4,26,1,24,6,0,2,13] ?_ ?_
 refine au [137,26,11,4,29,9] ?_
 intro x44 e44 _
 refine qe4 hY x23 x44 g24 (B1:=[⟨g1,3,[qDW x2]⟩,⟨g3,3,[qDW x4]⟩,⟨g5,65,[qDW x6,qDX a8 x7 c9]⟩]) (R1:=[]) (j:=1) rfl rfl rfl rfl rfl rfl rfl (fun x45 _ g47=>?_) (fun x46 _ g47=>?_)
 refine au [25,12,50] ?_
 refine yh (b:=false) rfl (fun h=>by cases h) (fun _=>?_)
 refine au [16,82,5,124,6,0] ?_
 exact vr ((iadd .i64 x22 1,x45),g47) (hB:=(.cons 0 rfl (.cons 0 rfl (.cons 0 rfl (qe 0 rfl))))) (hR:=(qe 0 rfl)) (hF:=(qi 0 rfl (qi 1 rfl zG)))
 refine au [25,12,50] ?_
 refine yh (b:=true) rfl (fun _=>?_) (fun h=>by cases h)
 refine au [11,125,24,9] ?_
 exact jc (B0:=[⟨g1,3,[qDW x2]⟩,⟨g3,3,[qDW x4]⟩,⟨g5,65,[qDW x6,qDX a8 x7 c9]⟩]) (x:=.inr x46) g47 (.inl rfl) (res0 rfl) (.cons 0 rfl (.cons 0 rfl (.cons 0 rfl (qe 0 rfl)))) (qe 0 rfl)
 refine au [91] ?_
 exact jc (B0:=[⟨g1,3,[qDW x2]⟩,⟨g3,3,[qDW x4]⟩,⟨g5,65,[qDW x6,qDX a8 x7 c9]⟩]) (x:=.inl x23) g24 (.inr rfl) (res0 rfl) (.cons 0 rfl (.cons 0 rfl (.cons 0 rfl (qe 0 rfl)))) (qe 0 rfl)
theorem qoU {r:(Int×qDU)}(hm:qal F i1 m1 i2 m2=some r) :
    PureM qD3 192 [.agg #[qDW i1,qDX l1 m1 t1],.agg #[qDW i2,qDX l2 m2 t2]] [] [] [qD1 l1 m1 t1,qD1 l2 m2 t2] (qDV×Nat) (fun g=>.agg #[qDW r.1,qDX g.1 r.2 g.2]) (fun _=>[]) (fun g=>[qD2 g.1 r.2 g.2]):=by
 refine qdm func192 rfl ntmps192 rfl hm (fun w=>?_)
 refine au [100] ?_
 intro g9
 refine au [24,4] ?_
 intro g10
 refine au [19] ?_
 intro g11
 refine au [50,48,26,11,34,4] ?_
 rintro x12 e12 ⟨⟨a13,c14⟩,g15⟩
 refine au [19] ?_
 intro g16
 refine au [132,1,48,31,14,12,29,2] ?_
 refine qt ql3 ?_
 rintro x37 e37 ⟨g38,g39,g40⟩
 refine au [92] ?_
 refine qbW (encs:=(fun (p:Int)=>[.int .u64 p])) (y:=(fun ((x45,x48):(Int×qDU)) (x53:Int)=>qcM F x45 x48 x53)) (lb:=[qDY g38,qDY g39,qDY g40]) (fun ((x45,x48):(Int×qDU)) ((a46,c47):qDV×Nat)=>[⟨g16,293,[qDY g15]⟩,⟨g15,299,[qDW x45,qDX a46 x48 c47]⟩,⟨g11,65,[qDW 0,.slice none 0 0]⟩,⟨g10,65,[qDW i2,qDX l2 m2 t2]⟩,⟨g9,65,[qDW i1,qDX l1 m1 t1]⟩]) (fun ((x45,x48):(Int×qDU)) ((a46,c47):qDV×Nat)=>[qD2 a46 x48 c47]) (fun (_:Empty) (_:Unit)=>[]) (fun (_:Empty) (_:Unit)=>[]) (fun _=>.skip) (x12.1,x12.2) (a13,c14) rfl EnC.e (fun _=>rfl) rfl (.cons 0 rfl (.cons 0 rfl (.cons 0 rfl .nil))) (.cons 0 rfl (.cons 0 rfl (.cons 0 rfl (.cons 0 rfl (.cons 0 rfl .nil))))) (.cons 0 rfl .nil) (.consF 1 rfl .nil) (fun z hz _ _ _ hY=>qkr F hY (x12.1,x12.2) (a13,c14) g38 0 g39 i2 g40 i2 m2 l2 t2 z hz) ?_ ?_ ?_
 rintro rc1 L1 D1 ⟨x45,x48⟩ ⟨a46,c47⟩ x53 z w M _
 try dsimp only
 refine qdq [(0,.agg #[qDW i1,qDX l1 m1 t1]),(1,.agg #[qDW i2,qDX l2 m2 t2]),(2,qDY g9),(3,qDY g10),(4,qDY g11),(5,qDY g16),(7,.agg #[qDW i1,qDX l1 m1 t1]),(8,qDY g15),(9,.agg #[qDW i2,qDX l2 m2 t2]),(10,qDY g10),(11,qDW i2),(12,.func (.func 261) #[] #[qDY g38,qDY g39,qDY g40]),(13,.int .u64 x53)] (qm rfl (qm rfl (qm rfl (qm rfl (qm rfl (qm rfl (qm rfl (qm rfl (qm rfl (qm rfl (qm rfl (qm rfl (qm rfl qdI))))))))))))) ?_
 refine au [5,6,0] ?_
 refine qhZ (i:=5) rfl ?_
 refine au [20,5,24,0,4,34,5] ?_
 rintro x54 e54 ⟨a55,c56⟩
 refine au [0,24,7] ?_
 exact vn (rc:=rc1) rfl (.cons 5 rfl .nil) rfl (a55,c56) (.cons 2 rfl (.cons 1 rfl (.cons 1 rfl (.cons 1 rfl (.cons 1 rfl (.cons 0 rfl (.cons 0 rfl .nil))))))) (.cons 0 rfl .nil)
 rintro ⟨x45,x48⟩ _ ⟨a46,c47⟩ D1
 refine au [39,82,48,34,6,85] ?_
 refine zW (i:=5) rfl rfl inferInstance rfl rfl (by simp) rfl rfl ?_
 refine au [27,6,50,11] ?_
 exact jd [D1] (a46,c47) (.inl rfl) rfl (.cons 0 rfl .nil) (resL (rs:=[.cell 4 65]) rfl (.cell (i:=5) rfl tf65 rfl rfl (by simp) rfl ResOk.nil) rfl) (fun h=>by subst h;rfl) (fun h=>by subst h;exact .nil) (fun h=>by subst h;exact (.cons 0 rfl .nil))
 intro t;exact t.elim
theorem qhh {r:(Int×qDU)}(hm:jg F i1 m1 i2 i3=some r) :
    PureM qD3 262 [qDY t1,.int .u64 i2,qDW i3] [⟨t1,299,[qDW i1,qDX l1 m1 t2]⟩] [qD2 l1 m1 t2] [] (qDV×Nat) (fun _=>.tuple #[]) (fun g=>[⟨t1,299,[qDW r.1,qDX g.1 r.2 g.2]⟩]) (fun g=>[qD2 g.1 r.2 g.2]):=by
 refine pureMA func262 ntmps262 hm fun _=>?_
 refine au [26,14,54,25,14,51,20] ?_
 refine qp [0,1] [] [] [] (fun (((x18,x19,x22),a20,c21):(Int×Int×qDU)×qDV×Nat)=>([(6,qDW x18)],[⟨t1,299,[qDW x19,qDX a20 x22 c21]⟩],[qD2 a20 x22 c21],[])) (isub .i64 i3 1,i1,m1) (l1,t2) ?_
 intro k33
 rintro ⟨⟨x18,x19,x22⟩,a20,c21⟩
 refine aw [39,1,1,5,4,26,10,0,2,13] ?_ ?_
 refine au [135,20,5,4,4,4,27,0] ?_
 intro h39
 refine qjw rfl rfl rfl rfl h39 ?_
 refine au [28,14,34,5] ?_
 rintro x40 e40 ⟨a41,c42⟩
 refine au [0,82,5,4,25,14,6,0] ?_
 exact qk ((isub .i64 x18 1,x40.1,x40.2),a41,c42)
 refine au [91] ?_
 exact qK (a20,c21)
theorem qqu {r:(Int×qDU)}(hm:vG F i1 m1 i2 i3=some r) :
    Pure qD3 235 [.agg #[qDW i1,qDX l1 m1 t1],.int .u64 i2,qDW i3] [qD1 l1 m1 t1] (qDV×Nat) (fun g=>.agg #[qDW r.1,qDX g.1 r.2 g.2]) (fun g=>[qD2 g.1 r.2 g.2]) (fun _=>[]):=by
 refine pureA func235 ntmps235 hm fun _=>?_
 refine au [116] ?_
 intro g7
 refine au [19] ?_
 intro g8
 refine au [50,48,26,0,34,4] ?_
 rintro x9 e9 ⟨⟨a10,c11⟩,g12⟩
 refine au [76,4,4] ?_
 refine qt qhh ?_
 rintro x13 e13 ⟨a14,c15⟩
 refine au [50,54,85,25,0,25,10,50,11] ?_
 exact qdL (a14,c15) 1
theorem qiX (hm:vi F i1=some i2) :
    qD4 148 [.int .u64 i1] [] (qDW i2):=by
 refine pureA func148 ntmps148 hm fun _=>?_
 refine au [80,51] ?_
 refine qP (fun (((x3,x4),_):(Int×Int)×Unit)=>([(0,.int .u64 x3),(2,qDW x4)],[],[],[],y8 F x3 x4)) ?_ ?_
 refine aw [1,5,4,26,10,0,2,13] ?_ ?_
 refine au [54,27,8,51,5,6,0] ?_
 exact qa ((ishr .u64 i1 32,(32:Int)),())
 refine au [16] ?_
 exact qa ((i1,(0:Int)),())
 rintro ⟨⟨x3,x4⟩,_⟩
 try dsimp only
 refine qP (fun (((x6,x7),_):(Int×Int)×Unit)=>([(0,.int .u64 x6),(2,qDW x7)],[],[],[],y9 F x6 x7)) ?_ ?_
 refine aw [1,5,4,26,10,0,2,13] ?_ ?_
 refine au [54,27,8,51,5,124,6,0] ?_
 exact qa ((ishr .u64 x3 16,iadd .i64 x4 16),())
 refine au [16] ?_
 exact qa ((x3,x4),())
 rintro ⟨⟨x6,x7⟩,_⟩
 try dsimp only
 refine qP (fun (((x9,x10),_):(Int×Int)×Unit)=>([(0,.int .u64 x9),(2,qDW x10)],[],[],[],va F x9 x10)) ?_ ?_
 refine aw [1,5,4,26,10,0,2,13] ?_ ?_
 refine au [54,27,8,51,5,124,6,0] ?_
 exact qa ((ishr .u64 x6 8,iadd .i64 x7 8),())
 refine au [16] ?_
 exact qa ((x6,x7),())
 rintro ⟨⟨x9,x10⟩,_⟩
 refine au [120,4,25,15] ?_
 refine qry (xs:=([0,1,2,2,3,3,3,3,4,4,4,4,4,4,4,4,5,5,5,5,5,5,5,5,5,5,5,5,5,5,5,5,6,6,6,6,6,6,6,6,6,6,6,6,6,6,6,6,6,6,6,6,6,6,6,6,6,6,6,6,6,6,6,6,7,7,7,7,7,7,7,7,7,7,7,7,7,7,7,7,7,7,7,7,7,7,7,7,7,7,7,7,7,7,7,7,7,7,7,7,7,7,7,7,7,7,7,7,7,7,7,7,7,7,7,7,7,7,7,7,7,7,7,7,7,7,7,7,8,8,8,8,8,8,8,8,8,8,8,8,8,8,8,8,8,8,8,8,8,8,8,8,8,8,8,8,8,8,8,8,8,8,8,8,8,8,8,8,8,8,8,8,8,8,8,8,8,8,8,8,8,8,8,8,8,8,8,8,8,8,8,8,8,8,8,8,8,8,8,8,8,8,8,8,8,8,8,8,8,8,8,8,8,8,8,8,8,8,8,8,8,8,8,8,8,8,8,8,8,8,8,8,8,8,8,8,8,8,8,8,8,8,8,8,8,8,8,8,8,8,8,8,8,8,8,8]:qDU)) rfl UnF.u rfl rfl (by kernel_rfl) rfl ?_
 intro x11 e11
 exact az [25,15,24,2,90]
theorem qnl (hm:qeM F i1=some i2) :
    qD4 284 [.int .u64 i1] [] (qDW i2):=by
 refine pureA func284 ntmps284 hm fun _=>?_
 refine au [80,76,24,2,31,15] ?_
 intro x2 e2 _
 exact az [25,14,90]
theorem qpa {r:(Int×qDU)}(hm:qeh F i1=some r) :
    Pure qD3 285 [.int .u64 i1] [] (qDV×Nat) (fun g=>.agg #[qDW r.1,qDX g.1 r.2 g.2]) (fun g=>[qD2 g.1 r.2 g.2]) (fun _=>[]):=by
 refine pureA func285 ntmps285 hm fun _=>?_
 refine au [80,19] ?_
 intro g2
 refine au [50,54,25,15,124,31,0] ?_
 refine qwY (qD .u8) rfl UnF.u inferInstance rfl rfl rfl rfl rfl rfl rfl ?_
 intro x3 e3 a4 c5
 refine qH [qDW (iconv .i64 i1),qDX a4 x3 c5] ?_
 refine au [29,3] ?_
 rintro x6 e6 ⟨a7,c8⟩
 refine au [132,11] ?_
 exact qdL (a7,c8) 0
theorem qoZ (hm:qfI F i1 i2=some i3) :
    qD4 286 [.int .u64 i1,qDW i2] [] (.int .u64 i3):=by
 refine pureA func286 ntmps286 hm fun _=>?_
 refine au [61,76,4,27,0] ?_
 intro h3
 refine qhY rfl rfl rfl rfl h3 ?_
 refine au [25,14,28,14,6,27,1] ?_
 intro x4 e4
 refine jS 4 e4 ?_
 exact az [50,11,24,8]
theorem qjJ {r:(Int×qDU)}(hm:j2 F i1=some r) :
    Pure qD3 258 [.int .u64 i1] [] (qDV×Nat) (fun g=>.agg #[qDW r.1,qDX g.1 r.2 g.2]) (fun g=>[qD2 g.1 r.2 g.2]) (fun _=>[]):=by
 refine pureA func258 ntmps258 hm fun _=>?_
 refine au [80,19] ?_
 intro g2
 refine au [50,54] ?_
 refine qd qnl ?_
 intro x3 e3 _
 refine au [76,25,15,34,7] ?_
 rintro x4 e4 ⟨a5,c6⟩
 refine au [4,83] ?_
 refine qd qoZ ?_
 intro x7 e7 _
 refine au [4,29,3] ?_
 rintro x8 e8 ⟨a9,c10⟩
 refine au [132,11] ?_
 exact qdL (a9,c10) 0
theorem qo2 (hm:qef F i1=some d1) :
    qD4 273 [qDW i1] [] (.bool d1):=by
 refine pureA func273 ntmps273 hm fun _=>?_
 refine au [80,76,26,10,4] ?_
 refine qai 3 5 8 [] (decide (i1≤1048576)) ?_ ?_ ?_
 exact az [4,28,10,71]
 exact az [79,70]
 exact az [90]
theorem qnq (hm:jr F m1=some i1) :
    qD4 246 [qDX l1 m1 t1] [qDZ l1 m1 t1] (qDW i1):=by
 refine pureA func246 ntmps246 hm fun _=>?_
 refine aw [25,5,1,5,6,0,2,1,1,5,4,24,10,25,6,0,2,13] ?_ ?_
 exact az [48,96]
 refine au [131,51] ?_
 refine qP (fun ((_,_):Unit×Unit)=>([],[],[],[],qg9 F)) ?_ ?_
 refine au [114] ?_
 refine qp [9,10] [] [] [0] (fun (((x88,x89),_):(Int×Int)×Unit)=>([(3,qDW x88),(11,qDW x89)],[],[],[])) ((-1:Int),(0:Int)) () ?_
 intro k0
 rintro ⟨⟨x88,x89⟩,_⟩
 refine aw [39,1,5,24,6,0,2,1,13] ?_ ?_
 refine au [136,26,7] ?_
 intro x0 e0 b0 o0
 refine au [25,7,129,122,34,8] ?_
 intro x2 e1 _
 refine aw [25,12,6,0,2,13] ?_ ?_
 exact az [48,52,60,125,119]
 refine aw [1,5,4,4,28,10,6,0,2,13] ?_ ?_
 exact az [48,52,60,125,119]
 refine au [16,82,5,4,6,0,146] ?_
 exact qk ((x0,iadd .i64 x89 1),())
 exact az [130]
 rintro ⟨_,_⟩
 exact az [140,90]
theorem qiZ {r:(Int×qDU×Bool)}(hm:vk F i1 m1 d1 i2 m2=some r) :
    PureM qD3 281 [qDY t1,.agg #[qDW i2,qDX l2 m2 t3]] [⟨t1,316,[qDW i1,qDX l1 m1 t2,.bool d1]⟩] [qD2 l1 m1 t2] [qD1 l2 m2 t3] (qDV×Nat) (fun _=>.tuple #[]) (fun g=>[⟨t1,316,[qDW r.1,qDX g.1 r.2.1 g.2,.bool r.2.2]⟩]) (fun g=>[qD2 g.1 r.2.1 g.2]):=by
 refine pureMA func281 ntmps281 hm fun _=>?_
 refine au [100] ?_
 intro g11
 refine au [50] ?_
 refine qj [0,3] [0] [0] [0] (fun ((x13,_):Bool×Unit)=>([],[⟨t1,316,[qDW i1,qDX l1 m1 t2,.bool x13]⟩],[],[],jy F i1 m1 i2 m2 x13)) ?_ ?_
 refine av [30,5] ?_ ?_
 intro h18
 refine kB mixed [18] _ _ (.cons 0 rfl .nil) (qh 0 rfl (qgv 1 rfl qf)) 19 rfl ?_
 refine au [115,21,3] ?_
 refine qB 4 (.bool d1) [[18]] rfl rfl rfl (kW (j:=1) rfl tf4 rfl rfl (fun _=>rfl) rfl) ?_
 refine au [3,5] ?_
 refine yI 9 h18 ?_
 refine au [23,6,23,7,23,8,23,9,23,10,23,11,23,12,23,13,23,14,47,21,17,7,18,121,34,9,53] ?_
 exact qa (true,())
 intro h18
 refine kB mixed [18] _ _ (.cons 0 rfl .nil) (qh 0 rfl (qgv 1 rfl qf)) 19 rfl ?_
 refine au [115,21,3] ?_
 refine qB 4 (.bool d1) [[18]] rfl rfl rfl (kW (j:=1) rfl tf4 rfl rfl (fun _=>rfl) rfl) ?_
 refine au [3,5] ?_
 refine yI 9 h18 ?_
 refine au [87,21,8,21,9] ?_
 refine qB 10 (qDW i1) [[18]] rfl rfl rfl (kW (j:=1) rfl tf3 rfl rfl (fun _=>rfl) rfl) ?_
 refine au [21,11,25,4,12,63,21,17,7,18,121,34,9,53] ?_
 exact qa ((decide (8192<(iadd .i64 i1 i2))),())
 rintro ⟨x13,_⟩
 refine aw [39,1,5,4,24,15,12,26,1,25,12,0,2,13] ?_ ?_
 refine kB mixed [9] _ _ (.cons 0 rfl .nil) (qh 0 rfl (qgv 1 rfl qf)) 10 rfl ?_
 refine au [115,21,3] ?_
 refine qB 4 (.agg #[qDW i1,.slice l1 m1.length t2]) [[9]] rfl rfl rfl (kW (j:=1) rfl tf65 rfl rfl (by simp) rfl) (qA 5 (.agg #[qDW i2,.slice l2 m2.length t3]) rfl rfl rfl (qy (i:=0) rfl tf65 rfl rfl (by simp) rfl) ?_)
 refine au [7,6,31,1] ?_
 rintro x14 e14 ⟨a15,c16⟩
 refine au [0] ?_
 refine qc (.cons 0 rfl .nil) (qh 0 rfl (qgv 1 rfl qf)) ?_
 refine au [3,7,21,8,7,9,121] ?_
 refine kZ 9 rfl (by kernel_rfl) (.cons 0 rfl .nil) ?_
 refine au [53] ?_
 exact qK (a15,c16)
 refine au [16] ?_
 exact qK (l1,t2)
theorem qh7 {r:(Int×qDU×Bool)}(hm:zi F i1 m1 d1 i2=some r) :
    PureM qD3 274 [qDY t1,qDW i2] [⟨t1,316,[qDW i1,qDX l1 m1 t2,.bool d1]⟩] [qD2 l1 m1 t2] [] (qDV×Nat) (fun _=>.tuple #[]) (fun g=>[⟨t1,316,[qDW r.1,qDX g.1 r.2.1 g.2,.bool r.2.2]⟩]) (fun g=>[qD2 g.1 r.2.1 g.2]):=by
 refine pureMA func274 ntmps274 hm fun _=>?_
 refine au [24,14,5,4,4,25,15,34,10] ?_
 rintro x8 e8 ⟨a9,c10⟩
 refine au [34,11] ?_
 rintro x11 e11 ⟨a12,c13⟩
 refine au [0] ?_
 exact qK (a12,c13)
theorem qkM (hm:qcN F i1 i2=some d1) :
    qD4 212 [qDW i1,qDW i2] [] (.bool d1):=by
 refine pureA func212 ntmps212 hm fun _=>?_
 refine au [61,76,30,12] ?_
 intro x3 e3 _
 refine au [4] ?_
 refine kX 4 [0,1] [] [] [] (fun ((x6,_):Bool×Unit)=>([(11,.bool x6)],[],[],[],qa9 F i1 i2 x6)) ?_ ?_
 refine qG (os:=_) rfl ?_
 refine av [26,8] ?_ ?_
 intro h4
 refine kH (k:=7) rfl h4 ?_
 refine au [4,30,12] ?_
 intro x8 e8 _
 refine au [25,12,112] ?_
 exact qa ((!x8),())
 intro h4
 refine kG (k:=7) rfl h4 ?_
 refine au [79,9,111] ?_
 exact qa (false,())
 rintro ⟨x6,_⟩
 try dsimp only
 refine qG (os:=_) rfl ?_
 refine au [4] ?_
 refine q6 4 12 16 [] (decide (i1<i2)) ?_ ?_ ?_
 exact az [79,9,71]
 exact az [4,4,24,6,70]
 exact az [90]
theorem qir (hm:qaE F i1=some d1) :
    qD4 216 [qDW i1] [] (.bool d1):=by
 refine pureA func216 ntmps216 hm fun _=>?_
 exact az [80,76,4,25,8,90]
theorem qeb {r:(Int×Bool)}(hm:zu F m1 i1=some r) :
    qD4 180 [qDX l1 m1 t1,qDW i1] [qDZ l1 m1 t1] (.tuple #[qDW r.1,.bool r.2]):=by
 refine pureA func180 ntmps180 hm fun _=>?_
 refine au [61,6,76,24,10,76,6,51] ?_
 refine qj [0,1,6] [] [] [0] (fun ((x32,_):Int×Unit)=>([(7,qDW x32)],[],[],[],yq F m1 i1 x32)) ?_ ?_
 refine au [20] ?_
 refine qp [0,1,6] [] [] [0] (fun (((x85,x86),_):(Int×Int)×Unit)=>([(7,qDW x85),(8,qDW x86)],[],[],[])) ((0:Int),(m1.length:Int)) () ?_
 intro k95
 rintro ⟨⟨x85,x86⟩,_⟩
 refine aw [39,1,1,5,4,4,24,6,0,2,13] ?_ ?_
 refine au [69,122,124,25,15,27,8,25,15,6,27,1] ?_
 intro x97 e97
 refine jS 9 e97 ?_
 refine au [50,54,4,26,7] ?_
 intro x98 e98 b99 o0
 refine au [25,7,4] ?_
 refine qd qkM ?_
 intro x0 e0 _
 refine aw [0,2,13] ?_ ?_
 refine au [5,124,6,0,24,7] ?_
 exact qk ((iadd .i64 x97 1,x86),())
 refine au [5,4,6,0,24,7] ?_
 exact qk ((x85,x97),())
 refine au [91] ?_
 exact qa (x85,())
 rintro ⟨x32,_⟩
 refine au [120,4,4,143] ?_
 refine qgG 18 (fun ((x55,_):Bool×Unit)=>([(31,qDW x32),(53,.bool x55)],[],[],[],yr F x32 x55)) ?_ ?_
 refine qG (os:=_) rfl ?_
 refine av [26,8] ?_ ?_
 intro h33
 refine kH (k:=35) rfl h33 ?_
 refine au [4,4,26,7] ?_
 intro x56 e56 b57 o58
 refine au [25,7,4,25,11,4] ?_
 refine kX 10 [31,35] [] [] [] (fun ((x68,_):Bool×Unit)=>([(52,.bool x68)],[],[],[],yu F x32 x68)) ?_ ?_
 refine qG (os:=_) rfl ?_
 refine av [26,8] ?_ ?_
 intro h59
 refine kH (k:=42) rfl h59 ?_
 refine au [88,88,9,112] ?_
 exact qa (true,())
 intro h59
 refine kG (k:=42) rfl h59 ?_
 refine au [4,4,29,6] ?_
 intro x69 e69 b70 o71
 refine au [25,7,34,12] ?_
 intro x72 e72 _
 refine au [4] ?_
 refine kX 3 [31,35,42] [] [] [] (fun ((x75,_):Bool×Unit)=>([(51,.bool x75)],[],[],[],yv F x32 x75)) ?_ ?_
 refine qG (os:=_) rfl ?_
 refine av [26,8] ?_ ?_
 intro h73
 refine kH (k:=48) rfl h73 ?_
 refine au [4,34,12] ?_
 intro x76 e76 _
 refine au [112] ?_
 exact qa (x76,())
 intro h73
 refine kG (k:=48) rfl h73 ?_
 refine au [79,111] ?_
 exact qa (false,())
 rintro ⟨x75,_⟩
 try dsimp only
 refine qG (os:=_) rfl ?_
 refine au [111] ?_
 exact qa (x75,())
 rintro ⟨x68,_⟩
 try dsimp only
 refine qG (os:=_) rfl ?_
 refine au [112] ?_
 exact qa (x68,())
 intro h33
 refine kG (k:=35) rfl h33 ?_
 refine au [88,88,88,88,9,111] ?_
 exact qa (false,())
 rintro ⟨x55,_⟩
 try dsimp only
 refine qG (os:=_) rfl ?_
 exact az [6,90]
theorem qiq {r:(qDU×Bool×Int)}(hm:qaC F m1 d1 i1 d2=some r) :
    PureM qD3 296 [qDY t1,.bool d2] [⟨t1,363,[qDX l1 m1 t2,.bool d1,qDW i1]⟩] [qD0 l1 m1 t2] [] (qDV×Nat) (fun _=>.tuple #[]) (fun g=>[⟨t1,363,[qDX g.1 r.1 g.2,.bool r.2.1,qDW r.2.2]⟩]) (fun g=>[qD0 g.1 r.1 g.2]):=by
 refine pureMA func296 ntmps296 hm fun _=>?_
 refine au [24,14] ?_
 refine qP (fun (((x21,x22,x23),a19,c20):(qDU×Bool×Int)×qDV×Nat)=>([(0,qDY t1)],[⟨t1,363,[qDX a19 x21 c20,.bool x22,qDW x23]⟩],[qD0 a19 x21 c20],[],vW F x21 x22 x23)) ?_ ?_
 refine au [54,4,94] ?_
 refine qyE rfl UnF.u rfl rfl rfl ?_
 refine aw [0,2,13] ?_ ?_
 refine au [1] ?_
 refine kB mixed [13] _ _ .nil (qgv 0 rfl qf) 14 rfl ?_
 refine au [115,21,3] ?_
 refine qB 4 (qDX l1 m1 t2) [[13]] rfl rfl rfl (kW (j:=0) rfl tf56 rfl rfl (fun _=>rfl) rfl) ?_
 refine au [3,5,3,6,21,7] ?_
 refine qB 8 (qDW i1) [[13]] rfl rfl rfl (kW (j:=0) rfl tf3 rfl rfl (fun _=>rfl) rfl) ?_
 refine au [7,9] ?_
 refine zB [i1] (fun a29 c30=>?_)
 refine au [0,32,0,7,10] ?_
 refine zw 1 (qD .i64) rfl underlying56 tf3 rfl rfl rfl rfl rfl (.inl ⟨0,_,rfl⟩) rfl rfl (fun x31 e31 a32 c33=>?_)
 refine au [0,32,0,3,11,21,12,7,13,17,0] ?_
 refine kZ 13 rfl (by kernel_rfl) .nil ?_
 refine au [53,2,5,4,4,4,85,17,85,17,0] ?_
 exact qa ((x31,d2,(0:Int)),a32,c33)
 refine au [16] ?_
 exact qa ((m1,d1,i1),l1,t2)
 rintro ⟨⟨x21,x22,x23⟩,a19,c20⟩
 refine au [39,5,4,94,24,2,85,17,0] ?_
 exact qK (a19,c20)
theorem qo8 {r:(qDU×qDU)}(hm:qfO F m1 m2=some r) :
    Pure qD3 275 [qDX l1 m1 t1,qDX l2 m2 t2] [qDZ l1 m1 t1,qDZ l2 m2 t2] ((qDV×Nat)×qDV×Nat) (fun g=>.tuple #[qDX g.1.1 r.1 g.1.2,qDX g.2.1 r.2 g.2.2]) (fun g=>[qD0 g.1.1 r.1 g.1.2,qD0 g.2.1 r.2 g.2.2]) (fun _=>[]):=by
 refine pureA func275 ntmps275 hm fun _=>?_
 refine au [61,6,97] ?_
 refine qH [.slice none 0 0,.bool true,qDW 0] ?_
 refine au [24,4] ?_
 intro g7
 refine au [51] ?_
 refine qj [0,1,5,6] [] [] [0,1] (fun (((x66,x67,x68),a64,c65):(qDU×Bool×Int)×qDV×Nat)=>([],[⟨g7,363,[qDX a64 x66 c65,.bool x67,qDW x68]⟩],[qD0 a64 x66 c65],[],qfq F m1 m2 x66 x67 x68)) ?_ ?_
 refine au [114,28,1] ?_
 refine qp [0,1,5,6,17,18] [] [] [0,1] (fun (((x0,x2,x3,x5),a0,c0):(Int×qDU×Bool×Int)×qDV×Nat)=>([(19,qDW x0)],[⟨g7,363,[qDX a0 x2 c0,.bool x3,qDW x5]⟩],[qD0 a0 x2 c0],[])) ((0:Int),([]:qDU),true,(0:Int)) (none,0) ?_
 intro k0
 rintro ⟨⟨x0,x2,x3,x5⟩,a0,c0⟩
 refine aw [39,1,5,24,6,0,2,1,13] ?_ ?_
 refine au [136,26,7] ?_
 intro x6 e0 b0 o0
 refine au [25,7,76,4,32,1] ?_
 intro x7 e1 _
 refine au [4,64,6,51,5,4,4] ?_
 refine qt qiq ?_
 rintro x8 e2 ⟨a1,c1⟩
 refine au [0,146] ?_
 exact qk ((iadd .i64 x0 1,x8.1,x8.2.1,x8.2.2),a1,c1)
 refine au [91] ?_
 exact qa ((x2,x3,x5),a0,c0)
 rintro ⟨⟨x66,x67,x68⟩,a64,c65⟩
 try dsimp only
 refine qj [6] [0] [0] [] (fun ((x9,a3,c2):qDU×qDV×Nat)=>([(5,qDX a3 x9 c2)],[],[qD0 a3 x9 c2],[],qfr F x66 x9)) ?_ ?_
 refine au [114,28,1] ?_
 refine qp [0,6,33,34] [0] [1] [0,1] (fun (((x10,x11),a4,c4):(qDU×Int)×qDV×Nat)=>([(5,qDX a4 x10 c4),(35,qDW x11)],[],[qD0 a4 x10 c4],[])) (([]:qDU),(0:Int)) (none,0) ?_
 intro k1
 rintro ⟨⟨x10,x11⟩,a4,c4⟩
 refine aw [39,1,5,24,6,0,2,1,13] ?_ ?_
 refine au [69] ?_
 refine qj [0,6,33,34,35] [0] [0] [0,1] (fun ((x12,a6,c5):qDU×qDV×Nat)=>([(5,qDX a6 x12 c5)],[],[qD0 a6 x12 c5],[],qco F (qcp F m1 m2 x66 k1) x11 x12)) ?_ ?_
 refine au [128,29,6] ?_
 intro x13 e3 b1 o1
 refine au [25,7,76,4,32,1] ?_
 intro x14 e4 _
 refine aw [4,24,1,24,1,6,6,0,2,1,5,4,25,12,0,2,13] ?_ ?_
 refine au [5,4,4] ?_
 refine zB [x13] (fun a7 c7=>?_)
 refine zw 2 (qD .i64) rfl underlying56 tf3 rfl rfl rfl rfl rfl (.inl ⟨0,_,rfl⟩) rfl rfl (fun x15 e5 a8 c8=>?_)
 refine au [6,0,24,7] ?_
 exact qa (x15,a8,c8)
 refine au [16,24,7] ?_
 exact qa (x10,a4,c4)
 rintro ⟨x12,a6,c5⟩
 refine au [39,145] ?_
 exact qk ((x12,iadd .i64 x11 1),a6,c5)
 refine au [91] ?_
 exact qa (x10,a4,c4)
 rintro ⟨x9,a3,c2⟩
 refine au [120,94,4,6,52] ?_
 exact qx ((a64,c65),a3,c2)
theorem qhl {r:(Int×qDU×Bool)}(hm:jz F i1 m1 d1 m2=some r) :
    PureM qD3 276 [qDY t1,qDX l2 m2 t3] [⟨t1,316,[qDW i1,qDX l1 m1 t2,.bool d1]⟩] [qD2 l1 m1 t2] [qDZ l2 m2 t3] (qDV×Nat) (fun _=>.tuple #[]) (fun g=>[⟨t1,316,[qDW r.1,qDX g.1 r.2.1 g.2,.bool r.2.2]⟩]) (fun g=>[qD2 g.1 r.2.1 g.2]):=by
 refine pureMA func276 ntmps276 hm fun _=>?_
 refine au [24,14,54,4,24,10,29,4] ?_
 rintro x10 e10 ⟨a11,c12⟩
 refine au [50,114] ?_
 refine qp [0,10,11] [] [] [0] (fun (((x27,x28,x31,x32),a29,c30):(Int×Int×qDU×Bool)×qDV×Nat)=>([(12,qDW x27)],[⟨t1,316,[qDW x28,qDX a29 x31 c30,.bool x32]⟩],[qD2 a29 x31 c30],[])) ((0:Int),x10.1,x10.2.1,x10.2.2) (a11,c12) ?_
 intro k47
 rintro ⟨⟨x27,x28,x31,x32⟩,a29,c30⟩
 refine aw [39,1,5,24,6,0,2,1,13] ?_ ?_
 refine au [137,26,7] ?_
 intro x55 e55 b56 o57
 refine au [25,7,6,51,5,4,4,4,28,15,25,14,29,4] ?_
 rintro x58 e58 ⟨a59,c60⟩
 refine au [0,146] ?_
 exact qk ((iadd .i64 x27 1,x58.1,x58.2.1,x58.2.2),a59,c60)
 refine au [91] ?_
 exact qK (a29,c30)
theorem qo9 {r:Unit}(hm:qhs F m1=some r) :
    PureM qD3 297 [qDX l1 m1 t1] [] [] [qDZ l1 m1 t1] Nat (fun g=>.func (.func 304) #[] #[qDY g]) (fun g=>[⟨g,56,[qDX l1 m1 t1]⟩]) (fun _=>[]):=by
 refine pureMA func297 ntmps297 hm fun _=>?_
 refine au [104] ?_
 intro g4
 refine au [97,27,10,52] ?_
 exact qK g4
theorem qme (F:Nat){σ τ:Type}{J:Rounds σ τ}{yy:σ→(Int×Int)→Option (σ ⊕ τ)}{L:Nat}(hY:YieldC qD3 L (fun (p:Int×Int)=>[.agg #[qDW p.1,qDW p.2]]) J yy)(s0:σ)(gs0:J.γ)(g1:Nat)(x2:qDU)(a3:qDV)(c4:Nat)(r:σ ⊕ τ)(hm:qb8 F yy x2 s0=some r) :
    PureM qD3 304 ([.func (.yield L) #[] #[],qDY g1]) ([⟨g1,56,[qDX a3 x2 c4]⟩]++J.IB s0 gs0) (J.IR s0 gs0) [J.F,qDZ a3 x2 c4] (J.G r) (fun _=>.tuple #[]) (fun g=>[⟨g1,56,[qDX a3 x2 c4]⟩]++J.bs r g) (fun g=>J.rs r g):=by
 refine pureMA func304 ntmps304 hm fun _=>?_
 refine au [61,51,20] ?_
 refine vE (fun (((x0,x1),g0):(Int×σ)×J.γ)=>[(0,.func (.yield L) #[] #[]),(1,qDY g1),(3,qDW x0)]) (fun (((x0,x1),g0):(Int×σ)×J.γ)=>[⟨g1,56,[qDX a3 x2 c4]⟩]++J.IB x1 g0) (fun (((x0,x1),g0):(Int×σ)×J.γ)=>[]++J.IR x1 g0) (fun (((x0,x1),g0):(Int×σ)×J.γ)=>[qDZ a3 x2 c4,J.F]) (fun k (s:(Int×σ)×J.γ)=>zp F yy x2 k s.1) ((0,s0),gs0) F ?_ (hB:=(.cons 0 rfl (qe 0 rfl))) (hR:=(qe 0 rfl)) (hF:=(qi 1 rfl (qi 0 rfl zG)))
 intro k0
 rintro ⟨⟨x0,x1⟩,g0⟩
 try dsimp only
 refine qaM (m':=qbk F yy x2 (zp F yy x2 k0) x0 x1) rfl ?_
 refine aw [1,1,5,4,24,0,24,10,24,6,0,2,13] ?_ ?_
 refine au [69,128,51] ?_
 refine qdp (fun ((x3,_):Int×Unit)=>[(0,.func (.yield L) #[] #[]),(1,qDY g1),(3,qDW x0),(4,qDW x3)]) (fun ((x3,_):Int×Unit)=>[⟨g1,56,[qDX a3 x2 c4]⟩]++J.IB x1 g0) (fun ((x3,_):Int×Unit)=>[]++J.IR x1 g0) (fun ((x3,_):Int×Unit)=>[qDZ a3 x2 c4,J.F]) (fun ((x3,_):Int×Unit)=>qbm F yy (zp F yy x2 k0) x2 x0 x1 x3) ?_ ?_
 refine au [20] ?_
 refine vE (fun ((x4,_):Int×Unit)=>[(0,.func (.yield L) #[] #[]),(1,qDY g1),(3,qDW x0),(4,qDW x4)]) (fun ((x4,_):Int×Unit)=>[⟨g1,56,[qDX a3 x2 c4]⟩]++J.IB x1 g0) (fun ((x4,_):Int×Unit)=>[]++J.IR x1 g0) (fun ((x4,_):Int×Unit)=>[qDZ a3 x2 c4,J.F]) (fun k (s:Int×Unit)=>vj F yy (zp F yy x2 k0) x2 x0 x1 k s.1) (1,()) F ?_ (hB:=(.cons 0 rfl (qe 0 rfl))) (hR:=(qe 0 rfl)) (hF:=(qi 0 rfl (qi 1 rfl zG)))
 intro k1
 rintro ⟨x4,_⟩
 try dsimp only
 refine qaM (m':=qbl F yy (zp F yy x2 k0) x2 x0 x1 (vj F yy (zp F yy x2 k0) x2 x0 x1 k1) x4) rfl ?_
 refine au [1] ?_
 refine qdp (fun ((x5,_):Bool×Unit)=>[(0,.func (.yield L) #[] #[]),(1,qDY g1),(3,qDW x0),(4,qDW x4),(29,.bool x5)]) (fun ((x5,_):Bool×Unit)=>[⟨g1,56,[qDX a3 x2 c4]⟩]++J.IB x1 g0) (fun ((x5,_):Bool×Unit)=>[]++J.IR x1 g0) (fun ((x5,_):Bool×Unit)=>[qDZ a3 x2 c4,J.F]) (fun ((x5,_):Bool×Unit)=>qbn F yy (zp F yy x2 k0) (vj F yy (zp F yy x2 k0) x2 x0 x1 k1) x2 x0 x1 x4 x5) ?_ ?_
 refine av [30,5] ?_ ?_
 intro h0
 refine au [30,14] ?_
 intro x6 e0 b0 o0 h1
 replace h1:a3=some ⟨b0,o0,none⟩:=h1
 refine au [28,9] ?_
 intro x7 e1 b1 o1 h2
 replace h2:a3=some ⟨b1,o1,none⟩:=h2
 refine qJ [] [0] [0,1,2,3] 21 ?_
 refine au [115,25,4,3,28,8,4,3,5,3,6] ?_
 refine yI 15 h0 ?_
 refine au [25,4,7,3,8,141] ?_
 refine v7 11 h1 e0 ?_
 refine qB 12 (qDW x6) [] rfl rfl rfl (qZ (j:=1) rfl tf3 rfl rfl (fun _=>rfl) rfl) ?_
 refine au [25,4,13,3,14] ?_
 refine v7 15 h2 e1 ?_
 refine qB 16 (qDW x7) [] rfl rfl rfl (qZ (j:=0) rfl tf3 rfl rfl (fun _=>rfl) rfl) ?_
 refine au [3,17,3,18,65] ?_
 exact yj (((x6:Int) == (iadd .i64 x7 x4)),()) (hB:=(.cons 0 rfl (qe 0 rfl))) (hR:=(qe 0 rfl)) (hF:=(qi 2 rfl (qi 3 rfl zG)))
 intro h0
 refine au [34,13,115,25,4,3,28,8,4,3,5,3,6] ?_
 refine yI 15 h0 ?_
 refine au [23,7,23,8,23,9,23,10,23,11,23,12,23,13,23,14,23,15,23,16,23,17,23,18,23,19,3,20,53] ?_
 exact yj (false,()) (hB:=(.cons 0 rfl (qe 0 rfl))) (hR:=(qe 0 rfl)) (hF:=(qi 0 rfl (qi 1 rfl zG)))
 rintro ⟨x5,_⟩
 refine aw [39,13] ?_ ?_
 refine au [69,20,5,124,6,0,24,7] ?_
 exact vr (iadd .i64 x4 1,()) (hB:=(.cons 0 rfl (qe 0 rfl))) (hR:=(qe 0 rfl)) (hF:=(qi 0 rfl (qi 1 rfl zG)))
 refine au [91] ?_
 exact yj (x4,()) (hB:=(.cons 0 rfl (qe 0 rfl))) (hR:=(qe 0 rfl)) (hF:=(qi 0 rfl (qi 1 rfl zG)))
 rintro ⟨x3,_⟩
 refine au [39,1,54,24,0,4,26,7] ?_
 intro x8 e2 b2 o2
 refine au [25,7,4] ?_
 refine qH [qDW x8,qDW x3] ?_
 refine qe4 hY x1 (x8,x3) g0 (B1:=[⟨g1,56,[qDX a3 x2 c4]⟩]) (R1:=[]) (j:=2) rfl rfl rfl rfl rfl rfl rfl (fun x9 _ g2=>?_) (fun x10 _ g2=>?_)
 refine au [25,12,50] ?_
 refine yh (b:=false) rfl (fun h=>by cases h) (fun _=>?_)
 refine au [69,5,4,124,6,0,24,7] ?_
 exact vr ((iadd .i64 x0 x3,x9),g2) (hB:=(.cons 0 rfl (qe 0 rfl))) (hR:=(qe 0 rfl)) (hF:=(qi 1 rfl (qi 2 rfl zG)))
 refine au [25,12,50] ?_
 refine yh (b:=true) rfl (fun _=>?_) (fun h=>by cases h)
 refine au [11,18,60,24,9] ?_
 exact jc (B0:=[⟨g1,56,[qDX a3 x2 c4]⟩]) (x:=.inr x10) g2 (.inl rfl) (res0 rfl) (.cons 0 rfl (qe 0 rfl)) (qe 0 rfl)
 refine au [91] ?_
 exact jc (B0:=[⟨g1,56,[qDX a3 x2 c4]⟩]) (x:=.inl x1) g0 (.inr rfl) (res0 rfl) (.cons 0 rfl (qe 0 rfl)) (qe 0 rfl)
theorem qqD {r:(List (Int×Int)×qDU)}(hm:qgN F m1 i1=some r) :
    PureM qD3 277 [qDX l1 m1 t1,qDW i1] [] [] [qDZ l1 m1 t1] ((qDV×Nat)×qDV×Nat) (fun g=>.tuple #[qDX g.1.1 r.1 g.1.2,qDX g.2.1 r.2 g.2.2]) (fun _=>[]) (fun g=>[Ro eS209 209 2 (qDX g.1.1 r.1 g.1.2) r.1,qD0 g.2.1 r.2 g.2.2]):=by
 refine qdm func277 rfl ntmps277 rfl hm (fun w=>?_)
 refine au [100] ?_
 intro g5
 refine au [19] ?_
 intro g6
 refine au [19] ?_
 intro g7
 refine au [50,1,54] ?_
 refine qt qo9 ?_
 intro x0 e0 g0
 refine au [92,28,1] ?_
 refine qdK (Int×Int) eS209 209 2 (qbW (encs:=(fun (p:Int×Int)=>[.agg #[qDW p.1,qDW p.2]])) (y:=(fun ((x2,x3):(qDU×List (Int×Int))) ((x5,x6):Int×Int)=>qb7 F i1 x2 x3 x5 x6)) (lb:=[qDY g0]) (fun ((x2,x3):(qDU×List (Int×Int))) ((a0,c0,a1,c1):qDV×Nat×qDV×Nat)=>[⟨g7,56,[qDX a0 x2 c0]⟩,⟨g6,204,[qDX a1 x3 c1]⟩,⟨g5,3,[qDW i1]⟩]) (fun ((x2,x3):(qDU×List (Int×Int))) ((a0,c0,a1,c1):qDV×Nat×qDV×Nat)=>[qD0 a0 x2 c0,Ro eS209 209 2 (qDX a1 x3 c1) x3]) (fun (_:Empty) (_:Unit)=>[]) (fun (_:Empty) (_:Unit)=>[]) (fun _=>.skip) (([]:qDU),([]:List (Int×Int))) (none,0,none,0) rfl EnC.e (fun _=>rfl) rfl (.cons 0 rfl .nil) (.cons 0 rfl (.cons 0 rfl (.cons 0 rfl .nil))) (.cons 1 rfl (.cons 0 rfl .nil)) (.consF 0 rfl .nil) (fun z hz _ _ _ hY=>qme F hY (([]:qDU),([]:List (Int×Int))) (none,0,none,0) g0 m1 l1 t1 z hz) ?_ ?_ ?_)
 rintro rc1 L1 D1 ⟨x2,x3⟩ ⟨a0,c0,a1,c1⟩ ⟨x5,x6⟩ z w M _
 try dsimp only
 refine qdq [(0,qDX l1 m1 t1),(1,qDW i1),(3,qDY g5),(4,qDY g6),(5,qDY g7),(8,qDX l1 m1 t1),(9,.func (.func 304) #[] #[qDY g0]),(10,.agg #[qDW x5,qDW x6])] (qm rfl (qm rfl (qm rfl (qm rfl (qm rfl (qm rfl (qm rfl (qm rfl qdI)))))))) ?_
 refine au [5,19] ?_
 intro g1
 refine aw [17,0,34,14,20,1,1,5,12,24,0,29,2,26,10,0,2,13] ?_ ?_
 refine au [48,26,4,25,0] ?_
 refine qaj (vs:=[.agg #[qDW x5,qDW x6]]) (ys:=([(x5,x6)]:List (Int×Int))) qgs (by decide) rfl underlying204 tf209 rfl rfl rfl rfl rfl (by decide) (fun a3 c2=>zw 2 qgs rfl underlying204 tf209 rfl rfl rfl rfl rfl (.inl ⟨0,_,rfl⟩) rfl rfl (fun x7 e1 a4 c4=>?_))
 refine au [27,14,50,62,25,2] ?_
 exact vn (rc:=rc1) rfl (.cons 4 rfl .nil) rfl (a0,c0,a4,c4) (.cons 2 rfl (.cons 2 rfl (.cons 2 rfl (.cons 0 rfl (.cons 1 rfl .nil))))) (.cons 2 rfl (.cons 0 rfl .nil))
 refine au [131,57,4,92] ?_
 refine qp [3,4,5,6,20] [0,1,1,1,1] [1] [] (fun (((x8,x9),a5,c5):(Int×qDU)×qDV×Nat)=>([(21,qDW x8)],[⟨g7,56,[qDX a5 x9 c5]⟩],[qD0 a5 x9 c5],[])) ((0:Int),x2) (a0,c0) ?_
 intro k0
 rintro ⟨⟨x8,x9⟩,a5,c5⟩
 refine aw [39,1,5,24,6,0,2,1,13] ?_ ?_
 refine au [137,51,5] ?_
 refine zW (i:=5) rfl rfl inferInstance rfl rfl (fun _=>rfl) rfl rfl ?_
 refine au [57,124] ?_
 refine zB [iadd .i64 x5 x8] (fun a6 c6=>?_)
 refine zw 2 (qD .i64) rfl underlying56 tf3 rfl rfl rfl rfl rfl (.inl ⟨0,_,rfl⟩) rfl rfl (fun x10 e2 a7 c7=>kL (i:=5) rfl rfl rfl inferInstance rfl rfl rfl rfl rfl ?_)
 refine au [0,146] ?_
 exact qk ((iadd .i64 x8 1,x10),a7,c7)
 refine au [91,24,7] ?_
 exact vn (rc:=rc1) rfl (.cons 3 rfl .nil) rfl (a5,c5,a1,c1) (.cons 5 rfl (.cons 2 rfl (.cons 2 rfl (.cons 0 rfl (.cons 1 rfl .nil))))) (.cons 1 rfl (.cons 0 rfl .nil))
 rintro ⟨x2,x3⟩ _ ⟨a0,c0,a1,c1⟩ D1
 refine au [39,82,1] ?_
 refine qJ [] [0,0,0,0,0] [0] 4 ?_
 refine au [32,2,0,29,1,1,7,2,30,6,0,29,10,7,3,27,14,0,29,10,53,2,11] ?_
 exact jd [D1] ((a1,c1),a0,c0) (.inl rfl) rfl (.cons 0 rfl .nil) (resL (rs:=[.cell 4 204,.cell 5 56]) rfl (.cell (i:=2) rfl tf204 rfl rfl (fun _=>rfl) rfl (.cell (i:=1) rfl tf56 rfl rfl (fun _=>rfl) rfl ResOk.nil)) rfl) (fun h=>by subst h;rfl) (fun h=>by subst h;exact .nil) (fun h=>by subst h;exact (.cons 1 rfl (.cons 0 rfl .nil)))
 intro t;exact t.elim
theorem qmk (hm:qca F i1=some i2) :
    qD4 298 [qDW i1] [] (.int .u64 i2):=by
 refine pureA func298 ntmps298 hm fun _=>?_
 refine au [80,76,25,15,34,15,4,27,8,25,15,35,0,6,27,1] ?_
 intro x2 e2
 refine jS 2 e2 ?_
 exact az [50,11,24,8]
theorem qiw {r:(Int×qDU×Bool)}(hm:qaJ F i1 m1 d1 i2 i3 w1=some r) :
    PureM qD3 278 [qDY t1,qDW i2,qDW i3,qDX l2 w1 t3] [⟨t1,316,[qDW i1,qDX l1 m1 t2,.bool d1]⟩] [qD2 l1 m1 t2] [Sl eS209 2 (qDX l2 w1 t3) w1] (qDV×Nat) (fun _=>.tuple #[]) (fun g=>[⟨t1,316,[qDW r.1,qDX g.1 r.2.1 g.2,.bool r.2.2]⟩]) (fun g=>[qD2 g.1 r.2.1 g.2]):=by
 refine pureMA func278 ntmps278 hm fun _=>?_
 refine au [28,12,54,4,24,10,29,4] ?_
 rintro x12 e12 ⟨a13,c14⟩
 refine au [50,54,76,110] ?_
 refine qp [0,2,16,17] [] [] [0] (fun (((x73,x74,x75,x78,x79),a76,c77):(Int×Int×Int×qDU×Bool)×qDV×Nat)=>([(8,qDW x73),(18,qDW x74)],[⟨t1,316,[qDW x75,qDX a76 x78 c77,.bool x79]⟩],[qD2 a76 x78 c77],[])) (i2,(0:Int),x12.1,x12.2.1,x12.2.2) (a13,c14) ?_
 intro k0
 rintro ⟨⟨x73,x74,x75,x78,x79⟩,a76,c77⟩
 refine aw [39,1,5,24,6,0,2,1,13] ?_ ?_
 refine au [137,32,3] ?_
 intro x0 e0 b0 o0
 refine au [29,8,19] ?_
 intro g0
 refine au [6,132] ?_
 refine qj [0,2,10,16,17,18] [0] [] [1] (fun (((x1,x4,x5),a0,c0):(Int×qDU×Bool)×qDV×Nat)=>([],[⟨t1,316,[qDW x1,qDX a0 x4 c0,.bool x5]⟩],[qD2 a0 x4 c0],[],yR F (yS F i3 w1 k0) i3 x74 x0 x1 x4 x5)) ?_ ?_
 refine aw [1,5,4,25,11,0,2,13] ?_ ?_
 refine au [5,4,57,4,25,14,35,1] ?_
 intro x10 e1 _
 refine au [25,15,29,4] ?_
 rintro x11 e2 ⟨a1,c1⟩
 refine au [0] ?_
 exact qa ((x11.1,x11.2.1,x11.2.2),a1,c1)
 refine au [5,4,57,4,25,14,25,14,29,4] ?_
 rintro x13 e3 ⟨a2,c2⟩
 refine au [0] ?_
 exact qa ((x13.1,x13.2.1,x13.2.2),a2,c2)
 rintro ⟨⟨x1,x4,x5⟩,a0,c0⟩
 refine au [120,57,4,25,14,29,4] ?_
 rintro x14 e4 ⟨a3,c3⟩
 refine au [50,5,123,123,24,2,25,14,6,0,146] ?_
 exact qk ((isub .i64 (iadd .i64 x0.1 x0.2) 1,iadd .i64 x74 1,x14.1,x14.2.1,x14.2.2),a3,c3)
 refine au [91] ?_
 exact qK (a76,c77)
theorem ql7 {r:(Int×Int×Int)}(hm:qdV F i1 i2=some r) :
    qD4 305 [.int .u64 i1,qDW i2] [] (.tuple #[qDW r.1,.int .u64 r.2.1,.int .u64 r.2.2]):=by
 refine pureA func305 ntmps305 hm fun _=>?_
 refine au [61,6,6,76,24,2,31,15] ?_
 intro x3 e3 _
 refine au [25,14,4,27,0] ?_
 intro h4
 refine qoB rfl rfl rfl rfl h4 ?_
 refine au [129,28,11] ?_
 intro h11
 refine au [28,11] ?_
 intro h13
 refine qJ [] [] [] 14 ?_
 refine au [115,3,3] ?_
 refine qb 4 (.int .u64 (ishl .u64 1 (imul .i64 (iquo .i64 (isub .i64 x3 1) i2) i2))) rfl rfl rfl (qiL rfl rfl h11) ?_
 refine au [3,5,99,3,9] ?_
 refine qb 10 (.int .u64 (ishl .u64 1 (iadd .i64 (imul .i64 (iquo .i64 (isub .i64 x3 1) i2) i2) i2))) rfl rfl rfl (qiL rfl rfl h13) ?_
 exact az [127,3,13,53,2,11,24,8]
theorem qkQ {r:(Int×Int)}(hm:qbD F i1=some r) :
    qD4 307 [.int .u64 i1] [] (.tuple #[qDW r.1,.int .u64 r.2]):=by
 refine pureA func307 ntmps307 hm fun _=>?_
 refine au [80,6,76,25,14,31,15] ?_
 intro x2 e2 _
 refine au [129,28,11] ?_
 intro h6
 refine qJ [] [] [] 7 ?_
 refine au [89] ?_
 refine qb 2 (.int .u64 (ishl .u64 1 x2)) rfl rfl rfl (qiL rfl rfl h6) ?_
 exact az [3,3,3,4,3,5,3,6,53,2,11,24,8]
theorem qiW {r:(Int×qDU)}(hm:qbe F i1 m1 i2 i3=some r) :
    Pure qD3 306 [.agg #[qDW i1,qDX l1 m1 t1],.int .u64 i2,.int .u64 i3] [qD1 l1 m1 t1] (qDV×Nat) (fun g=>.agg #[qDW r.1,qDX g.1 r.2 g.2]) (fun g=>[qD2 g.1 r.2 g.2]) (fun _=>[]):=by
 refine pureA func306 ntmps306 hm fun _=>?_
 refine au [116] ?_
 intro g7
 refine au [19] ?_
 intro g8
 refine au [50,54,35,2] ?_
 intro x9 e9 _
 refine aw [4,24,1,24,1,6,6,0,2,1,1,5,4,4,24,6,0,2,13] ?_ ?_
 refine au [48,26,0,4,4,25,14,29,3] ?_
 rintro x14 e14 ⟨a15,c16⟩
 refine au [132,11,18] ?_
 exact qdL (a15,c16) 0
 refine au [131,26,0,4,4,83,29,3] ?_
 rintro x17 e17 ⟨a18,c19⟩
 refine au [132,11] ?_
 exact qdL (a18,c19) 0
theorem ql6 {r:(Int×qDU×Int)}(hm:qdU F i1 i2=some r) :
    Pure qD3 299 [.int .u64 i1,qDW i2] [] (qDV×Nat) (fun g=>.tuple #[.agg #[qDW r.1,qDX g.1 r.2.1 g.2],qDW r.2.2]) (fun g=>[qD2 g.1 r.2.1 g.2]) (fun _=>[]):=by
 refine pureA func299 ntmps299 hm fun _=>?_
 refine au [61,19] ?_
 intro g3
 refine au [129,54,143] ?_
 refine q6 3 11 14 [0,1,4] (decide (16<i2)) ?_ ?_ ?_
 exact az [79,71]
 exact az [4,109]
 refine au [4] ?_
 refine q6 3 15 18 [0,1,4] (decide (1099511627776<i1)) ?_ ?_ ?_
 exact az [79,71]
 exact az [4,109]
 refine aw [0,2,13] ?_ ?_
 refine au [48] ?_
 refine qH [qDW 0,.slice none 0 0] ?_
 exact az [17,75,26,5,35,3]
 refine au [69,54,4] ?_
 refine qd ql7 ?_
 intro x9 e9 _
 refine au [4,64,24,1,6,6,76,25,15,34,7] ?_
 rintro x10 e10 ⟨a11,c12⟩
 refine au [4,83,25,14,4,4,25,14] ?_
 refine qd qiW ?_
 rintro x13 e13 ⟨a14,c15⟩
 refine au [17,52] ?_
 exact kp (a14,c15) 0
theorem qqA {r:(Int×qDU×Bool)}(hm:qfn F i1 m1 m2 i2=some r) :
    PureM qD3 279 [.agg #[qDW i1,qDX l1 m1 t1],qDX l2 m2 t2,qDW i2] [] [qD2 l1 m1 t1] [Sl (eI .u64) 1 (qDX l2 m2 t2) m2] (qDV×Nat) (fun g=>.tuple #[.agg #[qDW r.1,qDX g.1 r.2.1 g.2],.bool r.2.2]) (fun _=>[]) (fun g=>[qD2 g.1 r.2.1 g.2]):=by
 refine pureMA func279 ntmps279 hm fun _=>?_
 refine au [116] ?_
 intro g9
 refine au [19] ?_
 intro g10
 refine au [51] ?_
 refine qj [3,6] [0] [] [] (fun (((x0,x3),a0,c0):(Int×qDU)×qDV×Nat)=>([],[⟨g9,65,[qDW x0,qDX a0 x3 c0]⟩],[qD2 a0 x3 c0],[],qh9 F x0 x3)) ?_ ?_
 refine au [114] ?_
 refine qp [2,3,6,12,13] [0] [] [0] (fun (((x4,x6,x7),a1,c1):(Int×Int×qDU)×qDV×Nat)=>([(14,qDW x4)],[⟨g9,65,[qDW x6,qDX a1 x7 c1]⟩],[qD2 a1 x7 c1],[])) ((0:Int),i1,m1) (l1,t1) ?_
 intro k0
 rintro ⟨⟨x4,x6,x7⟩,a1,c1⟩
 refine aw [39,1,5,24,6,0,2,1,13] ?_ ?_
 refine au [136] ?_
 refine vT (j:=0) (qD .u64) (by decide) rfl UnF.u inferInstance rfl rfl rfl rfl ?_
 intro x9 e0 b0 o0
 refine au [25,7,76,4] ?_
 refine qd ql6 ?_
 rintro x10 e1 ⟨a2,c2⟩
 refine au [4,64,19] ?_
 intro g0
 refine au [17,129,54,25,8,4] ?_
 refine q6 7 26 33 [2,3,6,12,13,14,10] (decide (8192<(iadd .i64 x6 x10.1))) ?_ ?_ ?_
 exact az [88,79,71]
 exact az [133,57,24,2,109]
 refine aw [0,2,13] ?_ ?_
 refine au [48] ?_
 refine qH [qDW 0,.slice none 0 0] ?_
 refine au [25,10,75,125,60,26,5] ?_
 exact yD (none,0) (resL (rs:=[.cell 6 65,.tmp 7]) rfl (.cell (i:=1) rfl tf65 rfl rfl (by simp) rfl (.tmp rfl ResOk.nil)) rfl) (hR:=fun h=>by subst h;exact (.cons 0 rfl .nil))
 refine au [69,5,26,11,25,0,31,1] ?_
 rintro x11 e2 ⟨a4,c3⟩
 refine au [27,14,0,146] ?_
 exact qk ((iadd .i64 x4 1,x11.1,x11.2),a4,c3)
 refine au [91] ?_
 exact qa ((x6,x7),a1,c1)
 rintro ⟨⟨x0,x3⟩,a0,c0⟩
 refine au [140,26,0,17,52] ?_
 exact yD (a0,c0) (resL (rs:=[.cell 6 65,.tmp 7]) rfl (.cell (i:=0) rfl tf65 rfl rfl (by simp) rfl (.tmp rfl ResOk.nil)) rfl) (hR:=fun h=>by subst h;exact (.cons 0 rfl .nil))
theorem qiU {r:(Int×Int×Bool)}(hm:qbc F i1 d1 i2=some r) :
    PureM qD3 300 [qDY t1,qDW i2] [⟨t1,359,[qDW i1,.bool d1]⟩] [] [] Unit (fun _=>.int .u64 r.1) (fun _=>[⟨t1,359,[qDW r.2.1,.bool r.2.2]⟩]) (fun _=>[]):=by
 refine pureMA func300 ntmps300 hm fun _=>?_
 refine au [61,51] ?_
 refine qj [0,1] [0] [] [] (fun ((x8,_):Int×Unit)=>([(4,.int .u64 x8)],[],[],[],qbC F i2 x8)) ?_ ?_
 refine aw [1,5,4,24,15,12,24,0,0,2,13] ?_ ?_
 refine au [5,4,4,94,25,14,25,14,25,15,6,27,1] ?_
 intro x9 e9
 refine jS 4 e9 ?_
 refine au [0] ?_
 exact qa (x9,())
 refine au [5,4,4,94,25,14,35,1] ?_
 intro x10 e10 _
 refine au [6,0] ?_
 exact qa (x10,())
 rintro ⟨x8,_⟩
 exact az [120,4,4,85,17,85,132,54,117]
theorem qqB (hm:qgL F m1 i1=some m2) :
    Pure qD3 280 [qDX l1 m1 t1,qDW i1] [qDZ l1 m1 t1] (qDV×Nat) (fun g=>qDX g.1 m2 g.2) (fun g=>[Ro (eI .u64) 119 1 (qDX g.1 m2 g.2) m2]) (fun _=>[]):=by
 refine pureA func280 ntmps280 hm fun _=>?_
 refine au [61,76] ?_
 refine qH [qDW i1,.bool false] ?_
 refine au [24,4] ?_
 intro g5
 refine au [97,51] ?_
 refine qP (fun ((x75,a73,c74):qDU×qDV×Nat)=>([(6,qDX a73 x75 c74)],[],[Ro (eI .u64) 119 1 (qDX a73 x75 c74) x75],[],qf9 F x75)) ?_ ?_
 refine au [114] ?_
 refine qdK Int (eI .u64) 119 1 (qp [5,12,13] [] [] [0] (fun (((x98,x99,x0,x2),a96,c97):(qDU×Int×Int×Bool)×qDV×Nat)=>([(6,qDX a96 x98 c97),(14,qDW x99)],[⟨g5,359,[qDW x0,.bool x2]⟩],[Ro (eI .u64) 119 1 (qDX a96 x98 c97) x98],[])) (([]:qDU),(0:Int),i1,false) (none,0) ?_)
 intro k0
 rintro ⟨⟨x98,x99,x0,x2⟩,a96,c97⟩
 refine aw [39,1,5,24,6,0,2,1,13] ?_ ?_
 refine au [136,26,7] ?_
 intro x3 e0 b0 o0
 refine au [25,7,51,5,4,4,4] ?_
 refine qt qiU ?_
 intro x5 e1 _
 refine zB [x5.1] (fun a0 c0=>?_)
 refine zw 1 (qD .u64) rfl underlying211 tf119 rfl rfl rfl rfl rfl (.inl ⟨0,_,rfl⟩) rfl rfl (fun x6 e2 a1 c1=>?_)
 refine au [6,0,146] ?_
 exact qk ((x6,iadd .i64 x99 1,x5.2.1,x5.2.2),a1,c1)
 refine au [91] ?_
 exact qa (x98,a96,c97)
 rintro ⟨x75,a73,c74⟩
 refine au [120,52] ?_
 exact qx (a73,c74)
theorem qiv {r:(Int×qDU×Bool)}(hm:vQ F i1 m1 d1 i2 m2 m3 i3 i4 i5=some r) :
    PureM qD3 247 [qDY t1,qDW i2,qDX l2 m2 t3,qDX l3 m3 t4,.agg #[qDW i3,qDW i4,qDW i5]] [⟨t1,316,[qDW i1,qDX l1 m1 t2,.bool d1]⟩] [qD2 l1 m1 t2] [qDZ l2 m2 t3,qDZ l3 m3 t4] (qDV×Nat) (fun _=>.tuple #[]) (fun g=>[⟨t1,316,[qDW r.1,qDX g.1 r.2.1 g.2,.bool r.2.2]⟩]) (fun g=>[qD2 g.1 r.2.1 g.2]):=by
 refine pureMA func247 ntmps247 hm fun _=>?_
 refine au [32,4,113] ?_
 intro g17
 refine au [50,54,4,24,10,29,4] ?_
 rintro x18 e18 ⟨a19,c20⟩
 refine aw [0,2,1,1,5,4,24,10,25,11,0,2,13] ?_ ?_
 refine au [11,18] ?_
 exact qK (a19,c20)
 refine au [69,54,51] ?_
 refine qj [0,1,9] [1] [] [] (fun (((x33,x34,x37,x38),a31,c32,a35,c36):(qDU×Int×qDU×Bool)×qDV×Nat×qDV×Nat)=>([(10,qDX a31 x33 c32)],[⟨t1,316,[qDW x34,qDX a35 x37 c36,.bool x38]⟩],[qD2 a35 x37 c36],[qDZ a31 x33 c32],yP F i2 i4 i5 x33 x34 x37 x38)) ?_ ?_
 refine aw [1,5,12,26,1,25,6,0,2,13] ?_ ?_
 refine au [48,76,4] ?_
 refine qd qo8 ?_
 rintro x0 e0 ⟨⟨a0,c0⟩,a1,c1⟩
 refine au [4,64,6,51,5,4,4] ?_
 refine qt qhl ?_
 rintro x1 e1 ⟨a2,c2⟩
 refine au [0,35,4] ?_
 exact qa ((x0.2,x1.1,x1.2.1,x1.2.2),a1,c1,a2,c2)
 refine au [16] ?_
 exact qa ((m2,x18.1,x18.2.1,x18.2.2),l2,t3,a19,c20)
 rintro ⟨⟨x33,x34,x37,x38⟩,a31,c32,a35,c36⟩
 refine aw [39,1,1,5,4,24,10,25,11,0,2,13] ?_ ?_
 refine au [11,18] ?_
 exact qK (a35,c36)
 refine au [69] ?_
 refine qj [0,1,9] [0] [] [] (fun (((x51,x52,x55,x56),a49,c50,a53,c54):(qDU×Int×qDU×Bool)×qDV×Nat×qDV×Nat)=>([(10,qDX a49 x51 c50)],[⟨t1,316,[qDW x52,qDX a53 x55 c54,.bool x56]⟩],[qD2 a53 x55 c54],[qDZ a49 x51 c50],yQ F i2 i5 x51 x52 x55 x56)) ?_ ?_
 refine aw [1,5,12,24,0,25,6,0,2,13] ?_ ?_
 refine au [48,76,57] ?_
 refine qt qqD ?_
 rintro x4 e2 ⟨⟨a3,c3⟩,a5,c4⟩
 refine au [4,64,6,51,5,4,4,57,4] ?_
 refine qt qiw ?_
 rintro x5 e3 ⟨a6,c6⟩
 refine au [0,35,4] ?_
 exact qa ((x4.2,x5.1,x5.2.1,x5.2.2),a5,c4,a6,c6)
 refine au [16] ?_
 exact qa ((x33,x34,x37,x38),a31,c32,a35,c36)
 rintro ⟨⟨x51,x52,x55,x56⟩,a49,c50,a53,c54⟩
 try dsimp only
 refine qj [0] [1] [0] [] (fun (((x76,x77,x80),g75,a78,c79):(Bool×Int×qDU)×Nat×qDV×Nat)=>([(13,qDY g75),(14,.bool x76)],[⟨g75,65,[qDW x77,qDX a78 x80 c79]⟩],[qD2 a78 x80 c79],[],qa7 F x52 x55 x56 x76 x77 x80)) ?_ ?_
 refine qJ [] [0,0] [0] 13 ?_
 refine qb 0 (.agg #[qDW 0,.slice none 0 0]) rfl rfl rfl (qdr (cells:=[qDW 0,.slice none 0 0]) st65 rfl (by kernel_rfl)) ?_
 refine au [3,1,3,2,21,4,25,4,5] ?_
 refine qg 3 10 rfl rfl (by kernel_rfl) rfl rfl ?_ ?_
 refine au [35,5] ?_
 rintro x85 e85 ⟨a86,c87⟩
 refine au [0,30,9] ?_
 refine qg 6 10 rfl rfl (by kernel_rfl) rfl rfl ?_ ?_
 refine au [29,11,32,5] ?_
 rintro x88 e88 ⟨a89,c90⟩
 refine au [0,30,9,3,7,3,8,3,9,7,10,19] ?_
 intro g91
 refine au [0,27,4,7,11,17,0,27,4,3,12,53] ?_
 exact qa ((x88.2.2,x88.1,x88.2.1),g91,a89,c90)
 refine au [19] ?_
 intro g92
 refine au [0,27,4,7,6,29,11,32,5] ?_
 rintro x93 e93 ⟨a94,c95⟩
 refine au [0,27,4,3,7,3,8,3,9,7,11,17,0,27,4,3,12,53] ?_
 exact qa ((x93.2.2,x93.1,x93.2.1),g92,a94,c95)
 refine au [19] ?_
 intro g96
 refine au [0,27,4,7,3,35,5] ?_
 rintro x97 e97 ⟨a98,c99⟩
 refine au [0,27,4,7,6,29,11,32,5] ?_
 rintro x9 e4 ⟨a7,c7⟩
 refine au [0,27,4,3,7,3,8,3,9,7,11,17,0,27,4,3,12,53] ?_
 exact qa ((x9.2.2,x9.1,x9.2.1),g96,a7,c7)
 rintro ⟨⟨x76,x77,x80⟩,g75,a78,c79⟩
 refine au [120,4,94,4] ?_
 refine q6 3 69 72 [0,13,64] (!x76) ?_ ?_ ?_
 exact az [79,71]
 exact az [4,25,12,70]
 refine au [85,132,5,4,26,0,34,11] ?_
 rintro x82 e82 ⟨a83,c84⟩
 refine au [0] ?_
 exact qK (a83,c84)
theorem qnD (hm:qeU F i1 m1 i2 i3 i4=some i5) :
    qD4 287 [qDW i1,qDX l1 m1 t1,.agg #[qDW i2,qDW i3,qDW i4]] [qDZ l1 m1 t1] (qDW i5):=by
 refine pureA func287 ntmps287 hm fun _=>?_
 refine au [116] ?_
 intro g8
 refine au [129,54,143] ?_
 refine q6 3 9 12 [1,5] (decide (1048576<i1)) ?_ ?_ ?_
 exact az [79,71]
 exact az [4,109]
 refine aw [0,2,13] ?_ ?_
 exact az [48,96]
 refine aw [16,2,1,1,5,12,24,0,25,6,0,2,13] ?_ ?_
 refine au [54,30,7] ?_
 intro x14 e14 _
 exact az [96]
 exact az [131,90]
theorem qnC {r:(Int×qDU×Int)}(hm:qeT F i1 m1 m2 i2 i3 i4=some r) :
    Pure qD3 259 [qDW i1,qDX l1 m1 t1,qDX l2 m2 t2,.agg #[qDW i2,qDW i3,qDW i4]] [qDZ l1 m1 t1,qDZ l2 m2 t2] (qDV×Nat) (fun g=>.tuple #[.agg #[qDW r.1,qDX g.1 r.2.1 g.2],qDW r.2.2]) (fun g=>[qD2 g.1 r.2.1 g.2]) (fun _=>[]):=by
 refine pureA func259 ntmps259 hm fun _=>?_
 refine au [28,12,113] ?_
 intro g11
 refine au [19] ?_
 intro g12
 refine au [97,26,0,29,14] ?_
 intro x13 e13 _
 refine au [51] ?_
 refine qj [0,1,2,7,8] [0,1] [] [0,1] (fun ((x19,_):Int×Unit)=>([(10,qDW x19)],[],[],[],qaV F i1 m1 m2 i2 i3 i4 x19)) ?_ ?_
 refine au [54,25,11,4] ?_
 refine kX 7 [0,1,2,7,8,10] [0,1] [] [0,1] (fun ((x40,_):Bool×Unit)=>([(23,.bool x40)],[],[],[],qaY F i1 m1 m2 i2 i3 i4 x13 x40)) ?_ ?_
 refine qG (os:=_) rfl ?_
 refine av [26,8] ?_ ?_
 intro h38
 refine kH (k:=16) rfl h38 ?_
 refine au [4,143] ?_
 refine q6 3 19 22 [0,1,2,7,8,10,16] (decide (1048576<i1)) ?_ ?_ ?_
 exact az [79,71]
 exact az [4,109]
 refine au [112] ?_
 exact qa ((decide (i1<0) || decide (1048576<i1)),())
 intro h38
 refine kG (k:=16) rfl h38 ?_
 refine au [88,79,111] ?_
 exact qa (false,())
 rintro ⟨x40,_⟩
 try dsimp only
 refine qG (os:=_) rfl ?_
 refine aw [0,2,13] ?_ ?_
 refine au [5,6,0] ?_
 exact qa ((3:Int),())
 refine au [16] ?_
 exact qa (x13,())
 rintro ⟨x19,_⟩
 try dsimp only
 refine qj [0,1,2,7,8] [0,1] [] [0,1] (fun ((x22,_):Int×Unit)=>([(10,qDW x22)],[],[],[],qaW F i1 m1 m2 i2 i3 i4 x22)) ?_ ?_
 refine aw [1,5,4,25,11,0,2,13] ?_ ?_
 refine au [5,4,30,7] ?_
 intro x36 e36 _
 refine au [6,0] ?_
 exact qa (x36,())
 refine au [16] ?_
 exact qa (x19,())
 rintro ⟨x22,_⟩
 try dsimp only
 refine qj [0,1,2,7,8] [0,1] [] [0,1] (fun ((x25,_):Int×Unit)=>([(10,qDW x25)],[],[],[],qaX F i1 m1 m2 i2 i3 i4 x25)) ?_ ?_
 refine aw [1,5,4,25,11,0,2,13] ?_ ?_
 refine au [5,4,4,26,0] ?_
 refine qd qnD ?_
 intro x34 e34 _
 refine au [6,0] ?_
 exact qa (x34,())
 refine au [16] ?_
 exact qa (x22,())
 rintro ⟨x25,_⟩
 refine aw [39,1,1,5,4,25,8,0,2,13] ?_ ?_
 refine au [48] ?_
 refine qH [qDW 0,.slice none 0 0] ?_
 exact az [4,17,75,26,5,35,3]
 refine au [131] ?_
 refine qH [qDW 0,.slice none 0 0,.bool false] ?_
 refine au [24,4] ?_
 intro g27
 refine au [76,4,4,4,26,11,29,11,35,6] ?_
 rintro x28 e28 ⟨a29,c30⟩
 refine aw [0,2,1,1,5,4,24,15,12,24,0,0,2,13] ?_ ?_
 refine au [48] ?_
 refine qH [qDW 0,.slice none 0 0] ?_
 exact az [25,10,75,26,5,32,6]
 refine au [69,54,85,25,0,25,10,52] ?_
 exact kp (a29,c30) 1
theorem qo7 {r:(Int×Int×qDU×Bool)}(hm:qfN F p1 m1 i1 i2 i3 i4=some r) :
    Pure qD3 230 [qDX l1 p1 t1,qDX l2 m1 t2,qDW i1,.agg #[qDW i2,qDW i3,qDW i4]] [SlN eN56 iN56 1 (qDX l1 p1 t1) p1 n1,qDZ l2 m1 t2] (qDV×Nat) (fun g=>.tuple #[.agg #[qDW r.1,qDW r.2.1,qDX g.1 r.2.2.1 g.2],.bool r.2.2.2]) (fun g=>[qD2 g.1 r.2.2.1 g.2]) (fun _=>[]):=by
 refine pureA func230 ntmps230 hm fun _=>?_
 refine au [28,12,113] ?_
 intro g11
 refine au [19] ?_
 intro g12
 refine au [76,24,10,97] ?_
 refine qH [qDW 0,.slice none 0 0] ?_
 refine au [19] ?_
 intro g13
 refine au [132] ?_
 refine qj [0,1,2,7,8,10,11] [1,2] [] [0,1] (fun (((x18,x21),a19,c20):(Int×qDU)×qDV×Nat)=>([],[⟨g13,65,[qDW x18,qDX a19 x21 c20]⟩],[qD2 a19 x21 c20],[],qbE F p1 m1 i1 i3 i4 x18 x21)) ?_ ?_
 refine aw [1,5,12,26,4,25,6,0,2,13] ?_ ?_
 refine au [5,4,25,15,34,10] ?_
 rintro x46 e46 ⟨a47,c48⟩
 refine au [17,0] ?_
 exact qa ((x46.1,x46.2),a47,c48)
 refine au [16,26,5] ?_
 exact qa (((0:Int),([]:qDU)),none,0)
 rintro ⟨⟨x18,x21⟩,a19,c20⟩
 refine au [140,51] ?_
 refine qj [1,2,7,8,10,11] [0,1,2] [0] [1] (fun ((x29,a27,c28):qDU×qDV×Nat)=>([(12,qDX a27 x29 c28)],[],[],[qDZ a27 x29 c28],qbF F p1 m1 i1 i3 i4 x18 x21 x29)) ?_ ?_
 refine aw [1,5,4,25,6,0,2,13] ?_ ?_
 refine au [5,4,4,4,25,14,27,7] ?_
 intro x41 e41 g44 b42 o43
 refine au [25,7,6,0] ?_
 exact qa (x41,g44.1,g44.2)
 refine au [16,25,13] ?_
 exact qlY 0 rfl (qa (([]:qDU),none,0))
 rintro ⟨x29,a27,c28⟩
 refine au [120,12,25,10,50,54,4,4,26,0] ?_
 refine qd qnC ?_
 rintro x30 e30 ⟨a31,c32⟩
 refine au [4,64,19] ?_
 intro g33
 refine au [17,129,54,25,8,4] ?_
 refine q6 7 44 51 [2,8,11,13] (decide (8192<(iadd .i64 x18 x30.1))) ?_ ?_ ?_
 exact az [88,79,71]
 exact az [12,29,2,57,24,2,109]
 refine aw [0,2,13] ?_ ?_
 refine au [48] ?_
 refine qH [qDW 0,qDW 0,.slice none 0 0] ?_
 exact az [25,10,75,26,5,32,6]
 refine au [69,54,31,14,25,0,31,1] ?_
 rintro x37 e37 ⟨a38,c39⟩
 refine qH [qDW i1,qDW x37.1,qDX a38 x37.2 c39] ?_
 refine au [25,10,52] ?_
 exact kp (a38,c39) 1
theorem qo6 {r:(Int×Int×qDU×Bool)}(hm:qhr F p1 m1 i1 i2 i3=some r) :
    Pure qD3 191 [qDX l1 p1 t1,qDX l2 m1 t2,.agg #[qDW i1,qDW i2,qDW i3]] [SlN eN56 iN56 1 (qDX l1 p1 t1) p1 n1,qDZ l2 m1 t2] (qDV×Nat) (fun g=>.tuple #[.agg #[qDW r.1,qDW r.2.1,qDX g.1 r.2.2.1 g.2],.bool r.2.2.2]) (fun g=>[qD2 g.1 r.2.2.1 g.2]) (fun _=>[]):=by
 refine pureA func191 ntmps191 hm fun _=>?_
 refine au [116] ?_
 intro g10
 refine au [19] ?_
 intro g11
 refine au [51] ?_
 refine qP (fun (((x96,x97,x98,x0),a99,c0):(Bool×Int×Int×qDU)×qDV×Nat)=>([(6,qDY g11),(7,.bool x96)],[⟨g11,247,[qDW x97,qDW x98,qDX a99 x0 c0]⟩],[qD2 a99 x0 c0],[],qfp F x96 x97 x98 x0)) ?_ ?_
 refine au [48,123,4,24,10,28,15,83,92,31,2] ?_
 refine qp [0,1,5,6,16] [1] [] [0,1] (fun (((x2,x3,x5,x6,x10),a0,c1):(Bool×Int×Int×Int×qDU)×qDV×Nat)=>([(7,.bool x2),(17,qDW x3)],[⟨g11,247,[qDW x5,qDW x6,qDX a0 x10 c1]⟩],[qD2 a0 x10 c1],[])) (false,(0:Int),(0:Int),(0:Int),([]:qDU)) (none,0) ?_
 intro k0
 rintro ⟨⟨x2,x3,x5,x6,x10⟩,a0,c1⟩
 refine aw [39,1,5,24,6,0,2,1,13] ?_ ?_
 refine au [69] ?_
 refine qj [0,1,5,6,16,17] [0] [] [0,1] (fun (((x11,x12,x13,x14),a1,c2):(Bool×Int×Int×qDU)×qDV×Nat)=>([(7,.bool x11)],[⟨g11,247,[qDW x12,qDW x13,qDX a1 x14 c2]⟩],[qD2 a1 x14 c2],[],vp F (vq F p1 m1 i1 i2 i3 k0) x3 x11 x12 x13 x14)) ?_ ?_
 refine au [122,76,4,4,25,0] ?_
 refine qd qo7 ?_
 rintro x15 e0 ⟨a3,c4⟩
 refine au [4,64,19] ?_
 intro g0
 refine au [17,76,4] ?_
 refine kX 12 [0,1,5,6,7,9,16,17] [0,1,2] [0,1] [0,1] (fun ((x16,_):Bool×Unit)=>([(41,.bool x16)],[],[],[],qcn F (vq F p1 m1 i1 i2 i3 k0) x2 x3 x5 x6 x10 x15 x16)) ?_ ?_
 refine qG (os:=_) rfl ?_
 refine av [26,8] ?_ ?_
 intro h0
 refine kH (k:=29) rfl h0 ?_
 refine au [4,25,12,4] ?_
 refine qju 8 (!x2) [(0,qDX l1 p1 t1),(1,qDX l2 m1 t2),(5,qDY g10),(6,qDY g11),(7,.bool x2),(16,qDW (iadd .i64 (imin i1 (p1.length:Int)) 1)),(17,qDW x3),(9,qDY g0),(29,.bool true),(30,.bool x2),(31,.bool (!x2)),(32,.bool (!x2)),(40,.bool ((!x2) || decide (x15.2.1<x6)))] (fun h1=>?_) (fun h1=>?_) ?_
 refine qG (os:=_) rfl (kH (k:=32) rfl h1 ?_)
 refine au [88,79,9,24,12] ?_
 refine qr (d:=40) (v:=.bool ((!x2) || decide (x15.2.1<x6))) rfl (by rw[h1];simp only[Bool.true_or]) (qr (d:=32) (v:=.bool (!x2)) rfl (by simp only[qDX,h1] <;> rfl) ?_)
 exact az [59]
 refine qG (os:=_) rfl (kG (k:=32) rfl h1 ?_)
 refine au [12,57,12,133,24,6,24,13] ?_
 refine qr (d:=40) (v:=.bool ((!x2) || decide (x15.2.1<x6))) rfl (by rw[h1];simp only[Bool.false_or]) (qr (d:=32) (v:=.bool (!x2)) rfl (by simp only[qDX,h1] <;> rfl) ?_)
 exact az [59]
 refine qG (os:=_) rfl ?_
 refine au [112] ?_
 exact qa (((!x2) || decide (x15.2.1<x6)),())
 intro h0
 refine kG (k:=29) rfl h0 ?_
 refine au [88,88,79,9,111] ?_
 exact qa (false,())
 rintro ⟨x16,_⟩
 try dsimp only
 refine qG (os:=_) rfl ?_
 refine aw [0,2,13] ?_ ?_
 refine au [5,25,0,27,14,6,0,24,7] ?_
 exact qa ((true,x15.1,x15.2.1,x15.2.2.1),a3,c4)
 refine au [16,24,7] ?_
 exact qa ((x2,x5,x6,x10),a0,c1)
 rintro ⟨⟨x11,x12,x13,x14⟩,a1,c2⟩
 refine au [39,145] ?_
 exact qk ((x11,iadd .i64 x3 1,x12,x13,x14),a1,c2)
 refine au [91] ?_
 exact qa ((x2,x5,x6,x10),a0,c1)
 rintro ⟨⟨x96,x97,x98,x0⟩,a99,c0⟩
 refine au [39,106,4,17,52] ?_
 exact kp (a99,c0) 0
theorem qip {r:(Bool×Int×Int×Int×Int×Int×qDU×qDU×qDU)}(hm:qcv F i1 i2 i3 i4 i5 m1 m2 m3 p1=some r) :
    PureM qD3 164 [qDY t1,.agg #[qDX l4 p1 t5]] [⟨t1,169,[qDW i1,qDW i2,qDW i3,qDW i4,qDW i5,qDX l1 m1 t2,qDX l2 m2 t3,qDX l3 m3 t4]⟩] [qD2 l1 m1 t2,qD0 l2 m2 t3,qD0 l3 m3 t4] [SlN eN56 iN56 1 (qDX l4 p1 t5) p1 n1] ((qDV×Nat)×(qDV×Nat)×qDV×Nat) (fun _=>.bool r.1) (fun g=>[⟨t1,169,[qDW r.2.1,qDW r.2.2.1,qDW r.2.2.2.1,qDW r.2.2.2.2.1,qDW r.2.2.2.2.2.1,qDX g.1.1 r.2.2.2.2.2.2.1 g.1.2,qDX g.2.1.1 r.2.2.2.2.2.2.2.1 g.2.1.2,qDX g.2.2.1 r.2.2.2.2.2.2.2.2 g.2.2.2]⟩]) (fun g=>[qD2 g.1.1 r.2.2.2.2.2.2.1 g.1.2,qD0 g.2.1.1 r.2.2.2.2.2.2.2.1 g.2.1.2,qD0 g.2.2.1 r.2.2.2.2.2.2.2.2 g.2.2.2]):=by
 refine pureMA func164 ntmps164 hm fun _=>?_
 refine au [100] ?_
 intro g19
 refine au [51] ?_
 refine qP (fun (((x0,x1,x8,x9),a0,c0,a1,c1,a2,c2):(Int×qDU×qDU×qDU)×qDV×Nat×qDV×Nat×qDV×Nat)=>([],[⟨t1,169,[qDW i1,qDW i2,qDW i3,qDW i4,qDW x0,qDX a0 x1 c0,qDX a1 x8 c1,qDX a2 x9 c2]⟩],[qD2 a0 x1 c0,qD0 a1 x8 c1,qD0 a2 x9 c2],[],qax F i1 i2 i3 i4 x0 x1 x8 x9)) ?_ ?_
 refine au [48,57,110] ?_
 refine qp [0,3,10,11] [0] [] [0] (fun (((x11,x12,x14,x15,x17),a3,c3,a4,c4,a5,c5):(Int×Int×qDU×qDU×qDU)×qDV×Nat×qDV×Nat×qDV×Nat)=>([(12,qDW x11)],[⟨t1,169,[qDW i1,qDW i2,qDW i3,qDW i4,qDW x12,qDX a3 x14 c3,qDX a4 x15 c4,qDX a5 x17 c5]⟩],[qD2 a3 x14 c3,qD0 a4 x15 c4,qD0 a5 x17 c5],[])) ((0:Int),i5,m1,m2,m3) (l1,t2,l2,t3,l3,t4) ?_
 intro k0
 rintro ⟨⟨x11,x12,x14,x15,x17⟩,a3,c3,a4,c4,a5,c5⟩
 refine aw [39,1,5,24,6,0,2,1,13] ?_ ?_
 refine au [137,27,7] ?_
 intro x18 e0 g0 b0 o0
 refine au [25,7,6,51] ?_
 refine qj [0,3,10,11,12] [0,1] [0,1,2] [2] (fun (((x19,x20,x21,x22),g2,a6,c6):(Bool×Int×Int×qDU)×Nat×qDV×Nat)=>([(7,qDY g2),(8,.bool x19)],[⟨g2,247,[qDW x20,qDW x21,qDX a6 x22 c6]⟩],[qD2 a6 x22 c6],[],qay F (kO F i1 i2 i3 i4 p1 k0) i1 i2 i3 i4 x11 x12 x14 x15 x17 x19 x20 x21 x22)) ?_ ?_
 refine qt6 2 qq rfl ?_
 intro x23 e1 a7 c7 g3 h0 h1
 refine qJ [] [0,0] [0,1,2,3] 17 ?_
 refine au [139,3,2] ?_
 refine qb 3 (qDX a7 x23 c7) rfl rfl rfl (qcD underlying22 tf56 rfl rfl rfl e1 h1 h0) ?_
 refine au [3,4,3,5,3,6,21,7,21,8] ?_
 refine qA 9 (.agg #[qDW i2,qDW i3,qDW i4]) rfl rfl rfl (qy (i:=1) rfl tf26 rfl rfl (by simp) rfl) (qg 10 14 rfl rfl (by kernel_rfl) rfl rfl ?_ ?_)
 refine au [35,7] ?_
 rintro x24 e2 ⟨a9,c8⟩
 refine au [0,35,8,127,3,13,7,14,19] ?_
 intro g4
 refine au [0,30,8,7,15,17,0,30,8,3,16,53] ?_
 exact qa ((x24.2.2.2,x24.1,x24.2.1,x24.2.2.1),g4,a9,c8)
 refine au [19] ?_
 intro g5
 refine au [0,30,8,7,10,35,7] ?_
 rintro x25 e3 ⟨a10,c10⟩
 refine au [0,30,8,127,3,13,7,15,17,0,30,8,3,16,53] ?_
 exact qa ((x25.2.2.2,x25.1,x25.2.1,x25.2.2.1),g5,a10,c10)
 rintro ⟨⟨x19,x20,x21,x22⟩,g2,a6,c6⟩
 refine au [39,1] ?_
 refine qj [0,3,7,10,11,12] [0,1,2] [0,1,2,3] [0] (fun ((x26,_):Bool×Unit)=>([(45,.bool x26)],[],[],[],yo F (kO F i1 i2 i3 i4 p1 k0) i1 i2 i3 i4 x11 x12 x14 x15 x17 x20 x21 x22 x26)) ?_ ?_
 refine av [30,5] ?_ ?_
 intro h2
 refine au [35,9,115] ?_
 refine yI 33 h2 ?_
 refine au [23,3,23,4,23,5,23,6,23,7,23,8,23,9,23,10,23,11,23,12,23,13,3,14,53] ?_
 exact qa (true,())
 intro h2
 refine au [35,9,115] ?_
 refine yI 33 h2 ?_
 refine au [3,3,3,4,21,5,21,6,21,7,26,13,8,21,9,21,10,29,1,11,3,12,45,53] ?_
 exact qa ((decide (8192<(iadd .i64 x12 x21))),())
 rintro ⟨x26,_⟩
 refine aw [39,13] ?_ ?_
 refine au [48,75,125,60] ?_
 exact qK ((a3,c3),(a4,c4),a5,c5)
 refine au [69] ?_
 refine qj [0,3,7,10,11,12] [0,2] [0,3] [0] (fun (((x27,x28),a12,c11,a13,c13):(qDU×qDU)×qDV×Nat×qDV×Nat)=>([],[⟨t1,169,[qDW i1,qDW i2,qDW i3,qDW i4,qDW x12,qDX a3 x14 c3,qDX a12 x27 c11,qDX a13 x28 c13]⟩],[qD0 a12 x27 c11,qD0 a13 x28 c13],[],qaz F (kO F i1 i2 i3 i4 p1 k0) x11 x12 x14 x21 x22 x27 x28)) ?_ ?_
 refine kB mixed [24,27] _ _ (.cons 0 rfl (.cons 1 rfl .nil)) (qh 0 rfl (qgv 1 rfl qf)) 28 rfl ?_
 refine au [115,3,3,21,4] ?_
 refine qB 5 (qDX a4 x15 c4) [[24],[27]] rfl rfl rfl (kW (j:=1) rfl tf56 rfl rfl (fun _=>rfl) rfl) ?_
 refine au [21,6,26,13,7,3,10,3,11,21,12] ?_
 refine qB 13 (qDX a5 x17 c5) [[24],[27]] rfl rfl rfl (kW (j:=1) rfl tf56 rfl rfl (fun _=>rfl) rfl) ?_
 refine au [3,14,3,15,21,16,21,17,21,18] ?_
 refine qB 19 (qDW x12) [[24],[27]] rfl rfl rfl (kW (j:=1) rfl tf3 rfl rfl (fun _=>rfl) rfl) (qg 8 20 rfl rfl (by kernel_rfl) rfl rfl ?_ ?_)
 refine zB [x20] (fun a15 c14=>?_)
 refine au [0,27,15] ?_
 refine qg 9 20 rfl rfl (by kernel_rfl) rfl rfl ?_ ?_
 refine zw 2 (qD .i64) rfl underlying56 tf3 rfl rfl rfl rfl rfl (.inl ⟨0,_,rfl⟩) rfl rfl (fun x29 e4 a16 c16=>?_)
 refine au [0,27,15,7,20] ?_
 refine zB [x12] (fun a18 c17=>?_)
 refine au [0,27,15,7,21] ?_
 refine zw 4 (qD .i64) rfl underlying56 tf3 rfl rfl rfl rfl rfl (.inl ⟨0,_,rfl⟩) rfl rfl (fun x30 e5 a19 c19=>?_)
 refine au [0,27,15,3,22,21,23,7,24,121,29,12,3,25,21,26,7,27,121,29,12,53] ?_
 exact qa ((x29,x30),a16,c16,a19,c19)
 refine zB [x12] (fun a20 c20=>?_)
 refine au [0,27,15,7,9] ?_
 refine zw 3 (qD .i64) rfl underlying56 tf3 rfl rfl rfl rfl rfl (.inl ⟨1,_,rfl⟩) rfl rfl (fun x31 e6 a21 c21=>?_)
 refine au [0,27,15,7,21] ?_
 refine zw 4 (qD .i64) rfl underlying56 tf3 rfl rfl rfl rfl rfl (.inl ⟨1,_,rfl⟩) rfl rfl (fun x32 e7 a22 c22=>?_)
 refine au [0,27,15,3,22,21,23,7,24,121,29,12,3,25,21,26,7,27,121,29,12,53] ?_
 exact qa ((x31,x32),a21,c21,a22,c22)
 refine zB [x12] (fun a23 c23=>?_)
 refine au [0,27,15,7,8] ?_
 refine zB [x20] (fun a24 c24=>?_)
 refine au [0,27,15,7,9] ?_
 refine zw 3 (qD .i64) rfl underlying56 tf3 rfl rfl rfl rfl rfl (.inl ⟨0,_,rfl⟩) rfl rfl (fun x33 e8 a25 c25=>?_)
 refine au [0,27,15,7,21] ?_
 refine zw 4 (qD .i64) rfl underlying56 tf3 rfl rfl rfl rfl rfl (.inl ⟨2,_,rfl⟩) rfl rfl (fun x34 e9 a26 c26=>?_)
 refine au [0,27,15,3,22,21,23,7,24,121,29,12,3,25,21,26,7,27,121,29,12,53] ?_
 exact qa ((x33,x34),a25,c25,a26,c26)
 rintro ⟨⟨x27,x28⟩,a12,c11,a13,c13⟩
 try dsimp only
 refine kB mixed [12] _ _ (.cons 0 rfl (.cons 0 rfl .nil)) (qh 0 rfl (qgv 2 rfl qf)) 13 rfl ?_
 refine au [115,21,3,21,4] ?_
 refine qB 5 (.agg #[qDW x12,.slice a3 x14.length c3]) [[12]] rfl rfl rfl (kW (j:=1) rfl tf65 rfl rfl (by simp) rfl) ?_
 refine au [21,6] ?_
 refine qA 7 (.agg #[qDW x21,.slice a6 x22.length c6]) rfl rfl rfl (qy (i:=1) rfl tf65 rfl rfl (by simp) rfl) ?_
 refine au [7,8,31,1] ?_
 rintro x35 e10 ⟨a27,c27⟩
 refine au [0] ?_
 refine qc (.cons 0 rfl (.cons 0 rfl .nil)) (qh 0 rfl (qgv 2 rfl qf)) ?_
 refine au [3,9,21,10,21,11,7,12,27,14,0] ?_
 refine kZ 12 rfl (by kernel_rfl) (.cons 0 rfl (.cons 0 rfl .nil)) ?_
 refine au [53,146] ?_
 exact qk ((iadd .i64 x11 1,x35.1,x35.2,x27,x28),a27,c27,a12,c11,a13,c13)
 refine au [91] ?_
 exact qa ((x12,x14,x15,x17),a3,c3,a4,c4,a5,c5)
 rintro ⟨⟨x0,x1,x8,x9⟩,a0,c0,a1,c1,a2,c2⟩
 refine au [140,52] ?_
 exact qK ((a0,c0),(a1,c1),a2,c2)
theorem qmb {r:(Int×Int×Int×Int×Int×qDU×qDU×qDU×Int)}(hm:qb6 F p1 i1 i2 i3=some r) :
    PureM qD3 121 [.agg #[qDX l1 p1 t1],.agg #[qDW i1,qDW i2,qDW i3]] [] [] [SlN eN56 iN56 1 (qDX l1 p1 t1) p1 n1] ((qDV×Nat)×(qDV×Nat)×(qDV×Nat)×Nat) (fun g=>.tuple #[qDY g.2.2.2,qDW r.2.2.2.2.2.2.2.2]) (fun g=>[⟨g.2.2.2,169,[qDW r.1,qDW r.2.1,qDW r.2.2.1,qDW r.2.2.2.1,qDW r.2.2.2.2.1,qDX g.1.1 r.2.2.2.2.2.1 g.1.2,qDX g.2.1.1 r.2.2.2.2.2.2.1 g.2.1.2,qDX g.2.2.1.1 r.2.2.2.2.2.2.2.1 g.2.2.1.2]⟩]) (fun g=>[qD2 g.1.1 r.2.2.2.2.2.1 g.1.2,qD0 g.2.1.1 r.2.2.2.2.2.2.1 g.2.1.2,qD0 g.2.2.1.1 r.2.2.2.2.2.2.2.1 g.2.2.1.2]):=by
 refine pureMA func121 ntmps121 hm fun _=>?_
 refine au [100] ?_
 intro g7
 refine au [24,4] ?_
 intro g8
 refine au [6,97,26,0,28,7] ?_
 intro x9 e9 _
 refine au [51] ?_
 refine qj [2,3] [0,1] [] [0] (fun ((x12,_):Int×Unit)=>([(6,qDW x12)],[],[],[],j5 F p1 i1 i2 i3 x12)) ?_ ?_
 refine aw [1,5,4,25,11,0,2,13] ?_ ?_
 refine au [5,25,0,29,14] ?_
 intro x97 e97 _
 refine au [6,0] ?_
 exact qa (x97,())
 refine au [16] ?_
 exact qa (x9,())
 rintro ⟨x12,_⟩
 refine au [140,123,24,10,25,0] ?_
 refine qH [qDW (p1.length:Int),qDW i1,qDW i2,qDW i3,qDW 0,.slice none 0 0] ?_
 refine qH [qDW (p1.length:Int),qDW i1,qDW i2,qDW i3,qDW 0,.slice none 0 0,.slice none 0 0,.slice none 0 0] ?_
 refine au [24,4] ?_
 intro g13
 refine au [51] ?_
 refine qP (fun (((x48,x49,x50,x51,x52,x53,x56,x59,x62),a54,c55,a57,c58,a60,c61):(Int×Int×Int×Int×Int×Int×qDU×qDU×qDU)×qDV×Nat×qDV×Nat×qDV×Nat)=>([(6,qDW x48),(7,qDY g13)],[⟨g13,169,[qDW x49,qDW x50,qDW x51,qDW x52,qDW x53,qDX a54 x56 c55,qDX a57 x59 c58,qDX a60 x62 c61]⟩],[qD2 a54 x56 c55,qD0 a57 x59 c58,qD0 a60 x62 c61],[],vA F x48 x49 x50 x51 x52 x53 x56 x59 x62)) ?_ ?_
 refine au [54,25,11,4] ?_
 refine kX 5 [6,7] [] [] [] (fun (((x74,x75,x76,x77,x78,x79,x82,x85,x88),a80,c81,a83,c84,a86,c87):(Bool×Int×Int×Int×Int×Int×qDU×qDU×qDU)×qDV×Nat×qDV×Nat×qDV×Nat)=>([(28,.bool x74)],[⟨g13,169,[qDW x75,qDW x76,qDW x77,qDW x78,qDW x79,qDX a80 x82 c81,qDX a83 x85 c84,qDX a86 x88 c87]⟩],[qD2 a80 x82 c81,qD0 a83 x85 c84,qD0 a86 x88 c87],[],vB F x12 x74 x75 x76 x77 x78 x79 x82 x85 x88)) ?_ ?_
 refine qG (os:=_) rfl ?_
 refine av [26,8] ?_ ?_
 intro h63
 refine kH (k:=23) rfl h63 ?_
 refine au [4,26,11,29,11,26,15,26,15] ?_
 refine qt qip ?_
 rintro x90 e90 ⟨⟨a91,c92⟩,⟨a93,c94⟩,a95,c96⟩
 refine au [25,12,112] ?_
 exact qa (((!x90.1),x90.2.1,x90.2.2.1,x90.2.2.2.1,x90.2.2.2.2.1,x90.2.2.2.2.2.1,x90.2.2.2.2.2.2.1,x90.2.2.2.2.2.2.2.1,x90.2.2.2.2.2.2.2.2),a91,c92,a93,c94,a95,c96)
 intro h63
 refine kG (k:=23) rfl h63 ?_
 refine au [88,111,26,5,25,13,25,13] ?_
 exact qa ((false,(p1.length:Int),i1,i2,i3,(0:Int),([]:qDU),([]:qDU),([]:qDU)),none,0,none,0,none,0)
 rintro ⟨⟨x74,x75,x76,x77,x78,x79,x82,x85,x88⟩,a80,c81,a83,c84,a86,c87⟩
 try dsimp only
 refine qG (os:=_) rfl ?_
 refine aw [0,2,13] ?_ ?_
 refine au [5,6,0] ?_
 exact qa (((8:Int),x75,x76,x77,x78,x79,x82,x85,x88),a80,c81,a83,c84,a86,c87)
 refine au [16] ?_
 exact qa ((x12,x75,x76,x77,x78,x79,x82,x85,x88),a80,c81,a83,c84,a86,c87)
 rintro ⟨⟨x48,x49,x50,x51,x52,x53,x56,x59,x62⟩,a54,c55,a57,c58,a60,c61⟩
 refine au [120,4,6,52] ?_
 exact qK ((a54,c55),(a57,c58),(a60,c61),g13)
theorem qnu {r:(Int×Int×Int×Int×Int×qDU×Int)}(hm:qbS F p1 i1 i2 i3=some r) :
    Pure qD3 87 [.agg #[qDX l1 p1 t1],.agg #[qDW i1,qDW i2,qDW i3]] [SlN eN56 iN56 1 (qDX l1 p1 t1) p1 n1] (qDV×Nat) (fun g=>.tuple #[.agg #[qDW r.1,qDW r.2.1,qDW r.2.2.1,qDW r.2.2.2.1,qDW r.2.2.2.2.1,qDX g.1 r.2.2.2.2.2.1 g.2],qDW r.2.2.2.2.2.2]) (fun g=>[qD2 g.1 r.2.2.2.2.2.1 g.2]) (fun _=>[]):=by
 refine pureA func87 ntmps87 hm fun _=>?_
 refine au [100] ?_
 intro g7
 refine au [24,4] ?_
 intro g8
 refine au [19] ?_
 intro g9
 refine au [97,26,11,26,0,35,10] ?_
 rintro x10 e10 ⟨⟨a11,c12⟩,⟨a13,c14⟩,⟨a15,c16⟩,g17⟩
 refine aw [4,24,1,24,1,6,6,0,2,1,1,5,4,25,8,0,2,13] ?_ ?_
 refine au [48] ?_
 refine qH [qDW 0,qDW 0,qDW 0,qDW 0,qDW 0,.slice none 0 0] ?_
 exact az [4,25,10,75,26,5,32,6]
 refine au [69,54,85,25,0,25,10,52] ?_
 exact kp (a11,c12) 1
theorem qiO (F g1:Nat)(x2:List (qDU))(a3:qDV)(c4:(Nat×List (qDV×Nat)))(x5 x6 x7:Int)(x8:qDU)(a9:qDV)(c10:Nat)(x11:qDU)(r:(Int×qDU))(hm:qfG F x2 x5 x6 x7 x8 x11=some r) :
    PureM qD3 62 [qDY g1] [⟨g1,85,[qDX a3 x2 c4.1,qDW x5,qDW x6,qDW x7,qDX a9 x8 c10,.string (bstr x11)]⟩] [] [SlN eN56 iN56 1 (qDX a3 x2 c4.1) x2 c4.2,qDZ a9 x8 c10,GF] Unit (fun _=>qDW r.1) (fun _=>[⟨g1,85,[qDX a3 x2 c4.1,qDW x5,qDW x6,qDW x7,qDX a9 x8 c10,.string (bstr r.2)]⟩]) (fun _=>[]):=by
 refine pureMA func62 ntmps62 hm fun _=>?_
 refine au [80,51] ?_
 refine qj [0] [0] [] [0,1,2] (fun (((x21,x22,x23,x24,x25,x26,x29),g20,a27,c28):(Int×Int×Int×Int×Int×Int×qDU)×Nat×qDV×Nat)=>([(3,qDY g20),(4,qDW x21)],[⟨g20,67,[qDW x22,qDW x23,qDW x24,qDW x25,qDW x26,qDX a27 x29 c28]⟩],[qD2 a27 x29 c28],[],qed F x21 x22 x23 x24 x25 x26 x29)) ?_ ?_
 refine au [35,11,89,21,2,21,3] ?_
 refine qA 4 (.agg #[.slice a3 x2.length c4.1]) rfl rfl rfl (qy (i:=0) rfl tf24 rfl rfl (by simp) rfl) ?_
 refine au [3,5,3,6,21,7,21,8] ?_
 refine qA 9 (.agg #[qDW x5,qDW x6,qDW x7]) rfl rfl rfl (qy (i:=0) rfl tf26 rfl rfl (by simp) rfl) (qg 10 14 rfl rfl (by kernel_rfl) rfl rfl ?_ ?_)
 refine au [31,3] ?_
 rintro x31 e31 ⟨a32,c33⟩
 refine au [0,35,12,127,3,13,7,14,19] ?_
 intro g34
 refine au [0,28,3,7,15,17,0,28,3,3,16,53] ?_
 exact qa ((x31.2.2.2.2.2.2,x31.1,x31.2.1,x31.2.2.1,x31.2.2.2.1,x31.2.2.2.2.1,x31.2.2.2.2.2.1),g34,a32,c33)
 refine au [19] ?_
 intro g35
 refine au [0,28,3,7,10,31,3] ?_
 rintro x36 e36 ⟨a37,c38⟩
 refine au [0,28,3,127,3,13,7,15,17,0,28,3,3,16,53] ?_
 exact qa ((x36.2.2.2.2.2.2,x36.1,x36.2.1,x36.2.2.1,x36.2.2.2.1,x36.2.2.2.2.1,x36.2.2.2.2.2.1),g35,a37,c38)
 rintro ⟨⟨x21,x22,x23,x24,x25,x26,x29⟩,g20,a27,c28⟩
 refine au [120,12,123] ?_
 refine vd EnC.e rfl rfl rfl (fun x30 e30=>qfD x26 x30 e30) (.consF 2 rfl .nil) (fun x30 e30 _=>?_)
 exact az [85,132,54,117]
theorem qo5 {r:(qDU×qDU×Int)}(hm:qeg F p1 i1 i2 i3=some r) :
    Pure qD3 165 [.agg #[qDX l1 p1 t1],.agg #[qDW i1,qDW i2,qDW i3]] [SlN eN56 iN56 1 (qDX l1 p1 t1) p1 n1] ((qDV×Nat)×qDV×Nat) (fun g=>.tuple #[qDX g.1.1 r.1 g.1.2,qDX g.2.1 r.2.1 g.2.2,qDW r.2.2]) (fun g=>[qD0 g.1.1 r.1 g.1.2,qD0 g.2.1 r.2.1 g.2.2]) (fun _=>[]):=by
 refine pureA func165 ntmps165 hm fun _=>?_
 refine au [100] ?_
 intro g7
 refine au [24,4] ?_
 intro g8
 refine au [6,6,97,26,0,25,0,35,10] ?_
 rintro x9 e9 ⟨⟨a10,c11⟩,⟨a12,c13⟩,⟨a14,c15⟩,g16⟩
 refine aw [4,24,1,24,1,6,6,0,2,1,1,5,4,25,8,0,2,13] ?_ ?_
 refine au [54,6,6,105,25,13] ?_
 exact qx ((none,0),none,0)
 refine au [135] ?_
 refine qJ [] [0,0,0] [0] 11 ?_
 refine au [89,21,2,25,4,3,3,4,3,5,21,6,25,4,7,3,8,141,53,2,11] ?_
 exact qx ((a12,c13),a14,c15)
theorem qno (hm:qcP F m1 i1=some i2) :
    qD4 193 [qDX l1 m1 t1,qDW i1] [qDZ l1 m1 t1] (qDW i2):=by
 refine pureA func193 ntmps193 hm fun _=>?_
 refine au [61,129,122,143] ?_
 refine q6 3 11 14 [0,1] (decide (1048576<i1)) ?_ ?_ ?_
 exact az [79,71]
 exact az [4,109]
 refine aw [6,0,2,13] ?_ ?_
 exact az [48,52,119]
 refine aw [1,5,4,24,10,25,6,6,0,2,13] ?_ ?_
 exact az [48,52,119]
 refine au [16,82,48,51] ?_
 refine qP (fun ((_,_):Unit×Unit)=>([],[],[],[],qg7 F)) ?_ ?_
 refine au [114] ?_
 refine qp [1,19,20] [] [] [0] (fun (((x92,x93),_):(Int×Int)×Unit)=>([(5,qDW x92),(21,qDW x93)],[],[],[])) ((0:Int),(0:Int)) () ?_
 intro k0
 rintro ⟨⟨x92,x93⟩,_⟩
 refine aw [39,1,5,24,6,0,2,1,13] ?_ ?_
 refine au [136,26,7] ?_
 intro x0 e0 b0 o0
 refine au [25,7,129,122,143] ?_
 refine q6 4 28 32 [1,5,19,20,21,7] (decide (i1<x0)) ?_ ?_ ?_
 exact az [79,9,71]
 exact az [4,4,109]
 refine aw [6,0,2,13] ?_ ?_
 exact az [48,52,60,125,119]
 refine aw [1,5,4,4,24,6,6,0,2,13] ?_ ?_
 exact az [48,52,60,125,119]
 refine au [16,82,5,4,6,0,146] ?_
 exact qk ((x0,iadd .i64 x93 1),())
 exact az [130]
 rintro ⟨_,_⟩
 exact az [140,90]
theorem qnp (hm:qcU F i1 i2=some i3) :
    qD4 234 [qDW i1,qDW i2] [] (qDW i3):=by
 refine pureA func234 ntmps234 hm fun _=>?_
 refine au [61,51] ?_
 refine qP (fun ((x35,_):Int×Unit)=>([(4,qDW x35)],[],[],[],qg8 F x35)) ?_ ?_
 refine au [20] ?_
 refine qp [0,1] [] [] [] (fun ((x46,_):Int×Unit)=>([(4,qDW x46)],[],[],[])) (0:Int) () ?_
 intro k57
 rintro ⟨x46,_⟩
 refine au [39,1,54,25,6,4] ?_
 refine kX 8 [0,1,4] [] [] [] (fun ((x65,_):Bool×Unit)=>([(15,.bool x65)],[],[],[],j4 F (qbP F i1 i2 k57) x46 x65)) ?_ ?_
 refine qG (os:=_) rfl ?_
 refine av [26,8] ?_ ?_
 intro h63
 refine kH (k:=7) rfl h63 ?_
 refine au [4,124,27,0] ?_
 intro h67
 refine qhY rfl rfl rfl rfl h67 ?_
 refine au [124,28,10,112] ?_
 exact qa ((decide ((ishl .i64 i1 (iadd .i64 x46 1))≤(iadd .i64 i2 1))),())
 intro h63
 refine kG (k:=7) rfl h63 ?_
 refine au [88,79,9,111] ?_
 exact qa (false,())
 rintro ⟨x65,_⟩
 try dsimp only
 refine qG (os:=_) rfl ?_
 refine aw [0,2,13] ?_ ?_
 refine au [69,20,5,124,6,0,24,7] ?_
 exact qk (iadd .i64 x46 1,())
 refine au [91] ?_
 exact qa (x46,())
 rintro ⟨x35,_⟩
 exact az [120,90]
theorem qil {r:(Int×qDU×Int)}(hm:vI F i1 m1 i2 i3=some r) :
    PureM qD3 236 [qDY t1,qDW i3] [⟨t1,302,[qDW i1,qDX l1 m1 t2,qDW i2]⟩] [qD2 l1 m1 t2] [] (qDV×Nat) (fun _=>.tuple #[]) (fun g=>[⟨t1,302,[qDW r.1,qDX g.1 r.2.1 g.2,qDW r.2.2]⟩]) (fun g=>[qD2 g.1 r.2.1 g.2]):=by
 refine pureMA func236 ntmps236 hm fun _=>?_
 refine au [24,14,20] ?_
 refine qp [0,1] [] [] [] (fun (((x16,x19,x20),a17,c18):(Int×qDU×Int)×qDV×Nat)=>([],[⟨t1,302,[qDW x16,qDX a17 x19 c18,qDW x20]⟩],[qD2 a17 x19 c18],[])) (i1,m1,i2) (l1,t2) ?_
 intro k29
 rintro ⟨⟨x16,x19,x20⟩,a17,c18⟩
 refine aw [39,1,1,5,4,24,15,12,24,0,4,24,6,0,2,13] ?_ ?_
 refine au [135,20,5,4,4,85,25,0,29,3] ?_
 rintro x34 e34 ⟨a35,c36⟩
 refine au [85,17,0,82,5,4,94,24,2,85,17,0] ?_
 exact qk ((x34.1,x34.2,iadd .i64 x20 1),a35,c36)
 refine au [91] ?_
 exact qK (a17,c18)
theorem qqz {r:(Int×Int×Int×Int×qDU×Int×qDU×Bool)}(hm:qfj F m1 i1=some r) :
    Pure qD3 194 [qDX l1 m1 t1,qDW i1] [qDZ l1 m1 t1] ((qDV×Nat)×qDV×Nat) (fun g=>.tuple #[.agg #[qDW r.1,qDW r.2.1,qDW r.2.2.1,qDW r.2.2.2.1,qDX g.1.1 r.2.2.2.2.1 g.1.2,qDW r.2.2.2.2.2.1,qDX g.2.1 r.2.2.2.2.2.2.1 g.2.2],.bool r.2.2.2.2.2.2.2]) (fun g=>[qD2 g.1.1 r.2.2.2.2.1 g.1.2,qD2 g.2.1 r.2.2.2.2.2.2.1 g.2.2]) (fun _=>[]):=by
 refine pureA func194 ntmps194 hm fun _=>?_
 refine au [61,19] ?_
 intro g5
 refine au [76,86,4,86,35,13] ?_
 intro x6 e6 _
 refine qH [qDW (m1.length:Int),qDW i1,qDW x6,qDW 0,.slice none 0 0,qDW 0,.slice none 0 0] ?_
 refine au [19] ?_
 intro g7
 refine au [132,54,57,27,0] ?_
 intro h8
 refine qjw rfl rfl rfl rfl h8 ?_
 refine au [24,2,129,48,57,57,28,0,25,6,4] ?_
 refine q6 6 30 36 [0,4,6,7] (decide (8192<(iadd .i64 (m1.length:Int) (iadd .i64 (ishr .i64 i1 x6) 1)))) ?_ ?_ ?_
 exact az [88,9,71]
 exact az [57,124,109]
 refine aw [0,2,13] ?_ ?_
 refine au [48] ?_
 refine qH [qDW 0,qDW 0,qDW 0,qDW 0,.slice none 0 0,qDW 0,.slice none 0 0] ?_
 exact az [25,10,75,138,35,14]
 refine au [131] ?_
 refine qH [qDW 0,.slice none 0 0,qDW 0] ?_
 refine au [24,4] ?_
 intro g12
 refine au [51] ?_
 refine qj [4,6,7,8] [2] [] [] (fun (((x0,x2,x3,x5,x7),a0,c0,a1,c1):(Int×qDU×Int×Int×qDU)×qDV×Nat×qDV×Nat)=>([],[⟨g12,302,[qDW x0,qDX a0 x2 c0,qDW x3]⟩,⟨g7,69,[qDW (m1.length:Int),qDW i1,qDW x6,qDW x5,qDX a1 x7 c1,qDW 0,.slice none 0 0]⟩],[qD2 a0 x2 c0,qD2 a1 x7 c1],[],qf4 F m1 i1 x6 x0 x2 x3 x5 x7)) ?_ ?_
 refine au [114,31,2,31,2] ?_
 refine qp [4,6,7,8,40,41] [2] [] [0] (fun (((x8,x9,x10,x11,x12,x13),a3,c2,a4,c4):(Int×Int×qDU×Int×Int×qDU)×qDV×Nat×qDV×Nat)=>([(42,qDW x8)],[⟨g12,302,[qDW x9,qDX a3 x10 c2,qDW x11]⟩,⟨g7,69,[qDW (m1.length:Int),qDW i1,qDW x6,qDW x12,qDX a4 x13 c4,qDW 0,.slice none 0 0]⟩],[qD2 a3 x10 c2,qD2 a4 x13 c4],[])) ((0:Int),(0:Int),([]:qDU),(0:Int),(0:Int),([]:qDU)) (none,0,none,0) ?_
 intro k0
 rintro ⟨⟨x8,x9,x10,x11,x12,x13⟩,a3,c2,a4,c4⟩
 refine aw [39,1,5,24,6,0,2,1,13] ?_ ?_
 refine au [136,26,7] ?_
 intro x14 e0 b0 o0
 refine au [25,7,129,28,11] ?_
 intro h0
 refine kB mixed [13] _ _ (.cons 0 rfl (.cons 0 rfl .nil)) (qh 0 rfl (qh 1 rfl (qgv 2 rfl qf))) 14 rfl ?_
 refine au [21,0] ?_
 refine qB 1 (.agg #[qDW x12,.slice a4 x13.length c4]) [[13]] rfl rfl rfl (kW (j:=2) rfl tf65 rfl rfl (by simp) rfl) ?_
 refine au [3,2,21,3] ?_
 refine qB 4 (qDW x6) [[13]] rfl rfl rfl (kW (j:=2) rfl tf3 rfl rfl (fun _=>rfl) rfl) (qb 5 (qDW (ishl .i64 1 x6)) rfl rfl rfl (qiL rfl rfl h0) ?_)
 refine au [87,34,3,8,21,9] ?_
 refine qB 10 (qDW x6) [[13]] rfl rfl rfl (kW (j:=2) rfl tf3 rfl rfl (fun _=>rfl) rfl) ?_
 refine au [7,11,29,3] ?_
 rintro x15 e1 ⟨a5,c5⟩
 refine au [0] ?_
 refine qc (.cons 0 rfl (.cons 0 rfl .nil)) (qh 0 rfl (qh 1 rfl (qgv 2 rfl qf))) ?_
 refine au [21,12,7,13,27,14,0] ?_
 refine kZ 13 rfl (by kernel_rfl) (.cons 0 rfl (.cons 0 rfl .nil)) ?_
 refine au [53,2,54,4,133,27,0] ?_
 intro h1
 refine qjw rfl rfl rfl rfl h1 ?_
 refine au [35,15] ?_
 rintro x16 e2 ⟨a6,c6⟩
 refine au [50,5,4,4,85,25,0,29,3] ?_
 rintro x17 e3 ⟨a7,c7⟩
 refine au [85,17,0,146] ?_
 exact qk ((iadd .i64 x8 1,x17.1,x17.2,x16.2.2,x15.1,x15.2),a7,c7,a5,c5)
 refine au [91] ?_
 exact qa ((x9,x10,x11,x12,x13),a3,c2,a4,c4)
 rintro ⟨⟨x0,x2,x3,x5,x7⟩,a0,c0,a1,c1⟩
 refine au [120,4,35,15] ?_
 rintro x18 e4 ⟨a8,c8⟩
 refine au [50,54,85,25,0,12,27,14,50,48,26,11,25,10,52] ?_
 exact kp ((a1,c1),a8,c8) 1
theorem qnn {r:(Int×Int×Int×Int×qDU×Int×qDU×Int)}(hm:qcO F m1 i1=some r) :
    Pure qD3 166 [qDX l1 m1 t1,qDW i1] [qDZ l1 m1 t1] ((qDV×Nat)×qDV×Nat) (fun g=>.tuple #[.agg #[qDW r.1,qDW r.2.1,qDW r.2.2.1,qDW r.2.2.2.1,qDX g.1.1 r.2.2.2.2.1 g.1.2,qDW r.2.2.2.2.2.1,qDX g.2.1 r.2.2.2.2.2.2.1 g.2.2],qDW r.2.2.2.2.2.2.2]) (fun g=>[qD2 g.1.1 r.2.2.2.2.1 g.1.2,qD2 g.2.1 r.2.2.2.2.2.2.1 g.2.2]) (fun _=>[]):=by
 refine pureA func166 ntmps166 hm fun _=>?_
 refine au [61,19] ?_
 intro g5
 refine au [129,54,4,36,0] ?_
 intro x8 e8 _
 refine aw [6,0,2,1,5,4,25,8,0,2,13] ?_ ?_
 refine au [48] ?_
 refine qH [qDW 0,qDW 0,qDW 0,qDW 0,.slice none 0 0,qDW 0,.slice none 0 0] ?_
 refine au [4,17,75,138] ?_
 exact kp ((none,0),none,0) 0
 refine au [69,54,4,36,1] ?_
 rintro x9 e9 ⟨⟨a10,c11⟩,a12,c13⟩
 refine au [4,64,19] ?_
 intro g14
 refine aw [17,6,0,2,1,1,5,4,25,12,0,2,13] ?_ ?_
 refine au [48] ?_
 refine qH [qDW 0,qDW 0,qDW 0,qDW 0,.slice none 0 0,qDW 0,.slice none 0 0] ?_
 exact az [25,10,75,138,35,14]
 refine au [69,106,25,10,52] ?_
 exact kp ((a10,c11),a12,c13) 1
end Go.Proofs.YthibchijlpflmaaGreatDoor
