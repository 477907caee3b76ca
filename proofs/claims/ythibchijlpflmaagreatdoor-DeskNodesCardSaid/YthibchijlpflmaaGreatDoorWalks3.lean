/- Each Go function of this seat computes what its model says, part 3. -/
import Derived.Test.YthibchijlpflmaaGreatDoorWalks2
namespace Go.Proofs.YthibchijlpflmaaGreatDoor
open Go SX
open Go.Proofs.Tryz
open Go.Proofs.Tryz renaming prog→qD9
set_option maxHeartbeats 4000000
set_option linter.unusedSimpArgs false
variable {F t1 t2 t3 t4 t5:Nat}{i1 i2 i3 i4 i5:Int}{m1 m2 m3:qD0}{l1 l2 l3 l4:qD1}{d1 d2:Bool}{w1:List (Int×Int)}{p1:List (qD0)}{n1:List (qD1×Nat)}
theorem qtf (hm:qaY F i1 m1 i2=some i3) :
    qEa 248 [.agg #[qD2 i1,qD3 l1 m1 t1],qD2 i2] [qD7 l1 m1 t1] (.int .u64 i3):=by
 refine pureA func248 ntmps248 hm fun _=>?_
 refine au [79] ?_
 intro g6
 refine au [83,67,3,31,2] ?_
 refine vL (j:=0) (qA .u8) (by decide) rfl UnF.u inferInstance rfl rfl rfl rfl ?_
 intro x7 e7 b8 o9
 refine au [25,3,3,32,0,25,9,26,12] ?_
 intro h10
 refine qjn rfl rfl rfl rfl h10 ?_
 refine au [25,10,28,15,5,27,0] ?_
 intro x11 e11
 refine jQ 4 e11 ?_
 exact az [46,8,24,5]
theorem qkh (F:Nat){σ τ:Type}{J:Rounds σ τ}{yy:σ→Int→Option (σ ⊕ τ)}{L:Nat}(hY:YieldC qD9 L (fun (p:Int)=>[.int .u64 p]) J yy)(s0:σ)(gs0:J.γ)(g1:Nat)(x2:Int)(g3:Nat)(x4:Int)(g5:Nat)(x6:Int)(x7:qD0)(a8:qD1)(c9:Nat)(r:σ ⊕ τ)(hm:qef F yy x2 x4 x6 x7 s0=some r) :
    PureM qD9 261 ([.func (.yield L) #[] #[],qD4 g1,qD4 g3,qD4 g5]) ([⟨g1,3,[qD2 x2]⟩,⟨g3,3,[qD2 x4]⟩,⟨g5,65,[qD2 x6,qD3 a8 x7 c9]⟩]++J.IB s0 gs0) (J.IR s0 gs0) [J.F,qD7 a8 x7 c9] (J.G r) (fun _=>.tuple #[]) (fun g=>[⟨g1,3,[qD2 x2]⟩,⟨g3,3,[qD2 x4]⟩,⟨g5,65,[qD2 x6,qD3 a8 x7 c9]⟩]++J.bs r g) (fun g=>J.rs r g):=by
 refine pureMA func261 ntmps261 hm fun _=>?_
 refine au [28,12,45,20,47,14] ?_
 refine vy (fun (((x22,x23),g24):(Int×σ)×J.γ)=>[(0,.func (.yield L) #[] #[]),(2,qD4 g3),(3,qD4 g5),(5,qD2 x22)]) (fun (((x22,x23),g24):(Int×σ)×J.γ)=>[⟨g1,3,[qD2 x2]⟩,⟨g3,3,[qD2 x4]⟩,⟨g5,65,[qD2 x6,qD3 a8 x7 c9]⟩]++J.IB x23 g24) (fun (((x22,x23),g24):(Int×σ)×J.γ)=>[]++J.IR x23 g24) (fun (((x22,x23),g24):(Int×σ)×J.γ)=>[qD7 a8 x7 c9,J.F]) (fun k (s:(Int×σ)×J.γ)=>yL F yy x4 x6 x7 k s.1) ((x2,s0),gs0) F ?_ (hB:=(.cons 0 rfl (.cons 0 rfl (.cons 0 rfl (qe 0 rfl))))) (hR:=(qe 0 rfl)) (hF:=(qi 1 rfl (qi 0 rfl zB)))
 intro k37
 rintro ⟨⟨x22,x23⟩,g24⟩
 try dsimp only
 refine qaJ (m':=qam F yy x4 x6 x7 (yL F yy x4 x6 x7 k37) x22 x23) rfl ?_
 refine aw [1,1,4,3,25,12,24,4,0,2,11] ?_ ?_
 refine au [85,48,26,9,3,29,12] ?_
 intro x44 e44 _
 refine qeT hY x23 x44 g24 (B1:=[⟨g1,3,[qD2 x2]⟩,⟨g3,3,[qD2 x4]⟩,⟨g5,65,[qD2 x6,qD3 a8 x7 c9]⟩]) (R1:=[]) (j:=1) rfl rfl rfl rfl rfl rfl rfl (fun x45 _ g47=>?_) (fun x46 _ g47=>?_)
 refine au [25,7,46] ?_
 refine k8 (b:=false) rfl (fun h=>by cases h) (fun _=>?_)
 refine au [12,65,4,3,23,5,0] ?_
 exact vn ((iadd .i64 x22 1,x45),g47) (hB:=(.cons 0 rfl (.cons 0 rfl (.cons 0 rfl (qe 0 rfl))))) (hR:=(qe 0 rfl)) (hF:=(qi 0 rfl (qi 1 rfl zB)))
 refine au [25,7,46] ?_
 refine k8 (b:=true) rfl (fun _=>?_) (fun h=>by cases h)
 refine au [8,111,24,6] ?_
 exact v8 (B0:=[⟨g1,3,[qD2 x2]⟩,⟨g3,3,[qD2 x4]⟩,⟨g5,65,[qD2 x6,qD3 a8 x7 c9]⟩]) (x:=.inr x46) g47 (.inl rfl) (res0 rfl) (.cons 0 rfl (.cons 0 rfl (.cons 0 rfl (qe 0 rfl)))) (qe 0 rfl)
 refine au [72] ?_
 exact v8 (B0:=[⟨g1,3,[qD2 x2]⟩,⟨g3,3,[qD2 x4]⟩,⟨g5,65,[qD2 x6,qD3 a8 x7 c9]⟩]) (x:=.inl x23) g24 (.inr rfl) (res0 rfl) (.cons 0 rfl (.cons 0 rfl (.cons 0 rfl (qe 0 rfl)))) (qe 0 rfl)
theorem qoH {r:(Int×qD0)}(hm:qae F i1 m1 i2 m2=some r) :
    PureM qD9 192 [.agg #[qD2 i1,qD3 l1 m1 t1],.agg #[qD2 i2,qD3 l2 m2 t2]] [] [] [qD7 l1 m1 t1,qD7 l2 m2 t2] (qD1×Nat) (fun g=>.agg #[qD2 r.1,qD3 g.1 r.2 g.2]) (fun _=>[]) (fun g=>[qD8 g.1 r.2 g.2]):=by
 refine qdg func192 rfl ntmps192 rfl hm (fun w=>?_)
 refine au [79] ?_
 intro g9
 refine au [24,0] ?_
 intro g10
 refine au [24,2] ?_
 intro g11
 refine au [46,45,26,9,34,5] ?_
 rintro x12 e12 ⟨⟨a13,c14⟩,g15⟩
 refine au [24,2] ?_
 intro g16
 refine au [17,46,1,45,32,1,10,29,3] ?_
 refine qs qlX ?_
 rintro x37 e37 ⟨g38,g39,g40⟩
 refine au [75] ?_
 refine qbU (encs:=(fun (p:Int)=>[.int .u64 p])) (y:=(fun ((x45,x48):(Int×qD0)) (x53:Int)=>qcE F x45 x48 x53)) (lb:=[qD4 g38,qD4 g39,qD4 g40]) (fun ((x45,x48):(Int×qD0)) ((a46,c47):qD1×Nat)=>[⟨g16,293,[qD4 g15]⟩,⟨g15,299,[qD2 x45,qD3 a46 x48 c47]⟩,⟨g11,65,[qD2 0,.slice none 0 0]⟩,⟨g10,65,[qD2 i2,qD3 l2 m2 t2]⟩,⟨g9,65,[qD2 i1,qD3 l1 m1 t1]⟩]) (fun ((x45,x48):(Int×qD0)) ((a46,c47):qD1×Nat)=>[qD8 a46 x48 c47]) (fun (_:Empty) (_:Unit)=>[]) (fun (_:Empty) (_:Unit)=>[]) (fun _=>.skip) (x12.1,x12.2) (a13,c14) rfl EnC.e (fun _=>rfl) rfl (.cons 0 rfl (.cons 0 rfl (.cons 0 rfl .nil))) (.cons 0 rfl (.cons 0 rfl (.cons 0 rfl (.cons 0 rfl (.cons 0 rfl .nil))))) (.cons 0 rfl .nil) (.consF 1 rfl .nil) (fun z hz _ _ _ hY=>qkh F hY (x12.1,x12.2) (a13,c14) g38 0 g39 i2 g40 i2 m2 l2 t2 z hz) ?_ ?_ ?_
 rintro rc1 L1 D1 ⟨x45,x48⟩ ⟨a46,c47⟩ x53 z w M _
 try dsimp only
 refine qdk [(0,.agg #[qD2 i1,qD3 l1 m1 t1]),(1,.agg #[qD2 i2,qD3 l2 m2 t2]),(2,qD4 g9),(3,qD4 g10),(4,qD4 g11),(5,qD4 g16),(7,.agg #[qD2 i1,qD3 l1 m1 t1]),(8,qD4 g15),(9,.agg #[qD2 i2,qD3 l2 m2 t2]),(10,qD4 g10),(11,qD2 i2),(12,.func (.func 261) #[] #[qD4 g38,qD4 g39,qD4 g40]),(13,.int .u64 x53)] (qk rfl (qk rfl (qk rfl (qk rfl (qk rfl (qk rfl (qk rfl (qk rfl (qk rfl (qk rfl (qk rfl (qk rfl (qk rfl qdB))))))))))))) ?_
 refine au [4,5,0] ?_
 refine qhM (i:=5) rfl ?_
 refine au [14,4,20,3,34,6] ?_
 rintro x54 e54 ⟨a55,c56⟩
 refine au [121] ?_
 exact vk (rc:=rc1) rfl (.cons 5 rfl .nil) rfl (a55,c56) (.cons 2 rfl (.cons 1 rfl (.cons 1 rfl (.cons 1 rfl (.cons 1 rfl (.cons 0 rfl (.cons 0 rfl .nil))))))) (.cons 0 rfl .nil)
 rintro ⟨x45,x48⟩ _ ⟨a46,c47⟩ D1
 refine au [39,65,45,34,7,51] ?_
 refine zO (i:=5) rfl rfl inferInstance rfl rfl (by simp) rfl rfl ?_
 refine au [27,3,46,8] ?_
 exact ja [D1] (a46,c47) (.inl rfl) rfl (.cons 0 rfl .nil) (resL (rs:=[.cell 4 65]) rfl (.cell (i:=5) rfl tf65 rfl rfl (by simp) rfl ResOk.nil) rfl) (fun h=>by subst h;rfl) (fun h=>by subst h;exact .nil) (fun h=>by subst h;exact (.cons 0 rfl .nil))
 intro t;exact t.elim
theorem qg5 {r:(Int×qD0)}(hm:jh F i1 m1 i2 i3=some r) :
    PureM qD9 262 [qD4 t1,.int .u64 i2,qD2 i3] [⟨t1,299,[qD2 i1,qD3 l1 m1 t2]⟩] [qD8 l1 m1 t2] [] (qD1×Nat) (fun _=>.tuple #[]) (fun g=>[⟨t1,299,[qD2 r.1,qD3 g.1 r.2 g.2]⟩]) (fun g=>[qD8 g.1 r.2 g.2]):=by
 refine pureMA func262 ntmps262 hm fun _=>?_
 refine au [26,8,48,25,9,47,14] ?_
 refine qm [0,1] [] [] [] (fun (((x18,x19,x22),a20,c21):(Int×Int×qD0)×qD1×Nat)=>([(6,qD2 x18)],[⟨t1,299,[qD2 x19,qD3 a20 x22 c21]⟩],[qD8 a20 x22 c21],[])) (isub .i64 i3 1,i1,m1) (l1,t2) ?_
 intro k33
 rintro ⟨⟨x18,x19,x22⟩,a20,c21⟩
 refine aw [39,1,1,4,3,26,6,0,2,11] ?_ ?_
 refine au [85,4,91,3,26,12] ?_
 intro h39
 refine qjn rfl rfl rfl rfl h39 ?_
 refine au [28,15,34,6] ?_
 rintro x40 e40 ⟨a41,c42⟩
 refine au [0,65,4,3,25,9,5,0] ?_
 exact qj ((isub .i64 x18 1,x40.1,x40.2),a41,c42)
 refine au [72] ?_
 exact qH (a20,c21)
theorem qqh {r:(Int×qD0)}(hm:vA F i1 m1 i2 i3=some r) :
    Pure qD9 235 [.agg #[qD2 i1,qD3 l1 m1 t1],.int .u64 i2,qD2 i3] [qD7 l1 m1 t1] (qD1×Nat) (fun g=>.agg #[qD2 r.1,qD3 g.1 r.2 g.2]) (fun g=>[qD8 g.1 r.2 g.2]) (fun _=>[]):=by
 refine pureA func235 ntmps235 hm fun _=>?_
 refine au [126] ?_
 intro g7
 refine au [24,2] ?_
 intro g8
 refine au [46,107,34,5] ?_
 rintro x9 e9 ⟨⟨a10,c11⟩,g12⟩
 refine au [60,91] ?_
 refine qs qg5 ?_
 rintro x13 e13 ⟨a14,c15⟩
 refine au [117,51,24,12,25,5,46,8] ?_
 exact qdE (a14,c15) 1
theorem qiM (hm:ve F i1=some i2) :
    qEa 148 [.int .u64 i1] [] (qD2 i2):=by
 refine pureA func148 ntmps148 hm fun _=>?_
 refine au [64,47] ?_
 refine qL (fun (((x3,x4),_):(Int×Int)×Unit)=>([(0,.int .u64 x3),(2,qD2 x4)],[],[],[],yU F x3 x4)) ?_ ?_
 refine aw [1,4,3,26,6,0,2,11] ?_ ?_
 refine au [48,27,7,47,4,5,0] ?_
 exact qa ((ishr .u64 i1 32,(32:Int)),())
 refine au [12] ?_
 exact qa ((i1,(0:Int)),())
 rintro ⟨⟨x3,x4⟩,_⟩
 try dsimp only
 refine qL (fun (((x6,x7),_):(Int×Int)×Unit)=>([(0,.int .u64 x6),(2,qD2 x7)],[],[],[],yV F x6 x7)) ?_ ?_
 refine aw [1,4,3,26,6,0,2,11] ?_ ?_
 refine au [48,27,7,47,4,3,23,5,0] ?_
 exact qa ((ishr .u64 x3 16,iadd .i64 x4 16),())
 refine au [12] ?_
 exact qa ((x3,x4),())
 rintro ⟨⟨x6,x7⟩,_⟩
 try dsimp only
 refine qL (fun (((x9,x10),_):(Int×Int)×Unit)=>([(0,.int .u64 x9),(2,qD2 x10)],[],[],[],yW F x9 x10)) ?_ ?_
 refine aw [1,4,3,26,6,0,2,11] ?_ ?_
 refine au [48,27,7,47,4,3,23,5,0] ?_
 exact qa ((ishr .u64 x6 8,iadd .i64 x7 8),())
 refine au [12] ?_
 exact qa ((x6,x7),())
 rintro ⟨⟨x9,x10⟩,_⟩
 refine au [92,3,25,10] ?_
 refine qro (xs:=([0,1,2,2,3,3,3,3,4,4,4,4,4,4,4,4,5,5,5,5,5,5,5,5,5,5,5,5,5,5,5,5,6,6,6,6,6,6,6,6,6,6,6,6,6,6,6,6,6,6,6,6,6,6,6,6,6,6,6,6,6,6,6,6,7,7,7,7,7,7,7,7,7,7,7,7,7,7,7,7,7,7,7,7,7,7,7,7,7,7,7,7,7,7,7,7,7,7,7,7,7,7,7,7,7,7,7,7,7,7,7,7,7,7,7,7,7,7,7,7,7,7,7,7,7,7,7,7,8,8,8,8,8,8,8,8,8,8,8,8,8,8,8,8,8,8,8,8,8,8,8,8,8,8,8,8,8,8,8,8,8,8,8,8,8,8,8,8,8,8,8,8,8,8,8,8,8,8,8,8,8,8,8,8,8,8,8,8,8,8,8,8,8,8,8,8,8,8,8,8,8,8,8,8,8,8,8,8,8,8,8,8,8,8,8,8,8,8,8,8,8,8,8,8,8,8,8,8,8,8,8,8,8,8,8,8,8,8,8,8,8,8,8,8,8,8,8,8,8,8,8,8,8,8,8,8]:qD0)) rfl UnF.u rfl rfl (by kernel_rfl) rfl ?_
 intro x11 e11
 exact az [25,10,23,71]
theorem qnd (hm:qeD F i1=some i2) :
    qEa 284 [.int .u64 i1] [] (qD2 i2):=by
 refine pureA func284 ntmps284 hm fun _=>?_
 refine au [64,60,23,32,2] ?_
 intro x2 e2 _
 exact az [25,9,71]
theorem qoX {r:(Int×qD0)}(hm:qd9 F i1=some r) :
    Pure qD9 285 [.int .u64 i1] [] (qD1×Nat) (fun g=>.agg #[qD2 r.1,qD3 g.1 r.2 g.2]) (fun g=>[qD8 g.1 r.2 g.2]) (fun _=>[]):=by
 refine pureA func285 ntmps285 hm fun _=>?_
 refine au [64,24,2] ?_
 intro g2
 refine au [117,25,10,3,23,31,2] ?_
 refine qwR (qA .u8) rfl UnF.u inferInstance rfl rfl rfl rfl rfl rfl rfl ?_
 intro x3 e3 a4 c5
 refine qF [qD2 (iconv .i64 i1),qD3 a4 x3 c5] ?_
 refine au [29,4] ?_
 rintro x6 e6 ⟨a7,c8⟩
 refine au [17,46,8] ?_
 exact qdE (a7,c8) 0
theorem qoM (hm:qfu F i1 i2=some i3) :
    qEa 286 [.int .u64 i1,qD2 i2] [] (.int .u64 i3):=by
 refine pureA func286 ntmps286 hm fun _=>?_
 refine au [55,60,3,26,12] ?_
 intro h3
 refine qhL rfl rfl rfl rfl h3 ?_
 refine au [25,9,28,15,5,27,0] ?_
 intro x4 e4
 refine jQ 4 e4 ?_
 exact az [46,8,24,5]
theorem qjy {r:(Int×qD0)}(hm:jW F i1=some r) :
    Pure qD9 258 [.int .u64 i1] [] (qD1×Nat) (fun g=>.agg #[qD2 r.1,qD3 g.1 r.2 g.2]) (fun g=>[qD8 g.1 r.2 g.2]) (fun _=>[]):=by
 refine pureA func258 ntmps258 hm fun _=>?_
 refine au [64,24,2] ?_
 intro g2
 refine au [117] ?_
 refine qd qnd ?_
 intro x3 e3 _
 refine au [60,25,10,34,8] ?_
 rintro x4 e4 ⟨a5,c6⟩
 refine au [3,88] ?_
 refine qd qoM ?_
 intro x7 e7 _
 refine au [3,29,4] ?_
 rintro x8 e8 ⟨a9,c10⟩
 refine au [17,46,8] ?_
 exact qdE (a9,c10) 0
theorem qoP (hm:qd7 F i1=some d1) :
    qEa 273 [qD2 i1] [] (.bool d1):=by
 refine pureA func273 ntmps273 hm fun _=>?_
 refine au [64,60,26,6,3] ?_
 refine kP 3 5 8 [] (decide (i1≤1048576)) ?_ ?_ ?_
 exact az [3,28,10,62]
 exact az [63,61]
 exact az [71]
theorem qni (hm:jr F m1=some i1) :
    qEa 246 [qD3 l1 m1 t1] [qD5 l1 m1 t1] (qD2 i1):=by
 refine pureA func246 ntmps246 hm fun _=>?_
 refine aw [25,0,1,4,5,0,2,1,1,4,3,24,7,25,1,0,2,11] ?_ ?_
 exact az [45,78]
 refine au [125,47] ?_
 refine qL (fun ((_,_):Unit×Unit)=>([],[],[],[],qgY F)) ?_ ?_
 refine au [48,86] ?_
 refine qm [9,10] [] [] [0] (fun (((x88,x89),_):(Int×Int)×Unit)=>([(3,qD2 x88),(11,qD2 x89)],[],[],[])) ((-1:Int),(0:Int)) () ?_
 intro k0
 rintro ⟨⟨x88,x89⟩,_⟩
 refine aw [39,1,4,24,4,0,2,1,11] ?_ ?_
 refine au [85,45,26,4] ?_
 intro x0 e0 b0 o0
 refine au [25,3,82,14,48,34,9] ?_
 intro x2 e1 _
 refine aw [25,7,5,0,2,11] ?_ ?_
 exact az [45,49,52,111,110]
 refine aw [1,4,3,3,28,10,5,0,2,11] ?_ ?_
 exact az [45,49,52,111,110]
 refine au [12,65,4,3,5,0,98] ?_
 exact qj ((x0,iadd .i64 x89 1),())
 exact az [122]
 rintro ⟨_,_⟩
 exact az [39,45,71]
theorem qiO {r:(Int×qD0×Bool)}(hm:vh F i1 m1 d1 i2 m2=some r) :
    PureM qD9 281 [qD4 t1,.agg #[qD2 i2,qD3 l2 m2 t3]] [⟨t1,316,[qD2 i1,qD3 l1 m1 t2,.bool d1]⟩] [qD8 l1 m1 t2] [qD7 l2 m2 t3] (qD1×Nat) (fun _=>.tuple #[]) (fun g=>[⟨t1,316,[qD2 r.1,qD3 g.1 r.2.1 g.2,.bool r.2.2]⟩]) (fun g=>[qD8 g.1 r.2.1 g.2]):=by
 refine pureMA func281 ntmps281 hm fun _=>?_
 refine au [79] ?_
 intro g11
 refine au [46] ?_
 refine qg [0,3] [0] [0] [0] (fun ((x13,_):Bool×Unit)=>([],[⟨t1,316,[qD2 i1,qD3 l1 m1 t2,.bool x13]⟩],[],[],jy F i1 m1 i2 m2 x13)) ?_ ?_
 refine av [30,8] ?_ ?_
 intro h18
 refine kg mixed [18] _ _ (.cons 0 rfl .nil) (qh 0 rfl (qgl 1 rfl qf)) 19 rfl ?_
 refine au [96,18,3] ?_
 refine qz 4 (.bool d1) [[18]] rfl rfl rfl (kM (j:=1) rfl tf4 rfl rfl (fun _=>rfl) rfl) ?_
 refine au [6,5] ?_
 refine yA 9 h18 ?_
 refine au [19,6,19,7,19,8,19,9,19,10,19,11,19,12,19,13,19,14,6,15,6,16,18,17,9,18,25,5,0,34,10,54] ?_
 exact qa (true,())
 intro h18
 refine kg mixed [18] _ _ (.cons 0 rfl .nil) (qh 0 rfl (qgl 1 rfl qf)) 19 rfl ?_
 refine au [96,18,3] ?_
 refine qz 4 (.bool d1) [[18]] rfl rfl rfl (kM (j:=1) rfl tf4 rfl rfl (fun _=>rfl) rfl) ?_
 refine au [6,5] ?_
 refine yA 9 h18 ?_
 refine au [58,18,8,18,9] ?_
 refine qz 10 (qD2 i1) [[18]] rfl rfl rfl (kM (j:=1) rfl tf3 rfl rfl (fun _=>rfl) rfl) ?_
 refine au [18,11,24,15,12,124,6,15,6,16,18,17,9,18,25,5,0,34,10,54] ?_
 exact qa ((decide (8192<(iadd .i64 i1 i2))),())
 rintro ⟨x13,_⟩
 refine aw [39,1,4,3,24,11,10,25,12,25,7,0,2,11] ?_ ?_
 refine kg mixed [9] _ _ (.cons 0 rfl .nil) (qh 0 rfl (qgl 1 rfl qf)) 10 rfl ?_
 refine au [96,18,3] ?_
 refine qz 4 (.agg #[qD2 i1,.slice l1 m1.length t2]) [[9]] rfl rfl rfl (kM (j:=1) rfl tf65 rfl rfl (by simp) rfl) (qr 5 (.agg #[qD2 i2,.slice l2 m2.length t3]) rfl rfl rfl (qq (i:=0) rfl tf65 rfl rfl (by simp) rfl) ?_)
 refine au [9,6,31,3] ?_
 rintro x14 e14 ⟨a15,c16⟩
 refine au [0] ?_
 refine qc (.cons 0 rfl .nil) (qh 0 rfl (qgl 1 rfl qf)) ?_
 refine au [6,7,18,8,9,9,25,5,0] ?_
 refine kQ 9 rfl (by kernel_rfl) (.cons 0 rfl .nil) ?_
 refine au [54] ?_
 exact qH (a15,c16)
 refine au [12] ?_
 exact qH (l1,t2)
theorem qhU {r:(Int×qD0×Bool)}(hm:q7 F i1 m1 d1 i2=some r) :
    PureM qD9 274 [qD4 t1,qD2 i2] [⟨t1,316,[qD2 i1,qD3 l1 m1 t2,.bool d1]⟩] [qD8 l1 m1 t2] [] (qD1×Nat) (fun _=>.tuple #[]) (fun g=>[⟨t1,316,[qD2 r.1,qD3 g.1 r.2.1 g.2,.bool r.2.2]⟩]) (fun g=>[qD8 g.1 r.2.1 g.2]):=by
 refine pureMA func274 ntmps274 hm fun _=>?_
 refine au [24,10,4,91,25,10,34,11] ?_
 rintro x8 e8 ⟨a9,c10⟩
 refine au [34,12] ?_
 rintro x11 e11 ⟨a12,c13⟩
 refine au [0] ?_
 exact qH (a12,c13)
theorem qkF (hm:qcG F i1 i2=some d1) :
    qEa 212 [qD2 i1,qD2 i2] [] (.bool d1):=by
 refine pureA func212 ntmps212 hm fun _=>?_
 refine au [55,60,30,14] ?_
 intro x3 e3 _
 refine au [3] ?_
 refine kH 4 [0,1] [] [] [] (fun ((x6,_):Bool×Unit)=>([(11,.bool x6)],[],[],[],qba F i1 i2 x6)) ?_ ?_
 refine qC (os:=_) rfl ?_
 refine av [26,5] ?_ ?_
 intro h4
 refine ko (k:=7) rfl h4 ?_
 refine au [3,30,14] ?_
 intro x8 e8 _
 refine au [25,7,113] ?_
 exact qa ((!x8),())
 intro h4
 refine km (k:=7) rfl h4 ?_
 refine au [63,7,112] ?_
 exact qa (false,())
 rintro ⟨x6,_⟩
 try dsimp only
 refine qC (os:=_) rfl ?_
 refine au [3] ?_
 refine zp 4 12 16 [] (decide (i1<i2)) ?_ ?_ ?_
 exact az [63,7,62]
 exact az [91,24,4,61]
 exact az [71]
theorem qif (hm:qaA F i1=some d1) :
    qEa 216 [qD2 i1] [] (.bool d1):=by
 refine pureA func216 ntmps216 hm fun _=>?_
 exact az [64,60,3,25,4,71]
theorem qd3 {r:(Int×Bool)}(hm:zl F m1 i1=some r) :
    qEa 180 [qD3 l1 m1 t1,qD2 i1] [qD5 l1 m1 t1] (.tuple #[qD2 r.1,.bool r.2]):=by
 refine pureA func180 ntmps180 hm fun _=>?_
 refine au [55,5,60,24,7,60,5,47] ?_
 refine qg [0,1,6] [] [] [0] (fun ((x32,_):Int×Unit)=>([(7,qD2 x32)],[],[],[],yg F m1 i1 x32)) ?_ ?_
 refine au [14] ?_
 refine qm [0,1,6] [] [] [0] (fun (((x85,x86),_):(Int×Int)×Unit)=>([(7,qD2 x85),(8,qD2 x86)],[],[],[])) ((0:Int),(m1.length:Int)) () ?_
 intro k95
 rintro ⟨⟨x85,x86⟩,_⟩
 refine aw [39,1,1,4,3,3,24,4,0,2,11] ?_ ?_
 refine au [57,14,48,3,23,25,10,27,7,25,10,5,27,0] ?_
 intro x97 e97
 refine jQ 9 e97 ?_
 refine au [117,3,26,4] ?_
 intro x98 e98 b99 o0
 refine au [25,3,3] ?_
 refine qd qkF ?_
 intro x0 e0 _
 refine aw [0,2,11] ?_ ?_
 refine au [4,3,23,5,121] ?_
 exact qj ((iadd .i64 x97 1,x86),())
 refine au [4,3,5,121] ?_
 exact qj ((x85,x97),())
 refine au [72] ?_
 exact qa (x85,())
 rintro ⟨x32,_⟩
 refine au [92,91,127] ?_
 refine qgv 18 (fun ((x55,_):Bool×Unit)=>([(31,qD2 x32),(53,.bool x55)],[],[],[],yh F x32 x55)) ?_ ?_
 refine qC (os:=_) rfl ?_
 refine av [26,5] ?_ ?_
 intro h33
 refine ko (k:=35) rfl h33 ?_
 refine au [91,26,4] ?_
 intro x56 e56 b57 o58
 refine au [25,3,3,25,6,3] ?_
 refine kH 10 [31,35] [] [] [] (fun ((x68,_):Bool×Unit)=>([(52,.bool x68)],[],[],[],yi F x32 x68)) ?_ ?_
 refine qC (os:=_) rfl ?_
 refine av [26,5] ?_ ?_
 intro h59
 refine ko (k:=42) rfl h59 ?_
 refine au [68,68,7,113] ?_
 exact qa (true,())
 intro h59
 refine km (k:=42) rfl h59 ?_
 refine au [91,29,9] ?_
 intro x69 e69 b70 o71
 refine au [25,3,34,13] ?_
 intro x72 e72 _
 refine au [3] ?_
 refine kH 3 [31,35,42] [] [] [] (fun ((x75,_):Bool×Unit)=>([(51,.bool x75)],[],[],[],yj F x32 x75)) ?_ ?_
 refine qC (os:=_) rfl ?_
 refine av [26,5] ?_ ?_
 intro h73
 refine ko (k:=48) rfl h73 ?_
 refine au [3,34,13] ?_
 intro x76 e76 _
 refine au [113] ?_
 exact qa (x76,())
 intro h73
 refine km (k:=48) rfl h73 ?_
 refine au [63,112] ?_
 exact qa (false,())
 rintro ⟨x75,_⟩
 try dsimp only
 refine qC (os:=_) rfl ?_
 refine au [112] ?_
 exact qa (x75,())
 rintro ⟨x68,_⟩
 try dsimp only
 refine qC (os:=_) rfl ?_
 refine au [113] ?_
 exact qa (x68,())
 intro h33
 refine km (k:=35) rfl h33 ?_
 refine au [68,68,68,68,7,112] ?_
 exact qa (false,())
 rintro ⟨x55,_⟩
 try dsimp only
 refine qC (os:=_) rfl ?_
 exact az [5,71]
theorem qie {r:(qD0×Bool×Int)}(hm:qaw F m1 d1 i1 d2=some r) :
    PureM qD9 296 [qD4 t1,.bool d2] [⟨t1,363,[qD3 l1 m1 t2,.bool d1,qD2 i1]⟩] [qD6 l1 m1 t2] [] (qD1×Nat) (fun _=>.tuple #[]) (fun g=>[⟨t1,363,[qD3 g.1 r.1 g.2,.bool r.2.1,qD2 r.2.2]⟩]) (fun g=>[qD6 g.1 r.1 g.2]):=by
 refine pureMA func296 ntmps296 hm fun _=>?_
 refine au [24,10] ?_
 refine qL (fun (((x21,x22,x23),a19,c20):(qD0×Bool×Int)×qD1×Nat)=>([(0,qD4 t1)],[⟨t1,363,[qD3 a19 x21 c20,.bool x22,qD2 x23]⟩],[qD6 a19 x21 c20],[],vQ F x21 x22 x23)) ?_ ?_
 refine au [48,3,119] ?_
 refine qyE rfl UnF.u rfl rfl rfl ?_
 refine aw [0,2,11] ?_ ?_
 refine au [1] ?_
 refine kg mixed [13] _ _ .nil (qgl 0 rfl qf) 14 rfl ?_
 refine au [96,18,3] ?_
 refine qz 4 (qD3 l1 m1 t2) [[13]] rfl rfl rfl (kM (j:=0) rfl tf56 rfl rfl (fun _=>rfl) rfl) ?_
 refine au [6,5,6,6,18,7] ?_
 refine qz 8 (qD2 i1) [[13]] rfl rfl rfl (kM (j:=0) rfl tf3 rfl rfl (fun _=>rfl) rfl) ?_
 refine au [9,9] ?_
 refine zw [i1] (fun a29 c30=>?_)
 refine au [0,32,3,9,10] ?_
 refine zo 1 (qA .i64) rfl underlying56 tf3 rfl rfl rfl rfl rfl (.inl ⟨0,_,rfl⟩) rfl rfl (fun x31 e31 a32 c33=>?_)
 refine au [0,32,3,6,11,18,12,9,13,80] ?_
 refine kQ 13 rfl (by kernel_rfl) .nil ?_
 refine au [54,2,4,91,3,51,17,51,80] ?_
 exact qa ((x31,d2,(0:Int)),a32,c33)
 refine au [12] ?_
 exact qa ((m1,d1,i1),l1,t2)
 rintro ⟨⟨x21,x22,x23⟩,a19,c20⟩
 refine au [39,4,3,119,23,51,80] ?_
 exact qH (a19,c20)
theorem qoV {r:(qD0×qD0)}(hm:qfA F m1 m2=some r) :
    Pure qD9 275 [qD3 l1 m1 t1,qD3 l2 m2 t2] [qD5 l1 m1 t1,qD5 l2 m2 t2] ((qD1×Nat)×qD1×Nat) (fun g=>.tuple #[qD3 g.1.1 r.1 g.1.2,qD3 g.2.1 r.2 g.2.2]) (fun g=>[qD6 g.1.1 r.1 g.1.2,qD6 g.2.1 r.2 g.2.2]) (fun _=>[]):=by
 refine pureA func275 ntmps275 hm fun _=>?_
 refine au [55,5,83] ?_
 refine qF [.slice none 0 0,.bool true,qD2 0] ?_
 refine au [24,0] ?_
 intro g7
 refine au [47] ?_
 refine qg [0,1,5,6] [] [] [0,1] (fun (((x66,x67,x68),a64,c65):(qD0×Bool×Int)×qD1×Nat)=>([],[⟨g7,363,[qD3 a64 x66 c65,.bool x67,qD2 x68]⟩],[qD6 a64 x66 c65],[],qfc F m1 m2 x66 x67 x68)) ?_ ?_
 refine au [48,86,28,0] ?_
 refine qm [0,1,5,6,17,18] [] [] [0,1] (fun (((x0,x2,x3,x5),a0,c0):(Int×qD0×Bool×Int)×qD1×Nat)=>([(19,qD2 x0)],[⟨g7,363,[qD3 a0 x2 c0,.bool x3,qD2 x5]⟩],[qD6 a0 x2 c0],[])) ((0:Int),([]:qD0),true,(0:Int)) (none,0) ?_
 intro k0
 rintro ⟨⟨x0,x2,x3,x5⟩,a0,c0⟩
 refine aw [39,1,4,24,4,0,2,1,11] ?_ ?_
 refine au [85,45,26,4] ?_
 intro x6 e0 b0 o0
 refine au [25,3,60,3,32,4] ?_
 intro x7 e1 _
 refine au [3,81,5,47,4,91] ?_
 refine qs qie ?_
 rintro x8 e2 ⟨a1,c1⟩
 refine au [0,98] ?_
 exact qj ((iadd .i64 x0 1,x8.1,x8.2.1,x8.2.2),a1,c1)
 refine au [72] ?_
 exact qa ((x2,x3,x5),a0,c0)
 rintro ⟨⟨x66,x67,x68⟩,a64,c65⟩
 try dsimp only
 refine qg [6] [0] [0] [] (fun ((x9,a3,c2):qD0×qD1×Nat)=>([(5,qD3 a3 x9 c2)],[],[qD6 a3 x9 c2],[],qfd F x66 x9)) ?_ ?_
 refine au [48,86,28,0] ?_
 refine qm [0,6,33,34] [0] [1] [0,1] (fun (((x10,x11),a4,c4):(qD0×Int)×qD1×Nat)=>([(5,qD3 a4 x10 c4),(35,qD2 x11)],[],[qD6 a4 x10 c4],[])) (([]:qD0),(0:Int)) (none,0) ?_
 intro k1
 rintro ⟨⟨x10,x11⟩,a4,c4⟩
 refine aw [39,1,4,24,4,0,2,1,11] ?_ ?_
 refine au [57] ?_
 refine qg [0,6,33,34,35] [0] [0] [0,1] (fun ((x12,a6,c5):qD0×qD1×Nat)=>([(5,qD3 a6 x12 c5)],[],[qD6 a6 x12 c5],[],qci F (qcj F m1 m2 x66 k1) x11 x12)) ?_ ?_
 refine au [14,45,29,9] ?_
 intro x13 e3 b1 o1
 refine au [25,3,60,3,32,4] ?_
 intro x14 e4 _
 refine aw [3,22,22,5,5,0,2,1,4,3,25,7,0,2,11] ?_ ?_
 refine au [4,91] ?_
 refine zw [x13] (fun a7 c7=>?_)
 refine zo 2 (qA .i64) rfl underlying56 tf3 rfl rfl rfl rfl rfl (.inl ⟨0,_,rfl⟩) rfl rfl (fun x15 e5 a8 c8=>?_)
 refine au [5,121] ?_
 exact qa (x15,a8,c8)
 refine au [12,24,3] ?_
 exact qa (x10,a4,c4)
 rintro ⟨x12,a6,c5⟩
 refine au [39,97] ?_
 exact qj ((x12,iadd .i64 x11 1),a6,c5)
 refine au [72] ?_
 exact qa (x10,a4,c4)
 rintro ⟨x9,a3,c2⟩
 refine au [92,119,3,5,49] ?_
 exact qx ((a64,c65),a3,c2)
theorem qg9 {r:(Int×qD0×Bool)}(hm:jz F i1 m1 d1 m2=some r) :
    PureM qD9 276 [qD4 t1,qD3 l2 m2 t3] [⟨t1,316,[qD2 i1,qD3 l1 m1 t2,.bool d1]⟩] [qD8 l1 m1 t2] [qD5 l2 m2 t3] (qD1×Nat) (fun _=>.tuple #[]) (fun g=>[⟨t1,316,[qD2 r.1,qD3 g.1 r.2.1 g.2,.bool r.2.2]⟩]) (fun g=>[qD8 g.1 r.2.1 g.2]):=by
 refine pureMA func276 ntmps276 hm fun _=>?_
 refine au [24,10,48,3,24,7,29,5] ?_
 rintro x10 e10 ⟨a11,c12⟩
 refine au [117,86] ?_
 refine qm [0,10,11] [] [] [0] (fun (((x27,x28,x31,x32),a29,c30):(Int×Int×qD0×Bool)×qD1×Nat)=>([(12,qD2 x27)],[⟨t1,316,[qD2 x28,qD3 a29 x31 c30,.bool x32]⟩],[qD8 a29 x31 c30],[])) ((0:Int),x10.1,x10.2.1,x10.2.2) (a11,c12) ?_
 intro k47
 rintro ⟨⟨x27,x28,x31,x32⟩,a29,c30⟩
 refine aw [39,1,4,24,4,0,2,1,11] ?_ ?_
 refine au [85,48,26,4] ?_
 intro x55 e55 b56 o57
 refine au [25,3,5,47,4,91,3,29,0,25,9,29,5] ?_
 rintro x58 e58 ⟨a59,c60⟩
 refine au [0,98] ?_
 exact qj ((iadd .i64 x27 1,x58.1,x58.2.1,x58.2.2),a59,c60)
 refine au [72] ?_
 exact qH (a29,c30)
theorem qoW {r:Unit}(hm:qhe F m1=some r) :
    PureM qD9 297 [qD3 l1 m1 t1] [] [] [qD5 l1 m1 t1] Nat (fun g=>.func (.func 304) #[] #[qD4 g]) (fun g=>[⟨g,56,[qD3 l1 m1 t1]⟩]) (fun _=>[]):=by
 refine pureMA func297 ntmps297 hm fun _=>?_
 refine au [87] ?_
 intro g4
 refine au [83,27,9,49] ?_
 exact qH g4
theorem ql8 (F:Nat){σ τ:Type}{J:Rounds σ τ}{yy:σ→(Int×Int)→Option (σ ⊕ τ)}{L:Nat}(hY:YieldC qD9 L (fun (p:Int×Int)=>[.agg #[qD2 p.1,qD2 p.2]]) J yy)(s0:σ)(gs0:J.γ)(g1:Nat)(x2:qD0)(a3:qD1)(c4:Nat)(r:σ ⊕ τ)(hm:qb4 F yy x2 s0=some r) :
    PureM qD9 304 ([.func (.yield L) #[] #[],qD4 g1]) ([⟨g1,56,[qD3 a3 x2 c4]⟩]++J.IB s0 gs0) (J.IR s0 gs0) [J.F,qD5 a3 x2 c4] (J.G r) (fun _=>.tuple #[]) (fun g=>[⟨g1,56,[qD3 a3 x2 c4]⟩]++J.bs r g) (fun g=>J.rs r g):=by
 refine pureMA func304 ntmps304 hm fun _=>?_
 refine au [55,47,14] ?_
 refine vy (fun (((x0,x1),g0):(Int×σ)×J.γ)=>[(0,.func (.yield L) #[] #[]),(1,qD4 g1),(3,qD2 x0)]) (fun (((x0,x1),g0):(Int×σ)×J.γ)=>[⟨g1,56,[qD3 a3 x2 c4]⟩]++J.IB x1 g0) (fun (((x0,x1),g0):(Int×σ)×J.γ)=>[]++J.IR x1 g0) (fun (((x0,x1),g0):(Int×σ)×J.γ)=>[qD5 a3 x2 c4,J.F]) (fun k (s:(Int×σ)×J.γ)=>zi F yy x2 k s.1) ((0,s0),gs0) F ?_ (hB:=(.cons 0 rfl (qe 0 rfl))) (hR:=(qe 0 rfl)) (hF:=(qi 1 rfl (qi 0 rfl zB)))
 intro k0
 rintro ⟨⟨x0,x1⟩,g0⟩
 try dsimp only
 refine qaJ (m':=qbm F yy x2 (zi F yy x2 k0) x0 x1) rfl ?_
 refine aw [1,1,4,3,20,24,7,24,4,0,2,11] ?_ ?_
 refine au [57,14,45,47] ?_
 refine qdj (fun ((x3,_):Int×Unit)=>[(0,.func (.yield L) #[] #[]),(1,qD4 g1),(3,qD2 x0),(4,qD2 x3)]) (fun ((x3,_):Int×Unit)=>[⟨g1,56,[qD3 a3 x2 c4]⟩]++J.IB x1 g0) (fun ((x3,_):Int×Unit)=>[]++J.IR x1 g0) (fun ((x3,_):Int×Unit)=>[qD5 a3 x2 c4,J.F]) (fun ((x3,_):Int×Unit)=>qbo F yy (zi F yy x2 k0) x2 x0 x1 x3) ?_ ?_
 refine au [14] ?_
 refine vy (fun ((x4,_):Int×Unit)=>[(0,.func (.yield L) #[] #[]),(1,qD4 g1),(3,qD2 x0),(4,qD2 x4)]) (fun ((x4,_):Int×Unit)=>[⟨g1,56,[qD3 a3 x2 c4]⟩]++J.IB x1 g0) (fun ((x4,_):Int×Unit)=>[]++J.IR x1 g0) (fun ((x4,_):Int×Unit)=>[qD5 a3 x2 c4,J.F]) (fun k (s:Int×Unit)=>vf F yy (zi F yy x2 k0) x2 x0 x1 k s.1) (1,()) F ?_ (hB:=(.cons 0 rfl (qe 0 rfl))) (hR:=(qe 0 rfl)) (hF:=(qi 0 rfl (qi 1 rfl zB)))
 intro k1
 rintro ⟨x4,_⟩
 try dsimp only
 refine qaJ (m':=qbn F yy (zi F yy x2 k0) x2 x0 x1 (vf F yy (zi F yy x2 k0) x2 x0 x1 k1) x4) rfl ?_
 refine au [1] ?_
 refine qdj (fun ((x5,_):Bool×Unit)=>[(0,.func (.yield L) #[] #[]),(1,qD4 g1),(3,qD2 x0),(4,qD2 x4),(29,.bool x5)]) (fun ((x5,_):Bool×Unit)=>[⟨g1,56,[qD3 a3 x2 c4]⟩]++J.IB x1 g0) (fun ((x5,_):Bool×Unit)=>[]++J.IR x1 g0) (fun ((x5,_):Bool×Unit)=>[qD5 a3 x2 c4,J.F]) (fun ((x5,_):Bool×Unit)=>qbp F yy (zi F yy x2 k0) (vf F yy (zi F yy x2 k0) x2 x0 x1 k1) x2 x0 x1 x4 x5) ?_ ?_
 refine av [30,8] ?_ ?_
 intro h0
 refine au [31,0] ?_
 intro x6 e0 b0 o0 h1
 replace h1:a3=some ⟨b0,o0,none⟩:=h1
 refine au [28,9] ?_
 intro x7 e1 b1 o1 h2
 replace h2:a3=some ⟨b1,o1,none⟩:=h2
 refine qE [] [0] [0,1,2,3] 21 ?_
 refine au [96,24,15,3,28,8,4,6,5,6,6] ?_
 refine yA 15 h0 ?_
 refine au [24,15,7,6,8,123] ?_
 refine vW 11 h1 e0 ?_
 refine qz 12 (qD2 x6) [] rfl rfl rfl (qV (j:=1) rfl tf3 rfl rfl (fun _=>rfl) rfl) ?_
 refine au [24,15,13,6,14] ?_
 refine vW 15 h2 e1 ?_
 refine qz 16 (qD2 x7) [] rfl rfl rfl (qV (j:=0) rfl tf3 rfl rfl (fun _=>rfl) rfl) ?_
 refine au [6,17,6,18,6,19,6,20,54] ?_
 exact ya (((x6:Int) == (iadd .i64 x7 x4)),()) (hB:=(.cons 0 rfl (qe 0 rfl))) (hR:=(qe 0 rfl)) (hF:=(qi 2 rfl (qi 3 rfl zB)))
 intro h0
 refine qE [] [0] [0,1] 21 ?_
 refine au [96,24,15,3,28,8,4,6,5,6,6] ?_
 refine yA 15 h0 ?_
 refine au [19,7,19,8,19,9,19,10,19,11,19,12,19,13,19,14,19,15,19,16,19,17,19,18,19,19,6,20,54] ?_
 exact ya (false,()) (hB:=(.cons 0 rfl (qe 0 rfl))) (hR:=(qe 0 rfl)) (hF:=(qi 0 rfl (qi 1 rfl zB)))
 rintro ⟨x5,_⟩
 refine aw [39,11] ?_ ?_
 refine au [57,14,4,3,23,5,121] ?_
 exact vn (iadd .i64 x4 1,()) (hB:=(.cons 0 rfl (qe 0 rfl))) (hR:=(qe 0 rfl)) (hF:=(qi 0 rfl (qi 1 rfl zB)))
 refine au [72] ?_
 exact ya (x4,()) (hB:=(.cons 0 rfl (qe 0 rfl))) (hR:=(qe 0 rfl)) (hF:=(qi 0 rfl (qi 1 rfl zB)))
 rintro ⟨x3,_⟩
 refine au [39,1,48,20,3,26,4] ?_
 intro x8 e2 b2 o2
 refine au [25,3,3] ?_
 refine qF [qD2 x8,qD2 x3] ?_
 refine qeT hY x1 (x8,x3) g0 (B1:=[⟨g1,56,[qD3 a3 x2 c4]⟩]) (R1:=[]) (j:=2) rfl rfl rfl rfl rfl rfl rfl (fun x9 _ g2=>?_) (fun x10 _ g2=>?_)
 refine au [25,7,46] ?_
 refine k8 (b:=false) rfl (fun h=>by cases h) (fun _=>?_)
 refine au [57,4,91,23,5,121] ?_
 exact vn ((iadd .i64 x0 x3,x9),g2) (hB:=(.cons 0 rfl (qe 0 rfl))) (hR:=(qe 0 rfl)) (hF:=(qi 1 rfl (qi 2 rfl zB)))
 refine au [25,7,46] ?_
 refine k8 (b:=true) rfl (fun _=>?_) (fun h=>by cases h)
 refine au [8,13,52,24,6] ?_
 exact v8 (B0:=[⟨g1,56,[qD3 a3 x2 c4]⟩]) (x:=.inr x10) g2 (.inl rfl) (res0 rfl) (.cons 0 rfl (qe 0 rfl)) (qe 0 rfl)
 refine au [72] ?_
 exact v8 (B0:=[⟨g1,56,[qD3 a3 x2 c4]⟩]) (x:=.inl x1) g0 (.inr rfl) (res0 rfl) (.cons 0 rfl (qe 0 rfl)) (qe 0 rfl)
theorem qqq {r:(List (Int×Int)×qD0)}(hm:qgC F m1 i1=some r) :
    PureM qD9 277 [qD3 l1 m1 t1,qD2 i1] [] [] [qD5 l1 m1 t1] ((qD1×Nat)×qD1×Nat) (fun g=>.tuple #[qD3 g.1.1 r.1 g.1.2,qD3 g.2.1 r.2 g.2.2]) (fun _=>[]) (fun g=>[Ro eS209 209 2 (qD3 g.1.1 r.1 g.1.2) r.1,qD6 g.2.1 r.2 g.2.2]):=by
 refine qdg func277 rfl ntmps277 rfl hm (fun w=>?_)
 refine au [79] ?_
 intro g5
 refine au [24,2] ?_
 intro g6
 refine au [24,2] ?_
 intro g7
 refine au [46,1,48] ?_
 refine qs qoW ?_
 intro x0 e0 g0
 refine au [75,28,0] ?_
 refine qdD (Int×Int) eS209 209 2 (qbU (encs:=(fun (p:Int×Int)=>[.agg #[qD2 p.1,qD2 p.2]])) (y:=(fun ((x2,x3):(qD0×List (Int×Int))) ((x5,x6):Int×Int)=>qb3 F i1 x2 x3 x5 x6)) (lb:=[qD4 g0]) (fun ((x2,x3):(qD0×List (Int×Int))) ((a0,c0,a1,c1):qD1×Nat×qD1×Nat)=>[⟨g7,56,[qD3 a0 x2 c0]⟩,⟨g6,204,[qD3 a1 x3 c1]⟩,⟨g5,3,[qD2 i1]⟩]) (fun ((x2,x3):(qD0×List (Int×Int))) ((a0,c0,a1,c1):qD1×Nat×qD1×Nat)=>[qD6 a0 x2 c0,Ro eS209 209 2 (qD3 a1 x3 c1) x3]) (fun (_:Empty) (_:Unit)=>[]) (fun (_:Empty) (_:Unit)=>[]) (fun _=>.skip) (([]:qD0),([]:List (Int×Int))) (none,0,none,0) rfl EnC.e (fun _=>rfl) rfl (.cons 0 rfl .nil) (.cons 0 rfl (.cons 0 rfl (.cons 0 rfl .nil))) (.cons 1 rfl (.cons 0 rfl .nil)) (.consF 0 rfl .nil) (fun z hz _ _ _ hY=>ql8 F hY (([]:qD0),([]:List (Int×Int))) (none,0,none,0) g0 m1 l1 t1 z hz) ?_ ?_ ?_)
 rintro rc1 L1 D1 ⟨x2,x3⟩ ⟨a0,c0,a1,c1⟩ ⟨x5,x6⟩ z w M _
 try dsimp only
 refine qdk [(0,qD3 l1 m1 t1),(1,qD2 i1),(3,qD4 g5),(4,qD4 g6),(5,qD4 g7),(8,qD3 l1 m1 t1),(9,.func (.func 304) #[] #[qD4 g0]),(10,.agg #[qD2 x5,qD2 x6])] (qk rfl (qk rfl (qk rfl (qk rfl (qk rfl (qk rfl (qk rfl (qk rfl qdB)))))))) ?_
 refine au [4,24,2] ?_
 intro g1
 refine aw [17,0,34,14,14,1,1,4,10,20,29,3,26,6,0,2,11] ?_ ?_
 refine au [45,26,1,24,12] ?_
 refine qaX (vs:=[.agg #[qD2 x5,qD2 x6]]) (ys:=([(x5,x6)]:List (Int×Int))) qgi (by decide) rfl underlying204 tf209 rfl rfl rfl rfl rfl (by decide) (fun a3 c2=>zo 2 qgi rfl underlying204 tf209 rfl rfl rfl rfl rfl (.inl ⟨0,_,rfl⟩) rfl rfl (fun x7 e1 a4 c4=>?_))
 refine au [27,13,46,53,24,14] ?_
 exact vk (rc:=rc1) rfl (.cons 4 rfl .nil) rfl (a0,c0,a4,c4) (.cons 2 rfl (.cons 2 rfl (.cons 2 rfl (.cons 0 rfl (.cons 1 rfl .nil))))) (.cons 2 rfl (.cons 0 rfl .nil))
 refine au [125,67,3,75] ?_
 refine qm [3,4,5,6,20] [0,1,1,1,1] [1] [] (fun (((x8,x9),a5,c5):(Int×qD0)×qD1×Nat)=>([(21,qD2 x8)],[⟨g7,56,[qD3 a5 x9 c5]⟩],[qD6 a5 x9 c5],[])) ((0:Int),x2) (a0,c0) ?_
 intro k0
 rintro ⟨⟨x8,x9⟩,a5,c5⟩
 refine aw [39,1,4,24,4,0,2,1,11] ?_ ?_
 refine au [85,48,47,4] ?_
 refine zO (i:=5) rfl rfl inferInstance rfl rfl (fun _=>rfl) rfl rfl ?_
 refine au [67,3,23] ?_
 refine zw [iadd .i64 x5 x8] (fun a6 c6=>?_)
 refine zo 2 (qA .i64) rfl underlying56 tf3 rfl rfl rfl rfl rfl (.inl ⟨0,_,rfl⟩) rfl rfl (fun x10 e2 a7 c7=>kA (i:=5) rfl rfl rfl inferInstance rfl rfl rfl rfl rfl ?_)
 refine au [0,98] ?_
 exact qj ((iadd .i64 x8 1,x10),a7,c7)
 refine au [72,24,3] ?_
 exact vk (rc:=rc1) rfl (.cons 3 rfl .nil) rfl (a5,c5,a1,c1) (.cons 5 rfl (.cons 2 rfl (.cons 2 rfl (.cons 0 rfl (.cons 1 rfl .nil))))) (.cons 1 rfl (.cons 0 rfl .nil))
 rintro ⟨x2,x3⟩ _ ⟨a0,c0,a1,c1⟩ D1
 refine au [39,65,1] ?_
 refine qE [] [0,0,0,0,0] [0] 4 ?_
 refine au [32,5,0,29,2,1,9,2,30,9,0,29,13,9,3,27,13,0,29,13,54,2,8] ?_
 exact ja [D1] ((a1,c1),a0,c0) (.inl rfl) rfl (.cons 0 rfl .nil) (resL (rs:=[.cell 4 204,.cell 5 56]) rfl (.cell (i:=2) rfl tf204 rfl rfl (fun _=>rfl) rfl (.cell (i:=1) rfl tf56 rfl rfl (fun _=>rfl) rfl ResOk.nil)) rfl) (fun h=>by subst h;rfl) (fun h=>by subst h;exact .nil) (fun h=>by subst h;exact (.cons 1 rfl (.cons 0 rfl .nil)))
 intro t;exact t.elim
theorem qme (hm:qb6 F i1=some i2) :
    qEa 298 [qD2 i1] [] (.int .u64 i2):=by
 refine pureA func298 ntmps298 hm fun _=>?_
 refine au [64,60,25,10,34,15,3,27,7,25,10,35,0,5,27,0] ?_
 intro x2 e2
 refine jQ 2 e2 ?_
 exact az [46,8,24,5]
theorem qik {r:(Int×qD0×Bool)}(hm:qaF F i1 m1 d1 i2 i3 w1=some r) :
    PureM qD9 278 [qD4 t1,qD2 i2,qD2 i3,qD3 l2 w1 t3] [⟨t1,316,[qD2 i1,qD3 l1 m1 t2,.bool d1]⟩] [qD8 l1 m1 t2] [Sl eS209 2 (qD3 l2 w1 t3) w1] (qD1×Nat) (fun _=>.tuple #[]) (fun g=>[⟨t1,316,[qD2 r.1,qD3 g.1 r.2.1 g.2,.bool r.2.2]⟩]) (fun g=>[qD8 g.1 r.2.1 g.2]):=by
 refine pureMA func278 ntmps278 hm fun _=>?_
 refine au [28,12,48,3,24,7,29,5] ?_
 rintro x12 e12 ⟨a13,c14⟩
 refine au [117,60,86] ?_
 refine qm [0,2,16,17] [] [] [0] (fun (((x73,x74,x75,x78,x79),a76,c77):(Int×Int×Int×qD0×Bool)×qD1×Nat)=>([(8,qD2 x73),(18,qD2 x74)],[⟨t1,316,[qD2 x75,qD3 a76 x78 c77,.bool x79]⟩],[qD8 a76 x78 c77],[])) (i2,(0:Int),x12.1,x12.2.1,x12.2.2) (a13,c14) ?_
 intro k0
 rintro ⟨⟨x73,x74,x75,x78,x79⟩,a76,c77⟩
 refine aw [39,1,4,24,4,0,2,1,11] ?_ ?_
 refine au [85,48,32,6] ?_
 intro x0 e0 b0 o0
 refine au [29,11,24,2] ?_
 intro g0
 refine au [5,17,46] ?_
 refine qg [0,2,10,16,17,18] [0] [] [1] (fun (((x1,x4,x5),a0,c0):(Int×qD0×Bool)×qD1×Nat)=>([],[⟨t1,316,[qD2 x1,qD3 a0 x4 c0,.bool x5]⟩],[qD8 a0 x4 c0],[],yJ F (yK F i3 w1 k0) i3 x74 x0 x1 x4 x5)) ?_ ?_
 refine aw [1,4,3,25,6,0,2,11] ?_ ?_
 refine au [4,3,67,3,25,9,35,1] ?_
 intro x10 e1 _
 refine au [25,10,29,5] ?_
 rintro x11 e2 ⟨a1,c1⟩
 refine au [0] ?_
 exact qa ((x11.1,x11.2.1,x11.2.2),a1,c1)
 refine au [4,3,67,3,25,9,25,9,29,5] ?_
 rintro x13 e3 ⟨a2,c2⟩
 refine au [0] ?_
 exact qa ((x13.1,x13.2.1,x13.2.2),a2,c2)
 rintro ⟨⟨x1,x4,x5⟩,a0,c0⟩
 refine au [92,67,3,25,9,29,5] ?_
 rintro x14 e4 ⟨a3,c3⟩
 refine au [46,4,94,94,23,25,9,5,0,98] ?_
 exact qj ((isub .i64 (iadd .i64 x0.1 x0.2) 1,iadd .i64 x74 1,x14.1,x14.2.1,x14.2.2),a3,c3)
 refine au [72] ?_
 exact qH (a76,c77)
theorem ql1 {r:(Int×Int×Int)}(hm:qdO F i1 i2=some r) :
    qEa 305 [.int .u64 i1,qD2 i2] [] (.tuple #[qD2 r.1,.int .u64 r.2.1,.int .u64 r.2.2]):=by
 refine pureA func305 ntmps305 hm fun _=>?_
 refine au [55,5,5,60,23,32,2] ?_
 intro x3 e3 _
 refine au [25,9,3,26,12] ?_
 intro h4
 refine qop rfl rfl rfl rfl h4 ?_
 refine au [82,28,11] ?_
 intro h11
 refine au [28,11] ?_
 intro h13
 refine qE [] [] [] 14 ?_
 refine au [96,6,3] ?_
 refine qb 4 (.int .u64 (ishl .u64 1 (imul .i64 (iquo .i64 (isub .i64 x3 1) i2) i2))) rfl rfl rfl (qiA rfl rfl h11) ?_
 refine au [6,5,58,6,8,6,9] ?_
 refine qb 10 (.int .u64 (ishl .u64 1 (iadd .i64 (imul .i64 (iquo .i64 (isub .i64 x3 1) i2) i2) i2))) rfl rfl rfl (qiA rfl rfl h13) ?_
 exact az [76,6,13,54,2,8,24,5]
theorem qkJ {r:(Int×Int)}(hm:qbE F i1=some r) :
    qEa 307 [.int .u64 i1] [] (.tuple #[qD2 r.1,.int .u64 r.2]):=by
 refine pureA func307 ntmps307 hm fun _=>?_
 refine au [64,5,60,25,9,32,2] ?_
 intro x2 e2 _
 refine au [82,28,11] ?_
 intro h6
 refine qE [] [] [] 7 ?_
 refine au [70] ?_
 refine qb 2 (.int .u64 (ishl .u64 1 x2)) rfl rfl rfl (qiA rfl rfl h6) ?_
 exact az [6,3,6,4,6,5,6,6,54,2,8,24,5]
theorem qiL {r:(Int×qD0)}(hm:qbg F i1 m1 i2 i3=some r) :
    Pure qD9 306 [.agg #[qD2 i1,qD3 l1 m1 t1],.int .u64 i2,.int .u64 i3] [qD7 l1 m1 t1] (qD1×Nat) (fun g=>.agg #[qD2 r.1,qD3 g.1 r.2 g.2]) (fun g=>[qD8 g.1 r.2 g.2]) (fun _=>[]):=by
 refine pureA func306 ntmps306 hm fun _=>?_
 refine au [126] ?_
 intro g7
 refine au [24,2] ?_
 intro g8
 refine au [117,35,2] ?_
 intro x9 e9 _
 refine aw [3,22,22,5,5,0,2,1,1,4,3,3,24,4,0,2,11] ?_ ?_
 refine au [107,91,25,9,29,4] ?_
 rintro x14 e14 ⟨a15,c16⟩
 refine au [17,46,8,13] ?_
 exact qdE (a15,c16) 0
 refine au [57,107,91,88,29,4] ?_
 rintro x17 e17 ⟨a18,c19⟩
 refine au [17,46,8] ?_
 exact qdE (a18,c19) 0
theorem ql0 {r:(Int×qD0×Int)}(hm:qdN F i1 i2=some r) :
    Pure qD9 299 [.int .u64 i1,qD2 i2] [] (qD1×Nat) (fun g=>.tuple #[.agg #[qD2 r.1,qD3 g.1 r.2.1 g.2],qD2 r.2.2]) (fun g=>[qD8 g.1 r.2.1 g.2]) (fun _=>[]):=by
 refine pureA func299 ntmps299 hm fun _=>?_
 refine au [55,24,2] ?_
 intro g3
 refine au [82,48,127] ?_
 refine zp 3 11 14 [0,1,4] (decide (16<i2)) ?_ ?_ ?_
 exact az [63,62]
 exact az [3,105]
 refine au [3] ?_
 refine zp 3 15 18 [0,1,4] (decide (1099511627776<i1)) ?_ ?_ ?_
 exact az [63,62]
 exact az [3,105]
 refine aw [0,2,11] ?_ ?_
 refine au [45] ?_
 refine qF [qD2 0,.slice none 0 0] ?_
 exact az [17,59,26,2,35,3]
 refine au [57,48,3] ?_
 refine qd ql1 ?_
 intro x9 e9 _
 refine au [3,81,22,5,5,60,25,10,34,8] ?_
 rintro x10 e10 ⟨a11,c12⟩
 refine au [3,88,25,9,91,25,9] ?_
 refine qd qiL ?_
 rintro x13 e13 ⟨a14,c15⟩
 refine au [17,49] ?_
 exact zW (a14,c15) 0
theorem qqn {r:(Int×qD0×Bool)}(hm:qe9 F i1 m1 m2 i2=some r) :
    PureM qD9 279 [.agg #[qD2 i1,qD3 l1 m1 t1],qD3 l2 m2 t2,qD2 i2] [] [qD8 l1 m1 t1] [Sl (eI .u64) 1 (qD3 l2 m2 t2) m2] (qD1×Nat) (fun g=>.tuple #[.agg #[qD2 r.1,qD3 g.1 r.2.1 g.2],.bool r.2.2]) (fun _=>[]) (fun g=>[qD8 g.1 r.2.1 g.2]):=by
 refine pureMA func279 ntmps279 hm fun _=>?_
 refine au [126] ?_
 intro g9
 refine au [24,2] ?_
 intro g10
 refine au [47] ?_
 refine qg [3,6] [0] [] [] (fun (((x0,x3),a0,c0):(Int×qD0)×qD1×Nat)=>([],[⟨g9,65,[qD2 x0,qD3 a0 x3 c0]⟩],[qD8 a0 x3 c0],[],qhW F x0 x3)) ?_ ?_
 refine au [48,86] ?_
 refine qm [2,3,6,12,13] [0] [] [0] (fun (((x4,x6,x7),a1,c1):(Int×Int×qD0)×qD1×Nat)=>([(14,qD2 x4)],[⟨g9,65,[qD2 x6,qD3 a1 x7 c1]⟩],[qD8 a1 x7 c1],[])) ((0:Int),i1,m1) (l1,t1) ?_
 intro k0
 rintro ⟨⟨x4,x6,x7⟩,a1,c1⟩
 refine aw [39,1,4,24,4,0,2,1,11] ?_ ?_
 refine au [85,45] ?_
 refine vL (j:=0) (qA .u64) (by decide) rfl UnF.u inferInstance rfl rfl rfl rfl ?_
 intro x9 e0 b0 o0
 refine au [25,3,60,3] ?_
 refine qd ql0 ?_
 rintro x10 e1 ⟨a2,c2⟩
 refine au [3,81,24,2] ?_
 intro g0
 refine au [17,82,48,25,4,3] ?_
 refine zp 7 26 33 [2,3,6,12,13,14,10] (decide (8192<(iadd .i64 x6 x10.1))) ?_ ?_ ?_
 exact az [68,63,62]
 exact az [118,67,23,105]
 refine aw [0,2,11] ?_ ?_
 refine au [45] ?_
 refine qF [qD2 0,.slice none 0 0] ?_
 refine au [25,5,59,111,52,26,2] ?_
 exact yr (none,0) (resL (rs:=[.cell 6 65,.tmp 7]) rfl (.cell (i:=1) rfl tf65 rfl rfl (by simp) rfl (.tmp rfl ResOk.nil)) rfl) (hR:=fun h=>by subst h;exact (.cons 0 rfl .nil))
 refine au [57,4,26,9,24,12,31,3] ?_
 rintro x11 e2 ⟨a4,c3⟩
 refine au [27,13,0,98] ?_
 exact qj ((iadd .i64 x4 1,x11.1,x11.2),a4,c3)
 refine au [72] ?_
 exact qa ((x6,x7),a1,c1)
 rintro ⟨⟨x0,x3⟩,a0,c0⟩
 refine au [39,107,17,49] ?_
 exact yr (a0,c0) (resL (rs:=[.cell 6 65,.tmp 7]) rfl (.cell (i:=0) rfl tf65 rfl rfl (by simp) rfl (.tmp rfl ResOk.nil)) rfl) (hR:=fun h=>by subst h;exact (.cons 0 rfl .nil))
theorem qiJ {r:(Int×Int×Bool)}(hm:qbe F i1 d1 i2=some r) :
    PureM qD9 300 [qD4 t1,qD2 i2] [⟨t1,359,[qD2 i1,.bool d1]⟩] [] [] Unit (fun _=>.int .u64 r.1) (fun _=>[⟨t1,359,[qD2 r.2.1,.bool r.2.2]⟩]) (fun _=>[]):=by
 refine pureMA func300 ntmps300 hm fun _=>?_
 refine au [55,47] ?_
 refine qg [0,1] [0] [] [] (fun ((x8,_):Int×Unit)=>([(4,.int .u64 x8)],[],[],[],qbD F i2 x8)) ?_ ?_
 refine aw [1,4,3,24,11,10,20,0,2,11] ?_ ?_
 refine au [4,91,119,25,9,25,9,25,10,5,27,0] ?_
 intro x9 e9
 refine jQ 4 e9 ?_
 refine au [0] ?_
 exact qa (x9,())
 refine au [4,91,119,25,9,35,1] ?_
 intro x10 e10 _
 refine au [5,0] ?_
 exact qa (x10,())
 rintro ⟨x8,_⟩
 exact az [92,91,51,17,51,17,117,90]
theorem qqo (hm:qgA F m1 i1=some m2) :
    Pure qD9 280 [qD3 l1 m1 t1,qD2 i1] [qD5 l1 m1 t1] (qD1×Nat) (fun g=>qD3 g.1 m2 g.2) (fun g=>[Ro (eI .u64) 119 1 (qD3 g.1 m2 g.2) m2]) (fun _=>[]):=by
 refine pureA func280 ntmps280 hm fun _=>?_
 refine au [55,60] ?_
 refine qF [qD2 i1,.bool false] ?_
 refine au [24,0] ?_
 intro g5
 refine au [83,47] ?_
 refine qL (fun ((x75,a73,c74):qD0×qD1×Nat)=>([(6,qD3 a73 x75 c74)],[],[Ro (eI .u64) 119 1 (qD3 a73 x75 c74) x75],[],qfW F x75)) ?_ ?_
 refine au [48,86] ?_
 refine qdD Int (eI .u64) 119 1 (qm [5,12,13] [] [] [0] (fun (((x98,x99,x0,x2),a96,c97):(qD0×Int×Int×Bool)×qD1×Nat)=>([(6,qD3 a96 x98 c97),(14,qD2 x99)],[⟨g5,359,[qD2 x0,.bool x2]⟩],[Ro (eI .u64) 119 1 (qD3 a96 x98 c97) x98],[])) (([]:qD0),(0:Int),i1,false) (none,0) ?_)
 intro k0
 rintro ⟨⟨x98,x99,x0,x2⟩,a96,c97⟩
 refine aw [39,1,4,24,4,0,2,1,11] ?_ ?_
 refine au [85,45,26,4] ?_
 intro x3 e0 b0 o0
 refine au [25,3,47,4,91,3] ?_
 refine qs qiJ ?_
 intro x5 e1 _
 refine zw [x5.1] (fun a0 c0=>?_)
 refine zo 1 (qA .u64) rfl underlying211 tf119 rfl rfl rfl rfl rfl (.inl ⟨0,_,rfl⟩) rfl rfl (fun x6 e2 a1 c1=>?_)
 refine au [5,0,98] ?_
 exact qj ((x6,iadd .i64 x99 1,x5.2.1,x5.2.2),a1,c1)
 refine au [72] ?_
 exact qa (x98,a96,c97)
 rintro ⟨x75,a73,c74⟩
 refine au [92,49] ?_
 exact qx (a73,c74)
theorem qij {r:(Int×qD0×Bool)}(hm:vK F i1 m1 d1 i2 m2 m3 i3 i4 i5=some r) :
    PureM qD9 247 [qD4 t1,qD2 i2,qD3 l2 m2 t3,qD3 l3 m3 t4,.agg #[qD2 i3,qD2 i4,qD2 i5]] [⟨t1,316,[qD2 i1,qD3 l1 m1 t2,.bool d1]⟩] [qD8 l1 m1 t2] [qD5 l2 m2 t3,qD5 l3 m3 t4] (qD1×Nat) (fun _=>.tuple #[]) (fun g=>[⟨t1,316,[qD2 r.1,qD3 g.1 r.2.1 g.2,.bool r.2.2]⟩]) (fun g=>[qD8 g.1 r.2.1 g.2]):=by
 refine pureMA func247 ntmps247 hm fun _=>?_
 refine au [32,7,99] ?_
 intro g17
 refine au [117,3,24,7,29,5] ?_
 rintro x18 e18 ⟨a19,c20⟩
 refine aw [0,2,1,1,4,3,24,7,25,6,0,2,11] ?_ ?_
 refine au [8,13] ?_
 exact qH (a19,c20)
 refine au [57,48,47] ?_
 refine qg [0,1,9] [1] [] [] (fun (((x33,x34,x37,x38),a31,c32,a35,c36):(qD0×Int×qD0×Bool)×qD1×Nat×qD1×Nat)=>([(10,qD3 a31 x33 c32)],[⟨t1,316,[qD2 x34,qD3 a35 x37 c36,.bool x38]⟩],[qD8 a35 x37 c36],[qD5 a31 x33 c32],yH F i2 i4 i5 x33 x34 x37 x38)) ?_ ?_
 refine aw [1,4,10,25,12,25,1,0,2,11] ?_ ?_
 refine au [45,60,3] ?_
 refine qd qoV ?_
 rintro x0 e0 ⟨⟨a0,c0⟩,a1,c1⟩
 refine au [3,81,5,47,4,91] ?_
 refine qs qg9 ?_
 rintro x1 e1 ⟨a2,c2⟩
 refine au [0,35,4] ?_
 exact qa ((x0.2,x1.1,x1.2.1,x1.2.2),a1,c1,a2,c2)
 refine au [12] ?_
 exact qa ((m2,x18.1,x18.2.1,x18.2.2),l2,t3,a19,c20)
 rintro ⟨⟨x33,x34,x37,x38⟩,a31,c32,a35,c36⟩
 refine aw [39,1,1,4,3,24,7,25,6,0,2,11] ?_ ?_
 refine au [8,13] ?_
 exact qH (a35,c36)
 refine au [57] ?_
 refine qg [0,1,9] [0] [] [] (fun (((x51,x52,x55,x56),a49,c50,a53,c54):(qD0×Int×qD0×Bool)×qD1×Nat×qD1×Nat)=>([(10,qD3 a49 x51 c50)],[⟨t1,316,[qD2 x52,qD3 a53 x55 c54,.bool x56]⟩],[qD8 a53 x55 c54],[qD5 a49 x51 c50],yI F i2 i5 x51 x52 x55 x56)) ?_ ?_
 refine aw [1,4,10,20,25,1,0,2,11] ?_ ?_
 refine au [45,60,67] ?_
 refine qs qqq ?_
 rintro x4 e2 ⟨⟨a3,c3⟩,a5,c4⟩
 refine au [3,81,5,47,4,91,67,3] ?_
 refine qs qik ?_
 rintro x5 e3 ⟨a6,c6⟩
 refine au [0,35,4] ?_
 exact qa ((x4.2,x5.1,x5.2.1,x5.2.2),a5,c4,a6,c6)
 refine au [12] ?_
 exact qa ((x33,x34,x37,x38),a31,c32,a35,c36)
 rintro ⟨⟨x51,x52,x55,x56⟩,a49,c50,a53,c54⟩
 try dsimp only
 refine qg [0] [1] [0] [] (fun (((x76,x77,x80),g75,a78,c79):(Bool×Int×qD0)×Nat×qD1×Nat)=>([(13,qD4 g75),(14,.bool x76)],[⟨g75,65,[qD2 x77,qD3 a78 x80 c79]⟩],[qD8 a78 x80 c79],[],qa7 F x52 x55 x56 x76 x77 x80)) ?_ ?_
 refine au [35,5] ?_
 refine qb 0 (.agg #[qD2 0,.slice none 0 0]) rfl rfl rfl (qdl (cells:=[qD2 0,.slice none 0 0]) st65 rfl (by kernel_rfl)) ?_
 refine au [6,1,6,2,18,4,24,15,5] ?_
 refine zJ 3 10 rfl rfl (by kernel_rfl) rfl rfl ?_ ?_
 refine au [35,6] ?_
 rintro x85 e85 ⟨a86,c87⟩
 refine au [0,28,14] ?_
 refine zJ 6 10 rfl rfl (by kernel_rfl) rfl rfl ?_ ?_
 refine au [29,14,32,8] ?_
 rintro x88 e88 ⟨a89,c90⟩
 refine au [0,28,14,6,7,6,8,6,9,9,10,24,2] ?_
 intro g91
 refine au [128,9,11,80,26,0,6,12,54] ?_
 exact qa ((x88.2.2,x88.1,x88.2.1),g91,a89,c90)
 refine au [24,2] ?_
 intro g92
 refine au [128,9,6,29,14,32,8] ?_
 rintro x93 e93 ⟨a94,c95⟩
 refine au [128,6,7,6,8,6,9,9,11,80,26,0,6,12,54] ?_
 exact qa ((x93.2.2,x93.1,x93.2.1),g92,a94,c95)
 refine au [24,2] ?_
 intro g96
 refine au [128,9,3,35,6] ?_
 rintro x97 e97 ⟨a98,c99⟩
 refine au [128,9,6,29,14,32,8] ?_
 rintro x9 e4 ⟨a7,c7⟩
 refine au [128,6,7,6,8,6,9,9,11,80,26,0,6,12,54] ?_
 exact qa ((x9.2.2,x9.1,x9.2.1),g96,a7,c7)
 rintro ⟨⟨x76,x77,x80⟩,g75,a78,c79⟩
 refine au [92,3,119,3] ?_
 refine zp 3 69 72 [0,13,64] (!x76) ?_ ?_ ?_
 exact az [63,62]
 exact az [3,25,7,61]
 refine au [51,17,46,4,3,25,11,34,12] ?_
 rintro x82 e82 ⟨a83,c84⟩
 refine au [0] ?_
 exact qH (a83,c84)
theorem qnv (hm:qeK F i1 m1 i2 i3 i4=some i5) :
    qEa 287 [qD2 i1,qD3 l1 m1 t1,.agg #[qD2 i2,qD2 i3,qD2 i4]] [qD5 l1 m1 t1] (qD2 i5):=by
 refine pureA func287 ntmps287 hm fun _=>?_
 refine au [126] ?_
 intro g8
 refine au [82,48,127] ?_
 refine zp 3 9 12 [1,5] (decide (1048576<i1)) ?_ ?_ ?_
 exact az [63,62]
 exact az [3,105]
 refine aw [0,2,11] ?_ ?_
 exact az [45,78]
 refine aw [12,2,1,1,4,10,20,25,1,0,2,11] ?_ ?_
 refine au [48,30,10] ?_
 intro x14 e14 _
 exact az [78]
 exact az [125,71]
theorem qnu {r:(Int×qD0×Int)}(hm:qeJ F i1 m1 m2 i2 i3 i4=some r) :
    Pure qD9 259 [qD2 i1,qD3 l1 m1 t1,qD3 l2 m2 t2,.agg #[qD2 i2,qD2 i3,qD2 i4]] [qD5 l1 m1 t1,qD5 l2 m2 t2] (qD1×Nat) (fun g=>.tuple #[.agg #[qD2 r.1,qD3 g.1 r.2.1 g.2],qD2 r.2.2]) (fun g=>[qD8 g.1 r.2.1 g.2]) (fun _=>[]):=by
 refine pureA func259 ntmps259 hm fun _=>?_
 refine au [28,12,99] ?_
 intro g11
 refine au [24,2] ?_
 intro g12
 refine au [83,25,11,30,1] ?_
 intro x13 e13 _
 refine au [47] ?_
 refine qg [0,1,2,7,8] [0,1] [] [0,1] (fun ((x19,_):Int×Unit)=>([(10,qD2 x19)],[],[],[],qaR F i1 m1 m2 i2 i3 i4 x19)) ?_ ?_
 refine au [48,25,6,3] ?_
 refine kH 7 [0,1,2,7,8,10] [0,1] [] [0,1] (fun ((x40,_):Bool×Unit)=>([(23,.bool x40)],[],[],[],qaU F i1 m1 m2 i2 i3 i4 x13 x40)) ?_ ?_
 refine qC (os:=_) rfl ?_
 refine av [26,5] ?_ ?_
 intro h38
 refine ko (k:=16) rfl h38 ?_
 refine au [3,127] ?_
 refine zp 3 19 22 [0,1,2,7,8,10,16] (decide (1048576<i1)) ?_ ?_ ?_
 exact az [63,62]
 exact az [3,105]
 refine au [113] ?_
 exact qa ((decide (i1<0) || decide (1048576<i1)),())
 intro h38
 refine km (k:=16) rfl h38 ?_
 refine au [68,63,112] ?_
 exact qa (false,())
 rintro ⟨x40,_⟩
 try dsimp only
 refine qC (os:=_) rfl ?_
 refine aw [0,2,11] ?_ ?_
 refine au [4,5,0] ?_
 exact qa ((3:Int),())
 refine au [12] ?_
 exact qa (x13,())
 rintro ⟨x19,_⟩
 try dsimp only
 refine qg [0,1,2,7,8] [0,1] [] [0,1] (fun ((x22,_):Int×Unit)=>([(10,qD2 x22)],[],[],[],qaS F i1 m1 m2 i2 i3 i4 x22)) ?_ ?_
 refine aw [1,4,3,25,6,0,2,11] ?_ ?_
 refine au [4,3,30,10] ?_
 intro x36 e36 _
 refine au [5,0] ?_
 exact qa (x36,())
 refine au [12] ?_
 exact qa (x19,())
 rintro ⟨x22,_⟩
 try dsimp only
 refine qg [0,1,2,7,8] [0,1] [] [0,1] (fun ((x25,_):Int×Unit)=>([(10,qD2 x25)],[],[],[],qaT F i1 m1 m2 i2 i3 i4 x25)) ?_ ?_
 refine aw [1,4,3,25,6,0,2,11] ?_ ?_
 refine au [4,91,25,11] ?_
 refine qd qnv ?_
 intro x34 e34 _
 refine au [5,0] ?_
 exact qa (x34,())
 refine au [12] ?_
 exact qa (x22,())
 rintro ⟨x25,_⟩
 refine aw [39,1,1,4,3,25,4,0,2,11] ?_ ?_
 refine au [45] ?_
 refine qF [qD2 0,.slice none 0 0] ?_
 exact az [3,17,59,26,2,35,3]
 refine au [125] ?_
 refine qF [qD2 0,.slice none 0 0,.bool false] ?_
 refine au [24,0] ?_
 intro g27
 refine au [60,91,3,26,9,29,14,35,7] ?_
 rintro x28 e28 ⟨a29,c30⟩
 refine aw [0,2,1,1,4,3,24,11,10,20,0,2,11] ?_ ?_
 refine au [45] ?_
 refine qF [qD2 0,.slice none 0 0] ?_
 exact az [25,5,59,26,2,32,9]
 refine au [57,48,51,24,12,25,5,49] ?_
 exact zW (a29,c30) 1
theorem qoU {r:(Int×Int×qD0×Bool)}(hm:qfz F p1 m1 i1 i2 i3 i4=some r) :
    Pure qD9 230 [qD3 l1 p1 t1,qD3 l2 m1 t2,qD2 i1,.agg #[qD2 i2,qD2 i3,qD2 i4]] [SlN eN56 iN56 1 (qD3 l1 p1 t1) p1 n1,qD5 l2 m1 t2] (qD1×Nat) (fun g=>.tuple #[.agg #[qD2 r.1,qD2 r.2.1,qD3 g.1 r.2.2.1 g.2],.bool r.2.2.2]) (fun g=>[qD8 g.1 r.2.2.1 g.2]) (fun _=>[]):=by
 refine pureA func230 ntmps230 hm fun _=>?_
 refine au [28,12,99] ?_
 intro g11
 refine au [24,2] ?_
 intro g12
 refine au [60,24,7,83] ?_
 refine qF [qD2 0,.slice none 0 0] ?_
 refine au [24,2] ?_
 intro g13
 refine au [17,46] ?_
 refine qg [0,1,2,7,8,10,11] [1,2] [] [0,1] (fun (((x18,x21),a19,c20):(Int×qD0)×qD1×Nat)=>([],[⟨g13,65,[qD2 x18,qD3 a19 x21 c20]⟩],[qD8 a19 x21 c20],[],qbG F p1 m1 i1 i3 i4 x18 x21)) ?_ ?_
 refine aw [1,4,10,26,1,25,1,0,2,11] ?_ ?_
 refine au [4,3,25,10,34,11] ?_
 rintro x46 e46 ⟨a47,c48⟩
 refine au [80] ?_
 exact qa ((x46.1,x46.2),a47,c48)
 refine au [12,26,2] ?_
 exact qa (((0:Int),([]:qD0)),none,0)
 rintro ⟨⟨x18,x21⟩,a19,c20⟩
 refine au [39,45,47] ?_
 refine qg [1,2,7,8,10,11] [0,1,2] [0] [1] (fun ((x29,a27,c28):qD0×qD1×Nat)=>([(12,qD3 a27 x29 c28)],[],[],[qD5 a27 x29 c28],qbH F p1 m1 i1 i3 i4 x18 x21 x29)) ?_ ?_
 refine aw [1,4,3,25,1,0,2,11] ?_ ?_
 refine au [4,91,3,25,9,27,6] ?_
 intro x41 e41 g44 b42 o43
 refine au [25,3,5,0] ?_
 exact qa (x41,g44.1,g44.2)
 refine au [12,25,8] ?_
 exact qlR 0 rfl (qa (([]:qD0),none,0))
 rintro ⟨x29,a27,c28⟩
 refine au [92,10,25,5,117,91,25,11] ?_
 refine qd qnu ?_
 rintro x30 e30 ⟨a31,c32⟩
 refine au [3,81,24,2] ?_
 intro g33
 refine au [17,82,48,25,4,3] ?_
 refine zp 7 44 51 [2,8,11,13] (decide (8192<(iadd .i64 x18 x30.1))) ?_ ?_ ?_
 exact az [68,63,62]
 exact az [10,29,3,67,23,105]
 refine aw [0,2,11] ?_ ?_
 refine au [45] ?_
 refine qF [qD2 0,qD2 0,.slice none 0 0] ?_
 exact az [25,5,59,26,2,32,9]
 refine au [57,48,32,1,24,12,31,3] ?_
 rintro x37 e37 ⟨a38,c39⟩
 refine qF [qD2 i1,qD2 x37.1,qD3 a38 x37.2 c39] ?_
 refine au [25,5,49] ?_
 exact zW (a38,c39) 1
theorem qoT {r:(Int×Int×qD0×Bool)}(hm:qhd F p1 m1 i1 i2 i3=some r) :
    Pure qD9 191 [qD3 l1 p1 t1,qD3 l2 m1 t2,.agg #[qD2 i1,qD2 i2,qD2 i3]] [SlN eN56 iN56 1 (qD3 l1 p1 t1) p1 n1,qD5 l2 m1 t2] (qD1×Nat) (fun g=>.tuple #[.agg #[qD2 r.1,qD2 r.2.1,qD3 g.1 r.2.2.1 g.2],.bool r.2.2.2]) (fun g=>[qD8 g.1 r.2.2.1 g.2]) (fun _=>[]):=by
 refine pureA func191 ntmps191 hm fun _=>?_
 refine au [126] ?_
 intro g10
 refine au [24,2] ?_
 intro g11
 refine au [47] ?_
 refine qL (fun (((x96,x97,x98,x0),a99,c0):(Bool×Int×Int×qD0)×qD1×Nat)=>([(6,qD4 g11),(7,.bool x96)],[⟨g11,247,[qD2 x97,qD2 x98,qD3 a99 x0 c0]⟩],[qD8 a99 x0 c0],[],qfb F x96 x97 x98 x0)) ?_ ?_
 refine au [45,94,3,24,7,29,0,88,75,31,4] ?_
 refine qm [0,1,5,6,16] [1] [] [0,1] (fun (((x2,x3,x5,x6,x10),a0,c1):(Bool×Int×Int×Int×qD0)×qD1×Nat)=>([(7,.bool x2),(17,qD2 x3)],[⟨g11,247,[qD2 x5,qD2 x6,qD3 a0 x10 c1]⟩],[qD8 a0 x10 c1],[])) (false,(0:Int),(0:Int),(0:Int),([]:qD0)) (none,0) ?_
 intro k0
 rintro ⟨⟨x2,x3,x5,x6,x10⟩,a0,c1⟩
 refine aw [39,1,4,24,4,0,2,1,11] ?_ ?_
 refine au [57] ?_
 refine qg [0,1,5,6,16,17] [0] [] [0,1] (fun (((x11,x12,x13,x14),a1,c2):(Bool×Int×Int×qD0)×qD1×Nat)=>([(7,.bool x11)],[⟨g11,247,[qD2 x12,qD2 x13,qD3 a1 x14 c2]⟩],[qD8 a1 x14 c2],[],vl F (vm F p1 m1 i1 i2 i3 k0) x3 x11 x12 x13 x14)) ?_ ?_
 refine au [14,48,60,91,24,12] ?_
 refine qd qoU ?_
 rintro x15 e0 ⟨a3,c4⟩
 refine au [3,81,24,2] ?_
 intro g0
 refine au [17,60,3] ?_
 refine kH 12 [0,1,5,6,7,9,16,17] [0,1,2] [0,1] [0,1] (fun ((x16,_):Bool×Unit)=>([(41,.bool x16)],[],[],[],qch F (vm F p1 m1 i1 i2 i3 k0) x2 x3 x5 x6 x10 x15 x16)) ?_ ?_
 refine qC (os:=_) rfl ?_
 refine av [26,5] ?_ ?_
 intro h0
 refine ko (k:=29) rfl h0 ?_
 refine au [3,25,7,3] ?_
 refine qjl 8 (!x2) [(0,qD3 l1 p1 t1),(1,qD3 l2 m1 t2),(5,qD4 g10),(6,qD4 g11),(7,.bool x2),(16,qD2 (iadd .i64 (imin i1 (p1.length:Int)) 1)),(17,qD2 x3),(9,qD4 g0),(29,.bool true),(30,.bool x2),(31,.bool (!x2)),(32,.bool (!x2)),(40,.bool ((!x2) || decide (x15.2.1<x6)))] (fun h1=>?_) (fun h1=>?_) ?_
 refine qC (os:=_) rfl (ko (k:=32) rfl h1 ?_)
 refine au [68,63,7,24,8] ?_
 refine qp (d:=40) (v:=.bool ((!x2) || decide (x15.2.1<x6))) rfl (by rw[h1];simp only[Bool.true_or]) (qp (d:=32) (v:=.bool (!x2)) rfl (by simp only[qD3,h1] <;> rfl) ?_)
 exact az [50]
 refine qC (os:=_) rfl (km (k:=32) rfl h1 ?_)
 refine au [10,67,10,118,24,4,24,9] ?_
 refine qp (d:=40) (v:=.bool ((!x2) || decide (x15.2.1<x6))) rfl (by rw[h1];simp only[Bool.false_or]) (qp (d:=32) (v:=.bool (!x2)) rfl (by simp only[qD3,h1] <;> rfl) ?_)
 exact az [50]
 refine qC (os:=_) rfl ?_
 refine au [113] ?_
 exact qa (((!x2) || decide (x15.2.1<x6)),())
 intro h0
 refine km (k:=29) rfl h0 ?_
 refine au [68,68,63,7,112] ?_
 exact qa (false,())
 rintro ⟨x16,_⟩
 try dsimp only
 refine qC (os:=_) rfl ?_
 refine aw [0,2,11] ?_ ?_
 refine au [4,24,12,27,13,5,121] ?_
 exact qa ((true,x15.1,x15.2.1,x15.2.2.1),a3,c4)
 refine au [12,24,3] ?_
 exact qa ((x2,x5,x6,x10),a0,c1)
 rintro ⟨⟨x11,x12,x13,x14⟩,a1,c2⟩
 refine au [39,97] ?_
 exact qj ((x11,iadd .i64 x3 1,x12,x13,x14),a1,c2)
 refine au [72] ?_
 exact qa ((x2,x5,x6,x10),a0,c1)
 rintro ⟨⟨x96,x97,x98,x0⟩,a99,c0⟩
 refine au [39,74,3,17,49] ?_
 exact zW (a99,c0) 0
theorem qid {r:(Bool×Int×Int×Int×Int×Int×qD0×qD0×qD0)}(hm:qcp F i1 i2 i3 i4 i5 m1 m2 m3 p1=some r) :
    PureM qD9 164 [qD4 t1,.agg #[qD3 l4 p1 t5]] [⟨t1,169,[qD2 i1,qD2 i2,qD2 i3,qD2 i4,qD2 i5,qD3 l1 m1 t2,qD3 l2 m2 t3,qD3 l3 m3 t4]⟩] [qD8 l1 m1 t2,qD6 l2 m2 t3,qD6 l3 m3 t4] [SlN eN56 iN56 1 (qD3 l4 p1 t5) p1 n1] ((qD1×Nat)×(qD1×Nat)×qD1×Nat) (fun _=>.bool r.1) (fun g=>[⟨t1,169,[qD2 r.2.1,qD2 r.2.2.1,qD2 r.2.2.2.1,qD2 r.2.2.2.2.1,qD2 r.2.2.2.2.2.1,qD3 g.1.1 r.2.2.2.2.2.2.1 g.1.2,qD3 g.2.1.1 r.2.2.2.2.2.2.2.1 g.2.1.2,qD3 g.2.2.1 r.2.2.2.2.2.2.2.2 g.2.2.2]⟩]) (fun g=>[qD8 g.1.1 r.2.2.2.2.2.2.1 g.1.2,qD6 g.2.1.1 r.2.2.2.2.2.2.2.1 g.2.1.2,qD6 g.2.2.1 r.2.2.2.2.2.2.2.2 g.2.2.2]):=by
 refine pureMA func164 ntmps164 hm fun _=>?_
 refine au [79] ?_
 intro g19
 refine au [47] ?_
 refine qL (fun (((x0,x1,x8,x9),a0,c0,a1,c1,a2,c2):(Int×qD0×qD0×qD0)×qD1×Nat×qD1×Nat×qD1×Nat)=>([],[⟨t1,169,[qD2 i1,qD2 i2,qD2 i3,qD2 i4,qD2 x0,qD3 a0 x1 c0,qD3 a1 x8 c1,qD3 a2 x9 c2]⟩],[qD8 a0 x1 c0,qD6 a1 x8 c1,qD6 a2 x9 c2],[],qar F i1 i2 i3 i4 x0 x1 x8 x9)) ?_ ?_
 refine au [45,67,86] ?_
 refine qm [0,3,10,11] [0] [] [0] (fun (((x11,x12,x14,x15,x17),a3,c3,a4,c4,a5,c5):(Int×Int×qD0×qD0×qD0)×qD1×Nat×qD1×Nat×qD1×Nat)=>([(12,qD2 x11)],[⟨t1,169,[qD2 i1,qD2 i2,qD2 i3,qD2 i4,qD2 x12,qD3 a3 x14 c3,qD3 a4 x15 c4,qD3 a5 x17 c5]⟩],[qD8 a3 x14 c3,qD6 a4 x15 c4,qD6 a5 x17 c5],[])) ((0:Int),i5,m1,m2,m3) (l1,t2,l2,t3,l3,t4) ?_
 intro k0
 rintro ⟨⟨x11,x12,x14,x15,x17⟩,a3,c3,a4,c4,a5,c5⟩
 refine aw [39,1,4,24,4,0,2,1,11] ?_ ?_
 refine au [85,48,27,6] ?_
 intro x18 e0 g0 b0 o0
 refine au [25,3,5,47] ?_
 refine qg [0,3,10,11,12] [0,1] [0,1,2] [2] (fun (((x19,x20,x21,x22),g2,a6,c6):(Bool×Int×Int×qD0)×Nat×qD1×Nat)=>([(7,qD4 g2),(8,.bool x19)],[⟨g2,247,[qD2 x20,qD2 x21,qD3 a6 x22 c6]⟩],[qD8 a6 x22 c6],[],qas F (kD F i1 i2 i3 i4 p1 k0) i1 i2 i3 i4 x11 x12 x14 x15 x17 x19 x20 x21 x22)) ?_ ?_
 refine qt2 2 qn rfl ?_
 intro x23 e1 a7 c7 g3 h0 h1
 refine qE [] [0,0] [0,1,2,3] 17 ?_
 refine au [114,6,2] ?_
 refine qb 3 (qD3 a7 x23 c7) rfl rfl rfl (qcw underlying22 tf56 rfl rfl rfl e1 h1 h0) ?_
 refine au [6,4,6,5,6,6,18,7,18,8] ?_
 refine qr 9 (.agg #[qD2 i2,qD2 i3,qD2 i4]) rfl rfl rfl (qq (i:=1) rfl tf26 rfl rfl (by simp) rfl) (zJ 10 14 rfl rfl (by kernel_rfl) rfl rfl ?_ ?_)
 refine au [35,8] ?_
 rintro x24 e2 ⟨a9,c8⟩
 refine au [0,35,9,76,6,13,9,14,24,2] ?_
 intro g4
 refine au [0,30,11,9,15,80,30,11,6,16,54] ?_
 exact qa ((x24.2.2.2,x24.1,x24.2.1,x24.2.2.1),g4,a9,c8)
 refine au [24,2] ?_
 intro g5
 refine au [0,30,11,9,10,35,8] ?_
 rintro x25 e3 ⟨a10,c10⟩
 refine au [0,30,11,76,6,13,9,15,80,30,11,6,16,54] ?_
 exact qa ((x25.2.2.2,x25.1,x25.2.1,x25.2.2.1),g5,a10,c10)
 rintro ⟨⟨x19,x20,x21,x22⟩,g2,a6,c6⟩
 refine au [39,1] ?_
 refine qg [0,3,7,10,11,12] [0,1,2] [0,1,2,3] [0] (fun ((x26,_):Bool×Unit)=>([(45,.bool x26)],[],[],[],ye F (kD F i1 i2 i3 i4 p1 k0) i1 i2 i3 i4 x11 x12 x14 x15 x17 x20 x21 x22 x26)) ?_ ?_
 refine av [30,8] ?_ ?_
 intro h2
 refine au [35,10,96] ?_
 refine yA 33 h2 ?_
 refine au [19,3,19,4,19,5,19,6,19,7,19,8,19,9,19,10,19,11,19,12,19,13,6,14,54] ?_
 exact qa (true,())
 intro h2
 refine au [35,10,96] ?_
 refine yA 33 h2 ?_
 refine au [6,3,6,4,18,5,18,6,18,7,26,10,8,18,9,18,10,29,2,11,6,12,124,54] ?_
 exact qa ((decide (8192<(iadd .i64 x12 x21))),())
 rintro ⟨x26,_⟩
 refine aw [39,11] ?_ ?_
 refine au [45,59,111,52] ?_
 exact qH ((a3,c3),(a4,c4),a5,c5)
 refine au [57] ?_
 refine qg [0,3,7,10,11,12] [0,2] [0,3] [0] (fun (((x27,x28),a12,c11,a13,c13):(qD0×qD0)×qD1×Nat×qD1×Nat)=>([],[⟨t1,169,[qD2 i1,qD2 i2,qD2 i3,qD2 i4,qD2 x12,qD3 a3 x14 c3,qD3 a12 x27 c11,qD3 a13 x28 c13]⟩],[qD6 a12 x27 c11,qD6 a13 x28 c13],[],qat F (kD F i1 i2 i3 i4 p1 k0) x11 x12 x14 x21 x22 x27 x28)) ?_ ?_
 refine kg mixed [24,27] _ _ (.cons 0 rfl (.cons 1 rfl .nil)) (qh 0 rfl (qgl 1 rfl qf)) 28 rfl ?_
 refine au [96,6,3,18,4] ?_
 refine qz 5 (qD3 a4 x15 c4) [[24],[27]] rfl rfl rfl (kM (j:=1) rfl tf56 rfl rfl (fun _=>rfl) rfl) ?_
 refine au [18,6,26,10,7,6,10,6,11,18,12] ?_
 refine qz 13 (qD3 a5 x17 c5) [[24],[27]] rfl rfl rfl (kM (j:=1) rfl tf56 rfl rfl (fun _=>rfl) rfl) ?_
 refine au [6,14,6,15,18,16,18,17,18,18] ?_
 refine qz 19 (qD2 x12) [[24],[27]] rfl rfl rfl (kM (j:=1) rfl tf3 rfl rfl (fun _=>rfl) rfl) (zJ 8 20 rfl rfl (by kernel_rfl) rfl rfl ?_ ?_)
 refine zw [x20] (fun a15 c14=>?_)
 refine au [0,27,14] ?_
 refine zJ 9 20 rfl rfl (by kernel_rfl) rfl rfl ?_ ?_
 refine zo 2 (qA .i64) rfl underlying56 tf3 rfl rfl rfl rfl rfl (.inl ⟨0,_,rfl⟩) rfl rfl (fun x29 e4 a16 c16=>?_)
 refine au [0,27,14,9,20] ?_
 refine zw [x12] (fun a18 c17=>?_)
 refine au [0,27,14,9,21] ?_
 refine zo 4 (qA .i64) rfl underlying56 tf3 rfl rfl rfl rfl rfl (.inl ⟨0,_,rfl⟩) rfl rfl (fun x30 e5 a19 c19=>?_)
 refine au [0,27,14,6,22,18,23,9,24,25,5,0,29,15,6,25,18,26,9,27,25,5,0,29,15,54] ?_
 exact qa ((x29,x30),a16,c16,a19,c19)
 refine zw [x12] (fun a20 c20=>?_)
 refine au [0,27,14,9,9] ?_
 refine zo 3 (qA .i64) rfl underlying56 tf3 rfl rfl rfl rfl rfl (.inl ⟨1,_,rfl⟩) rfl rfl (fun x31 e6 a21 c21=>?_)
 refine au [0,27,14,9,21] ?_
 refine zo 4 (qA .i64) rfl underlying56 tf3 rfl rfl rfl rfl rfl (.inl ⟨1,_,rfl⟩) rfl rfl (fun x32 e7 a22 c22=>?_)
 refine au [0,27,14,6,22,18,23,9,24,25,5,0,29,15,6,25,18,26,9,27,25,5,0,29,15,54] ?_
 exact qa ((x31,x32),a21,c21,a22,c22)
 refine zw [x12] (fun a23 c23=>?_)
 refine au [0,27,14,9,8] ?_
 refine zw [x20] (fun a24 c24=>?_)
 refine au [0,27,14,9,9] ?_
 refine zo 3 (qA .i64) rfl underlying56 tf3 rfl rfl rfl rfl rfl (.inl ⟨0,_,rfl⟩) rfl rfl (fun x33 e8 a25 c25=>?_)
 refine au [0,27,14,9,21] ?_
 refine zo 4 (qA .i64) rfl underlying56 tf3 rfl rfl rfl rfl rfl (.inl ⟨2,_,rfl⟩) rfl rfl (fun x34 e9 a26 c26=>?_)
 refine au [0,27,14,6,22,18,23,9,24,25,5,0,29,15,6,25,18,26,9,27,25,5,0,29,15,54] ?_
 exact qa ((x33,x34),a25,c25,a26,c26)
 rintro ⟨⟨x27,x28⟩,a12,c11,a13,c13⟩
 try dsimp only
 refine kg mixed [12] _ _ (.cons 0 rfl (.cons 0 rfl .nil)) (qh 0 rfl (qgl 2 rfl qf)) 13 rfl ?_
 refine au [96,18,3,18,4] ?_
 refine qz 5 (.agg #[qD2 x12,.slice a3 x14.length c3]) [[12]] rfl rfl rfl (kM (j:=1) rfl tf65 rfl rfl (by simp) rfl) ?_
 refine au [18,6] ?_
 refine qr 7 (.agg #[qD2 x21,.slice a6 x22.length c6]) rfl rfl rfl (qq (i:=1) rfl tf65 rfl rfl (by simp) rfl) ?_
 refine au [9,8,31,3] ?_
 rintro x35 e10 ⟨a27,c27⟩
 refine au [0] ?_
 refine qc (.cons 0 rfl (.cons 0 rfl .nil)) (qh 0 rfl (qgl 2 rfl qf)) ?_
 refine au [6,9,18,10,18,11,9,12,27,13,0] ?_
 refine kQ 12 rfl (by kernel_rfl) (.cons 0 rfl (.cons 0 rfl .nil)) ?_
 refine au [54,98] ?_
 exact qj ((iadd .i64 x11 1,x35.1,x35.2,x27,x28),a27,c27,a12,c11,a13,c13)
 refine au [72] ?_
 exact qa ((x12,x14,x15,x17),a3,c3,a4,c4,a5,c5)
 rintro ⟨⟨x0,x1,x8,x9⟩,a0,c0,a1,c1,a2,c2⟩
 refine au [39,45,49] ?_
 exact qH ((a0,c0),(a1,c1),a2,c2)
theorem ql5 {r:(Int×Int×Int×Int×Int×qD0×qD0×qD0×Int)}(hm:qb2 F p1 i1 i2 i3=some r) :
    PureM qD9 121 [.agg #[qD3 l1 p1 t1],.agg #[qD2 i1,qD2 i2,qD2 i3]] [] [] [SlN eN56 iN56 1 (qD3 l1 p1 t1) p1 n1] ((qD1×Nat)×(qD1×Nat)×(qD1×Nat)×Nat) (fun g=>.tuple #[qD4 g.2.2.2,qD2 r.2.2.2.2.2.2.2.2]) (fun g=>[⟨g.2.2.2,169,[qD2 r.1,qD2 r.2.1,qD2 r.2.2.1,qD2 r.2.2.2.1,qD2 r.2.2.2.2.1,qD3 g.1.1 r.2.2.2.2.2.1 g.1.2,qD3 g.2.1.1 r.2.2.2.2.2.2.1 g.2.1.2,qD3 g.2.2.1.1 r.2.2.2.2.2.2.2.1 g.2.2.1.2]⟩]) (fun g=>[qD8 g.1.1 r.2.2.2.2.2.1 g.1.2,qD6 g.2.1.1 r.2.2.2.2.2.2.1 g.2.1.2,qD6 g.2.2.1.1 r.2.2.2.2.2.2.2.1 g.2.2.1.2]):=by
 refine pureMA func121 ntmps121 hm fun _=>?_
 refine au [79] ?_
 intro g7
 refine au [24,0] ?_
 intro g8
 refine au [5,83,25,11,28,7] ?_
 intro x9 e9 _
 refine au [47] ?_
 refine qg [2,3] [0,1] [] [0] (fun ((x12,_):Int×Unit)=>([(6,qD2 x12)],[],[],[],jZ F p1 i1 i2 i3 x12)) ?_ ?_
 refine aw [1,4,3,25,6,0,2,11] ?_ ?_
 refine au [4,24,12,30,1] ?_
 intro x97 e97 _
 refine au [5,0] ?_
 exact qa (x97,())
 refine au [12] ?_
 exact qa (x9,())
 rintro ⟨x12,_⟩
 refine au [39,45,94,24,7,24,12] ?_
 refine qF [qD2 (p1.length:Int),qD2 i1,qD2 i2,qD2 i3,qD2 0,.slice none 0 0] ?_
 refine qF [qD2 (p1.length:Int),qD2 i1,qD2 i2,qD2 i3,qD2 0,.slice none 0 0,.slice none 0 0,.slice none 0 0] ?_
 refine au [24,0] ?_
 intro g13
 refine au [47] ?_
 refine qL (fun (((x48,x49,x50,x51,x52,x53,x56,x59,x62),a54,c55,a57,c58,a60,c61):(Int×Int×Int×Int×Int×Int×qD0×qD0×qD0)×qD1×Nat×qD1×Nat×qD1×Nat)=>([(6,qD2 x48),(7,qD4 g13)],[⟨g13,169,[qD2 x49,qD2 x50,qD2 x51,qD2 x52,qD2 x53,qD3 a54 x56 c55,qD3 a57 x59 c58,qD3 a60 x62 c61]⟩],[qD8 a54 x56 c55,qD6 a57 x59 c58,qD6 a60 x62 c61],[],vv F x48 x49 x50 x51 x52 x53 x56 x59 x62)) ?_ ?_
 refine au [48,25,6,3] ?_
 refine kH 5 [6,7] [] [] [] (fun (((x74,x75,x76,x77,x78,x79,x82,x85,x88),a80,c81,a83,c84,a86,c87):(Bool×Int×Int×Int×Int×Int×qD0×qD0×qD0)×qD1×Nat×qD1×Nat×qD1×Nat)=>([(28,.bool x74)],[⟨g13,169,[qD2 x75,qD2 x76,qD2 x77,qD2 x78,qD2 x79,qD3 a80 x82 c81,qD3 a83 x85 c84,qD3 a86 x88 c87]⟩],[qD8 a80 x82 c81,qD6 a83 x85 c84,qD6 a86 x88 c87],[],vw F x12 x74 x75 x76 x77 x78 x79 x82 x85 x88)) ?_ ?_
 refine qC (os:=_) rfl ?_
 refine av [26,5] ?_ ?_
 intro h63
 refine ko (k:=23) rfl h63 ?_
 refine au [3,26,9,29,14,26,11,26,11] ?_
 refine qs qid ?_
 rintro x90 e90 ⟨⟨a91,c92⟩,⟨a93,c94⟩,a95,c96⟩
 refine au [25,7,113] ?_
 exact qa (((!x90.1),x90.2.1,x90.2.2.1,x90.2.2.2.1,x90.2.2.2.2.1,x90.2.2.2.2.2.1,x90.2.2.2.2.2.2.1,x90.2.2.2.2.2.2.2.1,x90.2.2.2.2.2.2.2.2),a91,c92,a93,c94,a95,c96)
 intro h63
 refine km (k:=23) rfl h63 ?_
 refine au [68,112,26,2,25,8,25,8] ?_
 exact qa ((false,(p1.length:Int),i1,i2,i3,(0:Int),([]:qD0),([]:qD0),([]:qD0)),none,0,none,0,none,0)
 rintro ⟨⟨x74,x75,x76,x77,x78,x79,x82,x85,x88⟩,a80,c81,a83,c84,a86,c87⟩
 try dsimp only
 refine qC (os:=_) rfl ?_
 refine aw [0,2,11] ?_ ?_
 refine au [4,5,0] ?_
 exact qa (((8:Int),x75,x76,x77,x78,x79,x82,x85,x88),a80,c81,a83,c84,a86,c87)
 refine au [12] ?_
 exact qa ((x12,x75,x76,x77,x78,x79,x82,x85,x88),a80,c81,a83,c84,a86,c87)
 rintro ⟨⟨x48,x49,x50,x51,x52,x53,x56,x59,x62⟩,a54,c55,a57,c58,a60,c61⟩
 refine au [92,3,5,49] ?_
 exact qH ((a54,c55),(a57,c58),(a60,c61),g13)
theorem qnm {r:(Int×Int×Int×Int×Int×qD0×Int)}(hm:qbR F p1 i1 i2 i3=some r) :
    Pure qD9 87 [.agg #[qD3 l1 p1 t1],.agg #[qD2 i1,qD2 i2,qD2 i3]] [SlN eN56 iN56 1 (qD3 l1 p1 t1) p1 n1] (qD1×Nat) (fun g=>.tuple #[.agg #[qD2 r.1,qD2 r.2.1,qD2 r.2.2.1,qD2 r.2.2.2.1,qD2 r.2.2.2.2.1,qD3 g.1 r.2.2.2.2.2.1 g.2],qD2 r.2.2.2.2.2.2]) (fun g=>[qD8 g.1 r.2.2.2.2.2.1 g.2]) (fun _=>[]):=by
 refine pureA func87 ntmps87 hm fun _=>?_
 refine au [79] ?_
 intro g7
 refine au [24,0] ?_
 intro g8
 refine au [24,2] ?_
 intro g9
 refine au [83,26,9,25,11,35,11] ?_
 rintro x10 e10 ⟨⟨a11,c12⟩,⟨a13,c14⟩,⟨a15,c16⟩,g17⟩
 refine aw [3,22,22,5,5,0,2,1,1,4,3,25,4,0,2,11] ?_ ?_
 refine au [45] ?_
 refine qF [qD2 0,qD2 0,qD2 0,qD2 0,qD2 0,.slice none 0 0] ?_
 exact az [3,25,5,59,26,2,32,9]
 refine au [57,48,51,24,12,25,5,49] ?_
 exact zW (a11,c12) 1
theorem qiD (F g1:Nat)(x2:List (qD0))(a3:qD1)(c4:(Nat×List (qD1×Nat)))(x5 x6 x7:Int)(x8:qD0)(a9:qD1)(c10:Nat)(x11:qD0)(r:(Int×qD0))(hm:qfs F x2 x5 x6 x7 x8 x11=some r) :
    PureM qD9 62 [qD4 g1] [⟨g1,85,[qD3 a3 x2 c4.1,qD2 x5,qD2 x6,qD2 x7,qD3 a9 x8 c10,.string (bstr x11)]⟩] [] [SlN eN56 iN56 1 (qD3 a3 x2 c4.1) x2 c4.2,qD5 a9 x8 c10,GF] Unit (fun _=>qD2 r.1) (fun _=>[⟨g1,85,[qD3 a3 x2 c4.1,qD2 x5,qD2 x6,qD2 x7,qD3 a9 x8 c10,.string (bstr r.2)]⟩]) (fun _=>[]):=by
 refine pureMA func62 ntmps62 hm fun _=>?_
 refine au [64,47] ?_
 refine qg [0] [0] [] [0,1,2] (fun (((x21,x22,x23,x24,x25,x26,x29),g20,a27,c28):(Int×Int×Int×Int×Int×Int×qD0)×Nat×qD1×Nat)=>([(3,qD4 g20),(4,qD2 x21)],[⟨g20,67,[qD2 x22,qD2 x23,qD2 x24,qD2 x25,qD2 x26,qD3 a27 x29 c28]⟩],[qD8 a27 x29 c28],[],qd5 F x21 x22 x23 x24 x25 x26 x29)) ?_ ?_
 refine au [35,12,70,18,2,18,3] ?_
 refine qr 4 (.agg #[.slice a3 x2.length c4.1]) rfl rfl rfl (qq (i:=0) rfl tf24 rfl rfl (by simp) rfl) ?_
 refine au [6,5,6,6,18,7,18,8] ?_
 refine qr 9 (.agg #[qD2 x5,qD2 x6,qD2 x7]) rfl rfl rfl (qq (i:=0) rfl tf26 rfl rfl (by simp) rfl) (zJ 10 14 rfl rfl (by kernel_rfl) rfl rfl ?_ ?_)
 refine au [31,5] ?_
 rintro x31 e31 ⟨a32,c33⟩
 refine au [0,35,13,76,6,13,9,14,24,2] ?_
 intro g34
 refine au [0,28,2,9,15,80,28,2,6,16,54] ?_
 exact qa ((x31.2.2.2.2.2.2,x31.1,x31.2.1,x31.2.2.1,x31.2.2.2.1,x31.2.2.2.2.1,x31.2.2.2.2.2.1),g34,a32,c33)
 refine au [24,2] ?_
 intro g35
 refine au [0,28,2,9,10,31,5] ?_
 rintro x36 e36 ⟨a37,c38⟩
 refine au [0,28,2,76,6,13,9,15,80,28,2,6,16,54] ?_
 exact qa ((x36.2.2.2.2.2.2,x36.1,x36.2.1,x36.2.2.1,x36.2.2.2.1,x36.2.2.2.2.1,x36.2.2.2.2.2.1),g35,a37,c38)
 rintro ⟨⟨x21,x22,x23,x24,x25,x26,x29⟩,g20,a27,c28⟩
 refine au [92,10,94] ?_
 refine yY EnC.e rfl rfl rfl (fun x30 e30=>qfq x26 x30 e30) (.consF 2 rfl .nil) (fun x30 e30 _=>?_)
 exact az [51,17,117,90]
theorem qoS {r:(qD0×qD0×Int)}(hm:qd8 F p1 i1 i2 i3=some r) :
    Pure qD9 165 [.agg #[qD3 l1 p1 t1],.agg #[qD2 i1,qD2 i2,qD2 i3]] [SlN eN56 iN56 1 (qD3 l1 p1 t1) p1 n1] ((qD1×Nat)×qD1×Nat) (fun g=>.tuple #[qD3 g.1.1 r.1 g.1.2,qD3 g.2.1 r.2.1 g.2.2,qD2 r.2.2]) (fun g=>[qD6 g.1.1 r.1 g.1.2,qD6 g.2.1 r.2.1 g.2.2]) (fun _=>[]):=by
 refine pureA func165 ntmps165 hm fun _=>?_
 refine au [79] ?_
 intro g7
 refine au [24,0] ?_
 intro g8
 refine au [5,5,83,25,11,24,12,35,11] ?_
 rintro x9 e9 ⟨⟨a10,c11⟩,⟨a12,c13⟩,⟨a14,c15⟩,g16⟩
 refine aw [3,22,22,5,5,0,2,1,1,4,3,25,4,0,2,11] ?_ ?_
 refine au [48,5,5,104,25,8] ?_
 exact qx ((none,0),none,0)
 refine au [84] ?_
 refine qE [] [0,0,0] [0] 11 ?_
 refine au [70,18,2,24,15,3,6,4,6,5,18,6,24,15,7,6,8,123,54,2,8] ?_
 exact qx ((a12,c13),a14,c15)
theorem qng (hm:qcN F m1 i1=some i2) :
    qEa 193 [qD3 l1 m1 t1,qD2 i1] [qD5 l1 m1 t1] (qD2 i2):=by
 refine pureA func193 ntmps193 hm fun _=>?_
 refine au [55,82,14,48,127] ?_
 refine zp 3 11 14 [0,1] (decide (1048576<i1)) ?_ ?_ ?_
 exact az [63,62]
 exact az [3,105]
 refine aw [5,0,2,11] ?_ ?_
 exact az [45,49,110]
 refine aw [1,4,3,24,7,25,1,5,0,2,11] ?_ ?_
 exact az [45,49,110]
 refine au [12,65,45,47] ?_
 refine qL (fun ((_,_):Unit×Unit)=>([],[],[],[],qgW F)) ?_ ?_
 refine au [48,86] ?_
 refine qm [1,19,20] [] [] [0] (fun (((x92,x93),_):(Int×Int)×Unit)=>([(5,qD2 x92),(21,qD2 x93)],[],[],[])) ((0:Int),(0:Int)) () ?_
 intro k0
 rintro ⟨⟨x92,x93⟩,_⟩
 refine aw [39,1,4,24,4,0,2,1,11] ?_ ?_
 refine au [85,45,26,4] ?_
 intro x0 e0 b0 o0
 refine au [25,3,82,14,48,127] ?_
 refine zp 4 28 32 [1,5,19,20,21,7] (decide (i1<x0)) ?_ ?_ ?_
 exact az [63,7,62]
 exact az [91,105]
 refine aw [5,0,2,11] ?_ ?_
 exact az [45,49,52,111,110]
 refine aw [1,4,3,3,24,4,5,0,2,11] ?_ ?_
 exact az [45,49,52,111,110]
 refine au [12,65,4,3,5,0,98] ?_
 exact qj ((x0,iadd .i64 x93 1),())
 exact az [122]
 rintro ⟨_,_⟩
 exact az [39,45,71]
theorem qnh (hm:qcS F i1 i2=some i3) :
    qEa 234 [qD2 i1,qD2 i2] [] (qD2 i3):=by
 refine pureA func234 ntmps234 hm fun _=>?_
 refine au [55,47] ?_
 refine qL (fun ((x35,_):Int×Unit)=>([(4,qD2 x35)],[],[],[],qgX F x35)) ?_ ?_
 refine au [14] ?_
 refine qm [0,1] [] [] [] (fun ((x46,_):Int×Unit)=>([(4,qD2 x46)],[],[],[])) (0:Int) () ?_
 intro k57
 rintro ⟨x46,_⟩
 refine au [39,1,48,25,1,3] ?_
 refine kH 8 [0,1,4] [] [] [] (fun ((x65,_):Bool×Unit)=>([(15,.bool x65)],[],[],[],jY F (qbO F i1 i2 k57) x46 x65)) ?_ ?_
 refine qC (os:=_) rfl ?_
 refine av [26,5] ?_ ?_
 intro h63
 refine ko (k:=7) rfl h63 ?_
 refine au [91,23,26,12] ?_
 intro h67
 refine qhL rfl rfl rfl rfl h67 ?_
 refine au [3,23,28,10,113] ?_
 exact qa ((decide ((ishl .i64 i1 (iadd .i64 x46 1))≤(iadd .i64 i2 1))),())
 intro h63
 refine km (k:=7) rfl h63 ?_
 refine au [68,63,7,112] ?_
 exact qa (false,())
 rintro ⟨x65,_⟩
 try dsimp only
 refine qC (os:=_) rfl ?_
 refine aw [0,2,11] ?_ ?_
 refine au [57,14,4,3,23,5,121] ?_
 exact qj (iadd .i64 x46 1,())
 refine au [72] ?_
 exact qa (x46,())
 rintro ⟨x35,_⟩
 exact az [92,71]
theorem qia {r:(Int×qD0×Int)}(hm:vC F i1 m1 i2 i3=some r) :
    PureM qD9 236 [qD4 t1,qD2 i3] [⟨t1,302,[qD2 i1,qD3 l1 m1 t2,qD2 i2]⟩] [qD8 l1 m1 t2] [] (qD1×Nat) (fun _=>.tuple #[]) (fun g=>[⟨t1,302,[qD2 r.1,qD3 g.1 r.2.1 g.2,qD2 r.2.2]⟩]) (fun g=>[qD8 g.1 r.2.1 g.2]):=by
 refine pureMA func236 ntmps236 hm fun _=>?_
 refine au [24,10,14] ?_
 refine qm [0,1] [] [] [] (fun (((x16,x19,x20),a17,c18):(Int×qD0×Int)×qD1×Nat)=>([],[⟨t1,302,[qD2 x16,qD3 a17 x19 c18,qD2 x20]⟩],[qD8 a17 x19 c18],[])) (i1,m1,i2) (l1,t2) ?_
 intro k29
 rintro ⟨⟨x16,x19,x20⟩,a17,c18⟩
 refine aw [39,1,1,4,3,24,11,10,20,3,24,4,0,2,11] ?_ ?_
 refine au [85,4,91,51,24,12,29,4] ?_
 rintro x34 e34 ⟨a35,c36⟩
 refine au [51,80,65,4,3,119,23,51,80] ?_
 exact qj ((x34.1,x34.2,iadd .i64 x20 1),a35,c36)
 refine au [72] ?_
 exact qH (a17,c18)
theorem qqm {r:(Int×Int×Int×Int×qD0×Int×qD0×Bool)}(hm:qe5 F m1 i1=some r) :
    Pure qD9 194 [qD3 l1 m1 t1,qD2 i1] [qD5 l1 m1 t1] ((qD1×Nat)×qD1×Nat) (fun g=>.tuple #[.agg #[qD2 r.1,qD2 r.2.1,qD2 r.2.2.1,qD2 r.2.2.2.1,qD3 g.1.1 r.2.2.2.2.1 g.1.2,qD2 r.2.2.2.2.2.1,qD3 g.2.1 r.2.2.2.2.2.2.1 g.2.2],.bool r.2.2.2.2.2.2.2]) (fun g=>[qD8 g.1.1 r.2.2.2.2.1 g.1.2,qD8 g.2.1 r.2.2.2.2.2.2.1 g.2.2]) (fun _=>[]):=by
 refine pureA func194 ntmps194 hm fun _=>?_
 refine au [55,24,2] ?_
 intro g5
 refine au [60,77,3,77,35,14] ?_
 intro x6 e6 _
 refine qF [qD2 (m1.length:Int),qD2 i1,qD2 x6,qD2 0,.slice none 0 0,qD2 0,.slice none 0 0] ?_
 refine au [24,2] ?_
 intro g7
 refine au [17,117,67,26,12] ?_
 intro h8
 refine qjn rfl rfl rfl rfl h8 ?_
 refine au [23,82,45,67,67,27,15,25,1,3] ?_
 refine zp 6 30 36 [0,4,6,7] (decide (8192<(iadd .i64 (m1.length:Int) (iadd .i64 (ishr .i64 i1 x6) 1)))) ?_ ?_ ?_
 exact az [68,7,62]
 exact az [67,3,23,105]
 refine aw [0,2,11] ?_ ?_
 refine au [45] ?_
 refine qF [qD2 0,qD2 0,qD2 0,qD2 0,.slice none 0 0,qD2 0,.slice none 0 0] ?_
 exact az [25,5,59,120,35,15]
 refine au [125] ?_
 refine qF [qD2 0,.slice none 0 0,qD2 0] ?_
 refine au [24,0] ?_
 intro g12
 refine au [47] ?_
 refine qg [4,6,7,8] [2] [] [] (fun (((x0,x2,x3,x5,x7),a0,c0,a1,c1):(Int×qD0×Int×Int×qD0)×qD1×Nat×qD1×Nat)=>([],[⟨g12,302,[qD2 x0,qD3 a0 x2 c0,qD2 x3]⟩,⟨g7,69,[qD2 (m1.length:Int),qD2 i1,qD2 x6,qD2 x5,qD3 a1 x7 c1,qD2 0,.slice none 0 0]⟩],[qD8 a0 x2 c0,qD8 a1 x7 c1],[],qfR F m1 i1 x6 x0 x2 x3 x5 x7)) ?_ ?_
 refine au [48,86,31,4,31,4] ?_
 refine qm [4,6,7,8,40,41] [2] [] [0] (fun (((x8,x9,x10,x11,x12,x13),a3,c2,a4,c4):(Int×Int×qD0×Int×Int×qD0)×qD1×Nat×qD1×Nat)=>([(42,qD2 x8)],[⟨g12,302,[qD2 x9,qD3 a3 x10 c2,qD2 x11]⟩,⟨g7,69,[qD2 (m1.length:Int),qD2 i1,qD2 x6,qD2 x12,qD3 a4 x13 c4,qD2 0,.slice none 0 0]⟩],[qD8 a3 x10 c2,qD8 a4 x13 c4],[])) ((0:Int),(0:Int),([]:qD0),(0:Int),(0:Int),([]:qD0)) (none,0,none,0) ?_
 intro k0
 rintro ⟨⟨x8,x9,x10,x11,x12,x13⟩,a3,c2,a4,c4⟩
 refine aw [39,1,4,24,4,0,2,1,11] ?_ ?_
 refine au [85,45,26,4] ?_
 intro x14 e0 b0 o0
 refine au [25,3,82,28,11] ?_
 intro h0
 refine kg mixed [13] _ _ (.cons 0 rfl (.cons 0 rfl .nil)) (qh 0 rfl (qh 1 rfl (qgl 2 rfl qf))) 14 rfl ?_
 refine au [18,0] ?_
 refine qz 1 (.agg #[qD2 x12,.slice a4 x13.length c4]) [[13]] rfl rfl rfl (kM (j:=2) rfl tf65 rfl rfl (by simp) rfl) ?_
 refine au [6,2,18,3] ?_
 refine qz 4 (qD2 x6) [[13]] rfl rfl rfl (kM (j:=2) rfl tf3 rfl rfl (fun _=>rfl) rfl) (qb 5 (qD2 (ishl .i64 1 x6)) rfl rfl rfl (qiA rfl rfl h0) ?_)
 refine au [58,34,4,8,18,9] ?_
 refine qz 10 (qD2 x6) [[13]] rfl rfl rfl (kM (j:=2) rfl tf3 rfl rfl (fun _=>rfl) rfl) ?_
 refine au [9,11,29,4] ?_
 rintro x15 e1 ⟨a5,c5⟩
 refine au [0] ?_
 refine qc (.cons 0 rfl (.cons 0 rfl .nil)) (qh 0 rfl (qh 1 rfl (qgl 2 rfl qf))) ?_
 refine au [18,12,9,13,27,13,0] ?_
 refine kQ 13 rfl (by kernel_rfl) (.cons 0 rfl (.cons 0 rfl .nil)) ?_
 refine au [54,2,48,3,118,26,12] ?_
 intro h1
 refine qjn rfl rfl rfl rfl h1 ?_
 refine au [36,0] ?_
 rintro x16 e2 ⟨a6,c6⟩
 refine au [46,4,91,51,24,12,29,4] ?_
 rintro x17 e3 ⟨a7,c7⟩
 refine au [51,80,98] ?_
 exact qj ((iadd .i64 x8 1,x17.1,x17.2,x16.2.2,x15.1,x15.2),a7,c7,a5,c5)
 refine au [72] ?_
 exact qa ((x9,x10,x11,x12,x13),a3,c2,a4,c4)
 rintro ⟨⟨x0,x2,x3,x5,x7⟩,a0,c0,a1,c1⟩
 refine au [92,3,36,0] ?_
 rintro x18 e4 ⟨a8,c8⟩
 refine au [117,51,24,12,10,27,13,46,45,26,9,25,5,49] ?_
 exact zW ((a1,c1),a8,c8) 1
theorem qnf {r:(Int×Int×Int×Int×qD0×Int×qD0×Int)}(hm:qcM F m1 i1=some r) :
    Pure qD9 166 [qD3 l1 m1 t1,qD2 i1] [qD5 l1 m1 t1] ((qD1×Nat)×qD1×Nat) (fun g=>.tuple #[.agg #[qD2 r.1,qD2 r.2.1,qD2 r.2.2.1,qD2 r.2.2.2.1,qD3 g.1.1 r.2.2.2.2.1 g.1.2,qD2 r.2.2.2.2.2.1,qD3 g.2.1 r.2.2.2.2.2.2.1 g.2.2],qD2 r.2.2.2.2.2.2.2]) (fun g=>[qD8 g.1.1 r.2.2.2.2.1 g.1.2,qD8 g.2.1 r.2.2.2.2.2.2.1 g.2.2]) (fun _=>[]):=by
 refine pureA func166 ntmps166 hm fun _=>?_
 refine au [55,24,2] ?_
 intro g5
 refine au [82,48,3,36,1] ?_
 intro x8 e8 _
 refine aw [5,0,2,1,4,3,25,4,0,2,11] ?_ ?_
 refine au [45] ?_
 refine qF [qD2 0,qD2 0,qD2 0,qD2 0,.slice none 0 0,qD2 0,.slice none 0 0] ?_
 refine au [3,17,59,120] ?_
 exact zW ((none,0),none,0) 0
 refine au [57,48,3,36,2] ?_
 rintro x9 e9 ⟨⟨a10,c11⟩,a12,c13⟩
 refine au [3,81,24,2] ?_
 intro g14
 refine aw [17,5,0,2,1,1,4,3,25,7,0,2,11] ?_ ?_
 refine au [45] ?_
 refine qF [qD2 0,qD2 0,qD2 0,qD2 0,.slice none 0 0,qD2 0,.slice none 0 0] ?_
 exact az [25,5,59,120,35,15]
 refine au [57,74,25,5,49] ?_
 exact zW ((a10,c11),a12,c13) 1
end Go.Proofs.YthibchijlpflmaaGreatDoor
