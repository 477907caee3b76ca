/- Each Go function of this seat computes what its model says, part 3. -/
import Derived.Test.YthibchijlpflmaaGreatDoorWalks2
namespace Go.Proofs.YthibchijlpflmaaGreatDoor
open Go SX
open Go.Proofs.Tryz
open Go.Proofs.Tryz renaming prog→qFj
set_option maxHeartbeats 4000000
set_option linter.unusedSimpArgs false
variable {F t1 t2 t3 t4 t5:Nat}{m1 m2 m3:qFa}{l1 l2 l3 l4:qFb}{i1 i2 i3 i4 i5:Int}{d1 d2:Bool}{w1:List (Int×Int)}{p1:List (qFa)}{n1:List (qFb×Nat)}
theorem qgf (hm:y9 F m1=some m2) :
    Pure qFj 260 [qFd l1 m1 t1] [qFh l1 m1 t1] (qFb×Nat) (fun g=>qFd g.1 m2 g.2) (fun g=>[qFi g.1 m2 g.2]) (fun _=>[]):=by
 refine pureA func260 ntmps260 hm fun _=>?_
 refine av [64,81,48,32,11,46,32,12] ?_ ?_
 intro h11
 refine qqJ 0 (qD .u8) (by decide) rfl h11 (fun h12=>?_)
 subst h12
 refine qbW (m':=some ([]:qFa)) rfl ?_
 refine au [45,58,26,0] ?_
 exact qy (none,0)
 intro _
 refine au [97] ?_
 refine zL (k:=.u8) [] ?_
 intro a6 c7
 refine au [4] ?_
 refine zD 0 (qD .u8) rfl UnF.u inferInstance rfl rfl rfl rfl rfl (.inr ⟨0,rfl⟩) rfl rfl ?_
 intro x8 e8 a9 c10
 refine au [49] ?_
 exact qy (a9,c10)
theorem qq2 {r:(Int×qFa)}(hm:qft F i1 m1=some r) :
    PureM qFj 231 [.agg #[qFc i1,qFd l1 m1 t1]] [] [] [qFh l1 m1 t1] ((qFb×Nat)×Nat) (fun g=>qFe g.2) (fun g=>[⟨g.2,299,[qFc r.1,qFd g.1.1 r.2 g.1.2]⟩]) (fun g=>[qFi g.1.1 r.2 g.1.2]):=by
 refine pureMA func231 ntmps231 hm fun _=>?_
 refine au [64,23] ?_
 intro g5
 refine au [81] ?_
 refine qK [] [0] [0] 9 ?_
 refine au [109,15,2,24,15,3,13,4] ?_
 refine qd qgf ?_
 rintro x10 e10 ⟨a11,c12⟩
 refine au [72] ?_
 refine qb 5 (.agg #[qFc i1,qFd a11 x10 c12]) rfl rfl rfl (qdO (cells:=[qFc i1,qFd a11 x10 c12]) st65 rfl (by kernel_rfl)) (qb 6 (.agg #[qFc i1,qFd a11 x10 c12]) rfl rfl rfl (qdO (cells:=[qFc i1,qFd a11 x10 c12]) st299 rfl (by kernel_rfl)) ?_)
 refine au [13,7,23] ?_
 intro g13
 refine au [0,26,13,6,8,54,2,8] ?_
 exact qM ((a11,c12),g13)
theorem qml {r:Unit}(hm:qgj F i1 m1 i2 i3=some r) :
    PureM qFj 232 [.agg #[qFc i1,qFd l1 m1 t1],qFc i2,qFc i3] [] [] [qFh l1 m1 t1] (Nat×Nat×Nat) (fun g=>.func (.func 261) #[] #[qFe g.1,qFe g.2.1,qFe g.2.2]) (fun g=>[⟨g.1,3,[qFc i2]⟩,⟨g.2.1,3,[qFc i3]⟩,⟨g.2.2,65,[qFc i1,qFd l1 m1 t1]⟩]) (fun _=>[]):=by
 refine pureMA func232 ntmps232 hm fun _=>?_
 refine au [111,23] ?_
 intro g7
 refine au [23] ?_
 intro g8
 refine au [23] ?_
 intro g9
 refine au [80,27,5,49] ?_
 exact qM (g8,g9,g7)
theorem qi4 {r:(Int×qFa)}(hm:jH F i1 m1 i2=some r) :
    PureM qFj 233 [qFe t1,.int .u64 i2] [⟨t1,299,[qFc i1,qFd l1 m1 t2]⟩] [qFi l1 m1 t2] [] (qFb×Nat) (fun _=>.tuple #[]) (fun g=>[⟨t1,299,[qFc r.1,qFd g.1 r.2 g.2]⟩]) (fun g=>[qFi g.1 r.2 g.2]):=by
 refine pureMA func233 ntmps233 hm fun _=>?_
 refine au [24,8] ?_
 refine qj [0,1] [] [] [] (fun ((x15,a13,c14):qFa×qFb×Nat)=>([],[⟨t1,299,[qFc i1,qFd a13 x15 c14]⟩],[qFi a13 x15 c14],[],vf F i1 i2 x15)) ?_ ?_
 refine aw [1,3,4,24,10,9,9,18,33,12,25,6,0,2,10] ?_ ?_
 refine au [3,89,55,78] ?_
 refine zL [0] ?_
 intro a44 c45
 refine zD 1 (qD .u8) rfl underlying41 tf5 rfl rfl rfl rfl rfl (.inl ⟨0,_,rfl⟩) rfl rfl (fun x46 e46 a47 c48=>?_)
 refine au [55,9,85] ?_
 exact qa (x46,a47,c48)
 refine au [11] ?_
 exact qa (m1,l1,t2)
 rintro ⟨x15,a13,c14⟩
 refine au [39,1,30,0] ?_
 intro x30 e30 g31 h32
 replace h32:a13=some ⟨g31,0,none⟩:=h32
 have h33:=zP (k:=x15.length) (c:=c14) h32
 refine au [28,6] ?_
 intro h34
 refine au [30,0] ?_
 intro x36 e36 g37 h38
 replace h38:a13=some ⟨g37,0,none⟩:=h38
 have h39:=zP (k:=x15.length) (c:=c14) h38
 refine kC mixed [25] _ _ (.cons 0 rfl .nil) (qF 0 rfl (qo (qD .u8) e30 h32) (qF 0 rfl (qo (qD .u8) e36 h38) qg)) 26 rfl ?_
 refine au [70,15,2,15,3,24,15,4,6,5,6,6,15,7,15,8,24,15,9] ?_
 refine qb 10 (qFc (iquo .i64 i1 8)) rfl rfl rfl (qBx rfl rfl rfl) (j5 11 h32 e30 ?_)
 refine qz 12 (.int .u8 x30) [[25]] rfl rfl rfl (qS (j:=0) rfl tf5 rfl rfl (fun _=>rfl) rfl) ?_
 refine au [6,13] ?_
 refine qb 14 (.int .u64 (ishl .u64 i2 7)) rfl rfl rfl (qi3 rfl rfl rfl) ?_
 refine au [33,13,15,6,16,6,17,15,18,15,19,24,15,20] ?_
 refine qb 21 (qFc (irem i1 8)) rfl rfl rfl (qpe rfl rfl rfl) (qb 22 (.int .u8 (ishr .u8 (iconv .u8 (ishl .u64 i2 7)) (irem i1 8))) rfl rfl rfl (qBy rfl rfl h34) ?_)
 refine au [6,23] ?_
 refine j5 24 h38 e36 ?_
 refine au [13,25] ?_
 refine ky (j:=0) (y':=ior .u8 x30 (ishr .u8 (iconv .u8 (ishl .u64 i2 7)) (irem i1 8))) (qD .u8) rfl rfl rfl tf5 rfl (zP h38) (qw e36).2.1 rfl (fun x41 e41 h42=>?_)
 have h43:x41.length=x15.length:=by rw[← e41,List.length_set]
 refine qt (d:=26) (v:=qFd a13 x41 c14) rfl h42 (q7 (i:=0) (cs':=[qFc i1,qFd a13 x41 c14]) rfl (by simp only[qFd,h42] <;> rfl) ?_)
 refine au [0] ?_
 refine kZ 25 rfl (by kernel_rfl) (.cons 0 (by simp only[qFd,h43] <;> rfl) .nil) ?_
 refine au [54,2,3,4,55,78,24,0,55,9,85] ?_
 exact qM (a13,c14)
theorem qt7 (hm:qbs F i1 m1 i2=some i3) :
    qFk 248 [.agg #[qFc i1,qFd l1 m1 t1],qFc i2] [qFh l1 m1 t1] (.int .u64 i3):=by
 refine pureA func248 ntmps248 hm fun _=>?_
 refine au [96] ?_
 intro g6
 refine au [80,78,4,31,10] ?_
 refine ja (j:=0) (qD .u8) (by decide) rfl UnF.u inferInstance rfl rfl rfl rfl ?_
 intro x7 e7 b8 o9
 refine au [25,3,4,33,12,25,9,26,11] ?_
 intro h10
 refine qjO rfl rfl rfl rfl h10 ?_
 refine au [25,11,28,9,116] ?_
 intro x11 e11
 refine qal 4 e11 ?_
 exact az [46,8,24,1]
theorem qkP (F:Nat){σ τ:Type}{J:Rounds σ τ}{yy:σ→Int→Option (σ ⊕ τ)}{L:Nat}(hY:YieldC qFj L (fun (p:Int)=>[.int .u64 p]) J yy)(s0:σ)(gs0:J.γ)(g1:Nat)(x2:Int)(g3:Nat)(x4:Int)(g5:Nat)(x6:Int)(x7:qFa)(a8:qFb)(c9:Nat)(r:σ ⊕ τ)(hm:qeO F yy x2 x4 x6 x7 s0=some r) :
    PureM qFj 261 ([.func (.yield L) #[] #[],qFe g1,qFe g3,qFe g5]) ([⟨g1,3,[qFc x2]⟩,⟨g3,3,[qFc x4]⟩,⟨g5,65,[qFc x6,qFd a8 x7 c9]⟩]++J.IB s0 gs0) (J.IR s0 gs0) [J.F,qFh a8 x7 c9] (J.G r) (fun _=>.tuple #[]) (fun g=>[⟨g1,3,[qFc x2]⟩,⟨g3,3,[qFc x4]⟩,⟨g5,65,[qFc x6,qFd a8 x7 c9]⟩]++J.bs r g) (fun g=>J.rs r g):=by
 refine pureMA func261 ntmps261 hm fun _=>?_
 refine au [28,7,45,18,47,14] ?_
 refine jC (fun (((x22,x23),g24):(Int×σ)×J.γ)=>[(0,.func (.yield L) #[] #[]),(2,qFe g3),(3,qFe g5),(5,qFc x22)]) (fun (((x22,x23),g24):(Int×σ)×J.γ)=>[⟨g1,3,[qFc x2]⟩,⟨g3,3,[qFc x4]⟩,⟨g5,65,[qFc x6,qFd a8 x7 c9]⟩]++J.IB x23 g24) (fun (((x22,x23),g24):(Int×σ)×J.γ)=>[]++J.IR x23 g24) (fun (((x22,x23),g24):(Int×σ)×J.γ)=>[qFh a8 x7 c9,J.F]) (fun k (s:(Int×σ)×J.γ)=>ya F yy x4 x6 x7 k s.1) ((x2,s0),gs0) F ?_ (hB:=(.cons 0 rfl (.cons 0 rfl (.cons 0 rfl (qf 0 rfl))))) (hR:=(qf 0 rfl)) (hF:=(qi 1 rfl (qi 0 rfl zJ)))
 intro k37
 rintro ⟨⟨x22,x23⟩,g24⟩
 try dsimp only
 refine qbW (m':=qaO F yy x4 x6 x7 (ya F yy x4 x6 x7 k37) x22 x23) rfl ?_
 refine aw [1,1,3,4,25,12,24,3,0,2,10] ?_ ?_
 refine au [83,48,26,6,4,29,5] ?_
 intro x44 e44 _
 refine qfp hY x23 x44 g24 (B1:=[⟨g1,3,[qFc x2]⟩,⟨g3,3,[qFc x4]⟩,⟨g5,65,[qFc x6,qFd a8 x7 c9]⟩]) (R1:=[]) (j:=1) rfl rfl rfl rfl rfl rfl rfl (fun x45 _ g47=>?_) (fun x46 _ g47=>?_)
 refine au [25,7,46] ?_
 refine yh (b:=false) rfl (fun h=>by cases h) (fun _=>?_)
 refine au [11,63,3,113,5,0] ?_
 exact vF ((iadd .i64 x22 1,x45),g47) (hB:=(.cons 0 rfl (.cons 0 rfl (.cons 0 rfl (qf 0 rfl))))) (hR:=(qf 0 rfl)) (hF:=(qi 0 rfl (qi 1 rfl zJ)))
 refine au [25,7,46] ?_
 refine yh (b:=true) rfl (fun _=>?_) (fun h=>by cases h)
 refine au [8,90,24,5] ?_
 exact jD (B0:=[⟨g1,3,[qFc x2]⟩,⟨g3,3,[qFc x4]⟩,⟨g5,65,[qFc x6,qFd a8 x7 c9]⟩]) (x:=.inr x46) g47 (.inl rfl) (res0 rfl) (.cons 0 rfl (.cons 0 rfl (.cons 0 rfl (qf 0 rfl)))) (qf 0 rfl)
 refine au [71] ?_
 exact jD (B0:=[⟨g1,3,[qFc x2]⟩,⟨g3,3,[qFc x4]⟩,⟨g5,65,[qFc x6,qFd a8 x7 c9]⟩]) (x:=.inl x23) g24 (.inr rfl) (res0 rfl) (.cons 0 rfl (.cons 0 rfl (.cons 0 rfl (qf 0 rfl)))) (qf 0 rfl)
theorem qpf {r:(Int×qFa)}(hm:qaH F i1 m1 i2 m2=some r) :
    PureM qFj 192 [.agg #[qFc i1,qFd l1 m1 t1],.agg #[qFc i2,qFd l2 m2 t2]] [] [] [qFh l1 m1 t1,qFh l2 m2 t2] (qFb×Nat) (fun g=>.agg #[qFc r.1,qFd g.1 r.2 g.2]) (fun _=>[]) (fun g=>[qFi g.1 r.2 g.2]):=by
 refine qdJ func192 rfl ntmps192 rfl hm (fun w=>?_)
 refine au [96] ?_
 intro g9
 refine au [23] ?_
 intro g10
 refine au [24,6] ?_
 intro g11
 refine au [46,45,26,6,33,14] ?_
 rintro x12 e12 ⟨⟨a13,c14⟩,g15⟩
 refine au [24,6] ?_
 intro g16
 refine au [21,46,1,45,31,11,9,28,13] ?_
 refine qu qml ?_
 rintro x37 e37 ⟨g38,g39,g40⟩
 refine au [73] ?_
 refine qcs (encs:=(fun (p:Int)=>[.int .u64 p])) (y:=(fun ((x45,x48):(Int×qFa)) (x53:Int)=>qb0 F x45 x48 x53)) (lb:=[qFe g38,qFe g39,qFe g40]) (fun ((x45,x48):(Int×qFa)) ((a46,c47):qFb×Nat)=>[⟨g16,293,[qFe g15]⟩,⟨g15,299,[qFc x45,qFd a46 x48 c47]⟩,⟨g11,65,[qFc 0,.slice none 0 0]⟩,⟨g10,65,[qFc i2,qFd l2 m2 t2]⟩,⟨g9,65,[qFc i1,qFd l1 m1 t1]⟩]) (fun ((x45,x48):(Int×qFa)) ((a46,c47):qFb×Nat)=>[qFi a46 x48 c47]) (fun (_:Empty) (_:Unit)=>[]) (fun (_:Empty) (_:Unit)=>[]) (fun _=>.skip) (x12.1,x12.2) (a13,c14) rfl EnC.e (fun _=>rfl) rfl (.cons 0 rfl (.cons 0 rfl (.cons 0 rfl .nil))) (.cons 0 rfl (.cons 0 rfl (.cons 0 rfl (.cons 0 rfl (.cons 0 rfl .nil))))) (.cons 0 rfl .nil) (.consF 1 rfl .nil) (fun z hz _ _ _ hY=>qkP F hY (x12.1,x12.2) (a13,c14) g38 0 g39 i2 g40 i2 m2 l2 t2 z hz) ?_ ?_ ?_
 rintro rc1 L1 D1 ⟨x45,x48⟩ ⟨a46,c47⟩ x53 z w M _
 try dsimp only
 refine qdN [(0,.agg #[qFc i1,qFd l1 m1 t1]),(1,.agg #[qFc i2,qFd l2 m2 t2]),(2,qFe g9),(3,qFe g10),(4,qFe g11),(5,qFe g16),(7,.agg #[qFc i1,qFd l1 m1 t1]),(8,qFe g15),(9,.agg #[qFc i2,qFd l2 m2 t2]),(10,qFe g10),(11,qFc i2),(12,.func (.func 261) #[] #[qFe g38,qFe g39,qFe g40]),(13,.int .u64 x53)] (qn rfl (qn rfl (qn rfl (qn rfl (qn rfl (qn rfl (qn rfl (qn rfl (qn rfl (qn rfl (qn rfl (qn rfl (qn rfl qd5))))))))))))) ?_
 refine au [3,5,0] ?_
 refine qik (i:=5) rfl ?_
 refine au [14,3,18,4,33,15] ?_
 rintro x54 e54 ⟨a55,c56⟩
 refine au [115] ?_
 exact vB (rc:=rc1) rfl (.cons 5 rfl .nil) rfl (a55,c56) (.cons 2 rfl (.cons 1 rfl (.cons 1 rfl (.cons 1 rfl (.cons 1 rfl (.cons 0 rfl (.cons 0 rfl .nil))))))) (.cons 0 rfl .nil)
 rintro ⟨x45,x48⟩ _ ⟨a46,c47⟩ D1
 refine au [39,63,45,34,0,55] ?_
 refine zX (i:=5) rfl rfl inferInstance rfl rfl (by simp) rfl rfl ?_
 refine au [27,1,46,8] ?_
 exact jE [D1] (a46,c47) (.inl rfl) rfl (.cons 0 rfl .nil) (resL (rs:=[.cell 4 65]) rfl (.cell (i:=5) rfl tf65 rfl rfl (by simp) rfl ResOk.nil) rfl) (fun h=>by subst h;rfl) (fun h=>by subst h;exact .nil) (fun h=>by subst h;exact (.cons 0 rfl .nil))
 intro t;exact t.elim
theorem qhC {r:(Int×qFa)}(hm:jI F i1 m1 i2 i3=some r) :
    PureM qFj 262 [qFe t1,.int .u64 i2,qFc i3] [⟨t1,299,[qFc i1,qFd l1 m1 t2]⟩] [qFi l1 m1 t2] [] (qFb×Nat) (fun _=>.tuple #[]) (fun g=>[⟨t1,299,[qFc r.1,qFd g.1 r.2 g.2]⟩]) (fun g=>[qFi g.1 r.2 g.2]):=by
 refine pureMA func262 ntmps262 hm fun _=>?_
 refine au [26,9,48,25,9,47,14] ?_
 refine qr [0,1] [] [] [] (fun (((x18,x19,x22),a20,c21):(Int×Int×qFa)×qFb×Nat)=>([(6,qFc x18)],[⟨t1,299,[qFc x19,qFd a20 x22 c21]⟩],[qFi a20 x22 c21],[])) (isub .i64 i3 1,i1,m1) (l1,t2) ?_
 intro k33
 rintro ⟨⟨x18,x19,x22⟩,a20,c21⟩
 refine aw [39,1,1,3,4,26,4,0,2,10] ?_ ?_
 refine au [83,3,89,4,26,11] ?_
 intro h39
 refine qjO rfl rfl rfl rfl h39 ?_
 refine au [28,9,33,15] ?_
 rintro x40 e40 ⟨a41,c42⟩
 refine au [0,63,3,4,25,9,5,0] ?_
 exact ql ((isub .i64 x18 1,x40.1,x40.2),a41,c42)
 refine au [71] ?_
 exact qM (a20,c21)
theorem qq1 {r:(Int×qFa)}(hm:vQ F i1 m1 i2 i3=some r) :
    Pure qFj 235 [.agg #[qFc i1,qFd l1 m1 t1],.int .u64 i2,qFc i3] [qFh l1 m1 t1] (qFb×Nat) (fun g=>.agg #[qFc r.1,qFd g.1 r.2 g.2]) (fun g=>[qFi g.1 r.2 g.2]) (fun _=>[]):=by
 refine pureA func235 ntmps235 hm fun _=>?_
 refine au [111,23] ?_
 intro g7
 refine au [24,6] ?_
 intro g8
 refine au [46,45,25,10,33,14] ?_
 rintro x9 e9 ⟨⟨a10,c11⟩,g12⟩
 refine au [59,89] ?_
 refine qu qhC ?_
 rintro x13 e13 ⟨a14,c15⟩
 refine au [98,55,24,9,25,5,46,8] ?_
 exact qd9 (a14,c15) 1
theorem qjf (hm:vu F i1=some i2) :
    qFk 148 [.int .u64 i1] [] (qFc i2):=by
 refine pureA func148 ntmps148 hm fun _=>?_
 refine au [64,47] ?_
 refine qP (fun (((x3,x4),_):(Int×Int)×Unit)=>([(0,.int .u64 x3),(2,qFc x4)],[],[],[],vh F x3 x4)) ?_ ?_
 refine aw [1,3,4,26,4,0,2,10] ?_ ?_
 refine au [48,27,3,47,3,5,0] ?_
 exact qa ((ishr .u64 i1 32,(32:Int)),())
 refine au [11] ?_
 exact qa ((i1,(0:Int)),())
 rintro ⟨⟨x3,x4⟩,_⟩
 try dsimp only
 refine qP (fun (((x6,x7),_):(Int×Int)×Unit)=>([(0,.int .u64 x6),(2,qFc x7)],[],[],[],vi F x6 x7)) ?_ ?_
 refine aw [1,3,4,26,4,0,2,10] ?_ ?_
 refine au [48,27,3,47,3,113,5,0] ?_
 exact qa ((ishr .u64 x3 16,iadd .i64 x4 16),())
 refine au [11] ?_
 exact qa ((x3,x4),())
 rintro ⟨⟨x6,x7⟩,_⟩
 try dsimp only
 refine qP (fun (((x9,x10),_):(Int×Int)×Unit)=>([(0,.int .u64 x9),(2,qFc x10)],[],[],[],vj F x9 x10)) ?_ ?_
 refine aw [1,3,4,26,4,0,2,10] ?_ ?_
 refine au [48,27,3,47,3,113,5,0] ?_
 exact qa ((ishr .u64 x6 8,iadd .i64 x7 8),())
 refine au [11] ?_
 exact qa ((x6,x7),())
 rintro ⟨⟨x9,x10⟩,_⟩
 refine au [91,4,25,11] ?_
 refine qse (xs:=([0,1,2,2,3,3,3,3,4,4,4,4,4,4,4,4,5,5,5,5,5,5,5,5,5,5,5,5,5,5,5,5,6,6,6,6,6,6,6,6,6,6,6,6,6,6,6,6,6,6,6,6,6,6,6,6,6,6,6,6,6,6,6,6,7,7,7,7,7,7,7,7,7,7,7,7,7,7,7,7,7,7,7,7,7,7,7,7,7,7,7,7,7,7,7,7,7,7,7,7,7,7,7,7,7,7,7,7,7,7,7,7,7,7,7,7,7,7,7,7,7,7,7,7,7,7,7,7,8,8,8,8,8,8,8,8,8,8,8,8,8,8,8,8,8,8,8,8,8,8,8,8,8,8,8,8,8,8,8,8,8,8,8,8,8,8,8,8,8,8,8,8,8,8,8,8,8,8,8,8,8,8,8,8,8,8,8,8,8,8,8,8,8,8,8,8,8,8,8,8,8,8,8,8,8,8,8,8,8,8,8,8,8,8,8,8,8,8,8,8,8,8,8,8,8,8,8,8,8,8,8,8,8,8,8,8,8,8,8,8,8,8,8,8,8,8,8,8,8,8,8,8,8,8,8,8]:qFa)) rfl UnF.u rfl rfl (by kernel_rfl) rfl ?_
 intro x11 e11
 exact az [25,11,24,0,68]
theorem qnG (hm:qe7 F i1=some i2) :
    qFk 284 [.int .u64 i1] [] (qFc i2):=by
 refine pureA func284 ntmps284 hm fun _=>?_
 refine au [64,59,24,0,31,12] ?_
 intro x2 e2 _
 exact az [25,9,68]
theorem qpv {r:(Int×qFa)}(hm:qeG F i1=some r) :
    Pure qFj 285 [.int .u64 i1] [] (qFb×Nat) (fun g=>.agg #[qFc r.1,qFd g.1 r.2 g.2]) (fun g=>[qFi g.1 r.2 g.2]) (fun _=>[]):=by
 refine pureA func285 ntmps285 hm fun _=>?_
 refine au [64,24,6] ?_
 intro g2
 refine au [98,25,11,113,31,10] ?_
 refine qxJ (qD .u8) rfl UnF.u inferInstance rfl rfl rfl rfl rfl rfl rfl ?_
 intro x3 e3 a4 c5
 refine qJ [qFc (iconv .i64 i1),qFd a4 x3 c5] ?_
 refine au [28,14] ?_
 rintro x6 e6 ⟨a7,c8⟩
 refine au [21,46,8] ?_
 exact qd9 (a7,c8) 0
theorem qpk (hm:qf2 F i1 i2=some i3) :
    qFk 286 [.int .u64 i1,qFc i2] [] (.int .u64 i3):=by
 refine pureA func286 ntmps286 hm fun _=>?_
 refine au [56,59,4,26,11] ?_
 intro h3
 refine qij rfl rfl rfl rfl h3 ?_
 refine au [25,9,28,9,116] ?_
 intro x4 e4
 refine qal 4 e4 ?_
 exact az [46,8,24,1]
theorem qj2 {r:(Int×qFa)}(hm:qaq F i1=some r) :
    Pure qFj 258 [.int .u64 i1] [] (qFb×Nat) (fun g=>.agg #[qFc r.1,qFd g.1 r.2 g.2]) (fun g=>[qFi g.1 r.2 g.2]) (fun _=>[]):=by
 refine pureA func258 ntmps258 hm fun _=>?_
 refine au [64,24,6] ?_
 intro g2
 refine au [98] ?_
 refine qd qnG ?_
 intro x3 e3 _
 refine au [59,25,11,34,1] ?_
 rintro x4 e4 ⟨a5,c6⟩
 refine au [4,66] ?_
 refine qd qpk ?_
 intro x7 e7 _
 refine au [4,28,14] ?_
 rintro x8 e8 ⟨a9,c10⟩
 refine au [21,46,8] ?_
 exact qd9 (a9,c10) 0
theorem qpn (hm:qeE F i1=some d1) :
    qFk 273 [qFc i1] [] (.bool d1):=by
 refine pureA func273 ntmps273 hm fun _=>?_
 refine au [64,59,26,4,4] ?_
 refine j6 3 5 8 [] (decide (i1≤1048576)) ?_ ?_ ?_
 exact az [4,28,5,61]
 exact az [62,60]
 exact az [68]
theorem qnL (hm:jU F m1=some i1) :
    qFk 246 [qFd l1 m1 t1] [qFf l1 m1 t1] (qFc i1):=by
 refine pureA func246 ntmps246 hm fun _=>?_
 refine aw [25,0,1,3,5,0,2,1,1,3,4,24,4,25,2,0,2,10] ?_ ?_
 exact az [45,75]
 refine au [97,47] ?_
 refine qP (fun ((_,_):Unit×Unit)=>([],[],[],[],qhw F)) ?_ ?_
 refine au [48,84] ?_
 refine qr [9,10] [] [] [0] (fun (((x88,x89),_):(Int×Int)×Unit)=>([(3,qFc x88),(11,qFc x89)],[],[],[])) ((-1:Int),(0:Int)) () ?_
 intro k0
 rintro ⟨⟨x88,x89⟩,_⟩
 refine aw [39,1,3,24,3,0,2,1,10] ?_ ?_
 refine au [83,45,26,2] ?_
 intro x0 e0 b0 o0
 refine au [25,3,81,14,48,34,2] ?_
 intro x2 e1 _
 refine aw [25,7,5,0,2,10] ?_ ?_
 exact az [45,49,50,90,104]
 refine aw [1,3,4,4,28,5,5,0,2,10] ?_ ?_
 exact az [45,49,50,90,104]
 refine au [11,63,3,4,5,0,95] ?_
 exact ql ((x0,iadd .i64 x89 1),())
 exact az [71,26,7]
 rintro ⟨_,_⟩
 exact az [117,68]
theorem qjh {r:(Int×qFa×Bool)}(hm:vx F i1 m1 d1 i2 m2=some r) :
    PureM qFj 281 [qFe t1,.agg #[qFc i2,qFd l2 m2 t3]] [⟨t1,316,[qFc i1,qFd l1 m1 t2,.bool d1]⟩] [qFi l1 m1 t2] [qFh l2 m2 t3] (qFb×Nat) (fun _=>.tuple #[]) (fun g=>[⟨t1,316,[qFc r.1,qFd g.1 r.2.1 g.2,.bool r.2.2]⟩]) (fun g=>[qFi g.1 r.2.1 g.2]):=by
 refine pureMA func281 ntmps281 hm fun _=>?_
 refine au [96] ?_
 intro g11
 refine au [46] ?_
 refine qj [0,3] [0] [0] [0] (fun ((x13,_):Bool×Unit)=>([],[⟨t1,316,[qFc i1,qFd l1 m1 t2,.bool x13]⟩],[],[],j3 F i1 m1 i2 m2 x13)) ?_ ?_
 refine av [30,1] ?_ ?_
 intro h18
 refine kC mixed [18] _ _ (.cons 0 rfl .nil) (qh 0 rfl (qgV 1 rfl qg)) 19 rfl ?_
 refine au [92,15,3] ?_
 refine qz 4 (.bool d1) [[18]] rfl rfl rfl (kW (j:=1) rfl tf4 rfl rfl (fun _=>rfl) rfl) ?_
 refine au [6,5] ?_
 refine yM 9 h18 ?_
 refine au [20,6,20,7,20,8,20,9,20,10,20,11,20,12,20,13,20,14,6,15,6,16,15,17,13,18,25,5,0,34,3,54] ?_
 exact qa (true,())
 intro h18
 refine kC mixed [18] _ _ (.cons 0 rfl .nil) (qh 0 rfl (qgV 1 rfl qg)) 19 rfl ?_
 refine au [92,15,3] ?_
 refine qz 4 (.bool d1) [[18]] rfl rfl rfl (kW (j:=1) rfl tf4 rfl rfl (fun _=>rfl) rfl) ?_
 refine au [6,5] ?_
 refine yM 9 h18 ?_
 refine au [67,15,8,15,9] ?_
 refine qz 10 (qFc i1) [[18]] rfl rfl rfl (kW (j:=1) rfl tf3 rfl rfl (fun _=>rfl) rfl) ?_
 refine au [15,11,24,15,12,6,13,6,14,6,15,6,16,15,17,13,18,25,5,0,34,3,54] ?_
 exact qa ((decide (8192<(iadd .i64 i1 i2))),())
 rintro ⟨x13,_⟩
 refine aw [39,1,3,4,24,10,9,25,12,25,7,0,2,10] ?_ ?_
 refine kC mixed [9] _ _ (.cons 0 rfl .nil) (qh 0 rfl (qgV 1 rfl qg)) 10 rfl ?_
 refine au [92,15,3] ?_
 refine qz 4 (.agg #[qFc i1,.slice l1 m1.length t2]) [[9]] rfl rfl rfl (kW (j:=1) rfl tf65 rfl rfl (by simp) rfl) (qC 5 (.agg #[qFc i2,.slice l2 m2.length t3]) rfl rfl rfl (qA (i:=0) rfl tf65 rfl rfl (by simp) rfl) ?_)
 refine au [13,6,30,11] ?_
 rintro x14 e14 ⟨a15,c16⟩
 refine au [0] ?_
 refine qc (.cons 0 rfl .nil) (qh 0 rfl (qgV 1 rfl qg)) ?_
 refine au [6,7,15,8,13,9,25,5,0] ?_
 refine kZ 9 rfl (by kernel_rfl) (.cons 0 rfl .nil) ?_
 refine au [54] ?_
 exact qM (a15,c16)
 refine au [11] ?_
 exact qM (l1,t2)
theorem qit {r:(Int×qFa×Bool)}(hm:zm F i1 m1 d1 i2=some r) :
    PureM qFj 274 [qFe t1,qFc i2] [⟨t1,316,[qFc i1,qFd l1 m1 t2,.bool d1]⟩] [qFi l1 m1 t2] [] (qFb×Nat) (fun _=>.tuple #[]) (fun g=>[⟨t1,316,[qFc r.1,qFd g.1 r.2.1 g.2,.bool r.2.2]⟩]) (fun g=>[qFi g.1 r.2.1 g.2]):=by
 refine pureMA func274 ntmps274 hm fun _=>?_
 refine au [24,8,3,89,25,11,34,4] ?_
 rintro x8 e8 ⟨a9,c10⟩
 refine au [34,5] ?_
 rintro x11 e11 ⟨a12,c13⟩
 refine au [0] ?_
 exact qM (a12,c13)
theorem qk5 (hm:qc7 F i1 i2=some d1) :
    qFk 212 [qFc i1,qFc i2] [] (.bool d1):=by
 refine pureA func212 ntmps212 hm fun _=>?_
 refine au [56,59,30,8] ?_
 intro x3 e3 _
 refine au [4] ?_
 refine kX 4 [0,1] [] [] [] (fun ((x6,_):Bool×Unit)=>([(11,.bool x6)],[],[],[],qbB F i1 i2 x6)) ?_ ?_
 refine qG (os:=_) rfl ?_
 refine av [26,3] ?_ ?_
 intro h4
 refine kF (k:=7) rfl h4 ?_
 refine au [4,30,8] ?_
 intro x8 e8 _
 refine au [25,7,88] ?_
 exact qa ((!x8),())
 intro h4
 refine kE (k:=7) rfl h4 ?_
 refine au [62,7,87] ?_
 exact qa (false,())
 rintro ⟨x6,_⟩
 try dsimp only
 refine qG (os:=_) rfl ?_
 refine au [4] ?_
 refine zT 4 12 16 [] (decide (i1<i2)) ?_ ?_ ?_
 exact az [62,7,61]
 exact az [89,24,3,60]
 exact az [68]
theorem qiL (hm:qa0 F i1=some d1) :
    qFk 216 [qFc i1] [] (.bool d1):=by
 refine pureA func216 ntmps216 hm fun _=>?_
 exact az [64,59,4,25,1,68]
theorem qeB {r:(Int×Bool)}(hm:zB F m1 i1=some r) :
    qFk 180 [qFd l1 m1 t1,qFc i1] [qFf l1 m1 t1] (.tuple #[qFc r.1,.bool r.2]):=by
 refine pureA func180 ntmps180 hm fun _=>?_
 refine au [56,5,59,24,4,59,5,47] ?_
 refine qj [0,1,6] [] [] [0] (fun ((x32,_):Int×Unit)=>([(7,qFc x32)],[],[],[],yr F m1 i1 x32)) ?_ ?_
 refine au [14] ?_
 refine qr [0,1,6] [] [] [0] (fun (((x85,x86),_):(Int×Int)×Unit)=>([(7,qFc x85),(8,qFc x86)],[],[],[])) ((0:Int),(m1.length:Int)) () ?_
 intro k95
 rintro ⟨⟨x85,x86⟩,_⟩
 refine aw [39,1,1,3,4,4,24,3,0,2,10] ?_ ?_
 refine au [57,14,48,113,25,11,27,3,25,11,116] ?_
 intro x97 e97
 refine qal 9 e97 ?_
 refine au [98,4,26,2] ?_
 intro x98 e98 b99 o0
 refine au [25,3,4] ?_
 refine qd qk5 ?_
 intro x0 e0 _
 refine aw [0,2,10] ?_ ?_
 refine au [3,113,5,115] ?_
 exact ql ((iadd .i64 x97 1,x86),())
 refine au [3,4,5,115] ?_
 exact ql ((x85,x97),())
 refine au [71] ?_
 exact qa (x85,())
 rintro ⟨x32,_⟩
 refine au [91,89,24,3,4] ?_
 refine qfo 18 (fun ((x55,_):Bool×Unit)=>([(31,qFc x32),(53,.bool x55)],[],[],[],yu F x32 x55)) ?_ ?_
 refine qG (os:=_) rfl ?_
 refine av [26,3] ?_ ?_
 intro h33
 refine kF (k:=35) rfl h33 ?_
 refine au [89,26,2] ?_
 intro x56 e56 b57 o58
 refine au [25,3,4,25,6,4] ?_
 refine kX 10 [31,35] [] [] [] (fun ((x68,_):Bool×Unit)=>([(52,.bool x68)],[],[],[],yv F x32 x68)) ?_ ?_
 refine qG (os:=_) rfl ?_
 refine av [26,3] ?_ ?_
 intro h59
 refine kF (k:=42) rfl h59 ?_
 refine au [69,69,7,88] ?_
 exact qa (true,())
 intro h59
 refine kE (k:=42) rfl h59 ?_
 refine au [89,29,1] ?_
 intro x69 e69 b70 o71
 refine au [25,3,34,6] ?_
 intro x72 e72 _
 refine au [4] ?_
 refine kX 3 [31,35,42] [] [] [] (fun ((x75,_):Bool×Unit)=>([(51,.bool x75)],[],[],[],yw F x32 x75)) ?_ ?_
 refine qG (os:=_) rfl ?_
 refine av [26,3] ?_ ?_
 intro h73
 refine kF (k:=48) rfl h73 ?_
 refine au [4,34,6] ?_
 intro x76 e76 _
 refine au [88] ?_
 exact qa (x76,())
 intro h73
 refine kE (k:=48) rfl h73 ?_
 refine au [62,87] ?_
 exact qa (false,())
 rintro ⟨x75,_⟩
 try dsimp only
 refine qG (os:=_) rfl ?_
 refine au [87] ?_
 exact qa (x75,())
 rintro ⟨x68,_⟩
 try dsimp only
 refine qG (os:=_) rfl ?_
 refine au [88] ?_
 exact qa (x68,())
 intro h33
 refine kE (k:=35) rfl h33 ?_
 refine au [69,69,69,69,7,87] ?_
 exact qa (false,())
 rintro ⟨x55,_⟩
 try dsimp only
 refine qG (os:=_) rfl ?_
 exact az [5,68]
theorem qiK {r:(qFa×Bool×Int)}(hm:qaY F m1 d1 i1 d2=some r) :
    PureM qFj 296 [qFe t1,.bool d2] [⟨t1,363,[qFd l1 m1 t2,.bool d1,qFc i1]⟩] [qFg l1 m1 t2] [] (qFb×Nat) (fun _=>.tuple #[]) (fun g=>[⟨t1,363,[qFd g.1 r.1 g.2,.bool r.2.1,qFc r.2.2]⟩]) (fun g=>[qFg g.1 r.1 g.2]):=by
 refine pureMA func296 ntmps296 hm fun _=>?_
 refine au [24,8] ?_
 refine qP (fun (((x21,x22,x23),a19,c20):(qFa×Bool×Int)×qFb×Nat)=>([(0,qFe t1)],[⟨t1,363,[qFd a19 x21 c20,.bool x22,qFc x23]⟩],[qFg a19 x21 c20],[],jg F x21 x22 x23)) ?_ ?_
 refine au [48,4,112] ?_
 refine qzt rfl UnF.u rfl rfl rfl ?_
 refine aw [0,2,10] ?_ ?_
 refine au [1] ?_
 refine kC mixed [13] _ _ .nil (qgV 0 rfl qg) 14 rfl ?_
 refine au [92,15,3] ?_
 refine qz 4 (qFd l1 m1 t2) [[13]] rfl rfl rfl (kW (j:=0) rfl tf56 rfl rfl (fun _=>rfl) rfl) ?_
 refine au [6,5,6,6,15,7] ?_
 refine qz 8 (qFc i1) [[13]] rfl rfl rfl (kW (j:=0) rfl tf3 rfl rfl (fun _=>rfl) rfl) ?_
 refine au [13,9] ?_
 refine zL [i1] (fun a29 c30=>?_)
 refine au [0,31,13,13,10] ?_
 refine zD 1 (qD .i64) rfl underlying56 tf3 rfl rfl rfl rfl rfl (.inl ⟨0,_,rfl⟩) rfl rfl (fun x31 e31 a32 c33=>?_)
 refine au [0,31,13,6,11,15,12,13,13,85] ?_
 refine kZ 13 rfl (by kernel_rfl) .nil ?_
 refine au [54,2,3,89,4,55,21,55,85] ?_
 exact qa ((x31,d2,(0:Int)),a32,c33)
 refine au [11] ?_
 exact qa ((m1,d1,i1),l1,t2)
 rintro ⟨⟨x21,x22,x23⟩,a19,c20⟩
 refine au [39,3,4,112,24,0,55,85] ?_
 exact qM (a19,c20)
theorem qpt {r:(qFa×qFa)}(hm:qf9 F m1 m2=some r) :
    Pure qFj 275 [qFd l1 m1 t1,qFd l2 m2 t2] [qFf l1 m1 t1,qFf l2 m2 t2] ((qFb×Nat)×qFb×Nat) (fun g=>.tuple #[qFd g.1.1 r.1 g.1.2,qFd g.2.1 r.2 g.2.2]) (fun g=>[qFg g.1.1 r.1 g.1.2,qFg g.2.1 r.2 g.2.2]) (fun _=>[]):=by
 refine pureA func275 ntmps275 hm fun _=>?_
 refine au [56,5,80] ?_
 refine qJ [.slice none 0 0,.bool true,qFc 0] ?_
 refine au [23] ?_
 intro g7
 refine au [47] ?_
 refine qj [0,1,5,6] [] [] [0,1] (fun (((x66,x67,x68),a64,c65):(qFa×Bool×Int)×qFb×Nat)=>([],[⟨g7,363,[qFd a64 x66 c65,.bool x67,qFc x68]⟩],[qFg a64 x66 c65],[],qfI F m1 m2 x66 x67 x68)) ?_ ?_
 refine au [48,84,27,12] ?_
 refine qr [0,1,5,6,17,18] [] [] [0,1] (fun (((x0,x2,x3,x5),a0,c0):(Int×qFa×Bool×Int)×qFb×Nat)=>([(19,qFc x0)],[⟨g7,363,[qFd a0 x2 c0,.bool x3,qFc x5]⟩],[qFg a0 x2 c0],[])) ((0:Int),([]:qFa),true,(0:Int)) (none,0) ?_
 intro k0
 rintro ⟨⟨x0,x2,x3,x5⟩,a0,c0⟩
 refine aw [39,1,3,24,3,0,2,1,10] ?_ ?_
 refine au [83,45,26,2] ?_
 intro x6 e0 b0 o0
 refine au [25,3,59,4,31,14] ?_
 intro x7 e1 _
 refine au [4,79,5,47,3,89] ?_
 refine qu qiK ?_
 rintro x8 e2 ⟨a1,c1⟩
 refine au [0,95] ?_
 exact ql ((iadd .i64 x0 1,x8.1,x8.2.1,x8.2.2),a1,c1)
 refine au [71] ?_
 exact qa ((x2,x3,x5),a0,c0)
 rintro ⟨⟨x66,x67,x68⟩,a64,c65⟩
 try dsimp only
 refine qj [6] [0] [0] [] (fun ((x9,a3,c2):qFa×qFb×Nat)=>([(5,qFd a3 x9 c2)],[],[qFg a3 x9 c2],[],qfJ F x66 x9)) ?_ ?_
 refine au [48,84,27,12] ?_
 refine qr [0,6,33,34] [0] [1] [0,1] (fun (((x10,x11),a4,c4):(qFa×Int)×qFb×Nat)=>([(5,qFd a4 x10 c4),(35,qFc x11)],[],[qFg a4 x10 c4],[])) (([]:qFa),(0:Int)) (none,0) ?_
 intro k1
 rintro ⟨⟨x10,x11⟩,a4,c4⟩
 refine aw [39,1,3,24,3,0,2,1,10] ?_ ?_
 refine au [57] ?_
 refine qj [0,6,33,34,35] [0] [0] [0,1] (fun ((x12,a6,c5):qFa×qFb×Nat)=>([(5,qFd a6 x12 c5)],[],[qFg a6 x12 c5],[],qcK F (qcL F m1 m2 x66 k1) x11 x12)) ?_ ?_
 refine au [14,45,29,1] ?_
 intro x13 e3 b1 o1
 refine au [25,3,59,4,31,14] ?_
 intro x14 e4 _
 refine aw [4,22,22,5,5,0,2,1,3,4,25,7,0,2,10] ?_ ?_
 refine au [3,89] ?_
 refine zL [x13] (fun a7 c7=>?_)
 refine zD 2 (qD .i64) rfl underlying56 tf3 rfl rfl rfl rfl rfl (.inl ⟨0,_,rfl⟩) rfl rfl (fun x15 e5 a8 c8=>?_)
 refine au [5,115] ?_
 exact qa (x15,a8,c8)
 refine au [11,24,2] ?_
 exact qa (x10,a4,c4)
 rintro ⟨x12,a6,c5⟩
 refine au [39,94] ?_
 exact ql ((x12,iadd .i64 x11 1),a6,c5)
 refine au [71] ?_
 exact qa (x10,a4,c4)
 rintro ⟨x9,a3,c2⟩
 refine au [91,112,4,5,49] ?_
 exact qy ((a64,c65),a3,c2)
theorem qhG {r:(Int×qFa×Bool)}(hm:j4 F i1 m1 d1 m2=some r) :
    PureM qFj 276 [qFe t1,qFd l2 m2 t3] [⟨t1,316,[qFc i1,qFd l1 m1 t2,.bool d1]⟩] [qFi l1 m1 t2] [qFf l2 m2 t3] (qFb×Nat) (fun _=>.tuple #[]) (fun g=>[⟨t1,316,[qFc r.1,qFd g.1 r.2.1 g.2,.bool r.2.2]⟩]) (fun g=>[qFi g.1 r.2.1 g.2]):=by
 refine pureMA func276 ntmps276 hm fun _=>?_
 refine au [24,8,48,4,24,4,28,15] ?_
 rintro x10 e10 ⟨a11,c12⟩
 refine au [98,84] ?_
 refine qr [0,10,11] [] [] [0] (fun (((x27,x28,x31,x32),a29,c30):(Int×Int×qFa×Bool)×qFb×Nat)=>([(12,qFc x27)],[⟨t1,316,[qFc x28,qFd a29 x31 c30,.bool x32]⟩],[qFi a29 x31 c30],[])) ((0:Int),x10.1,x10.2.1,x10.2.2) (a11,c12) ?_
 intro k47
 rintro ⟨⟨x27,x28,x31,x32⟩,a29,c30⟩
 refine aw [39,1,3,24,3,0,2,1,10] ?_ ?_
 refine au [83,48,26,2] ?_
 intro x55 e55 b56 o57
 refine au [25,3,5,47,3,89,4,28,10,25,9,28,15] ?_
 rintro x58 e58 ⟨a59,c60⟩
 refine au [0,95] ?_
 exact ql ((iadd .i64 x27 1,x58.1,x58.2.1,x58.2.2),a59,c60)
 refine au [71] ?_
 exact qM (a29,c30)
theorem qpu {r:Unit}(hm:qhJ F m1=some r) :
    PureM qFj 297 [qFd l1 m1 t1] [] [] [qFf l1 m1 t1] Nat (fun g=>.func (.func 304) #[] #[qFe g]) (fun g=>[⟨g,56,[qFd l1 m1 t1]⟩]) (fun _=>[]):=by
 refine pureMA func297 ntmps297 hm fun _=>?_
 refine au [64,23] ?_
 intro g4
 refine au [80,27,5,49] ?_
 exact qM g4
theorem qmw (F:Nat){σ τ:Type}{J:Rounds σ τ}{yy:σ→(Int×Int)→Option (σ ⊕ τ)}{L:Nat}(hY:YieldC qFj L (fun (p:Int×Int)=>[.agg #[qFc p.1,qFc p.2]]) J yy)(s0:σ)(gs0:J.γ)(g1:Nat)(x2:qFa)(a3:qFb)(c4:Nat)(r:σ ⊕ τ)(hm:qcA F yy x2 s0=some r) :
    PureM qFj 304 ([.func (.yield L) #[] #[],qFe g1]) ([⟨g1,56,[qFd a3 x2 c4]⟩]++J.IB s0 gs0) (J.IR s0 gs0) [J.F,qFf a3 x2 c4] (J.G r) (fun _=>.tuple #[]) (fun g=>[⟨g1,56,[qFd a3 x2 c4]⟩]++J.bs r g) (fun g=>J.rs r g):=by
 refine pureMA func304 ntmps304 hm fun _=>?_
 refine au [56,47,14] ?_
 refine jC (fun (((x0,x1),g0):(Int×σ)×J.γ)=>[(0,.func (.yield L) #[] #[]),(1,qFe g1),(3,qFc x0)]) (fun (((x0,x1),g0):(Int×σ)×J.γ)=>[⟨g1,56,[qFd a3 x2 c4]⟩]++J.IB x1 g0) (fun (((x0,x1),g0):(Int×σ)×J.γ)=>[]++J.IR x1 g0) (fun (((x0,x1),g0):(Int×σ)×J.γ)=>[qFf a3 x2 c4,J.F]) (fun k (s:(Int×σ)×J.γ)=>zy F yy x2 k s.1) ((0,s0),gs0) F ?_ (hB:=(.cons 0 rfl (qf 0 rfl))) (hR:=(qf 0 rfl)) (hF:=(qi 1 rfl (qi 0 rfl zJ)))
 intro k0
 rintro ⟨⟨x0,x1⟩,g0⟩
 try dsimp only
 refine qbW (m':=qbO F yy x2 (zy F yy x2 k0) x0 x1) rfl ?_
 refine aw [1,1,3,4,18,24,4,24,3,0,2,10] ?_ ?_
 refine au [57,14,45,47] ?_
 refine qdM (fun ((x3,_):Int×Unit)=>[(0,.func (.yield L) #[] #[]),(1,qFe g1),(3,qFc x0),(4,qFc x3)]) (fun ((x3,_):Int×Unit)=>[⟨g1,56,[qFd a3 x2 c4]⟩]++J.IB x1 g0) (fun ((x3,_):Int×Unit)=>[]++J.IR x1 g0) (fun ((x3,_):Int×Unit)=>[qFf a3 x2 c4,J.F]) (fun ((x3,_):Int×Unit)=>qbQ F yy (zy F yy x2 k0) x2 x0 x1 x3) ?_ ?_
 refine au [14] ?_
 refine jC (fun ((x4,_):Int×Unit)=>[(0,.func (.yield L) #[] #[]),(1,qFe g1),(3,qFc x0),(4,qFc x4)]) (fun ((x4,_):Int×Unit)=>[⟨g1,56,[qFd a3 x2 c4]⟩]++J.IB x1 g0) (fun ((x4,_):Int×Unit)=>[]++J.IR x1 g0) (fun ((x4,_):Int×Unit)=>[qFf a3 x2 c4,J.F]) (fun k (s:Int×Unit)=>vv F yy (zy F yy x2 k0) x2 x0 x1 k s.1) (1,()) F ?_ (hB:=(.cons 0 rfl (qf 0 rfl))) (hR:=(qf 0 rfl)) (hF:=(qi 0 rfl (qi 1 rfl zJ)))
 intro k1
 rintro ⟨x4,_⟩
 try dsimp only
 refine qbW (m':=qbP F yy (zy F yy x2 k0) x2 x0 x1 (vv F yy (zy F yy x2 k0) x2 x0 x1 k1) x4) rfl ?_
 refine au [1] ?_
 refine qdM (fun ((x5,_):Bool×Unit)=>[(0,.func (.yield L) #[] #[]),(1,qFe g1),(3,qFc x0),(4,qFc x4),(29,.bool x5)]) (fun ((x5,_):Bool×Unit)=>[⟨g1,56,[qFd a3 x2 c4]⟩]++J.IB x1 g0) (fun ((x5,_):Bool×Unit)=>[]++J.IR x1 g0) (fun ((x5,_):Bool×Unit)=>[qFf a3 x2 c4,J.F]) (fun ((x5,_):Bool×Unit)=>qbR F yy (zy F yy x2 k0) (vv F yy (zy F yy x2 k0) x2 x0 x1 k1) x2 x0 x1 x4 x5) ?_ ?_
 refine av [30,1] ?_ ?_
 intro h0
 refine au [29,15] ?_
 intro x6 e0 b0 o0 h1
 replace h1:a3=some ⟨b0,o0,none⟩:=h1
 refine au [28,4] ?_
 intro x7 e1 b1 o1 h2
 replace h2:a3=some ⟨b1,o1,none⟩:=h2
 refine qK [] [0] [0,1,2,3] 21 ?_
 refine au [92,24,15,3,28,3,4,6,5,6,6] ?_
 refine yM 15 h0 ?_
 refine au [24,15,7,6,8,6,9,6,10] ?_
 refine vl 11 h1 e0 ?_
 refine qz 12 (qFc x6) [] rfl rfl rfl (qS (j:=1) rfl tf3 rfl rfl (fun _=>rfl) rfl) ?_
 refine au [24,15,13,6,14] ?_
 refine vl 15 h2 e1 ?_
 refine qz 16 (qFc x7) [] rfl rfl rfl (qS (j:=0) rfl tf3 rfl rfl (fun _=>rfl) rfl) ?_
 refine au [6,17,6,18,6,19,6,20,54] ?_
 exact yj (((x6:Int) == (iadd .i64 x7 x4)),()) (hB:=(.cons 0 rfl (qf 0 rfl))) (hR:=(qf 0 rfl)) (hF:=(qi 2 rfl (qi 3 rfl zJ)))
 intro h0
 refine qK [] [0] [0,1] 21 ?_
 refine au [92,24,15,3,28,3,4,6,5,6,6] ?_
 refine yM 15 h0 ?_
 refine au [20,7,20,8,20,9,20,10,20,11,20,12,20,13,20,14,20,15,20,16,20,17,20,18,20,19,6,20,54] ?_
 exact yj (false,()) (hB:=(.cons 0 rfl (qf 0 rfl))) (hR:=(qf 0 rfl)) (hF:=(qi 0 rfl (qi 1 rfl zJ)))
 rintro ⟨x5,_⟩
 refine aw [39,10] ?_ ?_
 refine au [57,14,3,113,5,115] ?_
 exact vF (iadd .i64 x4 1,()) (hB:=(.cons 0 rfl (qf 0 rfl))) (hR:=(qf 0 rfl)) (hF:=(qi 0 rfl (qi 1 rfl zJ)))
 refine au [71] ?_
 exact yj (x4,()) (hB:=(.cons 0 rfl (qf 0 rfl))) (hR:=(qf 0 rfl)) (hF:=(qi 0 rfl (qi 1 rfl zJ)))
 rintro ⟨x3,_⟩
 refine au [39,1,48,18,4,26,2] ?_
 intro x8 e2 b2 o2
 refine au [25,3,4] ?_
 refine qJ [qFc x8,qFc x3] ?_
 refine qfp hY x1 (x8,x3) g0 (B1:=[⟨g1,56,[qFd a3 x2 c4]⟩]) (R1:=[]) (j:=2) rfl rfl rfl rfl rfl rfl rfl (fun x9 _ g2=>?_) (fun x10 _ g2=>?_)
 refine au [25,7,46] ?_
 refine yh (b:=false) rfl (fun h=>by cases h) (fun _=>?_)
 refine au [57,3,89,24,0,5,115] ?_
 exact vF ((iadd .i64 x0 x3,x9),g2) (hB:=(.cons 0 rfl (qf 0 rfl))) (hR:=(qf 0 rfl)) (hF:=(qi 1 rfl (qi 2 rfl zJ)))
 refine au [25,7,46] ?_
 refine yh (b:=true) rfl (fun _=>?_) (fun h=>by cases h)
 refine au [8,12,50,24,5] ?_
 exact jD (B0:=[⟨g1,56,[qFd a3 x2 c4]⟩]) (x:=.inr x10) g2 (.inl rfl) (res0 rfl) (.cons 0 rfl (qf 0 rfl)) (qf 0 rfl)
 refine au [71] ?_
 exact jD (B0:=[⟨g1,56,[qFd a3 x2 c4]⟩]) (x:=.inl x1) g0 (.inr rfl) (res0 rfl) (.cons 0 rfl (qf 0 rfl)) (qf 0 rfl)
theorem qra {r:(List (Int×Int)×qFa)}(hm:qg9 F m1 i1=some r) :
    PureM qFj 277 [qFd l1 m1 t1,qFc i1] [] [] [qFf l1 m1 t1] ((qFb×Nat)×qFb×Nat) (fun g=>.tuple #[qFd g.1.1 r.1 g.1.2,qFd g.2.1 r.2 g.2.2]) (fun _=>[]) (fun g=>[Ro eS209 209 2 (qFd g.1.1 r.1 g.1.2) r.1,qFg g.2.1 r.2 g.2.2]):=by
 refine qdJ func277 rfl ntmps277 rfl hm (fun w=>?_)
 refine au [96] ?_
 intro g5
 refine au [24,6] ?_
 intro g6
 refine au [24,6] ?_
 intro g7
 refine au [46,1,48] ?_
 refine qu qpu ?_
 intro x0 e0 g0
 refine au [73,27,12] ?_
 refine qd8 (Int×Int) eS209 209 2 (qcs (encs:=(fun (p:Int×Int)=>[.agg #[qFc p.1,qFc p.2]])) (y:=(fun ((x2,x3):(qFa×List (Int×Int))) ((x5,x6):Int×Int)=>qcz F i1 x2 x3 x5 x6)) (lb:=[qFe g0]) (fun ((x2,x3):(qFa×List (Int×Int))) ((a0,c0,a1,c1):qFb×Nat×qFb×Nat)=>[⟨g7,56,[qFd a0 x2 c0]⟩,⟨g6,204,[qFd a1 x3 c1]⟩,⟨g5,3,[qFc i1]⟩]) (fun ((x2,x3):(qFa×List (Int×Int))) ((a0,c0,a1,c1):qFb×Nat×qFb×Nat)=>[qFg a0 x2 c0,Ro eS209 209 2 (qFd a1 x3 c1) x3]) (fun (_:Empty) (_:Unit)=>[]) (fun (_:Empty) (_:Unit)=>[]) (fun _=>.skip) (([]:qFa),([]:List (Int×Int))) (none,0,none,0) rfl EnC.e (fun _=>rfl) rfl (.cons 0 rfl .nil) (.cons 0 rfl (.cons 0 rfl (.cons 0 rfl .nil))) (.cons 1 rfl (.cons 0 rfl .nil)) (.consF 0 rfl .nil) (fun z hz _ _ _ hY=>qmw F hY (([]:qFa),([]:List (Int×Int))) (none,0,none,0) g0 m1 l1 t1 z hz) ?_ ?_ ?_)
 rintro rc1 L1 D1 ⟨x2,x3⟩ ⟨a0,c0,a1,c1⟩ ⟨x5,x6⟩ z w M _
 try dsimp only
 refine qdN [(0,qFd l1 m1 t1),(1,qFc i1),(3,qFe g5),(4,qFe g6),(5,qFe g7),(8,qFd l1 m1 t1),(9,.func (.func 304) #[] #[qFe g0]),(10,.agg #[qFc x5,qFc x6])] (qn rfl (qn rfl (qn rfl (qn rfl (qn rfl (qn rfl (qn rfl (qn rfl qd5)))))))) ?_
 refine au [3,24,6] ?_
 intro g1
 refine aw [21,0,34,7,14,1,1,3,9,18,28,13,26,4,0,2,10] ?_ ?_
 refine au [45,25,15,24,9] ?_
 refine qbr (vs:=[.agg #[qFc x5,qFc x6]]) (ys:=([(x5,x6)]:List (Int×Int))) qgT (by decide) rfl underlying204 tf209 rfl rfl rfl rfl rfl (by decide) (fun a3 c2=>zD 2 qgT rfl underlying204 tf209 rfl rfl rfl rfl rfl (.inl ⟨0,_,rfl⟩) rfl rfl (fun x7 e1 a4 c4=>?_))
 refine au [27,9,46,51,24,14] ?_
 exact vB (rc:=rc1) rfl (.cons 4 rfl .nil) rfl (a0,c0,a4,c4) (.cons 2 rfl (.cons 2 rfl (.cons 2 rfl (.cons 0 rfl (.cons 1 rfl .nil))))) (.cons 2 rfl (.cons 0 rfl .nil))
 refine au [97,78,4,73] ?_
 refine qr [3,4,5,6,20] [0,1,1,1,1] [1] [] (fun (((x8,x9),a5,c5):(Int×qFa)×qFb×Nat)=>([(21,qFc x8)],[⟨g7,56,[qFd a5 x9 c5]⟩],[qFg a5 x9 c5],[])) ((0:Int),x2) (a0,c0) ?_
 intro k0
 rintro ⟨⟨x8,x9⟩,a5,c5⟩
 refine aw [39,1,3,24,3,0,2,1,10] ?_ ?_
 refine au [83,48,47,3] ?_
 refine zX (i:=5) rfl rfl inferInstance rfl rfl (fun _=>rfl) rfl rfl ?_
 refine au [78,113] ?_
 refine zL [iadd .i64 x5 x8] (fun a6 c6=>?_)
 refine zD 2 (qD .i64) rfl underlying56 tf3 rfl rfl rfl rfl rfl (.inl ⟨0,_,rfl⟩) rfl rfl (fun x10 e2 a7 c7=>kP (i:=5) rfl rfl rfl inferInstance rfl rfl rfl rfl rfl ?_)
 refine au [0,95] ?_
 exact ql ((iadd .i64 x8 1,x10),a7,c7)
 refine au [71,24,2] ?_
 exact vB (rc:=rc1) rfl (.cons 3 rfl .nil) rfl (a5,c5,a1,c1) (.cons 5 rfl (.cons 2 rfl (.cons 2 rfl (.cons 0 rfl (.cons 1 rfl .nil))))) (.cons 1 rfl (.cons 0 rfl .nil))
 rintro ⟨x2,x3⟩ _ ⟨a0,c0,a1,c1⟩ D1
 refine au [39,63,1] ?_
 refine qK [] [0,0,0,0,0] [0] 4 ?_
 refine au [31,15,0,28,12,1,13,2,30,2,0,29,6,13,3,27,9,0,29,6,54,2,8] ?_
 exact jE [D1] ((a1,c1),a0,c0) (.inl rfl) rfl (.cons 0 rfl .nil) (resL (rs:=[.cell 4 204,.cell 5 56]) rfl (.cell (i:=2) rfl tf204 rfl rfl (fun _=>rfl) rfl (.cell (i:=1) rfl tf56 rfl rfl (fun _=>rfl) rfl ResOk.nil)) rfl) (fun h=>by subst h;rfl) (fun h=>by subst h;exact .nil) (fun h=>by subst h;exact (.cons 1 rfl (.cons 0 rfl .nil)))
 intro t;exact t.elim
theorem qmC (hm:qcD F i1=some i2) :
    qFk 298 [qFc i1] [] (.int .u64 i2):=by
 refine pureA func298 ntmps298 hm fun _=>?_
 refine au [64,59,25,11,34,8,4,27,3,25,11,34,9,116] ?_
 intro x2 e2
 refine qal 2 e2 ?_
 exact az [46,8,24,1]
theorem qiQ {r:(Int×qFa×Bool)}(hm:qa5 F i1 m1 d1 i2 i3 w1=some r) :
    PureM qFj 278 [qFe t1,qFc i2,qFc i3,qFd l2 w1 t3] [⟨t1,316,[qFc i1,qFd l1 m1 t2,.bool d1]⟩] [qFi l1 m1 t2] [Sl eS209 2 (qFd l2 w1 t3) w1] (qFb×Nat) (fun _=>.tuple #[]) (fun g=>[⟨t1,316,[qFc r.1,qFd g.1 r.2.1 g.2,.bool r.2.2]⟩]) (fun g=>[qFi g.1 r.2.1 g.2]):=by
 refine pureMA func278 ntmps278 hm fun _=>?_
 refine au [28,7,48,4,24,4,28,15] ?_
 rintro x12 e12 ⟨a13,c14⟩
 refine au [98,59,84] ?_
 refine qr [0,2,16,17] [] [] [0] (fun (((x73,x74,x75,x78,x79),a76,c77):(Int×Int×Int×qFa×Bool)×qFb×Nat)=>([(8,qFc x73),(18,qFc x74)],[⟨t1,316,[qFc x75,qFd a76 x78 c77,.bool x79]⟩],[qFi a76 x78 c77],[])) (i2,(0:Int),x12.1,x12.2.1,x12.2.2) (a13,c14) ?_
 intro k0
 rintro ⟨⟨x73,x74,x75,x78,x79⟩,a76,c77⟩
 refine aw [39,1,3,24,3,0,2,1,10] ?_ ?_
 refine au [83,48,32,0] ?_
 intro x0 e0 b0 o0
 refine au [29,3,24,6] ?_
 intro g0
 refine au [5,21,46] ?_
 refine qj [0,2,10,16,17,18] [0] [] [1] (fun (((x1,x4,x5),a0,c0):(Int×qFa×Bool)×qFb×Nat)=>([],[⟨t1,316,[qFc x1,qFd a0 x4 c0,.bool x5]⟩],[qFi a0 x4 c0],[],yV F (yW F i3 w1 k0) i3 x74 x0 x1 x4 x5)) ?_ ?_
 refine aw [1,3,4,25,6,0,2,10] ?_ ?_
 refine au [3,4,78,4,25,9,34,10] ?_
 intro x10 e1 _
 refine au [25,11,28,15] ?_
 rintro x11 e2 ⟨a1,c1⟩
 refine au [0] ?_
 exact qa ((x11.1,x11.2.1,x11.2.2),a1,c1)
 refine au [3,4,78,4,25,9,25,9,28,15] ?_
 rintro x13 e3 ⟨a2,c2⟩
 refine au [0] ?_
 exact qa ((x13.1,x13.2.1,x13.2.2),a2,c2)
 rintro ⟨⟨x1,x4,x5⟩,a0,c0⟩
 refine au [91,78,4,25,9,28,15] ?_
 rintro x14 e4 ⟨a3,c3⟩
 refine au [46,3,99,99,24,0,25,9,5,0,95] ?_
 exact ql ((isub .i64 (iadd .i64 x0.1 x0.2) 1,iadd .i64 x74 1,x14.1,x14.2.1,x14.2.2),a3,c3)
 refine au [71] ?_
 exact qM (a76,c77)
theorem qmp {r:(Int×Int×Int)}(hm:qem F i1 i2=some r) :
    qFk 305 [.int .u64 i1,qFc i2] [] (.tuple #[qFc r.1,.int .u64 r.2.1,.int .u64 r.2.2]):=by
 refine pureA func305 ntmps305 hm fun _=>?_
 refine au [56,5,5,59,24,0,31,12] ?_
 intro x3 e3 _
 refine au [25,9,4,26,11] ?_
 intro h4
 refine qo0 rfl rfl rfl rfl h4 ?_
 refine au [81,28,6] ?_
 intro h11
 refine au [28,6] ?_
 intro h13
 refine qK [] [] [] 14 ?_
 refine au [92,6,3] ?_
 refine qb 4 (.int .u64 (ishl .u64 1 (imul .i64 (iquo .i64 (isub .i64 x3 1) i2) i2))) rfl rfl rfl (qi3 rfl rfl h11) ?_
 refine au [6,5,67,6,8,6,9] ?_
 refine qb 10 (.int .u64 (ishl .u64 1 (iadd .i64 (imul .i64 (iquo .i64 (isub .i64 x3 1) i2) i2) i2))) rfl rfl rfl (qi3 rfl rfl h13) ?_
 exact az [6,11,100,54,2,8,24,1]
theorem qk9 {r:(Int×Int)}(hm:qb7 F i1=some r) :
    qFk 307 [.int .u64 i1] [] (.tuple #[qFc r.1,.int .u64 r.2]):=by
 refine pureA func307 ntmps307 hm fun _=>?_
 refine au [64,5,59,25,9,31,12] ?_
 intro x2 e2 _
 refine au [81,28,6] ?_
 intro h6
 refine qK [] [] [] 7 ?_
 refine au [70] ?_
 refine qb 2 (.int .u64 (ishl .u64 1 x2)) rfl rfl rfl (qi3 rfl rfl h6) ?_
 exact az [6,3,6,4,6,5,6,6,54,2,8,24,1]
theorem qje {r:(Int×qFa)}(hm:qbI F i1 m1 i2 i3=some r) :
    Pure qFj 306 [.agg #[qFc i1,qFd l1 m1 t1],.int .u64 i2,.int .u64 i3] [qFh l1 m1 t1] (qFb×Nat) (fun g=>.agg #[qFc r.1,qFd g.1 r.2 g.2]) (fun g=>[qFi g.1 r.2 g.2]) (fun _=>[]):=by
 refine pureA func306 ntmps306 hm fun _=>?_
 refine au [111,23] ?_
 intro g7
 refine au [24,6] ?_
 intro g8
 refine au [98,34,11] ?_
 intro x9 e9 _
 refine aw [4,22,22,5,5,0,2,1,1,3,4,4,24,3,0,2,10] ?_ ?_
 refine au [45,25,10,89,25,9,28,14] ?_
 rintro x14 e14 ⟨a15,c16⟩
 refine au [21,46,8,12] ?_
 exact qd9 (a15,c16) 0
 refine au [97,25,10,89,66,28,14] ?_
 rintro x17 e17 ⟨a18,c19⟩
 refine au [21,46,8] ?_
 exact qd9 (a18,c19) 0
theorem qmo {r:(Int×qFa×Int)}(hm:qel F i1 i2=some r) :
    Pure qFj 299 [.int .u64 i1,qFc i2] [] (qFb×Nat) (fun g=>.tuple #[.agg #[qFc r.1,qFd g.1 r.2.1 g.2],qFc r.2.2]) (fun g=>[qFi g.1 r.2.1 g.2]) (fun _=>[]):=by
 refine pureA func299 ntmps299 hm fun _=>?_
 refine au [56,24,6] ?_
 intro g3
 refine au [81,48,24,3,4] ?_
 refine zT 3 11 14 [0,1,4] (decide (16<i2)) ?_ ?_ ?_
 exact az [62,61]
 exact az [4,106]
 refine au [4] ?_
 refine zT 3 15 18 [0,1,4] (decide (1099511627776<i1)) ?_ ?_ ?_
 exact az [62,61]
 exact az [4,106]
 refine aw [0,2,10] ?_ ?_
 refine au [45] ?_
 refine qJ [qFc 0,.slice none 0 0] ?_
 exact az [21,58,26,0,34,12]
 refine au [57,48,4] ?_
 refine qd qmp ?_
 intro x9 e9 _
 refine au [4,79,22,5,5,59,25,11,34,1] ?_
 rintro x10 e10 ⟨a11,c12⟩
 refine au [4,66,25,9,89,25,9] ?_
 refine qd qje ?_
 rintro x13 e13 ⟨a14,c15⟩
 refine au [21,49] ?_
 exact kq (a14,c15) 0
theorem qq7 {r:(Int×qFa×Bool)}(hm:qcP F i1 m1 m2 i2=some r) :
    PureM qFj 279 [.agg #[qFc i1,qFd l1 m1 t1],qFd l2 m2 t2,qFc i2] [] [qFi l1 m1 t1] [Sl (eI .u64) 1 (qFd l2 m2 t2) m2] (qFb×Nat) (fun g=>.tuple #[.agg #[qFc r.1,qFd g.1 r.2.1 g.2],.bool r.2.2]) (fun _=>[]) (fun g=>[qFi g.1 r.2.1 g.2]):=by
 refine pureMA func279 ntmps279 hm fun _=>?_
 refine au [111,23] ?_
 intro g9
 refine au [24,6] ?_
 intro g10
 refine au [47] ?_
 refine qj [3,6] [0] [] [] (fun (((x0,x3),a0,c0):(Int×qFa)×qFb×Nat)=>([],[⟨g9,65,[qFc x0,qFd a0 x3 c0]⟩],[qFi a0 x3 c0],[],qiv F x0 x3)) ?_ ?_
 refine au [48,84] ?_
 refine qr [2,3,6,12,13] [0] [] [0] (fun (((x4,x6,x7),a1,c1):(Int×Int×qFa)×qFb×Nat)=>([(14,qFc x4)],[⟨g9,65,[qFc x6,qFd a1 x7 c1]⟩],[qFi a1 x7 c1],[])) ((0:Int),i1,m1) (l1,t1) ?_
 intro k0
 rintro ⟨⟨x4,x6,x7⟩,a1,c1⟩
 refine aw [39,1,3,24,3,0,2,1,10] ?_ ?_
 refine au [83,45] ?_
 refine ja (j:=0) (qD .u64) (by decide) rfl UnF.u inferInstance rfl rfl rfl rfl ?_
 intro x9 e0 b0 o0
 refine au [25,3,59,4] ?_
 refine qd qmo ?_
 rintro x10 e1 ⟨a2,c2⟩
 refine au [4,79,24,6] ?_
 intro g0
 refine au [21,81,48,25,1,4] ?_
 refine zT 7 26 33 [2,3,6,12,13,14,10] (decide (8192<(iadd .i64 x6 x10.1))) ?_ ?_ ?_
 exact az [69,62,61]
 exact az [110,78,24,0,106]
 refine aw [0,2,10] ?_ ?_
 refine au [45] ?_
 refine qJ [qFc 0,.slice none 0 0] ?_
 refine au [25,5,58,90,50,26,0] ?_
 exact yG (none,0) (resL (rs:=[.cell 6 65,.tmp 7]) rfl (.cell (i:=1) rfl tf65 rfl rfl (by simp) rfl (.tmp rfl ResOk.nil)) rfl) (hR:=fun h=>by subst h;exact (.cons 0 rfl .nil))
 refine au [57,3,26,6,24,9,30,11] ?_
 rintro x11 e2 ⟨a4,c3⟩
 refine au [27,9,0,95] ?_
 exact ql ((iadd .i64 x4 1,x11.1,x11.2),a4,c3)
 refine au [71] ?_
 exact qa ((x6,x7),a1,c1)
 rintro ⟨⟨x0,x3⟩,a0,c0⟩
 refine au [117,25,10,21,49] ?_
 exact yG (a0,c0) (resL (rs:=[.cell 6 65,.tmp 7]) rfl (.cell (i:=0) rfl tf65 rfl rfl (by simp) rfl (.tmp rfl ResOk.nil)) rfl) (hR:=fun h=>by subst h;exact (.cons 0 rfl .nil))
theorem qjc {r:(Int×Int×Bool)}(hm:qbG F i1 d1 i2=some r) :
    PureM qFj 300 [qFe t1,qFc i2] [⟨t1,359,[qFc i1,.bool d1]⟩] [] [] Unit (fun _=>.int .u64 r.1) (fun _=>[⟨t1,359,[qFc r.2.1,.bool r.2.2]⟩]) (fun _=>[]):=by
 refine pureMA func300 ntmps300 hm fun _=>?_
 refine au [56,47] ?_
 refine qj [0,1] [0] [] [] (fun ((x8,_):Int×Unit)=>([(4,.int .u64 x8)],[],[],[],qb6 F i2 x8)) ?_ ?_
 refine aw [1,3,4,24,10,9,18,0,2,10] ?_ ?_
 refine au [3,89,112,25,9,25,9,25,11,116] ?_
 intro x9 e9
 refine qal 4 e9 ?_
 refine au [0] ?_
 exact qa (x9,())
 refine au [3,89,112,25,9,34,10] ?_
 intro x10 e10 _
 refine au [5,0] ?_
 exact qa (x10,())
 rintro ⟨x8,_⟩
 exact az [91,89,55,21,55,21,98,86]
theorem qq8 (hm:qfF F m1 i1=some m2) :
    Pure qFj 280 [qFd l1 m1 t1,qFc i1] [qFf l1 m1 t1] (qFb×Nat) (fun g=>qFd g.1 m2 g.2) (fun g=>[Ro (eI .u64) 119 1 (qFd g.1 m2 g.2) m2]) (fun _=>[]):=by
 refine pureA func280 ntmps280 hm fun _=>?_
 refine au [56,59] ?_
 refine qJ [qFc i1,.bool false] ?_
 refine au [23] ?_
 intro g5
 refine au [80,47] ?_
 refine qP (fun ((x75,a73,c74):qFa×qFb×Nat)=>([(6,qFd a73 x75 c74)],[],[Ro (eI .u64) 119 1 (qFd a73 x75 c74) x75],[],qgu F x75)) ?_ ?_
 refine au [48,84] ?_
 refine qd8 Int (eI .u64) 119 1 (qr [5,12,13] [] [] [0] (fun (((x98,x99,x0,x2),a96,c97):(qFa×Int×Int×Bool)×qFb×Nat)=>([(6,qFd a96 x98 c97),(14,qFc x99)],[⟨g5,359,[qFc x0,.bool x2]⟩],[Ro (eI .u64) 119 1 (qFd a96 x98 c97) x98],[])) (([]:qFa),(0:Int),i1,false) (none,0) ?_)
 intro k0
 rintro ⟨⟨x98,x99,x0,x2⟩,a96,c97⟩
 refine aw [39,1,3,24,3,0,2,1,10] ?_ ?_
 refine au [83,45,26,2] ?_
 intro x3 e0 b0 o0
 refine au [25,3,47,3,89,4] ?_
 refine qu qjc ?_
 intro x5 e1 _
 refine zL [x5.1] (fun a0 c0=>?_)
 refine zD 1 (qD .u64) rfl underlying211 tf119 rfl rfl rfl rfl rfl (.inl ⟨0,_,rfl⟩) rfl rfl (fun x6 e2 a1 c1=>?_)
 refine au [5,0,95] ?_
 exact ql ((x6,iadd .i64 x99 1,x5.2.1,x5.2.2),a1,c1)
 refine au [71] ?_
 exact qa (x98,a96,c97)
 rintro ⟨x75,a73,c74⟩
 refine au [91,49] ?_
 exact qy (a73,c74)
theorem qiP {r:(Int×qFa×Bool)}(hm:v6 F i1 m1 d1 i2 m2 m3 i3 i4 i5=some r) :
    PureM qFj 247 [qFe t1,qFc i2,qFd l2 m2 t3,qFd l3 m3 t4,.agg #[qFc i3,qFc i4,qFc i5]] [⟨t1,316,[qFc i1,qFd l1 m1 t2,.bool d1]⟩] [qFi l1 m1 t2] [qFf l2 m2 t3,qFf l3 m3 t4] (qFb×Nat) (fun _=>.tuple #[]) (fun g=>[⟨t1,316,[qFc r.1,qFd g.1 r.2.1 g.2,.bool r.2.2]⟩]) (fun g=>[qFi g.1 r.2.1 g.2]):=by
 refine pureMA func247 ntmps247 hm fun _=>?_
 refine au [32,1,45,23] ?_
 intro g17
 refine au [98,4,24,4,28,15] ?_
 rintro x18 e18 ⟨a19,c20⟩
 refine aw [0,2,1,1,3,4,24,4,25,6,0,2,10] ?_ ?_
 refine au [8,12] ?_
 exact qM (a19,c20)
 refine au [57,48,47] ?_
 refine qj [0,1,9] [1] [] [] (fun (((x33,x34,x37,x38),a31,c32,a35,c36):(qFa×Int×qFa×Bool)×qFb×Nat×qFb×Nat)=>([(10,qFd a31 x33 c32)],[⟨t1,316,[qFc x34,qFd a35 x37 c36,.bool x38]⟩],[qFi a35 x37 c36],[qFf a31 x33 c32],yS F i2 i4 i5 x33 x34 x37 x38)) ?_ ?_
 refine aw [1,3,9,25,12,25,2,0,2,10] ?_ ?_
 refine au [45,59,4] ?_
 refine qd qpt ?_
 rintro x0 e0 ⟨⟨a0,c0⟩,a1,c1⟩
 refine au [4,79,5,47,3,89] ?_
 refine qu qhG ?_
 rintro x1 e1 ⟨a2,c2⟩
 refine au [0,34,13] ?_
 exact qa ((x0.2,x1.1,x1.2.1,x1.2.2),a1,c1,a2,c2)
 refine au [11] ?_
 exact qa ((m2,x18.1,x18.2.1,x18.2.2),l2,t3,a19,c20)
 rintro ⟨⟨x33,x34,x37,x38⟩,a31,c32,a35,c36⟩
 refine aw [39,1,1,3,4,24,4,25,6,0,2,10] ?_ ?_
 refine au [8,12] ?_
 exact qM (a35,c36)
 refine au [57] ?_
 refine qj [0,1,9] [0] [] [] (fun (((x51,x52,x55,x56),a49,c50,a53,c54):(qFa×Int×qFa×Bool)×qFb×Nat×qFb×Nat)=>([(10,qFd a49 x51 c50)],[⟨t1,316,[qFc x52,qFd a53 x55 c54,.bool x56]⟩],[qFi a53 x55 c54],[qFf a49 x51 c50],yT F i2 i5 x51 x52 x55 x56)) ?_ ?_
 refine aw [1,3,9,18,25,2,0,2,10] ?_ ?_
 refine au [45,59,78] ?_
 refine qu qra ?_
 rintro x4 e2 ⟨⟨a3,c3⟩,a5,c4⟩
 refine au [4,79,5,47,3,89,78,4] ?_
 refine qu qiQ ?_
 rintro x5 e3 ⟨a6,c6⟩
 refine au [0,34,13] ?_
 exact qa ((x4.2,x5.1,x5.2.1,x5.2.2),a5,c4,a6,c6)
 refine au [11] ?_
 exact qa ((x33,x34,x37,x38),a31,c32,a35,c36)
 rintro ⟨⟨x51,x52,x55,x56⟩,a49,c50,a53,c54⟩
 try dsimp only
 refine qj [0] [1] [0] [] (fun (((x76,x77,x80),g75,a78,c79):(Bool×Int×qFa)×Nat×qFb×Nat)=>([(13,qFe g75),(14,.bool x76)],[⟨g75,65,[qFc x77,qFd a78 x80 c79]⟩],[qFi a78 x80 c79],[],yU F x52 x55 x56 x76 x77 x80)) ?_ ?_
 refine qK [] [0,0] [0] 13 ?_
 refine qb 0 (.agg #[qFc 0,.slice none 0 0]) rfl rfl rfl (qdO (cells:=[qFc 0,.slice none 0 0]) st65 rfl (by kernel_rfl)) ?_
 refine au [6,1,6,2,15,4,24,15,5] ?_
 refine vd 3 10 rfl rfl (by kernel_rfl) rfl rfl ?_ ?_
 refine au [34,14] ?_
 rintro x85 e85 ⟨a86,c87⟩
 refine au [0,30,5] ?_
 refine vd 6 10 rfl rfl (by kernel_rfl) rfl rfl ?_ ?_
 refine au [29,7,32,2] ?_
 rintro x88 e88 ⟨a89,c90⟩
 refine au [0,30,5,6,7,6,8,6,9,13,10,24,6] ?_
 intro g91
 refine au [0,26,15,13,11,85,26,15,6,12,54] ?_
 exact qa ((x88.2.2,x88.1,x88.2.1),g91,a89,c90)
 refine k8 (m':=((qcP F 0 ([]:qFa) x85 i5).bind fun x93=>yU F x52 x55 x56 x93.2.2 x93.1 x93.2.1)) (rfl) ?_
 refine au [24,6] ?_
 intro g92
 refine au [0,26,15,13,6,29,7,32,2] ?_
 rintro x93 e93 ⟨a94,c95⟩
 refine au [0,26,15,6,7,6,8,6,9,13,11,85,26,15,6,12,54] ?_
 exact qa ((x93.2.2,x93.1,x93.2.1),g92,a94,c95)
 refine k8 (m':=((qfF F x51 i2).bind fun x97=>((qcP F 0 ([]:qFa) x97 i5).bind fun x9=>yU F x52 x55 x56 x9.2.2 x9.1 x9.2.1))) (rfl) ?_
 refine au [24,6] ?_
 intro g96
 refine au [0,26,15,13,3,34,14] ?_
 rintro x97 e97 ⟨a98,c99⟩
 refine au [0,26,15,13,6,29,7,32,2] ?_
 rintro x9 e4 ⟨a7,c7⟩
 refine au [0,26,15,6,7,6,8,6,9,13,11,85,26,15,6,12,54] ?_
 exact qa ((x9.2.2,x9.1,x9.2.1),g96,a7,c7)
 rintro ⟨⟨x76,x77,x80⟩,g75,a78,c79⟩
 refine au [91,4,112,4] ?_
 refine zT 3 69 72 [0,13,64] (!x76) ?_ ?_ ?_
 exact az [62,61]
 exact az [4,25,7,60]
 refine au [55,21,46,3,4,25,10,34,5] ?_
 rintro x82 e82 ⟨a83,c84⟩
 refine au [0] ?_
 exact qM (a83,c84)
theorem qnY (hm:qfg F i1 m1 i2 i3 i4=some i5) :
    qFk 287 [qFc i1,qFd l1 m1 t1,.agg #[qFc i2,qFc i3,qFc i4]] [qFf l1 m1 t1] (qFc i5):=by
 refine pureA func287 ntmps287 hm fun _=>?_
 refine au [111,23] ?_
 intro g8
 refine au [81,48,24,3,4] ?_
 refine zT 3 9 12 [1,5] (decide (1048576<i1)) ?_ ?_ ?_
 exact az [62,61]
 exact az [4,106]
 refine aw [0,2,10] ?_ ?_
 exact az [45,75]
 refine aw [11,2,1,1,3,9,18,25,2,0,2,10] ?_ ?_
 refine au [48,30,3] ?_
 intro x14 e14 _
 exact az [75]
 exact az [97,68]
theorem qnX {r:(Int×qFa×Int)}(hm:qff F i1 m1 m2 i2 i3 i4=some r) :
    Pure qFj 259 [qFc i1,qFd l1 m1 t1,qFd l2 m2 t2,.agg #[qFc i2,qFc i3,qFc i4]] [qFf l1 m1 t1,qFf l2 m2 t2] (qFb×Nat) (fun g=>.tuple #[.agg #[qFc r.1,qFd g.1 r.2.1 g.2],qFc r.2.2]) (fun g=>[qFi g.1 r.2.1 g.2]) (fun _=>[]):=by
 refine pureA func259 ntmps259 hm fun _=>?_
 refine au [28,7,45,23] ?_
 intro g11
 refine au [24,6] ?_
 intro g12
 refine au [80,25,10,29,10] ?_
 intro x13 e13 _
 refine au [47] ?_
 refine qj [0,1,2,7,8] [0,1] [] [0,1] (fun ((x19,_):Int×Unit)=>([(10,qFc x19)],[],[],[],qbh F i1 m1 m2 i2 i3 i4 x19)) ?_ ?_
 refine au [48,25,6,4] ?_
 refine kX 7 [0,1,2,7,8,10] [0,1] [] [0,1] (fun ((x40,_):Bool×Unit)=>([(23,.bool x40)],[],[],[],qbk F i1 m1 m2 i2 i3 i4 x13 x40)) ?_ ?_
 refine qG (os:=_) rfl ?_
 refine av [26,3] ?_ ?_
 intro h38
 refine kF (k:=16) rfl h38 ?_
 refine au [4,24,3,4] ?_
 refine zT 3 19 22 [0,1,2,7,8,10,16] (decide (1048576<i1)) ?_ ?_ ?_
 exact az [62,61]
 exact az [4,106]
 refine au [88] ?_
 exact qa ((decide (i1<0) || decide (1048576<i1)),())
 intro h38
 refine kE (k:=16) rfl h38 ?_
 refine au [69,62,87] ?_
 exact qa (false,())
 rintro ⟨x40,_⟩
 try dsimp only
 refine qG (os:=_) rfl ?_
 refine aw [0,2,10] ?_ ?_
 refine au [3,5,0] ?_
 exact qa ((3:Int),())
 refine au [11] ?_
 exact qa (x13,())
 rintro ⟨x19,_⟩
 try dsimp only
 refine qj [0,1,2,7,8] [0,1] [] [0,1] (fun ((x22,_):Int×Unit)=>([(10,qFc x22)],[],[],[],qbi F i1 m1 m2 i2 i3 i4 x22)) ?_ ?_
 refine aw [1,3,4,25,6,0,2,10] ?_ ?_
 refine au [3,4,30,3] ?_
 intro x36 e36 _
 refine au [5,0] ?_
 exact qa (x36,())
 refine au [11] ?_
 exact qa (x19,())
 rintro ⟨x22,_⟩
 try dsimp only
 refine qj [0,1,2,7,8] [0,1] [] [0,1] (fun ((x25,_):Int×Unit)=>([(10,qFc x25)],[],[],[],qbj F i1 m1 m2 i2 i3 i4 x25)) ?_ ?_
 refine aw [1,3,4,25,6,0,2,10] ?_ ?_
 refine au [3,89,25,10] ?_
 refine qd qnY ?_
 intro x34 e34 _
 refine au [5,0] ?_
 exact qa (x34,())
 refine au [11] ?_
 exact qa (x22,())
 rintro ⟨x25,_⟩
 refine aw [39,1,1,3,4,25,1,0,2,10] ?_ ?_
 refine au [45] ?_
 refine qJ [qFc 0,.slice none 0 0] ?_
 exact az [4,21,58,26,0,34,12]
 refine au [97] ?_
 refine qJ [qFc 0,.slice none 0 0,.bool false] ?_
 refine au [23] ?_
 intro g27
 refine au [59,89,4,26,6,29,7,34,15] ?_
 rintro x28 e28 ⟨a29,c30⟩
 refine aw [0,2,1,1,3,4,24,10,9,18,0,2,10] ?_ ?_
 refine au [45] ?_
 refine qJ [qFc 0,.slice none 0 0] ?_
 exact az [25,5,58,26,0,32,3]
 refine au [57,48,55,24,9,25,5,49] ?_
 exact kq (a29,c30) 1
theorem qps {r:(Int×Int×qFa×Bool)}(hm:qf8 F p1 m1 i1 i2 i3 i4=some r) :
    Pure qFj 230 [qFd l1 p1 t1,qFd l2 m1 t2,qFc i1,.agg #[qFc i2,qFc i3,qFc i4]] [SlN eN56 iN56 1 (qFd l1 p1 t1) p1 n1,qFf l2 m1 t2] (qFb×Nat) (fun g=>.tuple #[.agg #[qFc r.1,qFc r.2.1,qFd g.1 r.2.2.1 g.2],.bool r.2.2.2]) (fun g=>[qFi g.1 r.2.2.1 g.2]) (fun _=>[]):=by
 refine pureA func230 ntmps230 hm fun _=>?_
 refine au [28,7,45,23] ?_
 intro g11
 refine au [24,6] ?_
 intro g12
 refine au [59,24,4,80] ?_
 refine qJ [qFc 0,.slice none 0 0] ?_
 refine au [24,6] ?_
 intro g13
 refine au [21,46] ?_
 refine qj [0,1,2,7,8,10,11] [1,2] [] [0,1] (fun (((x18,x21),a19,c20):(Int×qFa)×qFb×Nat)=>([],[⟨g13,65,[qFc x18,qFd a19 x21 c20]⟩],[qFi a19 x21 c20],[],qb8 F p1 m1 i1 i3 i4 x18 x21)) ?_ ?_
 refine aw [1,3,9,25,15,25,2,0,2,10] ?_ ?_
 refine au [3,4,25,11,34,4] ?_
 rintro x46 e46 ⟨a47,c48⟩
 refine au [85] ?_
 exact qa ((x46.1,x46.2),a47,c48)
 refine au [11,26,0] ?_
 exact qa (((0:Int),([]:qFa)),none,0)
 rintro ⟨⟨x18,x21⟩,a19,c20⟩
 refine au [117,47] ?_
 refine qj [1,2,7,8,10,11] [0,1,2] [0] [1] (fun ((x29,a27,c28):qFa×qFb×Nat)=>([(12,qFd a27 x29 c28)],[],[],[qFf a27 x29 c28],qb9 F p1 m1 i1 i3 i4 x18 x21 x29)) ?_ ?_
 refine aw [1,3,4,25,2,0,2,10] ?_ ?_
 refine au [3,89,4,25,9,27,2] ?_
 intro x41 e41 g44 b42 o43
 refine au [25,3,5,0] ?_
 exact qa (x41,g44.1,g44.2)
 refine au [11,25,8] ?_
 exact qmd 0 rfl (qa (([]:qFa),none,0))
 rintro ⟨x29,a27,c28⟩
 refine au [91,9,25,5,98,89,25,10] ?_
 refine qd qnX ?_
 rintro x30 e30 ⟨a31,c32⟩
 refine au [4,79,24,6] ?_
 intro g33
 refine au [21,81,48,25,1,4] ?_
 refine zT 7 44 51 [2,8,11,13] (decide (8192<(iadd .i64 x18 x30.1))) ?_ ?_ ?_
 exact az [69,62,61]
 exact az [9,28,13,78,24,0,106]
 refine aw [0,2,10] ?_ ?_
 refine au [45] ?_
 refine qJ [qFc 0,qFc 0,.slice none 0 0] ?_
 exact az [25,5,58,26,0,32,3]
 refine au [57,48,31,11,24,9,30,11] ?_
 rintro x37 e37 ⟨a38,c39⟩
 refine qJ [qFc i1,qFc x37.1,qFd a38 x37.2 c39] ?_
 refine au [25,5,49] ?_
 exact kq (a38,c39) 1
theorem qpr {r:(Int×Int×qFa×Bool)}(hm:qf7 F p1 m1 i1 i2 i3=some r) :
    Pure qFj 191 [qFd l1 p1 t1,qFd l2 m1 t2,.agg #[qFc i1,qFc i2,qFc i3]] [SlN eN56 iN56 1 (qFd l1 p1 t1) p1 n1,qFf l2 m1 t2] (qFb×Nat) (fun g=>.tuple #[.agg #[qFc r.1,qFc r.2.1,qFd g.1 r.2.2.1 g.2],.bool r.2.2.2]) (fun g=>[qFi g.1 r.2.2.1 g.2]) (fun _=>[]):=by
 refine pureA func191 ntmps191 hm fun _=>?_
 refine au [111,23] ?_
 intro g10
 refine au [24,6] ?_
 intro g11
 refine au [47] ?_
 refine qP (fun (((x96,x97,x98,x0),a99,c0):(Bool×Int×Int×qFa)×qFb×Nat)=>([(6,qFe g11),(7,.bool x96)],[⟨g11,247,[qFc x97,qFc x98,qFd a99 x0 c0]⟩],[qFi a99 x0 c0],[],qfH F x96 x97 x98 x0)) ?_ ?_
 refine au [45,99,4,24,4,28,10,66,73,30,12] ?_
 refine qr [0,1,5,6,16] [1] [] [0,1] (fun (((x2,x3,x5,x6,x10),a0,c1):(Bool×Int×Int×Int×qFa)×qFb×Nat)=>([(7,.bool x2),(17,qFc x3)],[⟨g11,247,[qFc x5,qFc x6,qFd a0 x10 c1]⟩],[qFi a0 x10 c1],[])) (false,(0:Int),(0:Int),(0:Int),([]:qFa)) (none,0) ?_
 intro k0
 rintro ⟨⟨x2,x3,x5,x6,x10⟩,a0,c1⟩
 refine aw [39,1,3,24,3,0,2,1,10] ?_ ?_
 refine au [57] ?_
 refine qj [0,1,5,6,16,17] [0] [] [0,1] (fun (((x11,x12,x13,x14),a1,c2):(Bool×Int×Int×qFa)×qFb×Nat)=>([(7,.bool x11)],[⟨g11,247,[qFc x12,qFc x13,qFd a1 x14 c2]⟩],[qFi a1 x14 c2],[],vD F (vE F p1 m1 i1 i2 i3 k0) x3 x11 x12 x13 x14)) ?_ ?_
 refine au [14,48,59,89,24,9] ?_
 refine qd qps ?_
 rintro x15 e0 ⟨a3,c4⟩
 refine au [4,79,24,6] ?_
 intro g0
 refine au [21,59,4] ?_
 refine kX 12 [0,1,5,6,7,9,16,17] [0,1,2] [0,1] [0,1] (fun ((x16,_):Bool×Unit)=>([(41,.bool x16)],[],[],[],qcJ F (vE F p1 m1 i1 i2 i3 k0) x2 x3 x5 x6 x10 x15 x16)) ?_ ?_
 refine qG (os:=_) rfl ?_
 refine av [26,3] ?_ ?_
 intro h0
 refine kF (k:=29) rfl h0 ?_
 refine au [4,25,7,4] ?_
 refine qjM 8 (!x2) [(0,qFd l1 p1 t1),(1,qFd l2 m1 t2),(5,qFe g10),(6,qFe g11),(7,.bool x2),(16,qFc (iadd .i64 (imin i1 (p1.length:Int)) 1)),(17,qFc x3),(9,qFe g0),(29,.bool true),(30,.bool x2),(31,.bool (!x2)),(32,.bool (!x2)),(40,.bool ((!x2) || decide (x15.2.1<x6)))] (fun h1=>?_) (fun h1=>?_) ?_
 refine qG (os:=_) rfl (kF (k:=32) rfl h1 ?_)
 refine au [69,62,7,24,11] ?_
 refine qt (d:=40) (v:=.bool ((!x2) || decide (x15.2.1<x6))) rfl (by rw[h1];simp only[Bool.true_or]) (qt (d:=32) (v:=.bool (!x2)) rfl (by simp only[qFd,h1] <;> rfl) ?_)
 exact az [53]
 refine qG (os:=_) rfl (kE (k:=32) rfl h1 ?_)
 refine au [9,78,9,110,24,3,24,12] ?_
 refine qt (d:=40) (v:=.bool ((!x2) || decide (x15.2.1<x6))) rfl (by rw[h1];simp only[Bool.false_or]) (qt (d:=32) (v:=.bool (!x2)) rfl (by simp only[qFd,h1] <;> rfl) ?_)
 exact az [53]
 refine qG (os:=_) rfl ?_
 refine au [88] ?_
 exact qa (((!x2) || decide (x15.2.1<x6)),())
 intro h0
 refine kE (k:=29) rfl h0 ?_
 refine au [69,69,62,7,87] ?_
 exact qa (false,())
 rintro ⟨x16,_⟩
 try dsimp only
 refine qG (os:=_) rfl ?_
 refine aw [0,2,10] ?_ ?_
 refine au [3,24,9,27,9,5,115] ?_
 exact qa ((true,x15.1,x15.2.1,x15.2.2.1),a3,c4)
 refine au [11,24,2] ?_
 exact qa ((x2,x5,x6,x10),a0,c1)
 rintro ⟨⟨x11,x12,x13,x14⟩,a1,c2⟩
 refine au [39,94] ?_
 exact ql ((x11,iadd .i64 x3 1,x12,x13,x14),a1,c2)
 refine au [71] ?_
 exact qa ((x2,x5,x6,x10),a0,c1)
 rintro ⟨⟨x96,x97,x98,x0⟩,a99,c0⟩
 refine au [39,77,4,21,49] ?_
 exact kq (a99,c0) 0
theorem qiJ {r:(Bool×Int×Int×Int×Int×Int×qFa×qFa×qFa)}(hm:qcQ F i1 i2 i3 i4 i5 m1 m2 m3 p1=some r) :
    PureM qFj 164 [qFe t1,.agg #[qFd l4 p1 t5]] [⟨t1,169,[qFc i1,qFc i2,qFc i3,qFc i4,qFc i5,qFd l1 m1 t2,qFd l2 m2 t3,qFd l3 m3 t4]⟩] [qFi l1 m1 t2,qFg l2 m2 t3,qFg l3 m3 t4] [SlN eN56 iN56 1 (qFd l4 p1 t5) p1 n1] ((qFb×Nat)×(qFb×Nat)×qFb×Nat) (fun _=>.bool r.1) (fun g=>[⟨t1,169,[qFc r.2.1,qFc r.2.2.1,qFc r.2.2.2.1,qFc r.2.2.2.2.1,qFc r.2.2.2.2.2.1,qFd g.1.1 r.2.2.2.2.2.2.1 g.1.2,qFd g.2.1.1 r.2.2.2.2.2.2.2.1 g.2.1.2,qFd g.2.2.1 r.2.2.2.2.2.2.2.2 g.2.2.2]⟩]) (fun g=>[qFi g.1.1 r.2.2.2.2.2.2.1 g.1.2,qFg g.2.1.1 r.2.2.2.2.2.2.2.1 g.2.1.2,qFg g.2.2.1 r.2.2.2.2.2.2.2.2 g.2.2.2]):=by
 refine pureMA func164 ntmps164 hm fun _=>?_
 refine au [96] ?_
 intro g19
 refine au [47] ?_
 refine qP (fun (((x0,x1,x8,x9),a0,c0,a1,c1,a2,c2):(Int×qFa×qFa×qFa)×qFb×Nat×qFb×Nat×qFb×Nat)=>([],[⟨t1,169,[qFc i1,qFc i2,qFc i3,qFc i4,qFc x0,qFd a0 x1 c0,qFd a1 x8 c1,qFd a2 x9 c2]⟩],[qFi a0 x1 c0,qFg a1 x8 c1,qFg a2 x9 c2],[],qaV F i1 i2 i3 i4 x0 x1 x8 x9)) ?_ ?_
 refine au [45,78,84] ?_
 refine qr [0,3,10,11] [0] [] [0] (fun (((x11,x12,x14,x15,x17),a3,c3,a4,c4,a5,c5):(Int×Int×qFa×qFa×qFa)×qFb×Nat×qFb×Nat×qFb×Nat)=>([(12,qFc x11)],[⟨t1,169,[qFc i1,qFc i2,qFc i3,qFc i4,qFc x12,qFd a3 x14 c3,qFd a4 x15 c4,qFd a5 x17 c5]⟩],[qFi a3 x14 c3,qFg a4 x15 c4,qFg a5 x17 c5],[])) ((0:Int),i5,m1,m2,m3) (l1,t2,l2,t3,l3,t4) ?_
 intro k0
 rintro ⟨⟨x11,x12,x14,x15,x17⟩,a3,c3,a4,c4,a5,c5⟩
 refine aw [39,1,3,24,3,0,2,1,10] ?_ ?_
 refine au [83,48,27,2] ?_
 intro x18 e0 g0 b0 o0
 refine au [25,3,5,47] ?_
 refine qj [0,3,10,11,12] [0,1] [0,1,2] [2] (fun (((x19,x20,x21,x22),g2,a6,c6):(Bool×Int×Int×qFa)×Nat×qFb×Nat)=>([(7,qFe g2),(8,.bool x19)],[⟨g2,247,[qFc x20,qFc x21,qFd a6 x22 c6]⟩],[qFi a6 x22 c6],[],vI F (zr F i1 i2 i3 i4 p1 k0) i1 i2 i3 i4 x11 x12 x14 x15 x17 x19 x20 x21 x22)) ?_ ?_
 refine quW 2 qq rfl ?_
 intro x23 e1 a7 c7 g3 h0 h1
 refine qK [] [0,0] [0,1,2,3] 17 ?_
 refine au [109,6,2] ?_
 refine qb 3 (qFd a7 x23 c7) rfl rfl rfl (qcY underlying22 tf56 rfl rfl rfl e1 h1 h0) ?_
 refine au [6,4,6,5,6,6,15,7,15,8] ?_
 refine qC 9 (.agg #[qFc i2,qFc i3,qFc i4]) rfl rfl rfl (qA (i:=1) rfl tf26 rfl rfl (by simp) rfl) (vd 10 14 rfl rfl (by kernel_rfl) rfl rfl ?_ ?_)
 refine au [35,0] ?_
 rintro x24 e2 ⟨a9,c8⟩
 refine au [0,35,1,6,11,100,13,14,24,6] ?_
 intro g4
 refine au [0,30,4,13,15,85,30,4,6,16,54] ?_
 exact qa ((x24.2.2.2,x24.1,x24.2.1,x24.2.2.1),g4,a9,c8)
 refine k8 (m':=((qf7 F x23 x18 i2 i3 i4).bind fun x25=>vI F (zr F i1 i2 i3 i4 p1 k0) i1 i2 i3 i4 x11 x12 x14 x15 x17 x25.2.2.2 x25.1 x25.2.1 x25.2.2.1)) (rfl) ?_
 refine au [24,6] ?_
 intro g5
 refine au [0,30,4,13,10,35,0] ?_
 rintro x25 e3 ⟨a10,c10⟩
 refine au [0,30,4,6,11,100,13,15,85,30,4,6,16,54] ?_
 exact qa ((x25.2.2.2,x25.1,x25.2.1,x25.2.2.1),g5,a10,c10)
 rintro ⟨⟨x19,x20,x21,x22⟩,g2,a6,c6⟩
 refine au [39,1] ?_
 refine qj [0,3,7,10,11,12] [0,1,2] [0,1,2,3] [0] (fun ((x26,_):Bool×Unit)=>([(45,.bool x26)],[],[],[],yo F (zr F i1 i2 i3 i4 p1 k0) i1 i2 i3 i4 x11 x12 x14 x15 x17 x20 x21 x22 x26)) ?_ ?_
 refine av [30,1] ?_ ?_
 intro h2
 refine au [35,2,92] ?_
 refine yM 33 h2 ?_
 refine au [20,3,20,4,20,5,20,6,20,7,20,8,20,9,20,10,20,11,20,12,20,13,6,14,54] ?_
 exact qa (true,())
 intro h2
 refine au [35,2,92] ?_
 refine yM 33 h2 ?_
 refine au [6,3,6,4,15,5,15,6,15,7,26,8,8,15,9,15,10,28,12,11,100,6,14,54] ?_
 exact qa ((decide (8192<(iadd .i64 x12 x21))),())
 rintro ⟨x26,_⟩
 refine aw [39,10] ?_ ?_
 refine au [45,58,90,50] ?_
 exact qM ((a3,c3),(a4,c4),a5,c5)
 refine au [57] ?_
 refine qj [0,3,7,10,11,12] [0,2] [0,3] [0] (fun (((x27,x28),a12,c11,a13,c13):(qFa×qFa)×qFb×Nat×qFb×Nat)=>([],[⟨t1,169,[qFc i1,qFc i2,qFc i3,qFc i4,qFc x12,qFd a3 x14 c3,qFd a12 x27 c11,qFd a13 x28 c13]⟩],[qFg a12 x27 c11,qFg a13 x28 c13],[],yp F (zr F i1 i2 i3 i4 p1 k0) x11 x12 x14 x21 x22 x27 x28)) ?_ ?_
 refine kC mixed [24,27] _ _ (.cons 0 rfl (.cons 1 rfl .nil)) (qh 0 rfl (qgV 1 rfl qg)) 28 rfl ?_
 refine au [92,6,3,15,4] ?_
 refine qz 5 (qFd a4 x15 c4) [[24],[27]] rfl rfl rfl (kW (j:=1) rfl tf56 rfl rfl (fun _=>rfl) rfl) ?_
 refine au [15,6,26,8,7,6,10,6,11,15,12] ?_
 refine qz 13 (qFd a5 x17 c5) [[24],[27]] rfl rfl rfl (kW (j:=1) rfl tf56 rfl rfl (fun _=>rfl) rfl) ?_
 refine au [6,14,6,15,15,16,15,17,15,18] ?_
 refine qz 19 (qFc x12) [[24],[27]] rfl rfl rfl (kW (j:=1) rfl tf3 rfl rfl (fun _=>rfl) rfl) (vd 8 20 rfl rfl (by kernel_rfl) rfl rfl ?_ ?_)
 refine zL [x20] (fun a15 c14=>?_)
 refine au [0,27,10] ?_
 refine vd 9 20 rfl rfl (by kernel_rfl) rfl rfl ?_ ?_
 refine zD 2 (qD .i64) rfl underlying56 tf3 rfl rfl rfl rfl rfl (.inl ⟨0,_,rfl⟩) rfl rfl (fun x29 e4 a16 c16=>?_)
 refine au [0,27,10,13,20] ?_
 refine zL [x12] (fun a18 c17=>?_)
 refine au [0,27,10,13,21] ?_
 refine zD 4 (qD .i64) rfl underlying56 tf3 rfl rfl rfl rfl rfl (.inl ⟨0,_,rfl⟩) rfl rfl (fun x30 e5 a19 c19=>?_)
 refine au [0,27,10,6,22,15,23,13,24,25,5,0,29,8,6,25,15,26,13,27,25,5,0,29,8,54] ?_
 exact qa ((x29,x30),a16,c16,a19,c19)
 refine k8 (m':=((app 8796093022208 x15 ([x20]:qFa)).bind fun x31=>((app 8796093022208 x17 ([x12]:qFa)).bind fun x32=>yp F (zr F i1 i2 i3 i4 p1 k0) x11 x12 x14 x21 x22 x31 x32))) (rfl) (zL [x12] (fun a20 c20=>?_))
 refine au [0,27,10,13,9] ?_
 refine zD 3 (qD .i64) rfl underlying56 tf3 rfl rfl rfl rfl rfl (.inl ⟨1,_,rfl⟩) rfl rfl (fun x31 e6 a21 c21=>?_)
 refine au [0,27,10,13,21] ?_
 refine zD 4 (qD .i64) rfl underlying56 tf3 rfl rfl rfl rfl rfl (.inl ⟨1,_,rfl⟩) rfl rfl (fun x32 e7 a22 c22=>?_)
 refine au [0,27,10,6,22,15,23,13,24,25,5,0,29,8,6,25,15,26,13,27,25,5,0,29,8,54] ?_
 exact qa ((x31,x32),a21,c21,a22,c22)
 refine k8 (m':=((app 8796093022208 x15 ([x20]:qFa)).bind fun x33=>((app 8796093022208 x17 ([x12]:qFa)).bind fun x34=>yp F (zr F i1 i2 i3 i4 p1 k0) x11 x12 x14 x21 x22 x33 x34))) (rfl) (zL [x12] (fun a23 c23=>?_))
 refine au [0,27,10,13,8] ?_
 refine zL [x20] (fun a24 c24=>?_)
 refine au [0,27,10,13,9] ?_
 refine zD 3 (qD .i64) rfl underlying56 tf3 rfl rfl rfl rfl rfl (.inl ⟨0,_,rfl⟩) rfl rfl (fun x33 e8 a25 c25=>?_)
 refine au [0,27,10,13,21] ?_
 refine zD 4 (qD .i64) rfl underlying56 tf3 rfl rfl rfl rfl rfl (.inl ⟨2,_,rfl⟩) rfl rfl (fun x34 e9 a26 c26=>?_)
 refine au [0,27,10,6,22,15,23,13,24,25,5,0,29,8,6,25,15,26,13,27,25,5,0,29,8,54] ?_
 exact qa ((x33,x34),a25,c25,a26,c26)
 rintro ⟨⟨x27,x28⟩,a12,c11,a13,c13⟩
 try dsimp only
 refine kC mixed [12] _ _ (.cons 0 rfl (.cons 0 rfl .nil)) (qh 0 rfl (qgV 2 rfl qg)) 13 rfl ?_
 refine au [92,15,3,15,4] ?_
 refine qz 5 (.agg #[qFc x12,.slice a3 x14.length c3]) [[12]] rfl rfl rfl (kW (j:=1) rfl tf65 rfl rfl (by simp) rfl) ?_
 refine au [15,6] ?_
 refine qC 7 (.agg #[qFc x21,.slice a6 x22.length c6]) rfl rfl rfl (qA (i:=1) rfl tf65 rfl rfl (by simp) rfl) ?_
 refine au [13,8,30,11] ?_
 rintro x35 e10 ⟨a27,c27⟩
 refine au [0] ?_
 refine qc (.cons 0 rfl (.cons 0 rfl .nil)) (qh 0 rfl (qgV 2 rfl qg)) ?_
 refine au [6,9,15,10,15,11,13,12,27,9,0] ?_
 refine kZ 12 rfl (by kernel_rfl) (.cons 0 rfl (.cons 0 rfl .nil)) ?_
 refine au [54,95] ?_
 exact ql ((iadd .i64 x11 1,x35.1,x35.2,x27,x28),a27,c27,a12,c11,a13,c13)
 refine au [71] ?_
 exact qa ((x12,x14,x15,x17),a3,c3,a4,c4,a5,c5)
 rintro ⟨⟨x0,x1,x8,x9⟩,a0,c0,a1,c1,a2,c2⟩
 refine au [117,49] ?_
 exact qM ((a0,c0),(a1,c1),a2,c2)
theorem qmt {r:(Int×Int×Int×Int×Int×qFa×qFa×qFa×Int)}(hm:qcy F p1 i1 i2 i3=some r) :
    PureM qFj 121 [.agg #[qFd l1 p1 t1],.agg #[qFc i1,qFc i2,qFc i3]] [] [] [SlN eN56 iN56 1 (qFd l1 p1 t1) p1 n1] ((qFb×Nat)×(qFb×Nat)×(qFb×Nat)×Nat) (fun g=>.tuple #[qFe g.2.2.2,qFc r.2.2.2.2.2.2.2.2]) (fun g=>[⟨g.2.2.2,169,[qFc r.1,qFc r.2.1,qFc r.2.2.1,qFc r.2.2.2.1,qFc r.2.2.2.2.1,qFd g.1.1 r.2.2.2.2.2.1 g.1.2,qFd g.2.1.1 r.2.2.2.2.2.2.1 g.2.1.2,qFd g.2.2.1.1 r.2.2.2.2.2.2.2.1 g.2.2.1.2]⟩]) (fun g=>[qFi g.1.1 r.2.2.2.2.2.1 g.1.2,qFg g.2.1.1 r.2.2.2.2.2.2.1 g.2.1.2,qFg g.2.2.1.1 r.2.2.2.2.2.2.2.1 g.2.2.1.2]):=by
 refine pureMA func121 ntmps121 hm fun _=>?_
 refine au [96] ?_
 intro g7
 refine au [23] ?_
 intro g8
 refine au [5,80,25,10,28,2] ?_
 intro x9 e9 _
 refine au [47] ?_
 refine qj [2,3] [0,1] [] [0] (fun ((x12,_):Int×Unit)=>([(6,qFc x12)],[],[],[],qat F p1 i1 i2 i3 x12)) ?_ ?_
 refine aw [1,3,4,25,6,0,2,10] ?_ ?_
 refine au [3,24,9,29,10] ?_
 intro x97 e97 _
 refine au [5,0] ?_
 exact qa (x97,())
 refine au [11] ?_
 exact qa (x9,())
 rintro ⟨x12,_⟩
 refine au [117,99,24,4,24,9] ?_
 refine qJ [qFc (p1.length:Int),qFc i1,qFc i2,qFc i3,qFc 0,.slice none 0 0] ?_
 refine qJ [qFc (p1.length:Int),qFc i1,qFc i2,qFc i3,qFc 0,.slice none 0 0,.slice none 0 0,.slice none 0 0] ?_
 refine au [23] ?_
 intro g13
 refine au [47] ?_
 refine qP (fun (((x48,x49,x50,x51,x52,x53,x56,x59,x62),a54,c55,a57,c58,a60,c61):(Int×Int×Int×Int×Int×Int×qFa×qFa×qFa)×qFb×Nat×qFb×Nat×qFb×Nat)=>([(6,qFc x48),(7,qFe g13)],[⟨g13,169,[qFc x49,qFc x50,qFc x51,qFc x52,qFc x53,qFd a54 x56 c55,qFd a57 x59 c58,qFd a60 x62 c61]⟩],[qFi a54 x56 c55,qFg a57 x59 c58,qFg a60 x62 c61],[],vN F x48 x49 x50 x51 x52 x53 x56 x59 x62)) ?_ ?_
 refine au [48,25,6,4] ?_
 refine kX 5 [6,7] [] [] [] (fun (((x74,x75,x76,x77,x78,x79,x82,x85,x88),a80,c81,a83,c84,a86,c87):(Bool×Int×Int×Int×Int×Int×qFa×qFa×qFa)×qFb×Nat×qFb×Nat×qFb×Nat)=>([(28,.bool x74)],[⟨g13,169,[qFc x75,qFc x76,qFc x77,qFc x78,qFc x79,qFd a80 x82 c81,qFd a83 x85 c84,qFd a86 x88 c87]⟩],[qFi a80 x82 c81,qFg a83 x85 c84,qFg a86 x88 c87],[],vO F x12 x74 x75 x76 x77 x78 x79 x82 x85 x88)) ?_ ?_
 refine qG (os:=_) rfl ?_
 refine av [26,3] ?_ ?_
 intro h63
 refine kF (k:=23) rfl h63 ?_
 refine au [4,26,6,29,7,26,10,26,10] ?_
 refine qu qiJ ?_
 rintro x90 e90 ⟨⟨a91,c92⟩,⟨a93,c94⟩,a95,c96⟩
 refine au [25,7,88] ?_
 exact qa (((!x90.1),x90.2.1,x90.2.2.1,x90.2.2.2.1,x90.2.2.2.2.1,x90.2.2.2.2.2.1,x90.2.2.2.2.2.2.1,x90.2.2.2.2.2.2.2.1,x90.2.2.2.2.2.2.2.2),a91,c92,a93,c94,a95,c96)
 intro h63
 refine kE (k:=23) rfl h63 ?_
 refine au [69,87,26,0,25,8,25,8] ?_
 exact qa ((false,(p1.length:Int),i1,i2,i3,(0:Int),([]:qFa),([]:qFa),([]:qFa)),none,0,none,0,none,0)
 rintro ⟨⟨x74,x75,x76,x77,x78,x79,x82,x85,x88⟩,a80,c81,a83,c84,a86,c87⟩
 try dsimp only
 refine qG (os:=_) rfl ?_
 refine aw [0,2,10] ?_ ?_
 refine au [3,5,0] ?_
 exact qa (((8:Int),x75,x76,x77,x78,x79,x82,x85,x88),a80,c81,a83,c84,a86,c87)
 refine au [11] ?_
 exact qa ((x12,x75,x76,x77,x78,x79,x82,x85,x88),a80,c81,a83,c84,a86,c87)
 rintro ⟨⟨x48,x49,x50,x51,x52,x53,x56,x59,x62⟩,a54,c55,a57,c58,a60,c61⟩
 refine au [91,4,5,49] ?_
 exact qM ((a54,c55),(a57,c58),(a60,c61),g13)
theorem qnP {r:(Int×Int×Int×Int×Int×qFa×Int)}(hm:qaT F p1 i1 i2 i3=some r) :
    Pure qFj 87 [.agg #[qFd l1 p1 t1],.agg #[qFc i1,qFc i2,qFc i3]] [SlN eN56 iN56 1 (qFd l1 p1 t1) p1 n1] (qFb×Nat) (fun g=>.tuple #[.agg #[qFc r.1,qFc r.2.1,qFc r.2.2.1,qFc r.2.2.2.1,qFc r.2.2.2.2.1,qFd g.1 r.2.2.2.2.2.1 g.2],qFc r.2.2.2.2.2.2]) (fun g=>[qFi g.1 r.2.2.2.2.2.1 g.2]) (fun _=>[]):=by
 refine pureA func87 ntmps87 hm fun _=>?_
 refine au [96] ?_
 intro g7
 refine au [23] ?_
 intro g8
 refine au [24,6] ?_
 intro g9
 refine au [80,26,6,25,10,35,3] ?_
 rintro x10 e10 ⟨⟨a11,c12⟩,⟨a13,c14⟩,⟨a15,c16⟩,g17⟩
 refine aw [4,22,22,5,5,0,2,1,1,3,4,25,1,0,2,10] ?_ ?_
 refine au [45] ?_
 refine qJ [qFc 0,qFc 0,qFc 0,qFc 0,qFc 0,.slice none 0 0] ?_
 exact az [4,25,5,58,26,0,32,3]
 refine au [57,48,55,24,9,25,5,49] ?_
 exact kq (a11,c12) 1
theorem qi6 (F g1:Nat)(x2:List (qFa))(a3:qFb)(c4:(Nat×List (qFb×Nat)))(x5 x6 x7:Int)(x8:qFa)(a9:qFb)(c10:Nat)(x11:qFa)(r:(Int×qFa))(hm:qbD F x2 x5 x6 x7 x8 x11=some r) :
    PureM qFj 62 [qFe g1] [⟨g1,85,[qFd a3 x2 c4.1,qFc x5,qFc x6,qFc x7,qFd a9 x8 c10,.string (bstr x11)]⟩] [] [SlN eN56 iN56 1 (qFd a3 x2 c4.1) x2 c4.2,qFf a9 x8 c10,GF] Unit (fun _=>qFc r.1) (fun _=>[⟨g1,85,[qFd a3 x2 c4.1,qFc x5,qFc x6,qFc x7,qFd a9 x8 c10,.string (bstr r.2)]⟩]) (fun _=>[]):=by
 refine pureMA func62 ntmps62 hm fun _=>?_
 refine au [64,47] ?_
 refine qj [0] [0] [] [0,1,2] (fun (((x21,x22,x23,x24,x25,x26,x29),g20,a27,c28):(Int×Int×Int×Int×Int×Int×qFa)×Nat×qFb×Nat)=>([(3,qFe g20),(4,qFc x21)],[⟨g20,67,[qFc x22,qFc x23,qFc x24,qFc x25,qFc x26,qFd a27 x29 c28]⟩],[qFi a27 x29 c28],[],jQ F x21 x22 x23 x24 x25 x26 x29)) ?_ ?_
 refine au [35,4,70,15,2,15,3] ?_
 refine qC 4 (.agg #[.slice a3 x2.length c4.1]) rfl rfl rfl (qA (i:=0) rfl tf24 rfl rfl (by simp) rfl) ?_
 refine au [6,5,6,6,15,7,15,8] ?_
 refine qC 9 (.agg #[qFc x5,qFc x6,qFc x7]) rfl rfl rfl (qA (i:=0) rfl tf26 rfl rfl (by simp) rfl) (vd 10 14 rfl rfl (by kernel_rfl) rfl rfl ?_ ?_)
 refine au [30,13] ?_
 rintro x31 e31 ⟨a32,c33⟩
 refine au [0,35,5,6,11,100,13,14,24,6] ?_
 intro g34
 refine au [0,27,14,13,15,85,27,14,6,16,54] ?_
 exact qa ((x31.2.2.2.2.2.2,x31.1,x31.2.1,x31.2.2.1,x31.2.2.2.1,x31.2.2.2.2.1,x31.2.2.2.2.2.1),g34,a32,c33)
 refine k8 (m':=((qaT F x2 x5 x6 x7).bind fun x36=>jQ F x36.2.2.2.2.2.2 x36.1 x36.2.1 x36.2.2.1 x36.2.2.2.1 x36.2.2.2.2.1 x36.2.2.2.2.2.1)) (rfl) ?_
 refine au [24,6] ?_
 intro g35
 refine au [0,27,14,13,10,30,13] ?_
 rintro x36 e36 ⟨a37,c38⟩
 refine au [0,27,14,6,11,100,13,15,85,27,14,6,16,54] ?_
 exact qa ((x36.2.2.2.2.2.2,x36.1,x36.2.1,x36.2.2.1,x36.2.2.2.1,x36.2.2.2.2.1,x36.2.2.2.2.2.1),g35,a37,c38)
 rintro ⟨⟨x21,x22,x23,x24,x25,x26,x29⟩,g20,a27,c28⟩
 refine au [91,9,99] ?_
 refine vm EnC.e rfl rfl rfl (fun x30 e30=>qf0 x26 x30 e30) (.consF 2 rfl .nil) (fun x30 e30 _=>?_)
 exact az [55,21,98,86]
theorem qpq {r:(qFa×qFa×Int)}(hm:qeF F p1 i1 i2 i3=some r) :
    Pure qFj 165 [.agg #[qFd l1 p1 t1],.agg #[qFc i1,qFc i2,qFc i3]] [SlN eN56 iN56 1 (qFd l1 p1 t1) p1 n1] ((qFb×Nat)×qFb×Nat) (fun g=>.tuple #[qFd g.1.1 r.1 g.1.2,qFd g.2.1 r.2.1 g.2.2,qFc r.2.2]) (fun g=>[qFg g.1.1 r.1 g.1.2,qFg g.2.1 r.2.1 g.2.2]) (fun _=>[]):=by
 refine pureA func165 ntmps165 hm fun _=>?_
 refine au [96] ?_
 intro g7
 refine au [23] ?_
 intro g8
 refine au [5,5,80,25,10,24,9,35,3] ?_
 rintro x9 e9 ⟨⟨a10,c11⟩,⟨a12,c13⟩,⟨a14,c15⟩,g16⟩
 refine aw [4,22,22,5,5,0,2,1,1,3,4,25,1,0,2,10] ?_ ?_
 refine au [48,5,5,103,25,8] ?_
 exact qy ((none,0),none,0)
 refine au [82] ?_
 refine qK [] [0,0,0] [0] 11 ?_
 refine au [70,15,2,24,15,3,6,4,6,5,15,6,24,15,7,6,8,6,9,6,10,54,2,8] ?_
 exact qy ((a12,c13),a14,c15)
theorem qnJ (hm:qde F m1 i1=some i2) :
    qFk 193 [qFd l1 m1 t1,qFc i1] [qFf l1 m1 t1] (qFc i2):=by
 refine pureA func193 ntmps193 hm fun _=>?_
 refine au [56,81,14,48,24,3,4] ?_
 refine zT 3 11 14 [0,1] (decide (1048576<i1)) ?_ ?_ ?_
 exact az [62,61]
 exact az [4,106]
 refine aw [5,0,2,10] ?_ ?_
 exact az [45,49,104]
 refine aw [1,3,4,24,4,25,2,5,0,2,10] ?_ ?_
 exact az [45,49,104]
 refine au [11,63,45,47] ?_
 refine qP (fun ((_,_):Unit×Unit)=>([],[],[],[],qhu F)) ?_ ?_
 refine au [48,84] ?_
 refine qr [1,19,20] [] [] [0] (fun (((x92,x93),_):(Int×Int)×Unit)=>([(5,qFc x92),(21,qFc x93)],[],[],[])) ((0:Int),(0:Int)) () ?_
 intro k0
 rintro ⟨⟨x92,x93⟩,_⟩
 refine aw [39,1,3,24,3,0,2,1,10] ?_ ?_
 refine au [83,45,26,2] ?_
 intro x0 e0 b0 o0
 refine au [25,3,81,14,48,24,3,4] ?_
 refine zT 4 28 32 [1,5,19,20,21,7] (decide (i1<x0)) ?_ ?_ ?_
 exact az [62,7,61]
 exact az [89,106]
 refine aw [5,0,2,10] ?_ ?_
 exact az [45,49,50,90,104]
 refine aw [1,3,4,4,24,3,5,0,2,10] ?_ ?_
 exact az [45,49,50,90,104]
 refine au [11,63,3,4,5,0,95] ?_
 exact ql ((x0,iadd .i64 x93 1),())
 exact az [71,26,7]
 rintro ⟨_,_⟩
 exact az [117,68]
theorem qnK (hm:qdj F i1 i2=some i3) :
    qFk 234 [qFc i1,qFc i2] [] (qFc i3):=by
 refine pureA func234 ntmps234 hm fun _=>?_
 refine au [56,47] ?_
 refine qP (fun ((x35,_):Int×Unit)=>([(4,qFc x35)],[],[],[],qhv F x35)) ?_ ?_
 refine au [14] ?_
 refine qr [0,1] [] [] [] (fun ((x46,_):Int×Unit)=>([(4,qFc x46)],[],[],[])) (0:Int) () ?_
 intro k57
 rintro ⟨x46,_⟩
 refine au [39,1,48,25,2,4] ?_
 refine kX 8 [0,1,4] [] [] [] (fun ((x65,_):Bool×Unit)=>([(15,.bool x65)],[],[],[],qas F (qco F i1 i2 k57) x46 x65)) ?_ ?_
 refine qG (os:=_) rfl ?_
 refine av [26,3] ?_ ?_
 intro h63
 refine kF (k:=7) rfl h63 ?_
 refine au [89,24,0,26,11] ?_
 intro h67
 refine qij rfl rfl rfl rfl h67 ?_
 refine au [113,28,5,88] ?_
 exact qa ((decide ((ishl .i64 i1 (iadd .i64 x46 1))≤(iadd .i64 i2 1))),())
 intro h63
 refine kE (k:=7) rfl h63 ?_
 refine au [69,62,7,87] ?_
 exact qa (false,())
 rintro ⟨x65,_⟩
 try dsimp only
 refine qG (os:=_) rfl ?_
 refine aw [0,2,10] ?_ ?_
 refine au [57,14,3,113,5,115] ?_
 exact ql (iadd .i64 x46 1,())
 refine au [71] ?_
 exact qa (x46,())
 rintro ⟨x35,_⟩
 exact az [91,68]
theorem qiG {r:(Int×qFa×Int)}(hm:vS F i1 m1 i2 i3=some r) :
    PureM qFj 236 [qFe t1,qFc i3] [⟨t1,302,[qFc i1,qFd l1 m1 t2,qFc i2]⟩] [qFi l1 m1 t2] [] (qFb×Nat) (fun _=>.tuple #[]) (fun g=>[⟨t1,302,[qFc r.1,qFd g.1 r.2.1 g.2,qFc r.2.2]⟩]) (fun g=>[qFi g.1 r.2.1 g.2]):=by
 refine pureMA func236 ntmps236 hm fun _=>?_
 refine au [24,8,14] ?_
 refine qr [0,1] [] [] [] (fun (((x16,x19,x20),a17,c18):(Int×qFa×Int)×qFb×Nat)=>([],[⟨t1,302,[qFc x16,qFd a17 x19 c18,qFc x20]⟩],[qFi a17 x19 c18],[])) (i1,m1,i2) (l1,t2) ?_
 intro k29
 rintro ⟨⟨x16,x19,x20⟩,a17,c18⟩
 refine aw [39,1,1,3,4,24,10,9,18,4,24,3,0,2,10] ?_ ?_
 refine au [83,3,89,55,24,9,28,14] ?_
 rintro x34 e34 ⟨a35,c36⟩
 refine au [55,85,63,3,4,112,24,0,55,85] ?_
 exact ql ((x34.1,x34.2,iadd .i64 x20 1),a35,c36)
 refine au [71] ?_
 exact qM (a17,c18)
end Go.Proofs.YthibchijlpflmaaGreatDoor
