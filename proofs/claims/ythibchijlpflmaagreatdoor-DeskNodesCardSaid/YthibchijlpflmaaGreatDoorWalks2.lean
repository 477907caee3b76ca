/- Each Go function of this seat computes what its model says, part 2. -/
import Derived.Test.YthibchijlpflmaaGreatDoorWalks
open List renaming replicate→qBj, length_set→qBA, not_mem_nil→qBB
namespace Go.Proofs.YthibchijlpflmaaGreatDoor
open Go SX
open Go.Proofs.Tryz
open Go.Proofs.Tryz renaming prog→qD9
set_option maxHeartbeats 4000000
set_option linter.unusedSimpArgs false
variable {F t1 t2 t3 t4 t5:Nat}{p1 p2:List (qD0)}{l1 l2 l3:qD1}{n1:List (qD1×Nat)}{m1 m2 m3:qD0}{i1 i2 i3 i4:Int}{w1 w2 w3:List (Int×Int)}{d1:Bool}
theorem qkP (hm:j5 F p1=some m1) :
    Pure qD9 95 [.agg #[qD3 l1 p1 t1]] [SlN eN56 iN56 1 (qD3 l1 p1 t1) p1 n1] (qD1×Nat) (fun g=>qD3 g.1 m1 g.2) (fun g=>[qD6 g.1 m1 g.2]) (fun _=>[]):=by
 refine pureA func95 ntmps95 hm fun _=>?_
 refine au [87] ?_
 intro g4
 refine au [83,67,24,7,47] ?_
 refine qg [3] [] [] [0] (fun (((x0,x2,x3),g0,a0,c0,a1,c1,a3,c2):(qD0×qD0×qD0)×Nat×qD1×Nat×qD1×Nat×qD1×Nat)=>([(4,qD4 g0)],[⟨g0,183,[qD3 l1 p1 t1,qD3 a0 x0 c0,qD3 a1 x2 c1,.slice none 0 0,qD3 a3 x3 c2,qD2 0]⟩],[qD6 a0 x0 c0,qD6 a1 x2 c1,qD6 a3 x3 c2],[],qda F p1 x0 x2 x3)) ?_ ?_
 refine qE [] [0] [0] 12 ?_
 refine au [114,6,2,6,4,6,7] ?_
 refine qm3 3 5 6 rfl rfl rfl (by kernel_rfl) rfl rfl rfl ?_ ?_ ?_
 refine au [26,3] ?_
 intro x4 e0 a4 c4
 refine au [73] ?_
 refine zJ 5 6 rfl rfl (by kernel_rfl) rfl rfl ?_ ?_
 refine au [26,3] ?_
 intro x5 e1 a5 c5
 refine au [73,9,6,29,8] ?_
 intro a6 c6
 refine au [73,9,8,27,8] ?_
 rintro x6 e2 ⟨a7,c7⟩
 refine au [73,9,9] ?_
 refine qF [qD3 l1 p1 t1,qD3 a4 x4 c4,qD3 a5 x5 c5,.slice none 0 0,qD3 a7 x6 c7,qD2 0] ?_
 refine au [73,109] ?_
 intro g1
 refine au [89,66] ?_
 exact qa ((x4,x5,x6),g1,a4,c4,a5,c5,a7,c7)
 refine au [29,8] ?_
 intro a8 c8
 refine au [73] ?_
 refine zJ 5 8 rfl rfl (by kernel_rfl) rfl rfl ?_ ?_
 refine au [26,3] ?_
 intro x7 e3 a9 c9
 refine au [73,9,8,27,8] ?_
 rintro x8 e4 ⟨a10,c10⟩
 refine au [73,9,9] ?_
 refine qF [qD3 l1 p1 t1,qD3 a4 x4 c4,qD3 a9 x7 c9,.slice none 0 0,qD3 a10 x8 c10,qD2 0] ?_
 refine au [73,109] ?_
 intro g2
 refine au [89,66] ?_
 exact qa ((x4,x7,x8),g2,a4,c4,a9,c9,a10,c10)
 refine qd0 pull1 ?_
 refine au [27,8] ?_
 rintro x9 e5 ⟨a11,c11⟩
 refine au [73,9,5,26,3] ?_
 intro x10 e6 a12 c12
 refine au [73,9,9] ?_
 refine qF [qD3 l1 p1 t1,qD3 a4 x4 c4,qD3 a12 x10 c12,.slice none 0 0,qD3 a11 x9 c11,qD2 0] ?_
 refine au [73,109] ?_
 intro g3
 refine au [89,66] ?_
 exact qa ((x4,x10,x9),g3,a4,c4,a12,c12,a11,c11)
 refine qd0 pull1 ?_
 refine au [26,3] ?_
 intro x11 e7 a13 c13
 refine au [73] ?_
 refine zJ 3 6 rfl rfl (by kernel_rfl) rfl rfl ?_ ?_
 refine au [26,3] ?_
 intro x12 e8 a14 c14
 refine au [73,9,6,29,8] ?_
 intro a15 c15
 refine au [73,9,8,27,8] ?_
 rintro x13 e9 ⟨a16,c16⟩
 refine au [73,9,9] ?_
 refine qF [qD3 l1 p1 t1,qD3 a14 x12 c14,qD3 a13 x11 c13,.slice none 0 0,qD3 a16 x13 c16,qD2 0] ?_
 refine au [73,109] ?_
 intro g5
 refine au [89,66] ?_
 exact qa ((x12,x11,x13),g5,a14,c14,a13,c13,a16,c16)
 refine au [29,8] ?_
 intro a17 c17
 refine au [73] ?_
 refine zJ 3 8 rfl rfl (by kernel_rfl) rfl rfl ?_ ?_
 refine au [26,3] ?_
 intro x14 e10 a18 c18
 refine au [73,9,8,27,8] ?_
 rintro x15 e11 ⟨a19,c19⟩
 refine au [73,9,9] ?_
 refine qF [qD3 l1 p1 t1,qD3 a18 x14 c18,qD3 a13 x11 c13,.slice none 0 0,qD3 a19 x15 c19,qD2 0] ?_
 refine au [73,109] ?_
 intro g6
 refine au [89,66] ?_
 exact qa ((x14,x11,x15),g6,a18,c18,a13,c13,a19,c19)
 refine qd0 pull1 ?_
 refine au [27,8] ?_
 rintro x16 e12 ⟨a20,c20⟩
 refine au [73,9,3,26,3] ?_
 intro x17 e13 a21 c21
 refine au [73,9,9] ?_
 refine qF [qD3 l1 p1 t1,qD3 a21 x17 c21,qD3 a13 x11 c13,.slice none 0 0,qD3 a20 x16 c20,qD2 0] ?_
 refine au [73,109] ?_
 intro g7
 refine au [89,66] ?_
 exact qa ((x17,x11,x16),g7,a21,c21,a13,c13,a20,c20)
 refine au [29,8] ?_
 intro a22 c22
 refine au [73] ?_
 refine qm3 3 5 8 rfl rfl rfl (by kernel_rfl) rfl rfl rfl ?_ ?_ ?_
 refine au [26,3] ?_
 intro x18 e14 a23 c23
 refine au [73] ?_
 refine zJ 5 8 rfl rfl (by kernel_rfl) rfl rfl ?_ ?_
 refine au [26,3] ?_
 intro x19 e15 a24 c24
 refine au [73,9,8,27,8] ?_
 rintro x20 e16 ⟨a25,c25⟩
 refine au [73,9,9] ?_
 refine qF [qD3 l1 p1 t1,qD3 a23 x18 c23,qD3 a24 x19 c24,.slice none 0 0,qD3 a25 x20 c25,qD2 0] ?_
 refine au [73,109] ?_
 intro g8
 refine au [89,66] ?_
 exact qa ((x18,x19,x20),g8,a23,c23,a24,c24,a25,c25)
 refine qd0 pull1 ?_
 refine au [27,8] ?_
 rintro x21 e17 ⟨a26,c26⟩
 refine au [73,9,5,26,3] ?_
 intro x22 e18 a27 c27
 refine au [73,9,9] ?_
 refine qF [qD3 l1 p1 t1,qD3 a23 x18 c23,qD3 a27 x22 c27,.slice none 0 0,qD3 a26 x21 c26,qD2 0] ?_
 refine au [73,109] ?_
 intro g9
 refine au [89,66] ?_
 exact qa ((x18,x22,x21),g9,a23,c23,a27,c27,a26,c26)
 refine qd0 pull1 ?_
 refine au [26,3] ?_
 intro x23 e19 a28 c28
 refine au [73] ?_
 refine zJ 3 8 rfl rfl (by kernel_rfl) rfl rfl ?_ ?_
 refine au [26,3] ?_
 intro x24 e20 a29 c29
 refine au [73,9,8,27,8] ?_
 rintro x25 e21 ⟨a30,c30⟩
 refine au [73,9,9] ?_
 refine qF [qD3 l1 p1 t1,qD3 a29 x24 c29,qD3 a28 x23 c28,.slice none 0 0,qD3 a30 x25 c30,qD2 0] ?_
 refine au [73,109] ?_
 intro g10
 refine au [89,66] ?_
 exact qa ((x24,x23,x25),g10,a29,c29,a28,c28,a30,c30)
 refine qd0 pull1 ?_
 refine au [27,8] ?_
 rintro x26 e22 ⟨a31,c31⟩
 refine au [73,9,3,26,3] ?_
 intro x27 e23 a32 c32
 refine au [73,9,9] ?_
 refine qF [qD3 l1 p1 t1,qD3 a32 x27 c32,qD3 a28 x23 c28,.slice none 0 0,qD3 a31 x26 c31,qD2 0] ?_
 refine au [73,109] ?_
 intro g11
 refine au [89,66] ?_
 exact qa ((x27,x23,x26),g11,a32,c32,a28,c28,a31,c31)
 refine qd0 pull2 ?_
 refine au [27,8] ?_
 rintro x28 e24 ⟨a33,c33⟩
 refine au [73] ?_
 refine zJ 3 5 rfl rfl (by kernel_rfl) rfl rfl ?_ ?_
 refine au [26,3] ?_
 intro x29 e25 a34 c34
 refine au [73,9,5,26,3] ?_
 intro x30 e26 a35 c35
 refine au [73,9,9] ?_
 refine qF [qD3 l1 p1 t1,qD3 a34 x29 c34,qD3 a35 x30 c35,.slice none 0 0,qD3 a33 x28 c33,qD2 0] ?_
 refine au [73,109] ?_
 intro g12
 refine au [89,66] ?_
 exact qa ((x29,x30,x28),g12,a34,c34,a35,c35,a33,c33)
 refine qd0 pull1 ?_
 refine au [26,3] ?_
 intro x31 e27 a36 c36
 refine au [73,9,3,26,3] ?_
 intro x32 e28 a37 c37
 refine au [73,9,9] ?_
 refine qF [qD3 l1 p1 t1,qD3 a37 x32 c37,qD3 a36 x31 c36,.slice none 0 0,qD3 a33 x28 c33,qD2 0] ?_
 refine au [73,109] ?_
 intro g13
 refine au [89,66] ?_
 exact qa ((x32,x31,x28),g13,a37,c37,a36,c36,a33,c33)
 rintro ⟨⟨x0,x2,x3⟩,g0,a0,c0,a1,c1,a3,c2⟩
 try dsimp only
 refine qg [4] [] [] [0] (fun (((x33,x34,x35,x36,x37),a38,c38,a39,c39,a40,c40,a41,c41):(qD0×qD0×qD0×qD0×Int)×qD1×Nat×qD1×Nat×qD1×Nat×qD1×Nat)=>([],[⟨g0,183,[qD3 l1 p1 t1,qD3 a38 x33 c38,qD3 a39 x34 c39,qD3 a40 x35 c40,qD3 a41 x36 c41,qD2 x37]⟩],[qD6 a38 x33 c38,qD6 a39 x34 c39,qD6 a40 x35 c40,qD6 a41 x36 c41],[],qfC F x33 x34 x35 x36 x37)) ?_ ?_
 refine au [48,3,75,28,0] ?_
 refine qm [4,20] [] [] [0] (fun (((x38,x39,x40,x41,x42,x43),a42,c42,a43,c43,a44,c44,a45,c45):(Int×qD0×qD0×qD0×qD0×Int)×qD1×Nat×qD1×Nat×qD1×Nat×qD1×Nat)=>([(21,qD2 x38)],[⟨g0,183,[qD3 l1 p1 t1,qD3 a42 x39 c42,qD3 a43 x40 c43,qD3 a44 x41 c44,qD3 a45 x42 c45,qD2 x43]⟩],[qD6 a42 x39 c42,qD6 a43 x40 c43,qD6 a44 x41 c44,qD6 a45 x42 c45],[])) ((0:Int),x0,x2,([]:qD0),x3,(0:Int)) (a0,c0,a1,c1,none,0,a3,c2) ?_
 intro k0
 rintro ⟨⟨x38,x39,x40,x41,x42,x43⟩,a42,c42,a43,c43,a44,c44,a45,c45⟩
 refine aw [39,1,4,24,4,0,2,1,11] ?_ ?_
 refine au [57] ?_
 refine qg [4,20,21] [] [] [0] (fun (((x44,x45,x46,x47,x48),a46,c46,a47,c47,a48,c48,a49,c49):(qD0×qD0×qD0×qD0×Int)×qD1×Nat×qD1×Nat×qD1×Nat×qD1×Nat)=>([],[⟨g0,183,[qD3 l1 p1 t1,qD3 a46 x44 c46,qD3 a47 x45 c47,qD3 a48 x46 c48,qD3 a49 x47 c49,qD2 x48]⟩],[qD6 a46 x44 c46,qD6 a47 x45 c47,qD6 a48 x46 c48,qD6 a49 x47 c49],[],vH F (jw F p1 k0) x38 x44 x45 x46 x47 x48)) ?_ ?_
 refine au [14,48,60,119,3,26,7] ?_
 intro x49 e29 g14 h0
 refine ku (j:=0) (y:=x49) (qA .i64) rfl rfl tf3 rfl h0 (qw e29).2.2 (fun _=>rfl) rfl rfl ?_
 refine aw [25,6,0,2,11] ?_ ?_
 refine au [4,91] ?_
 refine qcB EnC.e rfl rfl rfl (fun x50 e30=>qg4 F g0 p1 l1 (t1,n1) x39 a42 c42 x40 a43 c43 x41 a44 c44 x42 a45 c45 x43 x38 x50 e30) (.cons 0 rfl .nil) (.cons 0 rfl (.cons 0 rfl (.cons 0 rfl (.cons 0 rfl .nil)))) (.consF 0 rfl .nil) (fun x50 e30=>?_)
 rintro ⟨⟨a50,c50⟩,⟨a51,c51⟩,⟨a52,c52⟩,a53,c53⟩
 refine au [121] ?_
 exact qa ((x50.1,x50.2.1,x50.2.2.1,x50.2.2.2.1,x50.2.2.2.2),a50,c50,a51,c51,a52,c52,a53,c53)
 refine au [12,24,3] ?_
 exact qa ((x39,x40,x41,x42,x43),a42,c42,a43,c43,a44,c44,a45,c45)
 rintro ⟨⟨x44,x45,x46,x47,x48⟩,a46,c46,a47,c47,a48,c48,a49,c49⟩
 refine au [39,97] ?_
 exact qj ((iadd .i64 x38 1,x44,x45,x46,x47,x48),a46,c46,a47,c47,a48,c48,a49,c49)
 refine au [72] ?_
 exact qa ((x39,x40,x41,x42,x43),a42,c42,a43,c43,a44,c44,a45,c45)
 rintro ⟨⟨x33,x34,x35,x36,x37⟩,a38,c38,a39,c39,a40,c40,a41,c41⟩
 refine au [92,119,49] ?_
 exact qx (a41,c41)
theorem qkO (F:Nat)(x1:List (qD0))(a2:qD1)(c3:(Nat×List (qD1×Nat)))(r:(qD0×Int))(hm:qc8 F x1=some r) :
    Pure qD9 67 [.agg #[qD3 a2 x1 c3.1]] [SlN eN56 iN56 1 (qD3 a2 x1 c3.1) x1 c3.2] (qD1×Nat) (fun g=>.tuple #[qD3 g.1 r.1 g.2,qD2 r.2]) (fun g=>[qD6 g.1 r.1 g.2]) (fun _=>[]):=by
 refine pureA func67 ntmps67 hm fun _=>?_
 refine au [87] ?_
 intro g4
 refine au [5,82,74,28,7] ?_
 intro x7 e7 _
 refine aw [5,0,2,1,4,3,25,4,0,2,11] ?_ ?_
 refine au [48,5,104] ?_
 exact qx (none,0)
 refine au [57,74] ?_
 refine qd qkP ?_
 rintro x8 e8 ⟨a9,c10⟩
 refine au [5,49] ?_
 exact qx (a9,c10)
theorem qoQ {r:Unit}(hm:qbF F p1=some r) :
    PureM qD9 114 [.agg #[qD3 l1 p1 t1]] [] [] [SlN eN56 iN56 1 (qD3 l1 p1 t1) p1 n1] Nat (fun g=>.func (.func 159) #[] #[qD4 g]) (fun g=>[⟨g,24,[qD3 l1 p1 t1]⟩]) (fun _=>[]):=by
 refine pureMA func114 ntmps114 hm fun _=>?_
 refine au [87] ?_
 intro g4
 refine au [83,27,9,49] ?_
 exact qH g4
theorem qg2 (hm:q5 F m1=some m2) :
    PureM qD9 134 [qD3 l1 m1 t1] [] [qD6 l1 m1 t1] [] Unit (fun _=>.tuple #[]) (fun _=>[]) (fun _=>[qD6 l1 m2 t1]):=by
  unfold q5 at hm
  split at hm
  · cases hm
    exact qrf Tryz.slices_Sort_int Tryz.slices_Sort_int_none (by assumption)
  · simp at hm
theorem qfH (hm:zy F m1=some m2) :
    PureM qD9 135 [qD3 l1 m1 t1] [] [qD6 l1 m1 t1] [] (qD1×Nat) (fun g=>qD3 g.1 m2 g.2) (fun _=>[]) (fun g=>[qD6 g.1 m2 g.2]):=by
  unfold zy at hm
  split at hm
  · cases hm
    exact qmj Tryz.slices_Compact_int Tryz.slices_Compact_int_empty (by assumption)
  · simp at hm
theorem qdI (F:Nat){σ τ:Type}{J:Rounds σ τ}{yy:σ→(Int×Int)→Option (σ ⊕ τ)}{L:Nat}(hY:YieldC qD9 L (fun (p:Int×Int)=>[.agg #[qD2 p.1,qD2 p.2]]) J yy)(s0:σ)(gs0:J.γ)(g1:Nat)(x2:List (qD0))(a3:qD1)(c4:(Nat×List (qD1×Nat)))(r:σ ⊕ τ)(hm:jD F yy x2 s0=some r) :
    PureM qD9 159 ([.func (.yield L) #[] #[],qD4 g1]) ([⟨g1,24,[qD3 a3 x2 c4.1]⟩]++J.IB s0 gs0) (J.IR s0 gs0) [J.F,SlN eN56 iN56 1 (qD3 a3 x2 c4.1) x2 c4.2] (J.G r) (fun _=>.tuple #[]) (fun g=>[⟨g1,24,[qD3 a3 x2 c4.1]⟩]++J.bs r g) (fun g=>J.rs r g):=by
 refine pureMA func159 ntmps159 hm fun _=>?_
 refine au [55,67,86] ?_
 refine vy (fun (((x0,x1),g0):(Int×σ)×J.γ)=>[(0,.func (.yield L) #[] #[]),(8,qD3 a3 x2 c4.1),(9,qD2 (x2.length:Int)),(10,qD2 x0)]) (fun (((x0,x1),g0):(Int×σ)×J.γ)=>[⟨g1,24,[qD3 a3 x2 c4.1]⟩]++J.IB x1 g0) (fun (((x0,x1),g0):(Int×σ)×J.γ)=>[]++J.IR x1 g0) (fun (((x0,x1),g0):(Int×σ)×J.γ)=>[SlN eN56 iN56 1 (qD3 a3 x2 c4.1) x2 c4.2,J.F]) (fun k (s:(Int×σ)×J.γ)=>zV F yy x2 k s.1) ((0,s0),gs0) F ?_ (hB:=(.cons 0 rfl (qe 0 rfl))) (hR:=(qe 0 rfl)) (hF:=(qi 1 rfl (qi 0 rfl zB)))
 intro k0
 rintro ⟨⟨x0,x1⟩,g0⟩
 try dsimp only
 refine qaJ (m':=qbP F yy x2 (zV F yy x2 k0) x0 x1) rfl ?_
 refine aw [1,4,24,4,0,2,1,11] ?_ ?_
 refine au [57] ?_
 refine qdj (fun ((x3,g2):σ×J.γ)=>[(0,.func (.yield L) #[] #[]),(8,qD3 a3 x2 c4.1),(9,qD2 (x2.length:Int)),(10,qD2 x0)]) (fun ((x3,g2):σ×J.γ)=>[⟨g1,24,[qD3 a3 x2 c4.1]⟩]++J.IB x3 g2) (fun ((x3,g2):σ×J.γ)=>[]++J.IR x3 g2) (fun ((x3,g2):σ×J.γ)=>[SlN eN56 iN56 1 (qD3 a3 x2 c4.1) x2 c4.2,J.F]) (fun ((x3,_):σ×J.γ)=>qbQ F yy (zV F yy x2 k0) x0 x3) ?_ ?_
 refine au [14,48,27,6] ?_
 intro x4 e0 g3 b0 o0
 refine au [25,3,5,60,86] ?_
 refine vy (fun (((x5,x6),g4):(Int×σ)×J.γ)=>[(0,.func (.yield L) #[] #[]),(3,qD2 x0),(8,qD3 a3 x2 c4.1),(9,qD2 (x2.length:Int)),(10,qD2 x0),(15,qD3 g3.1 x4 g3.2),(16,qD2 (x4.length:Int)),(17,qD2 x5)]) (fun (((x5,x6),g4):(Int×σ)×J.γ)=>[⟨g1,24,[qD3 a3 x2 c4.1]⟩]++J.IB x6 g4) (fun (((x5,x6),g4):(Int×σ)×J.γ)=>[]++J.IR x6 g4) (fun (((x5,x6),g4):(Int×σ)×J.γ)=>[SlN eN56 iN56 1 (qD3 a3 x2 c4.1) x2 c4.2,qD5 g3.1 x4 g3.2,J.F]) (fun k (s:(Int×σ)×J.γ)=>js F yy (zV F yy x2 k0) x0 x4 k s.1) ((0,x1),g0) F ?_ (hB:=(.cons 0 rfl (qe 0 rfl))) (hR:=(qe 0 rfl)) (hF:=(qi 2 rfl (qi 1 rfl (qi 3 rfl zB))))
 intro k1
 rintro ⟨⟨x5,x6⟩,g4⟩
 try dsimp only
 refine qaJ (m':=qbh F yy (zV F yy x2 k0) x0 x4 (js F yy (zV F yy x2 k0) x0 x4 k1) x5 x6) rfl ?_
 refine aw [1,4,24,4,0,2,1,11] ?_ ?_
 refine au [85,45,29,9] ?_
 intro x7 e1 b1 o1
 refine au [25,3,60,91] ?_
 refine qF [qD2 x0,qD2 x7] ?_
 refine qeT hY x6 (x0,x7) g4 (B1:=[⟨g1,24,[qD3 a3 x2 c4.1]⟩]) (R1:=[]) (j:=3) rfl rfl rfl rfl rfl rfl rfl (fun x8 _ g5=>?_) (fun x9 _ g5=>?_)
 refine au [25,7,46] ?_
 refine k8 (b:=false) rfl (fun h=>by cases h) (fun _=>?_)
 refine au [12,98] ?_
 exact vn ((iadd .i64 x5 1,x8),g5) (hB:=(.cons 0 rfl (qe 0 rfl))) (hR:=(qe 0 rfl)) (hF:=(qi 1 rfl (qi 2 rfl (qi 3 rfl zB))))
 refine au [25,7,46] ?_
 refine k8 (b:=true) rfl (fun _=>?_) (fun h=>by cases h)
 refine au [8,111,24,6,111,24,6] ?_
 exact v8 (B0:=[⟨g1,24,[qD3 a3 x2 c4.1]⟩]) (x:=.inr x9) g5 (.inl rfl) (res0 rfl) (.cons 0 rfl (qe 0 rfl)) (qe 0 rfl)
 refine au [72,24,3] ?_
 exact ya (x6,g4) (hB:=(.cons 0 rfl (qe 0 rfl))) (hR:=(qe 0 rfl)) (hF:=(qi 0 rfl (qi 2 rfl zB)))
 rintro ⟨x3,g2⟩
 refine au [39,97] ?_
 exact vn ((iadd .i64 x0 1,x3),g2) (hB:=(.cons 0 rfl (qe 0 rfl))) (hR:=(qe 0 rfl)) (hF:=(qi 0 rfl (qi 1 rfl zB)))
 refine au [72] ?_
 exact v8 (B0:=[⟨g1,24,[qD3 a3 x2 c4.1]⟩]) (x:=.inl x1) g0 (.inr rfl) (res0 rfl) (.cons 0 rfl (qe 0 rfl)) (qe 0 rfl)
theorem qoK (hm:qd4 F p1=some p2) :
    PureM qD9 97 [.agg #[qD3 l1 p1 t1]] [] [] [SlN eN56 iN56 1 (qD3 l1 p1 t1) p1 n1] (qD1×Nat×List (qD1×Nat)) (fun g=>qD3 g.1 p2 g.2.1) (fun _=>[]) (fun g=>[RoN eN56 rN56 56 1 (qD3 g.1 p2 g.2.1) p2 g.2.2 []]):=by
 refine qdg func97 rfl ntmps97 rfl hm (fun w=>?_)
 refine au [87] ?_
 intro g4
 refine au [83,67,24,7,30,2] ?_
 intro x5 e5 a6 c7
 refine au [24,2] ?_
 intro g8
 refine au [17,46,1,107,30,12] ?_
 intro x0 e0 g0
 refine au [75] ?_
 refine qbU (encs:=(fun (p:Int×Int)=>[.agg #[qD2 p.1,qD2 p.2]])) (y:=(fun (x2:List (qD0)) ((x3,x4):Int×Int)=>qbx F x2 x3 x4)) (lb:=[qD4 g0]) (fun (x2:List (qD0)) (g1:List (qD1×Nat))=>[⟨g8,22,[qD3 a6 x2 c7]⟩,⟨g4,24,[qD3 l1 p1 t1]⟩]) (fun (x2:List (qD0)) (g1:List (qD1×Nat))=>[RoN eN56 rN56 56 1 (qD3 a6 x2 c7) x2 g1 []]) (fun (_:Empty) (_:Unit)=>[]) (fun (_:Empty) (_:Unit)=>[]) (fun _=>.skip) x5 (qBj x5.length ((none,0):qD1×Nat)) rfl EnC.e (fun _=>rfl) rfl (.cons 0 rfl .nil) (.cons 0 rfl (.cons 0 rfl .nil)) (.cons 0 rfl .nil) (.consF 0 rfl .nil) (fun z hz _ _ _ hY=>qdI F hY x5 (qBj x5.length ((none,0):qD1×Nat)) g0 p1 l1 (t1,n1) z hz) ?_ ?_ ?_
 rintro rc1 L1 D1 x2 g1 ⟨x3,x4⟩ z w M _
 try dsimp only
 refine qdk [(0,.agg #[qD3 l1 p1 t1]),(1,qD4 g4),(2,.slice none 0 0),(3,qD4 g8),(6,qD4 g4),(7,qD3 l1 p1 t1),(8,qD2 (p1.length:Int)),(9,qD3 a6 x5 c7),(10,.agg #[qD3 l1 p1 t1]),(11,.func (.func 159) #[] #[qD4 g0]),(12,.agg #[qD2 x3,qD2 x4])] (qk rfl (qk rfl (qk rfl (qk rfl (qk rfl (qk rfl (qk rfl (qk rfl (qk rfl (qk rfl (qk rfl qdB))))))))))) ?_
 refine au [4,24,2] ?_
 intro g2
 refine aw [17,0,30,13,14,1,4,10,20,10,20,25,4,0,2,11] ?_ ?_
 refine au [30,3] ?_
 intro x6 e1 g3 h0 g5 h1
 replace h1:a6=some ⟨g5,0,none⟩:=h1
 have h2:=zF (k:=x2.length) (c:=c7) h1
 refine qeS (i:=0) rfl h0 (qBB) ?_
 refine au [29,10] ?_
 intro x7 e2 g6 h3 g7 h4
 replace h4:a6=some ⟨g7,0,none⟩:=h4
 have h5:=zF (k:=x2.length) (c:=c7) h4
 refine au [28,11] ?_
 intro h6
 refine qeS (i:=1) rfl h3 (by simp only[decide_eq_true_eq] at h6;simp only[List.mem_cons,qBB,or_false];exact h6) ?_
 refine au [29,10] ?_
 intro x8 e3 g9 h7 g10 h8
 replace h8:a6=some ⟨g10,0,none⟩:=h8
 have h9:=zF (k:=x2.length) (c:=c7) h8
 refine au [29,10] ?_
 intro x9 e4 g11 h10 g12 h11
 replace h11:a6=some ⟨g12,0,none⟩:=h11
 have h12:=zF (k:=x2.length) (c:=c7) h11
 refine kg mixed [25,27] _ _ (.cons 0 rfl (.cons 0 rfl (.cons 0 rfl (.cons 0 rfl (.cons 0 rfl .nil))))) (qh 0 rfl (qB 1 rfl (qG qn h0 h1) (qB 1 rfl (qG qn h3 h4) (qB 1 rfl (qG qn h7 h8) (qB 1 rfl (qG qn h10 h11) qf))))) 28 rfl ?_
 refine au [26,10,0,18,1,24,15,2,26,10,3,18,4,24,15,5,26,10,6,18,7,24,15,8] ?_
 refine jA 9 h1 e1 ?_
 refine qz 10 (qD3 g3.1 x6 g3.2) [[25],[27]] rfl rfl rfl (qV (j:=1) rfl tf56 rfl rfl (fun _=>rfl) rfl) ?_
 refine au [18,11,24,15,12,26,10,15,18,16,24,15,17] ?_
 refine jA 18 h4 e2 ?_
 refine qz 19 (qD3 g6.1 x7 g6.2) [[25],[27]] rfl rfl rfl (qV (j:=2) rfl tf56 rfl rfl (fun _=>rfl) rfl) ?_
 refine au [18,20,24,15,21] ?_
 refine zJ 13 22 rfl rfl (by kernel_rfl) rfl rfl ?_ ?_
 refine zw [x4] (fun a0 c0=>?_)
 refine au [0] ?_
 refine qc (.cons 0 rfl (.cons 0 rfl (.cons 0 rfl (.cons 0 rfl (.cons 0 rfl .nil))))) (qh 0 rfl (qB 2 rfl (qG qn h0 h1) (qB 2 rfl (qG qn h3 h4) (qB 2 rfl (qG qn h7 h8) (qB 2 rfl (qG qn h10 h11) qf))))) (zJ 14 22 rfl rfl (by kernel_rfl) rfl rfl ?_ ?_)
 refine zo 3 (qA .i64) rfl underlying56 tf3 rfl rfl rfl rfl rfl (.inl ⟨0,_,rfl⟩) rfl rfl (fun x10 e6 a1 c1=>?_)
 refine au [0] ?_
 refine qc (.cons 0 rfl (.cons 0 rfl (.cons 0 rfl (.cons 0 rfl (.cons 0 rfl .nil))))) (qh 0 rfl (qB 3 rfl (qG qn h0 h1) (qB 3 rfl (qG qn h3 h4) (qB 3 rfl (qG qn h7 h8) (qB 3 rfl (qG qn h10 h11) qf))))) ?_
 refine au [9,22] ?_
 refine zw [x3] (fun a3 c2=>?_)
 refine au [0] ?_
 refine qc (.cons 0 rfl (.cons 0 rfl (.cons 0 rfl (.cons 0 rfl (.cons 0 rfl .nil))))) (qh 0 rfl (qB 4 rfl (qG qn h0 h1) (qB 4 rfl (qG qn h3 h4) (qB 4 rfl (qG qn h7 h8) (qB 4 rfl (qG qn h10 h11) qf))))) ?_
 refine au [9,23] ?_
 refine zo 3 (qA .i64) rfl underlying56 tf3 rfl rfl rfl rfl rfl (.inl ⟨0,_,rfl⟩) rfl rfl (fun x11 e7 a4 c4=>?_)
 refine au [0] ?_
 refine qc (.cons 0 rfl (.cons 0 rfl (.cons 0 rfl (.cons 0 rfl (.cons 0 rfl .nil))))) (qh 0 rfl (qB 4 rfl (qG qn h0 h1) (qB 4 rfl (qG qn h3 h4) (qB 4 rfl (qG qn h7 h8) (qB 4 rfl (qG qn h10 h11) qf))))) (jA 24 h8 e3 ?_)
 refine au [9,25] ?_
 refine jL (j:=4) (kh:=1) (y':=x10) (q':=(a1,c1)) qn rfl rfl rfl tf56 rfl (zF h8) rfl (qw e3).2.1 rfl (.cons 2 rfl .nil) (fun x12 e8 h13 g13=>?_)
 have h14:x12.length=x2.length:=by rw[← e8,qBA]
 refine q9 18 h13 ?_
 refine q9 21 h13 ?_
 refine q9 24 h13 ?_
 refine q9 33 h13 ?_
 refine qS (i:=1) (cs':=[qD3 a6 x12 c7]) rfl (by simp only[qD3,h13] <;> rfl) ?_
 refine au [0] ?_
 refine kQ 25 rfl (by kernel_rfl) (.cons 0 rfl (.cons 0 (by simp only[qD3,h14] <;> rfl) (.cons 0 rfl (.cons 0 rfl (.cons 0 rfl .nil))))) (qhJ 21 h11 ?_)
 refine qb 26 (.pointer (some ⟨g12,x4.toNat*1,none⟩)) rfl rfl rfl (qbu underlying22 tf56 rfl rfl (qw e4).1 (by rw[h14];exact (qcu e4))) (qhJ 21 h11.symm ?_)
 refine au [9,27] ?_
 refine jL (j:=0) (kh:=0) (y':=x11) (q':=(a4,c4)) qn rfl rfl rfl tf56 rfl (zF h11) rfl (by rw[h14];exact (qw e4).2.1) rfl (.cons 0 rfl .nil) (fun x13 e9 h15 g14=>?_)
 have h16:x13.length=x12.length:=by rw[← e9,qBA]
 refine q9 18 h15 ?_
 refine q9 21 h15 ?_
 refine q9 24 h15 ?_
 refine q9 33 h15 ?_
 refine qS (i:=1) (cs':=[qD3 a6 x13 c7]) rfl (by simp only[qD3,h15] <;> rfl) ?_
 refine au [0] ?_
 refine kQ 25 rfl (by kernel_rfl) (.cons 0 rfl (.cons 0 (by simp only[qD3,h16,h14] <;> rfl) (.cons 0 rfl (.cons 0 rfl (.cons 0 rfl .nil))))) ?_
 refine au [54,24,3] ?_
 exact vk (rc:=rc1) rfl (.cons 3 rfl .nil) rfl g14 (.cons 2 rfl (.cons 2 rfl (.cons 0 rfl (.cons 1 rfl .nil)))) (.cons 0 rfl .nil)
 refine zw [x3] (fun a5 c5=>?_)
 refine au [0] ?_
 refine qc (.cons 0 rfl (.cons 0 rfl (.cons 0 rfl (.cons 0 rfl (.cons 0 rfl .nil))))) (qh 0 rfl (qB 3 rfl (qG qn h0 h1) (qB 3 rfl (qG qn h3 h4) (qB 3 rfl (qG qn h7 h8) (qB 3 rfl (qG qn h10 h11) qf))))) ?_
 refine au [9,14] ?_
 refine zo 4 (qA .i64) rfl underlying56 tf3 rfl rfl rfl rfl rfl (.inl ⟨1,_,rfl⟩) rfl rfl (fun x14 e10 a7 c6=>?_)
 refine au [0] ?_
 refine qc (.cons 0 rfl (.cons 0 rfl (.cons 0 rfl (.cons 0 rfl (.cons 0 rfl .nil))))) (qh 0 rfl (qB 4 rfl (qG qn h0 h1) (qB 4 rfl (qG qn h3 h4) (qB 4 rfl (qG qn h7 h8) (qB 4 rfl (qG qn h10 h11) qf))))) ?_
 refine au [9,23] ?_
 refine zo 3 (qA .i64) rfl underlying56 tf3 rfl rfl rfl rfl rfl (.inl ⟨1,_,rfl⟩) rfl rfl (fun x15 e11 a8 c8=>?_)
 refine au [0] ?_
 refine qc (.cons 0 rfl (.cons 0 rfl (.cons 0 rfl (.cons 0 rfl (.cons 0 rfl .nil))))) (qh 0 rfl (qB 4 rfl (qG qn h0 h1) (qB 4 rfl (qG qn h3 h4) (qB 4 rfl (qG qn h7 h8) (qB 4 rfl (qG qn h10 h11) qf))))) (jA 24 h8 e3 ?_)
 refine au [9,25] ?_
 refine jL (j:=4) (kh:=1) (y':=x14) (q':=(a7,c6)) qn rfl rfl rfl tf56 rfl (zF h8) rfl (qw e3).2.1 rfl (.cons 1 rfl .nil) (fun x16 e12 h17 g15=>?_)
 have h18:x16.length=x2.length:=by rw[← e12,qBA]
 refine q9 18 h17 ?_
 refine q9 21 h17 ?_
 refine q9 24 h17 ?_
 refine q9 33 h17 ?_
 refine qS (i:=1) (cs':=[qD3 a6 x16 c7]) rfl (by simp only[qD3,h17] <;> rfl) ?_
 refine au [0] ?_
 refine kQ 25 rfl (by kernel_rfl) (.cons 0 rfl (.cons 0 (by simp only[qD3,h18] <;> rfl) (.cons 0 rfl (.cons 0 rfl (.cons 0 rfl .nil))))) (qhJ 21 h11 ?_)
 refine qb 26 (.pointer (some ⟨g12,x4.toNat*1,none⟩)) rfl rfl rfl (qbu underlying22 tf56 rfl rfl (qw e4).1 (by rw[h18];exact (qcu e4))) (qhJ 21 h11.symm ?_)
 refine au [9,27] ?_
 refine jL (j:=0) (kh:=0) (y':=x15) (q':=(a8,c8)) qn rfl rfl rfl tf56 rfl (zF h11) rfl (by rw[h18];exact (qw e4).2.1) rfl (.cons 0 rfl .nil) (fun x17 e13 h19 g16=>?_)
 have h20:x17.length=x16.length:=by rw[← e13,qBA]
 refine q9 18 h19 ?_
 refine q9 21 h19 ?_
 refine q9 24 h19 ?_
 refine q9 33 h19 ?_
 refine qS (i:=1) (cs':=[qD3 a6 x17 c7]) rfl (by simp only[qD3,h19] <;> rfl) ?_
 refine au [0] ?_
 refine kQ 25 rfl (by kernel_rfl) (.cons 0 rfl (.cons 0 (by simp only[qD3,h20,h18] <;> rfl) (.cons 0 rfl (.cons 0 rfl (.cons 0 rfl .nil))))) ?_
 refine au [54,24,3] ?_
 exact vk (rc:=rc1) rfl (.cons 3 rfl .nil) rfl g16 (.cons 2 rfl (.cons 2 rfl (.cons 0 rfl (.cons 1 rfl .nil)))) (.cons 0 rfl .nil)
 refine zw [x3] (fun a9 c9=>?_)
 refine au [0] ?_
 refine qc (.cons 0 rfl (.cons 0 rfl (.cons 0 rfl (.cons 0 rfl (.cons 0 rfl .nil))))) (qh 0 rfl (qB 2 rfl (qG qn h0 h1) (qB 2 rfl (qG qn h3 h4) (qB 2 rfl (qG qn h7 h8) (qB 2 rfl (qG qn h10 h11) qf))))) ?_
 refine au [9,13] ?_
 refine zw [x4] (fun a10 c10=>?_)
 refine au [0] ?_
 refine qc (.cons 0 rfl (.cons 0 rfl (.cons 0 rfl (.cons 0 rfl (.cons 0 rfl .nil))))) (qh 0 rfl (qB 3 rfl (qG qn h0 h1) (qB 3 rfl (qG qn h3 h4) (qB 3 rfl (qG qn h7 h8) (qB 3 rfl (qG qn h10 h11) qf))))) ?_
 refine au [9,14] ?_
 refine zo 4 (qA .i64) rfl underlying56 tf3 rfl rfl rfl rfl rfl (.inl ⟨0,_,rfl⟩) rfl rfl (fun x18 e14 a11 c11=>?_)
 refine au [0] ?_
 refine qc (.cons 0 rfl (.cons 0 rfl (.cons 0 rfl (.cons 0 rfl (.cons 0 rfl .nil))))) (qh 0 rfl (qB 4 rfl (qG qn h0 h1) (qB 4 rfl (qG qn h3 h4) (qB 4 rfl (qG qn h7 h8) (qB 4 rfl (qG qn h10 h11) qf))))) ?_
 refine au [9,23] ?_
 refine zo 3 (qA .i64) rfl underlying56 tf3 rfl rfl rfl rfl rfl (.inl ⟨2,_,rfl⟩) rfl rfl (fun x19 e15 a12 c12=>?_)
 refine au [0] ?_
 refine qc (.cons 0 rfl (.cons 0 rfl (.cons 0 rfl (.cons 0 rfl (.cons 0 rfl .nil))))) (qh 0 rfl (qB 4 rfl (qG qn h0 h1) (qB 4 rfl (qG qn h3 h4) (qB 4 rfl (qG qn h7 h8) (qB 4 rfl (qG qn h10 h11) qf))))) (jA 24 h8 e3 ?_)
 refine au [9,25] ?_
 refine jL (j:=4) (kh:=1) (y':=x18) (q':=(a11,c11)) qn rfl rfl rfl tf56 rfl (zF h8) rfl (qw e3).2.1 rfl (.cons 1 rfl .nil) (fun x20 e16 h21 g17=>?_)
 have h22:x20.length=x2.length:=by rw[← e16,qBA]
 refine q9 18 h21 ?_
 refine q9 21 h21 ?_
 refine q9 24 h21 ?_
 refine q9 33 h21 ?_
 refine qS (i:=1) (cs':=[qD3 a6 x20 c7]) rfl (by simp only[qD3,h21] <;> rfl) ?_
 refine au [0] ?_
 refine kQ 25 rfl (by kernel_rfl) (.cons 0 rfl (.cons 0 (by simp only[qD3,h22] <;> rfl) (.cons 0 rfl (.cons 0 rfl (.cons 0 rfl .nil))))) (qhJ 21 h11 ?_)
 refine qb 26 (.pointer (some ⟨g12,x4.toNat*1,none⟩)) rfl rfl rfl (qbu underlying22 tf56 rfl rfl (qw e4).1 (by rw[h22];exact (qcu e4))) (qhJ 21 h11.symm ?_)
 refine au [9,27] ?_
 refine jL (j:=0) (kh:=0) (y':=x19) (q':=(a12,c12)) qn rfl rfl rfl tf56 rfl (zF h11) rfl (by rw[h22];exact (qw e4).2.1) rfl (.cons 0 rfl .nil) (fun x21 e17 h23 g18=>?_)
 have h24:x21.length=x20.length:=by rw[← e17,qBA]
 refine q9 18 h23 ?_
 refine q9 21 h23 ?_
 refine q9 24 h23 ?_
 refine q9 33 h23 ?_
 refine qS (i:=1) (cs':=[qD3 a6 x21 c7]) rfl (by simp only[qD3,h23] <;> rfl) ?_
 refine au [0] ?_
 refine kQ 25 rfl (by kernel_rfl) (.cons 0 rfl (.cons 0 (by simp only[qD3,h24,h22] <;> rfl) (.cons 0 rfl (.cons 0 rfl (.cons 0 rfl .nil))))) ?_
 refine au [54,24,3] ?_
 exact vk (rc:=rc1) rfl (.cons 3 rfl .nil) rfl g18 (.cons 2 rfl (.cons 2 rfl (.cons 0 rfl (.cons 1 rfl .nil)))) (.cons 0 rfl .nil)
 refine au [12,24,3] ?_
 exact vk (rc:=rc1) rfl (.cons 3 rfl .nil) rfl g1 (.cons 2 rfl (.cons 2 rfl (.cons 0 rfl (.cons 1 rfl .nil)))) (.cons 0 rfl .nil)
 rintro x2 _ g1 D1
 refine au [39,65] ?_
 refine qg [3] [0] [] [] (fun ((x22,g19):List (qD0)×List (qD1×Nat))=>([],[⟨g8,22,[qD3 a6 x22 c7]⟩],[RoN eN56 rN56 56 1 (qD3 a6 x22 c7) x22 g19 []],[],qha F x22)) ?_ ?_
 refine au [45,26,1,86] ?_
 refine qm [3,45] [0] [] [] (fun (((x23,x24),g20):(Int×List (qD0))×List (qD1×Nat))=>([(46,qD2 x23)],[⟨g8,22,[qD3 a6 x24 c7]⟩],[RoN eN56 rN56 56 1 (qD3 a6 x24 c7) x24 g20 []],[])) ((0:Int),x2) g1 ?_
 intro k0
 rintro ⟨⟨x23,x24⟩,g20⟩
 refine aw [39,1,4,24,4,0,2,1,11] ?_ ?_
 refine au [85,48,83,25,12,3,31,12] ?_
 intro x25 e18 g21 h25 g22 h26
 refine qj4 (i:=0) rfl h25 (qBB) (qiy (j:=1) (p:=(x25,g21)) qn rfl rfl tf56 rfl h26 h25 rfl (fun _=>rfl) rfl rfl ?_)
 refine au [31,13] ?_
 intro x26 e19 _
 refine au [26,12] ?_
 intro h27
 replace h27:=of_decide_eq_true h27
 refine qp (d:=52) (v:=qD3 g21.1 x26 g21.2) rfl (by simp only[qD3,h27] <;> rfl) ?_
 refine au [46] ?_
 refine qri (rin:=rN56) (i:=0) (kh:=0) (y:=x26) (q:=g21) (.cons 0 rfl .nil) rfl rfl h25 (by simp only[qD3,eN56,h27]) (fun x27 e20 h28 g23=>?_)
 have h29:x27.length=x24.length:=by rw[← e20,qBA]
 refine qwC (d:=49) (v:=qD3 a6 x27 c7) rfl (by simp only[qD3,h28] <;> rfl) (qof (i:=1) (cs':=[qD3 a6 x27 c7]) rfl (by simp only[qD3,h28] <;> rfl) ?_)
 refine au [30,3] ?_
 intro x28 e21 g24 h30 g25 h31
 replace h31:a6=some ⟨g25,0,none⟩:=h31
 have h32:=zF (k:=x27.length) (c:=c7) h31
 refine qeS (i:=0) rfl h30 (qBB) ?_
 refine au [29,10] ?_
 intro x29 e22 g26 h33 g27 h34
 replace h34:a6=some ⟨g27,0,none⟩:=h34
 have h35:=zF (k:=x27.length) (c:=c7) h34
 refine kg mixed [8] _ _ (.cons 0 rfl (.cons 0 rfl .nil)) (qB 1 rfl (qG qn h30 h31) (qB 1 rfl (qG qn h33 h34) qf)) 9 rfl ?_
 refine au [26,10,0,6,1,26,10,2,6,3] ?_
 refine jA 4 h31 e21 ?_
 refine qz 5 (qD3 g24.1 x28 g24.2) [[8]] rfl rfl rfl (qV (j:=0) rfl tf56 rfl rfl (fun _=>rfl) rfl) ?_
 refine au [9,6,33,8] ?_
 rintro x30 e23 ⟨a13,c13⟩
 refine au [0] ?_
 refine qc (.cons 0 rfl (.cons 0 rfl .nil)) (qB 1 rfl (qG qn h30 h31) (qB 1 rfl (qG qn h33 h34) qf)) (jA 7 h34 e22 ?_)
 refine au [9,8] ?_
 refine jL (j:=1) (kh:=0) (y':=x30) (q':=(a13,c13)) qn rfl rfl rfl tf56 rfl (zF h34) rfl (qw e22).2.1 rfl (.cons 0 rfl .nil) (fun x31 e24 h36 g28=>?_)
 have h37:x31.length=x27.length:=by rw[← e24,qBA]
 refine q9 49 h36 ?_
 refine q9 54 h36 ?_
 refine q9 56 h36 ?_
 refine qS (i:=1) (cs':=[qD3 a6 x31 c7]) rfl (by simp only[qD3,h36] <;> rfl) ?_
 refine au [0] ?_
 refine kQ 8 rfl (by kernel_rfl) (.cons 0 rfl (.cons 0 (by simp only[qD3,h37] <;> rfl) .nil)) ?_
 refine au [54,98] ?_
 exact qj ((iadd .i64 x23 1,x31),g28)
 refine au [72] ?_
 exact qa (x24,g20)
 rintro ⟨x22,g19⟩
 refine au [39,45,25,12,49] ?_
 exact ja [D1] (a6,c7,g19) (.inl rfl) rfl (.cons 0 rfl .nil) (res1 rfl rfl) (fun h=>by subst h;rfl) (fun h=>by subst h;exact .nil) (fun h=>by subst h;exact (.cons 0 rfl .nil))
 intro t;exact t.elim
theorem qhQ {r:(Int×qD0)}(hm:vo F p1 m1=some r) :
    PureM qD9 98 [qD4 t1] [⟨t1,137,[qD3 l1 p1 t2,qD3 l2 m1 t3]⟩] [qD6 l2 m1 t3] [SlN eN56 iN56 1 (qD3 l1 p1 t2) p1 n1] (qD1×Nat) (fun _=>qD2 r.1) (fun g=>[⟨t1,137,[qD3 l1 p1 t2,qD3 g.1 r.2 g.2]⟩]) (fun g=>[qD6 g.1 r.2 g.2]):=by
 refine pureMA func98 ntmps98 hm fun _=>?_
 refine au [64,83,47] ?_
 refine qg [] [0] [0] [0] (fun ((x0,_):Int×Unit)=>([(3,qD2 x0)],[],[],[],qcx F m1 x0)) ?_ ?_
 refine au [48,119,86] ?_
 refine qm [0,9,10] [0] [0] [0] (fun (((x1,x3),_):(Int×Int)×Unit)=>([(3,qD2 x1),(11,qD2 x3)],[],[],[])) ((-1:Int),(0:Int)) () ?_
 intro k0
 rintro ⟨⟨x1,x3⟩,_⟩
 refine aw [39,1,4,24,4,0,2,1,11] ?_ ?_
 refine au [57] ?_
 refine qg [0,9,10,11] [0] [0] [0] (fun ((x4,_):Int×Unit)=>([(3,qD2 x4)],[],[],[],y8 F (kq F m1 k0) x3 x4)) ?_ ?_
 refine au [14,48,26,7] ?_
 intro x6 e0 g0 h0
 refine ku (j:=0) (y:=x6) (qA .i64) rfl rfl tf3 rfl h0 (qw e0).2.2 (fun _=>rfl) rfl rfl ?_
 refine au [5,60,26,6,3] ?_
 refine kH 14 [0,3,4,9,10,11] [0] [0] [0] (fun ((x7,_):Bool×Unit)=>([(32,.bool x7)],[],[],[],y9 F (kq F m1 k0) x1 x3 x7)) ?_ ?_
 refine qC (os:=_) rfl ?_
 refine av [26,5] ?_ ?_
 intro h1
 refine ko (k:=18) rfl h1 ?_
 refine au [3,127] ?_
 refine kH 10 [0,3,4,9,10,11,18,19,20] [0] [0] [0] (fun (((x8,x9),_):(Bool×Bool)×Unit)=>([(21,.bool x8),(31,.bool x9)],[],[],[],va F (kq F m1 k0) x1 x3 x8 x9)) ?_ ?_
 refine qC (os:=_) rfl ?_
 refine av [26,5] ?_ ?_
 intro h2
 refine ko (k:=21) rfl h2 ?_
 refine au [68,68,7,113] ?_
 exact qa ((true,true),())
 intro h2
 refine km (k:=21) rfl h2 ?_
 refine au [91,119,3,26,7] ?_
 intro x10 e1 g2 h3
 refine ku (j:=0) (y:=x10) (qA .i64) rfl rfl tf3 rfl h3 (qw e1).2.2 (fun _=>rfl) rfl rfl ?_
 refine au [24,4,112] ?_
 exact qa ((false,(decide (x6<x10))),())
 rintro ⟨⟨x8,x9⟩,_⟩
 try dsimp only
 refine qC (os:=_) rfl ?_
 refine au [113] ?_
 exact qa (x9,())
 intro h1
 refine km (k:=18) rfl h1 ?_
 refine au [68,68,68,7,112] ?_
 exact qa (false,())
 rintro ⟨x7,_⟩
 try dsimp only
 refine qC (os:=_) rfl ?_
 refine aw [0,2,11] ?_ ?_
 refine au [4,3,5,121] ?_
 exact qa (x3,())
 refine au [12,24,3] ?_
 exact qa (x1,())
 rintro ⟨x4,_⟩
 refine au [39,97] ?_
 exact qj ((x4,iadd .i64 x3 1),())
 refine au [72] ?_
 exact qa (x1,())
 rintro ⟨x0,_⟩
 refine au [92,49] ?_
 exact qH (l2,t3)
theorem qh4 (hm:qan F p1 m1 i1=some m2) :
    PureM qD9 99 [qD4 t1,qD2 i1] [⟨t1,137,[qD3 l1 p1 t2,qD3 l2 m1 t3]⟩] [qD6 l2 m1 t3] [SlN eN56 iN56 1 (qD3 l1 p1 t2) p1 n1] (qD1×Nat) (fun _=>.tuple #[]) (fun g=>[⟨t1,137,[qD3 l1 p1 t2,qD3 g.1 m2 g.2]⟩]) (fun g=>[qD6 g.1 m2 g.2]):=by
 refine pureMA func99 ntmps99 hm fun _=>?_
 refine au [24,10,48,119,3,26,7] ?_
 intro x9 e9 g10 h11
 refine zZ (j:=0) (y':=-1) (qA .i64) rfl rfl rfl tf3 rfl h11 (qw e9).2.1 rfl (fun x12 e12 h13=>?_)
 have h14:x12.length=m1.length:=by rw[← e12,qBA]
 refine qp (d:=9) (v:=qD3 l2 x12 t3) rfl h13 (qS (i:=0) (cs':=[qD3 l1 p1 t2,qD3 l2 x12 t3]) rfl (by simp only[qD3,h13] <;> rfl) ?_)
 refine au [117,119,3,27,6] ?_
 intro x15 e15 g18 b16 o17
 refine au [25,3,86] ?_
 refine qm [0,18,19] [] [] [1,2] (fun (((x54,x55),_):(Int×qD0)×Unit)=>([(20,qD2 x54)],[⟨t1,137,[qD3 l1 p1 t2,qD3 l2 x55 t3]⟩],[qD6 l2 x55 t3],[])) ((0:Int),x12) () ?_
 intro k91
 rintro ⟨⟨x54,x55⟩,_⟩
 refine aw [39,1,4,24,4,0,2,1,11] ?_ ?_
 refine au [57] ?_
 refine qg [0,18,19,20] [] [] [0,1] (fun ((x0,_):qD0×Unit)=>([],[⟨t1,137,[qD3 l1 p1 t2,qD3 l2 x0 t3]⟩],[qD6 l2 x0 t3],[],vM F (vN F x15 k91) x54 x0)) ?_ ?_
 refine au [14,45,26,4] ?_
 intro x1 e0 b0 o0
 refine au [25,3,60,119,3,26,7] ?_
 intro x3 e1 g0 h0
 refine ku (j:=0) (y:=x3) (qA .i64) rfl rfl tf3 rfl h0 (qw e1).2.2 (fun _=>rfl) rfl rfl ?_
 refine aw [26,6,0,2,11] ?_ ?_
 refine au [4,3,119,3,26,7] ?_
 intro x4 e2 g2 h1
 refine ku (j:=0) (y:=x4) (qA .i64) rfl rfl tf3 rfl h1 (qw e2).2.2 (fun _=>rfl) rfl rfl ?_
 refine au [25,9,26,7] ?_
 intro x6 e3 g3 h2
 refine zZ (j:=0) (y':=isub .i64 x4 1) (qA .i64) rfl rfl rfl tf3 rfl h2 (qw e3).2.1 rfl (fun x7 e4 h3=>?_)
 have h4:x7.length=x55.length:=by rw[← e4,qBA]
 refine qp (d:=27) (v:=qD3 l2 x7 t3) rfl h3 (qp (d:=35) (v:=qD3 l2 x7 t3) rfl h3 (qS (i:=0) (cs':=[qD3 l1 p1 t2,qD3 l2 x7 t3]) rfl (by simp only[qD3,h3] <;> rfl) ?_))
 refine au [121] ?_
 exact qa (x7,())
 refine au [12,24,3] ?_
 exact qa (x55,())
 rintro ⟨x0,_⟩
 refine au [39,97] ?_
 exact qj ((iadd .i64 x54 1,x0),())
 refine au [72] ?_
 exact qH (l2,t3)
theorem qkG (F:Nat)(x1:List (qD0))(a2:qD1)(c3:(Nat×List (qD1×Nat)))(r:(qD0×Int))(hm:qcH F x1=some r) :
    Pure qD9 69 [.agg #[qD3 a2 x1 c3.1]] [SlN eN56 iN56 1 (qD3 a2 x1 c3.1) x1 c3.2] (qD1×Nat) (fun g=>.tuple #[qD3 g.1 r.1 g.2,qD2 r.2]) (fun g=>[qD6 g.1 r.1 g.2]) (fun _=>[]):=by
 refine pureA func69 ntmps69 hm fun _=>?_
 refine au [87] ?_
 intro g4
 refine au [5,82,74,28,7] ?_
 intro x7 e7 _
 refine aw [5,0,2,1,4,3,25,4,0,2,11] ?_ ?_
 refine au [48,5,104] ?_
 exact qx (none,0)
 refine au [57,74,33,9] ?_
 rintro x8 e8 ⟨a9,c10⟩
 refine qF [qD3 a9 x8 c10.1,.slice none 0 0] ?_
 refine au [24,0] ?_
 intro g11
 refine au [47] ?_
 refine qg [5] [] [0] [] (fun ((x86,a84,c85):qD0×qD1×Nat)=>([],[⟨g11,137,[qD3 a9 x8 c10.1,qD3 a84 x86 c85]⟩],[qD6 a84 x86 c85],[],qbb F x8 x86)) ?_ ?_
 refine au [48,119,86,28,0] ?_
 refine qm [5,23,24] [] [1] [] (fun (((x0,x2),a0,c0):(Int×qD0)×qD1×Nat)=>([(25,qD2 x0)],[⟨g11,137,[qD3 a9 x8 c10.1,qD3 a0 x2 c0]⟩],[qD6 a0 x2 c0],[])) ((0:Int),([]:qD0)) (none,0) ?_
 intro k0
 rintro ⟨⟨x0,x2⟩,a0,c0⟩
 refine aw [39,1,4,24,4,0,2,1,11] ?_ ?_
 refine au [85,45,31,12] ?_
 intro x3 e0 g0 h0 g1 h1
 refine qj4 (i:=0) rfl h0 (qBB) (qiy (j:=1) (p:=(x3,g0)) qn rfl rfl tf56 rfl h1 h0 rfl (fun _=>rfl) rfl rfl ?_)
 refine au [47,4,91,119,3,24,7] ?_
 refine zw [(x3.length:Int)] (fun a1 c1=>?_)
 refine zo 3 (qA .i64) rfl underlying56 tf3 rfl rfl rfl rfl rfl (.inl ⟨0,_,rfl⟩) rfl rfl (fun x4 e1 a3 c2=>?_)
 refine au [51,80,65] ?_
 refine qiv (rin:=rN56) (p:=(x3,g0)) (i:=2) (k:=0) (.cons 2 rfl .nil) rfl rfl h0 ?_
 refine au [97] ?_
 exact qj ((iadd .i64 x0 1,x4),a3,c2)
 refine au [72] ?_
 exact qa (x2,a0,c0)
 rintro ⟨x86,a84,c85⟩
 refine au [92,119,24,7,26,3] ?_
 intro x87 e87 a88 c89
 refine au [83,47] ?_
 refine qL (fun ((x5,_):qD0×Unit)=>([(8,qD3 a88 x5 c89)],[],[qD6 a88 x5 c89],[],qfr F x5)) ?_ ?_
 refine au [48,33,10] ?_
 rintro x6 e2 ⟨a4,c4⟩
 refine au [47,14] ?_
 refine qm [5] [] [2] [] (fun (((x9,x10,x11,x12),a5,c5):(qD0×Int×Int×qD0)×qD1×Nat)=>([(8,qD3 a88 x9 c89),(9,qD2 x10),(10,qD2 x11)],[⟨g11,137,[qD3 a9 x8 c10.1,qD3 a5 x12 c5]⟩],[qD6 a88 x9 c89,qD6 a5 x12 c5],[])) (x87,(0:Int),x6.1,x6.2) (a4,c4) ?_
 intro k1
 rintro ⟨⟨x9,x10,x11,x12⟩,a5,c5⟩
 refine aw [39,1,1,4,3,26,6,0,2,11] ?_ ?_
 refine au [85,48,3,119,3] ?_
 refine qcv (j:=2) rfl UnF.u inferInstance rfl rfl rfl rfl ?_
 intro x13 e3 g2 h2
 refine ku (j:=2) (y:=x13) (qA .i64) rfl rfl tf3 rfl h2 (qw e3).2.2 (fun _=>rfl) rfl rfl (qyA rfl rfl rfl rfl ?_)
 refine au [60,91,29,1] ?_
 intro x14 e4 g3 h3
 refine zZ (j:=1) (y':=imax x10 x13) (qA .i64) rfl rfl rfl tf3 rfl h3 (qw e4).2.1 rfl (fun x15 e5 h4=>?_)
 have h5:x15.length=x9.length:=by rw[← e5,qBA]
 refine qp (d:=8) (v:=qD3 a88 x15 c89) rfl h4 (qp (d:=62) (v:=qD3 a88 x15 c89) rfl h4 ?_)
 refine au [46,4,91] ?_
 refine qs qh4 ?_
 rintro x16 e6 ⟨a6,c6⟩
 refine au [0,65,4,3,33,10] ?_
 rintro x17 e9 ⟨a7,c7⟩
 refine au [5,0] ?_
 exact qj ((x15,imax x10 x13,x17.1,x17.2),a7,c7)
 refine au [72] ?_
 exact qa (x9,())
 rintro ⟨x5,_⟩
 refine au [92,5,49] ?_
 exact qx (a88,c89)
theorem qd2 {r:Unit}(hm:qag F p1 i1 i2 i3 m1 m2=some r) :
    PureM qD9 66 [qD4 t1,.func (.func 67) #[] #[]] [⟨t1,85,[qD3 l1 p1 t2,qD2 i1,qD2 i2,qD2 i3,qD3 l2 m1 t3,.string (bstr m2)]⟩] [] [SlN eN56 iN56 1 (qD3 l1 p1 t2) p1 n1,qD5 l2 m1 t3] (Nat×Nat) (fun g=>.func (.func 94) #[] #[qD4 g.1,qD4 g.2]) (fun g=>[⟨g.1,83,[qD4 t1]⟩,⟨g.2,107,[.func (.func 67) #[] #[]]⟩,⟨t1,85,[qD3 l1 p1 t2,qD2 i1,qD2 i2,qD2 i3,qD3 l2 m1 t3,.string (bstr m2)]⟩]) (fun _=>[]):=by
 refine pureMA func66 ntmps66 hm fun _=>?_
 refine au [79] ?_
 intro g12
 refine au [24,0] ?_
 intro g13
 refine au [83,27,9,49] ?_
 exact qH (g12,g13)
theorem qd1 {r:Unit}(hm:qaf F p1 i1 i2 i3 m1 m2=some r) :
    PureM qD9 66 [qD4 t1,.func (.func 69) #[] #[]] [⟨t1,85,[qD3 l1 p1 t2,qD2 i1,qD2 i2,qD2 i3,qD3 l2 m1 t3,.string (bstr m2)]⟩] [] [SlN eN56 iN56 1 (qD3 l1 p1 t2) p1 n1,qD5 l2 m1 t3] (Nat×Nat) (fun g=>.func (.func 94) #[] #[qD4 g.1,qD4 g.2]) (fun g=>[⟨g.1,83,[qD4 t1]⟩,⟨g.2,107,[.func (.func 69) #[] #[]]⟩,⟨t1,85,[qD3 l1 p1 t2,qD2 i1,qD2 i2,qD2 i3,qD3 l2 m1 t3,.string (bstr m2)]⟩]) (fun _=>[]):=by
 refine pureMA func66 ntmps66 hm fun _=>?_
 refine au [79] ?_
 intro g12
 refine au [24,0] ?_
 intro g13
 refine au [83,27,9,49] ?_
 exact qH (g12,g13)
theorem qh6 {r:Unit}(hm:qcn F p1 i1 i2 i3 m1 m2=some r) :
    PureM qD9 43 [qD4 t1] [⟨t1,85,[qD3 l1 p1 t2,qD2 i1,qD2 i2,qD2 i3,qD3 l2 m1 t3,.string (bstr m2)]⟩] [] [SlN eN56 iN56 1 (qD3 l1 p1 t2) p1 n1,qD5 l2 m1 t3] (Nat×Nat×Nat×Nat×Nat) (fun g=>.map (some g.1)) (fun g=>[(blkO g.1 (mapT [(([110,111,100,101,115]:qD0),.agg #[qD2 1,.func (.func 58) #[qD4 t1] #[]]),(([97,114,99]:qD0),.agg #[qD2 2,.func (.func 59) #[qD4 t1] #[]]),(([100,114,111,112]:qD0),.agg #[qD2 2,.func (.func 60) #[qD4 t1] #[]]),(([104,111,119]:qD0),.agg #[qD2 3,.func (.func 61) #[qD4 t1] #[]]),(([98,105,116,115]:qD0),.agg #[qD2 0,.func (.func 62) #[qD4 t1] #[]]),(([108,105,115,116]:qD0),.agg #[qD2 1,.func (.func 63) #[qD4 t1] #[]]),(([102,97,114]:qD0),.agg #[qD2 2,.func (.func 64) #[qD4 t1] #[]]),(([119,97,121]:qD0),.agg #[qD2 2,.func (.func 65) #[qD4 t1] #[]]),(([112,97,114,116]:qD0),.agg #[qD2 1,.func (.func 94) #[] #[qD4 g.2.1,qD4 g.2.2.1]]),(([111,114,100,101,114]:qD0),.agg #[qD2 0,.func (.func 68) #[qD4 t1] #[]]),(([99,111,114,101]:qD0),.agg #[qD2 1,.func (.func 94) #[] #[qD4 g.2.2.2.1,qD4 g.2.2.2.2]]),(([116,104,114,101,101,115]:qD0),.agg #[qD2 0,.func (.func 70) #[qD4 t1] #[]])])),⟨g.2.1,83,[qD4 t1]⟩,⟨g.2.2.1,107,[.func (.func 67) #[] #[]]⟩,⟨g.2.2.2.1,83,[qD4 t1]⟩,⟨g.2.2.2.2,107,[.func (.func 69) #[] #[]]⟩,⟨t1,85,[qD3 l1 p1 t2,qD2 i1,qD2 i2,qD2 i3,qD3 l2 m1 t3,.string (bstr m2)]⟩]) (fun _=>[]):=by
 refine pureMA func43 ntmps43 hm fun _=>?_
 refine au [64,83] ?_
 refine qoo rfl rfl ?_
 intro g12
 refine au [3,28,1] ?_
 refine qF [qD2 1,.func (.func 58) #[qD4 t1] #[]] ?_
 refine yv (i:=0) (u:=([110,111,100,101,115]:qD0)) rfl underlying90 underlying9 rfl rfl rfl rfl (by kernel_rfl) ?_
 refine au [3,28,1] ?_
 refine qF [qD2 2,.func (.func 59) #[qD4 t1] #[]] ?_
 refine yv (i:=0) (u:=([97,114,99]:qD0)) rfl underlying90 underlying9 rfl rfl rfl rfl (by kernel_rfl) ?_
 refine au [3,28,1] ?_
 refine qF [qD2 2,.func (.func 60) #[qD4 t1] #[]] ?_
 refine yv (i:=0) (u:=([100,114,111,112]:qD0)) rfl underlying90 underlying9 rfl rfl rfl rfl (by kernel_rfl) ?_
 refine au [3,28,1] ?_
 refine qF [qD2 3,.func (.func 61) #[qD4 t1] #[]] ?_
 refine yv (i:=0) (u:=([104,111,119]:qD0)) rfl underlying90 underlying9 rfl rfl rfl rfl (by kernel_rfl) ?_
 refine au [3,28,1] ?_
 refine qF [qD2 0,.func (.func 62) #[qD4 t1] #[]] ?_
 refine yv (i:=0) (u:=([98,105,116,115]:qD0)) rfl underlying90 underlying9 rfl rfl rfl rfl (by kernel_rfl) ?_
 refine au [3,28,1] ?_
 refine qF [qD2 1,.func (.func 63) #[qD4 t1] #[]] ?_
 refine yv (i:=0) (u:=([108,105,115,116]:qD0)) rfl underlying90 underlying9 rfl rfl rfl rfl (by kernel_rfl) ?_
 refine au [3,28,1] ?_
 refine qF [qD2 2,.func (.func 64) #[qD4 t1] #[]] ?_
 refine yv (i:=0) (u:=([102,97,114]:qD0)) rfl underlying90 underlying9 rfl rfl rfl rfl (by kernel_rfl) ?_
 refine au [3,28,1] ?_
 refine qF [qD2 2,.func (.func 65) #[qD4 t1] #[]] ?_
 refine yv (i:=0) (u:=([119,97,121]:qD0)) rfl underlying90 underlying9 rfl rfl rfl rfl (by kernel_rfl) ?_
 refine au [3] ?_
 refine qs qd2 ?_
 rintro x13 e13 ⟨g14,g15⟩
 refine qF [qD2 1,.func (.func 94) #[] #[qD4 g14,qD4 g15]] ?_
 refine yv (i:=3) (u:=([112,97,114,116]:qD0)) rfl underlying90 underlying9 rfl rfl rfl rfl (by kernel_rfl) ?_
 refine au [3,28,1] ?_
 refine qF [qD2 0,.func (.func 68) #[qD4 t1] #[]] ?_
 refine yv (i:=3) (u:=([111,114,100,101,114]:qD0)) rfl underlying90 underlying9 rfl rfl rfl rfl (by kernel_rfl) ?_
 refine au [3] ?_
 refine qs qd1 ?_
 rintro x16 e16 ⟨g17,g18⟩
 refine qF [qD2 1,.func (.func 94) #[] #[qD4 g17,qD4 g18]] ?_
 refine yv (i:=5) (u:=([99,111,114,101]:qD0)) rfl underlying90 underlying9 rfl rfl rfl rfl (by kernel_rfl) ?_
 refine au [3,28,1] ?_
 refine qF [qD2 0,.func (.func 70) #[qD4 t1] #[]] ?_
 refine yv (i:=5) (u:=([116,104,114,101,101,115]:qD0)) rfl underlying90 underlying9 rfl rfl rfl rfl (by kernel_rfl) ?_
 refine au [3,49] ?_
 exact qH (g12,g14,g15,g17,g18)
theorem qiH {v13:Value}{r:(Bool×qD0)}(hm:qM F p1 i1 i2 i3 m1 m2 i4 p2=some r) :
    PureM qD9 44 [qD4 t1,.agg #[qD2 i4,v13],qD3 l3 p2 t4] [⟨t1,85,[qD3 l1 p1 t2,qD2 i1,qD2 i2,qD2 i3,qD3 l2 m1 t3,.string (bstr m2)]⟩] [qD6 l2 m1 t3] [SlN eN56 iN56 1 (qD3 l1 p1 t2) p1 n1,Sl eT 1 (qD3 l3 p2 t4) p2,GF] (qD1×Nat) (fun _=>.bool r.1) (fun g=>[⟨t1,85,[qD3 l1 p1 t2,qD2 i1,qD2 i2,qD2 i3,qD3 g.1 r.2 g.2,.string (bstr m2)]⟩]) (fun g=>[qD6 g.1 r.2 g.2]):=by
 refine pureMA func44 ntmps44 hm fun _=>?_
 refine au [126] ?_
 intro g17
 refine au [47] ?_
 refine qg [2,4] [0] [] [1,0,2] (fun ((x0,a0,c0):qD0×qD1×Nat)=>([],[⟨t1,85,[qD3 l1 p1 t2,qD2 i1,qD2 i2,qD2 i3,qD3 a0 x0 c0,.string (bstr m2)]⟩],[qD6 a0 x0 c0],[],qdp F i4 p2 x0)) ?_ ?_
 refine au [48,86] ?_
 refine qm [0,2,4,11,12] [0] [] [1,0,2] (fun (((x1,x3),a1,c1):(Int×qD0)×qD1×Nat)=>([(13,qD2 x1)],[⟨t1,85,[qD3 l1 p1 t2,qD2 i1,qD2 i2,qD2 i3,qD3 a1 x3 c1,.string (bstr m2)]⟩],[qD6 a1 x3 c1],[])) ((0:Int),m1) (l2,t3) ?_
 intro k0
 rintro ⟨⟨x1,x3⟩,a1,c1⟩
 refine aw [39,1,4,24,4,0,2,1,11] ?_ ?_
 refine au [85,45] ?_
 refine vL (j:=0) qD (by decide) rfl UnF.u inferInstance rfl rfl rfl rfl ?_
 intro x4 e0 b0 o0
 refine au [25,3,60] ?_
 refine yY EnC.e rfl rfl rfl (fun x9 e1=>qxg x4 x9 e1) (.consF 3 rfl .nil) (fun x9 e1=>?_)
 intro g0
 refine au [3,81,5,82,48] ?_
 refine qrt rfl underlying50 rfl rfl ?_
 refine au [3] ?_
 refine zp 3 24 27 [0,2,4,11,12,13,8,9] (decide (x9.1<0)) ?_ ?_ ?_
 exact az [63,62]
 exact az [3,24,4,61]
 refine au [3] ?_
 refine zp 4 28 32 [0,2,4,11,12,13,8,9] (decide (4<(x4.length:Int))) ?_ ?_ ?_
 exact az [63,7,62]
 refine au [3] ?_
 refine qp4 (a:=x4) rfl underlying9 rfl rfl ?_
 exact az [105]
 refine au [3] ?_
 refine kH 5 [0,2,4,9,11,12,13] [0,1] [0] [1,2,3] (fun ((x10,_):Bool×Unit)=>([(38,.bool x10)],[],[],[],vP F (zG F i4 p2 k0) x1 x3 x9 x10)) ?_ ?_
 refine qC (os:=_) rfl ?_
 refine av [26,5] ?_ ?_
 intro h0
 refine ko (k:=33) rfl h0 ?_
 refine au [68,113] ?_
 exact qa (true,())
 intro h0
 refine km (k:=33) rfl h0 ?_
 refine au [3] ?_
 refine yY EnC.e rfl rfl rfl (fun x13 e2=>qfq x9.1 x13 e2) (.consF 3 rfl .nil) (fun x13 e2 _=>?_)
 refine au [3] ?_
 refine qwS rfl UnF.u rfl rfl rfl ?_
 refine au [112] ?_
 exact qa ((!(bstr x13 == bstr x4)),())
 rintro ⟨x10,_⟩
 try dsimp only
 refine qC (os:=_) rfl ?_
 refine aw [0,2,11] ?_ ?_
 refine au [45,59,111,52] ?_
 exact qH (a1,c1)
 refine au [57,4,91,51,25,12,3] ?_
 refine zw [x9.1] (fun a2 c2=>?_)
 refine zo 1 (qA .i64) rfl underlying56 tf3 rfl rfl rfl rfl rfl (.inl ⟨0,_,rfl⟩) rfl rfl (fun x15 e3 a4 c3=>?_)
 refine au [51,25,5,0,98] ?_
 exact qj ((iadd .i64 x1 1,x15),a4,c3)
 refine au [72] ?_
 exact qa (x3,a1,c1)
 rintro ⟨x0,a0,c0⟩
 refine au [92,24,7,67,25,6,49] ?_
 exact qH (a0,c0)
theorem qh8 (F g1:Nat)(x2:List (qD0))(a3:qD1)(c4:(Nat×List (qD1×Nat)))(x5 x6 x7:Int)(x8:qD0)(a9:qD1)(c10:Nat)(x11:qD0)(r:(Int×List (qD0)))(hm:qao F x2 x5 x6 x7 x8 x11=some r) :
    PureM qD9 58 [qD4 g1] [⟨g1,85,[qD3 a3 x2 c4.1,qD2 x5,qD2 x6,qD2 x7,qD3 a9 x8 c10,.string (bstr x11)]⟩] [RoN eN56 rN56 56 1 (qD3 a3 x2 c4.1) x2 c4.2 []] [qD5 a9 x8 c10] (qD1×Nat×List (qD1×Nat)) (fun _=>qD2 r.1) (fun g=>[⟨g1,85,[qD3 g.1 r.2 g.2.1,qD2 x5,qD2 x6,qD2 x7,qD3 a9 x8 c10,.string (bstr x11)]⟩]) (fun g=>[RoN eN56 rN56 56 1 (qD3 g.1 r.2 g.2.1) r.2 g.2.2 []]):=by
 refine pureMA func58 ntmps58 hm fun _=>?_
 refine au [64,82,48,119,26,4] ?_
 intro x16 e16 b17 o18
 refine aw [25,3,25,1,0,2,11] ?_ ?_
 refine au [45,59] ?_
 exact qH (a3,c4)
 refine au [57,48,3,119,29,9] ?_
 intro x19 e19 b20 o21
 refine au [25,3,30,2] ?_
 intro x22 e22 a23 c24
 refine qF [qD3 a23 x22 c24] ?_
 refine au [51,10,17,46,45,49] ?_
 exact qH (a23,c24,(qBj x22.length ((none,0):qD1×Nat)))
theorem jC (hm:kO F w1 p1=some w2) :
    PureM qD9 158 [qD3 l1 w1 t1,.func (.func 159) #[] #[qD4 t2]] [⟨t2,24,[qD3 l2 p1 t3]⟩] [Ro eS63 63 2 (qD3 l1 w1 t1) w1] [SlN eN56 iN56 1 (qD3 l2 p1 t3) p1 n1] (qD1×Nat) (fun g=>qD3 g.1 w2 g.2) (fun _=>[⟨t2,24,[qD3 l2 p1 t3]⟩]) (fun g=>[Ro eS63 63 2 (qD3 g.1 w2 g.2) w2]):=by
 refine qdg func158 rfl ntmps158 rfl hm (fun w=>?_)
 refine au [79] ?_
 intro g8
 refine au [82,48,75] ?_
 refine qbU (encs:=(fun (p:Int×Int)=>[.agg #[qD2 p.1,qD2 p.2]])) (y:=(fun (x46:List (Int×Int)) ((x55,x56):Int×Int)=>kC F x46 x55 x56)) (lb:=[qD4 t2]) (fun (x46:List (Int×Int)) ((a44,c45):qD1×Nat)=>[⟨g8,58,[qD3 a44 x46 c45]⟩]) (fun (x46:List (Int×Int)) ((a44,c45):qD1×Nat)=>[Ro eS63 63 2 (qD3 a44 x46 c45) x46]) (fun (_:Empty) (_:Unit)=>[]) (fun (_:Empty) (_:Unit)=>[]) (fun _=>.skip) w1 (l1,t1) rfl EnC.e (fun _=>rfl) rfl (.cons 1 rfl .nil) (.cons 0 rfl .nil) (.cons 0 rfl .nil) (.consF 0 rfl .nil) (fun z hz _ _ _ hY=>qdI F hY w1 (l1,t1) t2 p1 l2 (t3,n1) z hz) ?_ ?_ ?_
 rintro rc1 L1 D1 x46 ⟨a44,c45⟩ ⟨x55,x56⟩ z w M _
 try dsimp only
 refine qdk [(0,qD3 l1 w1 t1),(1,.func (.func 159) #[] #[qD4 t2]),(2,qD4 g8),(4,.slice none 0 0),(6,.func (.func 159) #[] #[qD4 t2]),(7,.agg #[qD2 x55,qD2 x56])] (qk rfl (qk rfl (qk rfl (qk rfl (qk rfl (qk rfl qdB)))))) ?_
 refine au [4,24,2] ?_
 intro g57
 refine au [80,33,11,14,4,25,12,24,12] ?_
 refine qaX (vs:=[.agg #[qD2 x55,qD2 x56]]) (ys:=([(x55,x56)]:List (Int×Int))) qdV (by decide) rfl underlying58 tf63 rfl rfl rfl rfl rfl (by decide) (fun a58 c59=>zo 1 qdV rfl underlying58 tf63 rfl rfl rfl rfl rfl (.inl ⟨0,_,rfl⟩) rfl rfl (fun x60 e60 a61 c62=>?_))
 refine au [25,5,121] ?_
 exact vk (rc:=rc1) rfl (.cons 2 rfl .nil) rfl (a61,c62) (.cons 2 rfl (.cons 0 rfl (.cons 1 rfl .nil))) (.cons 0 rfl .nil)
 rintro x46 _ ⟨a44,c45⟩ D1
 refine au [39,65,45,26,1,49] ?_
 exact ja [D1] (a44,c45) (.inl rfl) rfl (.cons 0 rfl .nil) (res1 rfl rfl) (fun h=>by subst h;rfl) (fun h=>by subst h;exact (.cons 0 rfl .nil)) (fun h=>by subst h;exact (.cons 0 rfl .nil))
 intro t;exact t.elim
theorem qbX (hm:vp F p1=some w1) :
    PureM qD9 113 [.func (.func 159) #[] #[qD4 t1]] [⟨t1,24,[qD3 l1 p1 t2]⟩] [] [SlN eN56 iN56 1 (qD3 l1 p1 t2) p1 n1] (qD1×Nat) (fun g=>qD3 g.1 w1 g.2) (fun _=>[⟨t1,24,[qD3 l1 p1 t2]⟩]) (fun g=>[Ro eS63 63 2 (qD3 g.1 w1 g.2) w1]):=by
 refine pureMA func113 ntmps113 hm fun _=>?_
 refine au [64,60,33,12] ?_
 refine qs jC ?_
 rintro x5 e5 ⟨a6,c7⟩
 refine au [49] ?_
 exact qH (a6,c7)
theorem qnj {r:(List (Int×Int)×Int)}(hm:qiQ F p1=some r) :
    Pure qD9 82 [.agg #[qD3 l1 p1 t1]] [SlN eN56 iN56 1 (qD3 l1 p1 t1) p1 n1] (qD1×Nat) (fun g=>.tuple #[qD3 g.1 r.1 g.2,qD2 r.2]) (fun g=>[Ro eS63 63 2 (qD3 g.1 r.1 g.2) r.1]) (fun _=>[]):=by
 refine pureA func82 ntmps82 hm fun _=>?_
 refine au [87] ?_
 intro g4
 refine au [5,82,74,28,7] ?_
 intro x7 e7 _
 refine aw [5,0,2,1,4,3,25,4,0,2,11] ?_ ?_
 refine au [48,5,59] ?_
 exact qfp (Int×Int) eS63 63 2 (qx (none,0))
 refine au [57,74,30,12] ?_
 intro x8 e8 g9
 refine qs qbX ?_
 rintro x10 e10 ⟨a11,c12⟩
 refine au [5,49] ?_
 exact qx (a11,c12)
theorem ql2 (hm:qfY F i1 w1=some p1) :
    Pure qD9 115 [qD2 i1,qD3 l1 w1 t1] [Sl eS63 2 (qD3 l1 w1 t1) w1] (qD1×Nat×List (qD1×Nat)) (fun g=>.agg #[qD3 g.1 p1 g.2.1]) (fun g=>[RoN eN56 rN56 56 1 (qD3 g.1 p1 g.2.1) p1 g.2.2 []]) (fun _=>[]):=by
 refine pureA func115 ntmps115 hm fun _=>?_
 refine au [55,24,2] ?_
 intro g5
 refine au [117,30,2] ?_
 intro x6 e6 a7 c8
 refine qF [qD3 a7 x6 c8] ?_
 refine au [24,2] ?_
 intro g9
 refine au [17,46] ?_
 refine qg [4,5] [1] [] [] (fun ((x0,g0):List (qD0)×List (qD1×Nat))=>([],[⟨g9,24,[qD3 a7 x0 c8]⟩],[RoN eN56 rN56 56 1 (qD3 a7 x0 c8) x0 g0 []],[],qgg F x0)) ?_ ?_
 refine au [48,86] ?_
 refine qm [4,5,11,12] [1] [] [0] (fun (((x3,x4),g1):(Int×List (qD0))×List (qD1×Nat))=>([(13,qD2 x3)],[⟨g9,24,[qD3 a7 x4 c8]⟩],[RoN eN56 rN56 56 1 (qD3 a7 x4 c8) x4 g1 []],[])) ((0:Int),x6) (qBj x6.length ((none,0):qD1×Nat)) ?_
 intro k0
 rintro ⟨⟨x3,x4⟩,g1⟩
 refine aw [39,1,4,24,4,0,2,1,11] ?_ ?_
 refine au [85,45,31,14] ?_
 intro x5 e0 b0 o0
 refine au [29,11,24,2] ?_
 intro g2
 refine au [17,46,30,3] ?_
 intro x7 e1 g3 h0 g4 h1
 replace h1:a7=some ⟨g4,0,none⟩:=h1
 have h2:=zF (k:=x4.length) (c:=c8) h1
 refine qeS (i:=0) rfl h0 (qBB) ?_
 refine au [29,10] ?_
 intro x8 e2 g6 h3 g7 h4
 replace h4:a7=some ⟨g7,0,none⟩:=h4
 have h5:=zF (k:=x4.length) (c:=c8) h4
 refine kg mixed [15] _ _ (.cons 0 rfl (.cons 0 rfl (.cons 0 rfl .nil))) (qh 0 rfl (qh 1 rfl (qB 1 rfl (qG qn h0 h1) (qB 1 rfl (qG qn h3 h4) qf)))) 16 rfl ?_
 refine au [18,0,29,2,1,18,2,24,15,3,18,4,29,2,5,18,6,24,15,7] ?_
 refine jA 8 h1 e1 ?_
 refine qz 9 (qD3 g3.1 x7 g3.2) [[15]] rfl rfl rfl (qV (j:=2) rfl tf56 rfl rfl (fun _=>rfl) rfl) ?_
 refine au [18,10,24,15,11,9,12] ?_
 refine zw [x5.2] (fun a0 c0=>?_)
 refine au [0] ?_
 refine qc (.cons 0 rfl (.cons 0 rfl (.cons 0 rfl .nil))) (qh 0 rfl (qh 1 rfl (qB 2 rfl (qG qn h0 h1) (qB 2 rfl (qG qn h3 h4) qf)))) ?_
 refine au [9,13] ?_
 refine zo 1 (qA .i64) rfl underlying56 tf3 rfl rfl rfl rfl rfl (.inl ⟨0,_,rfl⟩) rfl rfl (fun x9 e3 a1 c1=>?_)
 refine au [0] ?_
 refine qc (.cons 0 rfl (.cons 0 rfl (.cons 0 rfl .nil))) (qh 0 rfl (qh 1 rfl (qB 2 rfl (qG qn h0 h1) (qB 2 rfl (qG qn h3 h4) qf)))) (jA 14 h4 e2 ?_)
 refine au [9,15] ?_
 refine jL (j:=2) (kh:=0) (y':=x9) (q':=(a1,c1)) qn rfl rfl rfl tf56 rfl (zF h4) rfl (qw e2).2.1 rfl (.cons 0 rfl .nil) (fun x10 e4 h6 g8=>?_)
 have h7:x10.length=x4.length:=by rw[← e4,qBA]
 refine q9 18 h6 ?_
 refine q9 22 h6 ?_
 refine qS (i:=2) (cs':=[qD3 a7 x10 c8]) rfl (by simp only[qD3,h6] <;> rfl) ?_
 refine au [0] ?_
 refine kQ 15 rfl (by kernel_rfl) (.cons 0 rfl (.cons 0 rfl (.cons 0 (by simp only[qD3,h7] <;> rfl) .nil))) ?_
 refine au [54,98] ?_
 exact qj ((iadd .i64 x3 1,x10),g8)
 refine au [72] ?_
 exact qa (x4,g1)
 rintro ⟨x0,g0⟩
 refine au [39,107,17,46,8] ?_
 exact qdE (a7,c8,g0) 0
theorem qdo {r:Unit}(hm:yw F w1=some r) :
    PureM qD9 117 [qD3 l1 w1 t1] [] [] [Sl eS63 2 (qD3 l1 w1 t1) w1] Nat (fun g=>.func (.func 161) #[] #[qD4 g]) (fun g=>[⟨g,58,[qD3 l1 w1 t1]⟩]) (fun _=>[]):=by
 refine pureMA func117 ntmps117 hm fun _=>?_
 refine au [87] ?_
 intro g4
 refine au [83,27,9,49] ?_
 exact qH g4
theorem qnb [inst:DM]{F:Nat}{x1:qD0}{a2:qD1}{c3:Nat}{r:Int}(hm:qiP F x1=some r) :
    Pure qD9 162 [qD3 a2 x1 c3] [qD5 a2 x1 c3] Unit (fun _=>qD2 r) (fun _=>[]) (fun _=>[]):=by
 refine pureA func162 ntmps162 hm fun _=>?_
 refine au [64,83,47] ?_
 refine qL (fun ((_,_):Unit×Unit)=>([(3,qD2 0)],[],[],[],qgV F)) ?_ ?_
 refine au [48,86] ?_
 refine qm [3,6,7] [] [] [0] (fun ((x46,_):Int×Unit)=>([(8,qD2 x46)],[],[],[])) (0:Int) () ?_
 intro k57
 rintro ⟨x46,_⟩
 refine aw [39,1,4,24,4,0,2,1,11] ?_ ?_
 refine au [85,45,26,4] ?_
 intro x63 e63 b64 o65
 refine aw [25,3,5,0,2,1,4,3,3,25,4,0,2,11] ?_ ?_
 exact az [48,49,111,110]
 refine au [12,98] ?_
 exact qj (iadd .i64 x46 1,())
 exact az [122]
 rintro ⟨_,_⟩
 exact az [92,71]
theorem qki [inst:DM]{F:Nat}{x1:Int}{r:Bool}(hm:vX F x1=some r) :
    Pure qD9 190 [qD2 x1] [] Unit (fun _=>.bool r) (fun _=>[]) (fun _=>[]):=by
 refine pureA func190 ntmps190 hm fun _=>?_
 exact az [64,60,3,25,4,71]
theorem qiC [inst:DM]{F:Nat}{x1:Int}{x2:Int}{r:Int}(hm:qcF F x1 x2=some r) :
    Pure qD9 163 [qD2 x1,qD2 x2] [] Unit (fun _=>qD2 r) (fun _=>[]) (fun _=>[]):=by
 refine pureA func163 ntmps163 hm fun _=>?_
 refine au [55,60,30,14] ?_
 intro x3 e3 _
 refine au [60,30,14] ?_
 intro x4 e4 _
 refine aw [5,0,2,1,1,4,3,0,2,11] ?_ ?_
 refine aw [1,1,4,3,0,2,11] ?_ ?_
 exact az [45,59,13,24,5]
 exact az [125,78]
 refine aw [12,2,1,1,4,3,0,2,11] ?_ ?_
 exact az [45,78]
 refine aw [12,2,1,1,4,3,3,24,4,0,2,11] ?_ ?_
 exact az [45,78]
 refine aw [12,2,1,1,4,3,3,25,1,0,2,11] ?_ ?_
 exact az [45,78]
 exact az [125,71]
theorem ql4 [inst:DM](F:Nat)(x1:Int)(x2:Int)(x3:Int)(x4:Int)(r:Int)(hm:qhY F x1 x2 x3 x4=some r) :
    Pure qD9 118 [.agg #[qD2 x1,qD2 x2],.agg #[qD2 x3,qD2 x4]] [] Unit (fun _=>qD2 r) (fun _=>[]) (fun _=>[]):=by
 refine pureA func118 ntmps118 hm fun _=>?_
 refine au [79] ?_
 intro g5
 refine au [24,0] ?_
 intro g6
 refine au [82] ?_
 refine qE [] [0,0] [] 13 ?_
 refine au [18,0,26,10,1,18,2,24,15,3,18,5,26,10,6,18,7,24,15,8,9,4,33,13] ?_
 intro x12 e12 _
 refine au [0,30,15,9,9,33,13] ?_
 intro x13 e13 _
 refine au [0,30,15,9,10] ?_
 refine zw [x12,x13] (fun a14 c15=>?_)
 refine au [0,30,15,9,11] ?_
 refine qd qnb ?_
 intro x16 e16 _
 exact az [0,30,15,6,12,54,2,8,24,5]
theorem qcC (F:Nat){σ τ:Type}{J:Rounds σ τ}{yy:σ→(Int×Int)→Option (σ ⊕ τ)}{L:Nat}(hY:YieldC qD9 L (fun (p:Int×Int)=>[.agg #[qD2 p.1,qD2 p.2]]) J yy)(s0:σ)(gs0:J.γ)(g1:Nat)(x2:List (Int×Int))(a3:qD1)(c4:Nat)(r:σ ⊕ τ)(hm:vU F yy x2 s0=some r) :
    PureM qD9 161 ([.func (.yield L) #[] #[],qD4 g1]) ([⟨g1,58,[qD3 a3 x2 c4]⟩]++J.IB s0 gs0) (J.IR s0 gs0) [J.F,Sl eS63 2 (qD3 a3 x2 c4) x2] (J.G r) (fun _=>.tuple #[]) (fun g=>[⟨g1,58,[qD3 a3 x2 c4]⟩]++J.bs r g) (fun g=>J.rs r g):=by
 refine pureMA func161 ntmps161 hm fun _=>?_
 refine au [55,20,86] ?_
 refine vy (fun (((x23,x24),g25):(Int×σ)×J.γ)=>[(0,.func (.yield L) #[] #[]),(5,qD3 a3 x2 c4),(6,qD2 (x2.length:Int)),(7,qD2 x23)]) (fun (((x23,x24),g25):(Int×σ)×J.γ)=>[⟨g1,58,[qD3 a3 x2 c4]⟩]++J.IB x24 g25) (fun (((x23,x24),g25):(Int×σ)×J.γ)=>[]++J.IR x24 g25) (fun (((x23,x24),g25):(Int×σ)×J.γ)=>[Sl eS63 2 (qD3 a3 x2 c4) x2,J.F]) (fun k (s:(Int×σ)×J.γ)=>kN F yy x2 k s.1) ((0,s0),gs0) F ?_ (hB:=(.cons 0 rfl (qe 0 rfl))) (hR:=(qe 0 rfl)) (hF:=(qi 1 rfl (qi 0 rfl zB)))
 intro k44
 rintro ⟨⟨x23,x24⟩,g25⟩
 try dsimp only
 refine qaJ (m':=vq F yy x2 (kN F yy x2 k44) x23 x24) rfl ?_
 refine aw [1,4,24,4,0,2,1,11] ?_ ?_
 refine au [85,45,31,14] ?_
 intro x54 e54 b55 o56
 refine au [29,11,24,2] ?_
 intro g57
 refine au [17,117,24,12] ?_
 refine qeT hY x24 (x54.1,x54.2) g25 (B1:=[⟨g57,63,[qD2 x54.1,qD2 x54.2]⟩,⟨g1,58,[qD3 a3 x2 c4]⟩]) (R1:=[]) (j:=2) rfl rfl rfl rfl rfl rfl rfl (fun x58 _ g60=>?_) (fun x59 _ g60=>?_)
 refine au [25,7,46] ?_
 refine k8 (b:=false) rfl (fun h=>by cases h) (fun _=>?_)
 refine au [12,98] ?_
 exact vn ((iadd .i64 x23 1,x58),g60) (hB:=(.cons 1 rfl (qe 1 rfl))) (hR:=(qe 0 rfl)) (hF:=(qi 1 rfl (qi 2 rfl zB)))
 refine au [25,7,46] ?_
 refine k8 (b:=true) rfl (fun _=>?_) (fun h=>by cases h)
 refine au [8,111,24,6] ?_
 exact v8 (B0:=[⟨g1,58,[qD3 a3 x2 c4]⟩]) (x:=.inr x59) g60 (.inl rfl) (res0 rfl) (.cons 1 rfl (qe 1 rfl)) (qe 0 rfl)
 refine au [72] ?_
 exact v8 (B0:=[⟨g1,58,[qD3 a3 x2 c4]⟩]) (x:=.inl x24) g25 (.inr rfl) (res0 rfl) (.cons 0 rfl (qe 0 rfl)) (qe 0 rfl)
theorem kU (hm:zk F w1 w2=some w3) :
    PureM qD9 158 [qD3 l1 w1 t1,.func (.func 161) #[] #[qD4 t2]] [⟨t2,58,[qD3 l2 w2 t3]⟩] [Ro eS63 63 2 (qD3 l1 w1 t1) w1] [Sl eS63 2 (qD3 l2 w2 t3) w2] (qD1×Nat) (fun g=>qD3 g.1 w3 g.2) (fun _=>[⟨t2,58,[qD3 l2 w2 t3]⟩]) (fun g=>[Ro eS63 63 2 (qD3 g.1 w3 g.2) w3]):=by
 refine qdg func158 rfl ntmps158 rfl hm (fun w=>?_)
 refine au [79] ?_
 intro g8
 refine au [82,48,75] ?_
 refine qbU (encs:=(fun (p:Int×Int)=>[.agg #[qD2 p.1,qD2 p.2]])) (y:=(fun (x46:List (Int×Int)) ((x55,x56):Int×Int)=>q8 F x46 x55 x56)) (lb:=[qD4 t2]) (fun (x46:List (Int×Int)) ((a44,c45):qD1×Nat)=>[⟨g8,58,[qD3 a44 x46 c45]⟩]) (fun (x46:List (Int×Int)) ((a44,c45):qD1×Nat)=>[Ro eS63 63 2 (qD3 a44 x46 c45) x46]) (fun (_:Empty) (_:Unit)=>[]) (fun (_:Empty) (_:Unit)=>[]) (fun _=>.skip) w1 (l1,t1) rfl EnC.e (fun _=>rfl) rfl (.cons 1 rfl .nil) (.cons 0 rfl .nil) (.cons 0 rfl .nil) (.consF 0 rfl .nil) (fun z hz _ _ _ hY=>qcC F hY w1 (l1,t1) t2 w2 l2 t3 z hz) ?_ ?_ ?_
 rintro rc1 L1 D1 x46 ⟨a44,c45⟩ ⟨x55,x56⟩ z w M _
 try dsimp only
 refine qdk [(0,qD3 l1 w1 t1),(1,.func (.func 161) #[] #[qD4 t2]),(2,qD4 g8),(4,.slice none 0 0),(6,.func (.func 161) #[] #[qD4 t2]),(7,.agg #[qD2 x55,qD2 x56])] (qk rfl (qk rfl (qk rfl (qk rfl (qk rfl (qk rfl qdB)))))) ?_
 refine au [4,24,2] ?_
 intro g57
 refine au [80,33,11,14,4,25,12,24,12] ?_
 refine qaX (vs:=[.agg #[qD2 x55,qD2 x56]]) (ys:=([(x55,x56)]:List (Int×Int))) qdV (by decide) rfl underlying58 tf63 rfl rfl rfl rfl rfl (by decide) (fun a58 c59=>zo 1 qdV rfl underlying58 tf63 rfl rfl rfl rfl rfl (.inl ⟨0,_,rfl⟩) rfl rfl (fun x60 e60 a61 c62=>?_))
 refine au [25,5,121] ?_
 exact vk (rc:=rc1) rfl (.cons 2 rfl .nil) rfl (a61,c62) (.cons 2 rfl (.cons 0 rfl (.cons 1 rfl .nil))) (.cons 0 rfl .nil)
 rintro x46 _ ⟨a44,c45⟩ D1
 refine au [39,65,45,26,1,49] ?_
 exact ja [D1] (a44,c45) (.inl rfl) rfl (.cons 0 rfl .nil) (res1 rfl rfl) (fun h=>by subst h;rfl) (fun h=>by subst h;exact (.cons 0 rfl .nil)) (fun h=>by subst h;exact (.cons 0 rfl .nil))
 intro t;exact t.elim
theorem yS (hm:zQ F w1=some w2) :
    PureM qD9 113 [.func (.func 161) #[] #[qD4 t1]] [⟨t1,58,[qD3 l1 w1 t2]⟩] [] [Sl eS63 2 (qD3 l1 w1 t2) w1] (qD1×Nat) (fun g=>qD3 g.1 w2 g.2) (fun _=>[⟨t1,58,[qD3 l1 w1 t2]⟩]) (fun g=>[Ro eS63 63 2 (qD3 g.1 w2 g.2) w2]):=by
 refine pureMA func113 ntmps113 hm fun _=>?_
 refine au [64,60,33,12] ?_
 refine qs kU ?_
 rintro x5 e5 ⟨a6,c7⟩
 refine au [49] ?_
 exact qH (a6,c7)
theorem jN (hm:kT F w1=some w2) :
    PureM qD9 160 [qD3 l1 w1 t1,.func (.func 118) #[] #[]] [] [Ro eS63 63 2 (qD3 l1 w1 t1) w1] [] Unit (fun _=>.tuple #[]) (fun _=>[]) (fun _=>[Ro eS63 63 2 (qD3 l1 w2 t1) w2]) :=
  qpT (cb:=[]) (BC:=[]) (Φ:=[]) qdV (by decide) (qrb _) (fun p cap w=>Tryz.sortn160 p cap _ w) (fun a b z h=>(toM1 (ql4 (inst:=dm1) F a.1 a.2 b.1 b.2 z h))) hm
theorem kI (hm:qJ F w1=some w2) :
    PureM qD9 116 [.func (.func 161) #[] #[qD4 t1],.func (.func 118) #[] #[]] [⟨t1,58,[qD3 l1 w1 t2]⟩] [] [Sl eS63 2 (qD3 l1 w1 t2) w1] (qD1×Nat) (fun g=>qD3 g.1 w2 g.2) (fun _=>[⟨t1,58,[qD3 l1 w1 t2]⟩]) (fun g=>[Ro eS63 63 2 (qD3 g.1 w2 g.2) w2]):=by
 refine pureMA func116 ntmps116 hm fun _=>?_
 refine au [55,60] ?_
 refine qs yS ?_
 rintro x5 e5 ⟨a6,c7⟩
 refine au [60,3] ?_
 refine qs jN ?_
 intro x8 e8 _
 refine au [26,12] ?_
 intro h9
 replace h9:=of_decide_eq_true h9
 refine qp (d:=5) (v:=qD3 a6 x8 c7) rfl (by simp only[qD3,h9] <;> rfl) (qp (d:=7) (v:=qD3 a6 x8 c7) rfl (by simp only[qD3,h9] <;> rfl) (qp (d:=8) (v:=qD3 a6 x8 c7) rfl (by simp only[qD3,h9] <;> rfl) ?_))
 refine au [117,49] ?_
 exact qH (a6,c7)
theorem qqp {r:(List (qD0)×Int)}(hm:qkT F i1 w1=some r) :
    Pure qD9 83 [qD2 i1,qD3 l1 w1 t1] [Sl eS63 2 (qD3 l1 w1 t1) w1] (qD1×Nat×List (qD1×Nat)) (fun g=>.tuple #[.agg #[qD3 g.1 r.1 g.2.1],qD2 r.2]) (fun g=>[RoN eN56 rN56 56 1 (qD3 g.1 r.1 g.2.1) r.1 g.2.2 []]) (fun _=>[]):=by
 refine pureA func83 ntmps83 hm fun _=>?_
 refine au [55,24,2] ?_
 intro g5
 refine au [82,14,48,127] ?_
 refine zp 3 14 17 [0,1,4] (decide (100<i1)) ?_ ?_ ?_
 exact az [63,62]
 exact az [3,105]
 refine aw [5,0,2,11] ?_ ?_
 refine au [45] ?_
 refine qF [.slice none 0 0] ?_
 exact az [17,49,52,27,2,30,5]
 refine aw [1,4,3,24,7,25,1,5,0,2,11] ?_ ?_
 refine au [45] ?_
 refine qF [.slice none 0 0] ?_
 exact az [17,49,52,27,2,30,5]
 refine au [12,65,45] ?_
 refine qp6 (k0:=.i64) (k1:=.i64) rfl rfl (fun g10=>?_)
 refine au [47] ?_
 refine qg [0,1,4] [1] [] [0] (fun ((_,_):Unit×Unit)=>([],[],[],[],qhX F i1 w1)) ?_ ?_
 refine au [48,86] ?_
 refine qm [0,1,4,6,25,26] [1] [] [0] (fun (((x0,x3),_):(Int×List (Int×Int))×Unit)=>([(27,qD2 x0)],[(blkO g10 (mapO .i64 .i64 x3))],[],[])) ((0:Int),([]:List (Int×Int))) () ?_
 intro k2
 rintro ⟨⟨x0,x3⟩,_⟩
 refine aw [39,1,4,24,4,0,2,1,11] ?_ ?_
 refine au [85,45,31,14] ?_
 intro x4 e0 b0 o0
 refine au [29,11,24,2] ?_
 intro g0
 refine au [17,46,1,45,67,127] ?_
 refine zp 5 34 39 [0,1,4,6,25,26,27,8] (decide (i1≤x4.1)) ?_ ?_ ?_
 exact az [68,62]
 exact az [67,3,26,6,61]
 refine au [3] ?_
 refine zp 4 40 44 [0,1,4,6,25,26,27,8] (decide (x4.2<0)) ?_ ?_ ?_
 exact az [63,7,62]
 exact az [67,24,4,61]
 refine au [3] ?_
 refine zp 5 45 50 [0,1,4,6,25,26,27,8] (decide (i1≤x4.2)) ?_ ?_ ?_
 exact az [68,62]
 exact az [67,3,26,6,61]
 refine aw [0,2,11] ?_ ?_
 refine au [45] ?_
 refine qF [.slice none 0 0] ?_
 exact az [25,5,59,111,52,27,2,33,14]
 refine au [84,48,24,12] ?_
 refine qp5 (i:=2) (p:=(x4.1,x4.2)) rfl underlying155 se63 tf156 rfl rfl rfl rfl ?_
 refine au [3,81,24,2] ?_
 intro g1
 refine aw [17,5,0,2,1,4,3,0,2,11] ?_ ?_
 refine au [45] ?_
 refine qF [.slice none 0 0] ?_
 refine au [27,13,59,111,52,27,2] ?_
 exact zW (none,0,([]:List (qD1×Nat))) 2
 refine au [57,4,3,25,11,33,15] ?_
 refine qrs (i:=3) (p:=(x4.1,x4.2)) rfl underlying155 se63 rfl rfl rfl rfl (fun x5 e1=>?_)
 refine au [0,98] ?_
 exact qj ((iadd .i64 x0 1,x5),())
 exact az [122]
 rintro ⟨_,_⟩
 refine au [92,3,34,0] ?_
 intro x6 e2 g2
 refine au [34,1] ?_
 rintro x7 e3 ⟨a0,c0⟩
 refine au [34,2] ?_
 rintro x8 e4 ⟨a1,c1⟩
 refine au [25,5,49] ?_
 exact zW (a1,c1) 1
theorem qju (F g1:Nat)(x2:List (qD0))(a3:qD1)(c4:(Nat×List (qD1×Nat)))(x5 x6 x7:Int)(x8:qD0)(a9:qD1)(c10:Nat)(x11:qD0)(r:(Int×List (qD0)))(hm:qgc F x2 x5 x6 x7 x8 x11=some r) :
    PureM qD9 59 [qD4 g1] [⟨g1,85,[qD3 a3 x2 c4.1,qD2 x5,qD2 x6,qD2 x7,qD3 a9 x8 c10,.string (bstr x11)]⟩] [RoN eN56 rN56 56 1 (qD3 a3 x2 c4.1) x2 c4.2 []] [qD5 a9 x8 c10] (qD1×Nat×List (qD1×Nat)) (fun _=>qD2 r.1) (fun g=>[⟨g1,85,[qD3 g.1 r.2 g.2.1,qD2 x5,qD2 x6,qD2 x7,qD3 a9 x8 c10,.string (bstr x11)]⟩]) (fun g=>[RoN eN56 rN56 56 1 (qD3 g.1 r.2 g.2.1) r.2 g.2.2 []]):=by
 refine pureMA func59 ntmps59 hm fun _=>?_
 refine au [64,60,51,103] ?_
 refine qd qnj ?_
 rintro x12 e12 ⟨a13,c14⟩
 refine au [3,81,5,82,31,0] ?_
 intro x31 e31 b32 o33 h34
 replace h34:a9=some ⟨b32,o33,none⟩:=h34
 refine au [28,9] ?_
 intro x35 e35 b36 o37 h38
 replace h38:a9=some ⟨b36,o37,none⟩:=h38
 refine kg mixed [31] _ _ .nil (qh 0 rfl (qh 1 rfl (qh 2 rfl (qgl 0 rfl qf)))) 33 rfl ?_
 refine au [96,18,3,18,4,18,5] ?_
 refine qz 6 (qD3 a3 x2 c4.1) [[31]] rfl rfl rfl (kM (j:=3) rfl tf22 rfl rfl (fun _=>rfl) rfl) ?_
 refine au [28,8,7,6,8,123,18,11] ?_
 refine qz 12 (qD3 a9 x8 c10) [[31]] rfl rfl rfl (kM (j:=3) rfl tf56 rfl rfl (fun _=>rfl) rfl) (vW 13 h34 e31 ?_)
 refine qz 14 (qD2 x31) [[31]] rfl rfl rfl (qV (j:=1) rfl tf3 rfl rfl (fun _=>rfl) rfl) ?_
 refine au [6,15,6,16,18,17] ?_
 refine qz 18 (qD3 a9 x8 c10) [[31]] rfl rfl rfl (kM (j:=3) rfl tf56 rfl rfl (fun _=>rfl) rfl) (vW 19 h38 e35 ?_)
 refine qz 20 (qD2 x35) [[31]] rfl rfl rfl (qV (j:=0) rfl tf3 rfl rfl (fun _=>rfl) rfl) (qb 21 (.agg #[qD2 x31,qD2 x35]) rfl rfl rfl (qdl (cells:=[qD2 x31,qD2 x35]) st63 rfl (by kernel_rfl)) ?_)
 refine au [9,22] ?_
 refine qaX (vs:=[.agg #[qD2 x31,qD2 x35]]) (ys:=([(x31,x35)]:List (Int×Int))) qdV (by decide) rfl underlying58 tf63 rfl rfl rfl rfl rfl (by decide) (fun a39 c40=>?_)
 refine au [0,31,15,9,23] ?_
 refine zo 1 qdV rfl underlying58 tf63 rfl rfl rfl rfl rfl (.inl ⟨0,_,rfl⟩) rfl rfl (fun x41 e41 a42 c43=>?_)
 refine au [0,31,15,9,24] ?_
 refine qd qqp ?_
 rintro x44 e44 ⟨a45,c46⟩
 refine au [0,31,15,6,25,6,26,6,27,6,28,18,29,18,30,9,31,80] ?_
 refine kQ 31 rfl (by kernel_rfl) .nil ?_
 refine au [6,32,54,2,48,49] ?_
 exact qH (a45,c46)
theorem qg6 (F:Nat)(x1:Int)(g2 g3:Nat)(x4:List (qD0))(a5:qD1)(c6:(Nat×List (qD1×Nat)))(x7 x8 x9:Int)(x10:qD0)(a11:qD1)(c12:Nat)(x13:qD0)(r:Bool)(hm:qbz F x1 x4 x7 x8 x9 x10 x13=some r) :
    PureM qD9 120 [qD2 x1,qD4 g2] [⟨g2,83,[qD4 g3]⟩,⟨g3,85,[qD3 a5 x4 c6.1,qD2 x7,qD2 x8,qD2 x9,qD3 a11 x10 c12,.string (bstr x13)]⟩] [] [SlN eN56 iN56 1 (qD3 a5 x4 c6.1) x4 c6.2,qD5 a11 x10 c12] Unit (fun _=>.bool r) (fun _=>[⟨g2,83,[qD4 g3]⟩,⟨g3,85,[qD3 a5 x4 c6.1,qD2 x7,qD2 x8,qD2 x9,qD3 a11 x10 c12,.string (bstr x13)]⟩]) (fun _=>[]):=by
 refine pureMA func120 ntmps120 hm fun _=>?_
 exact az [55,60,20,51,10,94,24,7,26,6,90]
theorem jM (hm:zD F m1 p1 i1 i2 i3 m2 m3=some i4) :
    PureM qD9 129 [qD3 l1 m1 t1,.func (.func 120) #[] #[qD4 t2]] [⟨t2,83,[qD4 t3]⟩,⟨t3,85,[qD3 l2 p1 t4,qD2 i1,qD2 i2,qD2 i3,qD3 l3 m2 t5,.string (bstr m3)]⟩] [] [qD5 l1 m1 t1,SlN eN56 iN56 1 (qD3 l2 p1 t4) p1 n1,qD5 l3 m2 t5] Unit (fun _=>qD2 i4) (fun _=>[⟨t2,83,[qD4 t3]⟩,⟨t3,85,[qD3 l2 p1 t4,qD2 i1,qD2 i2,qD2 i3,qD3 l3 m2 t5,.string (bstr m3)]⟩]) (fun _=>[]):=by
 refine pureMA func129 ntmps129 hm fun _=>?_
 refine au [55,47] ?_
 refine qg [] [0,1] [] [1,2] (fun ((_,_):Unit×Unit)=>([],[],[],[],kJ F)) ?_ ?_
 refine au [48,86] ?_
 refine qm [0,1,7] [0,0] [] [0,1,2] (fun ((x66,_):Int×Unit)=>([(8,qD2 x66)],[],[],[])) (0:Int) () ?_
 intro k79
 rintro ⟨x66,_⟩
 refine aw [39,1,4,24,4,0,2,1,11] ?_ ?_
 refine au [85,48,60,91,26,4] ?_
 intro x86 e86 b87 o88
 refine au [25,3] ?_
 refine qfn EnC.e rfl rfl rfl rfl (fun x89 e89=>qg6 F x86 t2 t3 p1 l2 (t4,n1) i1 i2 i3 m2 l3 t5 m3 x89 e89) (.cons 0 rfl (.cons 0 rfl .nil)) .nil (.consF 2 rfl (.consF 3 rfl .nil)) (fun x89 e89 _=>?_)
 refine aw [0,2,11] ?_ ?_
 exact az [48,49,111,52,25,15]
 refine au [12,98] ?_
 exact qj (iadd .i64 x66 1,())
 exact az [122]
 rintro ⟨_,_⟩
 exact az [39,45,90]
theorem vV (hm:zr F m1 p1 i1 i2 i3 m2 m3=some d1) :
    PureM qD9 119 [qD3 l1 m1 t1,.func (.func 120) #[] #[qD4 t2]] [⟨t2,83,[qD4 t3]⟩,⟨t3,85,[qD3 l2 p1 t4,qD2 i1,qD2 i2,qD2 i3,qD3 l3 m2 t5,.string (bstr m3)]⟩] [] [qD5 l1 m1 t1,SlN eN56 iN56 1 (qD3 l2 p1 t4) p1 n1,qD5 l3 m2 t5] Unit (fun _=>.bool d1) (fun _=>[⟨t2,83,[qD4 t3]⟩,⟨t3,85,[qD3 l2 p1 t4,qD2 i1,qD2 i2,qD2 i3,qD3 l3 m2 t5,.string (bstr m3)]⟩]) (fun _=>[]):=by
 refine pureMA func119 ntmps119 hm fun _=>?_
 refine au [55,60,3] ?_
 refine qs jM ?_
 intro x16 e16 _
 exact az [26,6,90]
theorem qh5 (hm:kV F p1 i1 i2 i3 m1 m2 m3=some d1) :
    PureM qD9 84 [qD4 t1,qD3 l3 m3 t4] [⟨t1,85,[qD3 l1 p1 t2,qD2 i1,qD2 i2,qD2 i3,qD3 l2 m1 t3,.string (bstr m2)]⟩] [] [SlN eN56 iN56 1 (qD3 l1 p1 t2) p1 n1,qD5 l2 m1 t3,qD5 l3 m3 t4] Unit (fun _=>.bool d1) (fun _=>[⟨t1,85,[qD3 l1 p1 t2,qD2 i1,qD2 i2,qD2 i3,qD3 l2 m1 t3,.string (bstr m2)]⟩]) (fun _=>[]):=by
 refine pureMA func84 ntmps84 hm fun _=>?_
 refine au [79] ?_
 intro g15
 refine au [60,27,9] ?_
 refine qs vV ?_
 intro x16 e16 _
 exact az [25,7,90]
theorem qga {x4 x5:Int}(hm:j2 F m1 x4 x5=some m2) :
    PureM qD9 86 [qD3 l1 m1 t1,qD2 x4,qD2 x5] [] [qD6 l1 m1 t1] [] (qD1×Nat) (fun g=>qD3 g.1 m2 g.2) (fun _=>[]) (fun g=>[qD6 g.1 m2 g.2]):=by
  unfold j2 at hm
  split at hm
  · cases hm
    exact qnH Tryz.slices_Delete_int_arr (by assumption)
  · simp at hm
theorem qiE (F g1:Nat)(x2:List (qD0))(a3:qD1)(c4:(Nat×List (qD1×Nat)))(x5 x6 x7:Int)(x8:qD0)(a9:qD1)(c10:Nat)(x11:qD0)(r:(Int×List (qD0)))(hm:qft F x2 x5 x6 x7 x8 x11=some r) :
    PureM qD9 60 [qD4 g1] [⟨g1,85,[qD3 a3 x2 c4.1,qD2 x5,qD2 x6,qD2 x7,qD3 a9 x8 c10,.string (bstr x11)]⟩] [RoN eN56 rN56 56 1 (qD3 a3 x2 c4.1) x2 c4.2 []] [qD5 a9 x8 c10] (qD1×Nat×List (qD1×Nat)) (fun _=>qD2 r.1) (fun g=>[⟨g1,85,[qD3 g.1 r.2 g.2.1,qD2 x5,qD2 x6,qD2 x7,qD3 a9 x8 c10,.string (bstr x11)]⟩]) (fun g=>[RoN eN56 rN56 56 1 (qD3 g.1 r.2 g.2.1) r.2 g.2.2 []]):=by
 refine pureMA func60 ntmps60 hm fun _=>?_
 refine au [64,82,48,3,119,31,1] ?_
 intro x14 e14 _
 refine aw [25,7,0,2,11] ?_ ?_
 refine au [45,59] ?_
 exact qH (a3,c4)
 refine au [84,31,0] ?_
 intro x25 e25 b26 o27 h28
 replace h28:a9=some ⟨b26,o27,none⟩:=h28
 refine au [30,3] ?_
 intro x29 e29 g30 h31 g32 h33
 replace h33:a3=some ⟨g32,0,none⟩:=h33
 have h34:=zF (k:=x2.length) (c:=c4.1) h33
 refine qeS (i:=0) rfl h31 (qBB) (kg mixed [] _ _ (.cons 0 rfl .nil) (qh 0 rfl (qh 1 rfl (qB 1 rfl (qG qn h31 h33) qf))) 15 rfl ?_)
 refine au [70,18,2,18,3,18,4,24,15,5,58,18,8,24,15,9] ?_
 refine vW 10 h28 e25 ?_
 refine qz 11 (qD2 x25) [] rfl rfl rfl (qV (j:=0) rfl tf3 rfl rfl (fun _=>rfl) rfl) (jA 12 h33 e29 ?_)
 refine qz 13 (qD3 g30.1 x29 g30.2) [] rfl rfl rfl (qV (j:=2) rfl tf56 rfl rfl (fun _=>rfl) rfl) ?_
 refine au [6,14,54,2,48,3,119,29,9] ?_
 intro x35 e35 b36 o37
 refine au [25,3,31,11] ?_
 intro x38 e38 _
 refine aw [5,0,2,1,1,4,3,24,4,0,2,11] ?_ ?_
 refine au [1] ?_
 refine qiv (rin:=rN56) (p:=(x29,g30)) (i:=0) (k:=0) (.cons 0 rfl .nil) rfl rfl h31 ?_
 refine au [4,59] ?_
 exact qH (a3,c4)
 refine au [84] ?_
 refine qt5 e25 ?_
 refine au [30,6] ?_
 intro x57 e57 b58 o59 h60
 obtain rfl:x25=x57:=Option.some.inj (e25.symm.trans e57)
 replace h60:a9=some ⟨b58,o59,none⟩:=h60
 refine au [29,10] ?_
 intro x61 e61 g62 h63 g64 h65
 replace h65:a3=some ⟨g64,0,none⟩:=h65
 have h66:=zF (k:=x2.length) (c:=c4.1) h65
 refine qE [] [0] [0,1,2,3] 19 ?_
 refine au [70,18,2,18,3,18,4,24,15,5,58,18,8,24,15,9] ?_
 refine vW 10 h60 e25 ?_
 refine qz 11 (qD2 x25) [] rfl rfl rfl (qV (j:=0) rfl tf3 rfl rfl (fun _=>rfl) rfl) ?_
 refine au [6,12,124,6,15,9,16] ?_
 refine qs qga ?_
 rintro x67 e67 ⟨a68,c69⟩
 refine au [0,34,3] ?_
 refine jA 17 h65 e61 ?_
 refine au [9,18] ?_
 refine jL (j:=1) (kh:=0) (y':=x67) (q':=(a68,c69)) qn rfl rfl rfl tf56 rfl (zF h65) rfl (qw e61).2.1 rfl (.cons 0 rfl .nil) (fun x70 e70 h71 g73=>?_)
 have h72:x70.length=x2.length:=by rw[← e70,qBA]
 refine q9 17 h71 ?_
 refine q9 41 h71 ?_
 refine qS (i:=0) (cs':=[qD3 a3 x70 c4.1,qD2 x5,qD2 x6,qD2 x7,qD3 a9 x8 c10,.string (bstr x11)]) rfl (by simp only[qD3,h71] <;> rfl) ?_
 refine au [0] ?_
 refine qc (.cons 0 (by simp only[qD3,h72] <;> rfl) .nil) (qh 0 rfl (qh 1 rfl (qh 2 rfl (qh 3 rfl qf)))) ?_
 refine au [54,2,45,49] ?_
 exact qH (a3,c4.1,g73)
theorem qjw (F g1:Nat)(x2:List (qD0))(a3:qD1)(c4:(Nat×List (qD1×Nat)))(x5 x6 x7:Int)(x8:qD0)(a9:qD1)(c10:Nat)(x11:qD0)(r:(Int×Int×Int×Int))(hm:qge F x2 x5 x6 x7 x8 x11=some r) :
    PureM qD9 61 [qD4 g1] [⟨g1,85,[qD3 a3 x2 c4.1,qD2 x5,qD2 x6,qD2 x7,qD3 a9 x8 c10,.string (bstr x11)]⟩] [] [SlN eN56 iN56 1 (qD3 a3 x2 c4.1) x2 c4.2,qD5 a9 x8 c10] Unit (fun _=>qD2 r.1) (fun _=>[⟨g1,85,[qD3 a3 x2 c4.1,qD2 r.2.1,qD2 r.2.2.1,qD2 r.2.2.2,qD3 a9 x8 c10,.string (bstr x11)]⟩]) (fun _=>[]):=by
 refine pureMA func61 ntmps61 hm fun _=>?_
 refine au [64,82,28,9] ?_
 intro x24 e24 b25 o26 h27
 replace h27:a9=some ⟨b25,o26,none⟩:=h27
 refine au [30,6] ?_
 intro x28 e28 b29 o30 h31
 replace h31:a9=some ⟨b29,o30,none⟩:=h31
 refine qgu (j:=3) (qA .i64) (by decide) rfl ?_
 intro x32 e32 b33 o34 h35
 replace h35:a9=some ⟨b33,o34,none⟩:=h35
 refine kg mixed [23] _ _ .nil (qh 0 rfl (qh 1 rfl (qh 2 rfl (qh 3 rfl (qh 4 rfl (qgl 0 rfl qf)))))) 24 rfl ?_
 refine au [96,18,3] ?_
 refine qz 4 (qD3 a9 x8 c10) [[23]] rfl rfl rfl (kM (j:=5) rfl tf56 rfl rfl (fun _=>rfl) rfl) (vW 5 h27 e24 ?_)
 refine qz 6 (qD2 x24) [[23]] rfl rfl rfl (qV (j:=2) rfl tf3 rfl rfl (fun _=>rfl) rfl) ?_
 refine au [6,7,6,8,18,9] ?_
 refine qz 10 (qD3 a9 x8 c10) [[23]] rfl rfl rfl (kM (j:=5) rfl tf56 rfl rfl (fun _=>rfl) rfl) (vW 11 h31 e28 ?_)
 refine qz 12 (qD2 x28) [[23]] rfl rfl rfl (qV (j:=1) rfl tf3 rfl rfl (fun _=>rfl) rfl) ?_
 refine au [124,18,15] ?_
 refine qz 16 (qD3 a9 x8 c10) [[23]] rfl rfl rfl (kM (j:=5) rfl tf56 rfl rfl (fun _=>rfl) rfl) (vW 17 h35 e32 ?_)
 refine qz 18 (qD2 x32) [[23]] rfl rfl rfl (qV (j:=0) rfl tf3 rfl rfl (fun _=>rfl) rfl) (qb 19 (.agg #[qD2 x24,qD2 x28,qD2 x32]) rfl rfl rfl (qdl (cells:=[qD2 x24,qD2 x28,qD2 x32]) st26 rfl (by kernel_rfl)) ?_)
 refine au [6,20,18,21,18,22,9,23,80] ?_
 refine kQ 23 rfl (by kernel_rfl) .nil ?_
 refine au [54,2,48,51,103,30,1] ?_
 intro x36 e36 _
 exact az [90]
theorem qfG (hm:yQ F m1=some m2) :
    Pure qD9 260 [qD3 l1 m1 t1] [qD7 l1 m1 t1] (qD1×Nat) (fun g=>qD3 g.1 m2 g.2) (fun g=>[qD8 g.1 m2 g.2]) (fun _=>[]):=by
 refine pureA func260 ntmps260 hm fun _=>?_
 refine av [64,82,48,33,3,46,33,4] ?_ ?_
 intro h11
 refine qp0 0 (qA .u8) (by decide) rfl h11 (fun h12=>?_)
 subst h12
 refine qaJ (m':=some ([]:qD0)) rfl ?_
 refine au [45,59,26,2] ?_
 exact qx (none,0)
 intro _
 refine au [125] ?_
 refine zw (k:=.u8) [] ?_
 intro a6 c7
 refine au [3] ?_
 refine zo 0 (qA .u8) rfl UnF.u inferInstance rfl rfl rfl rfl rfl (.inr ⟨0,rfl⟩) rfl rfl ?_
 intro x8 e8 a9 c10
 refine au [49] ?_
 exact qx (a9,c10)
theorem qqi {r:(Int×qD0)}(hm:qeX F i1 m1=some r) :
    PureM qD9 231 [.agg #[qD2 i1,qD3 l1 m1 t1]] [] [] [qD7 l1 m1 t1] ((qD1×Nat)×Nat) (fun g=>qD4 g.2) (fun g=>[⟨g.2,299,[qD2 r.1,qD3 g.1.1 r.2 g.1.2]⟩]) (fun g=>[qD8 g.1.1 r.2 g.1.2]):=by
 refine pureMA func231 ntmps231 hm fun _=>?_
 refine au [87] ?_
 intro g5
 refine au [82] ?_
 refine qE [] [0] [0] 9 ?_
 refine au [114,18,2,24,15,3,9,4] ?_
 refine qd qfG ?_
 rintro x10 e10 ⟨a11,c12⟩
 refine au [73] ?_
 refine qb 5 (.agg #[qD2 i1,qD3 a11 x10 c12]) rfl rfl rfl (qdl (cells:=[qD2 i1,qD3 a11 x10 c12]) st65 rfl (by kernel_rfl)) (qb 6 (.agg #[qD2 i1,qD3 a11 x10 c12]) rfl rfl rfl (qdl (cells:=[qD2 i1,qD3 a11 x10 c12]) st299 rfl (by kernel_rfl)) ?_)
 refine au [9,7,24,0] ?_
 intro g13
 refine au [89,6,8,54,2,8] ?_
 exact qH ((a11,c12),g13)
theorem qlX {r:Unit}(hm:qfK F i1 m1 i2 i3=some r) :
    PureM qD9 232 [.agg #[qD2 i1,qD3 l1 m1 t1],qD2 i2,qD2 i3] [] [] [qD7 l1 m1 t1] (Nat×Nat×Nat) (fun g=>.func (.func 261) #[] #[qD4 g.1,qD4 g.2.1,qD4 g.2.2]) (fun g=>[⟨g.1,3,[qD2 i2]⟩,⟨g.2.1,3,[qD2 i3]⟩,⟨g.2.2,65,[qD2 i1,qD3 l1 m1 t1]⟩]) (fun _=>[]):=by
 refine pureMA func232 ntmps232 hm fun _=>?_
 refine au [126] ?_
 intro g7
 refine au [24,0] ?_
 intro g8
 refine au [24,0] ?_
 intro g9
 refine au [83,27,9,49] ?_
 exact qH (g8,g9,g7)
theorem qiB {r:(Int×qD0)}(hm:jg F i1 m1 i2=some r) :
    PureM qD9 233 [qD4 t1,.int .u64 i2] [⟨t1,299,[qD2 i1,qD3 l1 m1 t2]⟩] [qD8 l1 m1 t2] [] (qD1×Nat) (fun _=>.tuple #[]) (fun g=>[⟨t1,299,[qD2 r.1,qD3 g.1 r.2 g.2]⟩]) (fun g=>[qD8 g.1 r.2 g.2]):=by
 refine pureMA func233 ntmps233 hm fun _=>?_
 refine au [24,10] ?_
 refine qg [0,1] [] [] [] (fun ((x15,a13,c14):qD0×qD1×Nat)=>([],[⟨t1,299,[qD2 i1,qD3 a13 x15 c14]⟩],[qD8 a13 x15 c14],[],yT F i1 i2 x15)) ?_ ?_
 refine aw [1,4,3,24,11,10,10,20,32,0,25,6,0,2,11] ?_ ?_
 refine au [4,91,51,67] ?_
 refine zw [0] ?_
 intro a44 c45
 refine zo 1 (qA .u8) rfl underlying41 tf5 rfl rfl rfl rfl rfl (.inl ⟨0,_,rfl⟩) rfl rfl (fun x46 e46 a47 c48=>?_)
 refine au [51,10,80] ?_
 exact qa (x46,a47,c48)
 refine au [12] ?_
 exact qa (m1,l1,t2)
 rintro ⟨x15,a13,c14⟩
 refine au [39,1,30,7] ?_
 intro x30 e30 g31 h32
 replace h32:a13=some ⟨g31,0,none⟩:=h32
 have h33:=zF (k:=x15.length) (c:=c14) h32
 refine au [28,11] ?_
 intro h34
 refine au [30,7] ?_
 intro x36 e36 g37 h38
 replace h38:a13=some ⟨g37,0,none⟩:=h38
 have h39:=zF (k:=x15.length) (c:=c14) h38
 refine kg mixed [25] _ _ (.cons 0 rfl .nil) (qB 0 rfl (ql (qA .u8) e30 h32) (qB 0 rfl (ql (qA .u8) e36 h38) qf)) 26 rfl ?_
 refine au [70,18,2,18,3,24,15,4,6,5,6,6,18,7,18,8,24,15,9] ?_
 refine qb 10 (qD2 (iquo .i64 i1 8)) rfl rfl rfl (qAF rfl rfl rfl) (jA 11 h32 e30 ?_)
 refine qz 12 (.int .u8 x30) [[25]] rfl rfl rfl (qV (j:=0) rfl tf5 rfl rfl (fun _=>rfl) rfl) ?_
 refine au [6,13] ?_
 refine qb 14 (.int .u64 (ishl .u64 i2 7)) rfl rfl rfl (qiA rfl rfl rfl) ?_
 refine au [34,4,15,6,16,6,17,18,18,18,19,24,15,20] ?_
 refine qb 21 (qD2 (irem i1 8)) rfl rfl rfl (qoE rfl rfl rfl) (qb 22 (.int .u8 (ishr .u8 (iconv .u8 (ishl .u64 i2 7)) (irem i1 8))) rfl rfl rfl (qAG rfl rfl h34) ?_)
 refine au [6,23] ?_
 refine jA 24 h38 e36 ?_
 refine au [9,25] ?_
 refine zZ (j:=0) (y':=ior .u8 x30 (ishr .u8 (iconv .u8 (ishl .u64 i2 7)) (irem i1 8))) (qA .u8) rfl rfl rfl tf5 rfl (zF h38) (qw e36).2.1 rfl (fun x41 e41 h42=>?_)
 have h43:x41.length=x15.length:=by rw[← e41,qBA]
 refine qp (d:=26) (v:=qD3 a13 x41 c14) rfl h42 (qS (i:=0) (cs':=[qD2 i1,qD3 a13 x41 c14]) rfl (by simp only[qD3,h42] <;> rfl) ?_)
 refine au [0] ?_
 refine kQ 25 rfl (by kernel_rfl) (.cons 0 (by simp only[qD3,h43] <;> rfl) .nil) ?_
 refine au [54,2,4,3,51,67,23,51,10,80] ?_
 exact qH (a13,c14)
end Go.Proofs.YthibchijlpflmaaGreatDoor
