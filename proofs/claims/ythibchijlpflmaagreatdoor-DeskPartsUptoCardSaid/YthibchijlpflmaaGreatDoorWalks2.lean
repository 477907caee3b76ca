/- Each Go function of this seat computes what its model says, part 2. -/
import Derived.Test.YthibchijlpflmaaGreatDoorWalks
open List renaming replicate→qCo, length_set→qCJ, not_mem_nil→qCN
namespace Go.Proofs.YthibchijlpflmaaGreatDoor
open Go SX
open Go.Proofs.Tryz
open Go.Proofs.Tryz renaming prog→qFv
set_option maxHeartbeats 4000000
set_option linter.unusedSimpArgs false
variable {F t1 t2 t3 t4 t5:Nat}{p1 p2:List (qFm)}{l1 l2 l3:qFn}{n1:List (qFn×Nat)}{m1 m2 m3:qFm}{i1 i2 i3 i4:Int}{w1 w2 w3:List (Int×Int)}{d1:Bool}
theorem qlk (hm:qag F p1=some m1) :
    Pure qFv 95 [.agg #[qFp l1 p1 t1]] [SlN eN56 iN56 1 (qFp l1 p1 t1) p1 n1] (qFn×Nat) (fun g=>qFp g.1 m1 g.2) (fun g=>[qFs g.1 m1 g.2]) (fun _=>[]):=by
 refine pureA func95 ntmps95 hm fun _=>?_
 refine au [64,23] ?_
 intro g4
 refine au [80,78,24,6,47] ?_
 refine qi [3] [] [] [0] (fun (((x0,x2,x3),g0,a0,c0,a1,c1,a3,c2):(qFm×qFm×qFm)×Nat×qFn×Nat×qFn×Nat×qFn×Nat)=>([(4,qFq g0)],[⟨g0,183,[qFp l1 p1 t1,qFp a0 x0 c0,qFp a1 x2 c1,.slice none 0 0,qFp a3 x3 c2,qFo 0]⟩],[qFs a0 x0 c0,qFs a1 x2 c1,qFs a3 x3 c2],[],qdE F p1 x0 x2 x3)) ?_ ?_
 refine qI [] [0] [0] 12 ?_
 refine au [109,6,2,6,4,6,7] ?_
 refine qnz 3 5 6 rfl rfl rfl (by kernel_rfl) rfl rfl rfl ?_ ?_ ?_
 refine au [26,1] ?_
 intro x4 e0 a4 c4
 refine au [72] ?_
 refine yZ 5 6 rfl rfl (by kernel_rfl) rfl rfl ?_ ?_
 refine au [26,1] ?_
 intro x5 e1 a5 c5
 refine au [72,12,6,29,0] ?_
 intro a6 c6
 refine au [72,12,8,27,4] ?_
 rintro x6 e2 ⟨a7,c7⟩
 refine au [72,12,9] ?_
 refine qH [qFp l1 p1 t1,qFp a4 x4 c4,qFp a5 x5 c5,.slice none 0 0,qFp a7 x6 c7,qFo 0] ?_
 refine au [118,23] ?_
 intro g1
 refine au [0,26,13,65] ?_
 exact qa ((x4,x5,x6),g1,a4,c4,a5,c5,a7,c7)
 refine au [29,0] ?_
 intro a8 c8
 refine au [72] ?_
 refine yZ 5 8 rfl rfl (by kernel_rfl) rfl rfl ?_ ?_
 refine au [26,1] ?_
 intro x7 e3 a9 c9
 refine au [72,12,8,27,4] ?_
 rintro x8 e4 ⟨a10,c10⟩
 refine au [72,12,9] ?_
 refine qH [qFp l1 p1 t1,qFp a4 x4 c4,qFp a9 x7 c9,.slice none 0 0,qFp a10 x8 c10,qFo 0] ?_
 refine au [118,23] ?_
 intro g2
 refine au [0,26,13,65] ?_
 exact qa ((x4,x7,x8),g2,a4,c4,a9,c9,a10,c10)
 refine qeE pull1 ?_
 refine au [27,4] ?_
 rintro x9 e5 ⟨a11,c11⟩
 refine au [72,12,5,26,1] ?_
 intro x10 e6 a12 c12
 refine au [72,12,9] ?_
 refine qH [qFp l1 p1 t1,qFp a4 x4 c4,qFp a12 x10 c12,.slice none 0 0,qFp a11 x9 c11,qFo 0] ?_
 refine au [118,23] ?_
 intro g3
 refine au [0,26,13,65] ?_
 exact qa ((x4,x10,x9),g3,a4,c4,a12,c12,a11,c11)
 refine qeE pull1 ?_
 refine au [26,1] ?_
 intro x11 e7 a13 c13
 refine au [72] ?_
 refine yZ 3 6 rfl rfl (by kernel_rfl) rfl rfl ?_ ?_
 refine au [26,1] ?_
 intro x12 e8 a14 c14
 refine au [72,12,6,29,0] ?_
 intro a15 c15
 refine au [72,12,8,27,4] ?_
 rintro x13 e9 ⟨a16,c16⟩
 refine au [72,12,9] ?_
 refine qH [qFp l1 p1 t1,qFp a14 x12 c14,qFp a13 x11 c13,.slice none 0 0,qFp a16 x13 c16,qFo 0] ?_
 refine au [118,23] ?_
 intro g5
 refine au [0,26,13,65] ?_
 exact qa ((x12,x11,x13),g5,a14,c14,a13,c13,a16,c16)
 refine au [29,0] ?_
 intro a17 c17
 refine au [72] ?_
 refine yZ 3 8 rfl rfl (by kernel_rfl) rfl rfl ?_ ?_
 refine au [26,1] ?_
 intro x14 e10 a18 c18
 refine au [72,12,8,27,4] ?_
 rintro x15 e11 ⟨a19,c19⟩
 refine au [72,12,9] ?_
 refine qH [qFp l1 p1 t1,qFp a18 x14 c18,qFp a13 x11 c13,.slice none 0 0,qFp a19 x15 c19,qFo 0] ?_
 refine au [118,23] ?_
 intro g6
 refine au [0,26,13,65] ?_
 exact qa ((x14,x11,x15),g6,a18,c18,a13,c13,a19,c19)
 refine qeE pull1 ?_
 refine au [27,4] ?_
 rintro x16 e12 ⟨a20,c20⟩
 refine au [72,12,3,26,1] ?_
 intro x17 e13 a21 c21
 refine au [72,12,9] ?_
 refine qH [qFp l1 p1 t1,qFp a21 x17 c21,qFp a13 x11 c13,.slice none 0 0,qFp a20 x16 c20,qFo 0] ?_
 refine au [118,23] ?_
 intro g7
 refine au [0,26,13,65] ?_
 exact qa ((x17,x11,x16),g7,a21,c21,a13,c13,a20,c20)
 refine au [29,0] ?_
 intro a22 c22
 refine au [72] ?_
 refine qnz 3 5 8 rfl rfl rfl (by kernel_rfl) rfl rfl rfl ?_ ?_ ?_
 refine au [26,1] ?_
 intro x18 e14 a23 c23
 refine au [72] ?_
 refine yZ 5 8 rfl rfl (by kernel_rfl) rfl rfl ?_ ?_
 refine au [26,1] ?_
 intro x19 e15 a24 c24
 refine au [72,12,8,27,4] ?_
 rintro x20 e16 ⟨a25,c25⟩
 refine au [72,12,9] ?_
 refine qH [qFp l1 p1 t1,qFp a23 x18 c23,qFp a24 x19 c24,.slice none 0 0,qFp a25 x20 c25,qFo 0] ?_
 refine au [118,23] ?_
 intro g8
 refine au [0,26,13,65] ?_
 exact qa ((x18,x19,x20),g8,a23,c23,a24,c24,a25,c25)
 refine qeE pull1 ?_
 refine au [27,4] ?_
 rintro x21 e17 ⟨a26,c26⟩
 refine au [72,12,5,26,1] ?_
 intro x22 e18 a27 c27
 refine au [72,12,9] ?_
 refine qH [qFp l1 p1 t1,qFp a23 x18 c23,qFp a27 x22 c27,.slice none 0 0,qFp a26 x21 c26,qFo 0] ?_
 refine au [118,23] ?_
 intro g9
 refine au [0,26,13,65] ?_
 exact qa ((x18,x22,x21),g9,a23,c23,a27,c27,a26,c26)
 refine qeE pull1 ?_
 refine au [26,1] ?_
 intro x23 e19 a28 c28
 refine au [72] ?_
 refine yZ 3 8 rfl rfl (by kernel_rfl) rfl rfl ?_ ?_
 refine au [26,1] ?_
 intro x24 e20 a29 c29
 refine au [72,12,8,27,4] ?_
 rintro x25 e21 ⟨a30,c30⟩
 refine au [72,12,9] ?_
 refine qH [qFp l1 p1 t1,qFp a29 x24 c29,qFp a28 x23 c28,.slice none 0 0,qFp a30 x25 c30,qFo 0] ?_
 refine au [118,23] ?_
 intro g10
 refine au [0,26,13,65] ?_
 exact qa ((x24,x23,x25),g10,a29,c29,a28,c28,a30,c30)
 refine qeE pull1 ?_
 refine au [27,4] ?_
 rintro x26 e22 ⟨a31,c31⟩
 refine au [72,12,3,26,1] ?_
 intro x27 e23 a32 c32
 refine au [72,12,9] ?_
 refine qH [qFp l1 p1 t1,qFp a32 x27 c32,qFp a28 x23 c28,.slice none 0 0,qFp a31 x26 c31,qFo 0] ?_
 refine au [118,23] ?_
 intro g11
 refine au [0,26,13,65] ?_
 exact qa ((x27,x23,x26),g11,a32,c32,a28,c28,a31,c31)
 refine qeE pull2 ?_
 refine au [27,4] ?_
 rintro x28 e24 ⟨a33,c33⟩
 refine au [72] ?_
 refine yZ 3 5 rfl rfl (by kernel_rfl) rfl rfl ?_ ?_
 refine au [26,1] ?_
 intro x29 e25 a34 c34
 refine au [72,12,5,26,1] ?_
 intro x30 e26 a35 c35
 refine au [72,12,9] ?_
 refine qH [qFp l1 p1 t1,qFp a34 x29 c34,qFp a35 x30 c35,.slice none 0 0,qFp a33 x28 c33,qFo 0] ?_
 refine au [118,23] ?_
 intro g12
 refine au [0,26,13,65] ?_
 exact qa ((x29,x30,x28),g12,a34,c34,a35,c35,a33,c33)
 refine qeE pull1 ?_
 refine au [26,1] ?_
 intro x31 e27 a36 c36
 refine au [72,12,3,26,1] ?_
 intro x32 e28 a37 c37
 refine au [72,12,9] ?_
 refine qH [qFp l1 p1 t1,qFp a37 x32 c37,qFp a36 x31 c36,.slice none 0 0,qFp a33 x28 c33,qFo 0] ?_
 refine au [118,23] ?_
 intro g13
 refine au [0,26,13,65] ?_
 exact qa ((x32,x31,x28),g13,a37,c37,a36,c36,a33,c33)
 rintro ⟨⟨x0,x2,x3⟩,g0,a0,c0,a1,c1,a3,c2⟩
 try dsimp only
 refine qi [4] [] [] [0] (fun (((x33,x34,x35,x36,x37),a38,c38,a39,c39,a40,c40,a41,c41):(qFm×qFm×qFm×qFm×Int)×qFn×Nat×qFn×Nat×qFn×Nat×qFn×Nat)=>([],[⟨g0,183,[qFp l1 p1 t1,qFp a38 x33 c38,qFp a39 x34 c39,qFp a40 x35 c40,qFp a41 x36 c41,qFo x37]⟩],[qFs a38 x33 c38,qFs a39 x34 c39,qFs a40 x35 c40,qFs a41 x36 c41],[],qgc F x33 x34 x35 x36 x37)) ?_ ?_
 refine au [48,4,73,27,12] ?_
 refine qq [4,20] [] [] [0] (fun (((x38,x39,x40,x41,x42,x43),a42,c42,a43,c43,a44,c44,a45,c45):(Int×qFm×qFm×qFm×qFm×Int)×qFn×Nat×qFn×Nat×qFn×Nat×qFn×Nat)=>([(21,qFo x38)],[⟨g0,183,[qFp l1 p1 t1,qFp a42 x39 c42,qFp a43 x40 c43,qFp a44 x41 c44,qFp a45 x42 c45,qFo x43]⟩],[qFs a42 x39 c42,qFs a43 x40 c43,qFs a44 x41 c44,qFs a45 x42 c45],[])) ((0:Int),x0,x2,([]:qFm),x3,(0:Int)) (a0,c0,a1,c1,none,0,a3,c2) ?_
 intro k0
 rintro ⟨⟨x38,x39,x40,x41,x42,x43⟩,a42,c42,a43,c43,a44,c44,a45,c45⟩
 refine aw [39,1,3,24,3,0,2,1,10] ?_ ?_
 refine au [57] ?_
 refine qi [4,20,21] [] [] [0] (fun (((x44,x45,x46,x47,x48),a46,c46,a47,c47,a48,c48,a49,c49):(qFm×qFm×qFm×qFm×Int)×qFn×Nat×qFn×Nat×qFn×Nat×qFn×Nat)=>([],[⟨g0,183,[qFp l1 p1 t1,qFp a46 x44 c46,qFp a47 x45 c47,qFp a48 x46 c48,qFp a49 x47 c49,qFo x48]⟩],[qFs a46 x44 c46,qFs a47 x45 c47,qFs a48 x46 c48,qFs a49 x47 c49],[],vT F (jJ F p1 k0) x38 x44 x45 x46 x47 x48)) ?_ ?_
 refine au [14,48,59,112,4,26,5] ?_
 intro x49 e29 g14 h0
 refine kJ (j:=0) (y:=x49) (qC .i64) rfl rfl tf3 rfl h0 (qu e29).2.2 (fun _=>rfl) rfl rfl ?_
 refine aw [25,6,0,2,10] ?_ ?_
 refine au [3,89] ?_
 refine qc6 EnC.e rfl rfl rfl (fun x50 e30=>qhE F g0 p1 l1 (t1,n1) x39 a42 c42 x40 a43 c43 x41 a44 c44 x42 a45 c45 x43 x38 x50 e30) (.cons 0 rfl .nil) (.cons 0 rfl (.cons 0 rfl (.cons 0 rfl (.cons 0 rfl .nil)))) (.consF 0 rfl .nil) (fun x50 e30=>?_)
 rintro ⟨⟨a50,c50⟩,⟨a51,c51⟩,⟨a52,c52⟩,a53,c53⟩
 refine au [115] ?_
 exact qa ((x50.1,x50.2.1,x50.2.2.1,x50.2.2.2.1,x50.2.2.2.2),a50,c50,a51,c51,a52,c52,a53,c53)
 refine au [11,24,2] ?_
 exact qa ((x39,x40,x41,x42,x43),a42,c42,a43,c43,a44,c44,a45,c45)
 rintro ⟨⟨x44,x45,x46,x47,x48⟩,a46,c46,a47,c47,a48,c48,a49,c49⟩
 refine au [39,94] ?_
 exact qk ((iadd .i64 x38 1,x44,x45,x46,x47,x48),a46,c46,a47,c47,a48,c48,a49,c49)
 refine au [71] ?_
 exact qa ((x39,x40,x41,x42,x43),a42,c42,a43,c43,a44,c44,a45,c45)
 rintro ⟨⟨x33,x34,x35,x36,x37⟩,a38,c38,a39,c39,a40,c40,a41,c41⟩
 refine au [91,112,49] ?_
 exact qx (a41,c41)
theorem qlj (F:Nat)(x1:List (qFm))(a2:qFn)(c3:(Nat×List (qFn×Nat)))(r:(qFm×Int))(hm:qdC F x1=some r) :
    Pure qFv 67 [.agg #[qFp a2 x1 c3.1]] [SlN eN56 iN56 1 (qFp a2 x1 c3.1) x1 c3.2] (qFn×Nat) (fun g=>.tuple #[qFp g.1 r.1 g.2,qFo r.2]) (fun g=>[qFs g.1 r.1 g.2]) (fun _=>[]):=by
 refine pureA func67 ntmps67 hm fun _=>?_
 refine au [64,23] ?_
 intro g4
 refine au [5,81,77,28,2] ?_
 intro x7 e7 _
 refine aw [5,0,2,1,3,4,25,3,0,2,10] ?_ ?_
 refine au [48,5,99] ?_
 exact qx (none,0)
 refine au [57,77] ?_
 refine qd qlk ?_
 rintro x8 e8 ⟨a9,c10⟩
 refine au [5,49] ?_
 exact qx (a9,c10)
theorem qpy {r:Unit}(hm:jE F p1=some r) :
    PureM qFv 114 [.agg #[qFp l1 p1 t1]] [] [] [SlN eN56 iN56 1 (qFp l1 p1 t1) p1 n1] Nat (fun g=>.func (.func 159) #[] #[qFq g]) (fun g=>[⟨g,24,[qFp l1 p1 t1]⟩]) (fun _=>[]):=by
 refine pureMA func114 ntmps114 hm fun _=>?_
 refine au [64,23] ?_
 intro g4
 refine au [80,27,5,49] ?_
 exact qK g4
theorem qhC (hm:zg F m1=some m2) :
    PureM qFv 134 [qFp l1 m1 t1] [] [qFs l1 m1 t1] [] Unit (fun _=>.tuple #[]) (fun _=>[]) (fun _=>[qFs l1 m2 t1]):=by
  unfold zg at hm
  split at hm
  · cases hm
    exact qsa Tryz.slices_Sort_int Tryz.slices_Sort_int_none (by assumption)
  · simp at hm
theorem qgh (hm:zE F m1=some m2) :
    PureM qFv 135 [qFp l1 m1 t1] [] [qFs l1 m1 t1] [] (qFn×Nat) (fun g=>qFp g.1 m2 g.2) (fun _=>[]) (fun g=>[qFs g.1 m2 g.2]):=by
  unfold zE at hm
  split at hm
  · cases hm
    exact qmM Tryz.slices_Compact_int Tryz.slices_Compact_int_empty (by assumption)
  · simp at hm
theorem qei (F:Nat){σ τ:Type}{J:Rounds σ τ}{yy:σ→(Int×Int)→Option (σ ⊕ τ)}{L:Nat}(hY:YieldC qFv L (fun (p:Int×Int)=>[.agg #[qFo p.1,qFo p.2]]) J yy)(s0:σ)(gs0:J.γ)(g1:Nat)(x2:List (qFm))(a3:qFn)(c4:(Nat×List (qFn×Nat)))(r:σ ⊕ τ)(hm:jQ F yy x2 s0=some r) :
    PureM qFv 159 ([.func (.yield L) #[] #[],qFq g1]) ([⟨g1,24,[qFp a3 x2 c4.1]⟩]++J.IB s0 gs0) (J.IR s0 gs0) [J.F,SlN eN56 iN56 1 (qFp a3 x2 c4.1) x2 c4.2] (J.G r) (fun _=>.tuple #[]) (fun g=>[⟨g1,24,[qFp a3 x2 c4.1]⟩]++J.bs r g) (fun g=>J.rs r g):=by
 refine pureMA func159 ntmps159 hm fun _=>?_
 refine au [56,78,84] ?_
 refine jm (fun (((x0,x1),g0):(Int×σ)×J.γ)=>[(0,.func (.yield L) #[] #[]),(8,qFp a3 x2 c4.1),(9,qFo (x2.length:Int)),(10,qFo x0)]) (fun (((x0,x1),g0):(Int×σ)×J.γ)=>[⟨g1,24,[qFp a3 x2 c4.1]⟩]++J.IB x1 g0) (fun (((x0,x1),g0):(Int×σ)×J.γ)=>[]++J.IR x1 g0) (fun (((x0,x1),g0):(Int×σ)×J.γ)=>[SlN eN56 iN56 1 (qFp a3 x2 c4.1) x2 c4.2,J.F]) (fun k (s:(Int×σ)×J.γ)=>kq F yy x2 k s.1) ((0,s0),gs0) F ?_ (hB:=(.cons 0 rfl (qe 0 rfl))) (hR:=(qe 0 rfl)) (hF:=(qh 1 rfl (qh 0 rfl zG)))
 intro k0
 rintro ⟨⟨x0,x1⟩,g0⟩
 try dsimp only
 refine qbR (m':=qcn F yy x2 (kq F yy x2 k0) x0 x1) rfl ?_
 refine aw [1,3,24,3,0,2,1,10] ?_ ?_
 refine au [57] ?_
 refine qdP (fun ((x3,g2):σ×J.γ)=>[(0,.func (.yield L) #[] #[]),(8,qFp a3 x2 c4.1),(9,qFo (x2.length:Int)),(10,qFo x0)]) (fun ((x3,g2):σ×J.γ)=>[⟨g1,24,[qFp a3 x2 c4.1]⟩]++J.IB x3 g2) (fun ((x3,g2):σ×J.γ)=>[]++J.IR x3 g2) (fun ((x3,g2):σ×J.γ)=>[SlN eN56 iN56 1 (qFp a3 x2 c4.1) x2 c4.2,J.F]) (fun ((x3,_):σ×J.γ)=>qco F yy (kq F yy x2 k0) x0 x3) ?_ ?_
 refine au [14,48,27,2] ?_
 intro x4 e0 g3 b0 o0
 refine au [25,2,5,59,84] ?_
 refine jm (fun (((x5,x6),g4):(Int×σ)×J.γ)=>[(0,.func (.yield L) #[] #[]),(3,qFo x0),(8,qFp a3 x2 c4.1),(9,qFo (x2.length:Int)),(10,qFo x0),(15,qFp g3.1 x4 g3.2),(16,qFo (x4.length:Int)),(17,qFo x5)]) (fun (((x5,x6),g4):(Int×σ)×J.γ)=>[⟨g1,24,[qFp a3 x2 c4.1]⟩]++J.IB x6 g4) (fun (((x5,x6),g4):(Int×σ)×J.γ)=>[]++J.IR x6 g4) (fun (((x5,x6),g4):(Int×σ)×J.γ)=>[SlN eN56 iN56 1 (qFp a3 x2 c4.1) x2 c4.2,qFr g3.1 x4 g3.2,J.F]) (fun k (s:(Int×σ)×J.γ)=>jF F yy (kq F yy x2 k0) x0 x4 k s.1) ((0,x1),g0) F ?_ (hB:=(.cons 0 rfl (qe 0 rfl))) (hR:=(qe 0 rfl)) (hF:=(qh 2 rfl (qh 1 rfl (qh 3 rfl zG))))
 intro k1
 rintro ⟨⟨x5,x6⟩,g4⟩
 try dsimp only
 refine qbR (m':=qbE F yy (kq F yy x2 k0) x0 x4 (jF F yy (kq F yy x2 k0) x0 x4 k1) x5 x6) rfl ?_
 refine aw [1,3,24,3,0,2,1,10] ?_ ?_
 refine au [83,45,29,1] ?_
 intro x7 e1 b1 o1
 refine au [25,2,59,89] ?_
 refine qH [qFo x0,qFo x7] ?_
 refine qfu hY x6 (x0,x7) g4 (B1:=[⟨g1,24,[qFp a3 x2 c4.1]⟩]) (R1:=[]) (j:=3) rfl rfl rfl rfl rfl rfl rfl (fun x8 _ g5=>?_) (fun x9 _ g5=>?_)
 refine au [25,7,46] ?_
 refine yf (b:=false) rfl (fun h=>by cases h) (fun _=>?_)
 refine au [11,95] ?_
 exact vz ((iadd .i64 x5 1,x8),g5) (hB:=(.cons 0 rfl (qe 0 rfl))) (hR:=(qe 0 rfl)) (hF:=(qh 1 rfl (qh 2 rfl (qh 3 rfl zG))))
 refine au [25,7,46] ?_
 refine yf (b:=true) rfl (fun _=>?_) (fun h=>by cases h)
 refine au [8,90,24,7,90,24,7] ?_
 exact jn (B0:=[⟨g1,24,[qFp a3 x2 c4.1]⟩]) (x:=.inr x9) g5 (.inl rfl) (res0 rfl) (.cons 0 rfl (qe 0 rfl)) (qe 0 rfl)
 refine au [71,24,2] ?_
 exact yh (x6,g4) (hB:=(.cons 0 rfl (qe 0 rfl))) (hR:=(qe 0 rfl)) (hF:=(qh 0 rfl (qh 2 rfl zG)))
 rintro ⟨x3,g2⟩
 refine au [39,94] ?_
 exact vz ((iadd .i64 x0 1,x3),g2) (hB:=(.cons 0 rfl (qe 0 rfl))) (hR:=(qe 0 rfl)) (hF:=(qh 0 rfl (qh 1 rfl zG)))
 refine au [71] ?_
 exact jn (B0:=[⟨g1,24,[qFp a3 x2 c4.1]⟩]) (x:=.inl x1) g0 (.inr rfl) (res0 rfl) (.cons 0 rfl (qe 0 rfl)) (qe 0 rfl)
theorem qpr (hm:qeI F p1=some p2) :
    PureM qFv 97 [.agg #[qFp l1 p1 t1]] [] [] [SlN eN56 iN56 1 (qFp l1 p1 t1) p1 n1] (qFn×Nat×List (qFn×Nat)) (fun g=>qFp g.1 p2 g.2.1) (fun _=>[]) (fun g=>[RoN eN56 rN56 56 1 (qFp g.1 p2 g.2.1) p2 g.2.2 []]):=by
 refine qdM func97 rfl ntmps97 rfl hm (fun w=>?_)
 refine au [64,23] ?_
 intro g4
 refine au [80,78,24,6,29,11] ?_
 intro x5 e5 a6 c7
 refine au [24,5] ?_
 intro g8
 refine au [21,46,1,45,25,10,30,7] ?_
 intro x0 e0 g0
 refine au [73] ?_
 refine qcr (encs:=(fun (p:Int×Int)=>[.agg #[qFo p.1,qFo p.2]])) (y:=(fun (x2:List (qFm)) ((x3,x4):Int×Int)=>qbV F x2 x3 x4)) (lb:=[qFq g0]) (fun (x2:List (qFm)) (g1:List (qFn×Nat))=>[⟨g8,22,[qFp a6 x2 c7]⟩,⟨g4,24,[qFp l1 p1 t1]⟩]) (fun (x2:List (qFm)) (g1:List (qFn×Nat))=>[RoN eN56 rN56 56 1 (qFp a6 x2 c7) x2 g1 []]) (fun (_:Empty) (_:Unit)=>[]) (fun (_:Empty) (_:Unit)=>[]) (fun _=>.skip) x5 (qCo x5.length ((none,0):qFn×Nat)) rfl EnC.e (fun _=>rfl) rfl (.cons 0 rfl .nil) (.cons 0 rfl (.cons 0 rfl .nil)) (.cons 0 rfl .nil) (.consF 0 rfl .nil) (fun z hz _ _ _ hY=>qei F hY x5 (qCo x5.length ((none,0):qFn×Nat)) g0 p1 l1 (t1,n1) z hz) ?_ ?_ ?_
 rintro rc1 L1 D1 x2 g1 ⟨x3,x4⟩ z w M _
 try dsimp only
 refine qdQ [(0,.agg #[qFp l1 p1 t1]),(1,qFq g4),(2,.slice none 0 0),(3,qFq g8),(6,qFq g4),(7,qFp l1 p1 t1),(8,qFo (p1.length:Int)),(9,qFp a6 x5 c7),(10,.agg #[qFp l1 p1 t1]),(11,.func (.func 159) #[] #[qFq g0]),(12,.agg #[qFo x3,qFo x4])] (qm rfl (qm rfl (qm rfl (qm rfl (qm rfl (qm rfl (qm rfl (qm rfl (qm rfl (qm rfl (qm rfl qea))))))))))) ?_
 refine au [3,24,5] ?_
 intro g2
 refine aw [21,0,30,8,14,1,3,9,18,9,18,25,3,0,2,10] ?_ ?_
 refine au [29,12] ?_
 intro x6 e1 g3 h0 g5 h1
 replace h1:a6=some ⟨g5,0,none⟩:=h1
 have h2:=zM (k:=x2.length) (c:=c7) h1
 refine qfs (i:=0) rfl h0 (qCN) ?_
 refine au [29,2] ?_
 intro x7 e2 g6 h3 g7 h4
 replace h4:a6=some ⟨g7,0,none⟩:=h4
 have h5:=zM (k:=x2.length) (c:=c7) h4
 refine au [28,6] ?_
 intro h6
 refine qfs (i:=1) rfl h3 (by simp only[decide_eq_true_eq] at h6;simp only[List.mem_cons,qCN,or_false];exact h6) ?_
 refine au [29,2] ?_
 intro x8 e3 g9 h7 g10 h8
 replace h8:a6=some ⟨g10,0,none⟩:=h8
 have h9:=zM (k:=x2.length) (c:=c7) h8
 refine au [29,2] ?_
 intro x9 e4 g11 h10 g12 h11
 replace h11:a6=some ⟨g12,0,none⟩:=h11
 have h12:=zM (k:=x2.length) (c:=c7) h11
 refine kD mixed [25,27] _ _ (.cons 0 rfl (.cons 0 rfl (.cons 0 rfl (.cons 0 rfl (.cons 0 rfl .nil))))) (qg 0 rfl (qE 1 rfl (qJ qp h0 h1) (qE 1 rfl (qJ qp h3 h4) (qE 1 rfl (qJ qp h7 h8) (qE 1 rfl (qJ qp h10 h11) qf))))) 28 rfl ?_
 refine au [26,9,0,15,1,24,15,2,26,9,3,15,4,24,15,5,26,9,6,15,7,24,15,8] ?_
 refine jN 9 h1 e1 ?_
 refine qy 10 (qFp g3.1 x6 g3.2) [[25],[27]] rfl rfl rfl (qQ (j:=1) rfl tf56 rfl rfl (fun _=>rfl) rfl) ?_
 refine au [15,11,24,15,12,26,9,15,15,16,24,15,17] ?_
 refine jN 18 h4 e2 ?_
 refine qy 19 (qFp g6.1 x7 g6.2) [[25],[27]] rfl rfl rfl (qQ (j:=2) rfl tf56 rfl rfl (fun _=>rfl) rfl) ?_
 refine au [15,20,24,15,21] ?_
 refine yZ 13 22 rfl rfl (by kernel_rfl) rfl rfl ?_ ?_
 refine zI [x4] (fun a0 c0=>?_)
 refine au [0] ?_
 refine qc (.cons 0 rfl (.cons 0 rfl (.cons 0 rfl (.cons 0 rfl (.cons 0 rfl .nil))))) (qg 0 rfl (qE 2 rfl (qJ qp h0 h1) (qE 2 rfl (qJ qp h3 h4) (qE 2 rfl (qJ qp h7 h8) (qE 2 rfl (qJ qp h10 h11) qf))))) (yZ 14 22 rfl rfl (by kernel_rfl) rfl rfl ?_ ?_)
 refine zA 3 (qC .i64) rfl underlying56 tf3 rfl rfl rfl rfl rfl (.inl ⟨0,_,rfl⟩) rfl rfl (fun x10 e6 a1 c1=>?_)
 refine au [0] ?_
 refine qc (.cons 0 rfl (.cons 0 rfl (.cons 0 rfl (.cons 0 rfl (.cons 0 rfl .nil))))) (qg 0 rfl (qE 3 rfl (qJ qp h0 h1) (qE 3 rfl (qJ qp h3 h4) (qE 3 rfl (qJ qp h7 h8) (qE 3 rfl (qJ qp h10 h11) qf))))) ?_
 refine au [12,22] ?_
 refine zI [x3] (fun a3 c2=>?_)
 refine au [0] ?_
 refine qc (.cons 0 rfl (.cons 0 rfl (.cons 0 rfl (.cons 0 rfl (.cons 0 rfl .nil))))) (qg 0 rfl (qE 4 rfl (qJ qp h0 h1) (qE 4 rfl (qJ qp h3 h4) (qE 4 rfl (qJ qp h7 h8) (qE 4 rfl (qJ qp h10 h11) qf))))) ?_
 refine au [12,23] ?_
 refine zA 3 (qC .i64) rfl underlying56 tf3 rfl rfl rfl rfl rfl (.inl ⟨0,_,rfl⟩) rfl rfl (fun x11 e7 a4 c4=>?_)
 refine au [0] ?_
 refine qc (.cons 0 rfl (.cons 0 rfl (.cons 0 rfl (.cons 0 rfl (.cons 0 rfl .nil))))) (qg 0 rfl (qE 4 rfl (qJ qp h0 h1) (qE 4 rfl (qJ qp h3 h4) (qE 4 rfl (qJ qp h7 h8) (qE 4 rfl (qJ qp h10 h11) qf))))) (jN 24 h8 e3 ?_)
 refine au [12,25] ?_
 refine jX (j:=4) (kh:=1) (y':=x10) (q':=(a1,c1)) qp rfl rfl rfl tf56 rfl (zM h8) rfl (qu e3).2.1 rfl (.cons 2 rfl .nil) (fun x12 e8 h13 g13=>?_)
 have h14:x12.length=x2.length:=by rw[← e8,qCJ]
 refine zo 18 h13 ?_
 refine zo 21 h13 ?_
 refine zo 24 h13 ?_
 refine zo 33 h13 ?_
 refine q5 (i:=1) (cs':=[qFp a6 x12 c7]) rfl (by simp only[qFp,h13] <;> rfl) ?_
 refine au [0] ?_
 refine kY 25 rfl (by kernel_rfl) (.cons 0 rfl (.cons 0 (by simp only[qFp,h14] <;> rfl) (.cons 0 rfl (.cons 0 rfl (.cons 0 rfl .nil))))) (qij 21 h11 ?_)
 refine qb 26 (.pointer (some ⟨g12,x4.toNat*1,none⟩)) rfl rfl rfl (qbS underlying22 tf56 rfl rfl (qu e4).1 (by rw[h14];exact (qcW e4))) (qij 21 h11.symm ?_)
 refine au [12,27] ?_
 refine jX (j:=0) (kh:=0) (y':=x11) (q':=(a4,c4)) qp rfl rfl rfl tf56 rfl (zM h11) rfl (by rw[h14];exact (qu e4).2.1) rfl (.cons 0 rfl .nil) (fun x13 e9 h15 g14=>?_)
 have h16:x13.length=x12.length:=by rw[← e9,qCJ]
 refine zo 18 h15 ?_
 refine zo 21 h15 ?_
 refine zo 24 h15 ?_
 refine zo 33 h15 ?_
 refine q5 (i:=1) (cs':=[qFp a6 x13 c7]) rfl (by simp only[qFp,h15] <;> rfl) ?_
 refine au [0] ?_
 refine kY 25 rfl (by kernel_rfl) (.cons 0 rfl (.cons 0 (by simp only[qFp,h16,h14] <;> rfl) (.cons 0 rfl (.cons 0 rfl (.cons 0 rfl .nil))))) ?_
 refine au [54,24,2] ?_
 exact vv (rc:=rc1) rfl (.cons 3 rfl .nil) rfl g14 (.cons 2 rfl (.cons 2 rfl (.cons 0 rfl (.cons 1 rfl .nil)))) (.cons 0 rfl .nil)
 refine zI [x3] (fun a5 c5=>?_)
 refine au [0] ?_
 refine qc (.cons 0 rfl (.cons 0 rfl (.cons 0 rfl (.cons 0 rfl (.cons 0 rfl .nil))))) (qg 0 rfl (qE 3 rfl (qJ qp h0 h1) (qE 3 rfl (qJ qp h3 h4) (qE 3 rfl (qJ qp h7 h8) (qE 3 rfl (qJ qp h10 h11) qf))))) ?_
 refine au [12,14] ?_
 refine zA 4 (qC .i64) rfl underlying56 tf3 rfl rfl rfl rfl rfl (.inl ⟨1,_,rfl⟩) rfl rfl (fun x14 e10 a7 c6=>?_)
 refine au [0] ?_
 refine qc (.cons 0 rfl (.cons 0 rfl (.cons 0 rfl (.cons 0 rfl (.cons 0 rfl .nil))))) (qg 0 rfl (qE 4 rfl (qJ qp h0 h1) (qE 4 rfl (qJ qp h3 h4) (qE 4 rfl (qJ qp h7 h8) (qE 4 rfl (qJ qp h10 h11) qf))))) ?_
 refine au [12,23] ?_
 refine zA 3 (qC .i64) rfl underlying56 tf3 rfl rfl rfl rfl rfl (.inl ⟨1,_,rfl⟩) rfl rfl (fun x15 e11 a8 c8=>?_)
 refine au [0] ?_
 refine qc (.cons 0 rfl (.cons 0 rfl (.cons 0 rfl (.cons 0 rfl (.cons 0 rfl .nil))))) (qg 0 rfl (qE 4 rfl (qJ qp h0 h1) (qE 4 rfl (qJ qp h3 h4) (qE 4 rfl (qJ qp h7 h8) (qE 4 rfl (qJ qp h10 h11) qf))))) (jN 24 h8 e3 ?_)
 refine au [12,25] ?_
 refine jX (j:=4) (kh:=1) (y':=x14) (q':=(a7,c6)) qp rfl rfl rfl tf56 rfl (zM h8) rfl (qu e3).2.1 rfl (.cons 1 rfl .nil) (fun x16 e12 h17 g15=>?_)
 have h18:x16.length=x2.length:=by rw[← e12,qCJ]
 refine zo 18 h17 ?_
 refine zo 21 h17 ?_
 refine zo 24 h17 ?_
 refine zo 33 h17 ?_
 refine q5 (i:=1) (cs':=[qFp a6 x16 c7]) rfl (by simp only[qFp,h17] <;> rfl) ?_
 refine au [0] ?_
 refine kY 25 rfl (by kernel_rfl) (.cons 0 rfl (.cons 0 (by simp only[qFp,h18] <;> rfl) (.cons 0 rfl (.cons 0 rfl (.cons 0 rfl .nil))))) (qij 21 h11 ?_)
 refine qb 26 (.pointer (some ⟨g12,x4.toNat*1,none⟩)) rfl rfl rfl (qbS underlying22 tf56 rfl rfl (qu e4).1 (by rw[h18];exact (qcW e4))) (qij 21 h11.symm ?_)
 refine au [12,27] ?_
 refine jX (j:=0) (kh:=0) (y':=x15) (q':=(a8,c8)) qp rfl rfl rfl tf56 rfl (zM h11) rfl (by rw[h18];exact (qu e4).2.1) rfl (.cons 0 rfl .nil) (fun x17 e13 h19 g16=>?_)
 have h20:x17.length=x16.length:=by rw[← e13,qCJ]
 refine zo 18 h19 ?_
 refine zo 21 h19 ?_
 refine zo 24 h19 ?_
 refine zo 33 h19 ?_
 refine q5 (i:=1) (cs':=[qFp a6 x17 c7]) rfl (by simp only[qFp,h19] <;> rfl) ?_
 refine au [0] ?_
 refine kY 25 rfl (by kernel_rfl) (.cons 0 rfl (.cons 0 (by simp only[qFp,h20,h18] <;> rfl) (.cons 0 rfl (.cons 0 rfl (.cons 0 rfl .nil))))) ?_
 refine au [54,24,2] ?_
 exact vv (rc:=rc1) rfl (.cons 3 rfl .nil) rfl g16 (.cons 2 rfl (.cons 2 rfl (.cons 0 rfl (.cons 1 rfl .nil)))) (.cons 0 rfl .nil)
 refine zI [x3] (fun a9 c9=>?_)
 refine au [0] ?_
 refine qc (.cons 0 rfl (.cons 0 rfl (.cons 0 rfl (.cons 0 rfl (.cons 0 rfl .nil))))) (qg 0 rfl (qE 2 rfl (qJ qp h0 h1) (qE 2 rfl (qJ qp h3 h4) (qE 2 rfl (qJ qp h7 h8) (qE 2 rfl (qJ qp h10 h11) qf))))) ?_
 refine au [12,13] ?_
 refine zI [x4] (fun a10 c10=>?_)
 refine au [0] ?_
 refine qc (.cons 0 rfl (.cons 0 rfl (.cons 0 rfl (.cons 0 rfl (.cons 0 rfl .nil))))) (qg 0 rfl (qE 3 rfl (qJ qp h0 h1) (qE 3 rfl (qJ qp h3 h4) (qE 3 rfl (qJ qp h7 h8) (qE 3 rfl (qJ qp h10 h11) qf))))) ?_
 refine au [12,14] ?_
 refine zA 4 (qC .i64) rfl underlying56 tf3 rfl rfl rfl rfl rfl (.inl ⟨0,_,rfl⟩) rfl rfl (fun x18 e14 a11 c11=>?_)
 refine au [0] ?_
 refine qc (.cons 0 rfl (.cons 0 rfl (.cons 0 rfl (.cons 0 rfl (.cons 0 rfl .nil))))) (qg 0 rfl (qE 4 rfl (qJ qp h0 h1) (qE 4 rfl (qJ qp h3 h4) (qE 4 rfl (qJ qp h7 h8) (qE 4 rfl (qJ qp h10 h11) qf))))) ?_
 refine au [12,23] ?_
 refine zA 3 (qC .i64) rfl underlying56 tf3 rfl rfl rfl rfl rfl (.inl ⟨2,_,rfl⟩) rfl rfl (fun x19 e15 a12 c12=>?_)
 refine au [0] ?_
 refine qc (.cons 0 rfl (.cons 0 rfl (.cons 0 rfl (.cons 0 rfl (.cons 0 rfl .nil))))) (qg 0 rfl (qE 4 rfl (qJ qp h0 h1) (qE 4 rfl (qJ qp h3 h4) (qE 4 rfl (qJ qp h7 h8) (qE 4 rfl (qJ qp h10 h11) qf))))) (jN 24 h8 e3 ?_)
 refine au [12,25] ?_
 refine jX (j:=4) (kh:=1) (y':=x18) (q':=(a11,c11)) qp rfl rfl rfl tf56 rfl (zM h8) rfl (qu e3).2.1 rfl (.cons 1 rfl .nil) (fun x20 e16 h21 g17=>?_)
 have h22:x20.length=x2.length:=by rw[← e16,qCJ]
 refine zo 18 h21 ?_
 refine zo 21 h21 ?_
 refine zo 24 h21 ?_
 refine zo 33 h21 ?_
 refine q5 (i:=1) (cs':=[qFp a6 x20 c7]) rfl (by simp only[qFp,h21] <;> rfl) ?_
 refine au [0] ?_
 refine kY 25 rfl (by kernel_rfl) (.cons 0 rfl (.cons 0 (by simp only[qFp,h22] <;> rfl) (.cons 0 rfl (.cons 0 rfl (.cons 0 rfl .nil))))) (qij 21 h11 ?_)
 refine qb 26 (.pointer (some ⟨g12,x4.toNat*1,none⟩)) rfl rfl rfl (qbS underlying22 tf56 rfl rfl (qu e4).1 (by rw[h22];exact (qcW e4))) (qij 21 h11.symm ?_)
 refine au [12,27] ?_
 refine jX (j:=0) (kh:=0) (y':=x19) (q':=(a12,c12)) qp rfl rfl rfl tf56 rfl (zM h11) rfl (by rw[h22];exact (qu e4).2.1) rfl (.cons 0 rfl .nil) (fun x21 e17 h23 g18=>?_)
 have h24:x21.length=x20.length:=by rw[← e17,qCJ]
 refine zo 18 h23 ?_
 refine zo 21 h23 ?_
 refine zo 24 h23 ?_
 refine zo 33 h23 ?_
 refine q5 (i:=1) (cs':=[qFp a6 x21 c7]) rfl (by simp only[qFp,h23] <;> rfl) ?_
 refine au [0] ?_
 refine kY 25 rfl (by kernel_rfl) (.cons 0 rfl (.cons 0 (by simp only[qFp,h24,h22] <;> rfl) (.cons 0 rfl (.cons 0 rfl (.cons 0 rfl .nil))))) ?_
 refine au [54,24,2] ?_
 exact vv (rc:=rc1) rfl (.cons 3 rfl .nil) rfl g18 (.cons 2 rfl (.cons 2 rfl (.cons 0 rfl (.cons 1 rfl .nil)))) (.cons 0 rfl .nil)
 refine au [11,24,2] ?_
 exact vv (rc:=rc1) rfl (.cons 3 rfl .nil) rfl g1 (.cons 2 rfl (.cons 2 rfl (.cons 0 rfl (.cons 1 rfl .nil)))) (.cons 0 rfl .nil)
 rintro x2 _ g1 D1
 refine au [39,63] ?_
 refine qi [3] [0] [] [] (fun ((x22,g19):List (qFm)×List (qFn×Nat))=>([],[⟨g8,22,[qFp a6 x22 c7]⟩],[RoN eN56 rN56 56 1 (qFp a6 x22 c7) x22 g19 []],[],qhK F x22)) ?_ ?_
 refine au [45,25,15,84] ?_
 refine qq [3,45] [0] [] [] (fun (((x23,x24),g20):(Int×List (qFm))×List (qFn×Nat))=>([(46,qFo x23)],[⟨g8,22,[qFp a6 x24 c7]⟩],[RoN eN56 rN56 56 1 (qFp a6 x24 c7) x24 g20 []],[])) ((0:Int),x2) g1 ?_
 intro k0
 rintro ⟨⟨x23,x24⟩,g20⟩
 refine aw [39,1,3,24,3,0,2,1,10] ?_ ?_
 refine au [83,48,80,25,12,4,31,7] ?_
 intro x25 e18 g21 h25 g22 h26
 refine qkB (i:=0) rfl h25 (qCN) (qi6 (j:=1) (p:=(x25,g21)) qp rfl rfl tf56 rfl h26 h25 rfl (fun _=>rfl) rfl rfl ?_)
 refine au [31,8] ?_
 intro x26 e19 _
 refine au [26,11] ?_
 intro h27
 replace h27:=of_decide_eq_true h27
 refine qs (d:=52) (v:=qFp g21.1 x26 g21.2) rfl (by simp only[qFp,h27] <;> rfl) ?_
 refine au [46] ?_
 refine qsd (rin:=rN56) (i:=0) (kh:=0) (y:=x26) (q:=g21) (.cons 0 rfl .nil) rfl rfl h25 (by simp only[qFp,eN56,h27]) (fun x27 e20 h28 g23=>?_)
 have h29:x27.length=x24.length:=by rw[← e20,qCJ]
 refine qxF (d:=49) (v:=qFp a6 x27 c7) rfl (by simp only[qFp,h28] <;> rfl) (qoZ (i:=1) (cs':=[qFp a6 x27 c7]) rfl (by simp only[qFp,h28] <;> rfl) ?_)
 refine au [29,12] ?_
 intro x28 e21 g24 h30 g25 h31
 replace h31:a6=some ⟨g25,0,none⟩:=h31
 have h32:=zM (k:=x27.length) (c:=c7) h31
 refine qfs (i:=0) rfl h30 (qCN) ?_
 refine au [29,2] ?_
 intro x29 e22 g26 h33 g27 h34
 replace h34:a6=some ⟨g27,0,none⟩:=h34
 have h35:=zM (k:=x27.length) (c:=c7) h34
 refine kD mixed [8] _ _ (.cons 0 rfl (.cons 0 rfl .nil)) (qE 1 rfl (qJ qp h30 h31) (qE 1 rfl (qJ qp h33 h34) qf)) 9 rfl ?_
 refine au [26,9,0,6,1,26,9,2,6,3] ?_
 refine jN 4 h31 e21 ?_
 refine qy 5 (qFp g24.1 x28 g24.2) [[8]] rfl rfl rfl (qQ (j:=0) rfl tf56 rfl rfl (fun _=>rfl) rfl) ?_
 refine au [12,6,33,2] ?_
 rintro x30 e23 ⟨a13,c13⟩
 refine au [0] ?_
 refine qc (.cons 0 rfl (.cons 0 rfl .nil)) (qE 1 rfl (qJ qp h30 h31) (qE 1 rfl (qJ qp h33 h34) qf)) (jN 7 h34 e22 ?_)
 refine au [12,8] ?_
 refine jX (j:=1) (kh:=0) (y':=x30) (q':=(a13,c13)) qp rfl rfl rfl tf56 rfl (zM h34) rfl (qu e22).2.1 rfl (.cons 0 rfl .nil) (fun x31 e24 h36 g28=>?_)
 have h37:x31.length=x27.length:=by rw[← e24,qCJ]
 refine zo 49 h36 ?_
 refine zo 54 h36 ?_
 refine zo 56 h36 ?_
 refine q5 (i:=1) (cs':=[qFp a6 x31 c7]) rfl (by simp only[qFp,h36] <;> rfl) ?_
 refine au [0] ?_
 refine kY 8 rfl (by kernel_rfl) (.cons 0 rfl (.cons 0 (by simp only[qFp,h37] <;> rfl) .nil)) ?_
 refine au [54,95] ?_
 exact qk ((iadd .i64 x23 1,x31),g28)
 refine au [71] ?_
 exact qa (x24,g20)
 rintro ⟨x22,g19⟩
 refine au [117,25,12,49] ?_
 exact jo [D1] (a6,c7,g19) (.inl rfl) rfl (.cons 0 rfl .nil) (res1 rfl rfl) (fun h=>by subst h;rfl) (fun h=>by subst h;exact .nil) (fun h=>by subst h;exact (.cons 0 rfl .nil))
 intro t;exact t.elim
theorem qis {r:(Int×qFm)}(hm:vA F p1 m1=some r) :
    PureM qFv 98 [qFq t1] [⟨t1,137,[qFp l1 p1 t2,qFp l2 m1 t3]⟩] [qFs l2 m1 t3] [SlN eN56 iN56 1 (qFp l1 p1 t2) p1 n1] (qFn×Nat) (fun _=>qFo r.1) (fun g=>[⟨t1,137,[qFp l1 p1 t2,qFp g.1 r.2 g.2]⟩]) (fun g=>[qFs g.1 r.2 g.2]):=by
 refine pureMA func98 ntmps98 hm fun _=>?_
 refine au [64,80,47] ?_
 refine qi [] [0] [0] [0] (fun ((x0,_):Int×Unit)=>([(3,qFo x0)],[],[],[],qcZ F m1 x0)) ?_ ?_
 refine au [48,112,84] ?_
 refine qq [0,9,10] [0] [0] [0] (fun (((x1,x3),_):(Int×Int)×Unit)=>([(3,qFo x1),(11,qFo x3)],[],[],[])) ((-1:Int),(0:Int)) () ?_
 intro k0
 rintro ⟨⟨x1,x3⟩,_⟩
 refine aw [39,1,3,24,3,0,2,1,10] ?_ ?_
 refine au [57] ?_
 refine qi [0,9,10,11] [0] [0] [0] (fun ((x4,_):Int×Unit)=>([(3,qFo x4)],[],[],[],vi F (kH F m1 k0) x3 x4)) ?_ ?_
 refine au [14,48,26,5] ?_
 intro x6 e0 g0 h0
 refine kJ (j:=0) (y:=x6) (qC .i64) rfl rfl tf3 rfl h0 (qu e0).2.2 (fun _=>rfl) rfl rfl ?_
 refine au [5,59,26,4,4] ?_
 refine kI 14 [0,3,4,9,10,11] [0] [0] [0] (fun ((x7,_):Bool×Unit)=>([(32,.bool x7)],[],[],[],vj F (kH F m1 k0) x1 x3 x7)) ?_ ?_
 refine qD (os:=_) rfl ?_
 refine av [26,2] ?_ ?_
 intro h1
 refine kj (k:=18) rfl h1 ?_
 refine au [4,24,3,4] ?_
 refine kI 10 [0,3,4,9,10,11,18,19,20] [0] [0] [0] (fun (((x8,x9),_):(Bool×Bool)×Unit)=>([(21,.bool x8),(31,.bool x9)],[],[],[],vk F (kH F m1 k0) x1 x3 x8 x9)) ?_ ?_
 refine qD (os:=_) rfl ?_
 refine av [26,2] ?_ ?_
 intro h2
 refine kj (k:=21) rfl h2 ?_
 refine au [68,68,7,86] ?_
 exact qa ((true,true),())
 intro h2
 refine kg (k:=21) rfl h2 ?_
 refine au [89,112,4,26,5] ?_
 intro x10 e1 g2 h3
 refine kJ (j:=0) (y:=x10) (qC .i64) rfl rfl tf3 rfl h3 (qu e1).2.2 (fun _=>rfl) rfl rfl ?_
 refine au [24,3,85] ?_
 exact qa ((false,(decide (x6<x10))),())
 rintro ⟨⟨x8,x9⟩,_⟩
 try dsimp only
 refine qD (os:=_) rfl ?_
 refine au [86] ?_
 exact qa (x9,())
 intro h1
 refine kg (k:=18) rfl h1 ?_
 refine au [68,68,68,7,85] ?_
 exact qa (false,())
 rintro ⟨x7,_⟩
 try dsimp only
 refine qD (os:=_) rfl ?_
 refine aw [0,2,10] ?_ ?_
 refine au [3,4,5,115] ?_
 exact qa (x3,())
 refine au [11,24,2] ?_
 exact qa (x1,())
 rintro ⟨x4,_⟩
 refine au [39,94] ?_
 exact qk ((x4,iadd .i64 x3 1),())
 refine au [71] ?_
 exact qa (x1,())
 rintro ⟨x0,_⟩
 refine au [91,49] ?_
 exact qK (l2,t3)
theorem qiE (hm:qax F p1 m1 i1=some m2) :
    PureM qFv 99 [qFq t1,qFo i1] [⟨t1,137,[qFp l1 p1 t2,qFp l2 m1 t3]⟩] [qFs l2 m1 t3] [SlN eN56 iN56 1 (qFp l1 p1 t2) p1 n1] (qFn×Nat) (fun _=>.tuple #[]) (fun g=>[⟨t1,137,[qFp l1 p1 t2,qFp g.1 m2 g.2]⟩]) (fun g=>[qFs g.1 m2 g.2]):=by
 refine pureMA func99 ntmps99 hm fun _=>?_
 refine au [24,8,48,112,4,26,5] ?_
 intro x9 e9 g10 h11
 refine kz (j:=0) (y':=-1) (qC .i64) rfl rfl rfl tf3 rfl h11 (qu e9).2.1 rfl (fun x12 e12 h13=>?_)
 have h14:x12.length=m1.length:=by rw[← e12,qCJ]
 refine qs (d:=9) (v:=qFp l2 x12 t3) rfl h13 (q5 (i:=0) (cs':=[qFp l1 p1 t2,qFp l2 x12 t3]) rfl (by simp only[qFp,h13] <;> rfl) ?_)
 refine au [97,112,4,27,2] ?_
 intro x15 e15 g18 b16 o17
 refine au [25,2,84] ?_
 refine qq [0,18,19] [] [] [1,2] (fun (((x54,x55),_):(Int×qFm)×Unit)=>([(20,qFo x54)],[⟨t1,137,[qFp l1 p1 t2,qFp l2 x55 t3]⟩],[qFs l2 x55 t3],[])) ((0:Int),x12) () ?_
 intro k91
 rintro ⟨⟨x54,x55⟩,_⟩
 refine aw [39,1,3,24,3,0,2,1,10] ?_ ?_
 refine au [57] ?_
 refine qi [0,18,19,20] [] [] [0,1] (fun ((x0,_):qFm×Unit)=>([],[⟨t1,137,[qFp l1 p1 t2,qFp l2 x0 t3]⟩],[qFs l2 x0 t3],[],v6 F (v7 F x15 k91) x54 x0)) ?_ ?_
 refine au [14,45,26,3] ?_
 intro x1 e0 b0 o0
 refine au [25,2,59,112,4,26,5] ?_
 intro x3 e1 g0 h0
 refine kJ (j:=0) (y:=x3) (qC .i64) rfl rfl tf3 rfl h0 (qu e1).2.2 (fun _=>rfl) rfl rfl ?_
 refine aw [26,4,0,2,10] ?_ ?_
 refine au [3,4,112,4,26,5] ?_
 intro x4 e2 g2 h1
 refine kJ (j:=0) (y:=x4) (qC .i64) rfl rfl tf3 rfl h1 (qu e2).2.2 (fun _=>rfl) rfl rfl ?_
 refine au [25,9,26,5] ?_
 intro x6 e3 g3 h2
 refine kz (j:=0) (y':=isub .i64 x4 1) (qC .i64) rfl rfl rfl tf3 rfl h2 (qu e3).2.1 rfl (fun x7 e4 h3=>?_)
 have h4:x7.length=x55.length:=by rw[← e4,qCJ]
 refine qs (d:=27) (v:=qFp l2 x7 t3) rfl h3 (qs (d:=35) (v:=qFp l2 x7 t3) rfl h3 (q5 (i:=0) (cs':=[qFp l1 p1 t2,qFp l2 x7 t3]) rfl (by simp only[qFp,h3] <;> rfl) ?_))
 refine au [115] ?_
 exact qa (x7,())
 refine au [11,24,2] ?_
 exact qa (x55,())
 rintro ⟨x0,_⟩
 refine au [39,94] ?_
 exact qk ((iadd .i64 x54 1,x0),())
 refine au [71] ?_
 exact qK (l2,t3)
theorem qlb (F:Nat)(x1:List (qFm))(a2:qFn)(c3:(Nat×List (qFn×Nat)))(r:(qFm×Int))(hm:qda F x1=some r) :
    Pure qFv 69 [.agg #[qFp a2 x1 c3.1]] [SlN eN56 iN56 1 (qFp a2 x1 c3.1) x1 c3.2] (qFn×Nat) (fun g=>.tuple #[qFp g.1 r.1 g.2,qFo r.2]) (fun g=>[qFs g.1 r.1 g.2]) (fun _=>[]):=by
 refine pureA func69 ntmps69 hm fun _=>?_
 refine au [64,23] ?_
 intro g4
 refine au [5,81,77,28,2] ?_
 intro x7 e7 _
 refine aw [5,0,2,1,3,4,25,3,0,2,10] ?_ ?_
 refine au [48,5,99] ?_
 exact qx (none,0)
 refine au [57,77,33,3] ?_
 rintro x8 e8 ⟨a9,c10⟩
 refine qH [qFp a9 x8 c10.1,.slice none 0 0] ?_
 refine au [23] ?_
 intro g11
 refine au [47] ?_
 refine qi [5] [] [0] [] (fun ((x86,a84,c85):qFm×qFn×Nat)=>([],[⟨g11,137,[qFp a9 x8 c10.1,qFp a84 x86 c85]⟩],[qFs a84 x86 c85],[],qbx F x8 x86)) ?_ ?_
 refine au [48,112,84,27,12] ?_
 refine qq [5,23,24] [] [1] [] (fun (((x0,x2),a0,c0):(Int×qFm)×qFn×Nat)=>([(25,qFo x0)],[⟨g11,137,[qFp a9 x8 c10.1,qFp a0 x2 c0]⟩],[qFs a0 x2 c0],[])) ((0:Int),([]:qFm)) (none,0) ?_
 intro k0
 rintro ⟨⟨x0,x2⟩,a0,c0⟩
 refine aw [39,1,3,24,3,0,2,1,10] ?_ ?_
 refine au [83,45,31,7] ?_
 intro x3 e0 g0 h0 g1 h1
 refine qkB (i:=0) rfl h0 (qCN) (qi6 (j:=1) (p:=(x3,g0)) qp rfl rfl tf56 rfl h1 h0 rfl (fun _=>rfl) rfl rfl ?_)
 refine au [47,3,89,112,4,24,6] ?_
 refine zI [(x3.length:Int)] (fun a1 c1=>?_)
 refine zA 3 (qC .i64) rfl underlying56 tf3 rfl rfl rfl rfl rfl (.inl ⟨0,_,rfl⟩) rfl rfl (fun x4 e1 a3 c2=>?_)
 refine au [55,87,63] ?_
 refine qi3 (rin:=rN56) (p:=(x3,g0)) (i:=2) (k:=0) (.cons 2 rfl .nil) rfl rfl h0 ?_
 refine au [94] ?_
 exact qk ((iadd .i64 x0 1,x4),a3,c2)
 refine au [71] ?_
 exact qa (x2,a0,c0)
 rintro ⟨x86,a84,c85⟩
 refine au [91,112,24,6,26,1] ?_
 intro x87 e87 a88 c89
 refine au [80,47] ?_
 refine qN (fun ((x5,_):qFm×Unit)=>([(8,qFp a88 x5 c89)],[],[qFs a88 x5 c89],[],qf3 F x5)) ?_ ?_
 refine au [48,33,4] ?_
 rintro x6 e2 ⟨a4,c4⟩
 refine au [47,14] ?_
 refine qq [5] [] [2] [] (fun (((x9,x10,x11,x12),a5,c5):(qFm×Int×Int×qFm)×qFn×Nat)=>([(8,qFp a88 x9 c89),(9,qFo x10),(10,qFo x11)],[⟨g11,137,[qFp a9 x8 c10.1,qFp a5 x12 c5]⟩],[qFs a88 x9 c89,qFs a5 x12 c5],[])) (x87,(0:Int),x6.1,x6.2) (a4,c4) ?_
 intro k1
 rintro ⟨⟨x9,x10,x11,x12⟩,a5,c5⟩
 refine aw [39,1,1,3,4,26,4,0,2,10] ?_ ?_
 refine au [83,48,4,112,4] ?_
 refine qcX (j:=2) rfl UnF.u inferInstance rfl rfl rfl rfl ?_
 intro x13 e3 g2 h2
 refine kJ (j:=2) (y:=x13) (qC .i64) rfl rfl tf3 rfl h2 (qu e3).2.2 (fun _=>rfl) rfl rfl (qzB rfl rfl rfl rfl ?_)
 refine au [59,89,28,11] ?_
 intro x14 e4 g3 h3
 refine kz (j:=1) (y':=imax x10 x13) (qC .i64) rfl rfl rfl tf3 rfl h3 (qu e4).2.1 rfl (fun x15 e5 h4=>?_)
 have h5:x15.length=x9.length:=by rw[← e5,qCJ]
 refine qs (d:=8) (v:=qFp a88 x15 c89) rfl h4 (qs (d:=62) (v:=qFp a88 x15 c89) rfl h4 ?_)
 refine au [46,3,89] ?_
 refine qt qiE ?_
 rintro x16 e6 ⟨a6,c6⟩
 refine au [0,63,3,4,33,4] ?_
 rintro x17 e9 ⟨a7,c7⟩
 refine au [5,0] ?_
 exact qk ((x15,imax x10 x13,x17.1,x17.2),a7,c7)
 refine au [71] ?_
 exact qa (x9,())
 rintro ⟨x5,_⟩
 refine au [91,5,49] ?_
 exact qx (a88,c89)
theorem qeG {r:Unit}(hm:qar F p1 i1 i2 i3 m1 m2=some r) :
    PureM qFv 66 [qFq t1,.func (.func 67) #[] #[]] [⟨t1,85,[qFp l1 p1 t2,qFo i1,qFo i2,qFo i3,qFp l2 m1 t3,.string (bstr m2)]⟩] [] [SlN eN56 iN56 1 (qFp l1 p1 t2) p1 n1,qFr l2 m1 t3] (Nat×Nat) (fun g=>.func (.func 94) #[] #[qFq g.1,qFq g.2]) (fun g=>[⟨g.1,83,[qFq t1]⟩,⟨g.2,107,[.func (.func 67) #[] #[]]⟩,⟨t1,85,[qFp l1 p1 t2,qFo i1,qFo i2,qFo i3,qFp l2 m1 t3,.string (bstr m2)]⟩]) (fun _=>[]):=by
 refine pureMA func66 ntmps66 hm fun _=>?_
 refine au [111] ?_
 intro g12
 refine au [23] ?_
 intro g13
 refine au [80,27,5,49] ?_
 exact qK (g12,g13)
theorem qeF {r:Unit}(hm:qaq F p1 i1 i2 i3 m1 m2=some r) :
    PureM qFv 66 [qFq t1,.func (.func 69) #[] #[]] [⟨t1,85,[qFp l1 p1 t2,qFo i1,qFo i2,qFo i3,qFp l2 m1 t3,.string (bstr m2)]⟩] [] [SlN eN56 iN56 1 (qFp l1 p1 t2) p1 n1,qFr l2 m1 t3] (Nat×Nat) (fun g=>.func (.func 94) #[] #[qFq g.1,qFq g.2]) (fun g=>[⟨g.1,83,[qFq t1]⟩,⟨g.2,107,[.func (.func 69) #[] #[]]⟩,⟨t1,85,[qFp l1 p1 t2,qFo i1,qFo i2,qFo i3,qFp l2 m1 t3,.string (bstr m2)]⟩]) (fun _=>[]):=by
 refine pureMA func66 ntmps66 hm fun _=>?_
 refine au [111] ?_
 intro g12
 refine au [23] ?_
 intro g13
 refine au [80,27,5,49] ?_
 exact qK (g12,g13)
theorem qiG {r:Unit}(hm:qcO F p1 i1 i2 i3 m1 m2=some r) :
    PureM qFv 43 [qFq t1] [⟨t1,85,[qFp l1 p1 t2,qFo i1,qFo i2,qFo i3,qFp l2 m1 t3,.string (bstr m2)]⟩] [] [SlN eN56 iN56 1 (qFp l1 p1 t2) p1 n1,qFr l2 m1 t3] (Nat×Nat×Nat×Nat×Nat) (fun g=>.map (some g.1)) (fun g=>[(blkO g.1 (mapT [(([110,111,100,101,115]:qFm),.agg #[qFo 1,.func (.func 58) #[qFq t1] #[]]),(([97,114,99]:qFm),.agg #[qFo 2,.func (.func 59) #[qFq t1] #[]]),(([100,114,111,112]:qFm),.agg #[qFo 2,.func (.func 60) #[qFq t1] #[]]),(([104,111,119]:qFm),.agg #[qFo 3,.func (.func 61) #[qFq t1] #[]]),(([98,105,116,115]:qFm),.agg #[qFo 0,.func (.func 62) #[qFq t1] #[]]),(([108,105,115,116]:qFm),.agg #[qFo 1,.func (.func 63) #[qFq t1] #[]]),(([102,97,114]:qFm),.agg #[qFo 2,.func (.func 64) #[qFq t1] #[]]),(([119,97,121]:qFm),.agg #[qFo 2,.func (.func 65) #[qFq t1] #[]]),(([112,97,114,116]:qFm),.agg #[qFo 1,.func (.func 94) #[] #[qFq g.2.1,qFq g.2.2.1]]),(([111,114,100,101,114]:qFm),.agg #[qFo 0,.func (.func 68) #[qFq t1] #[]]),(([99,111,114,101]:qFm),.agg #[qFo 1,.func (.func 94) #[] #[qFq g.2.2.2.1,qFq g.2.2.2.2]]),(([116,104,114,101,101,115]:qFm),.agg #[qFo 0,.func (.func 70) #[qFq t1] #[]])])),⟨g.2.1,83,[qFq t1]⟩,⟨g.2.2.1,107,[.func (.func 67) #[] #[]]⟩,⟨g.2.2.2.1,83,[qFq t1]⟩,⟨g.2.2.2.2,107,[.func (.func 69) #[] #[]]⟩,⟨t1,85,[qFp l1 p1 t2,qFo i1,qFo i2,qFo i3,qFp l2 m1 t3,.string (bstr m2)]⟩]) (fun _=>[]):=by
 refine pureMA func43 ntmps43 hm fun _=>?_
 refine au [64,80] ?_
 refine qo8 rfl rfl ?_
 intro g12
 refine au [4,27,13] ?_
 refine qH [qFo 1,.func (.func 58) #[qFq t1] #[]] ?_
 refine yF (i:=0) (u:=([110,111,100,101,115]:qFm)) rfl underlying90 underlying9 rfl rfl rfl rfl (by kernel_rfl) ?_
 refine au [4,27,13] ?_
 refine qH [qFo 2,.func (.func 59) #[qFq t1] #[]] ?_
 refine yF (i:=0) (u:=([97,114,99]:qFm)) rfl underlying90 underlying9 rfl rfl rfl rfl (by kernel_rfl) ?_
 refine au [4,27,13] ?_
 refine qH [qFo 2,.func (.func 60) #[qFq t1] #[]] ?_
 refine yF (i:=0) (u:=([100,114,111,112]:qFm)) rfl underlying90 underlying9 rfl rfl rfl rfl (by kernel_rfl) ?_
 refine au [4,27,13] ?_
 refine qH [qFo 3,.func (.func 61) #[qFq t1] #[]] ?_
 refine yF (i:=0) (u:=([104,111,119]:qFm)) rfl underlying90 underlying9 rfl rfl rfl rfl (by kernel_rfl) ?_
 refine au [4,27,13] ?_
 refine qH [qFo 0,.func (.func 62) #[qFq t1] #[]] ?_
 refine yF (i:=0) (u:=([98,105,116,115]:qFm)) rfl underlying90 underlying9 rfl rfl rfl rfl (by kernel_rfl) ?_
 refine au [4,27,13] ?_
 refine qH [qFo 1,.func (.func 63) #[qFq t1] #[]] ?_
 refine yF (i:=0) (u:=([108,105,115,116]:qFm)) rfl underlying90 underlying9 rfl rfl rfl rfl (by kernel_rfl) ?_
 refine au [4,27,13] ?_
 refine qH [qFo 2,.func (.func 64) #[qFq t1] #[]] ?_
 refine yF (i:=0) (u:=([102,97,114]:qFm)) rfl underlying90 underlying9 rfl rfl rfl rfl (by kernel_rfl) ?_
 refine au [4,27,13] ?_
 refine qH [qFo 2,.func (.func 65) #[qFq t1] #[]] ?_
 refine yF (i:=0) (u:=([119,97,121]:qFm)) rfl underlying90 underlying9 rfl rfl rfl rfl (by kernel_rfl) ?_
 refine au [4] ?_
 refine qt qeG ?_
 rintro x13 e13 ⟨g14,g15⟩
 refine qH [qFo 1,.func (.func 94) #[] #[qFq g14,qFq g15]] ?_
 refine yF (i:=3) (u:=([112,97,114,116]:qFm)) rfl underlying90 underlying9 rfl rfl rfl rfl (by kernel_rfl) ?_
 refine au [4,27,13] ?_
 refine qH [qFo 0,.func (.func 68) #[qFq t1] #[]] ?_
 refine yF (i:=3) (u:=([111,114,100,101,114]:qFm)) rfl underlying90 underlying9 rfl rfl rfl rfl (by kernel_rfl) ?_
 refine au [4] ?_
 refine qt qeF ?_
 rintro x16 e16 ⟨g17,g18⟩
 refine qH [qFo 1,.func (.func 94) #[] #[qFq g17,qFq g18]] ?_
 refine yF (i:=5) (u:=([99,111,114,101]:qFm)) rfl underlying90 underlying9 rfl rfl rfl rfl (by kernel_rfl) ?_
 refine au [4,27,13] ?_
 refine qH [qFo 0,.func (.func 70) #[qFq t1] #[]] ?_
 refine yF (i:=5) (u:=([116,104,114,101,101,115]:qFm)) rfl underlying90 underlying9 rfl rfl rfl rfl (by kernel_rfl) ?_
 refine au [4,49] ?_
 exact qK (g12,g14,g15,g17,g18)
theorem qjf {v13:Value}{r:(Bool×qFm)}(hm:qR F p1 i1 i2 i3 m1 m2 i4 p2=some r) :
    PureM qFv 44 [qFq t1,.agg #[qFo i4,v13],qFp l3 p2 t4] [⟨t1,85,[qFp l1 p1 t2,qFo i1,qFo i2,qFo i3,qFp l2 m1 t3,.string (bstr m2)]⟩] [qFs l2 m1 t3] [SlN eN56 iN56 1 (qFp l1 p1 t2) p1 n1,Sl eT 1 (qFp l3 p2 t4) p2,GF] (qFn×Nat) (fun _=>.bool r.1) (fun g=>[⟨t1,85,[qFp l1 p1 t2,qFo i1,qFo i2,qFo i3,qFp g.1 r.2 g.2,.string (bstr m2)]⟩]) (fun g=>[qFs g.1 r.2 g.2]):=by
 refine pureMA func44 ntmps44 hm fun _=>?_
 refine au [108,23] ?_
 intro g17
 refine au [47] ?_
 refine qi [2,4] [0] [] [1,0,2] (fun ((x0,a0,c0):qFm×qFn×Nat)=>([],[⟨t1,85,[qFp l1 p1 t2,qFo i1,qFo i2,qFo i3,qFp a0 x0 c0,.string (bstr m2)]⟩],[qFs a0 x0 c0],[],qdV F i4 p2 x0)) ?_ ?_
 refine au [48,84] ?_
 refine qq [0,2,4,11,12] [0] [] [1,0,2] (fun (((x1,x3),a1,c1):(Int×qFm)×qFn×Nat)=>([(13,qFo x1)],[⟨t1,85,[qFp l1 p1 t2,qFo i1,qFo i2,qFo i3,qFp a1 x3 c1,.string (bstr m2)]⟩],[qFs a1 x3 c1],[])) ((0:Int),m1) (l2,t3) ?_
 intro k0
 rintro ⟨⟨x1,x3⟩,a1,c1⟩
 refine aw [39,1,3,24,3,0,2,1,10] ?_ ?_
 refine au [83,45] ?_
 refine vZ (j:=0) qG (by decide) rfl UnF.u inferInstance rfl rfl rfl rfl ?_
 intro x4 e0 b0 o0
 refine au [25,2,59] ?_
 refine vh EnC.e rfl rfl rfl (fun x9 e1=>qyn x4 x9 e1) (.consF 3 rfl .nil) (fun x9 e1=>?_)
 intro g0
 refine au [4,79,5,81,48] ?_
 refine qso rfl underlying50 rfl rfl ?_
 refine au [4] ?_
 refine zQ 3 24 27 [0,2,4,11,12,13,8,9] (decide (x9.1<0)) ?_ ?_ ?_
 exact az [62,61]
 exact az [4,24,3,60]
 refine au [4] ?_
 refine zQ 4 28 32 [0,2,4,11,12,13,8,9] (decide (4<(x4.length:Int))) ?_ ?_ ?_
 exact az [62,7,61]
 refine au [4] ?_
 refine qqW (a:=x4) rfl underlying9 rfl rfl ?_
 exact az [105]
 refine au [4] ?_
 refine kI 5 [0,2,4,9,11,12,13] [0,1] [0] [1,2,3] (fun ((x10,_):Bool×Unit)=>([(38,.bool x10)],[],[],[],ja F (jb F i4 p2 k0) x1 x3 x9 x10)) ?_ ?_
 refine qD (os:=_) rfl ?_
 refine av [26,2] ?_ ?_
 intro h0
 refine kj (k:=33) rfl h0 ?_
 refine au [68,86] ?_
 exact qa (true,())
 intro h0
 refine kg (k:=33) rfl h0 ?_
 refine au [4] ?_
 refine vh EnC.e rfl rfl rfl (fun x13 e2=>qf2 x9.1 x13 e2) (.consF 3 rfl .nil) (fun x13 e2 _=>?_)
 refine au [4] ?_
 refine qxW rfl UnF.u rfl rfl rfl ?_
 refine au [85] ?_
 exact qa ((!(bstr x13 == bstr x4)),())
 rintro ⟨x10,_⟩
 try dsimp only
 refine qD (os:=_) rfl ?_
 refine aw [0,2,10] ?_ ?_
 refine au [45,58,90,50] ?_
 exact qK (a1,c1)
 refine au [57,3,89,55,25,12,4] ?_
 refine zI [x9.1] (fun a2 c2=>?_)
 refine zA 1 (qC .i64) rfl underlying56 tf3 rfl rfl rfl rfl rfl (.inl ⟨0,_,rfl⟩) rfl rfl (fun x15 e3 a4 c3=>?_)
 refine au [55,25,5,0,95] ?_
 exact qk ((iadd .i64 x1 1,x15),a4,c3)
 refine au [71] ?_
 exact qa (x3,a1,c1)
 rintro ⟨x0,a0,c0⟩
 refine au [91,24,6,78,25,6,49] ?_
 exact qK (a0,c0)
theorem qiI (F g1:Nat)(x2:List (qFm))(a3:qFn)(c4:(Nat×List (qFn×Nat)))(x5 x6 x7:Int)(x8:qFm)(a9:qFn)(c10:Nat)(x11:qFm)(r:(Int×List (qFm)))(hm:qaz F x2 x5 x6 x7 x8 x11=some r) :
    PureM qFv 58 [qFq g1] [⟨g1,85,[qFp a3 x2 c4.1,qFo x5,qFo x6,qFo x7,qFp a9 x8 c10,.string (bstr x11)]⟩] [RoN eN56 rN56 56 1 (qFp a3 x2 c4.1) x2 c4.2 []] [qFr a9 x8 c10] (qFn×Nat×List (qFn×Nat)) (fun _=>qFo r.1) (fun g=>[⟨g1,85,[qFp g.1 r.2 g.2.1,qFo x5,qFo x6,qFo x7,qFp a9 x8 c10,.string (bstr x11)]⟩]) (fun g=>[RoN eN56 rN56 56 1 (qFp g.1 r.2 g.2.1) r.2 g.2.2 []]):=by
 refine pureMA func58 ntmps58 hm fun _=>?_
 refine au [64,81,48,112,26,3] ?_
 intro x16 e16 b17 o18
 refine aw [25,2,25,1,0,2,10] ?_ ?_
 refine au [45,58] ?_
 exact qK (a3,c4)
 refine au [57,48,4,112,29,1] ?_
 intro x19 e19 b20 o21
 refine au [25,2,29,11] ?_
 intro x22 e22 a23 c24
 refine qH [qFp a23 x22 c24] ?_
 refine au [55,9,21,46,45,49] ?_
 exact qK (a23,c24,(qCo x22.length ((none,0):qFn×Nat)))
theorem jP (hm:zD F w1 p1=some w2) :
    PureM qFv 158 [qFp l1 w1 t1,.func (.func 159) #[] #[qFq t2]] [⟨t2,24,[qFp l2 p1 t3]⟩] [Ro eS63 63 2 (qFp l1 w1 t1) w1] [SlN eN56 iN56 1 (qFp l2 p1 t3) p1 n1] (qFn×Nat) (fun g=>qFp g.1 w2 g.2) (fun _=>[⟨t2,24,[qFp l2 p1 t3]⟩]) (fun g=>[Ro eS63 63 2 (qFp g.1 w2 g.2) w2]):=by
 refine qdM func158 rfl ntmps158 rfl hm (fun w=>?_)
 refine au [111] ?_
 intro g8
 refine au [81,48,73] ?_
 refine qcr (encs:=(fun (p:Int×Int)=>[.agg #[qFo p.1,qFo p.2]])) (y:=(fun (x46:List (Int×Int)) ((x55,x56):Int×Int)=>kR F x46 x55 x56)) (lb:=[qFq t2]) (fun (x46:List (Int×Int)) ((a44,c45):qFn×Nat)=>[⟨g8,58,[qFp a44 x46 c45]⟩]) (fun (x46:List (Int×Int)) ((a44,c45):qFn×Nat)=>[Ro eS63 63 2 (qFp a44 x46 c45) x46]) (fun (_:Empty) (_:Unit)=>[]) (fun (_:Empty) (_:Unit)=>[]) (fun _=>.skip) w1 (l1,t1) rfl EnC.e (fun _=>rfl) rfl (.cons 1 rfl .nil) (.cons 0 rfl .nil) (.cons 0 rfl .nil) (.consF 0 rfl .nil) (fun z hz _ _ _ hY=>qei F hY w1 (l1,t1) t2 p1 l2 (t3,n1) z hz) ?_ ?_ ?_
 rintro rc1 L1 D1 x46 ⟨a44,c45⟩ ⟨x55,x56⟩ z w M _
 try dsimp only
 refine qdQ [(0,qFp l1 w1 t1),(1,.func (.func 159) #[] #[qFq t2]),(2,qFq g8),(4,.slice none 0 0),(6,.func (.func 159) #[] #[qFq t2]),(7,.agg #[qFo x55,qFo x56])] (qm rfl (qm rfl (qm rfl (qm rfl (qm rfl (qm rfl qea)))))) ?_
 refine au [3,24,5] ?_
 intro g57
 refine au [87,33,5,14,3,25,12,24,9] ?_
 refine qbl (vs:=[.agg #[qFo x55,qFo x56]]) (ys:=([(x55,x56)]:List (Int×Int))) qez (by decide) rfl underlying58 tf63 rfl rfl rfl rfl rfl (by decide) (fun a58 c59=>zA 1 qez rfl underlying58 tf63 rfl rfl rfl rfl rfl (.inl ⟨0,_,rfl⟩) rfl rfl (fun x60 e60 a61 c62=>?_))
 refine au [25,5,115] ?_
 exact vv (rc:=rc1) rfl (.cons 2 rfl .nil) rfl (a61,c62) (.cons 2 rfl (.cons 0 rfl (.cons 1 rfl .nil))) (.cons 0 rfl .nil)
 rintro x46 _ ⟨a44,c45⟩ D1
 refine au [39,63,45,25,15,49] ?_
 exact jo [D1] (a44,c45) (.inl rfl) rfl (.cons 0 rfl .nil) (res1 rfl rfl) (fun h=>by subst h;rfl) (fun h=>by subst h;exact (.cons 0 rfl .nil)) (fun h=>by subst h;exact (.cons 0 rfl .nil))
 intro t;exact t.elim
theorem qct (hm:zN F p1=some w1) :
    PureM qFv 113 [.func (.func 159) #[] #[qFq t1]] [⟨t1,24,[qFp l1 p1 t2]⟩] [] [SlN eN56 iN56 1 (qFp l1 p1 t2) p1 n1] (qFn×Nat) (fun g=>qFp g.1 w1 g.2) (fun _=>[⟨t1,24,[qFp l1 p1 t2]⟩]) (fun g=>[Ro eS63 63 2 (qFp g.1 w1 g.2) w1]):=by
 refine pureMA func113 ntmps113 hm fun _=>?_
 refine au [64,59,33,6] ?_
 refine qt jP ?_
 rintro x5 e5 ⟨a6,c7⟩
 refine au [49] ?_
 exact qK (a6,c7)
theorem qnT {r:(List (Int×Int)×Int)}(hm:qfg F p1=some r) :
    Pure qFv 82 [.agg #[qFp l1 p1 t1]] [SlN eN56 iN56 1 (qFp l1 p1 t1) p1 n1] (qFn×Nat) (fun g=>.tuple #[qFp g.1 r.1 g.2,qFo r.2]) (fun g=>[Ro eS63 63 2 (qFp g.1 r.1 g.2) r.1]) (fun _=>[]):=by
 refine pureA func82 ntmps82 hm fun _=>?_
 refine au [64,23] ?_
 intro g4
 refine au [5,81,77,28,2] ?_
 intro x7 e7 _
 refine aw [5,0,2,1,3,4,25,3,0,2,10] ?_ ?_
 refine au [48,5,58] ?_
 exact qf1 (Int×Int) eS63 63 2 (qx (none,0))
 refine au [57,77,30,7] ?_
 intro x8 e8 g9
 refine qt qct ?_
 rintro x10 e10 ⟨a11,c12⟩
 refine au [5,49] ?_
 exact qx (a11,c12)
theorem qmy (hm:qcy F i1 w1=some p1) :
    Pure qFv 115 [qFo i1,qFp l1 w1 t1] [Sl eS63 2 (qFp l1 w1 t1) w1] (qFn×Nat×List (qFn×Nat)) (fun g=>.agg #[qFp g.1 p1 g.2.1]) (fun g=>[RoN eN56 rN56 56 1 (qFp g.1 p1 g.2.1) p1 g.2.2 []]) (fun _=>[]):=by
 refine pureA func115 ntmps115 hm fun _=>?_
 refine au [56,24,5] ?_
 intro g5
 refine au [97,29,11] ?_
 intro x6 e6 a7 c8
 refine qH [qFp a7 x6 c8] ?_
 refine au [24,5] ?_
 intro g9
 refine au [21,46] ?_
 refine qi [4,5] [1] [] [] (fun ((x0,g0):List (qFm)×List (qFn×Nat))=>([],[⟨g9,24,[qFp a7 x0 c8]⟩],[RoN eN56 rN56 56 1 (qFp a7 x0 c8) x0 g0 []],[],qgS F x0)) ?_ ?_
 refine au [48,84] ?_
 refine qq [4,5,11,12] [1] [] [0] (fun (((x3,x4),g1):(Int×List (qFm))×List (qFn×Nat))=>([(13,qFo x3)],[⟨g9,24,[qFp a7 x4 c8]⟩],[RoN eN56 rN56 56 1 (qFp a7 x4 c8) x4 g1 []],[])) ((0:Int),x6) (qCo x6.length ((none,0):qFn×Nat)) ?_
 intro k0
 rintro ⟨⟨x3,x4⟩,g1⟩
 refine aw [39,1,3,24,3,0,2,1,10] ?_ ?_
 refine au [83,45,31,9] ?_
 intro x5 e0 b0 o0
 refine au [29,3,24,5] ?_
 intro g2
 refine au [21,46,29,12] ?_
 intro x7 e1 g3 h0 g4 h1
 replace h1:a7=some ⟨g4,0,none⟩:=h1
 have h2:=zM (k:=x4.length) (c:=c8) h1
 refine qfs (i:=0) rfl h0 (qCN) ?_
 refine au [29,2] ?_
 intro x8 e2 g6 h3 g7 h4
 replace h4:a7=some ⟨g7,0,none⟩:=h4
 have h5:=zM (k:=x4.length) (c:=c8) h4
 refine kD mixed [15] _ _ (.cons 0 rfl (.cons 0 rfl (.cons 0 rfl .nil))) (qg 0 rfl (qg 1 rfl (qE 1 rfl (qJ qp h0 h1) (qE 1 rfl (qJ qp h3 h4) qf)))) 16 rfl ?_
 refine au [15,0,28,12,1,15,2,24,15,3,15,4,28,12,5,15,6,24,15,7] ?_
 refine jN 8 h1 e1 ?_
 refine qy 9 (qFp g3.1 x7 g3.2) [[15]] rfl rfl rfl (qQ (j:=2) rfl tf56 rfl rfl (fun _=>rfl) rfl) ?_
 refine au [15,10,24,15,11,12,12] ?_
 refine zI [x5.2] (fun a0 c0=>?_)
 refine au [0] ?_
 refine qc (.cons 0 rfl (.cons 0 rfl (.cons 0 rfl .nil))) (qg 0 rfl (qg 1 rfl (qE 2 rfl (qJ qp h0 h1) (qE 2 rfl (qJ qp h3 h4) qf)))) ?_
 refine au [12,13] ?_
 refine zA 1 (qC .i64) rfl underlying56 tf3 rfl rfl rfl rfl rfl (.inl ⟨0,_,rfl⟩) rfl rfl (fun x9 e3 a1 c1=>?_)
 refine au [0] ?_
 refine qc (.cons 0 rfl (.cons 0 rfl (.cons 0 rfl .nil))) (qg 0 rfl (qg 1 rfl (qE 2 rfl (qJ qp h0 h1) (qE 2 rfl (qJ qp h3 h4) qf)))) (jN 14 h4 e2 ?_)
 refine au [12,15] ?_
 refine jX (j:=2) (kh:=0) (y':=x9) (q':=(a1,c1)) qp rfl rfl rfl tf56 rfl (zM h4) rfl (qu e2).2.1 rfl (.cons 0 rfl .nil) (fun x10 e4 h6 g8=>?_)
 have h7:x10.length=x4.length:=by rw[← e4,qCJ]
 refine zo 18 h6 ?_
 refine zo 22 h6 ?_
 refine q5 (i:=2) (cs':=[qFp a7 x10 c8]) rfl (by simp only[qFp,h6] <;> rfl) ?_
 refine au [0] ?_
 refine kY 15 rfl (by kernel_rfl) (.cons 0 rfl (.cons 0 rfl (.cons 0 (by simp only[qFp,h7] <;> rfl) .nil))) ?_
 refine au [54,95] ?_
 exact qk ((iadd .i64 x3 1,x10),g8)
 refine au [71] ?_
 exact qa (x4,g1)
 rintro ⟨x0,g0⟩
 refine au [117,25,10,21,46,8] ?_
 exact qee (a7,c8,g0) 0
theorem qdU {r:Unit}(hm:zm F w1=some r) :
    PureM qFv 117 [qFp l1 w1 t1] [] [] [Sl eS63 2 (qFp l1 w1 t1) w1] Nat (fun g=>.func (.func 161) #[] #[qFq g]) (fun g=>[⟨g,58,[qFp l1 w1 t1]⟩]) (fun _=>[]):=by
 refine pureMA func117 ntmps117 hm fun _=>?_
 refine au [64,23] ?_
 intro g4
 refine au [80,27,5,49] ?_
 exact qK g4
theorem qnL [inst:DM]{F:Nat}{x1:qFm}{a2:qFn}{c3:Nat}{r:Int}(hm:qfd F x1=some r) :
    Pure qFv 162 [qFp a2 x1 c3] [qFr a2 x1 c3] Unit (fun _=>qFo r) (fun _=>[]) (fun _=>[]):=by
 refine pureA func162 ntmps162 hm fun _=>?_
 refine au [64,80,47] ?_
 refine qN (fun ((_,_):Unit×Unit)=>([(3,qFo 0)],[],[],[],qhv F)) ?_ ?_
 refine au [48,84] ?_
 refine qq [3,6,7] [] [] [0] (fun ((x46,_):Int×Unit)=>([(8,qFo x46)],[],[],[])) (0:Int) () ?_
 intro k57
 rintro ⟨x46,_⟩
 refine aw [39,1,3,24,3,0,2,1,10] ?_ ?_
 refine au [83,45,26,3] ?_
 intro x63 e63 b64 o65
 refine aw [25,2,5,0,2,1,3,4,4,25,3,0,2,10] ?_ ?_
 exact az [48,49,90,103]
 refine au [11,95] ?_
 exact qk (iadd .i64 x46 1,())
 exact az [71,26,8]
 rintro ⟨_,_⟩
 exact az [91,69]
theorem qkS [inst:DM]{F:Nat}{x1:Int}{r:Bool}(hm:vw F x1=some r) :
    Pure qFv 190 [qFo x1] [] Unit (fun _=>.bool r) (fun _=>[]) (fun _=>[]):=by
 refine pureA func190 ntmps190 hm fun _=>?_
 exact az [64,59,4,25,3,69]
theorem qja [inst:DM]{F:Nat}{x1:Int}{x2:Int}{r:Int}(hm:jt F x1 x2=some r) :
    Pure qFv 163 [qFo x1,qFo x2] [] Unit (fun _=>qFo r) (fun _=>[]) (fun _=>[]):=by
 refine pureA func163 ntmps163 hm fun _=>?_
 refine au [56,59,30,9] ?_
 intro x3 e3 _
 refine au [59,30,9] ?_
 intro x4 e4 _
 refine aw [5,0,2,1,1,3,4,0,2,10] ?_ ?_
 refine aw [1,1,3,4,0,2,10] ?_ ?_
 exact az [45,58,13,24,1]
 exact az [96,76]
 refine aw [11,2,1,1,3,4,0,2,10] ?_ ?_
 exact az [45,76]
 refine aw [11,2,1,1,3,4,4,24,3,0,2,10] ?_ ?_
 exact az [45,76]
 refine aw [11,2,1,1,3,4,4,25,1,0,2,10] ?_ ?_
 exact az [45,76]
 exact az [96,69]
theorem qmA [inst:DM](F:Nat)(x1:Int)(x2:Int)(x3:Int)(x4:Int)(r:Int)(hm:qer F x1 x2 x3 x4=some r) :
    Pure qFv 118 [.agg #[qFo x1,qFo x2],.agg #[qFo x3,qFo x4]] [] Unit (fun _=>qFo r) (fun _=>[]) (fun _=>[]):=by
 refine pureA func118 ntmps118 hm fun _=>?_
 refine au [111] ?_
 intro g5
 refine au [23] ?_
 intro g6
 refine au [81] ?_
 refine qI [] [0,0] [] 13 ?_
 refine au [15,0,26,9,1,15,2,24,15,3,15,5,26,9,6,15,7,24,15,8,12,4,33,7] ?_
 intro x12 e12 _
 refine au [0,30,10,12,9,33,7] ?_
 intro x13 e13 _
 refine au [0,30,10,12,10] ?_
 refine zI [x12,x13] (fun a14 c15=>?_)
 refine au [0,30,10,12,11] ?_
 refine qd qnL ?_
 intro x16 e16 _
 exact az [0,30,10,6,12,54,2,8,24,1]
theorem qc7 (F:Nat){σ τ:Type}{J:Rounds σ τ}{yy:σ→(Int×Int)→Option (σ ⊕ τ)}{L:Nat}(hY:YieldC qFv L (fun (p:Int×Int)=>[.agg #[qFo p.1,qFo p.2]]) J yy)(s0:σ)(gs0:J.γ)(g1:Nat)(x2:List (Int×Int))(a3:qFn)(c4:Nat)(r:σ ⊕ τ)(hm:ym F yy x2 s0=some r) :
    PureM qFv 161 ([.func (.yield L) #[] #[],qFq g1]) ([⟨g1,58,[qFp a3 x2 c4]⟩]++J.IB s0 gs0) (J.IR s0 gs0) [J.F,Sl eS63 2 (qFp a3 x2 c4) x2] (J.G r) (fun _=>.tuple #[]) (fun g=>[⟨g1,58,[qFp a3 x2 c4]⟩]++J.bs r g) (fun g=>J.rs r g):=by
 refine pureMA func161 ntmps161 hm fun _=>?_
 refine au [56,18,84] ?_
 refine jm (fun (((x23,x24),g25):(Int×σ)×J.γ)=>[(0,.func (.yield L) #[] #[]),(5,qFp a3 x2 c4),(6,qFo (x2.length:Int)),(7,qFo x23)]) (fun (((x23,x24),g25):(Int×σ)×J.γ)=>[⟨g1,58,[qFp a3 x2 c4]⟩]++J.IB x24 g25) (fun (((x23,x24),g25):(Int×σ)×J.γ)=>[]++J.IR x24 g25) (fun (((x23,x24),g25):(Int×σ)×J.γ)=>[Sl eS63 2 (qFp a3 x2 c4) x2,J.F]) (fun k (s:(Int×σ)×J.γ)=>zj F yy x2 k s.1) ((0,s0),gs0) F ?_ (hB:=(.cons 0 rfl (qe 0 rfl))) (hR:=(qe 0 rfl)) (hF:=(qh 1 rfl (qh 0 rfl zG)))
 intro k44
 rintro ⟨⟨x23,x24⟩,g25⟩
 try dsimp only
 refine qbR (m':=zO F yy x2 (zj F yy x2 k44) x23 x24) rfl ?_
 refine aw [1,3,24,3,0,2,1,10] ?_ ?_
 refine au [83,45,31,9] ?_
 intro x54 e54 b55 o56
 refine au [29,3,24,5] ?_
 intro g57
 refine au [21,97,24,9] ?_
 refine qfu hY x24 (x54.1,x54.2) g25 (B1:=[⟨g57,63,[qFo x54.1,qFo x54.2]⟩,⟨g1,58,[qFp a3 x2 c4]⟩]) (R1:=[]) (j:=2) rfl rfl rfl rfl rfl rfl rfl (fun x58 _ g60=>?_) (fun x59 _ g60=>?_)
 refine au [25,7,46] ?_
 refine yf (b:=false) rfl (fun h=>by cases h) (fun _=>?_)
 refine au [11,95] ?_
 exact vz ((iadd .i64 x23 1,x58),g60) (hB:=(.cons 1 rfl (qe 1 rfl))) (hR:=(qe 0 rfl)) (hF:=(qh 1 rfl (qh 2 rfl zG)))
 refine au [25,7,46] ?_
 refine yf (b:=true) rfl (fun _=>?_) (fun h=>by cases h)
 refine au [8,90,24,7] ?_
 exact jn (B0:=[⟨g1,58,[qFp a3 x2 c4]⟩]) (x:=.inr x59) g60 (.inl rfl) (res0 rfl) (.cons 1 rfl (qe 1 rfl)) (qe 0 rfl)
 refine au [71] ?_
 exact jn (B0:=[⟨g1,58,[qFp a3 x2 c4]⟩]) (x:=.inl x24) g25 (.inr rfl) (res0 rfl) (.cons 0 rfl (qe 0 rfl)) (qe 0 rfl)
theorem k7 (hm:qO F w1 w2=some w3) :
    PureM qFv 158 [qFp l1 w1 t1,.func (.func 161) #[] #[qFq t2]] [⟨t2,58,[qFp l2 w2 t3]⟩] [Ro eS63 63 2 (qFp l1 w1 t1) w1] [Sl eS63 2 (qFp l2 w2 t3) w2] (qFn×Nat) (fun g=>qFp g.1 w3 g.2) (fun _=>[⟨t2,58,[qFp l2 w2 t3]⟩]) (fun g=>[Ro eS63 63 2 (qFp g.1 w3 g.2) w3]):=by
 refine qdM func158 rfl ntmps158 rfl hm (fun w=>?_)
 refine au [111] ?_
 intro g8
 refine au [81,48,73] ?_
 refine qcr (encs:=(fun (p:Int×Int)=>[.agg #[qFo p.1,qFo p.2]])) (y:=(fun (x46:List (Int×Int)) ((x55,x56):Int×Int)=>zn F x46 x55 x56)) (lb:=[qFq t2]) (fun (x46:List (Int×Int)) ((a44,c45):qFn×Nat)=>[⟨g8,58,[qFp a44 x46 c45]⟩]) (fun (x46:List (Int×Int)) ((a44,c45):qFn×Nat)=>[Ro eS63 63 2 (qFp a44 x46 c45) x46]) (fun (_:Empty) (_:Unit)=>[]) (fun (_:Empty) (_:Unit)=>[]) (fun _=>.skip) w1 (l1,t1) rfl EnC.e (fun _=>rfl) rfl (.cons 1 rfl .nil) (.cons 0 rfl .nil) (.cons 0 rfl .nil) (.consF 0 rfl .nil) (fun z hz _ _ _ hY=>qc7 F hY w1 (l1,t1) t2 w2 l2 t3 z hz) ?_ ?_ ?_
 rintro rc1 L1 D1 x46 ⟨a44,c45⟩ ⟨x55,x56⟩ z w M _
 try dsimp only
 refine qdQ [(0,qFp l1 w1 t1),(1,.func (.func 161) #[] #[qFq t2]),(2,qFq g8),(4,.slice none 0 0),(6,.func (.func 161) #[] #[qFq t2]),(7,.agg #[qFo x55,qFo x56])] (qm rfl (qm rfl (qm rfl (qm rfl (qm rfl (qm rfl qea)))))) ?_
 refine au [3,24,5] ?_
 intro g57
 refine au [87,33,5,14,3,25,12,24,9] ?_
 refine qbl (vs:=[.agg #[qFo x55,qFo x56]]) (ys:=([(x55,x56)]:List (Int×Int))) qez (by decide) rfl underlying58 tf63 rfl rfl rfl rfl rfl (by decide) (fun a58 c59=>zA 1 qez rfl underlying58 tf63 rfl rfl rfl rfl rfl (.inl ⟨0,_,rfl⟩) rfl rfl (fun x60 e60 a61 c62=>?_))
 refine au [25,5,115] ?_
 exact vv (rc:=rc1) rfl (.cons 2 rfl .nil) rfl (a61,c62) (.cons 2 rfl (.cons 0 rfl (.cons 1 rfl .nil))) (.cons 0 rfl .nil)
 rintro x46 _ ⟨a44,c45⟩ D1
 refine au [39,63,45,25,15,49] ?_
 exact jo [D1] (a44,c45) (.inl rfl) rfl (.cons 0 rfl .nil) (res1 rfl rfl) (fun h=>by subst h;rfl) (fun h=>by subst h;exact (.cons 0 rfl .nil)) (fun h=>by subst h;exact (.cons 0 rfl .nil))
 intro t;exact t.elim
theorem y8 (hm:qM F w1=some w2) :
    PureM qFv 113 [.func (.func 161) #[] #[qFq t1]] [⟨t1,58,[qFp l1 w1 t2]⟩] [] [Sl eS63 2 (qFp l1 w1 t2) w1] (qFn×Nat) (fun g=>qFp g.1 w2 g.2) (fun _=>[⟨t1,58,[qFp l1 w1 t2]⟩]) (fun g=>[Ro eS63 63 2 (qFp g.1 w2 g.2) w2]):=by
 refine pureMA func113 ntmps113 hm fun _=>?_
 refine au [64,59,33,6] ?_
 refine qt k7 ?_
 rintro x5 e5 ⟨a6,c7⟩
 refine au [49] ?_
 exact qK (a6,c7)
theorem jZ (hm:zL F w1=some w2) :
    PureM qFv 160 [qFp l1 w1 t1,.func (.func 118) #[] #[]] [] [Ro eS63 63 2 (qFp l1 w1 t1) w1] [] Unit (fun _=>.tuple #[]) (fun _=>[]) (fun _=>[Ro eS63 63 2 (qFp l1 w2 t1) w2]) :=
  qqK (cb:=[]) (BC:=[]) (Φ:=[]) qez (by decide) (qr6 _) (fun p cap w=>Tryz.sortn160 p cap _ w) (fun a b z h=>(toM1 (qmA (inst:=dm1) F a.1 a.2 b.1 b.2 z h))) hm
theorem kV (hm:ql F w1=some w2) :
    PureM qFv 116 [.func (.func 161) #[] #[qFq t1],.func (.func 118) #[] #[]] [⟨t1,58,[qFp l1 w1 t2]⟩] [] [Sl eS63 2 (qFp l1 w1 t2) w1] (qFn×Nat) (fun g=>qFp g.1 w2 g.2) (fun _=>[⟨t1,58,[qFp l1 w1 t2]⟩]) (fun g=>[Ro eS63 63 2 (qFp g.1 w2 g.2) w2]):=by
 refine pureMA func116 ntmps116 hm fun _=>?_
 refine au [56,59] ?_
 refine qt y8 ?_
 rintro x5 e5 ⟨a6,c7⟩
 refine au [59,4] ?_
 refine qt jZ ?_
 intro x8 e8 _
 refine au [26,11] ?_
 intro h9
 replace h9:=of_decide_eq_true h9
 refine qs (d:=5) (v:=qFp a6 x8 c7) rfl (by simp only[qFp,h9] <;> rfl) (qs (d:=7) (v:=qFp a6 x8 c7) rfl (by simp only[qFp,h9] <;> rfl) (qs (d:=8) (v:=qFp a6 x8 c7) rfl (by simp only[qFp,h9] <;> rfl) ?_))
 refine au [97,49] ?_
 exact qK (a6,c7)
theorem qrh {r:(List (qFm)×Int)}(hm:qg7 F i1 w1=some r) :
    Pure qFv 83 [qFo i1,qFp l1 w1 t1] [Sl eS63 2 (qFp l1 w1 t1) w1] (qFn×Nat×List (qFn×Nat)) (fun g=>.tuple #[.agg #[qFp g.1 r.1 g.2.1],qFo r.2]) (fun g=>[RoN eN56 rN56 56 1 (qFp g.1 r.1 g.2.1) r.1 g.2.2 []]) (fun _=>[]):=by
 refine pureA func83 ntmps83 hm fun _=>?_
 refine au [56,24,5] ?_
 intro g5
 refine au [81,14,48,24,3,4] ?_
 refine zQ 3 14 17 [0,1,4] (decide (100<i1)) ?_ ?_ ?_
 exact az [62,61]
 exact az [4,105]
 refine aw [5,0,2,10] ?_ ?_
 refine au [45] ?_
 refine qH [.slice none 0 0] ?_
 exact az [21,49,50,27,1,29,14]
 refine aw [1,3,4,24,6,25,1,5,0,2,10] ?_ ?_
 refine au [45] ?_
 refine qH [.slice none 0 0] ?_
 exact az [21,49,50,27,1,29,14]
 refine au [11,63,45] ?_
 refine qqY (k0:=.i64) (k1:=.i64) rfl rfl (fun g10=>?_)
 refine au [47] ?_
 refine qi [0,1,4] [1] [] [0] (fun ((_,_):Unit×Unit)=>([],[],[],[],qgy F i1 w1)) ?_ ?_
 refine au [48,84] ?_
 refine qq [0,1,4,6,25,26] [1] [] [0] (fun (((x0,x3),_):(Int×List (Int×Int))×Unit)=>([(27,qFo x0)],[(blkO g10 (mapO .i64 .i64 x3))],[],[])) ((0:Int),([]:List (Int×Int))) () ?_
 intro k2
 rintro ⟨⟨x0,x3⟩,_⟩
 refine aw [39,1,3,24,3,0,2,1,10] ?_ ?_
 refine au [83,45,31,9] ?_
 intro x4 e0 b0 o0
 refine au [29,3,24,5] ?_
 intro g0
 refine au [21,46,1,45,78,24,3,4] ?_
 refine zQ 5 34 39 [0,1,4,6,25,26,27,8] (decide (i1≤x4.1)) ?_ ?_ ?_
 exact az [68,61]
 exact az [78,4,26,4,60]
 refine au [4] ?_
 refine zQ 4 40 44 [0,1,4,6,25,26,27,8] (decide (x4.2<0)) ?_ ?_ ?_
 exact az [62,7,61]
 exact az [78,24,3,60]
 refine au [4] ?_
 refine zQ 5 45 50 [0,1,4,6,25,26,27,8] (decide (i1≤x4.2)) ?_ ?_ ?_
 exact az [68,61]
 exact az [78,4,26,4,60]
 refine aw [0,2,10] ?_ ?_
 refine au [45] ?_
 refine qH [.slice none 0 0] ?_
 exact az [25,5,58,90,50,27,1,33,8]
 refine au [82,48,24,9] ?_
 refine qqX (i:=2) (p:=(x4.1,x4.2)) rfl underlying155 se63 tf156 rfl rfl rfl rfl ?_
 refine au [4,79,24,5] ?_
 intro g1
 refine aw [21,5,0,2,1,3,4,0,2,10] ?_ ?_
 refine au [45] ?_
 refine qH [.slice none 0 0] ?_
 refine au [27,9,58,90,50,27,1] ?_
 exact ku (none,0,([]:List (qFn×Nat))) 2
 refine au [57,3,4,25,10,33,9] ?_
 refine qsn (i:=3) (p:=(x4.1,x4.2)) rfl underlying155 se63 rfl rfl rfl rfl (fun x5 e1=>?_)
 refine au [0,95] ?_
 exact qk ((iadd .i64 x0 1,x5),())
 exact az [71,26,8]
 rintro ⟨_,_⟩
 refine au [91,4,33,10] ?_
 intro x6 e2 g2
 refine au [33,11] ?_
 rintro x7 e3 ⟨a0,c0⟩
 refine au [33,12] ?_
 rintro x8 e4 ⟨a1,c1⟩
 refine au [25,5,49] ?_
 exact ku (a1,c1) 1
theorem qj2 (F g1:Nat)(x2:List (qFm))(a3:qFn)(c4:(Nat×List (qFn×Nat)))(x5 x6 x7:Int)(x8:qFm)(a9:qFn)(c10:Nat)(x11:qFm)(r:(Int×List (qFm)))(hm:qch F x2 x5 x6 x7 x8 x11=some r) :
    PureM qFv 59 [qFq g1] [⟨g1,85,[qFp a3 x2 c4.1,qFo x5,qFo x6,qFo x7,qFp a9 x8 c10,.string (bstr x11)]⟩] [RoN eN56 rN56 56 1 (qFp a3 x2 c4.1) x2 c4.2 []] [qFr a9 x8 c10] (qFn×Nat×List (qFn×Nat)) (fun _=>qFo r.1) (fun g=>[⟨g1,85,[qFp g.1 r.2 g.2.1,qFo x5,qFo x6,qFo x7,qFp a9 x8 c10,.string (bstr x11)]⟩]) (fun g=>[RoN eN56 rN56 56 1 (qFp g.1 r.2 g.2.1) r.2 g.2.2 []]):=by
 refine pureMA func59 ntmps59 hm fun _=>?_
 refine au [64,59,55,9,24,9] ?_
 refine qd qnT ?_
 rintro x12 e12 ⟨a13,c14⟩
 refine au [4,79,5,81,29,15] ?_
 intro x31 e31 b32 o33 h34
 replace h34:a9=some ⟨b32,o33,none⟩:=h34
 refine au [28,4] ?_
 intro x35 e35 b36 o37 h38
 replace h38:a9=some ⟨b36,o37,none⟩:=h38
 refine kD mixed [31] _ _ .nil (qg 0 rfl (qg 1 rfl (qg 2 rfl (qgV 0 rfl qf)))) 33 rfl ?_
 refine au [92,15,3,15,4,15,5] ?_
 refine qy 6 (qFp a3 x2 c4.1) [[31]] rfl rfl rfl (kX (j:=3) rfl tf22 rfl rfl (fun _=>rfl) rfl) ?_
 refine au [28,3,7,6,8,6,9,6,10,15,11] ?_
 refine qy 12 (qFp a9 x8 c10) [[31]] rfl rfl rfl (kX (j:=3) rfl tf56 rfl rfl (fun _=>rfl) rfl) (vg 13 h34 e31 ?_)
 refine qy 14 (qFo x31) [[31]] rfl rfl rfl (qQ (j:=1) rfl tf3 rfl rfl (fun _=>rfl) rfl) ?_
 refine au [6,15,6,16,15,17] ?_
 refine qy 18 (qFp a9 x8 c10) [[31]] rfl rfl rfl (kX (j:=3) rfl tf56 rfl rfl (fun _=>rfl) rfl) (vg 19 h38 e35 ?_)
 refine qy 20 (qFo x35) [[31]] rfl rfl rfl (qQ (j:=0) rfl tf3 rfl rfl (fun _=>rfl) rfl) (qb 21 (.agg #[qFo x31,qFo x35]) rfl rfl rfl (qdR (cells:=[qFo x31,qFo x35]) st63 rfl (by kernel_rfl)) ?_)
 refine au [12,22] ?_
 refine qbl (vs:=[.agg #[qFo x31,qFo x35]]) (ys:=([(x31,x35)]:List (Int×Int))) qez (by decide) rfl underlying58 tf63 rfl rfl rfl rfl rfl (by decide) (fun a39 c40=>?_)
 refine au [0,31,10,12,23] ?_
 refine zA 1 qez rfl underlying58 tf63 rfl rfl rfl rfl rfl (.inl ⟨0,_,rfl⟩) rfl rfl (fun x41 e41 a42 c43=>?_)
 refine au [0,31,10,12,24] ?_
 refine qd qrh ?_
 rintro x44 e44 ⟨a45,c46⟩
 refine au [0,31,10,6,25,6,26,6,27,6,28,15,29,15,30,12,31,87] ?_
 refine kY 31 rfl (by kernel_rfl) .nil ?_
 refine au [6,32,54,2,48,49] ?_
 exact qK (a45,c46)
theorem qhG (F:Nat)(x1:Int)(g2 g3:Nat)(x4:List (qFm))(a5:qFn)(c6:(Nat×List (qFn×Nat)))(x7 x8 x9:Int)(x10:qFm)(a11:qFn)(c12:Nat)(x13:qFm)(r:Bool)(hm:va F x1 x4 x7 x8 x9 x10 x13=some r) :
    PureM qFv 120 [qFo x1,qFq g2] [⟨g2,83,[qFq g3]⟩,⟨g3,85,[qFp a5 x4 c6.1,qFo x7,qFo x8,qFo x9,qFp a11 x10 c12,.string (bstr x13)]⟩] [] [SlN eN56 iN56 1 (qFp a5 x4 c6.1) x4 c6.2,qFr a11 x10 c12] Unit (fun _=>.bool r) (fun _=>[⟨g2,83,[qFq g3]⟩,⟨g3,85,[qFp a5 x4 c6.1,qFo x7,qFo x8,qFo x9,qFp a11 x10 c12,.string (bstr x13)]⟩]) (fun _=>[]):=by
 refine pureMA func120 ntmps120 hm fun _=>?_
 exact az [56,59,18,55,9,98,24,6,26,4,88]
theorem jY (hm:zb F m1 p1 i1 i2 i3 m2 m3=some i4) :
    PureM qFv 129 [qFp l1 m1 t1,.func (.func 120) #[] #[qFq t2]] [⟨t2,83,[qFq t3]⟩,⟨t3,85,[qFp l2 p1 t4,qFo i1,qFo i2,qFo i3,qFp l3 m2 t5,.string (bstr m3)]⟩] [] [qFr l1 m1 t1,SlN eN56 iN56 1 (qFp l2 p1 t4) p1 n1,qFr l3 m2 t5] Unit (fun _=>qFo i4) (fun _=>[⟨t2,83,[qFq t3]⟩,⟨t3,85,[qFp l2 p1 t4,qFo i1,qFo i2,qFo i3,qFp l3 m2 t5,.string (bstr m3)]⟩]) (fun _=>[]):=by
 refine pureMA func129 ntmps129 hm fun _=>?_
 refine au [56,47] ?_
 refine qi [] [0,1] [] [1,2] (fun ((_,_):Unit×Unit)=>([],[],[],[],kW F)) ?_ ?_
 refine au [48,84] ?_
 refine qq [0,1,7] [0,0] [] [0,1,2] (fun ((x66,_):Int×Unit)=>([(8,qFo x66)],[],[],[])) (0:Int) () ?_
 intro k79
 rintro ⟨x66,_⟩
 refine aw [39,1,3,24,3,0,2,1,10] ?_ ?_
 refine au [83,48,59,89,26,3] ?_
 intro x86 e86 b87 o88
 refine au [25,2] ?_
 refine qfZ EnC.e rfl rfl rfl rfl (fun x89 e89=>qhG F x86 t2 t3 p1 l2 (t4,n1) i1 i2 i3 m2 l3 t5 m3 x89 e89) (.cons 0 rfl (.cons 0 rfl .nil)) .nil (.consF 2 rfl (.consF 3 rfl .nil)) (fun x89 e89 _=>?_)
 refine aw [0,2,10] ?_ ?_
 exact az [48,49,90,50,25,14]
 refine au [11,95] ?_
 exact qk (iadd .i64 x66 1,())
 exact az [71,26,8]
 rintro ⟨_,_⟩
 exact az [117,88]
theorem jg (hm:qX F m1 p1 i1 i2 i3 m2 m3=some d1) :
    PureM qFv 119 [qFp l1 m1 t1,.func (.func 120) #[] #[qFq t2]] [⟨t2,83,[qFq t3]⟩,⟨t3,85,[qFp l2 p1 t4,qFo i1,qFo i2,qFo i3,qFp l3 m2 t5,.string (bstr m3)]⟩] [] [qFr l1 m1 t1,SlN eN56 iN56 1 (qFp l2 p1 t4) p1 n1,qFr l3 m2 t5] Unit (fun _=>.bool d1) (fun _=>[⟨t2,83,[qFq t3]⟩,⟨t3,85,[qFp l2 p1 t4,qFo i1,qFo i2,qFo i3,qFp l3 m2 t5,.string (bstr m3)]⟩]) (fun _=>[]):=by
 refine pureMA func119 ntmps119 hm fun _=>?_
 refine au [56,59,4] ?_
 refine qt jY ?_
 intro x16 e16 _
 exact az [26,4,88]
theorem qiF (hm:zX F p1 i1 i2 i3 m1 m2 m3=some d1) :
    PureM qFv 84 [qFq t1,qFp l3 m3 t4] [⟨t1,85,[qFp l1 p1 t2,qFo i1,qFo i2,qFo i3,qFp l2 m1 t3,.string (bstr m2)]⟩] [] [SlN eN56 iN56 1 (qFp l1 p1 t2) p1 n1,qFr l2 m1 t3,qFr l3 m3 t4] Unit (fun _=>.bool d1) (fun _=>[⟨t1,85,[qFp l1 p1 t2,qFo i1,qFo i2,qFo i3,qFp l2 m1 t3,.string (bstr m2)]⟩]) (fun _=>[]):=by
 refine pureMA func84 ntmps84 hm fun _=>?_
 refine au [111] ?_
 intro g15
 refine au [59,27,5] ?_
 refine qt jg ?_
 intro x16 e16 _
 exact az [25,7,88]
theorem qgP {x4 x5:Int}(hm:vq F m1 x4 x5=some m2) :
    PureM qFv 86 [qFp l1 m1 t1,qFo x4,qFo x5] [] [qFs l1 m1 t1] [] (qFn×Nat) (fun g=>qFp g.1 m2 g.2) (fun _=>[]) (fun g=>[qFs g.1 m2 g.2]):=by
  unfold vq at hm
  split at hm
  · cases hm
    exact qok Tryz.slices_Delete_int_arr (by assumption)
  · simp at hm
theorem qjc (F g1:Nat)(x2:List (qFm))(a3:qFn)(c4:(Nat×List (qFn×Nat)))(x5 x6 x7:Int)(x8:qFm)(a9:qFn)(c10:Nat)(x11:qFm)(r:(Int×List (qFm)))(hm:vl F x2 x5 x6 x7 x8 x11=some r) :
    PureM qFv 60 [qFq g1] [⟨g1,85,[qFp a3 x2 c4.1,qFo x5,qFo x6,qFo x7,qFp a9 x8 c10,.string (bstr x11)]⟩] [RoN eN56 rN56 56 1 (qFp a3 x2 c4.1) x2 c4.2 []] [qFr a9 x8 c10] (qFn×Nat×List (qFn×Nat)) (fun _=>qFo r.1) (fun g=>[⟨g1,85,[qFp g.1 r.2 g.2.1,qFo x5,qFo x6,qFo x7,qFp a9 x8 c10,.string (bstr x11)]⟩]) (fun g=>[RoN eN56 rN56 56 1 (qFp g.1 r.2 g.2.1) r.2 g.2.2 []]):=by
 refine pureMA func60 ntmps60 hm fun _=>?_
 refine au [64,81,48,4,112,30,11] ?_
 intro x14 e14 _
 refine aw [25,7,0,2,10] ?_ ?_
 refine au [45,58] ?_
 exact qK (a3,c4)
 refine au [82,29,15] ?_
 intro x25 e25 b26 o27 h28
 replace h28:a9=some ⟨b26,o27,none⟩:=h28
 refine au [29,12] ?_
 intro x29 e29 g30 h31 g32 h33
 replace h33:a3=some ⟨g32,0,none⟩:=h33
 have h34:=zM (k:=x2.length) (c:=c4.1) h33
 refine qfs (i:=0) rfl h31 (qCN) (kD mixed [] _ _ (.cons 0 rfl .nil) (qg 0 rfl (qg 1 rfl (qE 1 rfl (qJ qp h31 h33) qf))) 15 rfl ?_)
 refine au [70,15,2,15,3,15,4,24,15,5,67,15,8,24,15,9] ?_
 refine vg 10 h28 e25 ?_
 refine qy 11 (qFo x25) [] rfl rfl rfl (qQ (j:=0) rfl tf3 rfl rfl (fun _=>rfl) rfl) (jN 12 h33 e29 ?_)
 refine qy 13 (qFp g30.1 x29 g30.2) [] rfl rfl rfl (qQ (j:=2) rfl tf56 rfl rfl (fun _=>rfl) rfl) ?_
 refine au [6,14,54,2,48,4,112,29,1] ?_
 intro x35 e35 b36 o37
 refine au [25,2,31,6] ?_
 intro x38 e38 _
 refine aw [5,0,2,1,1,3,4,24,3,0,2,10] ?_ ?_
 refine au [1] ?_
 refine qi3 (rin:=rN56) (p:=(x29,g30)) (i:=0) (k:=0) (.cons 0 rfl .nil) rfl rfl h31 ?_
 refine au [3,58] ?_
 exact qK (a3,c4)
 refine au [82] ?_
 refine qu3 e25 ?_
 refine au [29,4] ?_
 intro x57 e57 b58 o59 h60
 obtain rfl:x25=x57:=Option.some.inj (e25.symm.trans e57)
 replace h60:a9=some ⟨b58,o59,none⟩:=h60
 refine au [29,2] ?_
 intro x61 e61 g62 h63 g64 h65
 replace h65:a3=some ⟨g64,0,none⟩:=h65
 have h66:=zM (k:=x2.length) (c:=c4.1) h65
 refine qI [] [0] [0,1,2,3] 19 ?_
 refine au [70,15,2,15,3,15,4,24,15,5,67,15,8,24,15,9] ?_
 refine vg 10 h60 e25 ?_
 refine qy 11 (qFo x25) [] rfl rfl rfl (qQ (j:=0) rfl tf3 rfl rfl (fun _=>rfl) rfl) ?_
 refine au [100,6,14,6,15,12,16] ?_
 refine qt qgP ?_
 rintro x67 e67 ⟨a68,c69⟩
 refine au [0,33,13] ?_
 refine jN 17 h65 e61 ?_
 refine au [12,18] ?_
 refine jX (j:=1) (kh:=0) (y':=x67) (q':=(a68,c69)) qp rfl rfl rfl tf56 rfl (zM h65) rfl (qu e61).2.1 rfl (.cons 0 rfl .nil) (fun x70 e70 h71 g73=>?_)
 have h72:x70.length=x2.length:=by rw[← e70,qCJ]
 refine zo 17 h71 ?_
 refine zo 41 h71 ?_
 refine q5 (i:=0) (cs':=[qFp a3 x70 c4.1,qFo x5,qFo x6,qFo x7,qFp a9 x8 c10,.string (bstr x11)]) rfl (by simp only[qFp,h71] <;> rfl) ?_
 refine au [0] ?_
 refine qc (.cons 0 (by simp only[qFp,h72] <;> rfl) .nil) (qg 0 rfl (qg 1 rfl (qg 2 rfl (qg 3 rfl qf)))) ?_
 refine au [54,2,45,49] ?_
 exact qK (a3,c4.1,g73)
theorem qj4 (F g1:Nat)(x2:List (qFm))(a3:qFn)(c4:(Nat×List (qFn×Nat)))(x5 x6 x7:Int)(x8:qFm)(a9:qFn)(c10:Nat)(x11:qFm)(r:(Int×Int×Int×Int))(hm:qcj F x2 x5 x6 x7 x8 x11=some r) :
    PureM qFv 61 [qFq g1] [⟨g1,85,[qFp a3 x2 c4.1,qFo x5,qFo x6,qFo x7,qFp a9 x8 c10,.string (bstr x11)]⟩] [] [SlN eN56 iN56 1 (qFp a3 x2 c4.1) x2 c4.2,qFr a9 x8 c10] Unit (fun _=>qFo r.1) (fun _=>[⟨g1,85,[qFp a3 x2 c4.1,qFo r.2.1,qFo r.2.2.1,qFo r.2.2.2,qFp a9 x8 c10,.string (bstr x11)]⟩]) (fun _=>[]):=by
 refine pureMA func61 ntmps61 hm fun _=>?_
 refine au [64,81,28,4] ?_
 intro x24 e24 b25 o26 h27
 replace h27:a9=some ⟨b25,o26,none⟩:=h27
 refine au [29,4] ?_
 intro x28 e28 b29 o30 h31
 replace h31:a9=some ⟨b29,o30,none⟩:=h31
 refine qfY (j:=3) (qC .i64) (by decide) rfl ?_
 intro x32 e32 b33 o34 h35
 replace h35:a9=some ⟨b33,o34,none⟩:=h35
 refine kD mixed [23] _ _ .nil (qg 0 rfl (qg 1 rfl (qg 2 rfl (qg 3 rfl (qg 4 rfl (qgV 0 rfl qf)))))) 24 rfl ?_
 refine au [92,15,3] ?_
 refine qy 4 (qFp a9 x8 c10) [[23]] rfl rfl rfl (kX (j:=5) rfl tf56 rfl rfl (fun _=>rfl) rfl) (vg 5 h27 e24 ?_)
 refine qy 6 (qFo x24) [[23]] rfl rfl rfl (qQ (j:=2) rfl tf3 rfl rfl (fun _=>rfl) rfl) ?_
 refine au [6,7,6,8,15,9] ?_
 refine qy 10 (qFp a9 x8 c10) [[23]] rfl rfl rfl (kX (j:=5) rfl tf56 rfl rfl (fun _=>rfl) rfl) (vg 11 h31 e28 ?_)
 refine qy 12 (qFo x28) [[23]] rfl rfl rfl (qQ (j:=1) rfl tf3 rfl rfl (fun _=>rfl) rfl) ?_
 refine au [6,13,6,14,15,15] ?_
 refine qy 16 (qFp a9 x8 c10) [[23]] rfl rfl rfl (kX (j:=5) rfl tf56 rfl rfl (fun _=>rfl) rfl) (vg 17 h35 e32 ?_)
 refine qy 18 (qFo x32) [[23]] rfl rfl rfl (qQ (j:=0) rfl tf3 rfl rfl (fun _=>rfl) rfl) (qb 19 (.agg #[qFo x24,qFo x28,qFo x32]) rfl rfl rfl (qdR (cells:=[qFo x24,qFo x28,qFo x32]) st26 rfl (by kernel_rfl)) ?_)
 refine au [6,20,15,21,15,22,12,23,87] ?_
 refine kY 23 rfl (by kernel_rfl) .nil ?_
 refine au [54,2,48,55,9,24,9,29,10] ?_
 intro x36 e36 _
 exact az [88]
theorem qgg (hm:yW F m1=some m2) :
    Pure qFv 260 [qFp l1 m1 t1] [qFt l1 m1 t1] (qFn×Nat) (fun g=>qFp g.1 m2 g.2) (fun g=>[qFu g.1 m2 g.2]) (fun _=>[]):=by
 refine pureA func260 ntmps260 hm fun _=>?_
 refine av [64,81,48,32,13,46,32,14] ?_ ?_
 intro h11
 refine qqS 0 (qC .u8) (by decide) rfl h11 (fun h12=>?_)
 subst h12
 refine qbR (m':=some ([]:qFm)) rfl ?_
 refine au [45,58,26,0] ?_
 exact qx (none,0)
 intro _
 refine au [96] ?_
 refine zI (k:=.u8) [] ?_
 intro a6 c7
 refine au [4] ?_
 refine zA 0 (qC .u8) rfl UnF.u inferInstance rfl rfl rfl rfl rfl (.inr ⟨0,rfl⟩) rfl rfl ?_
 intro x8 e8 a9 c10
 refine au [49] ?_
 exact qx (a9,c10)
theorem qra {r:(Int×qFm)}(hm:qfy F i1 m1=some r) :
    PureM qFv 231 [.agg #[qFo i1,qFp l1 m1 t1]] [] [] [qFt l1 m1 t1] ((qFn×Nat)×Nat) (fun g=>qFq g.2) (fun g=>[⟨g.2,299,[qFo r.1,qFp g.1.1 r.2 g.1.2]⟩]) (fun g=>[qFu g.1.1 r.2 g.1.2]):=by
 refine pureMA func231 ntmps231 hm fun _=>?_
 refine au [64,23] ?_
 intro g5
 refine au [81] ?_
 refine qI [] [0] [0] 9 ?_
 refine au [109,15,2,24,15,3,12,4] ?_
 refine qd qgg ?_
 rintro x10 e10 ⟨a11,c12⟩
 refine au [72] ?_
 refine qb 5 (.agg #[qFo i1,qFp a11 x10 c12]) rfl rfl rfl (qdR (cells:=[qFo i1,qFp a11 x10 c12]) st65 rfl (by kernel_rfl)) (qb 6 (.agg #[qFo i1,qFp a11 x10 c12]) rfl rfl rfl (qdR (cells:=[qFo i1,qFp a11 x10 c12]) st299 rfl (by kernel_rfl)) ?_)
 refine au [12,7,23] ?_
 intro g13
 refine au [0,26,13,6,8,54,2,8] ?_
 exact qK ((a11,c12),g13)
theorem qmt {r:Unit}(hm:qgk F i1 m1 i2 i3=some r) :
    PureM qFv 232 [.agg #[qFo i1,qFp l1 m1 t1],qFo i2,qFo i3] [] [] [qFt l1 m1 t1] (Nat×Nat×Nat) (fun g=>.func (.func 261) #[] #[qFq g.1,qFq g.2.1,qFq g.2.2]) (fun g=>[⟨g.1,3,[qFo i2]⟩,⟨g.2.1,3,[qFo i3]⟩,⟨g.2.2,65,[qFo i1,qFp l1 m1 t1]⟩]) (fun _=>[]):=by
 refine pureMA func232 ntmps232 hm fun _=>?_
 refine au [108,23] ?_
 intro g7
 refine au [23] ?_
 intro g8
 refine au [23] ?_
 intro g9
 refine au [80,27,5,49] ?_
 exact qK (g8,g9,g7)
theorem qi9 {r:(Int×qFm)}(hm:jr F i1 m1 i2=some r) :
    PureM qFv 233 [qFq t1,.int .u64 i2] [⟨t1,299,[qFo i1,qFp l1 m1 t2]⟩] [qFu l1 m1 t2] [] (qFn×Nat) (fun _=>.tuple #[]) (fun g=>[⟨t1,299,[qFo r.1,qFp g.1 r.2 g.2]⟩]) (fun g=>[qFu g.1 r.2 g.2]):=by
 refine pureMA func233 ntmps233 hm fun _=>?_
 refine au [24,8] ?_
 refine qi [0,1] [] [] [] (fun ((x15,a13,c14):qFm×qFn×Nat)=>([],[⟨t1,299,[qFo i1,qFp a13 x15 c14]⟩],[qFu a13 x15 c14],[],y9 F i1 i2 x15)) ?_ ?_
 refine aw [1,3,4,24,10,9,9,18,33,14,25,6,0,2,10] ?_ ?_
 refine au [3,89,55,78] ?_
 refine zI [0] ?_
 intro a44 c45
 refine zA 1 (qC .u8) rfl underlying41 tf5 rfl rfl rfl rfl rfl (.inl ⟨0,_,rfl⟩) rfl rfl (fun x46 e46 a47 c48=>?_)
 refine au [55,9,87] ?_
 exact qa (x46,a47,c48)
 refine au [11] ?_
 exact qa (m1,l1,t2)
 rintro ⟨x15,a13,c14⟩
 refine au [39,1,30,0] ?_
 intro x30 e30 g31 h32
 replace h32:a13=some ⟨g31,0,none⟩:=h32
 have h33:=zM (k:=x15.length) (c:=c14) h32
 refine au [28,6] ?_
 intro h34
 refine au [30,0] ?_
 intro x36 e36 g37 h38
 replace h38:a13=some ⟨g37,0,none⟩:=h38
 have h39:=zM (k:=x15.length) (c:=c14) h38
 refine kD mixed [25] _ _ (.cons 0 rfl .nil) (qE 0 rfl (qo (qC .u8) e30 h32) (qE 0 rfl (qo (qC .u8) e36 h38) qf)) 26 rfl ?_
 refine au [70,15,2,15,3,24,15,4,6,5,6,6,15,7,15,8,24,15,9] ?_
 refine qb 10 (qFo (iquo .i64 i1 8)) rfl rfl rfl (qBJ rfl rfl rfl) (jN 11 h32 e30 ?_)
 refine qy 12 (.int .u8 x30) [[25]] rfl rfl rfl (qQ (j:=0) rfl tf5 rfl rfl (fun _=>rfl) rfl) ?_
 refine au [6,13] ?_
 refine qb 14 (.int .u64 (ishl .u64 i2 7)) rfl rfl rfl (qi8 rfl rfl rfl) ?_
 refine au [33,15,15,6,16,6,17,15,18,15,19,24,15,20] ?_
 refine qb 21 (qFo (irem i1 8)) rfl rfl rfl (qpn rfl rfl rfl) (qb 22 (.int .u8 (ishr .u8 (iconv .u8 (ishl .u64 i2 7)) (irem i1 8))) rfl rfl rfl (qBK rfl rfl h34) ?_)
 refine au [6,23] ?_
 refine jN 24 h38 e36 ?_
 refine au [12,25] ?_
 refine kz (j:=0) (y':=ior .u8 x30 (ishr .u8 (iconv .u8 (ishl .u64 i2 7)) (irem i1 8))) (qC .u8) rfl rfl rfl tf5 rfl (zM h38) (qu e36).2.1 rfl (fun x41 e41 h42=>?_)
 have h43:x41.length=x15.length:=by rw[← e41,qCJ]
 refine qs (d:=26) (v:=qFp a13 x41 c14) rfl h42 (q5 (i:=0) (cs':=[qFo i1,qFp a13 x41 c14]) rfl (by simp only[qFp,h42] <;> rfl) ?_)
 refine au [0] ?_
 refine kY 25 rfl (by kernel_rfl) (.cons 0 (by simp only[qFp,h43] <;> rfl) .nil) ?_
 refine au [54,2,3,4,55,78,24,0,55,9,87] ?_
 exact qK (a13,c14)
end Go.Proofs.YthibchijlpflmaaGreatDoor
