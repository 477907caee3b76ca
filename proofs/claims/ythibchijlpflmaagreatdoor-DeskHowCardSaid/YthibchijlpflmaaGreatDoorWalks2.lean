/- Each Go function of this seat computes what its model says, part 2. -/
import Derived.Test.YthibchijlpflmaaGreatDoorWalks
open List renaming replicate→qBd, length_set→qBs, not_mem_nil→qBw
namespace Go.Proofs.YthibchijlpflmaaGreatDoor
open Go SX
open Go.Proofs.Tryz
open Go.Proofs.Tryz renaming prog→qD3
set_option maxHeartbeats 4000000
set_option linter.unusedSimpArgs false
variable {F t1 t2 t3 t4 t5:Nat}{p1 p2:List (qDU)}{l1 l2 l3:qDV}{n1:List (qDV×Nat)}{m1 m2 m3:qDU}{i1 i2 i3 i4:Int}{w1 w2 w3:List (Int×Int)}{d1:Bool}
theorem qkW (hm:qaa F p1=some m1) :
    Pure qD3 95 [.agg #[qDX l1 p1 t1]] [SlN eN56 iN56 1 (qDX l1 p1 t1) p1 n1] (qDV×Nat) (fun g=>qDX g.1 m1 g.2) (fun g=>[qD0 g.1 m1 g.2]) (fun _=>[]):=by
 refine pureA func95 ntmps95 hm fun _=>?_
 refine au [104] ?_
 intro g4
 refine au [97,57,24,10,51] ?_
 refine qj [3] [] [] [0] (fun (((x0,x2,x3),g0,a0,c0,a1,c1,a3,c2):(qDU×qDU×qDU)×Nat×qDV×Nat×qDV×Nat×qDV×Nat)=>([(4,qDY g0)],[⟨g0,183,[qDX l1 p1 t1,qDX a0 x0 c0,qDX a1 x2 c1,.slice none 0 0,qDX a3 x3 c2,qDW 0]⟩],[qD0 a0 x0 c0,qD0 a1 x2 c1,qD0 a3 x3 c2],[],qdd F p1 x0 x2 x3)) ?_ ?_
 refine qJ [] [0] [0] 12 ?_
 refine au [139,3,2,3,4,3,7] ?_
 refine vD 3 5 6 rfl rfl rfl (by kernel_rfl) rfl rfl rfl ?_ ?_ ?_
 refine au [26,6] ?_
 intro x4 e0 a4 c4
 refine au [93] ?_
 refine qg 5 6 rfl rfl (by kernel_rfl) rfl rfl ?_ ?_
 refine au [26,6] ?_
 intro x5 e1 a5 c5
 refine au [93,7,6,29,5] ?_
 intro a6 c6
 refine au [93,7,8,27,9] ?_
 rintro x6 e2 ⟨a7,c7⟩
 refine au [93,7,9] ?_
 refine qH [qDX l1 p1 t1,qDX a4 x4 c4,qDX a5 x5 c5,.slice none 0 0,qDX a7 x6 c7,qDW 0] ?_
 refine au [93,126] ?_
 intro g1
 refine au [0,27,2,81] ?_
 exact qa ((x4,x5,x6),g1,a4,c4,a5,c5,a7,c7)
 refine au [29,5] ?_
 intro a8 c8
 refine au [93] ?_
 refine qg 5 8 rfl rfl (by kernel_rfl) rfl rfl ?_ ?_
 refine au [26,6] ?_
 intro x7 e3 a9 c9
 refine au [93,7,8,27,9] ?_
 rintro x8 e4 ⟨a10,c10⟩
 refine au [93,7,9] ?_
 refine qH [qDX l1 p1 t1,qDX a4 x4 c4,qDX a9 x7 c9,.slice none 0 0,qDX a10 x8 c10,qDW 0] ?_
 refine au [93,126] ?_
 intro g2
 refine au [0,27,2,81] ?_
 exact qa ((x4,x7,x8),g2,a4,c4,a9,c9,a10,c10)
 refine qC pull1 ?_
 refine au [27,9] ?_
 rintro x9 e5 ⟨a11,c11⟩
 refine au [93,7,5,26,6] ?_
 intro x10 e6 a12 c12
 refine au [93,7,9] ?_
 refine qH [qDX l1 p1 t1,qDX a4 x4 c4,qDX a12 x10 c12,.slice none 0 0,qDX a11 x9 c11,qDW 0] ?_
 refine au [93,126] ?_
 intro g3
 refine au [0,27,2,81] ?_
 exact qa ((x4,x10,x9),g3,a4,c4,a12,c12,a11,c11)
 refine qC pull1 ?_
 refine au [26,6] ?_
 intro x11 e7 a13 c13
 refine au [93] ?_
 refine qg 3 6 rfl rfl (by kernel_rfl) rfl rfl ?_ ?_
 refine au [26,6] ?_
 intro x12 e8 a14 c14
 refine au [93,7,6,29,5] ?_
 intro a15 c15
 refine au [93,7,8,27,9] ?_
 rintro x13 e9 ⟨a16,c16⟩
 refine au [93,7,9] ?_
 refine qH [qDX l1 p1 t1,qDX a14 x12 c14,qDX a13 x11 c13,.slice none 0 0,qDX a16 x13 c16,qDW 0] ?_
 refine au [93,126] ?_
 intro g5
 refine au [0,27,2,81] ?_
 exact qa ((x12,x11,x13),g5,a14,c14,a13,c13,a16,c16)
 refine au [29,5] ?_
 intro a17 c17
 refine au [93] ?_
 refine qg 3 8 rfl rfl (by kernel_rfl) rfl rfl ?_ ?_
 refine au [26,6] ?_
 intro x14 e10 a18 c18
 refine au [93,7,8,27,9] ?_
 rintro x15 e11 ⟨a19,c19⟩
 refine au [93,7,9] ?_
 refine qH [qDX l1 p1 t1,qDX a18 x14 c18,qDX a13 x11 c13,.slice none 0 0,qDX a19 x15 c19,qDW 0] ?_
 refine au [93,126] ?_
 intro g6
 refine au [0,27,2,81] ?_
 exact qa ((x14,x11,x15),g6,a18,c18,a13,c13,a19,c19)
 refine qC pull1 ?_
 refine au [27,9] ?_
 rintro x16 e12 ⟨a20,c20⟩
 refine au [93,7,3,26,6] ?_
 intro x17 e13 a21 c21
 refine au [93,7,9] ?_
 refine qH [qDX l1 p1 t1,qDX a21 x17 c21,qDX a13 x11 c13,.slice none 0 0,qDX a20 x16 c20,qDW 0] ?_
 refine au [93,126] ?_
 intro g7
 refine au [0,27,2,81] ?_
 exact qa ((x17,x11,x16),g7,a21,c21,a13,c13,a20,c20)
 refine au [29,5] ?_
 intro a22 c22
 refine au [93] ?_
 refine vD 3 5 8 rfl rfl rfl (by kernel_rfl) rfl rfl rfl ?_ ?_ ?_
 refine au [26,6] ?_
 intro x18 e14 a23 c23
 refine au [93] ?_
 refine qg 5 8 rfl rfl (by kernel_rfl) rfl rfl ?_ ?_
 refine au [26,6] ?_
 intro x19 e15 a24 c24
 refine au [93,7,8,27,9] ?_
 rintro x20 e16 ⟨a25,c25⟩
 refine au [93,7,9] ?_
 refine qH [qDX l1 p1 t1,qDX a23 x18 c23,qDX a24 x19 c24,.slice none 0 0,qDX a25 x20 c25,qDW 0] ?_
 refine au [93,126] ?_
 intro g8
 refine au [0,27,2,81] ?_
 exact qa ((x18,x19,x20),g8,a23,c23,a24,c24,a25,c25)
 refine qC pull1 ?_
 refine au [27,9] ?_
 rintro x21 e17 ⟨a26,c26⟩
 refine au [93,7,5,26,6] ?_
 intro x22 e18 a27 c27
 refine au [93,7,9] ?_
 refine qH [qDX l1 p1 t1,qDX a23 x18 c23,qDX a27 x22 c27,.slice none 0 0,qDX a26 x21 c26,qDW 0] ?_
 refine au [93,126] ?_
 intro g9
 refine au [0,27,2,81] ?_
 exact qa ((x18,x22,x21),g9,a23,c23,a27,c27,a26,c26)
 refine qC pull1 ?_
 refine au [26,6] ?_
 intro x23 e19 a28 c28
 refine au [93] ?_
 refine qg 3 8 rfl rfl (by kernel_rfl) rfl rfl ?_ ?_
 refine au [26,6] ?_
 intro x24 e20 a29 c29
 refine au [93,7,8,27,9] ?_
 rintro x25 e21 ⟨a30,c30⟩
 refine au [93,7,9] ?_
 refine qH [qDX l1 p1 t1,qDX a29 x24 c29,qDX a28 x23 c28,.slice none 0 0,qDX a30 x25 c30,qDW 0] ?_
 refine au [93,126] ?_
 intro g10
 refine au [0,27,2,81] ?_
 exact qa ((x24,x23,x25),g10,a29,c29,a28,c28,a30,c30)
 refine qC pull1 ?_
 refine au [27,9] ?_
 rintro x26 e22 ⟨a31,c31⟩
 refine au [93,7,3,26,6] ?_
 intro x27 e23 a32 c32
 refine au [93,7,9] ?_
 refine qH [qDX l1 p1 t1,qDX a32 x27 c32,qDX a28 x23 c28,.slice none 0 0,qDX a31 x26 c31,qDW 0] ?_
 refine au [93,126] ?_
 intro g11
 refine au [0,27,2,81] ?_
 exact qa ((x27,x23,x26),g11,a32,c32,a28,c28,a31,c31)
 refine qC pull2 ?_
 refine au [27,9] ?_
 rintro x28 e24 ⟨a33,c33⟩
 refine au [93] ?_
 refine qg 3 5 rfl rfl (by kernel_rfl) rfl rfl ?_ ?_
 refine au [26,6] ?_
 intro x29 e25 a34 c34
 refine au [93,7,5,26,6] ?_
 intro x30 e26 a35 c35
 refine au [93,7,9] ?_
 refine qH [qDX l1 p1 t1,qDX a34 x29 c34,qDX a35 x30 c35,.slice none 0 0,qDX a33 x28 c33,qDW 0] ?_
 refine au [93,126] ?_
 intro g12
 refine au [0,27,2,81] ?_
 exact qa ((x29,x30,x28),g12,a34,c34,a35,c35,a33,c33)
 refine qC pull1 ?_
 refine au [26,6] ?_
 intro x31 e27 a36 c36
 refine au [93,7,3,26,6] ?_
 intro x32 e28 a37 c37
 refine au [93,7,9] ?_
 refine qH [qDX l1 p1 t1,qDX a37 x32 c37,qDX a36 x31 c36,.slice none 0 0,qDX a33 x28 c33,qDW 0] ?_
 refine au [93,126] ?_
 intro g13
 refine au [0,27,2,81] ?_
 exact qa ((x32,x31,x28),g13,a37,c37,a36,c36,a33,c33)
 rintro ⟨⟨x0,x2,x3⟩,g0,a0,c0,a1,c1,a3,c2⟩
 try dsimp only
 refine qj [4] [] [] [0] (fun (((x33,x34,x35,x36,x37),a38,c38,a39,c39,a40,c40,a41,c41):(qDU×qDU×qDU×qDU×Int)×qDV×Nat×qDV×Nat×qDV×Nat×qDV×Nat)=>([],[⟨g0,183,[qDX l1 p1 t1,qDX a38 x33 c38,qDX a39 x34 c39,qDX a40 x35 c40,qDX a41 x36 c41,qDW x37]⟩],[qD0 a38 x33 c38,qD0 a39 x34 c39,qD0 a40 x35 c40,qD0 a41 x36 c41],[],qfQ F x33 x34 x35 x36 x37)) ?_ ?_
 refine au [54,4,92,28,1] ?_
 refine qp [4,20] [] [] [0] (fun (((x38,x39,x40,x41,x42,x43),a42,c42,a43,c43,a44,c44,a45,c45):(Int×qDU×qDU×qDU×qDU×Int)×qDV×Nat×qDV×Nat×qDV×Nat×qDV×Nat)=>([(21,qDW x38)],[⟨g0,183,[qDX l1 p1 t1,qDX a42 x39 c42,qDX a43 x40 c43,qDX a44 x41 c44,qDX a45 x42 c45,qDW x43]⟩],[qD0 a42 x39 c42,qD0 a43 x40 c43,qD0 a44 x41 c44,qD0 a45 x42 c45],[])) ((0:Int),x0,x2,([]:qDU),x3,(0:Int)) (a0,c0,a1,c1,none,0,a3,c2) ?_
 intro k0
 rintro ⟨⟨x38,x39,x40,x41,x42,x43⟩,a42,c42,a43,c43,a44,c44,a45,c45⟩
 refine aw [39,1,5,24,6,0,2,1,13] ?_ ?_
 refine au [69] ?_
 refine qj [4,20,21] [] [] [0] (fun (((x44,x45,x46,x47,x48),a46,c46,a47,c47,a48,c48,a49,c49):(qDU×qDU×qDU×qDU×Int)×qDV×Nat×qDV×Nat×qDV×Nat×qDV×Nat)=>([],[⟨g0,183,[qDX l1 p1 t1,qDX a46 x44 c46,qDX a47 x45 c47,qDX a48 x46 c48,qDX a49 x47 c49,qDW x48]⟩],[qD0 a46 x44 c46,qD0 a47 x45 c47,qD0 a48 x46 c48,qD0 a49 x47 c49],[],vN F (jw F p1 k0) x38 x44 x45 x46 x47 x48)) ?_ ?_
 refine au [122,76,94,4,26,9] ?_
 intro x49 e29 g14 h0
 refine ko (j:=0) (y:=x49) (qD .i64) rfl rfl tf3 rfl h0 (qu e29).2.2 (fun _=>rfl) rfl rfl ?_
 refine aw [25,11,0,2,13] ?_ ?_
 refine au [5,4,4] ?_
 refine qcJ EnC.e rfl rfl rfl (fun x50 e30=>qhf F g0 p1 l1 (t1,n1) x39 a42 c42 x40 a43 c43 x41 a44 c44 x42 a45 c45 x43 x38 x50 e30) (.cons 0 rfl .nil) (.cons 0 rfl (.cons 0 rfl (.cons 0 rfl (.cons 0 rfl .nil)))) (.consF 0 rfl .nil) (fun x50 e30=>?_)
 rintro ⟨⟨a50,c50⟩,⟨a51,c51⟩,⟨a52,c52⟩,a53,c53⟩
 refine au [0,24,7] ?_
 exact qa ((x50.1,x50.2.1,x50.2.2.1,x50.2.2.2.1,x50.2.2.2.2),a50,c50,a51,c51,a52,c52,a53,c53)
 refine au [16,24,7] ?_
 exact qa ((x39,x40,x41,x42,x43),a42,c42,a43,c43,a44,c44,a45,c45)
 rintro ⟨⟨x44,x45,x46,x47,x48⟩,a46,c46,a47,c47,a48,c48,a49,c49⟩
 refine au [39,145] ?_
 exact qk ((iadd .i64 x38 1,x44,x45,x46,x47,x48),a46,c46,a47,c47,a48,c48,a49,c49)
 refine au [91] ?_
 exact qa ((x39,x40,x41,x42,x43),a42,c42,a43,c43,a44,c44,a45,c45)
 rintro ⟨⟨x33,x34,x35,x36,x37⟩,a38,c38,a39,c39,a40,c40,a41,c41⟩
 refine au [120,94,52] ?_
 exact qx (a41,c41)
theorem qkV (F:Nat)(x1:List (qDU))(a2:qDV)(c3:(Nat×List (qDV×Nat)))(r:(qDU×Int))(hm:qdb F x1=some r) :
    Pure qD3 67 [.agg #[qDX a2 x1 c3.1]] [SlN eN56 iN56 1 (qDX a2 x1 c3.1) x1 c3.2] (qDV×Nat) (fun g=>.tuple #[qDX g.1 r.1 g.2,qDW r.2]) (fun g=>[qD0 g.1 r.1 g.2]) (fun _=>[]):=by
 refine pureA func67 ntmps67 hm fun _=>?_
 refine au [104] ?_
 intro g4
 refine au [6,129,106,28,7] ?_
 intro x7 e7 _
 refine aw [6,0,2,1,5,4,25,8,0,2,13] ?_ ?_
 refine au [54,6,105] ?_
 exact qx (none,0)
 refine au [69,106] ?_
 refine qd qkW ?_
 rintro x8 e8 ⟨a9,c10⟩
 refine au [6,52] ?_
 exact qx (a9,c10)
theorem qo3 {r:Unit}(hm:qao F p1=some r) :
    PureM qD3 114 [.agg #[qDX l1 p1 t1]] [] [] [SlN eN56 iN56 1 (qDX l1 p1 t1) p1 n1] Nat (fun g=>.func (.func 159) #[] #[qDY g]) (fun g=>[⟨g,24,[qDX l1 p1 t1]⟩]) (fun _=>[]):=by
 refine pureMA func114 ntmps114 hm fun _=>?_
 refine au [104] ?_
 intro g4
 refine au [97,27,10,52] ?_
 exact qK g4
theorem qhd (hm:zb F m1=some m2) :
    PureM qD3 134 [qDX l1 m1 t1] [] [qD0 l1 m1 t1] [] Unit (fun _=>.tuple #[]) (fun _=>[]) (fun _=>[qD0 l1 m2 t1]):=by
  unfold zb at hm
  split at hm
  · cases hm
    exact qrp Tryz.slices_Sort_int Tryz.slices_Sort_int_none (by assumption)
  · simp at hm
theorem qfV (hm:zD F m1=some m2) :
    PureM qD3 135 [qDX l1 m1 t1] [] [qD0 l1 m1 t1] [] (qDV×Nat) (fun g=>qDX g.1 m2 g.2) (fun _=>[]) (fun g=>[qD0 g.1 m2 g.2]):=by
  unfold zD at hm
  split at hm
  · cases hm
    exact qmn Tryz.slices_Compact_int Tryz.slices_Compact_int_empty (by assumption)
  · simp at hm
theorem qdP (F:Nat){σ τ:Type}{J:Rounds σ τ}{yy:σ→(Int×Int)→Option (σ ⊕ τ)}{L:Nat}(hY:YieldC qD3 L (fun (p:Int×Int)=>[.agg #[qDW p.1,qDW p.2]]) J yy)(s0:σ)(gs0:J.γ)(g1:Nat)(x2:List (qDU))(a3:qDV)(c4:(Nat×List (qDV×Nat)))(r:σ ⊕ τ)(hm:jE F yy x2 s0=some r) :
    PureM qD3 159 ([.func (.yield L) #[] #[],qDY g1]) ([⟨g1,24,[qDX a3 x2 c4.1]⟩]++J.IB s0 gs0) (J.IR s0 gs0) [J.F,SlN eN56 iN56 1 (qDX a3 x2 c4.1) x2 c4.2] (J.G r) (fun _=>.tuple #[]) (fun g=>[⟨g1,24,[qDX a3 x2 c4.1]⟩]++J.bs r g) (fun g=>J.rs r g):=by
 refine pureMA func159 ntmps159 hm fun _=>?_
 refine au [61,57,110] ?_
 refine vE (fun (((x0,x1),g0):(Int×σ)×J.γ)=>[(0,.func (.yield L) #[] #[]),(8,qDX a3 x2 c4.1),(9,qDW (x2.length:Int)),(10,qDW x0)]) (fun (((x0,x1),g0):(Int×σ)×J.γ)=>[⟨g1,24,[qDX a3 x2 c4.1]⟩]++J.IB x1 g0) (fun (((x0,x1),g0):(Int×σ)×J.γ)=>[]++J.IR x1 g0) (fun (((x0,x1),g0):(Int×σ)×J.γ)=>[SlN eN56 iN56 1 (qDX a3 x2 c4.1) x2 c4.2,J.F]) (fun k (s:(Int×σ)×J.γ)=>km F yy x2 k s.1) ((0,s0),gs0) F ?_ (hB:=(.cons 0 rfl (qe 0 rfl))) (hR:=(qe 0 rfl)) (hF:=(qi 1 rfl (qi 0 rfl zG)))
 intro k0
 rintro ⟨⟨x0,x1⟩,g0⟩
 try dsimp only
 refine qaM (m':=qbQ F yy x2 (km F yy x2 k0) x0 x1) rfl ?_
 refine aw [1,5,24,6,0,2,1,13] ?_ ?_
 refine au [69] ?_
 refine qdp (fun ((x3,g2):σ×J.γ)=>[(0,.func (.yield L) #[] #[]),(8,qDX a3 x2 c4.1),(9,qDW (x2.length:Int)),(10,qDW x0)]) (fun ((x3,g2):σ×J.γ)=>[⟨g1,24,[qDX a3 x2 c4.1]⟩]++J.IB x3 g2) (fun ((x3,g2):σ×J.γ)=>[]++J.IR x3 g2) (fun ((x3,g2):σ×J.γ)=>[SlN eN56 iN56 1 (qDX a3 x2 c4.1) x2 c4.2,J.F]) (fun ((x3,_):σ×J.γ)=>qbR F yy (km F yy x2 k0) x0 x3) ?_ ?_
 refine au [122,27,7] ?_
 intro x4 e0 g3 b0 o0
 refine au [25,7,6,76,110] ?_
 refine vE (fun (((x5,x6),g4):(Int×σ)×J.γ)=>[(0,.func (.yield L) #[] #[]),(3,qDW x0),(8,qDX a3 x2 c4.1),(9,qDW (x2.length:Int)),(10,qDW x0),(15,qDX g3.1 x4 g3.2),(16,qDW (x4.length:Int)),(17,qDW x5)]) (fun (((x5,x6),g4):(Int×σ)×J.γ)=>[⟨g1,24,[qDX a3 x2 c4.1]⟩]++J.IB x6 g4) (fun (((x5,x6),g4):(Int×σ)×J.γ)=>[]++J.IR x6 g4) (fun (((x5,x6),g4):(Int×σ)×J.γ)=>[SlN eN56 iN56 1 (qDX a3 x2 c4.1) x2 c4.2,qDZ g3.1 x4 g3.2,J.F]) (fun k (s:(Int×σ)×J.γ)=>js F yy (km F yy x2 k0) x0 x4 k s.1) ((0,x1),g0) F ?_ (hB:=(.cons 0 rfl (qe 0 rfl))) (hR:=(qe 0 rfl)) (hF:=(qi 2 rfl (qi 1 rfl (qi 3 rfl zG))))
 intro k1
 rintro ⟨⟨x5,x6⟩,g4⟩
 try dsimp only
 refine qaM (m':=qbf F yy (km F yy x2 k0) x0 x4 (js F yy (km F yy x2 k0) x0 x4 k1) x5 x6) rfl ?_
 refine aw [1,5,24,6,0,2,1,13] ?_ ?_
 refine au [136,29,6] ?_
 intro x7 e1 b1 o1
 refine au [25,7,76,4,4] ?_
 refine qH [qDW x0,qDW x7] ?_
 refine qe4 hY x6 (x0,x7) g4 (B1:=[⟨g1,24,[qDX a3 x2 c4.1]⟩]) (R1:=[]) (j:=3) rfl rfl rfl rfl rfl rfl rfl (fun x8 _ g5=>?_) (fun x9 _ g5=>?_)
 refine au [25,12,50] ?_
 refine yh (b:=false) rfl (fun h=>by cases h) (fun _=>?_)
 refine au [16,146] ?_
 exact vr ((iadd .i64 x5 1,x8),g5) (hB:=(.cons 0 rfl (qe 0 rfl))) (hR:=(qe 0 rfl)) (hF:=(qi 1 rfl (qi 2 rfl (qi 3 rfl zG))))
 refine au [25,12,50] ?_
 refine yh (b:=true) rfl (fun _=>?_) (fun h=>by cases h)
 refine au [11,125,24,9,125,24,9] ?_
 exact jc (B0:=[⟨g1,24,[qDX a3 x2 c4.1]⟩]) (x:=.inr x9) g5 (.inl rfl) (res0 rfl) (.cons 0 rfl (qe 0 rfl)) (qe 0 rfl)
 refine au [91,24,7] ?_
 exact yj (x6,g4) (hB:=(.cons 0 rfl (qe 0 rfl))) (hR:=(qe 0 rfl)) (hF:=(qi 0 rfl (qi 2 rfl zG)))
 rintro ⟨x3,g2⟩
 refine au [39,145] ?_
 exact vr ((iadd .i64 x0 1,x3),g2) (hB:=(.cons 0 rfl (qe 0 rfl))) (hR:=(qe 0 rfl)) (hF:=(qi 0 rfl (qi 1 rfl zG)))
 refine au [91] ?_
 exact jc (B0:=[⟨g1,24,[qDX a3 x2 c4.1]⟩]) (x:=.inl x1) g0 (.inr rfl) (res0 rfl) (.cons 0 rfl (qe 0 rfl)) (qe 0 rfl)
theorem qoX (hm:qec F p1=some p2) :
    PureM qD3 97 [.agg #[qDX l1 p1 t1]] [] [] [SlN eN56 iN56 1 (qDX l1 p1 t1) p1 n1] (qDV×Nat×List (qDV×Nat)) (fun g=>qDX g.1 p2 g.2.1) (fun _=>[]) (fun g=>[RoN eN56 rN56 56 1 (qDX g.1 p2 g.2.1) p2 g.2.2 []]):=by
 refine qdm func97 rfl ntmps97 rfl hm (fun w=>?_)
 refine au [104] ?_
 intro g4
 refine au [97,57,24,10,29,15] ?_
 intro x5 e5 a6 c7
 refine au [19] ?_
 intro g8
 refine au [132,1,48,26,0,30,10] ?_
 intro x0 e0 g0
 refine au [92] ?_
 refine qbW (encs:=(fun (p:Int×Int)=>[.agg #[qDW p.1,qDW p.2]])) (y:=(fun (x2:List (qDU)) ((x3,x4):Int×Int)=>qbw F x2 x3 x4)) (lb:=[qDY g0]) (fun (x2:List (qDU)) (g1:List (qDV×Nat))=>[⟨g8,22,[qDX a6 x2 c7]⟩,⟨g4,24,[qDX l1 p1 t1]⟩]) (fun (x2:List (qDU)) (g1:List (qDV×Nat))=>[RoN eN56 rN56 56 1 (qDX a6 x2 c7) x2 g1 []]) (fun (_:Empty) (_:Unit)=>[]) (fun (_:Empty) (_:Unit)=>[]) (fun _=>.skip) x5 (qBd x5.length ((none,0):qDV×Nat)) rfl EnC.e (fun _=>rfl) rfl (.cons 0 rfl .nil) (.cons 0 rfl (.cons 0 rfl .nil)) (.cons 0 rfl .nil) (.consF 0 rfl .nil) (fun z hz _ _ _ hY=>qdP F hY x5 (qBd x5.length ((none,0):qDV×Nat)) g0 p1 l1 (t1,n1) z hz) ?_ ?_ ?_
 rintro rc1 L1 D1 x2 g1 ⟨x3,x4⟩ z w M _
 try dsimp only
 refine qdq [(0,.agg #[qDX l1 p1 t1]),(1,qDY g4),(2,.slice none 0 0),(3,qDY g8),(6,qDY g4),(7,qDX l1 p1 t1),(8,qDW (p1.length:Int)),(9,qDX a6 x5 c7),(10,.agg #[qDX l1 p1 t1]),(11,.func (.func 159) #[] #[qDY g0]),(12,.agg #[qDW x3,qDW x4])] (qm rfl (qm rfl (qm rfl (qm rfl (qm rfl (qm rfl (qm rfl (qm rfl (qm rfl (qm rfl (qm rfl qdI))))))))))) ?_
 refine au [5,19] ?_
 intro g2
 refine aw [17,0,30,11,20,1,5,12,24,0,12,24,0,25,8,0,2,13] ?_ ?_
 refine au [30,0] ?_
 intro x6 e1 g3 h0 g5 h1
 replace h1:a6=some ⟨g5,0,none⟩:=h1
 have h2:=zM (k:=x2.length) (c:=c7) h1
 refine qe3 (i:=0) rfl h0 (qBw) ?_
 refine au [29,7] ?_
 intro x7 e2 g6 h3 g7 h4
 replace h4:a6=some ⟨g7,0,none⟩:=h4
 have h5:=zM (k:=x2.length) (c:=c7) h4
 refine au [28,11] ?_
 intro h6
 refine qe3 (i:=1) rfl h3 (by simp only[decide_eq_true_eq] at h6;simp only[List.mem_cons,qBw,or_false];exact h6) ?_
 refine au [29,7] ?_
 intro x8 e3 g9 h7 g10 h8
 replace h8:a6=some ⟨g10,0,none⟩:=h8
 have h9:=zM (k:=x2.length) (c:=c7) h8
 refine au [29,7] ?_
 intro x9 e4 g11 h10 g12 h11
 replace h11:a6=some ⟨g12,0,none⟩:=h11
 have h12:=zM (k:=x2.length) (c:=c7) h11
 refine kB mixed [25,27] _ _ (.cons 0 rfl (.cons 0 rfl (.cons 0 rfl (.cons 0 rfl (.cons 0 rfl .nil))))) (qh 0 rfl (qE 1 rfl (qI qq h0 h1) (qE 1 rfl (qI qq h3 h4) (qE 1 rfl (qI qq h7 h8) (qE 1 rfl (qI qq h10 h11) qf))))) 28 rfl ?_
 refine au [26,13,0,21,1,25,4,2,26,13,3,21,4,25,4,5,26,13,6,21,7,25,4,8] ?_
 refine jB 9 h1 e1 ?_
 refine qB 10 (qDX g3.1 x6 g3.2) [[25],[27]] rfl rfl rfl (qZ (j:=1) rfl tf56 rfl rfl (fun _=>rfl) rfl) ?_
 refine au [21,11,25,4,12,26,13,15,21,16,25,4,17] ?_
 refine jB 18 h4 e2 ?_
 refine qB 19 (qDX g6.1 x7 g6.2) [[25],[27]] rfl rfl rfl (qZ (j:=2) rfl tf56 rfl rfl (fun _=>rfl) rfl) ?_
 refine au [21,20,25,4,21] ?_
 refine qg 13 22 rfl rfl (by kernel_rfl) rfl rfl ?_ ?_
 refine zB [x4] (fun a0 c0=>?_)
 refine au [0] ?_
 refine qc (.cons 0 rfl (.cons 0 rfl (.cons 0 rfl (.cons 0 rfl (.cons 0 rfl .nil))))) (qh 0 rfl (qE 2 rfl (qI qq h0 h1) (qE 2 rfl (qI qq h3 h4) (qE 2 rfl (qI qq h7 h8) (qE 2 rfl (qI qq h10 h11) qf))))) (qg 14 22 rfl rfl (by kernel_rfl) rfl rfl ?_ ?_)
 refine zw 3 (qD .i64) rfl underlying56 tf3 rfl rfl rfl rfl rfl (.inl ⟨0,_,rfl⟩) rfl rfl (fun x10 e6 a1 c1=>?_)
 refine au [0] ?_
 refine qc (.cons 0 rfl (.cons 0 rfl (.cons 0 rfl (.cons 0 rfl (.cons 0 rfl .nil))))) (qh 0 rfl (qE 3 rfl (qI qq h0 h1) (qE 3 rfl (qI qq h3 h4) (qE 3 rfl (qI qq h7 h8) (qE 3 rfl (qI qq h10 h11) qf))))) ?_
 refine au [7,22] ?_
 refine zB [x3] (fun a3 c2=>?_)
 refine au [0] ?_
 refine qc (.cons 0 rfl (.cons 0 rfl (.cons 0 rfl (.cons 0 rfl (.cons 0 rfl .nil))))) (qh 0 rfl (qE 4 rfl (qI qq h0 h1) (qE 4 rfl (qI qq h3 h4) (qE 4 rfl (qI qq h7 h8) (qE 4 rfl (qI qq h10 h11) qf))))) ?_
 refine au [7,23] ?_
 refine zw 3 (qD .i64) rfl underlying56 tf3 rfl rfl rfl rfl rfl (.inl ⟨0,_,rfl⟩) rfl rfl (fun x11 e7 a4 c4=>?_)
 refine au [0] ?_
 refine qc (.cons 0 rfl (.cons 0 rfl (.cons 0 rfl (.cons 0 rfl (.cons 0 rfl .nil))))) (qh 0 rfl (qE 4 rfl (qI qq h0 h1) (qE 4 rfl (qI qq h3 h4) (qE 4 rfl (qI qq h7 h8) (qE 4 rfl (qI qq h10 h11) qf))))) (jB 24 h8 e3 ?_)
 refine au [7,25] ?_
 refine jN (j:=4) (kh:=1) (y':=x10) (q':=(a1,c1)) qq rfl rfl rfl tf56 rfl (zM h8) rfl (qu e3).2.1 rfl (.cons 2 rfl .nil) (fun x12 e8 h13 g13=>?_)
 have h14:x12.length=x2.length:=by rw[← e8,qBs]
 refine zl 18 h13 ?_
 refine zl 21 h13 ?_
 refine zl 24 h13 ?_
 refine zl 33 h13 ?_
 refine qW (i:=1) (cs':=[qDX a6 x12 c7]) rfl (by simp only[qDX,h13] <;> rfl) ?_
 refine au [0] ?_
 refine kZ 25 rfl (by kernel_rfl) (.cons 0 rfl (.cons 0 (by simp only[qDX,h14] <;> rfl) (.cons 0 rfl (.cons 0 rfl (.cons 0 rfl .nil))))) (qhW 21 h11 ?_)
 refine qb 26 (.pointer (some ⟨g12,x4.toNat*1,none⟩)) rfl rfl rfl (qbs underlying22 tf56 rfl rfl (qu e4).1 (by rw[h14];exact (qcB e4))) (qhW 21 h11.symm ?_)
 refine au [7,27] ?_
 refine jN (j:=0) (kh:=0) (y':=x11) (q':=(a4,c4)) qq rfl rfl rfl tf56 rfl (zM h11) rfl (by rw[h14];exact (qu e4).2.1) rfl (.cons 0 rfl .nil) (fun x13 e9 h15 g14=>?_)
 have h16:x13.length=x12.length:=by rw[← e9,qBs]
 refine zl 18 h15 ?_
 refine zl 21 h15 ?_
 refine zl 24 h15 ?_
 refine zl 33 h15 ?_
 refine qW (i:=1) (cs':=[qDX a6 x13 c7]) rfl (by simp only[qDX,h15] <;> rfl) ?_
 refine au [0] ?_
 refine kZ 25 rfl (by kernel_rfl) (.cons 0 rfl (.cons 0 (by simp only[qDX,h16,h14] <;> rfl) (.cons 0 rfl (.cons 0 rfl (.cons 0 rfl .nil))))) ?_
 refine au [53,24,7] ?_
 exact vn (rc:=rc1) rfl (.cons 3 rfl .nil) rfl g14 (.cons 2 rfl (.cons 2 rfl (.cons 0 rfl (.cons 1 rfl .nil)))) (.cons 0 rfl .nil)
 refine zB [x3] (fun a5 c5=>?_)
 refine au [0] ?_
 refine qc (.cons 0 rfl (.cons 0 rfl (.cons 0 rfl (.cons 0 rfl (.cons 0 rfl .nil))))) (qh 0 rfl (qE 3 rfl (qI qq h0 h1) (qE 3 rfl (qI qq h3 h4) (qE 3 rfl (qI qq h7 h8) (qE 3 rfl (qI qq h10 h11) qf))))) ?_
 refine au [7,14] ?_
 refine zw 4 (qD .i64) rfl underlying56 tf3 rfl rfl rfl rfl rfl (.inl ⟨1,_,rfl⟩) rfl rfl (fun x14 e10 a7 c6=>?_)
 refine au [0] ?_
 refine qc (.cons 0 rfl (.cons 0 rfl (.cons 0 rfl (.cons 0 rfl (.cons 0 rfl .nil))))) (qh 0 rfl (qE 4 rfl (qI qq h0 h1) (qE 4 rfl (qI qq h3 h4) (qE 4 rfl (qI qq h7 h8) (qE 4 rfl (qI qq h10 h11) qf))))) ?_
 refine au [7,23] ?_
 refine zw 3 (qD .i64) rfl underlying56 tf3 rfl rfl rfl rfl rfl (.inl ⟨1,_,rfl⟩) rfl rfl (fun x15 e11 a8 c8=>?_)
 refine au [0] ?_
 refine qc (.cons 0 rfl (.cons 0 rfl (.cons 0 rfl (.cons 0 rfl (.cons 0 rfl .nil))))) (qh 0 rfl (qE 4 rfl (qI qq h0 h1) (qE 4 rfl (qI qq h3 h4) (qE 4 rfl (qI qq h7 h8) (qE 4 rfl (qI qq h10 h11) qf))))) (jB 24 h8 e3 ?_)
 refine au [7,25] ?_
 refine jN (j:=4) (kh:=1) (y':=x14) (q':=(a7,c6)) qq rfl rfl rfl tf56 rfl (zM h8) rfl (qu e3).2.1 rfl (.cons 1 rfl .nil) (fun x16 e12 h17 g15=>?_)
 have h18:x16.length=x2.length:=by rw[← e12,qBs]
 refine zl 18 h17 ?_
 refine zl 21 h17 ?_
 refine zl 24 h17 ?_
 refine zl 33 h17 ?_
 refine qW (i:=1) (cs':=[qDX a6 x16 c7]) rfl (by simp only[qDX,h17] <;> rfl) ?_
 refine au [0] ?_
 refine kZ 25 rfl (by kernel_rfl) (.cons 0 rfl (.cons 0 (by simp only[qDX,h18] <;> rfl) (.cons 0 rfl (.cons 0 rfl (.cons 0 rfl .nil))))) (qhW 21 h11 ?_)
 refine qb 26 (.pointer (some ⟨g12,x4.toNat*1,none⟩)) rfl rfl rfl (qbs underlying22 tf56 rfl rfl (qu e4).1 (by rw[h18];exact (qcB e4))) (qhW 21 h11.symm ?_)
 refine au [7,27] ?_
 refine jN (j:=0) (kh:=0) (y':=x15) (q':=(a8,c8)) qq rfl rfl rfl tf56 rfl (zM h11) rfl (by rw[h18];exact (qu e4).2.1) rfl (.cons 0 rfl .nil) (fun x17 e13 h19 g16=>?_)
 have h20:x17.length=x16.length:=by rw[← e13,qBs]
 refine zl 18 h19 ?_
 refine zl 21 h19 ?_
 refine zl 24 h19 ?_
 refine zl 33 h19 ?_
 refine qW (i:=1) (cs':=[qDX a6 x17 c7]) rfl (by simp only[qDX,h19] <;> rfl) ?_
 refine au [0] ?_
 refine kZ 25 rfl (by kernel_rfl) (.cons 0 rfl (.cons 0 (by simp only[qDX,h20,h18] <;> rfl) (.cons 0 rfl (.cons 0 rfl (.cons 0 rfl .nil))))) ?_
 refine au [53,24,7] ?_
 exact vn (rc:=rc1) rfl (.cons 3 rfl .nil) rfl g16 (.cons 2 rfl (.cons 2 rfl (.cons 0 rfl (.cons 1 rfl .nil)))) (.cons 0 rfl .nil)
 refine zB [x3] (fun a9 c9=>?_)
 refine au [0] ?_
 refine qc (.cons 0 rfl (.cons 0 rfl (.cons 0 rfl (.cons 0 rfl (.cons 0 rfl .nil))))) (qh 0 rfl (qE 2 rfl (qI qq h0 h1) (qE 2 rfl (qI qq h3 h4) (qE 2 rfl (qI qq h7 h8) (qE 2 rfl (qI qq h10 h11) qf))))) ?_
 refine au [7,13] ?_
 refine zB [x4] (fun a10 c10=>?_)
 refine au [0] ?_
 refine qc (.cons 0 rfl (.cons 0 rfl (.cons 0 rfl (.cons 0 rfl (.cons 0 rfl .nil))))) (qh 0 rfl (qE 3 rfl (qI qq h0 h1) (qE 3 rfl (qI qq h3 h4) (qE 3 rfl (qI qq h7 h8) (qE 3 rfl (qI qq h10 h11) qf))))) ?_
 refine au [7,14] ?_
 refine zw 4 (qD .i64) rfl underlying56 tf3 rfl rfl rfl rfl rfl (.inl ⟨0,_,rfl⟩) rfl rfl (fun x18 e14 a11 c11=>?_)
 refine au [0] ?_
 refine qc (.cons 0 rfl (.cons 0 rfl (.cons 0 rfl (.cons 0 rfl (.cons 0 rfl .nil))))) (qh 0 rfl (qE 4 rfl (qI qq h0 h1) (qE 4 rfl (qI qq h3 h4) (qE 4 rfl (qI qq h7 h8) (qE 4 rfl (qI qq h10 h11) qf))))) ?_
 refine au [7,23] ?_
 refine zw 3 (qD .i64) rfl underlying56 tf3 rfl rfl rfl rfl rfl (.inl ⟨2,_,rfl⟩) rfl rfl (fun x19 e15 a12 c12=>?_)
 refine au [0] ?_
 refine qc (.cons 0 rfl (.cons 0 rfl (.cons 0 rfl (.cons 0 rfl (.cons 0 rfl .nil))))) (qh 0 rfl (qE 4 rfl (qI qq h0 h1) (qE 4 rfl (qI qq h3 h4) (qE 4 rfl (qI qq h7 h8) (qE 4 rfl (qI qq h10 h11) qf))))) (jB 24 h8 e3 ?_)
 refine au [7,25] ?_
 refine jN (j:=4) (kh:=1) (y':=x18) (q':=(a11,c11)) qq rfl rfl rfl tf56 rfl (zM h8) rfl (qu e3).2.1 rfl (.cons 1 rfl .nil) (fun x20 e16 h21 g17=>?_)
 have h22:x20.length=x2.length:=by rw[← e16,qBs]
 refine zl 18 h21 ?_
 refine zl 21 h21 ?_
 refine zl 24 h21 ?_
 refine zl 33 h21 ?_
 refine qW (i:=1) (cs':=[qDX a6 x20 c7]) rfl (by simp only[qDX,h21] <;> rfl) ?_
 refine au [0] ?_
 refine kZ 25 rfl (by kernel_rfl) (.cons 0 rfl (.cons 0 (by simp only[qDX,h22] <;> rfl) (.cons 0 rfl (.cons 0 rfl (.cons 0 rfl .nil))))) (qhW 21 h11 ?_)
 refine qb 26 (.pointer (some ⟨g12,x4.toNat*1,none⟩)) rfl rfl rfl (qbs underlying22 tf56 rfl rfl (qu e4).1 (by rw[h22];exact (qcB e4))) (qhW 21 h11.symm ?_)
 refine au [7,27] ?_
 refine jN (j:=0) (kh:=0) (y':=x19) (q':=(a12,c12)) qq rfl rfl rfl tf56 rfl (zM h11) rfl (by rw[h22];exact (qu e4).2.1) rfl (.cons 0 rfl .nil) (fun x21 e17 h23 g18=>?_)
 have h24:x21.length=x20.length:=by rw[← e17,qBs]
 refine zl 18 h23 ?_
 refine zl 21 h23 ?_
 refine zl 24 h23 ?_
 refine zl 33 h23 ?_
 refine qW (i:=1) (cs':=[qDX a6 x21 c7]) rfl (by simp only[qDX,h23] <;> rfl) ?_
 refine au [0] ?_
 refine kZ 25 rfl (by kernel_rfl) (.cons 0 rfl (.cons 0 (by simp only[qDX,h24,h22] <;> rfl) (.cons 0 rfl (.cons 0 rfl (.cons 0 rfl .nil))))) ?_
 refine au [53,24,7] ?_
 exact vn (rc:=rc1) rfl (.cons 3 rfl .nil) rfl g18 (.cons 2 rfl (.cons 2 rfl (.cons 0 rfl (.cons 1 rfl .nil)))) (.cons 0 rfl .nil)
 refine au [16,24,7] ?_
 exact vn (rc:=rc1) rfl (.cons 3 rfl .nil) rfl g1 (.cons 2 rfl (.cons 2 rfl (.cons 0 rfl (.cons 1 rfl .nil)))) (.cons 0 rfl .nil)
 rintro x2 _ g1 D1
 refine au [39,82] ?_
 refine qj [3] [0] [] [] (fun ((x22,g19):List (qDU)×List (qDV×Nat))=>([],[⟨g8,22,[qDX a6 x22 c7]⟩],[RoN eN56 rN56 56 1 (qDX a6 x22 c7) x22 g19 []],[],qhp F x22)) ?_ ?_
 refine au [48,26,4,110] ?_
 refine qp [3,45] [0] [] [] (fun (((x23,x24),g20):(Int×List (qDU))×List (qDV×Nat))=>([(46,qDW x23)],[⟨g8,22,[qDX a6 x24 c7]⟩],[RoN eN56 rN56 56 1 (qDX a6 x24 c7) x24 g20 []],[])) ((0:Int),x2) g1 ?_
 intro k0
 rintro ⟨⟨x23,x24⟩,g20⟩
 refine aw [39,1,5,24,6,0,2,1,13] ?_ ?_
 refine au [137,97,26,1,4,31,9] ?_
 intro x25 e18 g21 h25 g22 h26
 refine qkc (i:=0) rfl h25 (qBw) (qiJ (j:=1) (p:=(x25,g21)) qq rfl rfl tf56 rfl h26 h25 rfl (fun _=>rfl) rfl rfl ?_)
 refine au [31,10] ?_
 intro x26 e19 _
 refine au [27,0] ?_
 intro h27
 replace h27:=of_decide_eq_true h27
 refine qr (d:=52) (v:=qDX g21.1 x26 g21.2) rfl (by simp only[qDX,h27] <;> rfl) ?_
 refine au [50] ?_
 refine qrs (rin:=rN56) (i:=0) (kh:=0) (y:=x26) (q:=g21) (.cons 0 rfl .nil) rfl rfl h25 (by simp only[qDX,eN56,h27]) (fun x27 e20 h28 g23=>?_)
 have h29:x27.length=x24.length:=by rw[← e20,qBs]
 refine qwJ (d:=49) (v:=qDX a6 x27 c7) rfl (by simp only[qDX,h28] <;> rfl) (qor (i:=1) (cs':=[qDX a6 x27 c7]) rfl (by simp only[qDX,h28] <;> rfl) ?_)
 refine au [30,0] ?_
 intro x28 e21 g24 h30 g25 h31
 replace h31:a6=some ⟨g25,0,none⟩:=h31
 have h32:=zM (k:=x27.length) (c:=c7) h31
 refine qe3 (i:=0) rfl h30 (qBw) ?_
 refine au [29,7] ?_
 intro x29 e22 g26 h33 g27 h34
 replace h34:a6=some ⟨g27,0,none⟩:=h34
 have h35:=zM (k:=x27.length) (c:=c7) h34
 refine kB mixed [8] _ _ (.cons 0 rfl (.cons 0 rfl .nil)) (qE 1 rfl (qI qq h30 h31) (qE 1 rfl (qI qq h33 h34) qf)) 9 rfl ?_
 refine au [26,13,0,3,1,26,13,2,3,3] ?_
 refine jB 4 h31 e21 ?_
 refine qB 5 (qDX g24.1 x28 g24.2) [[8]] rfl rfl rfl (qZ (j:=0) rfl tf56 rfl rfl (fun _=>rfl) rfl) ?_
 refine au [7,6,33,6] ?_
 rintro x30 e23 ⟨a13,c13⟩
 refine au [0] ?_
 refine qc (.cons 0 rfl (.cons 0 rfl .nil)) (qE 1 rfl (qI qq h30 h31) (qE 1 rfl (qI qq h33 h34) qf)) (jB 7 h34 e22 ?_)
 refine au [7,8] ?_
 refine jN (j:=1) (kh:=0) (y':=x30) (q':=(a13,c13)) qq rfl rfl rfl tf56 rfl (zM h34) rfl (qu e22).2.1 rfl (.cons 0 rfl .nil) (fun x31 e24 h36 g28=>?_)
 have h37:x31.length=x27.length:=by rw[← e24,qBs]
 refine zl 49 h36 ?_
 refine zl 54 h36 ?_
 refine zl 56 h36 ?_
 refine qW (i:=1) (cs':=[qDX a6 x31 c7]) rfl (by simp only[qDX,h36] <;> rfl) ?_
 refine au [0] ?_
 refine kZ 8 rfl (by kernel_rfl) (.cons 0 rfl (.cons 0 (by simp only[qDX,h37] <;> rfl) .nil)) ?_
 refine au [53,146] ?_
 exact qk ((iadd .i64 x23 1,x31),g28)
 refine au [91] ?_
 exact qa (x24,g20)
 rintro ⟨x22,g19⟩
 refine au [140,26,1,52] ?_
 exact jd [D1] (a6,c7,g19) (.inl rfl) rfl (.cons 0 rfl .nil) (res1 rfl rfl) (fun h=>by subst h;rfl) (fun h=>by subst h;exact .nil) (fun h=>by subst h;exact (.cons 0 rfl .nil))
 intro t;exact t.elim
theorem qh3 {r:(Int×qDU)}(hm:qb0 F p1 m1=some r) :
    PureM qD3 98 [qDY t1] [⟨t1,137,[qDX l1 p1 t2,qDX l2 m1 t3]⟩] [qD0 l2 m1 t3] [SlN eN56 iN56 1 (qDX l1 p1 t2) p1 n1] (qDV×Nat) (fun _=>qDW r.1) (fun g=>[⟨t1,137,[qDX l1 p1 t2,qDX g.1 r.2 g.2]⟩]) (fun g=>[qD0 g.1 r.2 g.2]):=by
 refine pureMA func98 ntmps98 hm fun _=>?_
 refine au [80,97,51] ?_
 refine qj [] [0] [0] [0] (fun ((x0,_):Int×Unit)=>([(3,qDW x0)],[],[],[],qcE F m1 x0)) ?_ ?_
 refine au [54,94,110] ?_
 refine qp [0,9,10] [0] [0] [0] (fun (((x1,x3),_):(Int×Int)×Unit)=>([(3,qDW x1),(11,qDW x3)],[],[],[])) ((-1:Int),(0:Int)) () ?_
 intro k0
 rintro ⟨⟨x1,x3⟩,_⟩
 refine aw [39,1,5,24,6,0,2,1,13] ?_ ?_
 refine au [69] ?_
 refine qj [0,9,10,11] [0] [0] [0] (fun ((x4,_):Int×Unit)=>([(3,qDW x4)],[],[],[],jX F (vf F m1 k0) x3 x4)) ?_ ?_
 refine au [122,26,9] ?_
 intro x6 e0 g0 h0
 refine ko (j:=0) (y:=x6) (qD .i64) rfl rfl tf3 rfl h0 (qu e0).2.2 (fun _=>rfl) rfl rfl ?_
 refine au [6,76,26,10,4] ?_
 refine kX 14 [0,3,4,9,10,11] [0] [0] [0] (fun ((x7,_):Bool×Unit)=>([(32,.bool x7)],[],[],[],jY F (vf F m1 k0) x1 x3 x7)) ?_ ?_
 refine qG (os:=_) rfl ?_
 refine av [26,8] ?_ ?_
 intro h1
 refine kH (k:=18) rfl h1 ?_
 refine au [4,143] ?_
 refine kX 10 [0,3,4,9,10,11,18,19,20] [0] [0] [0] (fun (((x8,x9),_):(Bool×Bool)×Unit)=>([(21,.bool x8),(31,.bool x9)],[],[],[],jZ F (vf F m1 k0) x1 x3 x8 x9)) ?_ ?_
 refine qG (os:=_) rfl ?_
 refine av [26,8] ?_ ?_
 intro h2
 refine kH (k:=21) rfl h2 ?_
 refine au [88,88,9,112] ?_
 exact qa ((true,true),())
 intro h2
 refine kG (k:=21) rfl h2 ?_
 refine au [4,4,94,4,26,9] ?_
 intro x10 e1 g2 h3
 refine ko (j:=0) (y:=x10) (qD .i64) rfl rfl tf3 rfl h3 (qu e1).2.2 (fun _=>rfl) rfl rfl ?_
 refine au [24,6,111] ?_
 exact qa ((false,(decide (x6<x10))),())
 rintro ⟨⟨x8,x9⟩,_⟩
 try dsimp only
 refine qG (os:=_) rfl ?_
 refine au [112] ?_
 exact qa (x9,())
 intro h1
 refine kG (k:=18) rfl h1 ?_
 refine au [88,88,88,9,111] ?_
 exact qa (false,())
 rintro ⟨x7,_⟩
 try dsimp only
 refine qG (os:=_) rfl ?_
 refine aw [0,2,13] ?_ ?_
 refine au [5,4,6,0,24,7] ?_
 exact qa (x3,())
 refine au [16,24,7] ?_
 exact qa (x1,())
 rintro ⟨x4,_⟩
 refine au [39,145] ?_
 exact qk ((x4,iadd .i64 x3 1),())
 refine au [91] ?_
 exact qa (x1,())
 rintro ⟨x0,_⟩
 refine au [120,52] ?_
 exact qK (l2,t3)
theorem qif (hm:qfc F p1 m1 i1=some m2) :
    PureM qD3 99 [qDY t1,qDW i1] [⟨t1,137,[qDX l1 p1 t2,qDX l2 m1 t3]⟩] [qD0 l2 m1 t3] [SlN eN56 iN56 1 (qDX l1 p1 t2) p1 n1] (qDV×Nat) (fun _=>.tuple #[]) (fun g=>[⟨t1,137,[qDX l1 p1 t2,qDX g.1 m2 g.2]⟩]) (fun g=>[qD0 g.1 m2 g.2]):=by
 refine pureMA func99 ntmps99 hm fun _=>?_
 refine au [24,14,54,94,4,26,9] ?_
 intro x9 e9 g10 h11
 refine kx (j:=0) (y':=-1) (qD .i64) rfl rfl rfl tf3 rfl h11 (qu e9).2.1 rfl (fun x12 e12 h13=>?_)
 have h14:x12.length=m1.length:=by rw[← e12,qBs]
 refine qr (d:=9) (v:=qDX l2 x12 t3) rfl h13 (qW (i:=0) (cs':=[qDX l1 p1 t2,qDX l2 x12 t3]) rfl (by simp only[qDX,h13] <;> rfl) ?_)
 refine au [50,54,94,4,27,7] ?_
 intro x15 e15 g18 b16 o17
 refine au [25,7,110] ?_
 refine qp [0,18,19] [] [] [1,2] (fun (((x54,x55),_):(Int×qDU)×Unit)=>([(20,qDW x54)],[⟨t1,137,[qDX l1 p1 t2,qDX l2 x55 t3]⟩],[qD0 l2 x55 t3],[])) ((0:Int),x12) () ?_
 intro k91
 rintro ⟨⟨x54,x55⟩,_⟩
 refine aw [39,1,5,24,6,0,2,1,13] ?_ ?_
 refine au [69] ?_
 refine qj [0,18,19,20] [] [] [0,1] (fun ((x0,_):qDU×Unit)=>([],[⟨t1,137,[qDX l1 p1 t2,qDX l2 x0 t3]⟩],[qD0 l2 x0 t3],[],qa3 F (qdv F x15 k91) x54 x0)) ?_ ?_
 refine au [128,26,7] ?_
 intro x1 e0 b0 o0
 refine au [25,7,76,94,4,26,9] ?_
 intro x3 e1 g0 h0
 refine ko (j:=0) (y:=x3) (qD .i64) rfl rfl tf3 rfl h0 (qu e1).2.2 (fun _=>rfl) rfl rfl ?_
 refine aw [26,10,0,2,13] ?_ ?_
 refine au [5,4,94,4,26,9] ?_
 intro x4 e2 g2 h1
 refine ko (j:=0) (y:=x4) (qD .i64) rfl rfl tf3 rfl h1 (qu e2).2.2 (fun _=>rfl) rfl rfl ?_
 refine au [25,14,26,9] ?_
 intro x6 e3 g3 h2
 refine kx (j:=0) (y':=isub .i64 x4 1) (qD .i64) rfl rfl rfl tf3 rfl h2 (qu e3).2.1 rfl (fun x7 e4 h3=>?_)
 have h4:x7.length=x55.length:=by rw[← e4,qBs]
 refine qr (d:=27) (v:=qDX l2 x7 t3) rfl h3 (qr (d:=35) (v:=qDX l2 x7 t3) rfl h3 (qW (i:=0) (cs':=[qDX l1 p1 t2,qDX l2 x7 t3]) rfl (by simp only[qDX,h3] <;> rfl) ?_))
 refine au [0,24,7] ?_
 exact qa (x7,())
 refine au [16,24,7] ?_
 exact qa (x55,())
 rintro ⟨x0,_⟩
 refine au [39,145] ?_
 exact qk ((iadd .i64 x54 1,x0),())
 refine au [91] ?_
 exact qK (l2,t3)
theorem qkN (F:Nat)(x1:List (qDU))(a2:qDV)(c3:(Nat×List (qDV×Nat)))(r:(qDU×Int))(hm:qho F x1=some r) :
    Pure qD3 69 [.agg #[qDX a2 x1 c3.1]] [SlN eN56 iN56 1 (qDX a2 x1 c3.1) x1 c3.2] (qDV×Nat) (fun g=>.tuple #[qDX g.1 r.1 g.2,qDW r.2]) (fun g=>[qD0 g.1 r.1 g.2]) (fun _=>[]):=by
 refine pureA func69 ntmps69 hm fun _=>?_
 refine au [104] ?_
 intro g4
 refine au [6,129,106,28,7] ?_
 intro x7 e7 _
 refine aw [6,0,2,1,5,4,25,8,0,2,13] ?_ ?_
 refine au [54,6,105] ?_
 exact qx (none,0)
 refine au [69,106,33,7] ?_
 rintro x8 e8 ⟨a9,c10⟩
 refine qH [qDX a9 x8 c10.1,.slice none 0 0] ?_
 refine au [24,4] ?_
 intro g11
 refine au [51] ?_
 refine qj [5] [] [0] [] (fun ((x86,a84,c85):qDU×qDV×Nat)=>([],[⟨g11,137,[qDX a9 x8 c10.1,qDX a84 x86 c85]⟩],[qD0 a84 x86 c85],[],qfE F x8 x86)) ?_ ?_
 refine au [54,94,110,28,1] ?_
 refine qp [5,23,24] [] [1] [] (fun (((x0,x2),a0,c0):(Int×qDU)×qDV×Nat)=>([(25,qDW x0)],[⟨g11,137,[qDX a9 x8 c10.1,qDX a0 x2 c0]⟩],[qD0 a0 x2 c0],[])) ((0:Int),([]:qDU)) (none,0) ?_
 intro k0
 rintro ⟨⟨x0,x2⟩,a0,c0⟩
 refine aw [39,1,5,24,6,0,2,1,13] ?_ ?_
 refine au [136,31,9] ?_
 intro x3 e0 g0 h0 g1 h1
 refine qkc (i:=0) rfl h0 (qBw) (qiJ (j:=1) (p:=(x3,g0)) qq rfl rfl tf56 rfl h1 h0 rfl (fun _=>rfl) rfl rfl ?_)
 refine au [51,5,4,4,94,4,24,10] ?_
 refine zB [(x3.length:Int)] (fun a1 c1=>?_)
 refine zw 3 (qD .i64) rfl underlying56 tf3 rfl rfl rfl rfl rfl (.inl ⟨0,_,rfl⟩) rfl rfl (fun x4 e1 a3 c2=>?_)
 refine au [85,17,0,82] ?_
 refine qiG (rin:=rN56) (p:=(x3,g0)) (i:=2) (k:=0) (.cons 2 rfl .nil) rfl rfl h0 ?_
 refine au [145] ?_
 exact qk ((iadd .i64 x0 1,x4),a3,c2)
 refine au [91] ?_
 exact qa (x2,a0,c0)
 rintro ⟨x86,a84,c85⟩
 refine au [120,94,24,10,26,6] ?_
 intro x87 e87 a88 c89
 refine au [97,51] ?_
 refine qP (fun ((x5,_):qDU×Unit)=>([(8,qDX a88 x5 c89)],[],[qD0 a88 x5 c89],[],qfF F x5)) ?_ ?_
 refine au [54,33,8] ?_
 rintro x6 e2 ⟨a4,c4⟩
 refine au [51,20] ?_
 refine qp [5] [] [2] [] (fun (((x9,x10,x11,x12),a5,c5):(qDU×Int×Int×qDU)×qDV×Nat)=>([(8,qDX a88 x9 c89),(9,qDW x10),(10,qDW x11)],[⟨g11,137,[qDX a9 x8 c10.1,qDX a5 x12 c5]⟩],[qD0 a88 x9 c89,qD0 a5 x12 c5],[])) (x87,(0:Int),x6.1,x6.2) (a4,c4) ?_
 intro k1
 rintro ⟨⟨x9,x10,x11,x12⟩,a5,c5⟩
 refine aw [39,1,1,5,4,26,10,0,2,13] ?_ ?_
 refine au [137,4,94,4] ?_
 refine qcC (j:=2) rfl UnF.u inferInstance rfl rfl rfl rfl ?_
 intro x13 e3 g2 h2
 refine ko (j:=2) (y:=x13) (qD .i64) rfl rfl tf3 rfl h2 (qu e3).2.2 (fun _=>rfl) rfl rfl (qyA rfl rfl rfl rfl ?_)
 refine au [76,4,4,29,0] ?_
 intro x14 e4 g3 h3
 refine kx (j:=1) (y':=imax x10 x13) (qD .i64) rfl rfl rfl tf3 rfl h3 (qu e4).2.1 rfl (fun x15 e5 h4=>?_)
 have h5:x15.length=x9.length:=by rw[← e5,qBs]
 refine qr (d:=8) (v:=qDX a88 x15 c89) rfl h4 (qr (d:=62) (v:=qDX a88 x15 c89) rfl h4 ?_)
 refine au [50,5,4,4] ?_
 refine qt qif ?_
 rintro x16 e6 ⟨a6,c6⟩
 refine au [0,82,5,4,33,8] ?_
 rintro x17 e9 ⟨a7,c7⟩
 refine au [6,0] ?_
 exact qk ((x15,imax x10 x13,x17.1,x17.2),a7,c7)
 refine au [91] ?_
 exact qa (x9,())
 rintro ⟨x5,_⟩
 refine au [120,6,52] ?_
 exact qx (a88,c89)
theorem qea {r:Unit}(hm:qan F p1 i1 i2 i3 m1 m2=some r) :
    PureM qD3 66 [qDY t1,.func (.func 67) #[] #[]] [⟨t1,85,[qDX l1 p1 t2,qDW i1,qDW i2,qDW i3,qDX l2 m1 t3,.string (bstr m2)]⟩] [] [SlN eN56 iN56 1 (qDX l1 p1 t2) p1 n1,qDZ l2 m1 t3] (Nat×Nat) (fun g=>.func (.func 94) #[] #[qDY g.1,qDY g.2]) (fun g=>[⟨g.1,83,[qDY t1]⟩,⟨g.2,107,[.func (.func 67) #[] #[]]⟩,⟨t1,85,[qDX l1 p1 t2,qDW i1,qDW i2,qDW i3,qDX l2 m1 t3,.string (bstr m2)]⟩]) (fun _=>[]):=by
 refine pureMA func66 ntmps66 hm fun _=>?_
 refine au [100] ?_
 intro g12
 refine au [24,4] ?_
 intro g13
 refine au [97,27,10,52] ?_
 exact qK (g12,g13)
theorem qd9 {r:Unit}(hm:qam F p1 i1 i2 i3 m1 m2=some r) :
    PureM qD3 66 [qDY t1,.func (.func 69) #[] #[]] [⟨t1,85,[qDX l1 p1 t2,qDW i1,qDW i2,qDW i3,qDX l2 m1 t3,.string (bstr m2)]⟩] [] [SlN eN56 iN56 1 (qDX l1 p1 t2) p1 n1,qDZ l2 m1 t3] (Nat×Nat) (fun g=>.func (.func 94) #[] #[qDY g.1,qDY g.2]) (fun g=>[⟨g.1,83,[qDY t1]⟩,⟨g.2,107,[.func (.func 69) #[] #[]]⟩,⟨t1,85,[qDX l1 p1 t2,qDW i1,qDW i2,qDW i3,qDX l2 m1 t3,.string (bstr m2)]⟩]) (fun _=>[]):=by
 refine pureMA func66 ntmps66 hm fun _=>?_
 refine au [100] ?_
 intro g12
 refine au [24,4] ?_
 intro g13
 refine au [97,27,10,52] ?_
 exact qK (g12,g13)
theorem qih {r:Unit}(hm:qct F p1 i1 i2 i3 m1 m2=some r) :
    PureM qD3 43 [qDY t1] [⟨t1,85,[qDX l1 p1 t2,qDW i1,qDW i2,qDW i3,qDX l2 m1 t3,.string (bstr m2)]⟩] [] [SlN eN56 iN56 1 (qDX l1 p1 t2) p1 n1,qDZ l2 m1 t3] (Nat×Nat×Nat×Nat×Nat) (fun g=>.map (some g.1)) (fun g=>[(blkO g.1 (mapT [(([110,111,100,101,115]:qDU),.agg #[qDW 1,.func (.func 58) #[qDY t1] #[]]),(([97,114,99]:qDU),.agg #[qDW 2,.func (.func 59) #[qDY t1] #[]]),(([100,114,111,112]:qDU),.agg #[qDW 2,.func (.func 60) #[qDY t1] #[]]),(([104,111,119]:qDU),.agg #[qDW 3,.func (.func 61) #[qDY t1] #[]]),(([98,105,116,115]:qDU),.agg #[qDW 0,.func (.func 62) #[qDY t1] #[]]),(([108,105,115,116]:qDU),.agg #[qDW 1,.func (.func 63) #[qDY t1] #[]]),(([102,97,114]:qDU),.agg #[qDW 2,.func (.func 64) #[qDY t1] #[]]),(([119,97,121]:qDU),.agg #[qDW 2,.func (.func 65) #[qDY t1] #[]]),(([112,97,114,116]:qDU),.agg #[qDW 1,.func (.func 94) #[] #[qDY g.2.1,qDY g.2.2.1]]),(([111,114,100,101,114]:qDU),.agg #[qDW 0,.func (.func 68) #[qDY t1] #[]]),(([99,111,114,101]:qDU),.agg #[qDW 1,.func (.func 94) #[] #[qDY g.2.2.2.1,qDY g.2.2.2.2]]),(([116,104,114,101,101,115]:qDU),.agg #[qDW 0,.func (.func 70) #[qDY t1] #[]])])),⟨g.2.1,83,[qDY t1]⟩,⟨g.2.2.1,107,[.func (.func 67) #[] #[]]⟩,⟨g.2.2.2.1,83,[qDY t1]⟩,⟨g.2.2.2.2,107,[.func (.func 69) #[] #[]]⟩,⟨t1,85,[qDX l1 p1 t2,qDW i1,qDW i2,qDW i3,qDX l2 m1 t3,.string (bstr m2)]⟩]) (fun _=>[]):=by
 refine pureMA func43 ntmps43 hm fun _=>?_
 refine au [80,97] ?_
 refine qoA rfl rfl ?_
 intro g12
 refine au [4,28,2] ?_
 refine qH [qDW 1,.func (.func 58) #[qDY t1] #[]] ?_
 refine yF (i:=0) (u:=([110,111,100,101,115]:qDU)) rfl underlying90 underlying9 rfl rfl rfl rfl (by kernel_rfl) ?_
 refine au [4,28,2] ?_
 refine qH [qDW 2,.func (.func 59) #[qDY t1] #[]] ?_
 refine yF (i:=0) (u:=([97,114,99]:qDU)) rfl underlying90 underlying9 rfl rfl rfl rfl (by kernel_rfl) ?_
 refine au [4,28,2] ?_
 refine qH [qDW 2,.func (.func 60) #[qDY t1] #[]] ?_
 refine yF (i:=0) (u:=([100,114,111,112]:qDU)) rfl underlying90 underlying9 rfl rfl rfl rfl (by kernel_rfl) ?_
 refine au [4,28,2] ?_
 refine qH [qDW 3,.func (.func 61) #[qDY t1] #[]] ?_
 refine yF (i:=0) (u:=([104,111,119]:qDU)) rfl underlying90 underlying9 rfl rfl rfl rfl (by kernel_rfl) ?_
 refine au [4,28,2] ?_
 refine qH [qDW 0,.func (.func 62) #[qDY t1] #[]] ?_
 refine yF (i:=0) (u:=([98,105,116,115]:qDU)) rfl underlying90 underlying9 rfl rfl rfl rfl (by kernel_rfl) ?_
 refine au [4,28,2] ?_
 refine qH [qDW 1,.func (.func 63) #[qDY t1] #[]] ?_
 refine yF (i:=0) (u:=([108,105,115,116]:qDU)) rfl underlying90 underlying9 rfl rfl rfl rfl (by kernel_rfl) ?_
 refine au [4,28,2] ?_
 refine qH [qDW 2,.func (.func 64) #[qDY t1] #[]] ?_
 refine yF (i:=0) (u:=([102,97,114]:qDU)) rfl underlying90 underlying9 rfl rfl rfl rfl (by kernel_rfl) ?_
 refine au [4,28,2] ?_
 refine qH [qDW 2,.func (.func 65) #[qDY t1] #[]] ?_
 refine yF (i:=0) (u:=([119,97,121]:qDU)) rfl underlying90 underlying9 rfl rfl rfl rfl (by kernel_rfl) ?_
 refine au [4] ?_
 refine qt qea ?_
 rintro x13 e13 ⟨g14,g15⟩
 refine qH [qDW 1,.func (.func 94) #[] #[qDY g14,qDY g15]] ?_
 refine yF (i:=3) (u:=([112,97,114,116]:qDU)) rfl underlying90 underlying9 rfl rfl rfl rfl (by kernel_rfl) ?_
 refine au [4,28,2] ?_
 refine qH [qDW 0,.func (.func 68) #[qDY t1] #[]] ?_
 refine yF (i:=3) (u:=([111,114,100,101,114]:qDU)) rfl underlying90 underlying9 rfl rfl rfl rfl (by kernel_rfl) ?_
 refine au [4] ?_
 refine qt qd9 ?_
 rintro x16 e16 ⟨g17,g18⟩
 refine qH [qDW 1,.func (.func 94) #[] #[qDY g17,qDY g18]] ?_
 refine yF (i:=5) (u:=([99,111,114,101]:qDU)) rfl underlying90 underlying9 rfl rfl rfl rfl (by kernel_rfl) ?_
 refine au [4,28,2] ?_
 refine qH [qDW 0,.func (.func 70) #[qDY t1] #[]] ?_
 refine yF (i:=5) (u:=([116,104,114,101,101,115]:qDU)) rfl underlying90 underlying9 rfl rfl rfl rfl (by kernel_rfl) ?_
 refine au [4,52] ?_
 exact qK (g12,g14,g15,g17,g18)
theorem qiS {v13:Value}{r:(Bool×qDU)}(hm:qQ F p1 i1 i2 i3 m1 m2 i4 p2=some r) :
    PureM qD3 44 [qDY t1,.agg #[qDW i4,v13],qDX l3 p2 t4] [⟨t1,85,[qDX l1 p1 t2,qDW i1,qDW i2,qDW i3,qDX l2 m1 t3,.string (bstr m2)]⟩] [qD0 l2 m1 t3] [SlN eN56 iN56 1 (qDX l1 p1 t2) p1 n1,Sl eT 1 (qDX l3 p2 t4) p2,GF] (qDV×Nat) (fun _=>.bool r.1) (fun g=>[⟨t1,85,[qDX l1 p1 t2,qDW i1,qDW i2,qDW i3,qDX g.1 r.2 g.2,.string (bstr m2)]⟩]) (fun g=>[qD0 g.1 r.2 g.2]):=by
 refine pureMA func44 ntmps44 hm fun _=>?_
 refine au [116] ?_
 intro g17
 refine au [51] ?_
 refine qj [2,4] [0] [] [1,0,2] (fun ((x0,a0,c0):qDU×qDV×Nat)=>([],[⟨t1,85,[qDX l1 p1 t2,qDW i1,qDW i2,qDW i3,qDX a0 x0 c0,.string (bstr m2)]⟩],[qD0 a0 x0 c0],[],qdw F i4 p2 x0)) ?_ ?_
 refine au [114] ?_
 refine qp [0,2,4,11,12] [0] [] [1,0,2] (fun (((x1,x3),a1,c1):(Int×qDU)×qDV×Nat)=>([(13,qDW x1)],[⟨t1,85,[qDX l1 p1 t2,qDW i1,qDW i2,qDW i3,qDX a1 x3 c1,.string (bstr m2)]⟩],[qD0 a1 x3 c1],[])) ((0:Int),m1) (l2,t3) ?_
 intro k0
 rintro ⟨⟨x1,x3⟩,a1,c1⟩
 refine aw [39,1,5,24,6,0,2,1,13] ?_ ?_
 refine au [136] ?_
 refine vT (j:=0) qF (by decide) rfl UnF.u inferInstance rfl rfl rfl rfl ?_
 intro x4 e0 b0 o0
 refine au [25,7,76] ?_
 refine vd EnC.e rfl rfl rfl (fun x9 e1=>qxo x4 x9 e1) (.consF 3 rfl .nil) (fun x9 e1=>?_)
 intro g0
 refine au [4,64,6,129,54] ?_
 refine qrD rfl underlying50 rfl rfl ?_
 refine au [4] ?_
 refine q6 3 24 27 [0,2,4,11,12,13,8,9] (decide (x9.1<0)) ?_ ?_ ?_
 exact az [79,71]
 exact az [4,24,6,70]
 refine au [4] ?_
 refine q6 4 28 32 [0,2,4,11,12,13,8,9] (decide (4<(x4.length:Int))) ?_ ?_ ?_
 exact az [79,9,71]
 refine au [4] ?_
 refine qqg (a:=x4) rfl underlying9 rfl rfl ?_
 exact az [109]
 refine au [4] ?_
 refine kX 5 [0,2,4,9,11,12,13] [0,1] [0] [1,2,3] (fun ((x10,_):Bool×Unit)=>([(38,.bool x10)],[],[],[],vV F (zN F i4 p2 k0) x1 x3 x9 x10)) ?_ ?_
 refine qG (os:=_) rfl ?_
 refine av [26,8] ?_ ?_
 intro h0
 refine kH (k:=33) rfl h0 ?_
 refine au [88,112] ?_
 exact qa (true,())
 intro h0
 refine kG (k:=33) rfl h0 ?_
 refine au [4] ?_
 refine vd EnC.e rfl rfl rfl (fun x13 e2=>qfD x9.1 x13 e2) (.consF 3 rfl .nil) (fun x13 e2 _=>?_)
 refine au [4,33,9,111] ?_
 exact qa ((!(bstr x13 == bstr x4)),())
 rintro ⟨x10,_⟩
 try dsimp only
 refine qG (os:=_) rfl ?_
 refine aw [0,2,13] ?_ ?_
 refine au [48,75,125,60] ?_
 exact qK (a1,c1)
 refine au [69,5,4,4,85,26,1,4] ?_
 refine zB [x9.1] (fun a2 c2=>?_)
 refine zw 1 (qD .i64) rfl underlying56 tf3 rfl rfl rfl rfl rfl (.inl ⟨0,_,rfl⟩) rfl rfl (fun x15 e3 a4 c3=>?_)
 refine au [85,121,146] ?_
 exact qk ((iadd .i64 x1 1,x15),a4,c3)
 refine au [91] ?_
 exact qa (x3,a1,c1)
 rintro ⟨x0,a0,c0⟩
 refine au [120,24,10,57,25,11,52] ?_
 exact qK (a0,c0)
theorem qij (F g1:Nat)(x2:List (qDU))(a3:qDV)(c4:(Nat×List (qDV×Nat)))(x5 x6 x7:Int)(x8:qDU)(a9:qDV)(c10:Nat)(x11:qDU)(r:(Int×List (qDU)))(hm:qfg F x2 x5 x6 x7 x8 x11=some r) :
    PureM qD3 58 [qDY g1] [⟨g1,85,[qDX a3 x2 c4.1,qDW x5,qDW x6,qDW x7,qDX a9 x8 c10,.string (bstr x11)]⟩] [RoN eN56 rN56 56 1 (qDX a3 x2 c4.1) x2 c4.2 []] [qDZ a9 x8 c10] (qDV×Nat×List (qDV×Nat)) (fun _=>qDW r.1) (fun g=>[⟨g1,85,[qDX g.1 r.2 g.2.1,qDW x5,qDW x6,qDW x7,qDX a9 x8 c10,.string (bstr x11)]⟩]) (fun g=>[RoN eN56 rN56 56 1 (qDX g.1 r.2 g.2.1) r.2 g.2.2 []]):=by
 refine pureMA func58 ntmps58 hm fun _=>?_
 refine au [80,129,54,94,26,7] ?_
 intro x16 e16 b17 o18
 refine aw [25,7,25,6,0,2,13] ?_ ?_
 refine au [48,75] ?_
 exact qK (a3,c4)
 refine au [69,54,4,94,29,6] ?_
 intro x19 e19 b20 o21
 refine au [25,7,29,15] ?_
 intro x22 e22 a23 c24
 refine qH [qDX a23 x22 c24] ?_
 refine au [85,12,132,48,52] ?_
 exact qK (a23,c24,(qBd x22.length ((none,0):qDV×Nat)))
theorem jD (hm:kY F w1 p1=some w2) :
    PureM qD3 158 [qDX l1 w1 t1,.func (.func 159) #[] #[qDY t2]] [⟨t2,24,[qDX l2 p1 t3]⟩] [Ro eS63 63 2 (qDX l1 w1 t1) w1] [SlN eN56 iN56 1 (qDX l2 p1 t3) p1 n1] (qDV×Nat) (fun g=>qDX g.1 w2 g.2) (fun _=>[⟨t2,24,[qDX l2 p1 t3]⟩]) (fun g=>[Ro eS63 63 2 (qDX g.1 w2 g.2) w2]):=by
 refine qdm func158 rfl ntmps158 rfl hm (fun w=>?_)
 refine au [100] ?_
 intro g8
 refine au [129,54,92] ?_
 refine qbW (encs:=(fun (p:Int×Int)=>[.agg #[qDW p.1,qDW p.2]])) (y:=(fun (x46:List (Int×Int)) ((x55,x56):Int×Int)=>kN F x46 x55 x56)) (lb:=[qDY t2]) (fun (x46:List (Int×Int)) ((a44,c45):qDV×Nat)=>[⟨g8,58,[qDX a44 x46 c45]⟩]) (fun (x46:List (Int×Int)) ((a44,c45):qDV×Nat)=>[Ro eS63 63 2 (qDX a44 x46 c45) x46]) (fun (_:Empty) (_:Unit)=>[]) (fun (_:Empty) (_:Unit)=>[]) (fun _=>.skip) w1 (l1,t1) rfl EnC.e (fun _=>rfl) rfl (.cons 1 rfl .nil) (.cons 0 rfl .nil) (.cons 0 rfl .nil) (.consF 0 rfl .nil) (fun z hz _ _ _ hY=>qdP F hY w1 (l1,t1) t2 p1 l2 (t3,n1) z hz) ?_ ?_ ?_
 rintro rc1 L1 D1 x46 ⟨a44,c45⟩ ⟨x55,x56⟩ z w M _
 try dsimp only
 refine qdq [(0,qDX l1 w1 t1),(1,.func (.func 159) #[] #[qDY t2]),(2,qDY g8),(4,.slice none 0 0),(6,.func (.func 159) #[] #[qDY t2]),(7,.agg #[qDW x55,qDW x56])] (qm rfl (qm rfl (qm rfl (qm rfl (qm rfl (qm rfl qdI)))))) ?_
 refine au [5,19] ?_
 intro g57
 refine au [17,0,33,10,20,5,26,1,25,0] ?_
 refine qaj (vs:=[.agg #[qDW x55,qDW x56]]) (ys:=([(x55,x56)]:List (Int×Int))) qd4 (by decide) rfl underlying58 tf63 rfl rfl rfl rfl rfl (by decide) (fun a58 c59=>zw 1 qd4 rfl underlying58 tf63 rfl rfl rfl rfl rfl (.inl ⟨0,_,rfl⟩) rfl rfl (fun x60 e60 a61 c62=>?_))
 refine au [121,24,7] ?_
 exact vn (rc:=rc1) rfl (.cons 2 rfl .nil) rfl (a61,c62) (.cons 2 rfl (.cons 0 rfl (.cons 1 rfl .nil))) (.cons 0 rfl .nil)
 rintro x46 _ ⟨a44,c45⟩ D1
 refine au [39,82,48,26,4,52] ?_
 exact jd [D1] (a44,c45) (.inl rfl) rfl (.cons 0 rfl .nil) (res1 rfl rfl) (fun h=>by subst h;rfl) (fun h=>by subst h;exact (.cons 0 rfl .nil)) (fun h=>by subst h;exact (.cons 0 rfl .nil))
 intro t;exact t.elim
theorem qbZ (hm:vt F p1=some w1) :
    PureM qD3 113 [.func (.func 159) #[] #[qDY t1]] [⟨t1,24,[qDX l1 p1 t2]⟩] [] [SlN eN56 iN56 1 (qDX l1 p1 t2) p1 n1] (qDV×Nat) (fun g=>qDX g.1 w1 g.2) (fun _=>[⟨t1,24,[qDX l1 p1 t2]⟩]) (fun g=>[Ro eS63 63 2 (qDX g.1 w1 g.2) w1]):=by
 refine pureMA func113 ntmps113 hm fun _=>?_
 refine au [80,76,33,11] ?_
 refine qt jD ?_
 rintro x5 e5 ⟨a6,c7⟩
 refine au [52] ?_
 exact qK (a6,c7)
theorem qnr {r:(List (Int×Int)×Int)}(hm:qi4 F p1=some r) :
    Pure qD3 82 [.agg #[qDX l1 p1 t1]] [SlN eN56 iN56 1 (qDX l1 p1 t1) p1 n1] (qDV×Nat) (fun g=>.tuple #[qDX g.1 r.1 g.2,qDW r.2]) (fun g=>[Ro eS63 63 2 (qDX g.1 r.1 g.2) r.1]) (fun _=>[]):=by
 refine pureA func82 ntmps82 hm fun _=>?_
 refine au [104] ?_
 intro g4
 refine au [6,129,106,28,7] ?_
 intro x7 e7 _
 refine aw [6,0,2,1,5,4,25,8,0,2,13] ?_ ?_
 refine au [54,6,75] ?_
 exact qfC (Int×Int) eS63 63 2 (qx (none,0))
 refine au [69,106,30,10] ?_
 intro x8 e8 g9
 refine qt qbZ ?_
 rintro x10 e10 ⟨a11,c12⟩
 refine au [6,52] ?_
 exact qx (a11,c12)
theorem ql8 (hm:qb5 F i1 w1=some p1) :
    Pure qD3 115 [qDW i1,qDX l1 w1 t1] [Sl eS63 2 (qDX l1 w1 t1) w1] (qDV×Nat×List (qDV×Nat)) (fun g=>.agg #[qDX g.1 p1 g.2.1]) (fun g=>[RoN eN56 rN56 56 1 (qDX g.1 p1 g.2.1) p1 g.2.2 []]) (fun _=>[]):=by
 refine pureA func115 ntmps115 hm fun _=>?_
 refine au [61,19] ?_
 intro g5
 refine au [50,54,29,15] ?_
 intro x6 e6 a7 c8
 refine qH [qDX a7 x6 c8] ?_
 refine au [19] ?_
 intro g9
 refine au [132] ?_
 refine qj [4,5] [1] [] [] (fun ((x0,g0):List (qDU)×List (qDV×Nat))=>([],[⟨g9,24,[qDX a7 x0 c8]⟩],[RoN eN56 rN56 56 1 (qDX a7 x0 c8) x0 g0 []],[],qgq F x0)) ?_ ?_
 refine au [114] ?_
 refine qp [4,5,11,12] [1] [] [0] (fun (((x3,x4),g1):(Int×List (qDU))×List (qDV×Nat))=>([(13,qDW x3)],[⟨g9,24,[qDX a7 x4 c8]⟩],[RoN eN56 rN56 56 1 (qDX a7 x4 c8) x4 g1 []],[])) ((0:Int),x6) (qBd x6.length ((none,0):qDV×Nat)) ?_
 intro k0
 rintro ⟨⟨x3,x4⟩,g1⟩
 refine aw [39,1,5,24,6,0,2,1,13] ?_ ?_
 refine au [136,31,11] ?_
 intro x5 e0 b0 o0
 refine au [29,8,19] ?_
 intro g2
 refine au [132,30,0] ?_
 intro x7 e1 g3 h0 g4 h1
 replace h1:a7=some ⟨g4,0,none⟩:=h1
 have h2:=zM (k:=x4.length) (c:=c8) h1
 refine qe3 (i:=0) rfl h0 (qBw) ?_
 refine au [29,7] ?_
 intro x8 e2 g6 h3 g7 h4
 replace h4:a7=some ⟨g7,0,none⟩:=h4
 have h5:=zM (k:=x4.length) (c:=c8) h4
 refine kB mixed [15] _ _ (.cons 0 rfl (.cons 0 rfl (.cons 0 rfl .nil))) (qh 0 rfl (qh 1 rfl (qE 1 rfl (qI qq h0 h1) (qE 1 rfl (qI qq h3 h4) qf)))) 16 rfl ?_
 refine au [21,0,29,1,1,21,2,25,4,3,21,4,29,1,5,21,6,25,4,7] ?_
 refine jB 8 h1 e1 ?_
 refine qB 9 (qDX g3.1 x7 g3.2) [[15]] rfl rfl rfl (qZ (j:=2) rfl tf56 rfl rfl (fun _=>rfl) rfl) ?_
 refine au [21,10,25,4,11,7,12] ?_
 refine zB [x5.2] (fun a0 c0=>?_)
 refine au [0] ?_
 refine qc (.cons 0 rfl (.cons 0 rfl (.cons 0 rfl .nil))) (qh 0 rfl (qh 1 rfl (qE 2 rfl (qI qq h0 h1) (qE 2 rfl (qI qq h3 h4) qf)))) ?_
 refine au [7,13] ?_
 refine zw 1 (qD .i64) rfl underlying56 tf3 rfl rfl rfl rfl rfl (.inl ⟨0,_,rfl⟩) rfl rfl (fun x9 e3 a1 c1=>?_)
 refine au [0] ?_
 refine qc (.cons 0 rfl (.cons 0 rfl (.cons 0 rfl .nil))) (qh 0 rfl (qh 1 rfl (qE 2 rfl (qI qq h0 h1) (qE 2 rfl (qI qq h3 h4) qf)))) (jB 14 h4 e2 ?_)
 refine au [7,15] ?_
 refine jN (j:=2) (kh:=0) (y':=x9) (q':=(a1,c1)) qq rfl rfl rfl tf56 rfl (zM h4) rfl (qu e2).2.1 rfl (.cons 0 rfl .nil) (fun x10 e4 h6 g8=>?_)
 have h7:x10.length=x4.length:=by rw[← e4,qBs]
 refine zl 18 h6 ?_
 refine zl 22 h6 ?_
 refine qW (i:=2) (cs':=[qDX a7 x10 c8]) rfl (by simp only[qDX,h6] <;> rfl) ?_
 refine au [0] ?_
 refine kZ 15 rfl (by kernel_rfl) (.cons 0 rfl (.cons 0 rfl (.cons 0 (by simp only[qDX,h7] <;> rfl) .nil))) ?_
 refine au [53,146] ?_
 exact qk ((iadd .i64 x3 1,x10),g8)
 refine au [91] ?_
 exact qa (x4,g1)
 rintro ⟨x0,g0⟩
 refine au [140,26,0,132,11] ?_
 exact qdL (a7,c8,g0) 0
theorem qdu {r:Unit}(hm:zJ F w1=some r) :
    PureM qD3 117 [qDX l1 w1 t1] [] [] [Sl eS63 2 (qDX l1 w1 t1) w1] Nat (fun g=>.func (.func 161) #[] #[qDY g]) (fun g=>[⟨g,58,[qDX l1 w1 t1]⟩]) (fun _=>[]):=by
 refine pureMA func117 ntmps117 hm fun _=>?_
 refine au [104] ?_
 intro g4
 refine au [97,27,10,52] ?_
 exact qK g4
theorem qnj [inst:DM]{F:Nat}{x1:qDU}{a2:qDV}{c3:Nat}{r:Int}(hm:qeL F x1=some r) :
    Pure qD3 162 [qDX a2 x1 c3] [qDZ a2 x1 c3] Unit (fun _=>qDW r) (fun _=>[]) (fun _=>[]):=by
 refine pureA func162 ntmps162 hm fun _=>?_
 refine au [80,97,51] ?_
 refine qP (fun ((_,_):Unit×Unit)=>([(3,qDW 0)],[],[],[],qg6 F)) ?_ ?_
 refine au [114] ?_
 refine qp [3,6,7] [] [] [0] (fun ((x46,_):Int×Unit)=>([(8,qDW x46)],[],[],[])) (0:Int) () ?_
 intro k57
 rintro ⟨x46,_⟩
 refine aw [39,1,5,24,6,0,2,1,13] ?_ ?_
 refine au [136,26,7] ?_
 intro x63 e63 b64 o65
 refine aw [25,7,6,0,2,1,5,4,4,25,8,0,2,13] ?_ ?_
 exact az [54,52,125,119]
 refine au [16,146] ?_
 exact qk (iadd .i64 x46 1,())
 exact az [130]
 rintro ⟨_,_⟩
 exact az [120,90]
theorem qks [inst:DM]{F:Nat}{x1:Int}{r:Bool}(hm:vo F x1=some r) :
    Pure qD3 190 [qDW x1] [] Unit (fun _=>.bool r) (fun _=>[]) (fun _=>[]):=by
 refine pureA func190 ntmps190 hm fun _=>?_
 exact az [80,76,4,25,8,90]
theorem qiN [inst:DM]{F:Nat}{x1:Int}{x2:Int}{r:Int}(hm:jh F x1 x2=some r) :
    Pure qD3 163 [qDW x1,qDW x2] [] Unit (fun _=>qDW r) (fun _=>[]) (fun _=>[]):=by
 refine pureA func163 ntmps163 hm fun _=>?_
 refine au [61,76,30,12] ?_
 intro x3 e3 _
 refine au [76,30,12] ?_
 intro x4 e4 _
 refine aw [6,0,2,1,1,5,4,0,2,13] ?_ ?_
 refine aw [1,1,5,4,0,2,13] ?_ ?_
 exact az [48,75,18,24,8]
 exact az [131,96]
 refine aw [16,2,1,1,5,4,0,2,13] ?_ ?_
 exact az [48,96]
 refine aw [16,2,1,1,5,4,4,24,6,0,2,13] ?_ ?_
 exact az [48,96]
 refine aw [16,2,1,1,5,4,4,25,6,0,2,13] ?_ ?_
 exact az [48,96]
 exact az [131,90]
theorem qma [inst:DM](F:Nat)(x1:Int)(x2:Int)(x3:Int)(x4:Int)(r:Int)(hm:qdW F x1 x2 x3 x4=some r) :
    Pure qD3 118 [.agg #[qDW x1,qDW x2],.agg #[qDW x3,qDW x4]] [] Unit (fun _=>qDW r) (fun _=>[]) (fun _=>[]):=by
 refine pureA func118 ntmps118 hm fun _=>?_
 refine au [100] ?_
 intro g5
 refine au [24,4] ?_
 intro g6
 refine au [129] ?_
 refine qJ [] [0,0] [] 13 ?_
 refine au [21,0,26,13,1,21,2,25,4,3,21,5,26,13,6,21,7,25,4,8,7,4,33,12] ?_
 intro x12 e12 _
 refine au [0,30,13,7,9,33,12] ?_
 intro x13 e13 _
 refine au [0,30,13,7,10] ?_
 refine zB [x12,x13] (fun a14 c15=>?_)
 refine au [0,30,13,7,11] ?_
 refine qd qnj ?_
 intro x16 e16 _
 exact az [0,30,13,3,12,53,2,11,24,8]
theorem qcK (F:Nat){σ τ:Type}{J:Rounds σ τ}{yy:σ→(Int×Int)→Option (σ ⊕ τ)}{L:Nat}(hY:YieldC qD3 L (fun (p:Int×Int)=>[.agg #[qDW p.1,qDW p.2]]) J yy)(s0:σ)(gs0:J.γ)(g1:Nat)(x2:List (Int×Int))(a3:qDV)(c4:Nat)(r:σ ⊕ τ)(hm:yn F yy x2 s0=some r) :
    PureM qD3 161 ([.func (.yield L) #[] #[],qDY g1]) ([⟨g1,58,[qDX a3 x2 c4]⟩]++J.IB s0 gs0) (J.IR s0 gs0) [J.F,Sl eS63 2 (qDX a3 x2 c4) x2] (J.G r) (fun _=>.tuple #[]) (fun g=>[⟨g1,58,[qDX a3 x2 c4]⟩]++J.bs r g) (fun g=>J.rs r g):=by
 refine pureMA func161 ntmps161 hm fun _=>?_
 refine au [61,24,0,110] ?_
 refine vE (fun (((x23,x24),g25):(Int×σ)×J.γ)=>[(0,.func (.yield L) #[] #[]),(5,qDX a3 x2 c4),(6,qDW (x2.length:Int)),(7,qDW x23)]) (fun (((x23,x24),g25):(Int×σ)×J.γ)=>[⟨g1,58,[qDX a3 x2 c4]⟩]++J.IB x24 g25) (fun (((x23,x24),g25):(Int×σ)×J.γ)=>[]++J.IR x24 g25) (fun (((x23,x24),g25):(Int×σ)×J.γ)=>[Sl eS63 2 (qDX a3 x2 c4) x2,J.F]) (fun k (s:(Int×σ)×J.γ)=>zg F yy x2 k s.1) ((0,s0),gs0) F ?_ (hB:=(.cons 0 rfl (qe 0 rfl))) (hR:=(qe 0 rfl)) (hF:=(qi 1 rfl (qi 0 rfl zG)))
 intro k44
 rintro ⟨⟨x23,x24⟩,g25⟩
 try dsimp only
 refine qaM (m':=zP F yy x2 (zg F yy x2 k44) x23 x24) rfl ?_
 refine aw [1,5,24,6,0,2,1,13] ?_ ?_
 refine au [136,31,11] ?_
 intro x54 e54 b55 o56
 refine au [29,8,19] ?_
 intro g57
 refine au [132,54,25,0] ?_
 refine qe4 hY x24 (x54.1,x54.2) g25 (B1:=[⟨g57,63,[qDW x54.1,qDW x54.2]⟩,⟨g1,58,[qDX a3 x2 c4]⟩]) (R1:=[]) (j:=2) rfl rfl rfl rfl rfl rfl rfl (fun x58 _ g60=>?_) (fun x59 _ g60=>?_)
 refine au [25,12,50] ?_
 refine yh (b:=false) rfl (fun h=>by cases h) (fun _=>?_)
 refine au [16,146] ?_
 exact vr ((iadd .i64 x23 1,x58),g60) (hB:=(.cons 1 rfl (qe 1 rfl))) (hR:=(qe 0 rfl)) (hF:=(qi 1 rfl (qi 2 rfl zG)))
 refine au [25,12,50] ?_
 refine yh (b:=true) rfl (fun _=>?_) (fun h=>by cases h)
 refine au [11,125,24,9] ?_
 exact jc (B0:=[⟨g1,58,[qDX a3 x2 c4]⟩]) (x:=.inr x59) g60 (.inl rfl) (res0 rfl) (.cons 1 rfl (qe 1 rfl)) (qe 0 rfl)
 refine au [91] ?_
 exact jc (B0:=[⟨g1,58,[qDX a3 x2 c4]⟩]) (x:=.inl x24) g25 (.inr rfl) (res0 rfl) (.cons 0 rfl (qe 0 rfl)) (qe 0 rfl)
theorem k8 (hm:qN F w1 w2=some w3) :
    PureM qD3 158 [qDX l1 w1 t1,.func (.func 161) #[] #[qDY t2]] [⟨t2,58,[qDX l2 w2 t3]⟩] [Ro eS63 63 2 (qDX l1 w1 t1) w1] [Sl eS63 2 (qDX l2 w2 t3) w2] (qDV×Nat) (fun g=>qDX g.1 w3 g.2) (fun _=>[⟨t2,58,[qDX l2 w2 t3]⟩]) (fun g=>[Ro eS63 63 2 (qDX g.1 w3 g.2) w3]):=by
 refine qdm func158 rfl ntmps158 rfl hm (fun w=>?_)
 refine au [100] ?_
 intro g8
 refine au [129,54,92] ?_
 refine qbW (encs:=(fun (p:Int×Int)=>[.agg #[qDW p.1,qDW p.2]])) (y:=(fun (x46:List (Int×Int)) ((x55,x56):Int×Int)=>zk F x46 x55 x56)) (lb:=[qDY t2]) (fun (x46:List (Int×Int)) ((a44,c45):qDV×Nat)=>[⟨g8,58,[qDX a44 x46 c45]⟩]) (fun (x46:List (Int×Int)) ((a44,c45):qDV×Nat)=>[Ro eS63 63 2 (qDX a44 x46 c45) x46]) (fun (_:Empty) (_:Unit)=>[]) (fun (_:Empty) (_:Unit)=>[]) (fun _=>.skip) w1 (l1,t1) rfl EnC.e (fun _=>rfl) rfl (.cons 1 rfl .nil) (.cons 0 rfl .nil) (.cons 0 rfl .nil) (.consF 0 rfl .nil) (fun z hz _ _ _ hY=>qcK F hY w1 (l1,t1) t2 w2 l2 t3 z hz) ?_ ?_ ?_
 rintro rc1 L1 D1 x46 ⟨a44,c45⟩ ⟨x55,x56⟩ z w M _
 try dsimp only
 refine qdq [(0,qDX l1 w1 t1),(1,.func (.func 161) #[] #[qDY t2]),(2,qDY g8),(4,.slice none 0 0),(6,.func (.func 161) #[] #[qDY t2]),(7,.agg #[qDW x55,qDW x56])] (qm rfl (qm rfl (qm rfl (qm rfl (qm rfl (qm rfl qdI)))))) ?_
 refine au [5,19] ?_
 intro g57
 refine au [17,0,33,10,20,5,26,1,25,0] ?_
 refine qaj (vs:=[.agg #[qDW x55,qDW x56]]) (ys:=([(x55,x56)]:List (Int×Int))) qd4 (by decide) rfl underlying58 tf63 rfl rfl rfl rfl rfl (by decide) (fun a58 c59=>zw 1 qd4 rfl underlying58 tf63 rfl rfl rfl rfl rfl (.inl ⟨0,_,rfl⟩) rfl rfl (fun x60 e60 a61 c62=>?_))
 refine au [121,24,7] ?_
 exact vn (rc:=rc1) rfl (.cons 2 rfl .nil) rfl (a61,c62) (.cons 2 rfl (.cons 0 rfl (.cons 1 rfl .nil))) (.cons 0 rfl .nil)
 rintro x46 _ ⟨a44,c45⟩ D1
 refine au [39,82,48,26,4,52] ?_
 exact jd [D1] (a44,c45) (.inl rfl) rfl (.cons 0 rfl .nil) (res1 rfl rfl) (fun h=>by subst h;rfl) (fun h=>by subst h;exact (.cons 0 rfl .nil)) (fun h=>by subst h;exact (.cons 0 rfl .nil))
 intro t;exact t.elim
theorem yY (hm:qM F w1=some w2) :
    PureM qD3 113 [.func (.func 161) #[] #[qDY t1]] [⟨t1,58,[qDX l1 w1 t2]⟩] [] [Sl eS63 2 (qDX l1 w1 t2) w1] (qDV×Nat) (fun g=>qDX g.1 w2 g.2) (fun _=>[⟨t1,58,[qDX l1 w1 t2]⟩]) (fun g=>[Ro eS63 63 2 (qDX g.1 w2 g.2) w2]):=by
 refine pureMA func113 ntmps113 hm fun _=>?_
 refine au [80,76,33,11] ?_
 refine qt k8 ?_
 rintro x5 e5 ⟨a6,c7⟩
 refine au [52] ?_
 exact qK (a6,c7)
theorem jQ (hm:zL F w1=some w2) :
    PureM qD3 160 [qDX l1 w1 t1,.func (.func 118) #[] #[]] [] [Ro eS63 63 2 (qDX l1 w1 t1) w1] [] Unit (fun _=>.tuple #[]) (fun _=>[]) (fun _=>[Ro eS63 63 2 (qDX l1 w2 t1) w2]) :=
  qp5 (cb:=[]) (BC:=[]) (Φ:=[]) qd4 (by decide) (qrl _) (fun p cap w=>Tryz.sortn160 p cap _ w) (fun a b z h=>(toM1 (qma (inst:=dm1) F a.1 a.2 b.1 b.2 z h))) hm
theorem kS (hm:ql F w1=some w2) :
    PureM qD3 116 [.func (.func 161) #[] #[qDY t1],.func (.func 118) #[] #[]] [⟨t1,58,[qDX l1 w1 t2]⟩] [] [Sl eS63 2 (qDX l1 w1 t2) w1] (qDV×Nat) (fun g=>qDX g.1 w2 g.2) (fun _=>[⟨t1,58,[qDX l1 w1 t2]⟩]) (fun g=>[Ro eS63 63 2 (qDX g.1 w2 g.2) w2]):=by
 refine pureMA func116 ntmps116 hm fun _=>?_
 refine au [61,76] ?_
 refine qt yY ?_
 rintro x5 e5 ⟨a6,c7⟩
 refine au [76,4] ?_
 refine qt jQ ?_
 intro x8 e8 _
 refine au [27,0] ?_
 intro h9
 replace h9:=of_decide_eq_true h9
 refine qr (d:=5) (v:=qDX a6 x8 c7) rfl (by simp only[qDX,h9] <;> rfl) (qr (d:=7) (v:=qDX a6 x8 c7) rfl (by simp only[qDX,h9] <;> rfl) (qr (d:=8) (v:=qDX a6 x8 c7) rfl (by simp only[qDX,h9] <;> rfl) ?_))
 refine au [50,54,52] ?_
 exact qK (a6,c7)
theorem qqC {r:(List (qDU)×Int)}(hm:qk0 F i1 w1=some r) :
    Pure qD3 83 [qDW i1,qDX l1 w1 t1] [Sl eS63 2 (qDX l1 w1 t1) w1] (qDV×Nat×List (qDV×Nat)) (fun g=>.tuple #[.agg #[qDX g.1 r.1 g.2.1],qDW r.2]) (fun g=>[RoN eN56 rN56 56 1 (qDX g.1 r.1 g.2.1) r.1 g.2.2 []]) (fun _=>[]):=by
 refine pureA func83 ntmps83 hm fun _=>?_
 refine au [61,19] ?_
 intro g5
 refine au [129,122,143] ?_
 refine q6 3 14 17 [0,1,4] (decide (100<i1)) ?_ ?_ ?_
 exact az [79,71]
 exact az [4,109]
 refine aw [6,0,2,13] ?_ ?_
 refine au [48] ?_
 refine qH [.slice none 0 0] ?_
 exact az [17,52,60,27,5,30,2]
 refine aw [1,5,4,24,10,25,6,6,0,2,13] ?_ ?_
 refine au [48] ?_
 refine qH [.slice none 0 0] ?_
 exact az [17,52,60,27,5,30,2]
 refine au [16,82,48] ?_
 refine qqi (k0:=.i64) (k1:=.i64) rfl rfl (fun g10=>?_)
 refine au [51] ?_
 refine qj [0,1,4] [1] [] [0] (fun ((_,_):Unit×Unit)=>([],[],[],[],qia F i1 w1)) ?_ ?_
 refine au [114] ?_
 refine qp [0,1,4,6,25,26] [1] [] [0] (fun (((x0,x3),_):(Int×List (Int×Int))×Unit)=>([(27,qDW x0)],[(blkO g10 (mapO .i64 .i64 x3))],[],[])) ((0:Int),([]:List (Int×Int))) () ?_
 intro k2
 rintro ⟨⟨x0,x3⟩,_⟩
 refine aw [39,1,5,24,6,0,2,1,13] ?_ ?_
 refine au [136,31,11] ?_
 intro x4 e0 b0 o0
 refine au [29,8,19] ?_
 intro g0
 refine au [132,1,48,57,143] ?_
 refine q6 5 34 39 [0,1,4,6,25,26,27,8] (decide (i1≤x4.1)) ?_ ?_ ?_
 exact az [88,71]
 exact az [57,4,26,10,70]
 refine au [4] ?_
 refine q6 4 40 44 [0,1,4,6,25,26,27,8] (decide (x4.2<0)) ?_ ?_ ?_
 exact az [79,9,71]
 exact az [57,24,6,70]
 refine au [4] ?_
 refine q6 5 45 50 [0,1,4,6,25,26,27,8] (decide (i1≤x4.2)) ?_ ?_ ?_
 exact az [88,71]
 exact az [57,4,26,10,70]
 refine aw [0,2,13] ?_ ?_
 refine au [48] ?_
 refine qH [.slice none 0 0] ?_
 exact az [25,10,75,125,60,27,5,33,13]
 refine au [135,54,25,0] ?_
 refine qqh (i:=2) (p:=(x4.1,x4.2)) rfl underlying155 se63 tf156 rfl rfl rfl rfl ?_
 refine au [4,64,19] ?_
 intro g1
 refine aw [17,6,0,2,1,5,4,0,2,13] ?_ ?_
 refine au [48] ?_
 refine qH [.slice none 0 0] ?_
 refine au [27,14,75,125,60,27,5] ?_
 exact kp (none,0,([]:List (qDV×Nat))) 2
 refine au [69,5,4,26,0,33,14] ?_
 refine qrC (i:=3) (p:=(x4.1,x4.2)) rfl underlying155 se63 rfl rfl rfl rfl (fun x5 e1=>?_)
 refine au [0,146] ?_
 exact qk ((iadd .i64 x0 1,x5),())
 exact az [130]
 rintro ⟨_,_⟩
 refine au [120,4,33,15] ?_
 intro x6 e2 g2
 refine au [34,0] ?_
 rintro x7 e3 ⟨a0,c0⟩
 refine au [34,1] ?_
 rintro x8 e4 ⟨a1,c1⟩
 refine au [25,10,52] ?_
 exact kp (a1,c1) 1
theorem qjF (F g1:Nat)(x2:List (qDU))(a3:qDV)(c4:(Nat×List (qDV×Nat)))(x5 x6 x7:Int)(x8:qDU)(a9:qDV)(c10:Nat)(x11:qDU)(r:(Int×List (qDU)))(hm:qgo F x2 x5 x6 x7 x8 x11=some r) :
    PureM qD3 59 [qDY g1] [⟨g1,85,[qDX a3 x2 c4.1,qDW x5,qDW x6,qDW x7,qDX a9 x8 c10,.string (bstr x11)]⟩] [RoN eN56 rN56 56 1 (qDX a3 x2 c4.1) x2 c4.2 []] [qDZ a9 x8 c10] (qDV×Nat×List (qDV×Nat)) (fun _=>qDW r.1) (fun g=>[⟨g1,85,[qDX g.1 r.2 g.2.1,qDW x5,qDW x6,qDW x7,qDX a9 x8 c10,.string (bstr x11)]⟩]) (fun g=>[RoN eN56 rN56 56 1 (qDX g.1 r.2 g.2.1) r.2 g.2.2 []]):=by
 refine pureMA func59 ntmps59 hm fun _=>?_
 refine au [80,76,85,134] ?_
 refine qd qnr ?_
 rintro x12 e12 ⟨a13,c14⟩
 refine au [4,64,6,129,30,14] ?_
 intro x31 e31 b32 o33 h34
 replace h34:a9=some ⟨b32,o33,none⟩:=h34
 refine au [28,9] ?_
 intro x35 e35 b36 o37 h38
 replace h38:a9=some ⟨b36,o37,none⟩:=h38
 refine kB mixed [31] _ _ .nil (qh 0 rfl (qh 1 rfl (qh 2 rfl (qgv 0 rfl qf)))) 33 rfl ?_
 refine au [115,21,3,21,4,21,5] ?_
 refine qB 6 (qDX a3 x2 c4.1) [[31]] rfl rfl rfl (kW (j:=3) rfl tf22 rfl rfl (fun _=>rfl) rfl) ?_
 refine au [28,8,7,3,8,141,21,11] ?_
 refine qB 12 (qDX a9 x8 c10) [[31]] rfl rfl rfl (kW (j:=3) rfl tf56 rfl rfl (fun _=>rfl) rfl) (v7 13 h34 e31 ?_)
 refine qB 14 (qDW x31) [[31]] rfl rfl rfl (qZ (j:=1) rfl tf3 rfl rfl (fun _=>rfl) rfl) ?_
 refine au [47,21,17] ?_
 refine qB 18 (qDX a9 x8 c10) [[31]] rfl rfl rfl (kW (j:=3) rfl tf56 rfl rfl (fun _=>rfl) rfl) (v7 19 h38 e35 ?_)
 refine qB 20 (qDW x35) [[31]] rfl rfl rfl (qZ (j:=0) rfl tf3 rfl rfl (fun _=>rfl) rfl) (qb 21 (.agg #[qDW x31,qDW x35]) rfl rfl rfl (qdr (cells:=[qDW x31,qDW x35]) st63 rfl (by kernel_rfl)) ?_)
 refine au [7,22] ?_
 refine qaj (vs:=[.agg #[qDW x31,qDW x35]]) (ys:=([(x31,x35)]:List (Int×Int))) qd4 (by decide) rfl underlying58 tf63 rfl rfl rfl rfl rfl (by decide) (fun a39 c40=>?_)
 refine au [0,31,12,7,23] ?_
 refine zw 1 qd4 rfl underlying58 tf63 rfl rfl rfl rfl rfl (.inl ⟨0,_,rfl⟩) rfl rfl (fun x41 e41 a42 c43=>?_)
 refine au [0,31,12,7,24] ?_
 refine qd qqC ?_
 rintro x44 e44 ⟨a45,c46⟩
 refine au [0,31,12,3,25,3,26,3,27,3,28,21,29,21,30,7,31,17,0] ?_
 refine kZ 31 rfl (by kernel_rfl) .nil ?_
 refine au [3,32,53,2,54,52] ?_
 exact qK (a45,c46)
theorem qhi (F:Nat)(x1:Int)(g2 g3:Nat)(x4:List (qDU))(a5:qDV)(c6:(Nat×List (qDV×Nat)))(x7 x8 x9:Int)(x10:qDU)(a11:qDV)(c12:Nat)(x13:qDU)(r:Bool)(hm:qby F x1 x4 x7 x8 x9 x10 x13=some r) :
    PureM qD3 120 [qDW x1,qDY g2] [⟨g2,83,[qDY g3]⟩,⟨g3,85,[qDX a5 x4 c6.1,qDW x7,qDW x8,qDW x9,qDX a11 x10 c12,.string (bstr x13)]⟩] [] [SlN eN56 iN56 1 (qDX a5 x4 c6.1) x4 c6.2,qDZ a11 x10 c12] Unit (fun _=>.bool r) (fun _=>[⟨g2,83,[qDY g3]⟩,⟨g3,85,[qDX a5 x4 c6.1,qDW x7,qDW x8,qDW x9,qDX a11 x10 c12,.string (bstr x13)]⟩]) (fun _=>[]):=by
 refine pureMA func120 ntmps120 hm fun _=>?_
 exact az [61,76,24,0,85,12,123,24,10,26,10,117]
theorem jP (hm:zK F m1 p1 i1 i2 i3 m2 m3=some i4) :
    PureM qD3 129 [qDX l1 m1 t1,.func (.func 120) #[] #[qDY t2]] [⟨t2,83,[qDY t3]⟩,⟨t3,85,[qDX l2 p1 t4,qDW i1,qDW i2,qDW i3,qDX l3 m2 t5,.string (bstr m3)]⟩] [] [qDZ l1 m1 t1,SlN eN56 iN56 1 (qDX l2 p1 t4) p1 n1,qDZ l3 m2 t5] Unit (fun _=>qDW i4) (fun _=>[⟨t2,83,[qDY t3]⟩,⟨t3,85,[qDX l2 p1 t4,qDW i1,qDW i2,qDW i3,qDX l3 m2 t5,.string (bstr m3)]⟩]) (fun _=>[]):=by
 refine pureMA func129 ntmps129 hm fun _=>?_
 refine au [61,51] ?_
 refine qj [] [0,1] [] [1,2] (fun ((_,_):Unit×Unit)=>([],[],[],[],kT F)) ?_ ?_
 refine au [114] ?_
 refine qp [0,1,7] [0,0] [] [0,1,2] (fun ((x66,_):Int×Unit)=>([(8,qDW x66)],[],[],[])) (0:Int) () ?_
 intro k79
 rintro ⟨x66,_⟩
 refine aw [39,1,5,24,6,0,2,1,13] ?_ ?_
 refine au [137,76,4,4,26,7] ?_
 intro x86 e86 b87 o88
 refine au [25,7] ?_
 refine qfA EnC.e rfl rfl rfl rfl (fun x89 e89=>qhi F x86 t2 t3 p1 l2 (t4,n1) i1 i2 i3 m2 l3 t5 m3 x89 e89) (.cons 0 rfl (.cons 0 rfl .nil)) .nil (.consF 2 rfl (.consF 3 rfl .nil)) (fun x89 e89 _=>?_)
 refine aw [0,2,13] ?_ ?_
 exact az [54,52,125,60,26,3]
 refine au [16,146] ?_
 exact qk (iadd .i64 x66 1,())
 exact az [130]
 rintro ⟨_,_⟩
 exact az [140,117]
theorem v6 (hm:zx F m1 p1 i1 i2 i3 m2 m3=some d1) :
    PureM qD3 119 [qDX l1 m1 t1,.func (.func 120) #[] #[qDY t2]] [⟨t2,83,[qDY t3]⟩,⟨t3,85,[qDX l2 p1 t4,qDW i1,qDW i2,qDW i3,qDX l3 m2 t5,.string (bstr m3)]⟩] [] [qDZ l1 m1 t1,SlN eN56 iN56 1 (qDX l2 p1 t4) p1 n1,qDZ l3 m2 t5] Unit (fun _=>.bool d1) (fun _=>[⟨t2,83,[qDY t3]⟩,⟨t3,85,[qDX l2 p1 t4,qDW i1,qDW i2,qDW i3,qDX l3 m2 t5,.string (bstr m3)]⟩]) (fun _=>[]):=by
 refine pureMA func119 ntmps119 hm fun _=>?_
 refine au [61,76,4] ?_
 refine qt jP ?_
 intro x16 e16 _
 exact az [26,10,117]
theorem qig (hm:k9 F p1 i1 i2 i3 m1 m2 m3=some d1) :
    PureM qD3 84 [qDY t1,qDX l3 m3 t4] [⟨t1,85,[qDX l1 p1 t2,qDW i1,qDW i2,qDW i3,qDX l2 m1 t3,.string (bstr m2)]⟩] [] [SlN eN56 iN56 1 (qDX l1 p1 t2) p1 n1,qDZ l2 m1 t3,qDZ l3 m3 t4] Unit (fun _=>.bool d1) (fun _=>[⟨t1,85,[qDX l1 p1 t2,qDW i1,qDW i2,qDW i3,qDX l2 m1 t3,.string (bstr m2)]⟩]) (fun _=>[]):=by
 refine pureMA func84 ntmps84 hm fun _=>?_
 refine au [100] ?_
 intro g15
 refine au [76,27,10] ?_
 refine qt v6 ?_
 intro x16 e16 _
 exact az [25,12,117]
theorem qgl {x4 x5:Int}(hm:j7 F m1 x4 x5=some m2) :
    PureM qD3 86 [qDX l1 m1 t1,qDW x4,qDW x5] [] [qD0 l1 m1 t1] [] (qDV×Nat) (fun g=>qDX g.1 m2 g.2) (fun _=>[]) (fun g=>[qD0 g.1 m2 g.2]):=by
  unfold j7 at hm
  split at hm
  · cases hm
    exact qnP Tryz.slices_Delete_int_arr (by assumption)
  · simp at hm
theorem qiP (F g1:Nat)(x2:List (qDU))(a3:qDV)(c4:(Nat×List (qDV×Nat)))(x5 x6 x7:Int)(x8:qDU)(a9:qDV)(c10:Nat)(x11:qDU)(r:(Int×List (qDU)))(hm:qfH F x2 x5 x6 x7 x8 x11=some r) :
    PureM qD3 60 [qDY g1] [⟨g1,85,[qDX a3 x2 c4.1,qDW x5,qDW x6,qDW x7,qDX a9 x8 c10,.string (bstr x11)]⟩] [RoN eN56 rN56 56 1 (qDX a3 x2 c4.1) x2 c4.2 []] [qDZ a9 x8 c10] (qDV×Nat×List (qDV×Nat)) (fun _=>qDW r.1) (fun g=>[⟨g1,85,[qDX g.1 r.2 g.2.1,qDW x5,qDW x6,qDW x7,qDX a9 x8 c10,.string (bstr x11)]⟩]) (fun g=>[RoN eN56 rN56 56 1 (qDX g.1 r.2 g.2.1) r.2 g.2.2 []]):=by
 refine pureMA func60 ntmps60 hm fun _=>?_
 refine au [80,129,54,4,94,30,15] ?_
 intro x14 e14 _
 refine aw [25,12,0,2,13] ?_ ?_
 refine au [48,75] ?_
 exact qK (a3,c4)
 refine au [135,30,14] ?_
 intro x25 e25 b26 o27 h28
 replace h28:a9=some ⟨b26,o27,none⟩:=h28
 refine au [30,0] ?_
 intro x29 e29 g30 h31 g32 h33
 replace h33:a3=some ⟨g32,0,none⟩:=h33
 have h34:=zM (k:=x2.length) (c:=c4.1) h33
 refine qe3 (i:=0) rfl h31 (qBw) (kB mixed [] _ _ (.cons 0 rfl .nil) (qh 0 rfl (qh 1 rfl (qE 1 rfl (qI qq h31 h33) qf))) 15 rfl ?_)
 refine au [89,21,2,21,3,21,4,25,4,5,87,21,8,25,4,9] ?_
 refine v7 10 h28 e25 ?_
 refine qB 11 (qDW x25) [] rfl rfl rfl (qZ (j:=0) rfl tf3 rfl rfl (fun _=>rfl) rfl) (jB 12 h33 e29 ?_)
 refine qB 13 (qDX g30.1 x29 g30.2) [] rfl rfl rfl (qZ (j:=2) rfl tf56 rfl rfl (fun _=>rfl) rfl) ?_
 refine au [3,14,53,2,54,4,94,29,6] ?_
 intro x35 e35 b36 o37
 refine au [25,7,31,8] ?_
 intro x38 e38 _
 refine aw [6,0,2,1,1,5,4,24,6,0,2,13] ?_ ?_
 refine au [1] ?_
 refine qiG (rin:=rN56) (p:=(x29,g30)) (i:=0) (k:=0) (.cons 0 rfl .nil) rfl rfl h31 ?_
 refine au [5,75] ?_
 exact qK (a3,c4)
 refine au [135] ?_
 refine qt9 e25 ?_
 refine au [30,3] ?_
 intro x57 e57 b58 o59 h60
 obtain rfl:x25=x57:=Option.some.inj (e25.symm.trans e57)
 replace h60:a9=some ⟨b58,o59,none⟩:=h60
 refine au [29,7] ?_
 intro x61 e61 g62 h63 g64 h65
 replace h65:a3=some ⟨g64,0,none⟩:=h65
 have h66:=zM (k:=x2.length) (c:=c4.1) h65
 refine qJ [] [0] [0,1,2,3] 19 ?_
 refine au [89,21,2,21,3,21,4,25,4,5,87,21,8,25,4,9] ?_
 refine v7 10 h60 e25 ?_
 refine qB 11 (qDW x25) [] rfl rfl rfl (qZ (j:=0) rfl tf3 rfl rfl (fun _=>rfl) rfl) ?_
 refine au [3,12,45,3,15,7,16] ?_
 refine qt qgl ?_
 rintro x67 e67 ⟨a68,c69⟩
 refine au [0,34,2] ?_
 refine jB 17 h65 e61 ?_
 refine au [7,18] ?_
 refine jN (j:=1) (kh:=0) (y':=x67) (q':=(a68,c69)) qq rfl rfl rfl tf56 rfl (zM h65) rfl (qu e61).2.1 rfl (.cons 0 rfl .nil) (fun x70 e70 h71 g73=>?_)
 have h72:x70.length=x2.length:=by rw[← e70,qBs]
 refine zl 17 h71 ?_
 refine zl 41 h71 ?_
 refine qW (i:=0) (cs':=[qDX a3 x70 c4.1,qDW x5,qDW x6,qDW x7,qDX a9 x8 c10,.string (bstr x11)]) rfl (by simp only[qDX,h71] <;> rfl) ?_
 refine au [0] ?_
 refine qc (.cons 0 (by simp only[qDX,h72] <;> rfl) .nil) (qh 0 rfl (qh 1 rfl (qh 2 rfl (qh 3 rfl qf)))) ?_
 refine au [53,2,48,52] ?_
 exact qK (a3,c4.1,g73)
theorem qjH (F g1:Nat)(x2:List (qDU))(a3:qDV)(c4:(Nat×List (qDV×Nat)))(x5 x6 x7:Int)(x8:qDU)(a9:qDV)(c10:Nat)(x11:qDU)(r:(Int×Int×Int×Int))(hm:qbM F x2 x5 x6 x7 x8 x11=some r) :
    PureM qD3 61 [qDY g1] [⟨g1,85,[qDX a3 x2 c4.1,qDW x5,qDW x6,qDW x7,qDX a9 x8 c10,.string (bstr x11)]⟩] [] [SlN eN56 iN56 1 (qDX a3 x2 c4.1) x2 c4.2,qDZ a9 x8 c10] Unit (fun _=>qDW r.1) (fun _=>[⟨g1,85,[qDX a3 x2 c4.1,qDW r.2.1,qDW r.2.2.1,qDW r.2.2.2,qDX a9 x8 c10,.string (bstr x11)]⟩]) (fun _=>[]):=by
 refine pureMA func61 ntmps61 hm fun _=>?_
 refine au [80,129,28,9] ?_
 intro x24 e24 b25 o26 h27
 replace h27:a9=some ⟨b25,o26,none⟩:=h27
 refine au [30,3] ?_
 intro x28 e28 b29 o30 h31
 replace h31:a9=some ⟨b29,o30,none⟩:=h31
 refine qgF (j:=3) (qD .i64) (by decide) rfl ?_
 intro x32 e32 b33 o34 h35
 replace h35:a9=some ⟨b33,o34,none⟩:=h35
 refine kB mixed [23] _ _ .nil (qh 0 rfl (qh 1 rfl (qh 2 rfl (qh 3 rfl (qh 4 rfl (qgv 0 rfl qf)))))) 24 rfl ?_
 refine au [115,21,3] ?_
 refine qB 4 (qDX a9 x8 c10) [[23]] rfl rfl rfl (kW (j:=5) rfl tf56 rfl rfl (fun _=>rfl) rfl) (v7 5 h27 e24 ?_)
 refine qB 6 (qDW x24) [[23]] rfl rfl rfl (qZ (j:=2) rfl tf3 rfl rfl (fun _=>rfl) rfl) ?_
 refine au [3,7,3,8,21,9] ?_
 refine qB 10 (qDX a9 x8 c10) [[23]] rfl rfl rfl (kW (j:=5) rfl tf56 rfl rfl (fun _=>rfl) rfl) (v7 11 h31 e28 ?_)
 refine qB 12 (qDW x28) [[23]] rfl rfl rfl (qZ (j:=1) rfl tf3 rfl rfl (fun _=>rfl) rfl) ?_
 refine au [45,21,15] ?_
 refine qB 16 (qDX a9 x8 c10) [[23]] rfl rfl rfl (kW (j:=5) rfl tf56 rfl rfl (fun _=>rfl) rfl) (v7 17 h35 e32 ?_)
 refine qB 18 (qDW x32) [[23]] rfl rfl rfl (qZ (j:=0) rfl tf3 rfl rfl (fun _=>rfl) rfl) (qb 19 (.agg #[qDW x24,qDW x28,qDW x32]) rfl rfl rfl (qdr (cells:=[qDW x24,qDW x28,qDW x32]) st26 rfl (by kernel_rfl)) ?_)
 refine au [3,20,21,21,21,22,7,23,17,0] ?_
 refine kZ 23 rfl (by kernel_rfl) .nil ?_
 refine au [53,2,54,85,134,29,14] ?_
 intro x36 e36 _
 exact az [117]
theorem qfU (hm:yW F m1=some m2) :
    Pure qD3 260 [qDX l1 m1 t1] [qD1 l1 m1 t1] (qDV×Nat) (fun g=>qDX g.1 m2 g.2) (fun g=>[qD2 g.1 m2 g.2]) (fun _=>[]):=by
 refine pureA func260 ntmps260 hm fun _=>?_
 refine av [80,129,54,33,1,50,33,2] ?_ ?_
 intro h11
 refine qqc 0 (qD .u8) (by decide) rfl h11 (fun h12=>?_)
 subst h12
 refine qaM (m':=some ([]:qDU)) rfl ?_
 refine au [48,75,26,5] ?_
 exact qx (none,0)
 intro _
 refine au [131] ?_
 refine zB (k:=.u8) [] ?_
 intro a6 c7
 refine au [4] ?_
 refine zw 0 (qD .u8) rfl UnF.u inferInstance rfl rfl rfl rfl rfl (.inr ⟨0,rfl⟩) rfl rfl ?_
 intro x8 e8 a9 c10
 refine au [52] ?_
 exact qx (a9,c10)
theorem qqv {r:(Int×qDU)}(hm:qe9 F i1 m1=some r) :
    PureM qD3 231 [.agg #[qDW i1,qDX l1 m1 t1]] [] [] [qD1 l1 m1 t1] ((qDV×Nat)×Nat) (fun g=>qDY g.2) (fun g=>[⟨g.2,299,[qDW r.1,qDX g.1.1 r.2 g.1.2]⟩]) (fun g=>[qD2 g.1.1 r.2 g.1.2]):=by
 refine pureMA func231 ntmps231 hm fun _=>?_
 refine au [104] ?_
 intro g5
 refine au [129] ?_
 refine qJ [] [0] [0] 9 ?_
 refine au [139,21,2,25,4,3,7,4] ?_
 refine qd qfU ?_
 rintro x10 e10 ⟨a11,c12⟩
 refine au [93] ?_
 refine qb 5 (.agg #[qDW i1,qDX a11 x10 c12]) rfl rfl rfl (qdr (cells:=[qDW i1,qDX a11 x10 c12]) st65 rfl (by kernel_rfl)) (qb 6 (.agg #[qDW i1,qDX a11 x10 c12]) rfl rfl rfl (qdr (cells:=[qDW i1,qDX a11 x10 c12]) st299 rfl (by kernel_rfl)) ?_)
 refine au [7,7,24,4] ?_
 intro g13
 refine au [0,27,2,3,8,53,2,11] ?_
 exact qK ((a11,c12),g13)
theorem ql3 {r:Unit}(hm:qfX F i1 m1 i2 i3=some r) :
    PureM qD3 232 [.agg #[qDW i1,qDX l1 m1 t1],qDW i2,qDW i3] [] [] [qD1 l1 m1 t1] (Nat×Nat×Nat) (fun g=>.func (.func 261) #[] #[qDY g.1,qDY g.2.1,qDY g.2.2]) (fun g=>[⟨g.1,3,[qDW i2]⟩,⟨g.2.1,3,[qDW i3]⟩,⟨g.2.2,65,[qDW i1,qDX l1 m1 t1]⟩]) (fun _=>[]):=by
 refine pureMA func232 ntmps232 hm fun _=>?_
 refine au [116] ?_
 intro g7
 refine au [24,4] ?_
 intro g8
 refine au [24,4] ?_
 intro g9
 refine au [97,27,10,52] ?_
 exact qK (g8,g9,g7)
theorem qiM {r:(Int×qDU)}(hm:jf F i1 m1 i2=some r) :
    PureM qD3 233 [qDY t1,.int .u64 i2] [⟨t1,299,[qDW i1,qDX l1 m1 t2]⟩] [qD2 l1 m1 t2] [] (qDV×Nat) (fun _=>.tuple #[]) (fun g=>[⟨t1,299,[qDW r.1,qDX g.1 r.2 g.2]⟩]) (fun g=>[qD2 g.1 r.2 g.2]):=by
 refine pureMA func233 ntmps233 hm fun _=>?_
 refine au [24,14] ?_
 refine qj [0,1] [] [] [] (fun ((x15,a13,c14):qDU×qDV×Nat)=>([],[⟨t1,299,[qDW i1,qDX a13 x15 c14]⟩],[qD2 a13 x15 c14],[],yZ F i1 i2 x15)) ?_ ?_
 refine aw [1,5,4,24,15,12,12,24,0,31,13,25,11,0,2,13] ?_ ?_
 refine au [5,4,4,85,57] ?_
 refine zB [0] ?_
 intro a44 c45
 refine zw 1 (qD .u8) rfl underlying41 tf5 rfl rfl rfl rfl rfl (.inl ⟨0,_,rfl⟩) rfl rfl (fun x46 e46 a47 c48=>?_)
 refine au [85,12,17,0] ?_
 exact qa (x46,a47,c48)
 refine au [16] ?_
 exact qa (m1,l1,t2)
 rintro ⟨x15,a13,c14⟩
 refine au [39,1,30,4] ?_
 intro x30 e30 g31 h32
 replace h32:a13=some ⟨g31,0,none⟩:=h32
 have h33:=zM (k:=x15.length) (c:=c14) h32
 refine au [28,11] ?_
 intro h34
 refine au [30,4] ?_
 intro x36 e36 g37 h38
 replace h38:a13=some ⟨g37,0,none⟩:=h38
 have h39:=zM (k:=x15.length) (c:=c14) h38
 refine kB mixed [25] _ _ (.cons 0 rfl .nil) (qE 0 rfl (qn (qD .u8) e30 h32) (qE 0 rfl (qn (qD .u8) e36 h38) qf)) 26 rfl ?_
 refine au [89,21,2,21,3,25,4,4,3,5,3,6,21,7,21,8,25,4,9] ?_
 refine qb 10 (qDW (iquo .i64 i1 8)) rfl rfl rfl (qAA rfl rfl rfl) (jB 11 h32 e30 ?_)
 refine qB 12 (.int .u8 x30) [[25]] rfl rfl rfl (qZ (j:=0) rfl tf5 rfl rfl (fun _=>rfl) rfl) ?_
 refine au [3,13] ?_
 refine qb 14 (.int .u64 (ishl .u64 i2 7)) rfl rfl rfl (qiL rfl rfl rfl) ?_
 refine au [34,3,15,3,16,3,17,21,18,21,19,25,4,20] ?_
 refine qb 21 (qDW (irem i1 8)) rfl rfl rfl (qoQ rfl rfl rfl) (qb 22 (.int .u8 (ishr .u8 (iconv .u8 (ishl .u64 i2 7)) (irem i1 8))) rfl rfl rfl (qAB rfl rfl h34) ?_)
 refine au [3,23] ?_
 refine jB 24 h38 e36 ?_
 refine au [7,25] ?_
 refine kx (j:=0) (y':=ior .u8 x30 (ishr .u8 (iconv .u8 (ishl .u64 i2 7)) (irem i1 8))) (qD .u8) rfl rfl rfl tf5 rfl (zM h38) (qu e36).2.1 rfl (fun x41 e41 h42=>?_)
 have h43:x41.length=x15.length:=by rw[← e41,qBs]
 refine qr (d:=26) (v:=qDX a13 x41 c14) rfl h42 (qW (i:=0) (cs':=[qDW i1,qDX a13 x41 c14]) rfl (by simp only[qDX,h42] <;> rfl) ?_)
 refine au [0] ?_
 refine kZ 25 rfl (by kernel_rfl) (.cons 0 (by simp only[qDX,h43] <;> rfl) .nil) ?_
 refine au [53,2,5,4,85,57,24,2,85,12,17,0] ?_
 exact qK (a13,c14)
end Go.Proofs.YthibchijlpflmaaGreatDoor
