/- Each Go function of this seat computes what its model says, part 2. -/
import Derived.Test.YthibchijlpflmaaGreatDoorWalks
open List renaming replicate→qCc, length_set→qCw, not_mem_nil→qCB
namespace Go.Proofs.YthibchijlpflmaaGreatDoor
open Go SX
open Go.Proofs.Tryz
open Go.Proofs.Tryz renaming prog→qFj
set_option maxHeartbeats 4000000
set_option linter.unusedSimpArgs false
variable {F t1 t2 t3 t4 t5:Nat}{p1 p2:List (qFa)}{l1 l2 l3:qFb}{n1:List (qFb×Nat)}{m1 m2 m3:qFa}{i1 i2 i3 i4:Int}{w1 w2 w3:List (Int×Int)}{d1:Bool}
theorem qlf (hm:qax F p1=some m1) :
    Pure qFj 95 [.agg #[qFd l1 p1 t1]] [SlN eN56 iN56 1 (qFd l1 p1 t1) p1 n1] (qFb×Nat) (fun g=>qFd g.1 m1 g.2) (fun g=>[qFg g.1 m1 g.2]) (fun _=>[]):=by
 refine pureA func95 ntmps95 hm fun _=>?_
 refine au [64,23] ?_
 intro g4
 refine au [80,78,24,4,47] ?_
 refine qj [3] [] [] [0] (fun (((x0,x2,x3),g0,a0,c0,a1,c1,a3,c2):(qFa×qFa×qFa)×Nat×qFb×Nat×qFb×Nat×qFb×Nat)=>([(4,qFe g0)],[⟨g0,183,[qFd l1 p1 t1,qFd a0 x0 c0,qFd a1 x2 c1,.slice none 0 0,qFd a3 x3 c2,qFc 0]⟩],[qFg a0 x0 c0,qFg a1 x2 c1,qFg a3 x3 c2],[],qE F p1 x0 x2 x3)) ?_ ?_
 refine qK [] [0] [0] 12 ?_
 refine au [109,6,2,6,4,6,7] ?_
 refine qns 3 5 6 rfl rfl rfl (by kernel_rfl) rfl rfl rfl ?_ ?_ ?_
 refine au [26,1] ?_
 intro x4 e0 a4 c4
 refine au [72] ?_
 refine vd 5 6 rfl rfl (by kernel_rfl) rfl rfl ?_ ?_
 refine au [26,1] ?_
 intro x5 e1 a5 c5
 refine au [72,13,6,29,0] ?_
 intro a6 c6
 refine au [72,13,8,27,4] ?_
 rintro x6 e2 ⟨a7,c7⟩
 refine au [72,13,9] ?_
 refine qJ [qFd l1 p1 t1,qFd a4 x4 c4,qFd a5 x5 c5,.slice none 0 0,qFd a7 x6 c7,qFc 0] ?_
 refine au [118,23] ?_
 intro g1
 refine au [0,26,13,65] ?_
 exact qa ((x4,x5,x6),g1,a4,c4,a5,c5,a7,c7)
 refine k8 (m':=((mk 17592186044416 (0:Int) (p1.length:Int)).bind fun x7=>((qe F ([-1]:qFa) (p1.length:Int)).bind fun x8=>qE F p1 x4 x7 x8))) (rfl) ?_
 refine au [29,0] ?_
 intro a8 c8
 refine au [72] ?_
 refine vd 5 8 rfl rfl (by kernel_rfl) rfl rfl ?_ ?_
 refine au [26,1] ?_
 intro x7 e3 a9 c9
 refine au [72,13,8,27,4] ?_
 rintro x8 e4 ⟨a10,c10⟩
 refine au [72,13,9] ?_
 refine qJ [qFd l1 p1 t1,qFd a4 x4 c4,qFd a9 x7 c9,.slice none 0 0,qFd a10 x8 c10,qFc 0] ?_
 refine au [118,23] ?_
 intro g2
 refine au [0,26,13,65] ?_
 exact qa ((x4,x7,x8),g2,a4,c4,a9,c9,a10,c10)
 refine k8 (m':=((qe F ([-1]:qFa) (p1.length:Int)).bind fun x9=>((mk 17592186044416 (0:Int) (p1.length:Int)).bind fun x10=>qE F p1 x4 x10 x9))) (Eq.trans (b:=((mk 17592186044416 (0:Int) (p1.length:Int)).bind fun x7=>((qe F ([-1]:qFa) (p1.length:Int)).bind fun x8=>qE F p1 x4 x7 x8))) rfl (by generalize (mk 17592186044416 (0:Int) (p1.length:Int))=q0;generalize (qe F ([-1]:qFa) (p1.length:Int))=q1;cases q0 <;> cases q1 <;> rfl)) ?_
 refine au [27,4] ?_
 rintro x9 e5 ⟨a11,c11⟩
 refine au [72,13,5,26,1] ?_
 intro x10 e6 a12 c12
 refine au [72,13,9] ?_
 refine qJ [qFd l1 p1 t1,qFd a4 x4 c4,qFd a12 x10 c12,.slice none 0 0,qFd a11 x9 c11,qFc 0] ?_
 refine au [118,23] ?_
 intro g3
 refine au [0,26,13,65] ?_
 exact qa ((x4,x10,x9),g3,a4,c4,a12,c12,a11,c11)
 refine k8 (m':=((mk 17592186044416 (0:Int) (p1.length:Int)).bind fun x11=>((mk 17592186044416 (0:Int) (p1.length:Int)).bind fun x12=>((qe F ([-1]:qFa) (p1.length:Int)).bind fun x13=>qE F p1 x12 x11 x13)))) (Eq.trans (b:=((mk 17592186044416 (0:Int) (p1.length:Int)).bind fun x4=>((mk 17592186044416 (0:Int) (p1.length:Int)).bind fun x5=>((qe F ([-1]:qFa) (p1.length:Int)).bind fun x6=>qE F p1 x4 x5 x6)))) rfl (by generalize (mk 17592186044416 (0:Int) (p1.length:Int))=q0;generalize (qe F ([-1]:qFa) (p1.length:Int))=q1;cases q0 <;> cases q1 <;> rfl)) ?_
 refine au [26,1] ?_
 intro x11 e7 a13 c13
 refine au [72] ?_
 refine vd 3 6 rfl rfl (by kernel_rfl) rfl rfl ?_ ?_
 refine au [26,1] ?_
 intro x12 e8 a14 c14
 refine au [72,13,6,29,0] ?_
 intro a15 c15
 refine au [72,13,8,27,4] ?_
 rintro x13 e9 ⟨a16,c16⟩
 refine au [72,13,9] ?_
 refine qJ [qFd l1 p1 t1,qFd a14 x12 c14,qFd a13 x11 c13,.slice none 0 0,qFd a16 x13 c16,qFc 0] ?_
 refine au [118,23] ?_
 intro g5
 refine au [0,26,13,65] ?_
 exact qa ((x12,x11,x13),g5,a14,c14,a13,c13,a16,c16)
 refine k8 (m':=((mk 17592186044416 (0:Int) (p1.length:Int)).bind fun x14=>((qe F ([-1]:qFa) (p1.length:Int)).bind fun x15=>qE F p1 x14 x11 x15))) (rfl) ?_
 refine au [29,0] ?_
 intro a17 c17
 refine au [72] ?_
 refine vd 3 8 rfl rfl (by kernel_rfl) rfl rfl ?_ ?_
 refine au [26,1] ?_
 intro x14 e10 a18 c18
 refine au [72,13,8,27,4] ?_
 rintro x15 e11 ⟨a19,c19⟩
 refine au [72,13,9] ?_
 refine qJ [qFd l1 p1 t1,qFd a18 x14 c18,qFd a13 x11 c13,.slice none 0 0,qFd a19 x15 c19,qFc 0] ?_
 refine au [118,23] ?_
 intro g6
 refine au [0,26,13,65] ?_
 exact qa ((x14,x11,x15),g6,a18,c18,a13,c13,a19,c19)
 refine k8 (m':=((qe F ([-1]:qFa) (p1.length:Int)).bind fun x16=>((mk 17592186044416 (0:Int) (p1.length:Int)).bind fun x17=>qE F p1 x17 x11 x16))) (Eq.trans (b:=((mk 17592186044416 (0:Int) (p1.length:Int)).bind fun x14=>((qe F ([-1]:qFa) (p1.length:Int)).bind fun x15=>qE F p1 x14 x11 x15))) rfl (by generalize (mk 17592186044416 (0:Int) (p1.length:Int))=q0;generalize (qe F ([-1]:qFa) (p1.length:Int))=q1;cases q0 <;> cases q1 <;> rfl)) ?_
 refine au [27,4] ?_
 rintro x16 e12 ⟨a20,c20⟩
 refine au [72,13,3,26,1] ?_
 intro x17 e13 a21 c21
 refine au [72,13,9] ?_
 refine qJ [qFd l1 p1 t1,qFd a21 x17 c21,qFd a13 x11 c13,.slice none 0 0,qFd a20 x16 c20,qFc 0] ?_
 refine au [118,23] ?_
 intro g7
 refine au [0,26,13,65] ?_
 exact qa ((x17,x11,x16),g7,a21,c21,a13,c13,a20,c20)
 refine k8 (m':=((mk 17592186044416 (0:Int) (p1.length:Int)).bind fun x18=>((mk 17592186044416 (0:Int) (p1.length:Int)).bind fun x19=>((qe F ([-1]:qFa) (p1.length:Int)).bind fun x20=>qE F p1 x18 x19 x20)))) (rfl) ?_
 refine au [29,0] ?_
 intro a22 c22
 refine au [72] ?_
 refine qns 3 5 8 rfl rfl rfl (by kernel_rfl) rfl rfl rfl ?_ ?_ ?_
 refine au [26,1] ?_
 intro x18 e14 a23 c23
 refine au [72] ?_
 refine vd 5 8 rfl rfl (by kernel_rfl) rfl rfl ?_ ?_
 refine au [26,1] ?_
 intro x19 e15 a24 c24
 refine au [72,13,8,27,4] ?_
 rintro x20 e16 ⟨a25,c25⟩
 refine au [72,13,9] ?_
 refine qJ [qFd l1 p1 t1,qFd a23 x18 c23,qFd a24 x19 c24,.slice none 0 0,qFd a25 x20 c25,qFc 0] ?_
 refine au [118,23] ?_
 intro g8
 refine au [0,26,13,65] ?_
 exact qa ((x18,x19,x20),g8,a23,c23,a24,c24,a25,c25)
 refine k8 (m':=((qe F ([-1]:qFa) (p1.length:Int)).bind fun x21=>((mk 17592186044416 (0:Int) (p1.length:Int)).bind fun x22=>qE F p1 x18 x22 x21))) (Eq.trans (b:=((mk 17592186044416 (0:Int) (p1.length:Int)).bind fun x19=>((qe F ([-1]:qFa) (p1.length:Int)).bind fun x20=>qE F p1 x18 x19 x20))) rfl (by generalize (mk 17592186044416 (0:Int) (p1.length:Int))=q0;generalize (qe F ([-1]:qFa) (p1.length:Int))=q1;cases q0 <;> cases q1 <;> rfl)) ?_
 refine au [27,4] ?_
 rintro x21 e17 ⟨a26,c26⟩
 refine au [72,13,5,26,1] ?_
 intro x22 e18 a27 c27
 refine au [72,13,9] ?_
 refine qJ [qFd l1 p1 t1,qFd a23 x18 c23,qFd a27 x22 c27,.slice none 0 0,qFd a26 x21 c26,qFc 0] ?_
 refine au [118,23] ?_
 intro g9
 refine au [0,26,13,65] ?_
 exact qa ((x18,x22,x21),g9,a23,c23,a27,c27,a26,c26)
 refine k8 (m':=((mk 17592186044416 (0:Int) (p1.length:Int)).bind fun x23=>((mk 17592186044416 (0:Int) (p1.length:Int)).bind fun x24=>((qe F ([-1]:qFa) (p1.length:Int)).bind fun x25=>qE F p1 x24 x23 x25)))) (Eq.trans (b:=((mk 17592186044416 (0:Int) (p1.length:Int)).bind fun x18=>((mk 17592186044416 (0:Int) (p1.length:Int)).bind fun x19=>((qe F ([-1]:qFa) (p1.length:Int)).bind fun x20=>qE F p1 x18 x19 x20)))) rfl (by generalize (mk 17592186044416 (0:Int) (p1.length:Int))=q0;generalize (qe F ([-1]:qFa) (p1.length:Int))=q1;cases q0 <;> cases q1 <;> rfl)) ?_
 refine au [26,1] ?_
 intro x23 e19 a28 c28
 refine au [72] ?_
 refine vd 3 8 rfl rfl (by kernel_rfl) rfl rfl ?_ ?_
 refine au [26,1] ?_
 intro x24 e20 a29 c29
 refine au [72,13,8,27,4] ?_
 rintro x25 e21 ⟨a30,c30⟩
 refine au [72,13,9] ?_
 refine qJ [qFd l1 p1 t1,qFd a29 x24 c29,qFd a28 x23 c28,.slice none 0 0,qFd a30 x25 c30,qFc 0] ?_
 refine au [118,23] ?_
 intro g10
 refine au [0,26,13,65] ?_
 exact qa ((x24,x23,x25),g10,a29,c29,a28,c28,a30,c30)
 refine k8 (m':=((qe F ([-1]:qFa) (p1.length:Int)).bind fun x26=>((mk 17592186044416 (0:Int) (p1.length:Int)).bind fun x27=>qE F p1 x27 x23 x26))) (Eq.trans (b:=((mk 17592186044416 (0:Int) (p1.length:Int)).bind fun x24=>((qe F ([-1]:qFa) (p1.length:Int)).bind fun x25=>qE F p1 x24 x23 x25))) rfl (by generalize (mk 17592186044416 (0:Int) (p1.length:Int))=q0;generalize (qe F ([-1]:qFa) (p1.length:Int))=q1;cases q0 <;> cases q1 <;> rfl)) ?_
 refine au [27,4] ?_
 rintro x26 e22 ⟨a31,c31⟩
 refine au [72,13,3,26,1] ?_
 intro x27 e23 a32 c32
 refine au [72,13,9] ?_
 refine qJ [qFd l1 p1 t1,qFd a32 x27 c32,qFd a28 x23 c28,.slice none 0 0,qFd a31 x26 c31,qFc 0] ?_
 refine au [118,23] ?_
 intro g11
 refine au [0,26,13,65] ?_
 exact qa ((x27,x23,x26),g11,a32,c32,a28,c28,a31,c31)
 refine k8 (m':=((qe F ([-1]:qFa) (p1.length:Int)).bind fun x28=>((mk 17592186044416 (0:Int) (p1.length:Int)).bind fun x29=>((mk 17592186044416 (0:Int) (p1.length:Int)).bind fun x30=>qE F p1 x29 x30 x28)))) (Eq.trans (b:=((mk 17592186044416 (0:Int) (p1.length:Int)).bind fun x18=>((mk 17592186044416 (0:Int) (p1.length:Int)).bind fun x19=>((qe F ([-1]:qFa) (p1.length:Int)).bind fun x20=>qE F p1 x18 x19 x20)))) rfl (by generalize (mk 17592186044416 (0:Int) (p1.length:Int))=q0;generalize (qe F ([-1]:qFa) (p1.length:Int))=q1;cases q0 <;> cases q1 <;> rfl)) ?_
 refine au [27,4] ?_
 rintro x28 e24 ⟨a33,c33⟩
 refine au [72] ?_
 refine vd 3 5 rfl rfl (by kernel_rfl) rfl rfl ?_ ?_
 refine au [26,1] ?_
 intro x29 e25 a34 c34
 refine au [72,13,5,26,1] ?_
 intro x30 e26 a35 c35
 refine au [72,13,9] ?_
 refine qJ [qFd l1 p1 t1,qFd a34 x29 c34,qFd a35 x30 c35,.slice none 0 0,qFd a33 x28 c33,qFc 0] ?_
 refine au [118,23] ?_
 intro g12
 refine au [0,26,13,65] ?_
 exact qa ((x29,x30,x28),g12,a34,c34,a35,c35,a33,c33)
 refine k8 (m':=((mk 17592186044416 (0:Int) (p1.length:Int)).bind fun x31=>((mk 17592186044416 (0:Int) (p1.length:Int)).bind fun x32=>qE F p1 x32 x31 x28))) (Eq.trans (b:=((mk 17592186044416 (0:Int) (p1.length:Int)).bind fun x29=>((mk 17592186044416 (0:Int) (p1.length:Int)).bind fun x30=>qE F p1 x29 x30 x28))) rfl (by generalize (mk 17592186044416 (0:Int) (p1.length:Int))=q0;cases q0 <;> rfl)) ?_
 refine au [26,1] ?_
 intro x31 e27 a36 c36
 refine au [72,13,3,26,1] ?_
 intro x32 e28 a37 c37
 refine au [72,13,9] ?_
 refine qJ [qFd l1 p1 t1,qFd a37 x32 c37,qFd a36 x31 c36,.slice none 0 0,qFd a33 x28 c33,qFc 0] ?_
 refine au [118,23] ?_
 intro g13
 refine au [0,26,13,65] ?_
 exact qa ((x32,x31,x28),g13,a37,c37,a36,c36,a33,c33)
 rintro ⟨⟨x0,x2,x3⟩,g0,a0,c0,a1,c1,a3,c2⟩
 try dsimp only
 refine qj [4] [] [] [0] (fun (((x33,x34,x35,x36,x37),a38,c38,a39,c39,a40,c40,a41,c41):(qFa×qFa×qFa×qFa×Int)×qFb×Nat×qFb×Nat×qFb×Nat×qFb×Nat)=>([],[⟨g0,183,[qFd l1 p1 t1,qFd a38 x33 c38,qFd a39 x34 c39,qFd a40 x35 c40,qFd a41 x36 c41,qFc x37]⟩],[qFg a38 x33 c38,qFg a39 x34 c39,qFg a40 x35 c40,qFg a41 x36 c41],[],qgb F x33 x34 x35 x36 x37)) ?_ ?_
 refine au [48,4,73,27,12] ?_
 refine qr [4,20] [] [] [0] (fun (((x38,x39,x40,x41,x42,x43),a42,c42,a43,c43,a44,c44,a45,c45):(Int×qFa×qFa×qFa×qFa×Int)×qFb×Nat×qFb×Nat×qFb×Nat×qFb×Nat)=>([(21,qFc x38)],[⟨g0,183,[qFd l1 p1 t1,qFd a42 x39 c42,qFd a43 x40 c43,qFd a44 x41 c44,qFd a45 x42 c45,qFc x43]⟩],[qFg a42 x39 c42,qFg a43 x40 c43,qFg a44 x41 c44,qFg a45 x42 c45],[])) ((0:Int),x0,x2,([]:qFa),x3,(0:Int)) (a0,c0,a1,c1,none,0,a3,c2) ?_
 intro k0
 rintro ⟨⟨x38,x39,x40,x41,x42,x43⟩,a42,c42,a43,c43,a44,c44,a45,c45⟩
 refine aw [39,1,3,24,3,0,2,1,10] ?_ ?_
 refine au [57] ?_
 refine qj [4,20,21] [] [] [0] (fun (((x44,x45,x46,x47,x48),a46,c46,a47,c47,a48,c48,a49,c49):(qFa×qFa×qFa×qFa×Int)×qFb×Nat×qFb×Nat×qFb×Nat×qFb×Nat)=>([],[⟨g0,183,[qFd l1 p1 t1,qFd a46 x44 c46,qFd a47 x45 c47,qFd a48 x46 c48,qFd a49 x47 c49,qFc x48]⟩],[qFg a46 x44 c46,qFg a47 x45 c47,qFg a48 x46 c48,qFg a49 x47 c49],[],vX F (j1 F p1 k0) x38 x44 x45 x46 x47 x48)) ?_ ?_
 refine au [14,48,59,112,4,26,5] ?_
 intro x49 e29 g14 h0
 refine kJ (j:=0) (y:=x49) (qD .i64) rfl rfl tf3 rfl h0 (qw e29).2.2 (fun _=>rfl) rfl rfl ?_
 refine aw [25,6,0,2,10] ?_ ?_
 refine au [3,89] ?_
 refine qc5 EnC.e rfl rfl rfl (fun x50 e30=>qhB F g0 p1 l1 (t1,n1) x39 a42 c42 x40 a43 c43 x41 a44 c44 x42 a45 c45 x43 x38 x50 e30) (.cons 0 rfl .nil) (.cons 0 rfl (.cons 0 rfl (.cons 0 rfl (.cons 0 rfl .nil)))) (.consF 0 rfl .nil) (fun x50 e30=>?_)
 rintro ⟨⟨a50,c50⟩,⟨a51,c51⟩,⟨a52,c52⟩,a53,c53⟩
 refine au [115] ?_
 exact qa ((x50.1,x50.2.1,x50.2.2.1,x50.2.2.2.1,x50.2.2.2.2),a50,c50,a51,c51,a52,c52,a53,c53)
 refine au [11,24,2] ?_
 exact qa ((x39,x40,x41,x42,x43),a42,c42,a43,c43,a44,c44,a45,c45)
 rintro ⟨⟨x44,x45,x46,x47,x48⟩,a46,c46,a47,c47,a48,c48,a49,c49⟩
 refine au [39,94] ?_
 exact ql ((iadd .i64 x38 1,x44,x45,x46,x47,x48),a46,c46,a47,c47,a48,c48,a49,c49)
 refine au [71] ?_
 exact qa ((x39,x40,x41,x42,x43),a42,c42,a43,c43,a44,c44,a45,c45)
 rintro ⟨⟨x33,x34,x35,x36,x37⟩,a38,c38,a39,c39,a40,c40,a41,c41⟩
 refine au [91,112,49] ?_
 exact qy (a41,c41)
theorem qle (F:Nat)(x1:List (qFa))(a2:qFb)(c3:(Nat×List (qFb×Nat)))(r:(qFa×Int))(hm:qdA F x1=some r) :
    Pure qFj 67 [.agg #[qFd a2 x1 c3.1]] [SlN eN56 iN56 1 (qFd a2 x1 c3.1) x1 c3.2] (qFb×Nat) (fun g=>.tuple #[qFd g.1 r.1 g.2,qFc r.2]) (fun g=>[qFg g.1 r.1 g.2]) (fun _=>[]):=by
 refine pureA func67 ntmps67 hm fun _=>?_
 refine au [64,23] ?_
 intro g4
 refine au [5,81,77,28,2] ?_
 intro x7 e7 _
 refine aw [5,0,2,1,3,4,25,1,0,2,10] ?_ ?_
 refine au [48,5,103] ?_
 exact qy (none,0)
 refine au [57,77] ?_
 refine qd qlf ?_
 rintro x8 e8 ⟨a9,c10⟩
 refine au [5,49] ?_
 exact qy (a9,c10)
theorem qpo {r:Unit}(hm:jV F p1=some r) :
    PureM qFj 114 [.agg #[qFd l1 p1 t1]] [] [] [SlN eN56 iN56 1 (qFd l1 p1 t1) p1 n1] Nat (fun g=>.func (.func 159) #[] #[qFe g]) (fun g=>[⟨g,24,[qFd l1 p1 t1]⟩]) (fun _=>[]):=by
 refine pureMA func114 ntmps114 hm fun _=>?_
 refine au [64,23] ?_
 intro g4
 refine au [80,27,5,49] ?_
 exact qM g4
theorem qhz (hm:zj F m1=some m2) :
    PureM qFj 134 [qFd l1 m1 t1] [] [qFg l1 m1 t1] [] Unit (fun _=>.tuple #[]) (fun _=>[]) (fun _=>[qFg l1 m2 t1]):=by
  unfold zj at hm
  split at hm
  · cases hm
    exact qr5 Tryz.slices_Sort_int Tryz.slices_Sort_int_none (by assumption)
  · simp at hm
theorem qgg (hm:zH F m1=some m2) :
    PureM qFj 135 [qFd l1 m1 t1] [] [qFg l1 m1 t1] [] (qFb×Nat) (fun g=>qFd g.1 m2 g.2) (fun _=>[]) (fun g=>[qFg g.1 m2 g.2]):=by
  unfold zH at hm
  split at hm
  · cases hm
    exact qmE Tryz.slices_Compact_int Tryz.slices_Compact_int_empty (by assumption)
  · simp at hm
theorem qed (F:Nat){σ τ:Type}{J:Rounds σ τ}{yy:σ→(Int×Int)→Option (σ ⊕ τ)}{L:Nat}(hY:YieldC qFj L (fun (p:Int×Int)=>[.agg #[qFc p.1,qFc p.2]]) J yy)(s0:σ)(gs0:J.γ)(g1:Nat)(x2:List (qFa))(a3:qFb)(c4:(Nat×List (qFb×Nat)))(r:σ ⊕ τ)(hm:j9 F yy x2 s0=some r) :
    PureM qFj 159 ([.func (.yield L) #[] #[],qFe g1]) ([⟨g1,24,[qFd a3 x2 c4.1]⟩]++J.IB s0 gs0) (J.IR s0 gs0) [J.F,SlN eN56 iN56 1 (qFd a3 x2 c4.1) x2 c4.2] (J.G r) (fun _=>.tuple #[]) (fun g=>[⟨g1,24,[qFd a3 x2 c4.1]⟩]++J.bs r g) (fun g=>J.rs r g):=by
 refine pureMA func159 ntmps159 hm fun _=>?_
 refine au [56,78,84] ?_
 refine jC (fun (((x0,x1),g0):(Int×σ)×J.γ)=>[(0,.func (.yield L) #[] #[]),(8,qFd a3 x2 c4.1),(9,qFc (x2.length:Int)),(10,qFc x0)]) (fun (((x0,x1),g0):(Int×σ)×J.γ)=>[⟨g1,24,[qFd a3 x2 c4.1]⟩]++J.IB x1 g0) (fun (((x0,x1),g0):(Int×σ)×J.γ)=>[]++J.IR x1 g0) (fun (((x0,x1),g0):(Int×σ)×J.γ)=>[SlN eN56 iN56 1 (qFd a3 x2 c4.1) x2 c4.2,J.F]) (fun k (s:(Int×σ)×J.γ)=>kp F yy x2 k s.1) ((0,s0),gs0) F ?_ (hB:=(.cons 0 rfl (qf 0 rfl))) (hR:=(qf 0 rfl)) (hF:=(qi 1 rfl (qi 0 rfl zJ)))
 intro k0
 rintro ⟨⟨x0,x1⟩,g0⟩
 try dsimp only
 refine qbW (m':=qcp F yy x2 (kp F yy x2 k0) x0 x1) rfl ?_
 refine aw [1,3,24,3,0,2,1,10] ?_ ?_
 refine au [57] ?_
 refine qdM (fun ((x3,g2):σ×J.γ)=>[(0,.func (.yield L) #[] #[]),(8,qFd a3 x2 c4.1),(9,qFc (x2.length:Int)),(10,qFc x0)]) (fun ((x3,g2):σ×J.γ)=>[⟨g1,24,[qFd a3 x2 c4.1]⟩]++J.IB x3 g2) (fun ((x3,g2):σ×J.γ)=>[]++J.IR x3 g2) (fun ((x3,g2):σ×J.γ)=>[SlN eN56 iN56 1 (qFd a3 x2 c4.1) x2 c4.2,J.F]) (fun ((x3,_):σ×J.γ)=>qcq F yy (kp F yy x2 k0) x0 x3) ?_ ?_
 refine au [14,48,27,2] ?_
 intro x4 e0 g3 b0 o0
 refine au [25,3,5,59,84] ?_
 refine jC (fun (((x5,x6),g4):(Int×σ)×J.γ)=>[(0,.func (.yield L) #[] #[]),(3,qFc x0),(8,qFd a3 x2 c4.1),(9,qFc (x2.length:Int)),(10,qFc x0),(15,qFd g3.1 x4 g3.2),(16,qFc (x4.length:Int)),(17,qFc x5)]) (fun (((x5,x6),g4):(Int×σ)×J.γ)=>[⟨g1,24,[qFd a3 x2 c4.1]⟩]++J.IB x6 g4) (fun (((x5,x6),g4):(Int×σ)×J.γ)=>[]++J.IR x6 g4) (fun (((x5,x6),g4):(Int×σ)×J.γ)=>[SlN eN56 iN56 1 (qFd a3 x2 c4.1) x2 c4.2,qFf g3.1 x4 g3.2,J.F]) (fun k (s:(Int×σ)×J.γ)=>jW F yy (kp F yy x2 k0) x0 x4 k s.1) ((0,x1),g0) F ?_ (hB:=(.cons 0 rfl (qf 0 rfl))) (hR:=(qf 0 rfl)) (hF:=(qi 2 rfl (qi 1 rfl (qi 3 rfl zJ))))
 intro k1
 rintro ⟨⟨x5,x6⟩,g4⟩
 try dsimp only
 refine qbW (m':=qbJ F yy (kp F yy x2 k0) x0 x4 (jW F yy (kp F yy x2 k0) x0 x4 k1) x5 x6) rfl ?_
 refine aw [1,3,24,3,0,2,1,10] ?_ ?_
 refine au [83,45,29,1] ?_
 intro x7 e1 b1 o1
 refine au [25,3,59,89] ?_
 refine qJ [qFc x0,qFc x7] ?_
 refine qfp hY x6 (x0,x7) g4 (B1:=[⟨g1,24,[qFd a3 x2 c4.1]⟩]) (R1:=[]) (j:=3) rfl rfl rfl rfl rfl rfl rfl (fun x8 _ g5=>?_) (fun x9 _ g5=>?_)
 refine au [25,7,46] ?_
 refine yh (b:=false) rfl (fun h=>by cases h) (fun _=>?_)
 refine au [11,95] ?_
 exact vF ((iadd .i64 x5 1,x8),g5) (hB:=(.cons 0 rfl (qf 0 rfl))) (hR:=(qf 0 rfl)) (hF:=(qi 1 rfl (qi 2 rfl (qi 3 rfl zJ))))
 refine au [25,7,46] ?_
 refine yh (b:=true) rfl (fun _=>?_) (fun h=>by cases h)
 refine au [8,90,24,5,90,24,5] ?_
 exact jD (B0:=[⟨g1,24,[qFd a3 x2 c4.1]⟩]) (x:=.inr x9) g5 (.inl rfl) (res0 rfl) (.cons 0 rfl (qf 0 rfl)) (qf 0 rfl)
 refine au [71,24,2] ?_
 exact yj (x6,g4) (hB:=(.cons 0 rfl (qf 0 rfl))) (hR:=(qf 0 rfl)) (hF:=(qi 0 rfl (qi 2 rfl zJ)))
 rintro ⟨x3,g2⟩
 refine au [39,94] ?_
 exact vF ((iadd .i64 x0 1,x3),g2) (hB:=(.cons 0 rfl (qf 0 rfl))) (hR:=(qf 0 rfl)) (hF:=(qi 0 rfl (qi 1 rfl zJ)))
 refine au [71] ?_
 exact jD (B0:=[⟨g1,24,[qFd a3 x2 c4.1]⟩]) (x:=.inl x1) g0 (.inr rfl) (res0 rfl) (.cons 0 rfl (qf 0 rfl)) (qf 0 rfl)
theorem qpi (hm:qeC F p1=some p2) :
    PureM qFj 97 [.agg #[qFd l1 p1 t1]] [] [] [SlN eN56 iN56 1 (qFd l1 p1 t1) p1 n1] (qFb×Nat×List (qFb×Nat)) (fun g=>qFd g.1 p2 g.2.1) (fun _=>[]) (fun g=>[RoN eN56 rN56 56 1 (qFd g.1 p2 g.2.1) p2 g.2.2 []]):=by
 refine qdJ func97 rfl ntmps97 rfl hm (fun w=>?_)
 refine au [64,23] ?_
 intro g4
 refine au [80,78,24,4,29,11] ?_
 intro x5 e5 a6 c7
 refine au [24,6] ?_
 intro g8
 refine au [21,46,1,45,25,10,30,6] ?_
 intro x0 e0 g0
 refine au [73] ?_
 refine qcs (encs:=(fun (p:Int×Int)=>[.agg #[qFc p.1,qFc p.2]])) (y:=(fun (x2:List (qFa)) ((x3,x4):Int×Int)=>qb1 F x2 x3 x4)) (lb:=[qFe g0]) (fun (x2:List (qFa)) (g1:List (qFb×Nat))=>[⟨g8,22,[qFd a6 x2 c7]⟩,⟨g4,24,[qFd l1 p1 t1]⟩]) (fun (x2:List (qFa)) (g1:List (qFb×Nat))=>[RoN eN56 rN56 56 1 (qFd a6 x2 c7) x2 g1 []]) (fun (_:Empty) (_:Unit)=>[]) (fun (_:Empty) (_:Unit)=>[]) (fun _=>.skip) x5 (qCc x5.length ((none,0):qFb×Nat)) rfl EnC.e (fun _=>rfl) rfl (.cons 0 rfl .nil) (.cons 0 rfl (.cons 0 rfl .nil)) (.cons 0 rfl .nil) (.consF 0 rfl .nil) (fun z hz _ _ _ hY=>qed F hY x5 (qCc x5.length ((none,0):qFb×Nat)) g0 p1 l1 (t1,n1) z hz) ?_ ?_ ?_
 rintro rc1 L1 D1 x2 g1 ⟨x3,x4⟩ z w M _
 try dsimp only
 refine qdN [(0,.agg #[qFd l1 p1 t1]),(1,qFe g4),(2,.slice none 0 0),(3,qFe g8),(6,qFe g4),(7,qFd l1 p1 t1),(8,qFc (p1.length:Int)),(9,qFd a6 x5 c7),(10,.agg #[qFd l1 p1 t1]),(11,.func (.func 159) #[] #[qFe g0]),(12,.agg #[qFc x3,qFc x4])] (qn rfl (qn rfl (qn rfl (qn rfl (qn rfl (qn rfl (qn rfl (qn rfl (qn rfl (qn rfl (qn rfl qd5))))))))))) ?_
 refine au [3,24,6] ?_
 intro g2
 refine aw [21,0,30,7,14,1,3,9,18,9,18,25,1,0,2,10] ?_ ?_
 refine au [29,12] ?_
 intro x6 e1 g3 h0 g5 h1
 replace h1:a6=some ⟨g5,0,none⟩:=h1
 have h2:=zP (k:=x2.length) (c:=c7) h1
 refine qfn (i:=0) rfl h0 (qCB) ?_
 refine au [29,2] ?_
 intro x7 e2 g6 h3 g7 h4
 replace h4:a6=some ⟨g7,0,none⟩:=h4
 have h5:=zP (k:=x2.length) (c:=c7) h4
 refine au [28,6] ?_
 intro h6
 refine qfn (i:=1) rfl h3 (by simp only[decide_eq_true_eq] at h6;simp only[List.mem_cons,qCB,or_false];exact h6) ?_
 refine au [29,2] ?_
 intro x8 e3 g9 h7 g10 h8
 replace h8:a6=some ⟨g10,0,none⟩:=h8
 have h9:=zP (k:=x2.length) (c:=c7) h8
 refine au [29,2] ?_
 intro x9 e4 g11 h10 g12 h11
 replace h11:a6=some ⟨g12,0,none⟩:=h11
 have h12:=zP (k:=x2.length) (c:=c7) h11
 refine kC mixed [25,27] _ _ (.cons 0 rfl (.cons 0 rfl (.cons 0 rfl (.cons 0 rfl (.cons 0 rfl .nil))))) (qh 0 rfl (qF 1 rfl (qL qq h0 h1) (qF 1 rfl (qL qq h3 h4) (qF 1 rfl (qL qq h7 h8) (qF 1 rfl (qL qq h10 h11) qg))))) 28 rfl ?_
 refine au [26,8,0,15,1,24,15,2,26,8,3,15,4,24,15,5,26,8,6,15,7,24,15,8] ?_
 refine j5 9 h1 e1 ?_
 refine qz 10 (qFd g3.1 x6 g3.2) [[25],[27]] rfl rfl rfl (qS (j:=1) rfl tf56 rfl rfl (fun _=>rfl) rfl) ?_
 refine au [15,11,24,15,12,26,8,15,15,16,24,15,17] ?_
 refine j5 18 h4 e2 ?_
 refine qz 19 (qFd g6.1 x7 g6.2) [[25],[27]] rfl rfl rfl (qS (j:=2) rfl tf56 rfl rfl (fun _=>rfl) rfl) ?_
 refine au [15,20,24,15,21] ?_
 refine vd 13 22 rfl rfl (by kernel_rfl) rfl rfl ?_ ?_
 refine zL [x4] (fun a0 c0=>?_)
 refine au [0] ?_
 refine qc (.cons 0 rfl (.cons 0 rfl (.cons 0 rfl (.cons 0 rfl (.cons 0 rfl .nil))))) (qh 0 rfl (qF 2 rfl (qL qq h0 h1) (qF 2 rfl (qL qq h3 h4) (qF 2 rfl (qL qq h7 h8) (qF 2 rfl (qL qq h10 h11) qg))))) (vd 14 22 rfl rfl (by kernel_rfl) rfl rfl ?_ ?_)
 refine zD 3 (qD .i64) rfl underlying56 tf3 rfl rfl rfl rfl rfl (.inl ⟨0,_,rfl⟩) rfl rfl (fun x10 e6 a1 c1=>?_)
 refine au [0] ?_
 refine qc (.cons 0 rfl (.cons 0 rfl (.cons 0 rfl (.cons 0 rfl (.cons 0 rfl .nil))))) (qh 0 rfl (qF 3 rfl (qL qq h0 h1) (qF 3 rfl (qL qq h3 h4) (qF 3 rfl (qL qq h7 h8) (qF 3 rfl (qL qq h10 h11) qg))))) ?_
 refine au [13,22] ?_
 refine zL [x3] (fun a3 c2=>?_)
 refine au [0] ?_
 refine qc (.cons 0 rfl (.cons 0 rfl (.cons 0 rfl (.cons 0 rfl (.cons 0 rfl .nil))))) (qh 0 rfl (qF 4 rfl (qL qq h0 h1) (qF 4 rfl (qL qq h3 h4) (qF 4 rfl (qL qq h7 h8) (qF 4 rfl (qL qq h10 h11) qg))))) ?_
 refine au [13,23] ?_
 refine zD 3 (qD .i64) rfl underlying56 tf3 rfl rfl rfl rfl rfl (.inl ⟨0,_,rfl⟩) rfl rfl (fun x11 e7 a4 c4=>?_)
 refine au [0] ?_
 refine qc (.cons 0 rfl (.cons 0 rfl (.cons 0 rfl (.cons 0 rfl (.cons 0 rfl .nil))))) (qh 0 rfl (qF 4 rfl (qL qq h0 h1) (qF 4 rfl (qL qq h3 h4) (qF 4 rfl (qL qq h7 h8) (qF 4 rfl (qL qq h10 h11) qg))))) (j5 24 h8 e3 ?_)
 refine au [13,25] ?_
 refine qag (j:=4) (kh:=1) (y':=x10) (q':=(a1,c1)) qq rfl rfl rfl tf56 rfl (zP h8) rfl (qw e3).2.1 rfl (.cons 2 rfl .nil) (fun x12 e8 h13 g13=>?_)
 have h14:x12.length=x2.length:=by rw[← e8,qCw]
 refine zu 18 h13 ?_
 refine zu 21 h13 ?_
 refine zu 24 h13 ?_
 refine zu 33 h13 ?_
 refine q7 (i:=1) (cs':=[qFd a6 x12 c7]) rfl (by simp only[qFd,h13] <;> rfl) ?_
 refine au [0] ?_
 refine kZ 25 rfl (by kernel_rfl) (.cons 0 rfl (.cons 0 (by simp only[qFd,h14] <;> rfl) (.cons 0 rfl (.cons 0 rfl (.cons 0 rfl .nil))))) (qih 21 h11 ?_)
 refine qb 26 (.pointer (some ⟨g12,x4.toNat*1,none⟩)) rfl rfl rfl (qbX underlying22 tf56 rfl rfl (qw e4).1 (by rw[h14];exact (qcW e4))) (qih 21 h11.symm ?_)
 refine au [13,27] ?_
 refine qag (j:=0) (kh:=0) (y':=x11) (q':=(a4,c4)) qq rfl rfl rfl tf56 rfl (zP h11) rfl (by rw[h14];exact (qw e4).2.1) rfl (.cons 0 rfl .nil) (fun x13 e9 h15 g14=>?_)
 have h16:x13.length=x12.length:=by rw[← e9,qCw]
 refine zu 18 h15 ?_
 refine zu 21 h15 ?_
 refine zu 24 h15 ?_
 refine zu 33 h15 ?_
 refine q7 (i:=1) (cs':=[qFd a6 x13 c7]) rfl (by simp only[qFd,h15] <;> rfl) ?_
 refine au [0] ?_
 refine kZ 25 rfl (by kernel_rfl) (.cons 0 rfl (.cons 0 (by simp only[qFd,h16,h14] <;> rfl) (.cons 0 rfl (.cons 0 rfl (.cons 0 rfl .nil))))) ?_
 refine au [54,24,2] ?_
 exact vB (rc:=rc1) rfl (.cons 3 rfl .nil) rfl g14 (.cons 2 rfl (.cons 2 rfl (.cons 0 rfl (.cons 1 rfl .nil)))) (.cons 0 rfl .nil)
 refine k8 (m':=((app 8796093022208 x6 ([x4]:qFa)).bind fun x14=>((app 8796093022208 x7 ([x3]:qFa)).bind fun x15=>(lett (x2.set x3.toNat x14) fun x16=>(lett (x16.set x4.toNat x15) fun x17=>some (.inl x17)))))) (rfl) (zL [x3] (fun a5 c5=>?_))
 refine au [0] ?_
 refine qc (.cons 0 rfl (.cons 0 rfl (.cons 0 rfl (.cons 0 rfl (.cons 0 rfl .nil))))) (qh 0 rfl (qF 3 rfl (qL qq h0 h1) (qF 3 rfl (qL qq h3 h4) (qF 3 rfl (qL qq h7 h8) (qF 3 rfl (qL qq h10 h11) qg))))) ?_
 refine au [13,14] ?_
 refine zD 4 (qD .i64) rfl underlying56 tf3 rfl rfl rfl rfl rfl (.inl ⟨1,_,rfl⟩) rfl rfl (fun x14 e10 a7 c6=>?_)
 refine au [0] ?_
 refine qc (.cons 0 rfl (.cons 0 rfl (.cons 0 rfl (.cons 0 rfl (.cons 0 rfl .nil))))) (qh 0 rfl (qF 4 rfl (qL qq h0 h1) (qF 4 rfl (qL qq h3 h4) (qF 4 rfl (qL qq h7 h8) (qF 4 rfl (qL qq h10 h11) qg))))) ?_
 refine au [13,23] ?_
 refine zD 3 (qD .i64) rfl underlying56 tf3 rfl rfl rfl rfl rfl (.inl ⟨1,_,rfl⟩) rfl rfl (fun x15 e11 a8 c8=>?_)
 refine au [0] ?_
 refine qc (.cons 0 rfl (.cons 0 rfl (.cons 0 rfl (.cons 0 rfl (.cons 0 rfl .nil))))) (qh 0 rfl (qF 4 rfl (qL qq h0 h1) (qF 4 rfl (qL qq h3 h4) (qF 4 rfl (qL qq h7 h8) (qF 4 rfl (qL qq h10 h11) qg))))) (j5 24 h8 e3 ?_)
 refine au [13,25] ?_
 refine qag (j:=4) (kh:=1) (y':=x14) (q':=(a7,c6)) qq rfl rfl rfl tf56 rfl (zP h8) rfl (qw e3).2.1 rfl (.cons 1 rfl .nil) (fun x16 e12 h17 g15=>?_)
 have h18:x16.length=x2.length:=by rw[← e12,qCw]
 refine zu 18 h17 ?_
 refine zu 21 h17 ?_
 refine zu 24 h17 ?_
 refine zu 33 h17 ?_
 refine q7 (i:=1) (cs':=[qFd a6 x16 c7]) rfl (by simp only[qFd,h17] <;> rfl) ?_
 refine au [0] ?_
 refine kZ 25 rfl (by kernel_rfl) (.cons 0 rfl (.cons 0 (by simp only[qFd,h18] <;> rfl) (.cons 0 rfl (.cons 0 rfl (.cons 0 rfl .nil))))) (qih 21 h11 ?_)
 refine qb 26 (.pointer (some ⟨g12,x4.toNat*1,none⟩)) rfl rfl rfl (qbX underlying22 tf56 rfl rfl (qw e4).1 (by rw[h18];exact (qcW e4))) (qih 21 h11.symm ?_)
 refine au [13,27] ?_
 refine qag (j:=0) (kh:=0) (y':=x15) (q':=(a8,c8)) qq rfl rfl rfl tf56 rfl (zP h11) rfl (by rw[h18];exact (qw e4).2.1) rfl (.cons 0 rfl .nil) (fun x17 e13 h19 g16=>?_)
 have h20:x17.length=x16.length:=by rw[← e13,qCw]
 refine zu 18 h19 ?_
 refine zu 21 h19 ?_
 refine zu 24 h19 ?_
 refine zu 33 h19 ?_
 refine q7 (i:=1) (cs':=[qFd a6 x17 c7]) rfl (by simp only[qFd,h19] <;> rfl) ?_
 refine au [0] ?_
 refine kZ 25 rfl (by kernel_rfl) (.cons 0 rfl (.cons 0 (by simp only[qFd,h20,h18] <;> rfl) (.cons 0 rfl (.cons 0 rfl (.cons 0 rfl .nil))))) ?_
 refine au [54,24,2] ?_
 exact vB (rc:=rc1) rfl (.cons 3 rfl .nil) rfl g16 (.cons 2 rfl (.cons 2 rfl (.cons 0 rfl (.cons 1 rfl .nil)))) (.cons 0 rfl .nil)
 refine k8 (m':=((app 8796093022208 x6 ([x4]:qFa)).bind fun x18=>((app 8796093022208 x7 ([x3]:qFa)).bind fun x19=>(lett (x2.set x3.toNat x18) fun x20=>(lett (x20.set x4.toNat x19) fun x21=>some (.inl x21)))))) (rfl) (zL [x3] (fun a9 c9=>?_))
 refine au [0] ?_
 refine qc (.cons 0 rfl (.cons 0 rfl (.cons 0 rfl (.cons 0 rfl (.cons 0 rfl .nil))))) (qh 0 rfl (qF 2 rfl (qL qq h0 h1) (qF 2 rfl (qL qq h3 h4) (qF 2 rfl (qL qq h7 h8) (qF 2 rfl (qL qq h10 h11) qg))))) ?_
 refine au [13,13] ?_
 refine zL [x4] (fun a10 c10=>?_)
 refine au [0] ?_
 refine qc (.cons 0 rfl (.cons 0 rfl (.cons 0 rfl (.cons 0 rfl (.cons 0 rfl .nil))))) (qh 0 rfl (qF 3 rfl (qL qq h0 h1) (qF 3 rfl (qL qq h3 h4) (qF 3 rfl (qL qq h7 h8) (qF 3 rfl (qL qq h10 h11) qg))))) ?_
 refine au [13,14] ?_
 refine zD 4 (qD .i64) rfl underlying56 tf3 rfl rfl rfl rfl rfl (.inl ⟨0,_,rfl⟩) rfl rfl (fun x18 e14 a11 c11=>?_)
 refine au [0] ?_
 refine qc (.cons 0 rfl (.cons 0 rfl (.cons 0 rfl (.cons 0 rfl (.cons 0 rfl .nil))))) (qh 0 rfl (qF 4 rfl (qL qq h0 h1) (qF 4 rfl (qL qq h3 h4) (qF 4 rfl (qL qq h7 h8) (qF 4 rfl (qL qq h10 h11) qg))))) ?_
 refine au [13,23] ?_
 refine zD 3 (qD .i64) rfl underlying56 tf3 rfl rfl rfl rfl rfl (.inl ⟨2,_,rfl⟩) rfl rfl (fun x19 e15 a12 c12=>?_)
 refine au [0] ?_
 refine qc (.cons 0 rfl (.cons 0 rfl (.cons 0 rfl (.cons 0 rfl (.cons 0 rfl .nil))))) (qh 0 rfl (qF 4 rfl (qL qq h0 h1) (qF 4 rfl (qL qq h3 h4) (qF 4 rfl (qL qq h7 h8) (qF 4 rfl (qL qq h10 h11) qg))))) (j5 24 h8 e3 ?_)
 refine au [13,25] ?_
 refine qag (j:=4) (kh:=1) (y':=x18) (q':=(a11,c11)) qq rfl rfl rfl tf56 rfl (zP h8) rfl (qw e3).2.1 rfl (.cons 1 rfl .nil) (fun x20 e16 h21 g17=>?_)
 have h22:x20.length=x2.length:=by rw[← e16,qCw]
 refine zu 18 h21 ?_
 refine zu 21 h21 ?_
 refine zu 24 h21 ?_
 refine zu 33 h21 ?_
 refine q7 (i:=1) (cs':=[qFd a6 x20 c7]) rfl (by simp only[qFd,h21] <;> rfl) ?_
 refine au [0] ?_
 refine kZ 25 rfl (by kernel_rfl) (.cons 0 rfl (.cons 0 (by simp only[qFd,h22] <;> rfl) (.cons 0 rfl (.cons 0 rfl (.cons 0 rfl .nil))))) (qih 21 h11 ?_)
 refine qb 26 (.pointer (some ⟨g12,x4.toNat*1,none⟩)) rfl rfl rfl (qbX underlying22 tf56 rfl rfl (qw e4).1 (by rw[h22];exact (qcW e4))) (qih 21 h11.symm ?_)
 refine au [13,27] ?_
 refine qag (j:=0) (kh:=0) (y':=x19) (q':=(a12,c12)) qq rfl rfl rfl tf56 rfl (zP h11) rfl (by rw[h22];exact (qw e4).2.1) rfl (.cons 0 rfl .nil) (fun x21 e17 h23 g18=>?_)
 have h24:x21.length=x20.length:=by rw[← e17,qCw]
 refine zu 18 h23 ?_
 refine zu 21 h23 ?_
 refine zu 24 h23 ?_
 refine zu 33 h23 ?_
 refine q7 (i:=1) (cs':=[qFd a6 x21 c7]) rfl (by simp only[qFd,h23] <;> rfl) ?_
 refine au [0] ?_
 refine kZ 25 rfl (by kernel_rfl) (.cons 0 rfl (.cons 0 (by simp only[qFd,h24,h22] <;> rfl) (.cons 0 rfl (.cons 0 rfl (.cons 0 rfl .nil))))) ?_
 refine au [54,24,2] ?_
 exact vB (rc:=rc1) rfl (.cons 3 rfl .nil) rfl g18 (.cons 2 rfl (.cons 2 rfl (.cons 0 rfl (.cons 1 rfl .nil)))) (.cons 0 rfl .nil)
 refine au [11,24,2] ?_
 exact vB (rc:=rc1) rfl (.cons 3 rfl .nil) rfl g1 (.cons 2 rfl (.cons 2 rfl (.cons 0 rfl (.cons 1 rfl .nil)))) (.cons 0 rfl .nil)
 rintro x2 _ g1 D1
 refine au [39,63] ?_
 refine qj [3] [0] [] [] (fun ((x22,g19):List (qFa)×List (qFb×Nat))=>([],[⟨g8,22,[qFd a6 x22 c7]⟩],[RoN eN56 rN56 56 1 (qFd a6 x22 c7) x22 g19 []],[],qhH F x22)) ?_ ?_
 refine au [45,25,15,84] ?_
 refine qr [3,45] [0] [] [] (fun (((x23,x24),g20):(Int×List (qFa))×List (qFb×Nat))=>([(46,qFc x23)],[⟨g8,22,[qFd a6 x24 c7]⟩],[RoN eN56 rN56 56 1 (qFd a6 x24 c7) x24 g20 []],[])) ((0:Int),x2) g1 ?_
 intro k0
 rintro ⟨⟨x23,x24⟩,g20⟩
 refine aw [39,1,3,24,3,0,2,1,10] ?_ ?_
 refine au [83,48,80,25,12,4,31,6] ?_
 intro x25 e18 g21 h25 g22 h26
 refine qky (i:=0) rfl h25 (qCB) (qi1 (j:=1) (p:=(x25,g21)) qq rfl rfl tf56 rfl h26 h25 rfl (fun _=>rfl) rfl rfl ?_)
 refine au [31,7] ?_
 intro x26 e19 _
 refine au [26,11] ?_
 intro h27
 replace h27:=of_decide_eq_true h27
 refine qt (d:=52) (v:=qFd g21.1 x26 g21.2) rfl (by simp only[qFd,h27] <;> rfl) ?_
 refine au [46] ?_
 refine qr8 (rin:=rN56) (i:=0) (kh:=0) (y:=x26) (q:=g21) (.cons 0 rfl .nil) rfl rfl h25 (by simp only[qFd,eN56,h27]) (fun x27 e20 h28 g23=>?_)
 have h29:x27.length=x24.length:=by rw[← e20,qCw]
 refine qxu (d:=49) (v:=qFd a6 x27 c7) rfl (by simp only[qFd,h28] <;> rfl) (qoQ (i:=1) (cs':=[qFd a6 x27 c7]) rfl (by simp only[qFd,h28] <;> rfl) ?_)
 refine au [29,12] ?_
 intro x28 e21 g24 h30 g25 h31
 replace h31:a6=some ⟨g25,0,none⟩:=h31
 have h32:=zP (k:=x27.length) (c:=c7) h31
 refine qfn (i:=0) rfl h30 (qCB) ?_
 refine au [29,2] ?_
 intro x29 e22 g26 h33 g27 h34
 replace h34:a6=some ⟨g27,0,none⟩:=h34
 have h35:=zP (k:=x27.length) (c:=c7) h34
 refine kC mixed [8] _ _ (.cons 0 rfl (.cons 0 rfl .nil)) (qF 1 rfl (qL qq h30 h31) (qF 1 rfl (qL qq h33 h34) qg)) 9 rfl ?_
 refine au [26,8,0,6,1,26,8,2,6,3] ?_
 refine j5 4 h31 e21 ?_
 refine qz 5 (qFd g24.1 x28 g24.2) [[8]] rfl rfl rfl (qS (j:=0) rfl tf56 rfl rfl (fun _=>rfl) rfl) ?_
 refine au [13,6,33,0] ?_
 rintro x30 e23 ⟨a13,c13⟩
 refine au [0] ?_
 refine qc (.cons 0 rfl (.cons 0 rfl .nil)) (qF 1 rfl (qL qq h30 h31) (qF 1 rfl (qL qq h33 h34) qg)) (j5 7 h34 e22 ?_)
 refine au [13,8] ?_
 refine qag (j:=1) (kh:=0) (y':=x30) (q':=(a13,c13)) qq rfl rfl rfl tf56 rfl (zP h34) rfl (qw e22).2.1 rfl (.cons 0 rfl .nil) (fun x31 e24 h36 g28=>?_)
 have h37:x31.length=x27.length:=by rw[← e24,qCw]
 refine zu 49 h36 ?_
 refine zu 54 h36 ?_
 refine zu 56 h36 ?_
 refine q7 (i:=1) (cs':=[qFd a6 x31 c7]) rfl (by simp only[qFd,h36] <;> rfl) ?_
 refine au [0] ?_
 refine kZ 8 rfl (by kernel_rfl) (.cons 0 rfl (.cons 0 (by simp only[qFd,h37] <;> rfl) .nil)) ?_
 refine au [54,95] ?_
 exact ql ((iadd .i64 x23 1,x31),g28)
 refine au [71] ?_
 exact qa (x24,g20)
 rintro ⟨x22,g19⟩
 refine au [117,25,12,49] ?_
 exact jE [D1] (a6,c7,g19) (.inl rfl) rfl (.cons 0 rfl .nil) (res1 rfl rfl) (fun h=>by subst h;rfl) (fun h=>by subst h;exact .nil) (fun h=>by subst h;exact (.cons 0 rfl .nil))
 intro t;exact t.elim
theorem qip {r:(Int×qFa)}(hm:vG F p1 m1=some r) :
    PureM qFj 98 [qFe t1] [⟨t1,137,[qFd l1 p1 t2,qFd l2 m1 t3]⟩] [qFg l2 m1 t3] [SlN eN56 iN56 1 (qFd l1 p1 t2) p1 n1] (qFb×Nat) (fun _=>qFc r.1) (fun g=>[⟨t1,137,[qFd l1 p1 t2,qFd g.1 r.2 g.2]⟩]) (fun g=>[qFg g.1 r.2 g.2]):=by
 refine pureMA func98 ntmps98 hm fun _=>?_
 refine au [64,80,47] ?_
 refine qj [] [0] [0] [0] (fun ((x0,_):Int×Unit)=>([(3,qFc x0)],[],[],[],qcZ F m1 x0)) ?_ ?_
 refine au [48,112,84] ?_
 refine qr [0,9,10] [0] [0] [0] (fun (((x1,x3),_):(Int×Int)×Unit)=>([(3,qFc x1),(11,qFc x3)],[],[],[])) ((-1:Int),(0:Int)) () ?_
 intro k0
 rintro ⟨⟨x1,x3⟩,_⟩
 refine aw [39,1,3,24,3,0,2,1,10] ?_ ?_
 refine au [57] ?_
 refine qj [0,9,10,11] [0] [0] [0] (fun ((x4,_):Int×Unit)=>([(3,qFc x4)],[],[],[],vn F (kI F m1 k0) x3 x4)) ?_ ?_
 refine au [14,48,26,5] ?_
 intro x6 e0 g0 h0
 refine kJ (j:=0) (y:=x6) (qD .i64) rfl rfl tf3 rfl h0 (qw e0).2.2 (fun _=>rfl) rfl rfl ?_
 refine au [5,59,26,4,4] ?_
 refine kX 14 [0,3,4,9,10,11] [0] [0] [0] (fun ((x7,_):Bool×Unit)=>([(32,.bool x7)],[],[],[],vo F (kI F m1 k0) x1 x3 x7)) ?_ ?_
 refine qG (os:=_) rfl ?_
 refine av [26,3] ?_ ?_
 intro h1
 refine kF (k:=18) rfl h1 ?_
 refine au [4,24,3,4] ?_
 refine kX 10 [0,3,4,9,10,11,18,19,20] [0] [0] [0] (fun (((x8,x9),_):(Bool×Bool)×Unit)=>([(21,.bool x8),(31,.bool x9)],[],[],[],vp F (kI F m1 k0) x1 x3 x8 x9)) ?_ ?_
 refine qG (os:=_) rfl ?_
 refine av [26,3] ?_ ?_
 intro h2
 refine kF (k:=21) rfl h2 ?_
 refine au [69,69,7,88] ?_
 exact qa ((true,true),())
 intro h2
 refine kE (k:=21) rfl h2 ?_
 refine au [89,112,4,26,5] ?_
 intro x10 e1 g2 h3
 refine kJ (j:=0) (y:=x10) (qD .i64) rfl rfl tf3 rfl h3 (qw e1).2.2 (fun _=>rfl) rfl rfl ?_
 refine au [24,3,87] ?_
 exact qa ((false,(decide (x6<x10))),())
 rintro ⟨⟨x8,x9⟩,_⟩
 try dsimp only
 refine qG (os:=_) rfl ?_
 refine au [88] ?_
 exact qa (x9,())
 intro h1
 refine kE (k:=18) rfl h1 ?_
 refine au [69,69,69,7,87] ?_
 exact qa (false,())
 rintro ⟨x7,_⟩
 try dsimp only
 refine qG (os:=_) rfl ?_
 refine aw [0,2,10] ?_ ?_
 refine au [3,4,5,115] ?_
 exact qa (x3,())
 refine au [11,24,2] ?_
 exact qa (x1,())
 rintro ⟨x4,_⟩
 refine au [39,94] ?_
 exact ql ((x4,iadd .i64 x3 1),())
 refine au [71] ?_
 exact qa (x1,())
 rintro ⟨x0,_⟩
 refine au [91,49] ?_
 exact qM (l2,t3)
theorem qiA (hm:qaP F p1 m1 i1=some m2) :
    PureM qFj 99 [qFe t1,qFc i1] [⟨t1,137,[qFd l1 p1 t2,qFd l2 m1 t3]⟩] [qFg l2 m1 t3] [SlN eN56 iN56 1 (qFd l1 p1 t2) p1 n1] (qFb×Nat) (fun _=>.tuple #[]) (fun g=>[⟨t1,137,[qFd l1 p1 t2,qFd g.1 m2 g.2]⟩]) (fun g=>[qFg g.1 m2 g.2]):=by
 refine pureMA func99 ntmps99 hm fun _=>?_
 refine au [24,8,48,112,4,26,5] ?_
 intro x9 e9 g10 h11
 refine ky (j:=0) (y':=-1) (qD .i64) rfl rfl rfl tf3 rfl h11 (qw e9).2.1 rfl (fun x12 e12 h13=>?_)
 have h14:x12.length=m1.length:=by rw[← e12,qCw]
 refine qt (d:=9) (v:=qFd l2 x12 t3) rfl h13 (q7 (i:=0) (cs':=[qFd l1 p1 t2,qFd l2 x12 t3]) rfl (by simp only[qFd,h13] <;> rfl) ?_)
 refine au [98,112,4,27,2] ?_
 intro x15 e15 g18 b16 o17
 refine au [25,3,84] ?_
 refine qr [0,18,19] [] [] [1,2] (fun (((x54,x55),_):(Int×qFa)×Unit)=>([(20,qFc x54)],[⟨t1,137,[qFd l1 p1 t2,qFd l2 x55 t3]⟩],[qFg l2 x55 t3],[])) ((0:Int),x12) () ?_
 intro k91
 rintro ⟨⟨x54,x55⟩,_⟩
 refine aw [39,1,3,24,3,0,2,1,10] ?_ ?_
 refine au [57] ?_
 refine qj [0,18,19,20] [] [] [0,1] (fun ((x0,_):qFa×Unit)=>([],[⟨t1,137,[qFd l1 p1 t2,qFd l2 x0 t3]⟩],[qFg l2 x0 t3],[],jb F (jc F x15 k91) x54 x0)) ?_ ?_
 refine au [14,45,26,2] ?_
 intro x1 e0 b0 o0
 refine au [25,3,59,112,4,26,5] ?_
 intro x3 e1 g0 h0
 refine kJ (j:=0) (y:=x3) (qD .i64) rfl rfl tf3 rfl h0 (qw e1).2.2 (fun _=>rfl) rfl rfl ?_
 refine aw [26,4,0,2,10] ?_ ?_
 refine au [3,4,112,4,26,5] ?_
 intro x4 e2 g2 h1
 refine kJ (j:=0) (y:=x4) (qD .i64) rfl rfl tf3 rfl h1 (qw e2).2.2 (fun _=>rfl) rfl rfl ?_
 refine au [25,9,26,5] ?_
 intro x6 e3 g3 h2
 refine ky (j:=0) (y':=isub .i64 x4 1) (qD .i64) rfl rfl rfl tf3 rfl h2 (qw e3).2.1 rfl (fun x7 e4 h3=>?_)
 have h4:x7.length=x55.length:=by rw[← e4,qCw]
 refine qt (d:=27) (v:=qFd l2 x7 t3) rfl h3 (qt (d:=35) (v:=qFd l2 x7 t3) rfl h3 (q7 (i:=0) (cs':=[qFd l1 p1 t2,qFd l2 x7 t3]) rfl (by simp only[qFd,h3] <;> rfl) ?_))
 refine au [115] ?_
 exact qa (x7,())
 refine au [11,24,2] ?_
 exact qa (x55,())
 rintro ⟨x0,_⟩
 refine au [39,94] ?_
 exact ql ((iadd .i64 x54 1,x0),())
 refine au [71] ?_
 exact qM (l2,t3)
theorem qk6 (F:Nat)(x1:List (qFa))(a2:qFb)(c3:(Nat×List (qFb×Nat)))(r:(qFa×Int))(hm:qc8 F x1=some r) :
    Pure qFj 69 [.agg #[qFd a2 x1 c3.1]] [SlN eN56 iN56 1 (qFd a2 x1 c3.1) x1 c3.2] (qFb×Nat) (fun g=>.tuple #[qFd g.1 r.1 g.2,qFc r.2]) (fun g=>[qFg g.1 r.1 g.2]) (fun _=>[]):=by
 refine pureA func69 ntmps69 hm fun _=>?_
 refine au [64,23] ?_
 intro g4
 refine au [5,81,77,28,2] ?_
 intro x7 e7 _
 refine aw [5,0,2,1,3,4,25,1,0,2,10] ?_ ?_
 refine au [48,5,103] ?_
 exact qy (none,0)
 refine au [57,77,33,1] ?_
 rintro x8 e8 ⟨a9,c10⟩
 refine qJ [qFd a9 x8 c10.1,.slice none 0 0] ?_
 refine au [23] ?_
 intro g11
 refine au [47] ?_
 refine qj [5] [] [0] [] (fun ((x86,a84,c85):qFa×qFb×Nat)=>([],[⟨g11,137,[qFd a9 x8 c10.1,qFd a84 x86 c85]⟩],[qFg a84 x86 c85],[],qbC F x8 x86)) ?_ ?_
 refine au [48,112,84,27,12] ?_
 refine qr [5,23,24] [] [1] [] (fun (((x0,x2),a0,c0):(Int×qFa)×qFb×Nat)=>([(25,qFc x0)],[⟨g11,137,[qFd a9 x8 c10.1,qFd a0 x2 c0]⟩],[qFg a0 x2 c0],[])) ((0:Int),([]:qFa)) (none,0) ?_
 intro k0
 rintro ⟨⟨x0,x2⟩,a0,c0⟩
 refine aw [39,1,3,24,3,0,2,1,10] ?_ ?_
 refine au [83,45,31,6] ?_
 intro x3 e0 g0 h0 g1 h1
 refine qky (i:=0) rfl h0 (qCB) (qi1 (j:=1) (p:=(x3,g0)) qq rfl rfl tf56 rfl h1 h0 rfl (fun _=>rfl) rfl rfl ?_)
 refine au [47,3,89,112,4,24,4] ?_
 refine zL [(x3.length:Int)] (fun a1 c1=>?_)
 refine zD 3 (qD .i64) rfl underlying56 tf3 rfl rfl rfl rfl rfl (.inl ⟨0,_,rfl⟩) rfl rfl (fun x4 e1 a3 c2=>?_)
 refine au [55,85,63] ?_
 refine qiY (rin:=rN56) (p:=(x3,g0)) (i:=2) (k:=0) (.cons 2 rfl .nil) rfl rfl h0 ?_
 refine au [94] ?_
 exact ql ((iadd .i64 x0 1,x4),a3,c2)
 refine au [71] ?_
 exact qa (x2,a0,c0)
 rintro ⟨x86,a84,c85⟩
 refine au [91,112,24,4,26,1] ?_
 intro x87 e87 a88 c89
 refine au [80,47] ?_
 refine qP (fun ((x5,_):qFa×Unit)=>([(8,qFd a88 x5 c89)],[],[qFg a88 x5 c89],[],qf1 F x5)) ?_ ?_
 refine au [48,33,2] ?_
 rintro x6 e2 ⟨a4,c4⟩
 refine au [47,14] ?_
 refine qr [5] [] [2] [] (fun (((x9,x10,x11,x12),a5,c5):(qFa×Int×Int×qFa)×qFb×Nat)=>([(8,qFd a88 x9 c89),(9,qFc x10),(10,qFc x11)],[⟨g11,137,[qFd a9 x8 c10.1,qFd a5 x12 c5]⟩],[qFg a88 x9 c89,qFg a5 x12 c5],[])) (x87,(0:Int),x6.1,x6.2) (a4,c4) ?_
 intro k1
 rintro ⟨⟨x9,x10,x11,x12⟩,a5,c5⟩
 refine aw [39,1,1,3,4,26,4,0,2,10] ?_ ?_
 refine au [83,48,4,112,4] ?_
 refine qcX (j:=2) rfl UnF.u inferInstance rfl rfl rfl rfl ?_
 intro x13 e3 g2 h2
 refine kJ (j:=2) (y:=x13) (qD .i64) rfl rfl tf3 rfl h2 (qw e3).2.2 (fun _=>rfl) rfl rfl (qzp rfl rfl rfl rfl ?_)
 refine au [59,89,28,11] ?_
 intro x14 e4 g3 h3
 refine ky (j:=1) (y':=imax x10 x13) (qD .i64) rfl rfl rfl tf3 rfl h3 (qw e4).2.1 rfl (fun x15 e5 h4=>?_)
 have h5:x15.length=x9.length:=by rw[← e5,qCw]
 refine qt (d:=8) (v:=qFd a88 x15 c89) rfl h4 (qt (d:=62) (v:=qFd a88 x15 c89) rfl h4 ?_)
 refine au [46,3,89] ?_
 refine qu qiA ?_
 rintro x16 e6 ⟨a6,c6⟩
 refine au [0,63,3,4,33,2] ?_
 rintro x17 e9 ⟨a7,c7⟩
 refine au [5,0] ?_
 exact ql ((x15,imax x10 x13,x17.1,x17.2),a7,c7)
 refine au [71] ?_
 exact qa (x9,())
 rintro ⟨x5,_⟩
 refine au [91,5,49] ?_
 exact qy (a88,c89)
theorem qeA {r:Unit}(hm:qaJ F p1 i1 i2 i3 m1 m2=some r) :
    PureM qFj 66 [qFe t1,.func (.func 67) #[] #[]] [⟨t1,85,[qFd l1 p1 t2,qFc i1,qFc i2,qFc i3,qFd l2 m1 t3,.string (bstr m2)]⟩] [] [SlN eN56 iN56 1 (qFd l1 p1 t2) p1 n1,qFf l2 m1 t3] (Nat×Nat) (fun g=>.func (.func 94) #[] #[qFe g.1,qFe g.2]) (fun g=>[⟨g.1,83,[qFe t1]⟩,⟨g.2,107,[.func (.func 67) #[] #[]]⟩,⟨t1,85,[qFd l1 p1 t2,qFc i1,qFc i2,qFc i3,qFd l2 m1 t3,.string (bstr m2)]⟩]) (fun _=>[]):=by
 refine pureMA func66 ntmps66 hm fun _=>?_
 refine au [96] ?_
 intro g12
 refine au [23] ?_
 intro g13
 refine au [80,27,5,49] ?_
 exact qM (g12,g13)
theorem qez {r:Unit}(hm:qaI F p1 i1 i2 i3 m1 m2=some r) :
    PureM qFj 66 [qFe t1,.func (.func 69) #[] #[]] [⟨t1,85,[qFd l1 p1 t2,qFc i1,qFc i2,qFc i3,qFd l2 m1 t3,.string (bstr m2)]⟩] [] [SlN eN56 iN56 1 (qFd l1 p1 t2) p1 n1,qFf l2 m1 t3] (Nat×Nat) (fun g=>.func (.func 94) #[] #[qFe g.1,qFe g.2]) (fun g=>[⟨g.1,83,[qFe t1]⟩,⟨g.2,107,[.func (.func 69) #[] #[]]⟩,⟨t1,85,[qFd l1 p1 t2,qFc i1,qFc i2,qFc i3,qFd l2 m1 t3,.string (bstr m2)]⟩]) (fun _=>[]):=by
 refine pureMA func66 ntmps66 hm fun _=>?_
 refine au [96] ?_
 intro g12
 refine au [23] ?_
 intro g13
 refine au [80,27,5,49] ?_
 exact qM (g12,g13)
theorem qiC {r:Unit}(hm:qaQ F p1 i1 i2 i3 m1 m2=some r) :
    PureM qFj 43 [qFe t1] [⟨t1,85,[qFd l1 p1 t2,qFc i1,qFc i2,qFc i3,qFd l2 m1 t3,.string (bstr m2)]⟩] [] [SlN eN56 iN56 1 (qFd l1 p1 t2) p1 n1,qFf l2 m1 t3] (Nat×Nat×Nat×Nat×Nat) (fun g=>.map (some g.1)) (fun g=>[(blkO g.1 (mapT [(([110,111,100,101,115]:qFa),.agg #[qFc 1,.func (.func 58) #[qFe t1] #[]]),(([97,114,99]:qFa),.agg #[qFc 2,.func (.func 59) #[qFe t1] #[]]),(([100,114,111,112]:qFa),.agg #[qFc 2,.func (.func 60) #[qFe t1] #[]]),(([104,111,119]:qFa),.agg #[qFc 3,.func (.func 61) #[qFe t1] #[]]),(([98,105,116,115]:qFa),.agg #[qFc 0,.func (.func 62) #[qFe t1] #[]]),(([108,105,115,116]:qFa),.agg #[qFc 1,.func (.func 63) #[qFe t1] #[]]),(([102,97,114]:qFa),.agg #[qFc 2,.func (.func 64) #[qFe t1] #[]]),(([119,97,121]:qFa),.agg #[qFc 2,.func (.func 65) #[qFe t1] #[]]),(([112,97,114,116]:qFa),.agg #[qFc 1,.func (.func 94) #[] #[qFe g.2.1,qFe g.2.2.1]]),(([111,114,100,101,114]:qFa),.agg #[qFc 0,.func (.func 68) #[qFe t1] #[]]),(([99,111,114,101]:qFa),.agg #[qFc 1,.func (.func 94) #[] #[qFe g.2.2.2.1,qFe g.2.2.2.2]]),(([116,104,114,101,101,115]:qFa),.agg #[qFc 0,.func (.func 70) #[qFe t1] #[]])])),⟨g.2.1,83,[qFe t1]⟩,⟨g.2.2.1,107,[.func (.func 67) #[] #[]]⟩,⟨g.2.2.2.1,83,[qFe t1]⟩,⟨g.2.2.2.2,107,[.func (.func 69) #[] #[]]⟩,⟨t1,85,[qFd l1 p1 t2,qFc i1,qFc i2,qFc i3,qFd l2 m1 t3,.string (bstr m2)]⟩]) (fun _=>[]):=by
 refine pureMA func43 ntmps43 hm fun _=>?_
 refine au [64,80] ?_
 refine qoZ rfl rfl ?_
 intro g12
 refine au [4,27,13] ?_
 refine qJ [qFc 1,.func (.func 58) #[qFe t1] #[]] ?_
 refine yI (i:=0) (u:=([110,111,100,101,115]:qFa)) rfl underlying90 underlying9 rfl rfl rfl rfl (by kernel_rfl) ?_
 refine au [4,27,13] ?_
 refine qJ [qFc 2,.func (.func 59) #[qFe t1] #[]] ?_
 refine yI (i:=0) (u:=([97,114,99]:qFa)) rfl underlying90 underlying9 rfl rfl rfl rfl (by kernel_rfl) ?_
 refine au [4,27,13] ?_
 refine qJ [qFc 2,.func (.func 60) #[qFe t1] #[]] ?_
 refine yI (i:=0) (u:=([100,114,111,112]:qFa)) rfl underlying90 underlying9 rfl rfl rfl rfl (by kernel_rfl) ?_
 refine au [4,27,13] ?_
 refine qJ [qFc 3,.func (.func 61) #[qFe t1] #[]] ?_
 refine yI (i:=0) (u:=([104,111,119]:qFa)) rfl underlying90 underlying9 rfl rfl rfl rfl (by kernel_rfl) ?_
 refine au [4,27,13] ?_
 refine qJ [qFc 0,.func (.func 62) #[qFe t1] #[]] ?_
 refine yI (i:=0) (u:=([98,105,116,115]:qFa)) rfl underlying90 underlying9 rfl rfl rfl rfl (by kernel_rfl) ?_
 refine au [4,27,13] ?_
 refine qJ [qFc 1,.func (.func 63) #[qFe t1] #[]] ?_
 refine yI (i:=0) (u:=([108,105,115,116]:qFa)) rfl underlying90 underlying9 rfl rfl rfl rfl (by kernel_rfl) ?_
 refine au [4,27,13] ?_
 refine qJ [qFc 2,.func (.func 64) #[qFe t1] #[]] ?_
 refine yI (i:=0) (u:=([102,97,114]:qFa)) rfl underlying90 underlying9 rfl rfl rfl rfl (by kernel_rfl) ?_
 refine au [4,27,13] ?_
 refine qJ [qFc 2,.func (.func 65) #[qFe t1] #[]] ?_
 refine yI (i:=0) (u:=([119,97,121]:qFa)) rfl underlying90 underlying9 rfl rfl rfl rfl (by kernel_rfl) ?_
 refine au [4] ?_
 refine qu qeA ?_
 rintro x13 e13 ⟨g14,g15⟩
 refine qJ [qFc 1,.func (.func 94) #[] #[qFe g14,qFe g15]] ?_
 refine yI (i:=3) (u:=([112,97,114,116]:qFa)) rfl underlying90 underlying9 rfl rfl rfl rfl (by kernel_rfl) ?_
 refine au [4,27,13] ?_
 refine qJ [qFc 0,.func (.func 68) #[qFe t1] #[]] ?_
 refine yI (i:=3) (u:=([111,114,100,101,114]:qFa)) rfl underlying90 underlying9 rfl rfl rfl rfl (by kernel_rfl) ?_
 refine au [4] ?_
 refine qu qez ?_
 rintro x16 e16 ⟨g17,g18⟩
 refine qJ [qFc 1,.func (.func 94) #[] #[qFe g17,qFe g18]] ?_
 refine yI (i:=5) (u:=([99,111,114,101]:qFa)) rfl underlying90 underlying9 rfl rfl rfl rfl (by kernel_rfl) ?_
 refine au [4,27,13] ?_
 refine qJ [qFc 0,.func (.func 70) #[qFe t1] #[]] ?_
 refine yI (i:=5) (u:=([116,104,114,101,101,115]:qFa)) rfl underlying90 underlying9 rfl rfl rfl rfl (by kernel_rfl) ?_
 refine au [4,49] ?_
 exact qM (g12,g14,g15,g17,g18)
theorem qja {v13:Value}{r:(Bool×qFa)}(hm:qT F p1 i1 i2 i3 m1 m2 i4 p2=some r) :
    PureM qFj 44 [qFe t1,.agg #[qFc i4,v13],qFd l3 p2 t4] [⟨t1,85,[qFd l1 p1 t2,qFc i1,qFc i2,qFc i3,qFd l2 m1 t3,.string (bstr m2)]⟩] [qFg l2 m1 t3] [SlN eN56 iN56 1 (qFd l1 p1 t2) p1 n1,Sl eT 1 (qFd l3 p2 t4) p2,GF] (qFb×Nat) (fun _=>.bool r.1) (fun g=>[⟨t1,85,[qFd l1 p1 t2,qFc i1,qFc i2,qFc i3,qFd g.1 r.2 g.2,.string (bstr m2)]⟩]) (fun g=>[qFg g.1 r.2 g.2]):=by
 refine pureMA func44 ntmps44 hm fun _=>?_
 refine au [111,23] ?_
 intro g17
 refine au [47] ?_
 refine qj [2,4] [0] [] [1,0,2] (fun ((x0,a0,c0):qFa×qFb×Nat)=>([],[⟨t1,85,[qFd l1 p1 t2,qFc i1,qFc i2,qFc i3,qFd a0 x0 c0,.string (bstr m2)]⟩],[qFg a0 x0 c0],[],qdS F i4 p2 x0)) ?_ ?_
 refine au [48,84] ?_
 refine qr [0,2,4,11,12] [0] [] [1,0,2] (fun (((x1,x3),a1,c1):(Int×qFa)×qFb×Nat)=>([(13,qFc x1)],[⟨t1,85,[qFd l1 p1 t2,qFc i1,qFc i2,qFc i3,qFd a1 x3 c1,.string (bstr m2)]⟩],[qFg a1 x3 c1],[])) ((0:Int),m1) (l2,t3) ?_
 intro k0
 rintro ⟨⟨x1,x3⟩,a1,c1⟩
 refine aw [39,1,3,24,3,0,2,1,10] ?_ ?_
 refine au [83,45] ?_
 refine ja (j:=0) qI (by decide) rfl UnF.u inferInstance rfl rfl rfl rfl ?_
 intro x4 e0 b0 o0
 refine au [25,3,59] ?_
 refine vm EnC.e rfl rfl rfl (fun x9 e1=>qyb x4 x9 e1) (.consF 3 rfl .nil) (fun x9 e1=>?_)
 intro g0
 refine au [4,79,5,81,48] ?_
 refine qsj rfl underlying50 rfl rfl ?_
 refine au [4] ?_
 refine zT 3 24 27 [0,2,4,11,12,13,8,9] (decide (x9.1<0)) ?_ ?_ ?_
 exact az [62,61]
 exact az [4,24,3,60]
 refine au [4] ?_
 refine zT 4 28 32 [0,2,4,11,12,13,8,9] (decide (4<(x4.length:Int))) ?_ ?_ ?_
 exact az [62,7,61]
 refine au [4] ?_
 refine qqO (a:=x4) rfl underlying9 rfl rfl ?_
 exact az [106]
 refine au [4] ?_
 refine kX 5 [0,2,4,9,11,12,13] [0,1] [0] [1,2,3] (fun ((x10,_):Bool×Unit)=>([(38,.bool x10)],[],[],[],je F (jf F i4 p2 k0) x1 x3 x9 x10)) ?_ ?_
 refine qG (os:=_) rfl ?_
 refine av [26,3] ?_ ?_
 intro h0
 refine kF (k:=33) rfl h0 ?_
 refine au [69,88] ?_
 exact qa (true,())
 intro h0
 refine kE (k:=33) rfl h0 ?_
 refine au [4] ?_
 refine vm EnC.e rfl rfl rfl (fun x13 e2=>qf0 x9.1 x13 e2) (.consF 3 rfl .nil) (fun x13 e2 _=>?_)
 refine au [4] ?_
 refine qxK rfl UnF.u rfl rfl rfl ?_
 refine au [87] ?_
 exact qa ((!(bstr x13 == bstr x4)),())
 rintro ⟨x10,_⟩
 try dsimp only
 refine qG (os:=_) rfl ?_
 refine aw [0,2,10] ?_ ?_
 refine au [45,58,90,50] ?_
 exact qM (a1,c1)
 refine au [57,3,89,55,25,12,4] ?_
 refine zL [x9.1] (fun a2 c2=>?_)
 refine zD 1 (qD .i64) rfl underlying56 tf3 rfl rfl rfl rfl rfl (.inl ⟨0,_,rfl⟩) rfl rfl (fun x15 e3 a4 c3=>?_)
 refine au [55,25,5,0,95] ?_
 exact ql ((iadd .i64 x1 1,x15),a4,c3)
 refine au [71] ?_
 exact qa (x3,a1,c1)
 rintro ⟨x0,a0,c0⟩
 refine au [91,24,4,78,25,6,49] ?_
 exact qM (a0,c0)
theorem qiE (F g1:Nat)(x2:List (qFa))(a3:qFb)(c4:(Nat×List (qFb×Nat)))(x5 x6 x7:Int)(x8:qFa)(a9:qFb)(c10:Nat)(x11:qFa)(r:(Int×List (qFa)))(hm:qaR F x2 x5 x6 x7 x8 x11=some r) :
    PureM qFj 58 [qFe g1] [⟨g1,85,[qFd a3 x2 c4.1,qFc x5,qFc x6,qFc x7,qFd a9 x8 c10,.string (bstr x11)]⟩] [RoN eN56 rN56 56 1 (qFd a3 x2 c4.1) x2 c4.2 []] [qFf a9 x8 c10] (qFb×Nat×List (qFb×Nat)) (fun _=>qFc r.1) (fun g=>[⟨g1,85,[qFd g.1 r.2 g.2.1,qFc x5,qFc x6,qFc x7,qFd a9 x8 c10,.string (bstr x11)]⟩]) (fun g=>[RoN eN56 rN56 56 1 (qFd g.1 r.2 g.2.1) r.2 g.2.2 []]):=by
 refine pureMA func58 ntmps58 hm fun _=>?_
 refine au [64,81,48,112,26,2] ?_
 intro x16 e16 b17 o18
 refine aw [25,3,25,2,0,2,10] ?_ ?_
 refine au [45,58] ?_
 exact qM (a3,c4)
 refine au [57,48,4,112,29,1] ?_
 intro x19 e19 b20 o21
 refine au [25,3,29,11] ?_
 intro x22 e22 a23 c24
 refine qJ [qFd a23 x22 c24] ?_
 refine au [55,9,21,46,45,49] ?_
 exact qM (a23,c24,(qCc x22.length ((none,0):qFb×Nat)))
theorem j8 (hm:zG F w1 p1=some w2) :
    PureM qFj 158 [qFd l1 w1 t1,.func (.func 159) #[] #[qFe t2]] [⟨t2,24,[qFd l2 p1 t3]⟩] [Ro eS63 63 2 (qFd l1 w1 t1) w1] [SlN eN56 iN56 1 (qFd l2 p1 t3) p1 n1] (qFb×Nat) (fun g=>qFd g.1 w2 g.2) (fun _=>[⟨t2,24,[qFd l2 p1 t3]⟩]) (fun g=>[Ro eS63 63 2 (qFd g.1 w2 g.2) w2]):=by
 refine qdJ func158 rfl ntmps158 rfl hm (fun w=>?_)
 refine au [96] ?_
 intro g8
 refine au [81,48,73] ?_
 refine qcs (encs:=(fun (p:Int×Int)=>[.agg #[qFc p.1,qFc p.2]])) (y:=(fun (x46:List (Int×Int)) ((x55,x56):Int×Int)=>kR F x46 x55 x56)) (lb:=[qFe t2]) (fun (x46:List (Int×Int)) ((a44,c45):qFb×Nat)=>[⟨g8,58,[qFd a44 x46 c45]⟩]) (fun (x46:List (Int×Int)) ((a44,c45):qFb×Nat)=>[Ro eS63 63 2 (qFd a44 x46 c45) x46]) (fun (_:Empty) (_:Unit)=>[]) (fun (_:Empty) (_:Unit)=>[]) (fun _=>.skip) w1 (l1,t1) rfl EnC.e (fun _=>rfl) rfl (.cons 1 rfl .nil) (.cons 0 rfl .nil) (.cons 0 rfl .nil) (.consF 0 rfl .nil) (fun z hz _ _ _ hY=>qed F hY w1 (l1,t1) t2 p1 l2 (t3,n1) z hz) ?_ ?_ ?_
 rintro rc1 L1 D1 x46 ⟨a44,c45⟩ ⟨x55,x56⟩ z w M _
 try dsimp only
 refine qdN [(0,qFd l1 w1 t1),(1,.func (.func 159) #[] #[qFe t2]),(2,qFe g8),(4,.slice none 0 0),(6,.func (.func 159) #[] #[qFe t2]),(7,.agg #[qFc x55,qFc x56])] (qn rfl (qn rfl (qn rfl (qn rfl (qn rfl (qn rfl qd5)))))) ?_
 refine au [3,24,6] ?_
 intro g57
 refine au [85,33,3,14,3,25,12,24,9] ?_
 refine qbr (vs:=[.agg #[qFc x55,qFc x56]]) (ys:=([(x55,x56)]:List (Int×Int))) qeu (by decide) rfl underlying58 tf63 rfl rfl rfl rfl rfl (by decide) (fun a58 c59=>zD 1 qeu rfl underlying58 tf63 rfl rfl rfl rfl rfl (.inl ⟨0,_,rfl⟩) rfl rfl (fun x60 e60 a61 c62=>?_))
 refine au [25,5,115] ?_
 exact vB (rc:=rc1) rfl (.cons 2 rfl .nil) rfl (a61,c62) (.cons 2 rfl (.cons 0 rfl (.cons 1 rfl .nil))) (.cons 0 rfl .nil)
 rintro x46 _ ⟨a44,c45⟩ D1
 refine au [39,63,45,25,15,49] ?_
 exact jE [D1] (a44,c45) (.inl rfl) rfl (.cons 0 rfl .nil) (res1 rfl rfl) (fun h=>by subst h;rfl) (fun h=>by subst h;exact (.cons 0 rfl .nil)) (fun h=>by subst h;exact (.cons 0 rfl .nil))
 intro t;exact t.elim
theorem qcu (hm:zQ F p1=some w1) :
    PureM qFj 113 [.func (.func 159) #[] #[qFe t1]] [⟨t1,24,[qFd l1 p1 t2]⟩] [] [SlN eN56 iN56 1 (qFd l1 p1 t2) p1 n1] (qFb×Nat) (fun g=>qFd g.1 w1 g.2) (fun _=>[⟨t1,24,[qFd l1 p1 t2]⟩]) (fun g=>[Ro eS63 63 2 (qFd g.1 w1 g.2) w1]):=by
 refine pureMA func113 ntmps113 hm fun _=>?_
 refine au [64,59,33,4] ?_
 refine qu j8 ?_
 rintro x5 e5 ⟨a6,c7⟩
 refine au [49] ?_
 exact qM (a6,c7)
theorem qnM {r:(List (Int×Int)×Int)}(hm:qe9 F p1=some r) :
    Pure qFj 82 [.agg #[qFd l1 p1 t1]] [SlN eN56 iN56 1 (qFd l1 p1 t1) p1 n1] (qFb×Nat) (fun g=>.tuple #[qFd g.1 r.1 g.2,qFc r.2]) (fun g=>[Ro eS63 63 2 (qFd g.1 r.1 g.2) r.1]) (fun _=>[]):=by
 refine pureA func82 ntmps82 hm fun _=>?_
 refine au [64,23] ?_
 intro g4
 refine au [5,81,77,28,2] ?_
 intro x7 e7 _
 refine aw [5,0,2,1,3,4,25,1,0,2,10] ?_ ?_
 refine au [48,5,58] ?_
 exact qfZ (Int×Int) eS63 63 2 (qy (none,0))
 refine au [57,77,30,6] ?_
 intro x8 e8 g9
 refine qu qcu ?_
 rintro x10 e10 ⟨a11,c12⟩
 refine au [5,49] ?_
 exact qy (a11,c12)
theorem qmq (hm:qcx F i1 w1=some p1) :
    Pure qFj 115 [qFc i1,qFd l1 w1 t1] [Sl eS63 2 (qFd l1 w1 t1) w1] (qFb×Nat×List (qFb×Nat)) (fun g=>.agg #[qFd g.1 p1 g.2.1]) (fun g=>[RoN eN56 rN56 56 1 (qFd g.1 p1 g.2.1) p1 g.2.2 []]) (fun _=>[]):=by
 refine pureA func115 ntmps115 hm fun _=>?_
 refine au [56,24,6] ?_
 intro g5
 refine au [98,29,11] ?_
 intro x6 e6 a7 c8
 refine qJ [qFd a7 x6 c8] ?_
 refine au [24,6] ?_
 intro g9
 refine au [21,46] ?_
 refine qj [4,5] [1] [] [] (fun ((x0,g0):List (qFa)×List (qFb×Nat))=>([],[⟨g9,24,[qFd a7 x0 c8]⟩],[RoN eN56 rN56 56 1 (qFd a7 x0 c8) x0 g0 []],[],qgS F x0)) ?_ ?_
 refine au [48,84] ?_
 refine qr [4,5,11,12] [1] [] [0] (fun (((x3,x4),g1):(Int×List (qFa))×List (qFb×Nat))=>([(13,qFc x3)],[⟨g9,24,[qFd a7 x4 c8]⟩],[RoN eN56 rN56 56 1 (qFd a7 x4 c8) x4 g1 []],[])) ((0:Int),x6) (qCc x6.length ((none,0):qFb×Nat)) ?_
 intro k0
 rintro ⟨⟨x3,x4⟩,g1⟩
 refine aw [39,1,3,24,3,0,2,1,10] ?_ ?_
 refine au [83,45,31,8] ?_
 intro x5 e0 b0 o0
 refine au [29,3,24,6] ?_
 intro g2
 refine au [21,46,29,12] ?_
 intro x7 e1 g3 h0 g4 h1
 replace h1:a7=some ⟨g4,0,none⟩:=h1
 have h2:=zP (k:=x4.length) (c:=c8) h1
 refine qfn (i:=0) rfl h0 (qCB) ?_
 refine au [29,2] ?_
 intro x8 e2 g6 h3 g7 h4
 replace h4:a7=some ⟨g7,0,none⟩:=h4
 have h5:=zP (k:=x4.length) (c:=c8) h4
 refine kC mixed [15] _ _ (.cons 0 rfl (.cons 0 rfl (.cons 0 rfl .nil))) (qh 0 rfl (qh 1 rfl (qF 1 rfl (qL qq h0 h1) (qF 1 rfl (qL qq h3 h4) qg)))) 16 rfl ?_
 refine au [15,0,28,12,1,15,2,24,15,3,15,4,28,12,5,15,6,24,15,7] ?_
 refine j5 8 h1 e1 ?_
 refine qz 9 (qFd g3.1 x7 g3.2) [[15]] rfl rfl rfl (qS (j:=2) rfl tf56 rfl rfl (fun _=>rfl) rfl) ?_
 refine au [15,10,24,15,11,13,12] ?_
 refine zL [x5.2] (fun a0 c0=>?_)
 refine au [0] ?_
 refine qc (.cons 0 rfl (.cons 0 rfl (.cons 0 rfl .nil))) (qh 0 rfl (qh 1 rfl (qF 2 rfl (qL qq h0 h1) (qF 2 rfl (qL qq h3 h4) qg)))) ?_
 refine au [13,13] ?_
 refine zD 1 (qD .i64) rfl underlying56 tf3 rfl rfl rfl rfl rfl (.inl ⟨0,_,rfl⟩) rfl rfl (fun x9 e3 a1 c1=>?_)
 refine au [0] ?_
 refine qc (.cons 0 rfl (.cons 0 rfl (.cons 0 rfl .nil))) (qh 0 rfl (qh 1 rfl (qF 2 rfl (qL qq h0 h1) (qF 2 rfl (qL qq h3 h4) qg)))) (j5 14 h4 e2 ?_)
 refine au [13,15] ?_
 refine qag (j:=2) (kh:=0) (y':=x9) (q':=(a1,c1)) qq rfl rfl rfl tf56 rfl (zP h4) rfl (qw e2).2.1 rfl (.cons 0 rfl .nil) (fun x10 e4 h6 g8=>?_)
 have h7:x10.length=x4.length:=by rw[← e4,qCw]
 refine zu 18 h6 ?_
 refine zu 22 h6 ?_
 refine q7 (i:=2) (cs':=[qFd a7 x10 c8]) rfl (by simp only[qFd,h6] <;> rfl) ?_
 refine au [0] ?_
 refine kZ 15 rfl (by kernel_rfl) (.cons 0 rfl (.cons 0 rfl (.cons 0 (by simp only[qFd,h7] <;> rfl) .nil))) ?_
 refine au [54,95] ?_
 exact ql ((iadd .i64 x3 1,x10),g8)
 refine au [71] ?_
 exact qa (x4,g1)
 rintro ⟨x0,g0⟩
 refine au [117,25,10,21,46,8] ?_
 exact qd9 (a7,c8,g0) 0
theorem qdR {r:Unit}(hm:zo F w1=some r) :
    PureM qFj 117 [qFd l1 w1 t1] [] [] [Sl eS63 2 (qFd l1 w1 t1) w1] Nat (fun g=>.func (.func 161) #[] #[qFe g]) (fun g=>[⟨g,58,[qFd l1 w1 t1]⟩]) (fun _=>[]):=by
 refine pureMA func117 ntmps117 hm fun _=>?_
 refine au [64,23] ?_
 intro g4
 refine au [80,27,5,49] ?_
 exact qM g4
theorem qnE [inst:DM]{F:Nat}{x1:qFa}{a2:qFb}{c3:Nat}{r:Int}(hm:qe6 F x1=some r) :
    Pure qFj 162 [qFd a2 x1 c3] [qFf a2 x1 c3] Unit (fun _=>qFc r) (fun _=>[]) (fun _=>[]):=by
 refine pureA func162 ntmps162 hm fun _=>?_
 refine au [64,80,47] ?_
 refine qP (fun ((_,_):Unit×Unit)=>([(3,qFc 0)],[],[],[],qht F)) ?_ ?_
 refine au [48,84] ?_
 refine qr [3,6,7] [] [] [0] (fun ((x46,_):Int×Unit)=>([(8,qFc x46)],[],[],[])) (0:Int) () ?_
 intro k57
 rintro ⟨x46,_⟩
 refine aw [39,1,3,24,3,0,2,1,10] ?_ ?_
 refine au [83,45,26,2] ?_
 intro x63 e63 b64 o65
 refine aw [25,3,5,0,2,1,3,4,4,25,1,0,2,10] ?_ ?_
 exact az [48,49,90,104]
 refine au [11,95] ?_
 exact ql (iadd .i64 x46 1,())
 exact az [71,26,7]
 rintro ⟨_,_⟩
 exact az [91,68]
theorem qkQ [inst:DM]{F:Nat}{x1:Int}{r:Bool}(hm:vC F x1=some r) :
    Pure qFj 190 [qFc x1] [] Unit (fun _=>.bool r) (fun _=>[]) (fun _=>[]):=by
 refine pureA func190 ntmps190 hm fun _=>?_
 exact az [64,59,4,25,1,68]
theorem qi5 [inst:DM]{F:Nat}{x1:Int}{x2:Int}{r:Int}(hm:jJ F x1 x2=some r) :
    Pure qFj 163 [qFc x1,qFc x2] [] Unit (fun _=>qFc r) (fun _=>[]) (fun _=>[]):=by
 refine pureA func163 ntmps163 hm fun _=>?_
 refine au [56,59,30,8] ?_
 intro x3 e3 _
 refine au [59,30,8] ?_
 intro x4 e4 _
 refine aw [5,0,2,1,1,3,4,0,2,10] ?_ ?_
 refine aw [1,1,3,4,0,2,10] ?_ ?_
 exact az [45,58,12,24,1]
 exact az [97,75]
 refine aw [11,2,1,1,3,4,0,2,10] ?_ ?_
 exact az [45,75]
 refine aw [11,2,1,1,3,4,4,24,3,0,2,10] ?_ ?_
 exact az [45,75]
 refine aw [11,2,1,1,3,4,4,25,2,0,2,10] ?_ ?_
 exact az [45,75]
 exact az [97,68]
theorem qms [inst:DM](F:Nat)(x1:Int)(x2:Int)(x3:Int)(x4:Int)(r:Int)(hm:qen F x1 x2 x3 x4=some r) :
    Pure qFj 118 [.agg #[qFc x1,qFc x2],.agg #[qFc x3,qFc x4]] [] Unit (fun _=>qFc r) (fun _=>[]) (fun _=>[]):=by
 refine pureA func118 ntmps118 hm fun _=>?_
 refine au [96] ?_
 intro g5
 refine au [23] ?_
 intro g6
 refine au [81] ?_
 refine qK [] [0,0] [] 13 ?_
 refine au [15,0,26,8,1,15,2,24,15,3,15,5,26,8,6,15,7,24,15,8,13,4,33,5] ?_
 intro x12 e12 _
 refine au [0,30,9,13,9,33,5] ?_
 intro x13 e13 _
 refine au [0,30,9,13,10] ?_
 refine zL [x12,x13] (fun a14 c15=>?_)
 refine au [0,30,9,13,11] ?_
 refine qd qnE ?_
 intro x16 e16 _
 exact az [0,30,9,6,12,54,2,8,24,1]
theorem qc6 (F:Nat){σ τ:Type}{J:Rounds σ τ}{yy:σ→(Int×Int)→Option (σ ⊕ τ)}{L:Nat}(hY:YieldC qFj L (fun (p:Int×Int)=>[.agg #[qFc p.1,qFc p.2]]) J yy)(s0:σ)(gs0:J.γ)(g1:Nat)(x2:List (Int×Int))(a3:qFb)(c4:Nat)(r:σ ⊕ τ)(hm:yn F yy x2 s0=some r) :
    PureM qFj 161 ([.func (.yield L) #[] #[],qFe g1]) ([⟨g1,58,[qFd a3 x2 c4]⟩]++J.IB s0 gs0) (J.IR s0 gs0) [J.F,Sl eS63 2 (qFd a3 x2 c4) x2] (J.G r) (fun _=>.tuple #[]) (fun g=>[⟨g1,58,[qFd a3 x2 c4]⟩]++J.bs r g) (fun g=>J.rs r g):=by
 refine pureMA func161 ntmps161 hm fun _=>?_
 refine au [56,18,84] ?_
 refine jC (fun (((x23,x24),g25):(Int×σ)×J.γ)=>[(0,.func (.yield L) #[] #[]),(5,qFd a3 x2 c4),(6,qFc (x2.length:Int)),(7,qFc x23)]) (fun (((x23,x24),g25):(Int×σ)×J.γ)=>[⟨g1,58,[qFd a3 x2 c4]⟩]++J.IB x24 g25) (fun (((x23,x24),g25):(Int×σ)×J.γ)=>[]++J.IR x24 g25) (fun (((x23,x24),g25):(Int×σ)×J.γ)=>[Sl eS63 2 (qFd a3 x2 c4) x2,J.F]) (fun k (s:(Int×σ)×J.γ)=>zl F yy x2 k s.1) ((0,s0),gs0) F ?_ (hB:=(.cons 0 rfl (qf 0 rfl))) (hR:=(qf 0 rfl)) (hF:=(qi 1 rfl (qi 0 rfl zJ)))
 intro k44
 rintro ⟨⟨x23,x24⟩,g25⟩
 try dsimp only
 refine qbW (m':=zR F yy x2 (zl F yy x2 k44) x23 x24) rfl ?_
 refine aw [1,3,24,3,0,2,1,10] ?_ ?_
 refine au [83,45,31,8] ?_
 intro x54 e54 b55 o56
 refine au [29,3,24,6] ?_
 intro g57
 refine au [21,98,24,9] ?_
 refine qfp hY x24 (x54.1,x54.2) g25 (B1:=[⟨g57,63,[qFc x54.1,qFc x54.2]⟩,⟨g1,58,[qFd a3 x2 c4]⟩]) (R1:=[]) (j:=2) rfl rfl rfl rfl rfl rfl rfl (fun x58 _ g60=>?_) (fun x59 _ g60=>?_)
 refine au [25,7,46] ?_
 refine yh (b:=false) rfl (fun h=>by cases h) (fun _=>?_)
 refine au [11,95] ?_
 exact vF ((iadd .i64 x23 1,x58),g60) (hB:=(.cons 1 rfl (qf 1 rfl))) (hR:=(qf 0 rfl)) (hF:=(qi 1 rfl (qi 2 rfl zJ)))
 refine au [25,7,46] ?_
 refine yh (b:=true) rfl (fun _=>?_) (fun h=>by cases h)
 refine au [8,90,24,5] ?_
 exact jD (B0:=[⟨g1,58,[qFd a3 x2 c4]⟩]) (x:=.inr x59) g60 (.inl rfl) (res0 rfl) (.cons 1 rfl (qf 1 rfl)) (qf 0 rfl)
 refine au [71] ?_
 exact jD (B0:=[⟨g1,58,[qFd a3 x2 c4]⟩]) (x:=.inl x24) g25 (.inr rfl) (res0 rfl) (.cons 0 rfl (qf 0 rfl)) (qf 0 rfl)
theorem k9 (hm:qQ F w1 w2=some w3) :
    PureM qFj 158 [qFd l1 w1 t1,.func (.func 161) #[] #[qFe t2]] [⟨t2,58,[qFd l2 w2 t3]⟩] [Ro eS63 63 2 (qFd l1 w1 t1) w1] [Sl eS63 2 (qFd l2 w2 t3) w2] (qFb×Nat) (fun g=>qFd g.1 w3 g.2) (fun _=>[⟨t2,58,[qFd l2 w2 t3]⟩]) (fun g=>[Ro eS63 63 2 (qFd g.1 w3 g.2) w3]):=by
 refine qdJ func158 rfl ntmps158 rfl hm (fun w=>?_)
 refine au [96] ?_
 intro g8
 refine au [81,48,73] ?_
 refine qcs (encs:=(fun (p:Int×Int)=>[.agg #[qFc p.1,qFc p.2]])) (y:=(fun (x46:List (Int×Int)) ((x55,x56):Int×Int)=>zp F x46 x55 x56)) (lb:=[qFe t2]) (fun (x46:List (Int×Int)) ((a44,c45):qFb×Nat)=>[⟨g8,58,[qFd a44 x46 c45]⟩]) (fun (x46:List (Int×Int)) ((a44,c45):qFb×Nat)=>[Ro eS63 63 2 (qFd a44 x46 c45) x46]) (fun (_:Empty) (_:Unit)=>[]) (fun (_:Empty) (_:Unit)=>[]) (fun _=>.skip) w1 (l1,t1) rfl EnC.e (fun _=>rfl) rfl (.cons 1 rfl .nil) (.cons 0 rfl .nil) (.cons 0 rfl .nil) (.consF 0 rfl .nil) (fun z hz _ _ _ hY=>qc6 F hY w1 (l1,t1) t2 w2 l2 t3 z hz) ?_ ?_ ?_
 rintro rc1 L1 D1 x46 ⟨a44,c45⟩ ⟨x55,x56⟩ z w M _
 try dsimp only
 refine qdN [(0,qFd l1 w1 t1),(1,.func (.func 161) #[] #[qFe t2]),(2,qFe g8),(4,.slice none 0 0),(6,.func (.func 161) #[] #[qFe t2]),(7,.agg #[qFc x55,qFc x56])] (qn rfl (qn rfl (qn rfl (qn rfl (qn rfl (qn rfl qd5)))))) ?_
 refine au [3,24,6] ?_
 intro g57
 refine au [85,33,3,14,3,25,12,24,9] ?_
 refine qbr (vs:=[.agg #[qFc x55,qFc x56]]) (ys:=([(x55,x56)]:List (Int×Int))) qeu (by decide) rfl underlying58 tf63 rfl rfl rfl rfl rfl (by decide) (fun a58 c59=>zD 1 qeu rfl underlying58 tf63 rfl rfl rfl rfl rfl (.inl ⟨0,_,rfl⟩) rfl rfl (fun x60 e60 a61 c62=>?_))
 refine au [25,5,115] ?_
 exact vB (rc:=rc1) rfl (.cons 2 rfl .nil) rfl (a61,c62) (.cons 2 rfl (.cons 0 rfl (.cons 1 rfl .nil))) (.cons 0 rfl .nil)
 rintro x46 _ ⟨a44,c45⟩ D1
 refine au [39,63,45,25,15,49] ?_
 exact jE [D1] (a44,c45) (.inl rfl) rfl (.cons 0 rfl .nil) (res1 rfl rfl) (fun h=>by subst h;rfl) (fun h=>by subst h;exact (.cons 0 rfl .nil)) (fun h=>by subst h;exact (.cons 0 rfl .nil))
 intro t;exact t.elim
theorem ve (hm:qO F w1=some w2) :
    PureM qFj 113 [.func (.func 161) #[] #[qFe t1]] [⟨t1,58,[qFd l1 w1 t2]⟩] [] [Sl eS63 2 (qFd l1 w1 t2) w1] (qFb×Nat) (fun g=>qFd g.1 w2 g.2) (fun _=>[⟨t1,58,[qFd l1 w1 t2]⟩]) (fun g=>[Ro eS63 63 2 (qFd g.1 w2 g.2) w2]):=by
 refine pureMA func113 ntmps113 hm fun _=>?_
 refine au [64,59,33,4] ?_
 refine qu k9 ?_
 rintro x5 e5 ⟨a6,c7⟩
 refine au [49] ?_
 exact qM (a6,c7)
theorem qai (hm:zO F w1=some w2) :
    PureM qFj 160 [qFd l1 w1 t1,.func (.func 118) #[] #[]] [] [Ro eS63 63 2 (qFd l1 w1 t1) w1] [] Unit (fun _=>.tuple #[]) (fun _=>[]) (fun _=>[Ro eS63 63 2 (qFd l1 w2 t1) w2]) :=
  qqB (cb:=[]) (BC:=[]) (Φ:=[]) qeu (by decide) (qr0 _) (fun p cap w=>Tryz.sortn160 p cap _ w) (fun a b z h=>(toM1 (qms (inst:=dm1) F a.1 a.2 b.1 b.2 z h))) hm
theorem kU (hm:qm F w1=some w2) :
    PureM qFj 116 [.func (.func 161) #[] #[qFe t1],.func (.func 118) #[] #[]] [⟨t1,58,[qFd l1 w1 t2]⟩] [] [Sl eS63 2 (qFd l1 w1 t2) w1] (qFb×Nat) (fun g=>qFd g.1 w2 g.2) (fun _=>[⟨t1,58,[qFd l1 w1 t2]⟩]) (fun g=>[Ro eS63 63 2 (qFd g.1 w2 g.2) w2]):=by
 refine pureMA func116 ntmps116 hm fun _=>?_
 refine au [56,59] ?_
 refine qu ve ?_
 rintro x5 e5 ⟨a6,c7⟩
 refine au [59,4] ?_
 refine qu qai ?_
 intro x8 e8 _
 refine au [26,11] ?_
 intro h9
 replace h9:=of_decide_eq_true h9
 refine qt (d:=5) (v:=qFd a6 x8 c7) rfl (by simp only[qFd,h9] <;> rfl) (qt (d:=7) (v:=qFd a6 x8 c7) rfl (by simp only[qFd,h9] <;> rfl) (qt (d:=8) (v:=qFd a6 x8 c7) rfl (by simp only[qFd,h9] <;> rfl) ?_))
 refine au [98,49] ?_
 exact qM (a6,c7)
theorem qq9 {r:(List (qFa)×Int)}(hm:qg7 F i1 w1=some r) :
    Pure qFj 83 [qFc i1,qFd l1 w1 t1] [Sl eS63 2 (qFd l1 w1 t1) w1] (qFb×Nat×List (qFb×Nat)) (fun g=>.tuple #[.agg #[qFd g.1 r.1 g.2.1],qFc r.2]) (fun g=>[RoN eN56 rN56 56 1 (qFd g.1 r.1 g.2.1) r.1 g.2.2 []]) (fun _=>[]):=by
 refine pureA func83 ntmps83 hm fun _=>?_
 refine au [56,24,6] ?_
 intro g5
 refine au [81,14,48,24,3,4] ?_
 refine zT 3 14 17 [0,1,4] (decide (100<i1)) ?_ ?_ ?_
 exact az [62,61]
 exact az [4,106]
 refine aw [5,0,2,10] ?_ ?_
 refine au [45] ?_
 refine qJ [.slice none 0 0] ?_
 exact az [21,49,50,27,0,29,14]
 refine aw [1,3,4,24,4,25,2,5,0,2,10] ?_ ?_
 refine au [45] ?_
 refine qJ [.slice none 0 0] ?_
 exact az [21,49,50,27,0,29,14]
 refine au [11,63,45] ?_
 refine qqQ (k0:=.i64) (k1:=.i64) rfl rfl (fun g10=>?_)
 refine au [47] ?_
 refine qj [0,1,4] [1] [] [0] (fun ((_,_):Unit×Unit)=>([],[],[],[],qgx F i1 w1)) ?_ ?_
 refine au [48,84] ?_
 refine qr [0,1,4,6,25,26] [1] [] [0] (fun (((x0,x3),_):(Int×List (Int×Int))×Unit)=>([(27,qFc x0)],[(blkO g10 (mapO .i64 .i64 x3))],[],[])) ((0:Int),([]:List (Int×Int))) () ?_
 intro k2
 rintro ⟨⟨x0,x3⟩,_⟩
 refine aw [39,1,3,24,3,0,2,1,10] ?_ ?_
 refine au [83,45,31,8] ?_
 intro x4 e0 b0 o0
 refine au [29,3,24,6] ?_
 intro g0
 refine au [21,46,1,45,78,24,3,4] ?_
 refine zT 5 34 39 [0,1,4,6,25,26,27,8] (decide (i1≤x4.1)) ?_ ?_ ?_
 exact az [69,61]
 exact az [78,4,26,4,60]
 refine au [4] ?_
 refine zT 4 40 44 [0,1,4,6,25,26,27,8] (decide (x4.2<0)) ?_ ?_ ?_
 exact az [62,7,61]
 exact az [78,24,3,60]
 refine au [4] ?_
 refine zT 5 45 50 [0,1,4,6,25,26,27,8] (decide (i1≤x4.2)) ?_ ?_ ?_
 exact az [69,61]
 exact az [78,4,26,4,60]
 refine aw [0,2,10] ?_ ?_
 refine au [45] ?_
 refine qJ [.slice none 0 0] ?_
 exact az [25,5,58,90,50,27,0,33,6]
 refine au [82,48,24,9] ?_
 refine qqP (i:=2) (p:=(x4.1,x4.2)) rfl underlying155 se63 tf156 rfl rfl rfl rfl ?_
 refine au [4,79,24,6] ?_
 intro g1
 refine aw [21,5,0,2,1,3,4,0,2,10] ?_ ?_
 refine au [45] ?_
 refine qJ [.slice none 0 0] ?_
 refine au [27,9,58,90,50,27,0] ?_
 exact kq (none,0,([]:List (qFb×Nat))) 2
 refine au [57,3,4,25,10,33,7] ?_
 refine qsi (i:=3) (p:=(x4.1,x4.2)) rfl underlying155 se63 rfl rfl rfl rfl (fun x5 e1=>?_)
 refine au [0,95] ?_
 exact ql ((iadd .i64 x0 1,x5),())
 exact az [71,26,7]
 rintro ⟨_,_⟩
 refine au [91,4,33,8] ?_
 intro x6 e2 g2
 refine au [33,9] ?_
 rintro x7 e3 ⟨a0,c0⟩
 refine au [33,10] ?_
 rintro x8 e4 ⟨a1,c1⟩
 refine au [25,5,49] ?_
 exact kq (a1,c1) 1
theorem qjY (F g1:Nat)(x2:List (qFa))(a3:qFb)(c4:(Nat×List (qFb×Nat)))(x5 x6 x7:Int)(x8:qFa)(a9:qFb)(c10:Nat)(x11:qFa)(r:(Int×List (qFa)))(hm:qcj F x2 x5 x6 x7 x8 x11=some r) :
    PureM qFj 59 [qFe g1] [⟨g1,85,[qFd a3 x2 c4.1,qFc x5,qFc x6,qFc x7,qFd a9 x8 c10,.string (bstr x11)]⟩] [RoN eN56 rN56 56 1 (qFd a3 x2 c4.1) x2 c4.2 []] [qFf a9 x8 c10] (qFb×Nat×List (qFb×Nat)) (fun _=>qFc r.1) (fun g=>[⟨g1,85,[qFd g.1 r.2 g.2.1,qFc x5,qFc x6,qFc x7,qFd a9 x8 c10,.string (bstr x11)]⟩]) (fun g=>[RoN eN56 rN56 56 1 (qFd g.1 r.2 g.2.1) r.2 g.2.2 []]):=by
 refine pureMA func59 ntmps59 hm fun _=>?_
 refine au [64,59,55,9,24,9] ?_
 refine qd qnM ?_
 rintro x12 e12 ⟨a13,c14⟩
 refine au [4,79,5,81,29,15] ?_
 intro x31 e31 b32 o33 h34
 replace h34:a9=some ⟨b32,o33,none⟩:=h34
 refine au [28,4] ?_
 intro x35 e35 b36 o37 h38
 replace h38:a9=some ⟨b36,o37,none⟩:=h38
 refine kC mixed [31] _ _ .nil (qh 0 rfl (qh 1 rfl (qh 2 rfl (qgV 0 rfl qg)))) 33 rfl ?_
 refine au [92,15,3,15,4,15,5] ?_
 refine qz 6 (qFd a3 x2 c4.1) [[31]] rfl rfl rfl (kW (j:=3) rfl tf22 rfl rfl (fun _=>rfl) rfl) ?_
 refine au [28,3,7,6,8,6,9,6,10,15,11] ?_
 refine qz 12 (qFd a9 x8 c10) [[31]] rfl rfl rfl (kW (j:=3) rfl tf56 rfl rfl (fun _=>rfl) rfl) (vl 13 h34 e31 ?_)
 refine qz 14 (qFc x31) [[31]] rfl rfl rfl (qS (j:=1) rfl tf3 rfl rfl (fun _=>rfl) rfl) ?_
 refine au [6,15,6,16,15,17] ?_
 refine qz 18 (qFd a9 x8 c10) [[31]] rfl rfl rfl (kW (j:=3) rfl tf56 rfl rfl (fun _=>rfl) rfl) (vl 19 h38 e35 ?_)
 refine qz 20 (qFc x35) [[31]] rfl rfl rfl (qS (j:=0) rfl tf3 rfl rfl (fun _=>rfl) rfl) (qb 21 (.agg #[qFc x31,qFc x35]) rfl rfl rfl (qdO (cells:=[qFc x31,qFc x35]) st63 rfl (by kernel_rfl)) ?_)
 refine au [13,22] ?_
 refine qbr (vs:=[.agg #[qFc x31,qFc x35]]) (ys:=([(x31,x35)]:List (Int×Int))) qeu (by decide) rfl underlying58 tf63 rfl rfl rfl rfl rfl (by decide) (fun a39 c40=>?_)
 refine au [0,31,9,13,23] ?_
 refine zD 1 qeu rfl underlying58 tf63 rfl rfl rfl rfl rfl (.inl ⟨0,_,rfl⟩) rfl rfl (fun x41 e41 a42 c43=>?_)
 refine au [0,31,9,13,24] ?_
 refine qd qq9 ?_
 rintro x44 e44 ⟨a45,c46⟩
 refine au [0,31,9,6,25,6,26,6,27,6,28,15,29,15,30,13,31,85] ?_
 refine kZ 31 rfl (by kernel_rfl) .nil ?_
 refine au [6,32,54,2,48,49] ?_
 exact qM (a45,c46)
theorem qhD (F:Nat)(x1:Int)(g2 g3:Nat)(x4:List (qFa))(a5:qFb)(c6:(Nat×List (qFb×Nat)))(x7 x8 x9:Int)(x10:qFa)(a11:qFb)(c12:Nat)(x13:qFa)(r:Bool)(hm:vg F x1 x4 x7 x8 x9 x10 x13=some r) :
    PureM qFj 120 [qFc x1,qFe g2] [⟨g2,83,[qFe g3]⟩,⟨g3,85,[qFd a5 x4 c6.1,qFc x7,qFc x8,qFc x9,qFd a11 x10 c12,.string (bstr x13)]⟩] [] [SlN eN56 iN56 1 (qFd a5 x4 c6.1) x4 c6.2,qFf a11 x10 c12] Unit (fun _=>.bool r) (fun _=>[⟨g2,83,[qFe g3]⟩,⟨g3,85,[qFd a5 x4 c6.1,qFc x7,qFc x8,qFc x9,qFd a11 x10 c12,.string (bstr x13)]⟩]) (fun _=>[]):=by
 refine pureMA func120 ntmps120 hm fun _=>?_
 exact az [56,59,18,55,9,99,24,4,26,4,86]
theorem qah (hm:zg F m1 p1 i1 i2 i3 m2 m3=some i4) :
    PureM qFj 129 [qFd l1 m1 t1,.func (.func 120) #[] #[qFe t2]] [⟨t2,83,[qFe t3]⟩,⟨t3,85,[qFd l2 p1 t4,qFc i1,qFc i2,qFc i3,qFd l3 m2 t5,.string (bstr m3)]⟩] [] [qFf l1 m1 t1,SlN eN56 iN56 1 (qFd l2 p1 t4) p1 n1,qFf l3 m2 t5] Unit (fun _=>qFc i4) (fun _=>[⟨t2,83,[qFe t3]⟩,⟨t3,85,[qFd l2 p1 t4,qFc i1,qFc i2,qFc i3,qFd l3 m2 t5,.string (bstr m3)]⟩]) (fun _=>[]):=by
 refine pureMA func129 ntmps129 hm fun _=>?_
 refine au [56,47] ?_
 refine qj [] [0,1] [] [1,2] (fun ((_,_):Unit×Unit)=>([],[],[],[],kV F)) ?_ ?_
 refine au [48,84] ?_
 refine qr [0,1,7] [0,0] [] [0,1,2] (fun ((x66,_):Int×Unit)=>([(8,qFc x66)],[],[],[])) (0:Int) () ?_
 intro k79
 rintro ⟨x66,_⟩
 refine aw [39,1,3,24,3,0,2,1,10] ?_ ?_
 refine au [83,48,59,89,26,2] ?_
 intro x86 e86 b87 o88
 refine au [25,3] ?_
 refine qfX EnC.e rfl rfl rfl rfl (fun x89 e89=>qhD F x86 t2 t3 p1 l2 (t4,n1) i1 i2 i3 m2 l3 t5 m3 x89 e89) (.cons 0 rfl (.cons 0 rfl .nil)) .nil (.consF 2 rfl (.consF 3 rfl .nil)) (fun x89 e89 _=>?_)
 refine aw [0,2,10] ?_ ?_
 exact az [48,49,90,50,25,14]
 refine au [11,95] ?_
 exact ql (iadd .i64 x66 1,())
 exact az [71,26,7]
 rintro ⟨_,_⟩
 exact az [117,86]
theorem jl (hm:qZ F m1 p1 i1 i2 i3 m2 m3=some d1) :
    PureM qFj 119 [qFd l1 m1 t1,.func (.func 120) #[] #[qFe t2]] [⟨t2,83,[qFe t3]⟩,⟨t3,85,[qFd l2 p1 t4,qFc i1,qFc i2,qFc i3,qFd l3 m2 t5,.string (bstr m3)]⟩] [] [qFf l1 m1 t1,SlN eN56 iN56 1 (qFd l2 p1 t4) p1 n1,qFf l3 m2 t5] Unit (fun _=>.bool d1) (fun _=>[⟨t2,83,[qFe t3]⟩,⟨t3,85,[qFd l2 p1 t4,qFc i1,qFc i2,qFc i3,qFd l3 m2 t5,.string (bstr m3)]⟩]) (fun _=>[]):=by
 refine pureMA func119 ntmps119 hm fun _=>?_
 refine au [56,59,4] ?_
 refine qu qah ?_
 intro x16 e16 _
 exact az [26,4,86]
theorem qiB (hm:ka F p1 i1 i2 i3 m1 m2 m3=some d1) :
    PureM qFj 84 [qFe t1,qFd l3 m3 t4] [⟨t1,85,[qFd l1 p1 t2,qFc i1,qFc i2,qFc i3,qFd l2 m1 t3,.string (bstr m2)]⟩] [] [SlN eN56 iN56 1 (qFd l1 p1 t2) p1 n1,qFf l2 m1 t3,qFf l3 m3 t4] Unit (fun _=>.bool d1) (fun _=>[⟨t1,85,[qFd l1 p1 t2,qFc i1,qFc i2,qFc i3,qFd l2 m1 t3,.string (bstr m2)]⟩]) (fun _=>[]):=by
 refine pureMA func84 ntmps84 hm fun _=>?_
 refine au [96] ?_
 intro g15
 refine au [59,27,5] ?_
 refine qu jl ?_
 intro x16 e16 _
 exact az [25,7,86]
theorem qgP {x4 x5:Int}(hm:vw F m1 x4 x5=some m2) :
    PureM qFj 86 [qFd l1 m1 t1,qFc x4,qFc x5] [] [qFg l1 m1 t1] [] (qFb×Nat) (fun g=>qFd g.1 m2 g.2) (fun _=>[]) (fun g=>[qFg g.1 m2 g.2]):=by
  unfold vw at hm
  split at hm
  · cases hm
    exact qob Tryz.slices_Delete_int_arr (by assumption)
  · simp at hm
theorem qi7 (F g1:Nat)(x2:List (qFa))(a3:qFb)(c4:(Nat×List (qFb×Nat)))(x5 x6 x7:Int)(x8:qFa)(a9:qFb)(c10:Nat)(x11:qFa)(r:(Int×List (qFa)))(hm:vq F x2 x5 x6 x7 x8 x11=some r) :
    PureM qFj 60 [qFe g1] [⟨g1,85,[qFd a3 x2 c4.1,qFc x5,qFc x6,qFc x7,qFd a9 x8 c10,.string (bstr x11)]⟩] [RoN eN56 rN56 56 1 (qFd a3 x2 c4.1) x2 c4.2 []] [qFf a9 x8 c10] (qFb×Nat×List (qFb×Nat)) (fun _=>qFc r.1) (fun g=>[⟨g1,85,[qFd g.1 r.2 g.2.1,qFc x5,qFc x6,qFc x7,qFd a9 x8 c10,.string (bstr x11)]⟩]) (fun g=>[RoN eN56 rN56 56 1 (qFd g.1 r.2 g.2.1) r.2 g.2.2 []]):=by
 refine pureMA func60 ntmps60 hm fun _=>?_
 refine au [64,81,48,4,112,30,10] ?_
 intro x14 e14 _
 refine aw [25,7,0,2,10] ?_ ?_
 refine au [45,58] ?_
 exact qM (a3,c4)
 refine au [82,29,15] ?_
 intro x25 e25 b26 o27 h28
 replace h28:a9=some ⟨b26,o27,none⟩:=h28
 refine au [29,12] ?_
 intro x29 e29 g30 h31 g32 h33
 replace h33:a3=some ⟨g32,0,none⟩:=h33
 have h34:=zP (k:=x2.length) (c:=c4.1) h33
 refine qfn (i:=0) rfl h31 (qCB) (kC mixed [] _ _ (.cons 0 rfl .nil) (qh 0 rfl (qh 1 rfl (qF 1 rfl (qL qq h31 h33) qg))) 15 rfl ?_)
 refine au [70,15,2,15,3,15,4,24,15,5,67,15,8,24,15,9] ?_
 refine vl 10 h28 e25 ?_
 refine qz 11 (qFc x25) [] rfl rfl rfl (qS (j:=0) rfl tf3 rfl rfl (fun _=>rfl) rfl) (j5 12 h33 e29 ?_)
 refine qz 13 (qFd g30.1 x29 g30.2) [] rfl rfl rfl (qS (j:=2) rfl tf56 rfl rfl (fun _=>rfl) rfl) ?_
 refine au [6,14,54,2,48,4,112,29,1] ?_
 intro x35 e35 b36 o37
 refine au [25,3,31,5] ?_
 intro x38 e38 _
 refine aw [5,0,2,1,1,3,4,24,3,0,2,10] ?_ ?_
 refine au [1] ?_
 refine qiY (rin:=rN56) (p:=(x29,g30)) (i:=0) (k:=0) (.cons 0 rfl .nil) rfl rfl h31 ?_
 refine au [3,58] ?_
 exact qM (a3,c4)
 refine au [82] ?_
 refine quZ e25 ?_
 refine au [29,4] ?_
 intro x57 e57 b58 o59 h60
 obtain rfl:x25=x57:=Option.some.inj (e25.symm.trans e57)
 replace h60:a9=some ⟨b58,o59,none⟩:=h60
 refine au [29,2] ?_
 intro x61 e61 g62 h63 g64 h65
 replace h65:a3=some ⟨g64,0,none⟩:=h65
 have h66:=zP (k:=x2.length) (c:=c4.1) h65
 refine qK [] [0] [0,1,2,3] 19 ?_
 refine au [70,15,2,15,3,15,4,24,15,5,67,15,8,24,15,9] ?_
 refine vl 10 h60 e25 ?_
 refine qz 11 (qFc x25) [] rfl rfl rfl (qS (j:=0) rfl tf3 rfl rfl (fun _=>rfl) rfl) ?_
 refine au [100,6,14,6,15,13,16] ?_
 refine qu qgP ?_
 rintro x67 e67 ⟨a68,c69⟩
 refine au [0,33,11] ?_
 refine j5 17 h65 e61 ?_
 refine au [13,18] ?_
 refine qag (j:=1) (kh:=0) (y':=x67) (q':=(a68,c69)) qq rfl rfl rfl tf56 rfl (zP h65) rfl (qw e61).2.1 rfl (.cons 0 rfl .nil) (fun x70 e70 h71 g73=>?_)
 have h72:x70.length=x2.length:=by rw[← e70,qCw]
 refine zu 17 h71 ?_
 refine zu 41 h71 ?_
 refine q7 (i:=0) (cs':=[qFd a3 x70 c4.1,qFc x5,qFc x6,qFc x7,qFd a9 x8 c10,.string (bstr x11)]) rfl (by simp only[qFd,h71] <;> rfl) ?_
 refine au [0] ?_
 refine qc (.cons 0 (by simp only[qFd,h72] <;> rfl) .nil) (qh 0 rfl (qh 1 rfl (qh 2 rfl (qh 3 rfl qg)))) ?_
 refine au [54,2,45,49] ?_
 exact qM (a3,c4.1,g73)
theorem qj0 (F g1:Nat)(x2:List (qFa))(a3:qFb)(c4:(Nat×List (qFb×Nat)))(x5 x6 x7:Int)(x8:qFa)(a9:qFb)(c10:Nat)(x11:qFa)(r:(Int×Int×Int×Int))(hm:qcl F x2 x5 x6 x7 x8 x11=some r) :
    PureM qFj 61 [qFe g1] [⟨g1,85,[qFd a3 x2 c4.1,qFc x5,qFc x6,qFc x7,qFd a9 x8 c10,.string (bstr x11)]⟩] [] [SlN eN56 iN56 1 (qFd a3 x2 c4.1) x2 c4.2,qFf a9 x8 c10] Unit (fun _=>qFc r.1) (fun _=>[⟨g1,85,[qFd a3 x2 c4.1,qFc r.2.1,qFc r.2.2.1,qFc r.2.2.2,qFd a9 x8 c10,.string (bstr x11)]⟩]) (fun _=>[]):=by
 refine pureMA func61 ntmps61 hm fun _=>?_
 refine au [64,81,28,4] ?_
 intro x24 e24 b25 o26 h27
 replace h27:a9=some ⟨b25,o26,none⟩:=h27
 refine au [29,4] ?_
 intro x28 e28 b29 o30 h31
 replace h31:a9=some ⟨b29,o30,none⟩:=h31
 refine qfW (j:=3) (qD .i64) (by decide) rfl ?_
 intro x32 e32 b33 o34 h35
 replace h35:a9=some ⟨b33,o34,none⟩:=h35
 refine kC mixed [23] _ _ .nil (qh 0 rfl (qh 1 rfl (qh 2 rfl (qh 3 rfl (qh 4 rfl (qgV 0 rfl qg)))))) 24 rfl ?_
 refine au [92,15,3] ?_
 refine qz 4 (qFd a9 x8 c10) [[23]] rfl rfl rfl (kW (j:=5) rfl tf56 rfl rfl (fun _=>rfl) rfl) (vl 5 h27 e24 ?_)
 refine qz 6 (qFc x24) [[23]] rfl rfl rfl (qS (j:=2) rfl tf3 rfl rfl (fun _=>rfl) rfl) ?_
 refine au [6,7,6,8,15,9] ?_
 refine qz 10 (qFd a9 x8 c10) [[23]] rfl rfl rfl (kW (j:=5) rfl tf56 rfl rfl (fun _=>rfl) rfl) (vl 11 h31 e28 ?_)
 refine qz 12 (qFc x28) [[23]] rfl rfl rfl (qS (j:=1) rfl tf3 rfl rfl (fun _=>rfl) rfl) ?_
 refine au [6,13,6,14,15,15] ?_
 refine qz 16 (qFd a9 x8 c10) [[23]] rfl rfl rfl (kW (j:=5) rfl tf56 rfl rfl (fun _=>rfl) rfl) (vl 17 h35 e32 ?_)
 refine qz 18 (qFc x32) [[23]] rfl rfl rfl (qS (j:=0) rfl tf3 rfl rfl (fun _=>rfl) rfl) (qb 19 (.agg #[qFc x24,qFc x28,qFc x32]) rfl rfl rfl (qdO (cells:=[qFc x24,qFc x28,qFc x32]) st26 rfl (by kernel_rfl)) ?_)
 refine au [6,20,15,21,15,22,13,23,85] ?_
 refine kZ 23 rfl (by kernel_rfl) .nil ?_
 refine au [54,2,48,55,9,24,9,29,10] ?_
 intro x36 e36 _
 exact az [86]
end Go.Proofs.YthibchijlpflmaaGreatDoor
