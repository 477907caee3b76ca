/- Each Go function of this seat computes what its model says, part 7. -/
import Derived.Test.YthibchijlpflmaaGreatDoorWalks6
namespace Go.Proofs.YthibchijlpflmaaGreatDoor
open Go SX
open Go.Proofs.Tryz
open Go.Proofs.Tryz renaming prog→qD3
set_option maxHeartbeats 4000000 in
theorem qoS (F:Nat)(x1:List (qDU))(a2:qDV)(c3:(Nat×List (qDV×Nat)))(x4 x5 x6 x7 x8 x9 x10 x11:Int)(r:Bool)(hm:qhm F x1 x4 x5 x6 x7 x8 x9 x10 x11=some r) :
    qD4 9 [.agg #[qDX a2 x1 c3.1,qDW x4,qDW x5,qDW x6],qDW x7,qDW x8,qDW x9,qDW x10,qDW x11] [SlN eN56 iN56 1 (qDX a2 x1 c3.1) x1 c3.2,GF] (.bool r):=by
 refine pureA func9 ntmps9 hm fun _=>?_
 refine qwI ?_
 refine au [113] ?_
 intro g12
 refine au [129,48] ?_
 refine qd ql2 ?_
 intro x15 e15 _
 refine aw [25,12,0,2,13] ?_ ?_
 exact az [48,96]
 refine au [135,54,143] ?_
 refine q6 3 28 31 [1,2,3,4,5,6] (decide (99<x7)) ?_ ?_ ?_
 exact az [79,71]
 exact az [4,109]
 refine au [4] ?_
 refine q6 3 32 35 [1,2,3,4,5,6] (decide (x8<0)) ?_ ?_ ?_
 exact az [79,71]
 exact az [4,24,6,70]
 refine au [4] ?_
 refine q6 3 36 39 [1,2,3,4,5,6] (decide (999<x8)) ?_ ?_ ?_
 exact az [79,71]
 exact az [4,109]
 refine au [4] ?_
 refine q6 3 40 43 [1,2,3,4,5,6] (decide (x9<0)) ?_ ?_ ?_
 exact az [79,71]
 exact az [4,24,6,70]
 refine au [4] ?_
 refine q6 3 44 47 [1,2,3,4,5,6] (decide (99<x9)) ?_ ?_ ?_
 exact az [79,71]
 exact az [4,109]
 refine au [4] ?_
 refine q6 3 48 51 [1,2,3,4,5,6] (decide (x10<0)) ?_ ?_ ?_
 exact az [79,71]
 exact az [4,24,6,70]
 refine au [4] ?_
 refine q6 3 52 55 [1,2,3,4,5,6] (decide (200<x10)) ?_ ?_ ?_
 exact az [79,71]
 exact az [4,109]
 refine au [4] ?_
 refine q6 3 56 59 [1,2,3,4,5,6] (decide (x11<0)) ?_ ?_ ?_
 exact az [79,71]
 exact az [4,24,6,70]
 refine au [4] ?_
 refine q6 3 60 63 [1,2,3,4,5,6] (decide (200<x11)) ?_ ?_ ?_
 exact az [79,71]
 exact az [4,109]
 refine aw [0,2,13] ?_ ?_
 exact az [48,96]
 refine au [69] ?_
 refine qj [4,5,6] [0] [] [0,1] (fun (((x0,x2,x3,x12,x13,x14),g0,a0,c0):(qDU×Int×List (qDU)×Int×Int×Int)×Nat×qDV×Nat×List (qDV×Nat))=>([(13,qDY g0),(14,.string (bstr x0)),(15,qDW x2)],[⟨g0,28,[qDX a0 x3 c0.1,qDW x12,qDW x13,qDW x14]⟩],[RoN eN56 rN56 56 1 (qDX a0 x3 c0.1) x3 c0.2 []],[],qcL F x1 x4 x5 x6 x10 x11 x0 x2 x3 x12 x13 x14)) ?_ ?_
 refine au [34,13] ?_
 refine qA 0 (.agg #[.slice a2 x1.length c3.1,qDW x4,qDW x5,qDW x6]) rfl rfl rfl (qy (i:=0) rfl tf28 rfl rfl (by simp) rfl) ?_
 refine au [3,1,3,5,3,9] ?_
 refine qg 2 17 rfl rfl (by kernel_rfl) rfl rfl ?_ ?_
 refine au [24,11] ?_
 intro x16 e0 _
 refine au [77] ?_
 refine vD 3 6 17 rfl rfl rfl (by kernel_rfl) rfl rfl rfl ?_ ?_ ?_
 refine au [10] ?_
 intro x17 e1
 refine au [77] ?_
 refine vD 4 6 17 rfl rfl rfl (by kernel_rfl) rfl rfl rfl ?_ ?_ ?_
 refine au [10] ?_
 intro x18 e2
 refine au [77] ?_
 refine qg 6 17 rfl rfl (by kernel_rfl) rfl rfl ?_ ?_
 refine au [24,11] ?_
 intro x19 e3 _
 refine au [77] ?_
 refine vD 7 10 17 rfl rfl rfl (by kernel_rfl) rfl rfl rfl ?_ ?_ ?_
 · as_aux_lemma =>
   refine au [10] ?_
   intro x20 e4
   refine au [77] ?_
   refine vD 8 10 17 rfl rfl rfl (by kernel_rfl) rfl rfl rfl ?_ ?_ ?_
   refine au [10] ?_
   intro x21 e5
   refine au [77] ?_
   refine qg 10 17 rfl rfl (by kernel_rfl) rfl rfl ?_ ?_
   refine au [24,11] ?_
   intro x22 e6 _
   refine au [77] ?_
   refine qg 11 17 rfl rfl (by kernel_rfl) rfl rfl ?_ ?_
   refine au [10] ?_
   intro x23 e7
   refine au [77] ?_
   refine qg 12 17 rfl rfl (by kernel_rfl) rfl rfl ?_ ?_
   refine au [24,3] ?_
   rintro x24 e8 ⟨a1,c1⟩
   refine au [77,63,7,17,19] ?_
   intro g1
   refine au [55,67] ?_
   exact qa ((x24.2.2.2.2.1,x24.2.2.2.2.2,x24.1,x24.2.1,x24.2.2.1,x24.2.2.2.1),g1,a1,c1)
   refine au [19] ?_
   intro g2
   refine au [74] ?_
   rintro x25 e9 ⟨a3,c2⟩
   refine au [73] ?_
   exact qa ((x25.2.2.2.2.1,x25.2.2.2.2.2,x25.1,x25.2.1,x25.2.2.1,x25.2.2.2.1),g2,a3,c2)
   refine au [19] ?_
   intro g3
   refine au [78] ?_
   intro x26 e10
   refine au [74] ?_
   rintro x27 e11 ⟨a4,c4⟩
   refine au [73] ?_
   exact qa ((x27.2.2.2.2.1,x27.2.2.2.2.2,x27.1,x27.2.1,x27.2.2.1,x27.2.2.2.1),g3,a4,c4)
   refine au [19] ?_
   intro g4
   refine au [55,98] ?_
   intro x28 e12 _
   refine au [78] ?_
   intro x29 e13
   refine au [74] ?_
   rintro x30 e14 ⟨a5,c5⟩
   refine au [73] ?_
   exact qa ((x30.2.2.2.2.1,x30.2.2.2.2.2,x30.1,x30.2.1,x30.2.2.1,x30.2.2.2.1),g4,a5,c5)
   refine qC pull1 ?_
   refine au [24,11] ?_
   intro x31 e16 _
   refine au [77] ?_
   refine qg 8 17 rfl rfl (by kernel_rfl) rfl rfl ?_ ?_
   refine au [10] ?_
   intro x32 e17
   refine au [77] ?_
   refine qg 11 17 rfl rfl (by kernel_rfl) rfl rfl ?_ ?_
   refine au [10] ?_
   intro x33 e18
   refine au [77] ?_
   refine qg 12 17 rfl rfl (by kernel_rfl) rfl rfl ?_ ?_
   refine au [24,3] ?_
   rintro x34 e19 ⟨a6,c6⟩
   refine au [77,63,7,17,19] ?_
   intro g5
   refine au [55,67] ?_
   exact qa ((x34.2.2.2.2.1,x34.2.2.2.2.2,x34.1,x34.2.1,x34.2.2.1,x34.2.2.2.1),g5,a6,c6)
   refine au [19] ?_
   intro g6
   refine au [74] ?_
   rintro x35 e20 ⟨a7,c7⟩
   refine au [73] ?_
   exact qa ((x35.2.2.2.2.1,x35.2.2.2.2.2,x35.1,x35.2.1,x35.2.2.1,x35.2.2.2.1),g6,a7,c7)
   refine au [19] ?_
   intro g7
   refine au [78] ?_
   intro x36 e21
   refine au [74] ?_
   rintro x37 e22 ⟨a8,c8⟩
   refine au [73] ?_
   exact qa ((x37.2.2.2.2.1,x37.2.2.2.2.2,x37.1,x37.2.1,x37.2.2.1,x37.2.2.2.1),g7,a8,c8)
   refine au [19] ?_
   intro g8
   refine au [95] ?_
   intro x38 e23
   refine au [78] ?_
   intro x39 e24
   refine au [74] ?_
   rintro x40 e25 ⟨a9,c9⟩
   refine au [73] ?_
   exact qa ((x40.2.2.2.2.1,x40.2.2.2.2.2,x40.1,x40.2.1,x40.2.2.1,x40.2.2.2.1),g8,a9,c9)
   refine au [19] ?_
   intro g9
   refine au [55] ?_
   refine qg 8 10 rfl rfl (by kernel_rfl) rfl rfl ?_ ?_
   refine au [10] ?_
   intro x41 e26
   refine au [55,98] ?_
   intro x42 e27 _
   refine au [78] ?_
   intro x43 e28
   refine au [74] ?_
   rintro x44 e29 ⟨a10,c10⟩
   refine au [73] ?_
   exact qa ((x44.2.2.2.2.1,x44.2.2.2.2.2,x44.1,x44.2.1,x44.2.2.1,x44.2.2.2.1),g9,a10,c10)
   refine qC pull1 ?_
   refine au [24,11] ?_
   intro x45 e30 _
   refine au [95] ?_
   intro x46 e31
   refine au [78] ?_
   intro x47 e32
   refine au [74] ?_
   rintro x48 e33 ⟨a11,c11⟩
   refine au [73] ?_
   exact qa ((x48.2.2.2.2.1,x48.2.2.2.2.2,x48.1,x48.2.1,x48.2.2.1,x48.2.2.2.1),g9,a11,c11)
 · as_aux_lemma =>
   refine qC pull2 ?_
   refine au [24,11] ?_
   intro x49 e34 _
   refine au [77] ?_
   refine qg 7 17 rfl rfl (by kernel_rfl) rfl rfl ?_ ?_
   refine au [10] ?_
   intro x50 e35
   refine au [77] ?_
   refine qg 8 17 rfl rfl (by kernel_rfl) rfl rfl ?_ ?_
   refine au [10] ?_
   intro x51 e36
   refine au [77] ?_
   refine qg 11 17 rfl rfl (by kernel_rfl) rfl rfl ?_ ?_
   refine au [10] ?_
   intro x52 e37
   refine au [77] ?_
   refine qg 12 17 rfl rfl (by kernel_rfl) rfl rfl ?_ ?_
   refine au [24,3] ?_
   rintro x53 e38 ⟨a12,c12⟩
   refine au [77,63,7,17,19] ?_
   intro g10
   refine au [55,67] ?_
   exact qa ((x53.2.2.2.2.1,x53.2.2.2.2.2,x53.1,x53.2.1,x53.2.2.1,x53.2.2.2.1),g10,a12,c12)
   refine au [19] ?_
   intro g11
   refine au [74] ?_
   rintro x54 e39 ⟨a13,c13⟩
   refine au [73] ?_
   exact qa ((x54.2.2.2.2.1,x54.2.2.2.2.2,x54.1,x54.2.1,x54.2.2.1,x54.2.2.2.1),g11,a13,c13)
   refine au [19] ?_
   intro g13
   refine au [78] ?_
   intro x55 e40
   refine au [74] ?_
   rintro x56 e41 ⟨a14,c14⟩
   refine au [73] ?_
   exact qa ((x56.2.2.2.2.1,x56.2.2.2.2.2,x56.1,x56.2.1,x56.2.2.1,x56.2.2.2.1),g13,a14,c14)
   refine au [19] ?_
   intro g14
   refine au [95] ?_
   intro x57 e42
   refine au [78] ?_
   intro x58 e43
   refine au [74] ?_
   rintro x59 e44 ⟨a15,c15⟩
   refine au [73] ?_
   exact qa ((x59.2.2.2.2.1,x59.2.2.2.2.2,x59.1,x59.2.1,x59.2.2.1,x59.2.2.2.1),g14,a15,c15)
   refine au [19] ?_
   intro g15
   refine au [103] ?_
   intro x60 e45
   refine au [95] ?_
   intro x61 e46
   refine au [78] ?_
   intro x62 e47
   refine au [74] ?_
   rintro x63 e48 ⟨a16,c16⟩
   refine au [73] ?_
   exact qa ((x63.2.2.2.2.1,x63.2.2.2.2.2,x63.1,x63.2.1,x63.2.2.1,x63.2.2.2.1),g15,a16,c16)
 · as_aux_lemma =>
   refine au [19] ?_
   intro g16
   refine au [55] ?_
   refine qg 7 10 rfl rfl (by kernel_rfl) rfl rfl ?_ ?_
   refine au [10] ?_
   intro x64 e49
   refine au [55] ?_
   refine qg 8 10 rfl rfl (by kernel_rfl) rfl rfl ?_ ?_
   refine au [10] ?_
   intro x65 e50
   refine au [55,98] ?_
   intro x66 e51 _
   refine au [78] ?_
   intro x67 e52
   refine au [74] ?_
   rintro x68 e53 ⟨a17,c17⟩
   refine au [73] ?_
   exact qa ((x68.2.2.2.2.1,x68.2.2.2.2.2,x68.1,x68.2.1,x68.2.2.1,x68.2.2.2.1),g16,a17,c17)
   refine qC pull1 ?_
   refine au [24,11] ?_
   intro x69 e54 _
   refine au [95] ?_
   intro x70 e55
   refine au [78] ?_
   intro x71 e56
   refine au [74] ?_
   rintro x72 e57 ⟨a18,c18⟩
   refine au [73] ?_
   exact qa ((x72.2.2.2.2.1,x72.2.2.2.2.2,x72.1,x72.2.1,x72.2.2.1,x72.2.2.2.1),g16,a18,c18)
   refine qC pull2 ?_
   refine au [24,11] ?_
   intro x73 e58 _
   refine au [103] ?_
   intro x74 e59
   refine au [95] ?_
   intro x75 e60
   refine au [78] ?_
   intro x76 e61
   refine au [74] ?_
   rintro x77 e62 ⟨a19,c19⟩
   refine au [73] ?_
   exact qa ((x77.2.2.2.2.1,x77.2.2.2.2.2,x77.1,x77.2.1,x77.2.2.1,x77.2.2.2.1),g16,a19,c19)
 · as_aux_lemma =>
   refine au [19] ?_
   intro g17
   refine au [55,7,6,24,11] ?_
   intro x78 e63 _
   refine au [55] ?_
   refine qg 7 10 rfl rfl (by kernel_rfl) rfl rfl ?_ ?_
   refine au [10] ?_
   intro x79 e64
   refine au [55] ?_
   refine qg 8 10 rfl rfl (by kernel_rfl) rfl rfl ?_ ?_
   refine au [10] ?_
   intro x80 e65
   refine au [55,98] ?_
   intro x81 e66 _
   refine au [78] ?_
   intro x82 e67
   refine au [74] ?_
   rintro x83 e68 ⟨a20,c20⟩
   refine au [73] ?_
   exact qa ((x83.2.2.2.2.1,x83.2.2.2.2.2,x83.1,x83.2.1,x83.2.2.1,x83.2.2.2.1),g17,a20,c20)
   refine qC pull1 ?_
   refine au [24,11] ?_
   intro x84 e69 _
   refine au [95] ?_
   intro x85 e70
   refine au [78] ?_
   intro x86 e71
   refine au [74] ?_
   rintro x87 e72 ⟨a21,c21⟩
   refine au [73] ?_
   exact qa ((x87.2.2.2.2.1,x87.2.2.2.2.2,x87.1,x87.2.1,x87.2.2.1,x87.2.2.2.1),g17,a21,c21)
   refine qC pull2 ?_
   refine au [24,11] ?_
   intro x88 e73 _
   refine au [103] ?_
   intro x89 e74
   refine au [95] ?_
   intro x90 e75
   refine au [78] ?_
   intro x91 e76
   refine au [74] ?_
   rintro x92 e77 ⟨a22,c22⟩
   refine au [73] ?_
   exact qa ((x92.2.2.2.2.1,x92.2.2.2.2.2,x92.1,x92.2.1,x92.2.2.1,x92.2.2.2.1),g17,a22,c22)
 refine qC pull1 ?_
 refine au [24,11] ?_
 intro x93 e78 _
 refine au [77] ?_
 refine vD 4 10 17 rfl rfl rfl (by kernel_rfl) rfl rfl rfl ?_ ?_ ?_
 refine au [10] ?_
 intro x94 e79
 refine au [77] ?_
 refine vD 7 10 17 rfl rfl rfl (by kernel_rfl) rfl rfl rfl ?_ ?_ ?_
 · as_aux_lemma =>
   refine au [10] ?_
   intro x95 e80
   refine au [77] ?_
   refine vD 8 10 17 rfl rfl rfl (by kernel_rfl) rfl rfl rfl ?_ ?_ ?_
   refine au [10] ?_
   intro x96 e81
   refine au [77] ?_
   refine qg 10 17 rfl rfl (by kernel_rfl) rfl rfl ?_ ?_
   refine au [24,11] ?_
   intro x97 e82 _
   refine au [77] ?_
   refine qg 11 17 rfl rfl (by kernel_rfl) rfl rfl ?_ ?_
   refine au [10] ?_
   intro x98 e83
   refine au [77] ?_
   refine qg 12 17 rfl rfl (by kernel_rfl) rfl rfl ?_ ?_
   refine au [24,3] ?_
   rintro x99 e84 ⟨a23,c23⟩
   refine au [77,63,7,17,19] ?_
   intro g18
   refine au [55,67] ?_
   exact qa ((x99.2.2.2.2.1,x99.2.2.2.2.2,x99.1,x99.2.1,x99.2.2.1,x99.2.2.2.1),g18,a23,c23)
   refine au [19] ?_
   intro g19
   refine au [74] ?_
   rintro x100 e85 ⟨a24,c24⟩
   refine au [73] ?_
   exact qa ((x100.2.2.2.2.1,x100.2.2.2.2.2,x100.1,x100.2.1,x100.2.2.1,x100.2.2.2.1),g19,a24,c24)
   refine au [19] ?_
   intro g20
   refine au [78] ?_
   intro x101 e86
   refine au [74] ?_
   rintro x102 e87 ⟨a25,c25⟩
   refine au [73] ?_
   exact qa ((x102.2.2.2.2.1,x102.2.2.2.2.2,x102.1,x102.2.1,x102.2.2.1,x102.2.2.2.1),g20,a25,c25)
   refine au [19] ?_
   intro g21
   refine au [55,98] ?_
   intro x103 e88 _
   refine au [78] ?_
   intro x104 e89
   refine au [74] ?_
   rintro x105 e90 ⟨a26,c26⟩
   refine au [73] ?_
   exact qa ((x105.2.2.2.2.1,x105.2.2.2.2.2,x105.1,x105.2.1,x105.2.2.1,x105.2.2.2.1),g21,a26,c26)
   refine qC pull1 ?_
   refine au [24,11] ?_
   intro x106 e91 _
   refine au [77] ?_
   refine qg 8 17 rfl rfl (by kernel_rfl) rfl rfl ?_ ?_
   refine au [10] ?_
   intro x107 e92
   refine au [77] ?_
   refine qg 11 17 rfl rfl (by kernel_rfl) rfl rfl ?_ ?_
   refine au [10] ?_
   intro x108 e93
   refine au [77] ?_
   refine qg 12 17 rfl rfl (by kernel_rfl) rfl rfl ?_ ?_
   refine au [24,3] ?_
   rintro x109 e94 ⟨a27,c27⟩
   refine au [77,63,7,17,19] ?_
   intro g22
   refine au [55,67] ?_
   exact qa ((x109.2.2.2.2.1,x109.2.2.2.2.2,x109.1,x109.2.1,x109.2.2.1,x109.2.2.2.1),g22,a27,c27)
   refine au [19] ?_
   intro g23
   refine au [74] ?_
   rintro x110 e95 ⟨a28,c28⟩
   refine au [73] ?_
   exact qa ((x110.2.2.2.2.1,x110.2.2.2.2.2,x110.1,x110.2.1,x110.2.2.1,x110.2.2.2.1),g23,a28,c28)
   refine au [19] ?_
   intro g24
   refine au [78] ?_
   intro x111 e96
   refine au [74] ?_
   rintro x112 e97 ⟨a29,c29⟩
   refine au [73] ?_
   exact qa ((x112.2.2.2.2.1,x112.2.2.2.2.2,x112.1,x112.2.1,x112.2.2.1,x112.2.2.2.1),g24,a29,c29)
   refine au [19] ?_
   intro g25
   refine au [95] ?_
   intro x113 e98
   refine au [78] ?_
   intro x114 e99
   refine au [74] ?_
   rintro x115 e100 ⟨a30,c30⟩
   refine au [73] ?_
   exact qa ((x115.2.2.2.2.1,x115.2.2.2.2.2,x115.1,x115.2.1,x115.2.2.1,x115.2.2.2.1),g25,a30,c30)
   refine au [19] ?_
   intro g26
   refine au [55] ?_
   refine qg 8 10 rfl rfl (by kernel_rfl) rfl rfl ?_ ?_
   refine au [10] ?_
   intro x116 e101
   refine au [55,98] ?_
   intro x117 e102 _
   refine au [78] ?_
   intro x118 e103
   refine au [74] ?_
   rintro x119 e104 ⟨a31,c31⟩
   refine au [73] ?_
   exact qa ((x119.2.2.2.2.1,x119.2.2.2.2.2,x119.1,x119.2.1,x119.2.2.1,x119.2.2.2.1),g26,a31,c31)
   refine qC pull1 ?_
   refine au [24,11] ?_
   intro x120 e105 _
   refine au [95] ?_
   intro x121 e106
   refine au [78] ?_
   intro x122 e107
   refine au [74] ?_
   rintro x123 e108 ⟨a32,c32⟩
   refine au [73] ?_
   exact qa ((x123.2.2.2.2.1,x123.2.2.2.2.2,x123.1,x123.2.1,x123.2.2.1,x123.2.2.2.1),g26,a32,c32)
 · as_aux_lemma =>
   refine qC pull2 ?_
   refine au [24,11] ?_
   intro x124 e109 _
   refine au [77] ?_
   refine qg 7 17 rfl rfl (by kernel_rfl) rfl rfl ?_ ?_
   refine au [10] ?_
   intro x125 e110
   refine au [77] ?_
   refine qg 8 17 rfl rfl (by kernel_rfl) rfl rfl ?_ ?_
   refine au [10] ?_
   intro x126 e111
   refine au [77] ?_
   refine qg 11 17 rfl rfl (by kernel_rfl) rfl rfl ?_ ?_
   refine au [10] ?_
   intro x127 e112
   refine au [77] ?_
   refine qg 12 17 rfl rfl (by kernel_rfl) rfl rfl ?_ ?_
   refine au [24,3] ?_
   rintro x128 e113 ⟨a33,c33⟩
   refine au [77,63,7,17,19] ?_
   intro g27
   refine au [55,67] ?_
   exact qa ((x128.2.2.2.2.1,x128.2.2.2.2.2,x128.1,x128.2.1,x128.2.2.1,x128.2.2.2.1),g27,a33,c33)
   refine au [19] ?_
   intro g28
   refine au [74] ?_
   rintro x129 e114 ⟨a34,c34⟩
   refine au [73] ?_
   exact qa ((x129.2.2.2.2.1,x129.2.2.2.2.2,x129.1,x129.2.1,x129.2.2.1,x129.2.2.2.1),g28,a34,c34)
   refine au [19] ?_
   intro g29
   refine au [78] ?_
   intro x130 e115
   refine au [74] ?_
   rintro x131 e116 ⟨a35,c35⟩
   refine au [73] ?_
   exact qa ((x131.2.2.2.2.1,x131.2.2.2.2.2,x131.1,x131.2.1,x131.2.2.1,x131.2.2.2.1),g29,a35,c35)
   refine au [19] ?_
   intro g30
   refine au [95] ?_
   intro x132 e117
   refine au [78] ?_
   intro x133 e118
   refine au [74] ?_
   rintro x134 e119 ⟨a36,c36⟩
   refine au [73] ?_
   exact qa ((x134.2.2.2.2.1,x134.2.2.2.2.2,x134.1,x134.2.1,x134.2.2.1,x134.2.2.2.1),g30,a36,c36)
   refine au [19] ?_
   intro g31
   refine au [103] ?_
   intro x135 e120
   refine au [95] ?_
   intro x136 e121
   refine au [78] ?_
   intro x137 e122
   refine au [74] ?_
   rintro x138 e123 ⟨a37,c37⟩
   refine au [73] ?_
   exact qa ((x138.2.2.2.2.1,x138.2.2.2.2.2,x138.1,x138.2.1,x138.2.2.1,x138.2.2.2.1),g31,a37,c37)
 · as_aux_lemma =>
   refine au [19] ?_
   intro g32
   refine au [55] ?_
   refine qg 7 10 rfl rfl (by kernel_rfl) rfl rfl ?_ ?_
   refine au [10] ?_
   intro x139 e124
   refine au [55] ?_
   refine qg 8 10 rfl rfl (by kernel_rfl) rfl rfl ?_ ?_
   refine au [10] ?_
   intro x140 e125
   refine au [55,98] ?_
   intro x141 e126 _
   refine au [78] ?_
   intro x142 e127
   refine au [74] ?_
   rintro x143 e128 ⟨a38,c38⟩
   refine au [73] ?_
   exact qa ((x143.2.2.2.2.1,x143.2.2.2.2.2,x143.1,x143.2.1,x143.2.2.1,x143.2.2.2.1),g32,a38,c38)
   refine qC pull1 ?_
   refine au [24,11] ?_
   intro x144 e129 _
   refine au [95] ?_
   intro x145 e130
   refine au [78] ?_
   intro x146 e131
   refine au [74] ?_
   rintro x147 e132 ⟨a39,c39⟩
   refine au [73] ?_
   exact qa ((x147.2.2.2.2.1,x147.2.2.2.2.2,x147.1,x147.2.1,x147.2.2.1,x147.2.2.2.1),g32,a39,c39)
   refine qC pull2 ?_
   refine au [24,11] ?_
   intro x148 e133 _
   refine au [103] ?_
   intro x149 e134
   refine au [95] ?_
   intro x150 e135
   refine au [78] ?_
   intro x151 e136
   refine au [74] ?_
   rintro x152 e137 ⟨a40,c40⟩
   refine au [73] ?_
   exact qa ((x152.2.2.2.2.1,x152.2.2.2.2.2,x152.1,x152.2.1,x152.2.2.1,x152.2.2.2.1),g32,a40,c40)
 · as_aux_lemma =>
   refine qC pull3 ?_
   refine au [24,11] ?_
   intro x153 e138 _
   refine au [77] ?_
   refine qg 4 17 rfl rfl (by kernel_rfl) rfl rfl ?_ ?_
   refine au [10] ?_
   intro x154 e139
   refine au [77] ?_
   refine qg 7 17 rfl rfl (by kernel_rfl) rfl rfl ?_ ?_
   refine au [10] ?_
   intro x155 e140
   refine au [77] ?_
   refine qg 8 17 rfl rfl (by kernel_rfl) rfl rfl ?_ ?_
   refine au [10] ?_
   intro x156 e141
   refine au [77] ?_
   refine qg 11 17 rfl rfl (by kernel_rfl) rfl rfl ?_ ?_
   refine au [10] ?_
   intro x157 e142
   refine au [77] ?_
   refine qg 12 17 rfl rfl (by kernel_rfl) rfl rfl ?_ ?_
   refine au [24,3] ?_
   rintro x158 e143 ⟨a41,c41⟩
   refine au [77,63,7,17,19] ?_
   intro g33
   refine au [55,67] ?_
   exact qa ((x158.2.2.2.2.1,x158.2.2.2.2.2,x158.1,x158.2.1,x158.2.2.1,x158.2.2.2.1),g33,a41,c41)
   refine au [19] ?_
   intro g34
   refine au [74] ?_
   rintro x159 e144 ⟨a42,c42⟩
   refine au [73] ?_
   exact qa ((x159.2.2.2.2.1,x159.2.2.2.2.2,x159.1,x159.2.1,x159.2.2.1,x159.2.2.2.1),g34,a42,c42)
   refine au [19] ?_
   intro g35
   refine au [78] ?_
   intro x160 e145
   refine au [74] ?_
   rintro x161 e146 ⟨a43,c43⟩
   refine au [73] ?_
   exact qa ((x161.2.2.2.2.1,x161.2.2.2.2.2,x161.1,x161.2.1,x161.2.2.1,x161.2.2.2.1),g35,a43,c43)
   refine au [19] ?_
   intro g36
   refine au [95] ?_
   intro x162 e147
   refine au [78] ?_
   intro x163 e148
   refine au [74] ?_
   rintro x164 e149 ⟨a44,c44⟩
   refine au [73] ?_
   exact qa ((x164.2.2.2.2.1,x164.2.2.2.2.2,x164.1,x164.2.1,x164.2.2.1,x164.2.2.2.1),g36,a44,c44)
   refine au [19] ?_
   intro g37
   refine au [103] ?_
   intro x165 e150
   refine au [95] ?_
   intro x166 e151
   refine au [78] ?_
   intro x167 e152
   refine au [74] ?_
   rintro x168 e153 ⟨a45,c45⟩
   refine au [73] ?_
   exact qa ((x168.2.2.2.2.1,x168.2.2.2.2.2,x168.1,x168.2.1,x168.2.2.1,x168.2.2.2.1),g37,a45,c45)
   refine au [19] ?_
   intro g38
   refine au [55,7,4,10] ?_
   intro x169 e154
   refine au [103] ?_
   intro x170 e155
   refine au [95] ?_
   intro x171 e156
   refine au [78] ?_
   intro x172 e157
   refine au [74] ?_
   rintro x173 e158 ⟨a46,c46⟩
   refine au [73] ?_
   exact qa ((x173.2.2.2.2.1,x173.2.2.2.2.2,x173.1,x173.2.1,x173.2.2.1,x173.2.2.2.1),g38,a46,c46)
 · as_aux_lemma =>
   refine au [19] ?_
   intro g39
   refine au [55] ?_
   refine qg 4 10 rfl rfl (by kernel_rfl) rfl rfl ?_ ?_
   refine au [10] ?_
   intro x174 e159
   refine au [55] ?_
   refine qg 7 10 rfl rfl (by kernel_rfl) rfl rfl ?_ ?_
   refine au [10] ?_
   intro x175 e160
   refine au [55] ?_
   refine qg 8 10 rfl rfl (by kernel_rfl) rfl rfl ?_ ?_
   refine au [10] ?_
   intro x176 e161
   refine au [55,98] ?_
   intro x177 e162 _
   refine au [78] ?_
   intro x178 e163
   refine au [74] ?_
   rintro x179 e164 ⟨a47,c47⟩
   refine au [73] ?_
   exact qa ((x179.2.2.2.2.1,x179.2.2.2.2.2,x179.1,x179.2.1,x179.2.2.1,x179.2.2.2.1),g39,a47,c47)
   refine qC pull1 ?_
   refine au [24,11] ?_
   intro x180 e165 _
   refine au [95] ?_
   intro x181 e166
   refine au [78] ?_
   intro x182 e167
   refine au [74] ?_
   rintro x183 e168 ⟨a48,c48⟩
   refine au [73] ?_
   exact qa ((x183.2.2.2.2.1,x183.2.2.2.2.2,x183.1,x183.2.1,x183.2.2.1,x183.2.2.2.1),g39,a48,c48)
   refine qC pull2 ?_
   refine au [24,11] ?_
   intro x184 e169 _
   refine au [103] ?_
   intro x185 e170
   refine au [95] ?_
   intro x186 e171
   refine au [78] ?_
   intro x187 e172
   refine au [74] ?_
   rintro x188 e173 ⟨a49,c49⟩
   refine au [73] ?_
   exact qa ((x188.2.2.2.2.1,x188.2.2.2.2.2,x188.1,x188.2.1,x188.2.2.1,x188.2.2.2.1),g39,a49,c49)
   refine qC pull3 ?_
   refine au [24,11] ?_
   intro x189 e174 _
   refine au [55,7,4,10] ?_
   intro x190 e175
   refine au [103] ?_
   intro x191 e176
   refine au [95] ?_
   intro x192 e177
   refine au [78] ?_
   intro x193 e178
   refine au [74] ?_
   rintro x194 e179 ⟨a50,c50⟩
   refine au [73] ?_
   exact qa ((x194.2.2.2.2.1,x194.2.2.2.2.2,x194.1,x194.2.1,x194.2.2.1,x194.2.2.2.1),g39,a50,c50)
 · as_aux_lemma =>
   refine au [19] ?_
   intro g40
   refine au [55] ?_
   refine qg 4 6 rfl rfl (by kernel_rfl) rfl rfl ?_ ?_
   refine au [10] ?_
   intro x195 e180
   refine au [55,7,6,24,11] ?_
   intro x196 e181 _
   refine au [55] ?_
   refine qg 7 10 rfl rfl (by kernel_rfl) rfl rfl ?_ ?_
   refine au [10] ?_
   intro x197 e182
   refine au [55] ?_
   refine qg 8 10 rfl rfl (by kernel_rfl) rfl rfl ?_ ?_
   refine au [10] ?_
   intro x198 e183
   refine au [55,98] ?_
   intro x199 e184 _
   refine au [78] ?_
   intro x200 e185
   refine au [74] ?_
   rintro x201 e186 ⟨a51,c51⟩
   refine au [73] ?_
   exact qa ((x201.2.2.2.2.1,x201.2.2.2.2.2,x201.1,x201.2.1,x201.2.2.1,x201.2.2.2.1),g40,a51,c51)
   refine qC pull1 ?_
   refine au [24,11] ?_
   intro x202 e187 _
   refine au [95] ?_
   intro x203 e188
   refine au [78] ?_
   intro x204 e189
   refine au [74] ?_
   rintro x205 e190 ⟨a52,c52⟩
   refine au [73] ?_
   exact qa ((x205.2.2.2.2.1,x205.2.2.2.2.2,x205.1,x205.2.1,x205.2.2.1,x205.2.2.2.1),g40,a52,c52)
   refine qC pull2 ?_
   refine au [24,11] ?_
   intro x206 e191 _
   refine au [103] ?_
   intro x207 e192
   refine au [95] ?_
   intro x208 e193
   refine au [78] ?_
   intro x209 e194
   refine au [74] ?_
   rintro x210 e195 ⟨a53,c53⟩
   refine au [73] ?_
   exact qa ((x210.2.2.2.2.1,x210.2.2.2.2.2,x210.1,x210.2.1,x210.2.2.1,x210.2.2.2.1),g40,a53,c53)
   refine qC pull1 ?_
   refine au [24,11] ?_
   intro x211 e196 _
   refine au [55] ?_
   refine qg 4 10 rfl rfl (by kernel_rfl) rfl rfl ?_ ?_
   refine au [10] ?_
   intro x212 e197
   refine au [55] ?_
   refine qg 7 10 rfl rfl (by kernel_rfl) rfl rfl ?_ ?_
   refine au [10] ?_
   intro x213 e198
   refine au [55] ?_
   refine qg 8 10 rfl rfl (by kernel_rfl) rfl rfl ?_ ?_
   refine au [10] ?_
   intro x214 e199
   refine au [55,98] ?_
   intro x215 e200 _
   refine au [78] ?_
   intro x216 e201
   refine au [74] ?_
   rintro x217 e202 ⟨a54,c54⟩
   refine au [73] ?_
   exact qa ((x217.2.2.2.2.1,x217.2.2.2.2.2,x217.1,x217.2.1,x217.2.2.1,x217.2.2.2.1),g40,a54,c54)
   refine qC pull1 ?_
   refine au [24,11] ?_
   intro x218 e203 _
   refine au [95] ?_
   intro x219 e204
   refine au [78] ?_
   intro x220 e205
   refine au [74] ?_
   rintro x221 e206 ⟨a55,c55⟩
   refine au [73] ?_
   exact qa ((x221.2.2.2.2.1,x221.2.2.2.2.2,x221.1,x221.2.1,x221.2.2.1,x221.2.2.2.1),g40,a55,c55)
   refine qC pull2 ?_
   refine au [24,11] ?_
   intro x222 e207 _
   refine au [103] ?_
   intro x223 e208
   refine au [95] ?_
   intro x224 e209
   refine au [78] ?_
   intro x225 e210
   refine au [74] ?_
   rintro x226 e211 ⟨a56,c56⟩
   refine au [73] ?_
   exact qa ((x226.2.2.2.2.1,x226.2.2.2.2.2,x226.1,x226.2.1,x226.2.2.1,x226.2.2.2.1),g40,a56,c56)
   refine qC pull3 ?_
   refine au [24,11] ?_
   intro x227 e212 _
   refine au [55,7,4,10] ?_
   intro x228 e213
   refine au [103] ?_
   intro x229 e214
   refine au [95] ?_
   intro x230 e215
   refine au [78] ?_
   intro x231 e216
   refine au [74] ?_
   rintro x232 e217 ⟨a57,c57⟩
   refine au [73] ?_
   exact qa ((x232.2.2.2.2.1,x232.2.2.2.2.2,x232.1,x232.2.1,x232.2.2.1,x232.2.2.2.1),g40,a57,c57)
 refine qC pull2 ?_
 refine au [24,11] ?_
 intro x233 e218 _
 refine au [77] ?_
 refine vD 3 10 17 rfl rfl rfl (by kernel_rfl) rfl rfl rfl ?_ ?_ ?_
 refine au [10] ?_
 intro x234 e219
 refine au [77] ?_
 refine vD 4 10 17 rfl rfl rfl (by kernel_rfl) rfl rfl rfl ?_ ?_ ?_
 refine au [10] ?_
 intro x235 e220
 refine au [77] ?_
 refine vD 7 10 17 rfl rfl rfl (by kernel_rfl) rfl rfl rfl ?_ ?_ ?_
 · as_aux_lemma =>
   refine au [10] ?_
   intro x236 e221
   refine au [77] ?_
   refine vD 8 10 17 rfl rfl rfl (by kernel_rfl) rfl rfl rfl ?_ ?_ ?_
   refine au [10] ?_
   intro x237 e222
   refine au [77] ?_
   refine qg 10 17 rfl rfl (by kernel_rfl) rfl rfl ?_ ?_
   refine au [24,11] ?_
   intro x238 e223 _
   refine au [77] ?_
   refine qg 11 17 rfl rfl (by kernel_rfl) rfl rfl ?_ ?_
   refine au [10] ?_
   intro x239 e224
   refine au [77] ?_
   refine qg 12 17 rfl rfl (by kernel_rfl) rfl rfl ?_ ?_
   refine au [24,3] ?_
   rintro x240 e225 ⟨a58,c58⟩
   refine au [77,63,7,17,19] ?_
   intro g41
   refine au [55,67] ?_
   exact qa ((x240.2.2.2.2.1,x240.2.2.2.2.2,x240.1,x240.2.1,x240.2.2.1,x240.2.2.2.1),g41,a58,c58)
   refine au [19] ?_
   intro g42
   refine au [74] ?_
   rintro x241 e226 ⟨a59,c59⟩
   refine au [73] ?_
   exact qa ((x241.2.2.2.2.1,x241.2.2.2.2.2,x241.1,x241.2.1,x241.2.2.1,x241.2.2.2.1),g42,a59,c59)
   refine au [19] ?_
   intro g43
   refine au [78] ?_
   intro x242 e227
   refine au [74] ?_
   rintro x243 e228 ⟨a60,c60⟩
   refine au [73] ?_
   exact qa ((x243.2.2.2.2.1,x243.2.2.2.2.2,x243.1,x243.2.1,x243.2.2.1,x243.2.2.2.1),g43,a60,c60)
   refine au [19] ?_
   intro g44
   refine au [55,98] ?_
   intro x244 e229 _
   refine au [78] ?_
   intro x245 e230
   refine au [74] ?_
   rintro x246 e231 ⟨a61,c61⟩
   refine au [73] ?_
   exact qa ((x246.2.2.2.2.1,x246.2.2.2.2.2,x246.1,x246.2.1,x246.2.2.1,x246.2.2.2.1),g44,a61,c61)
   refine qC pull1 ?_
   refine au [24,11] ?_
   intro x247 e232 _
   refine au [77] ?_
   refine qg 8 17 rfl rfl (by kernel_rfl) rfl rfl ?_ ?_
   refine au [10] ?_
   intro x248 e233
   refine au [77] ?_
   refine qg 11 17 rfl rfl (by kernel_rfl) rfl rfl ?_ ?_
   refine au [10] ?_
   intro x249 e234
   refine au [77] ?_
   refine qg 12 17 rfl rfl (by kernel_rfl) rfl rfl ?_ ?_
   refine au [24,3] ?_
   rintro x250 e235 ⟨a62,c62⟩
   refine au [77,63,7,17,19] ?_
   intro g45
   refine au [55,67] ?_
   exact qa ((x250.2.2.2.2.1,x250.2.2.2.2.2,x250.1,x250.2.1,x250.2.2.1,x250.2.2.2.1),g45,a62,c62)
   refine au [19] ?_
   intro g46
   refine au [74] ?_
   rintro x251 e236 ⟨a63,c63⟩
   refine au [73] ?_
   exact qa ((x251.2.2.2.2.1,x251.2.2.2.2.2,x251.1,x251.2.1,x251.2.2.1,x251.2.2.2.1),g46,a63,c63)
   refine au [19] ?_
   intro g47
   refine au [78] ?_
   intro x252 e237
   refine au [74] ?_
   rintro x253 e238 ⟨a64,c64⟩
   refine au [73] ?_
   exact qa ((x253.2.2.2.2.1,x253.2.2.2.2.2,x253.1,x253.2.1,x253.2.2.1,x253.2.2.2.1),g47,a64,c64)
   refine au [19] ?_
   intro g48
   refine au [95] ?_
   intro x254 e239
   refine au [78] ?_
   intro x255 e240
   refine au [74] ?_
   rintro x256 e241 ⟨a65,c65⟩
   refine au [73] ?_
   exact qa ((x256.2.2.2.2.1,x256.2.2.2.2.2,x256.1,x256.2.1,x256.2.2.1,x256.2.2.2.1),g48,a65,c65)
   refine au [19] ?_
   intro g49
   refine au [55] ?_
   refine qg 8 10 rfl rfl (by kernel_rfl) rfl rfl ?_ ?_
   refine au [10] ?_
   intro x257 e242
   refine au [55,98] ?_
   intro x258 e243 _
   refine au [78] ?_
   intro x259 e244
   refine au [74] ?_
   rintro x260 e245 ⟨a66,c66⟩
   refine au [73] ?_
   exact qa ((x260.2.2.2.2.1,x260.2.2.2.2.2,x260.1,x260.2.1,x260.2.2.1,x260.2.2.2.1),g49,a66,c66)
   refine qC pull1 ?_
   refine au [24,11] ?_
   intro x261 e246 _
   refine au [95] ?_
   intro x262 e247
   refine au [78] ?_
   intro x263 e248
   refine au [74] ?_
   rintro x264 e249 ⟨a67,c67⟩
   refine au [73] ?_
   exact qa ((x264.2.2.2.2.1,x264.2.2.2.2.2,x264.1,x264.2.1,x264.2.2.1,x264.2.2.2.1),g49,a67,c67)
 · as_aux_lemma =>
   refine qC pull2 ?_
   refine au [24,11] ?_
   intro x265 e250 _
   refine au [77] ?_
   refine qg 7 17 rfl rfl (by kernel_rfl) rfl rfl ?_ ?_
   refine au [10] ?_
   intro x266 e251
   refine au [77] ?_
   refine qg 8 17 rfl rfl (by kernel_rfl) rfl rfl ?_ ?_
   refine au [10] ?_
   intro x267 e252
   refine au [77] ?_
   refine qg 11 17 rfl rfl (by kernel_rfl) rfl rfl ?_ ?_
   refine au [10] ?_
   intro x268 e253
   refine au [77] ?_
   refine qg 12 17 rfl rfl (by kernel_rfl) rfl rfl ?_ ?_
   refine au [24,3] ?_
   rintro x269 e254 ⟨a68,c68⟩
   refine au [77,63,7,17,19] ?_
   intro g50
   refine au [55,67] ?_
   exact qa ((x269.2.2.2.2.1,x269.2.2.2.2.2,x269.1,x269.2.1,x269.2.2.1,x269.2.2.2.1),g50,a68,c68)
   refine au [19] ?_
   intro g51
   refine au [74] ?_
   rintro x270 e255 ⟨a69,c69⟩
   refine au [73] ?_
   exact qa ((x270.2.2.2.2.1,x270.2.2.2.2.2,x270.1,x270.2.1,x270.2.2.1,x270.2.2.2.1),g51,a69,c69)
   refine au [19] ?_
   intro g52
   refine au [78] ?_
   intro x271 e256
   refine au [74] ?_
   rintro x272 e257 ⟨a70,c70⟩
   refine au [73] ?_
   exact qa ((x272.2.2.2.2.1,x272.2.2.2.2.2,x272.1,x272.2.1,x272.2.2.1,x272.2.2.2.1),g52,a70,c70)
   refine au [19] ?_
   intro g53
   refine au [95] ?_
   intro x273 e258
   refine au [78] ?_
   intro x274 e259
   refine au [74] ?_
   rintro x275 e260 ⟨a71,c71⟩
   refine au [73] ?_
   exact qa ((x275.2.2.2.2.1,x275.2.2.2.2.2,x275.1,x275.2.1,x275.2.2.1,x275.2.2.2.1),g53,a71,c71)
   refine au [19] ?_
   intro g54
   refine au [103] ?_
   intro x276 e261
   refine au [95] ?_
   intro x277 e262
   refine au [78] ?_
   intro x278 e263
   refine au [74] ?_
   rintro x279 e264 ⟨a72,c72⟩
   refine au [73] ?_
   exact qa ((x279.2.2.2.2.1,x279.2.2.2.2.2,x279.1,x279.2.1,x279.2.2.1,x279.2.2.2.1),g54,a72,c72)
 · as_aux_lemma =>
   refine au [19] ?_
   intro g55
   refine au [55] ?_
   refine qg 7 10 rfl rfl (by kernel_rfl) rfl rfl ?_ ?_
   refine au [10] ?_
   intro x280 e265
   refine au [55] ?_
   refine qg 8 10 rfl rfl (by kernel_rfl) rfl rfl ?_ ?_
   refine au [10] ?_
   intro x281 e266
   refine au [55,98] ?_
   intro x282 e267 _
   refine au [78] ?_
   intro x283 e268
   refine au [74] ?_
   rintro x284 e269 ⟨a73,c73⟩
   refine au [73] ?_
   exact qa ((x284.2.2.2.2.1,x284.2.2.2.2.2,x284.1,x284.2.1,x284.2.2.1,x284.2.2.2.1),g55,a73,c73)
   refine qC pull1 ?_
   refine au [24,11] ?_
   intro x285 e270 _
   refine au [95] ?_
   intro x286 e271
   refine au [78] ?_
   intro x287 e272
   refine au [74] ?_
   rintro x288 e273 ⟨a74,c74⟩
   refine au [73] ?_
   exact qa ((x288.2.2.2.2.1,x288.2.2.2.2.2,x288.1,x288.2.1,x288.2.2.1,x288.2.2.2.1),g55,a74,c74)
   refine qC pull2 ?_
   refine au [24,11] ?_
   intro x289 e274 _
   refine au [103] ?_
   intro x290 e275
   refine au [95] ?_
   intro x291 e276
   refine au [78] ?_
   intro x292 e277
   refine au [74] ?_
   rintro x293 e278 ⟨a75,c75⟩
   refine au [73] ?_
   exact qa ((x293.2.2.2.2.1,x293.2.2.2.2.2,x293.1,x293.2.1,x293.2.2.1,x293.2.2.2.1),g55,a75,c75)
 · as_aux_lemma =>
   refine qC pull3 ?_
   refine au [24,11] ?_
   intro x294 e279 _
   refine au [77] ?_
   refine qg 4 17 rfl rfl (by kernel_rfl) rfl rfl ?_ ?_
   refine au [10] ?_
   intro x295 e280
   refine au [77] ?_
   refine qg 7 17 rfl rfl (by kernel_rfl) rfl rfl ?_ ?_
   refine au [10] ?_
   intro x296 e281
   refine au [77] ?_
   refine qg 8 17 rfl rfl (by kernel_rfl) rfl rfl ?_ ?_
   refine au [10] ?_
   intro x297 e282
   refine au [77] ?_
   refine qg 11 17 rfl rfl (by kernel_rfl) rfl rfl ?_ ?_
   refine au [10] ?_
   intro x298 e283
   refine au [77] ?_
   refine qg 12 17 rfl rfl (by kernel_rfl) rfl rfl ?_ ?_
   refine au [24,3] ?_
   rintro x299 e284 ⟨a76,c76⟩
   refine au [77,63,7,17,19] ?_
   intro g56
   refine au [55,67] ?_
   exact qa ((x299.2.2.2.2.1,x299.2.2.2.2.2,x299.1,x299.2.1,x299.2.2.1,x299.2.2.2.1),g56,a76,c76)
   refine au [19] ?_
   intro g57
   refine au [74] ?_
   rintro x300 e285 ⟨a77,c77⟩
   refine au [73] ?_
   exact qa ((x300.2.2.2.2.1,x300.2.2.2.2.2,x300.1,x300.2.1,x300.2.2.1,x300.2.2.2.1),g57,a77,c77)
   refine au [19] ?_
   intro g58
   refine au [78] ?_
   intro x301 e286
   refine au [74] ?_
   rintro x302 e287 ⟨a78,c78⟩
   refine au [73] ?_
   exact qa ((x302.2.2.2.2.1,x302.2.2.2.2.2,x302.1,x302.2.1,x302.2.2.1,x302.2.2.2.1),g58,a78,c78)
   refine au [19] ?_
   intro g59
   refine au [95] ?_
   intro x303 e288
   refine au [78] ?_
   intro x304 e289
   refine au [74] ?_
   rintro x305 e290 ⟨a79,c79⟩
   refine au [73] ?_
   exact qa ((x305.2.2.2.2.1,x305.2.2.2.2.2,x305.1,x305.2.1,x305.2.2.1,x305.2.2.2.1),g59,a79,c79)
   refine au [19] ?_
   intro g60
   refine au [103] ?_
   intro x306 e291
   refine au [95] ?_
   intro x307 e292
   refine au [78] ?_
   intro x308 e293
   refine au [74] ?_
   rintro x309 e294 ⟨a80,c80⟩
   refine au [73] ?_
   exact qa ((x309.2.2.2.2.1,x309.2.2.2.2.2,x309.1,x309.2.1,x309.2.2.1,x309.2.2.2.1),g60,a80,c80)
   refine au [19] ?_
   intro g61
   refine au [55,7,4,10] ?_
   intro x310 e295
   refine au [103] ?_
   intro x311 e296
   refine au [95] ?_
   intro x312 e297
   refine au [78] ?_
   intro x313 e298
   refine au [74] ?_
   rintro x314 e299 ⟨a81,c81⟩
   refine au [73] ?_
   exact qa ((x314.2.2.2.2.1,x314.2.2.2.2.2,x314.1,x314.2.1,x314.2.2.1,x314.2.2.2.1),g61,a81,c81)
 · as_aux_lemma =>
   refine au [19] ?_
   intro g62
   refine au [55] ?_
   refine qg 4 10 rfl rfl (by kernel_rfl) rfl rfl ?_ ?_
   refine au [10] ?_
   intro x315 e300
   refine au [55] ?_
   refine qg 7 10 rfl rfl (by kernel_rfl) rfl rfl ?_ ?_
   refine au [10] ?_
   intro x316 e301
   refine au [55] ?_
   refine qg 8 10 rfl rfl (by kernel_rfl) rfl rfl ?_ ?_
   refine au [10] ?_
   intro x317 e302
   refine au [55,98] ?_
   intro x318 e303 _
   refine au [78] ?_
   intro x319 e304
   refine au [74] ?_
   rintro x320 e305 ⟨a82,c82⟩
   refine au [73] ?_
   exact qa ((x320.2.2.2.2.1,x320.2.2.2.2.2,x320.1,x320.2.1,x320.2.2.1,x320.2.2.2.1),g62,a82,c82)
   refine qC pull1 ?_
   refine au [24,11] ?_
   intro x321 e306 _
   refine au [95] ?_
   intro x322 e307
   refine au [78] ?_
   intro x323 e308
   refine au [74] ?_
   rintro x324 e309 ⟨a83,c83⟩
   refine au [73] ?_
   exact qa ((x324.2.2.2.2.1,x324.2.2.2.2.2,x324.1,x324.2.1,x324.2.2.1,x324.2.2.2.1),g62,a83,c83)
   refine qC pull2 ?_
   refine au [24,11] ?_
   intro x325 e310 _
   refine au [103] ?_
   intro x326 e311
   refine au [95] ?_
   intro x327 e312
   refine au [78] ?_
   intro x328 e313
   refine au [74] ?_
   rintro x329 e314 ⟨a84,c84⟩
   refine au [73] ?_
   exact qa ((x329.2.2.2.2.1,x329.2.2.2.2.2,x329.1,x329.2.1,x329.2.2.1,x329.2.2.2.1),g62,a84,c84)
   refine qC pull3 ?_
   refine au [24,11] ?_
   intro x330 e315 _
   refine au [55,7,4,10] ?_
   intro x331 e316
   refine au [103] ?_
   intro x332 e317
   refine au [95] ?_
   intro x333 e318
   refine au [78] ?_
   intro x334 e319
   refine au [74] ?_
   rintro x335 e320 ⟨a85,c85⟩
   refine au [73] ?_
   exact qa ((x335.2.2.2.2.1,x335.2.2.2.2.2,x335.1,x335.2.1,x335.2.2.1,x335.2.2.2.1),g62,a85,c85)
 · as_aux_lemma =>
   refine qC pull4 ?_
   refine au [24,11] ?_
   intro x336 e321 _
   refine au [77] ?_
   refine qg 3 17 rfl rfl (by kernel_rfl) rfl rfl ?_ ?_
   refine au [10] ?_
   intro x337 e322
   refine au [77] ?_
   refine qg 4 17 rfl rfl (by kernel_rfl) rfl rfl ?_ ?_
   refine au [10] ?_
   intro x338 e323
   refine au [77] ?_
   refine qg 7 17 rfl rfl (by kernel_rfl) rfl rfl ?_ ?_
   refine au [10] ?_
   intro x339 e324
   refine au [77] ?_
   refine qg 8 17 rfl rfl (by kernel_rfl) rfl rfl ?_ ?_
   refine au [10] ?_
   intro x340 e325
   refine au [77] ?_
   refine qg 11 17 rfl rfl (by kernel_rfl) rfl rfl ?_ ?_
   refine au [10] ?_
   intro x341 e326
   refine au [77] ?_
   refine qg 12 17 rfl rfl (by kernel_rfl) rfl rfl ?_ ?_
   refine au [24,3] ?_
   rintro x342 e327 ⟨a86,c86⟩
   refine au [77,63,7,17,19] ?_
   intro g63
   refine au [55,67] ?_
   exact qa ((x342.2.2.2.2.1,x342.2.2.2.2.2,x342.1,x342.2.1,x342.2.2.1,x342.2.2.2.1),g63,a86,c86)
   refine au [19] ?_
   intro g64
   refine au [74] ?_
   rintro x343 e328 ⟨a87,c87⟩
   refine au [73] ?_
   exact qa ((x343.2.2.2.2.1,x343.2.2.2.2.2,x343.1,x343.2.1,x343.2.2.1,x343.2.2.2.1),g64,a87,c87)
   refine au [19] ?_
   intro g65
   refine au [78] ?_
   intro x344 e329
   refine au [74] ?_
   rintro x345 e330 ⟨a88,c88⟩
   refine au [73] ?_
   exact qa ((x345.2.2.2.2.1,x345.2.2.2.2.2,x345.1,x345.2.1,x345.2.2.1,x345.2.2.2.1),g65,a88,c88)
   refine au [19] ?_
   intro g66
   refine au [95] ?_
   intro x346 e331
   refine au [78] ?_
   intro x347 e332
   refine au [74] ?_
   rintro x348 e333 ⟨a89,c89⟩
   refine au [73] ?_
   exact qa ((x348.2.2.2.2.1,x348.2.2.2.2.2,x348.1,x348.2.1,x348.2.2.1,x348.2.2.2.1),g66,a89,c89)
   refine au [19] ?_
   intro g67
   refine au [103] ?_
   intro x349 e334
   refine au [95] ?_
   intro x350 e335
   refine au [78] ?_
   intro x351 e336
   refine au [74] ?_
   rintro x352 e337 ⟨a90,c90⟩
   refine au [73] ?_
   exact qa ((x352.2.2.2.2.1,x352.2.2.2.2.2,x352.1,x352.2.1,x352.2.2.1,x352.2.2.2.1),g67,a90,c90)
   refine au [19] ?_
   intro g68
   refine au [55,7,4,10] ?_
   intro x353 e338
   refine au [103] ?_
   intro x354 e339
   refine au [95] ?_
   intro x355 e340
   refine au [78] ?_
   intro x356 e341
   refine au [74] ?_
   rintro x357 e342 ⟨a91,c91⟩
   refine au [73] ?_
   exact qa ((x357.2.2.2.2.1,x357.2.2.2.2.2,x357.1,x357.2.1,x357.2.2.1,x357.2.2.2.1),g68,a91,c91)
   refine au [19] ?_
   intro g69
   refine au [55,7,3,10] ?_
   intro x358 e343
   refine au [55,7,4,10] ?_
   intro x359 e344
   refine au [103] ?_
   intro x360 e345
   refine au [95] ?_
   intro x361 e346
   refine au [78] ?_
   intro x362 e347
   refine au [74] ?_
   rintro x363 e348 ⟨a92,c92⟩
   refine au [73] ?_
   exact qa ((x363.2.2.2.2.1,x363.2.2.2.2.2,x363.1,x363.2.1,x363.2.2.1,x363.2.2.2.1),g69,a92,c92)
 · as_aux_lemma =>
   refine au [19] ?_
   intro g70
   refine au [55] ?_
   refine qg 3 10 rfl rfl (by kernel_rfl) rfl rfl ?_ ?_
   refine au [10] ?_
   intro x364 e349
   refine au [55] ?_
   refine qg 4 10 rfl rfl (by kernel_rfl) rfl rfl ?_ ?_
   refine au [10] ?_
   intro x365 e350
   refine au [55] ?_
   refine qg 7 10 rfl rfl (by kernel_rfl) rfl rfl ?_ ?_
   refine au [10] ?_
   intro x366 e351
   refine au [55] ?_
   refine qg 8 10 rfl rfl (by kernel_rfl) rfl rfl ?_ ?_
   refine au [10] ?_
   intro x367 e352
   refine au [55,98] ?_
   intro x368 e353 _
   refine au [78] ?_
   intro x369 e354
   refine au [74] ?_
   rintro x370 e355 ⟨a93,c93⟩
   refine au [73] ?_
   exact qa ((x370.2.2.2.2.1,x370.2.2.2.2.2,x370.1,x370.2.1,x370.2.2.1,x370.2.2.2.1),g70,a93,c93)
   refine qC pull1 ?_
   refine au [24,11] ?_
   intro x371 e356 _
   refine au [95] ?_
   intro x372 e357
   refine au [78] ?_
   intro x373 e358
   refine au [74] ?_
   rintro x374 e359 ⟨a94,c94⟩
   refine au [73] ?_
   exact qa ((x374.2.2.2.2.1,x374.2.2.2.2.2,x374.1,x374.2.1,x374.2.2.1,x374.2.2.2.1),g70,a94,c94)
   refine qC pull2 ?_
   refine au [24,11] ?_
   intro x375 e360 _
   refine au [103] ?_
   intro x376 e361
   refine au [95] ?_
   intro x377 e362
   refine au [78] ?_
   intro x378 e363
   refine au [74] ?_
   rintro x379 e364 ⟨a95,c95⟩
   refine au [73] ?_
   exact qa ((x379.2.2.2.2.1,x379.2.2.2.2.2,x379.1,x379.2.1,x379.2.2.1,x379.2.2.2.1),g70,a95,c95)
   refine qC pull3 ?_
   refine au [24,11] ?_
   intro x380 e365 _
   refine au [55,7,4,10] ?_
   intro x381 e366
   refine au [103] ?_
   intro x382 e367
   refine au [95] ?_
   intro x383 e368
   refine au [78] ?_
   intro x384 e369
   refine au [74] ?_
   rintro x385 e370 ⟨a96,c96⟩
   refine au [73] ?_
   exact qa ((x385.2.2.2.2.1,x385.2.2.2.2.2,x385.1,x385.2.1,x385.2.2.1,x385.2.2.2.1),g70,a96,c96)
   refine qC pull4 ?_
   refine au [24,11] ?_
   intro x386 e371 _
   refine au [55,7,3,10] ?_
   intro x387 e372
   refine au [55,7,4,10] ?_
   intro x388 e373
   refine au [103] ?_
   intro x389 e374
   refine au [95] ?_
   intro x390 e375
   refine au [78] ?_
   intro x391 e376
   refine au [74] ?_
   rintro x392 e377 ⟨a97,c97⟩
   refine au [73] ?_
   exact qa ((x392.2.2.2.2.1,x392.2.2.2.2.2,x392.1,x392.2.1,x392.2.2.1,x392.2.2.2.1),g70,a97,c97)
 refine au [19] ?_
 intro g71
 refine au [55] ?_
 refine qg 3 6 rfl rfl (by kernel_rfl) rfl rfl ?_ ?_
 · as_aux_lemma =>
   refine au [10] ?_
   intro x393 e378
   refine au [55] ?_
   refine qg 4 6 rfl rfl (by kernel_rfl) rfl rfl ?_ ?_
   refine au [10] ?_
   intro x394 e379
   refine au [55,7,6,24,11] ?_
   intro x395 e380 _
   refine au [55] ?_
   refine qg 7 10 rfl rfl (by kernel_rfl) rfl rfl ?_ ?_
   refine au [10] ?_
   intro x396 e381
   refine au [55] ?_
   refine qg 8 10 rfl rfl (by kernel_rfl) rfl rfl ?_ ?_
   refine au [10] ?_
   intro x397 e382
   refine au [55,98] ?_
   intro x398 e383 _
   refine au [78] ?_
   intro x399 e384
   refine au [74] ?_
   rintro x400 e385 ⟨a98,c98⟩
   refine au [73] ?_
   exact qa ((x400.2.2.2.2.1,x400.2.2.2.2.2,x400.1,x400.2.1,x400.2.2.1,x400.2.2.2.1),g71,a98,c98)
   refine qC pull1 ?_
   refine au [24,11] ?_
   intro x401 e386 _
   refine au [95] ?_
   intro x402 e387
   refine au [78] ?_
   intro x403 e388
   refine au [74] ?_
   rintro x404 e389 ⟨a99,c99⟩
   refine au [73] ?_
   exact qa ((x404.2.2.2.2.1,x404.2.2.2.2.2,x404.1,x404.2.1,x404.2.2.1,x404.2.2.2.1),g71,a99,c99)
   refine qC pull2 ?_
   refine au [24,11] ?_
   intro x405 e390 _
   refine au [103] ?_
   intro x406 e391
   refine au [95] ?_
   intro x407 e392
   refine au [78] ?_
   intro x408 e393
   refine au [74] ?_
   rintro x409 e394 ⟨a100,c100⟩
   refine au [73] ?_
   exact qa ((x409.2.2.2.2.1,x409.2.2.2.2.2,x409.1,x409.2.1,x409.2.2.1,x409.2.2.2.1),g71,a100,c100)
   refine qC pull1 ?_
   refine au [24,11] ?_
   intro x410 e395 _
   refine au [55] ?_
   refine qg 4 10 rfl rfl (by kernel_rfl) rfl rfl ?_ ?_
   refine au [10] ?_
   intro x411 e396
   refine au [55] ?_
   refine qg 7 10 rfl rfl (by kernel_rfl) rfl rfl ?_ ?_
   refine au [10] ?_
   intro x412 e397
   refine au [55] ?_
   refine qg 8 10 rfl rfl (by kernel_rfl) rfl rfl ?_ ?_
   refine au [10] ?_
   intro x413 e398
   refine au [55,98] ?_
   intro x414 e399 _
   refine au [78] ?_
   intro x415 e400
   refine au [74] ?_
   rintro x416 e401 ⟨a101,c101⟩
   refine au [73] ?_
   exact qa ((x416.2.2.2.2.1,x416.2.2.2.2.2,x416.1,x416.2.1,x416.2.2.1,x416.2.2.2.1),g71,a101,c101)
   refine qC pull1 ?_
   refine au [24,11] ?_
   intro x417 e402 _
   refine au [95] ?_
   intro x418 e403
   refine au [78] ?_
   intro x419 e404
   refine au [74] ?_
   rintro x420 e405 ⟨a102,c102⟩
   refine au [73] ?_
   exact qa ((x420.2.2.2.2.1,x420.2.2.2.2.2,x420.1,x420.2.1,x420.2.2.1,x420.2.2.2.1),g71,a102,c102)
   refine qC pull2 ?_
   refine au [24,11] ?_
   intro x421 e406 _
   refine au [103] ?_
   intro x422 e407
   refine au [95] ?_
   intro x423 e408
   refine au [78] ?_
   intro x424 e409
   refine au [74] ?_
   rintro x425 e410 ⟨a103,c103⟩
   refine au [73] ?_
   exact qa ((x425.2.2.2.2.1,x425.2.2.2.2.2,x425.1,x425.2.1,x425.2.2.1,x425.2.2.2.1),g71,a103,c103)
   refine qC pull3 ?_
   refine au [24,11] ?_
   intro x426 e411 _
   refine au [55,7,4,10] ?_
   intro x427 e412
   refine au [103] ?_
   intro x428 e413
   refine au [95] ?_
   intro x429 e414
   refine au [78] ?_
   intro x430 e415
   refine au [74] ?_
   rintro x431 e416 ⟨a104,c104⟩
   refine au [73] ?_
   exact qa ((x431.2.2.2.2.1,x431.2.2.2.2.2,x431.1,x431.2.1,x431.2.2.1,x431.2.2.2.1),g71,a104,c104)
 · as_aux_lemma =>
   refine qC pull2 ?_
   refine au [24,11] ?_
   intro x432 e417 _
   refine au [55] ?_
   refine qg 3 10 rfl rfl (by kernel_rfl) rfl rfl ?_ ?_
   refine au [10] ?_
   intro x433 e418
   refine au [55] ?_
   refine qg 4 10 rfl rfl (by kernel_rfl) rfl rfl ?_ ?_
   refine au [10] ?_
   intro x434 e419
   refine au [55] ?_
   refine qg 7 10 rfl rfl (by kernel_rfl) rfl rfl ?_ ?_
   refine au [10] ?_
   intro x435 e420
   refine au [55] ?_
   refine qg 8 10 rfl rfl (by kernel_rfl) rfl rfl ?_ ?_
   refine au [10] ?_
   intro x436 e421
   refine au [55,98] ?_
   intro x437 e422 _
   refine au [78] ?_
   intro x438 e423
   refine au [74] ?_
   rintro x439 e424 ⟨a105,c105⟩
   refine au [73] ?_
   exact qa ((x439.2.2.2.2.1,x439.2.2.2.2.2,x439.1,x439.2.1,x439.2.2.1,x439.2.2.2.1),g71,a105,c105)
   refine qC pull1 ?_
   refine au [24,11] ?_
   intro x440 e425 _
   refine au [95] ?_
   intro x441 e426
   refine au [78] ?_
   intro x442 e427
   refine au [74] ?_
   rintro x443 e428 ⟨a106,c106⟩
   refine au [73] ?_
   exact qa ((x443.2.2.2.2.1,x443.2.2.2.2.2,x443.1,x443.2.1,x443.2.2.1,x443.2.2.2.1),g71,a106,c106)
   refine qC pull2 ?_
   refine au [24,11] ?_
   intro x444 e429 _
   refine au [103] ?_
   intro x445 e430
   refine au [95] ?_
   intro x446 e431
   refine au [78] ?_
   intro x447 e432
   refine au [74] ?_
   rintro x448 e433 ⟨a107,c107⟩
   refine au [73] ?_
   exact qa ((x448.2.2.2.2.1,x448.2.2.2.2.2,x448.1,x448.2.1,x448.2.2.1,x448.2.2.2.1),g71,a107,c107)
   refine qC pull3 ?_
   refine au [24,11] ?_
   intro x449 e434 _
   refine au [55,7,4,10] ?_
   intro x450 e435
   refine au [103] ?_
   intro x451 e436
   refine au [95] ?_
   intro x452 e437
   refine au [78] ?_
   intro x453 e438
   refine au [74] ?_
   rintro x454 e439 ⟨a108,c108⟩
   refine au [73] ?_
   exact qa ((x454.2.2.2.2.1,x454.2.2.2.2.2,x454.1,x454.2.1,x454.2.2.1,x454.2.2.2.1),g71,a108,c108)
   refine qC pull4 ?_
   refine au [24,11] ?_
   intro x455 e440 _
   refine au [55,7,3,10] ?_
   intro x456 e441
   refine au [55,7,4,10] ?_
   intro x457 e442
   refine au [103] ?_
   intro x458 e443
   refine au [95] ?_
   intro x459 e444
   refine au [78] ?_
   intro x460 e445
   refine au [74] ?_
   rintro x461 e446 ⟨a109,c109⟩
   refine au [73] ?_
   exact qa ((x461.2.2.2.2.1,x461.2.2.2.2.2,x461.1,x461.2.1,x461.2.2.1,x461.2.2.2.1),g71,a109,c109)
 refine au [19] ?_
 intro g72
 refine au [55,7,2,24,11] ?_
 intro x462 e447 _
 refine au [55] ?_
 refine qg 3 6 rfl rfl (by kernel_rfl) rfl rfl ?_ ?_
 · as_aux_lemma =>
   refine au [10] ?_
   intro x463 e448
   refine au [55] ?_
   refine qg 4 6 rfl rfl (by kernel_rfl) rfl rfl ?_ ?_
   refine au [10] ?_
   intro x464 e449
   refine au [55,7,6,24,11] ?_
   intro x465 e450 _
   refine au [55] ?_
   refine qg 7 10 rfl rfl (by kernel_rfl) rfl rfl ?_ ?_
   refine au [10] ?_
   intro x466 e451
   refine au [55] ?_
   refine qg 8 10 rfl rfl (by kernel_rfl) rfl rfl ?_ ?_
   refine au [10] ?_
   intro x467 e452
   refine au [55,98] ?_
   intro x468 e453 _
   refine au [78] ?_
   intro x469 e454
   refine au [74] ?_
   rintro x470 e455 ⟨a110,c110⟩
   refine au [73] ?_
   exact qa ((x470.2.2.2.2.1,x470.2.2.2.2.2,x470.1,x470.2.1,x470.2.2.1,x470.2.2.2.1),g72,a110,c110)
   refine qC pull1 ?_
   refine au [24,11] ?_
   intro x471 e456 _
   refine au [95] ?_
   intro x472 e457
   refine au [78] ?_
   intro x473 e458
   refine au [74] ?_
   rintro x474 e459 ⟨a111,c111⟩
   refine au [73] ?_
   exact qa ((x474.2.2.2.2.1,x474.2.2.2.2.2,x474.1,x474.2.1,x474.2.2.1,x474.2.2.2.1),g72,a111,c111)
   refine qC pull2 ?_
   refine au [24,11] ?_
   intro x475 e460 _
   refine au [103] ?_
   intro x476 e461
   refine au [95] ?_
   intro x477 e462
   refine au [78] ?_
   intro x478 e463
   refine au [74] ?_
   rintro x479 e464 ⟨a112,c112⟩
   refine au [73] ?_
   exact qa ((x479.2.2.2.2.1,x479.2.2.2.2.2,x479.1,x479.2.1,x479.2.2.1,x479.2.2.2.1),g72,a112,c112)
   refine qC pull1 ?_
   refine au [24,11] ?_
   intro x480 e465 _
   refine au [55] ?_
   refine qg 4 10 rfl rfl (by kernel_rfl) rfl rfl ?_ ?_
   refine au [10] ?_
   intro x481 e466
   refine au [55] ?_
   refine qg 7 10 rfl rfl (by kernel_rfl) rfl rfl ?_ ?_
   refine au [10] ?_
   intro x482 e467
   refine au [55] ?_
   refine qg 8 10 rfl rfl (by kernel_rfl) rfl rfl ?_ ?_
   refine au [10] ?_
   intro x483 e468
   refine au [55,98] ?_
   intro x484 e469 _
   refine au [78] ?_
   intro x485 e470
   refine au [74] ?_
   rintro x486 e471 ⟨a113,c113⟩
   refine au [73] ?_
   exact qa ((x486.2.2.2.2.1,x486.2.2.2.2.2,x486.1,x486.2.1,x486.2.2.1,x486.2.2.2.1),g72,a113,c113)
   refine qC pull1 ?_
   refine au [24,11] ?_
   intro x487 e472 _
   refine au [95] ?_
   intro x488 e473
   refine au [78] ?_
   intro x489 e474
   refine au [74] ?_
   rintro x490 e475 ⟨a114,c114⟩
   refine au [73] ?_
   exact qa ((x490.2.2.2.2.1,x490.2.2.2.2.2,x490.1,x490.2.1,x490.2.2.1,x490.2.2.2.1),g72,a114,c114)
   refine qC pull2 ?_
   refine au [24,11] ?_
   intro x491 e476 _
   refine au [103] ?_
   intro x492 e477
   refine au [95] ?_
   intro x493 e478
   refine au [78] ?_
   intro x494 e479
   refine au [74] ?_
   rintro x495 e480 ⟨a115,c115⟩
   refine au [73] ?_
   exact qa ((x495.2.2.2.2.1,x495.2.2.2.2.2,x495.1,x495.2.1,x495.2.2.1,x495.2.2.2.1),g72,a115,c115)
   refine qC pull3 ?_
   refine au [24,11] ?_
   intro x496 e481 _
   refine au [55,7,4,10] ?_
   intro x497 e482
   refine au [103] ?_
   intro x498 e483
   refine au [95] ?_
   intro x499 e484
   refine au [78] ?_
   intro x500 e485
   refine au [74] ?_
   rintro x501 e486 ⟨a116,c116⟩
   refine au [73] ?_
   exact qa ((x501.2.2.2.2.1,x501.2.2.2.2.2,x501.1,x501.2.1,x501.2.2.1,x501.2.2.2.1),g72,a116,c116)
 · as_aux_lemma =>
   refine qC pull2 ?_
   refine au [24,11] ?_
   intro x502 e487 _
   refine au [55] ?_
   refine qg 3 10 rfl rfl (by kernel_rfl) rfl rfl ?_ ?_
   refine au [10] ?_
   intro x503 e488
   refine au [55] ?_
   refine qg 4 10 rfl rfl (by kernel_rfl) rfl rfl ?_ ?_
   refine au [10] ?_
   intro x504 e489
   refine au [55] ?_
   refine qg 7 10 rfl rfl (by kernel_rfl) rfl rfl ?_ ?_
   refine au [10] ?_
   intro x505 e490
   refine au [55] ?_
   refine qg 8 10 rfl rfl (by kernel_rfl) rfl rfl ?_ ?_
   refine au [10] ?_
   intro x506 e491
   refine au [55,98] ?_
   intro x507 e492 _
   refine au [78] ?_
   intro x508 e493
   refine au [74] ?_
   rintro x509 e494 ⟨a117,c117⟩
   refine au [73] ?_
   exact qa ((x509.2.2.2.2.1,x509.2.2.2.2.2,x509.1,x509.2.1,x509.2.2.1,x509.2.2.2.1),g72,a117,c117)
   refine qC pull1 ?_
   refine au [24,11] ?_
   intro x510 e495 _
   refine au [95] ?_
   intro x511 e496
   refine au [78] ?_
   intro x512 e497
   refine au [74] ?_
   rintro x513 e498 ⟨a118,c118⟩
   refine au [73] ?_
   exact qa ((x513.2.2.2.2.1,x513.2.2.2.2.2,x513.1,x513.2.1,x513.2.2.1,x513.2.2.2.1),g72,a118,c118)
   refine qC pull2 ?_
   refine au [24,11] ?_
   intro x514 e499 _
   refine au [103] ?_
   intro x515 e500
   refine au [95] ?_
   intro x516 e501
   refine au [78] ?_
   intro x517 e502
   refine au [74] ?_
   rintro x518 e503 ⟨a119,c119⟩
   refine au [73] ?_
   exact qa ((x518.2.2.2.2.1,x518.2.2.2.2.2,x518.1,x518.2.1,x518.2.2.1,x518.2.2.2.1),g72,a119,c119)
   refine qC pull3 ?_
   refine au [24,11] ?_
   intro x519 e504 _
   refine au [55,7,4,10] ?_
   intro x520 e505
   refine au [103] ?_
   intro x521 e506
   refine au [95] ?_
   intro x522 e507
   refine au [78] ?_
   intro x523 e508
   refine au [74] ?_
   rintro x524 e509 ⟨a120,c120⟩
   refine au [73] ?_
   exact qa ((x524.2.2.2.2.1,x524.2.2.2.2.2,x524.1,x524.2.1,x524.2.2.1,x524.2.2.2.1),g72,a120,c120)
   refine qC pull4 ?_
   refine au [24,11] ?_
   intro x525 e510 _
   refine au [55,7,3,10] ?_
   intro x526 e511
   refine au [55,7,4,10] ?_
   intro x527 e512
   refine au [103] ?_
   intro x528 e513
   refine au [95] ?_
   intro x529 e514
   refine au [78] ?_
   intro x530 e515
   refine au [74] ?_
   rintro x531 e516 ⟨a121,c121⟩
   refine au [73] ?_
   exact qa ((x531.2.2.2.2.1,x531.2.2.2.2.2,x531.1,x531.2.1,x531.2.2.1,x531.2.2.2.1),g72,a121,c121)
 · as_aux_lemma =>
   rintro ⟨⟨x0,x2,x3,x12,x13,x14⟩,g0,a0,c0⟩
   refine aw [39,1,1,5,4,25,8,0,2,13] ?_ ?_
   exact az [54,33,0,96]
   refine au [69] ?_
   refine qP (fun ((_,_):Unit×Unit)=>([],[],[],[GF],qhn F)) ?_ ?_
   refine au [54,24,11] ?_
   intro x532 e517 _
   refine au [10] ?_
   intro x533 e518
   refine au [4,24,11] ?_
   intro x534 e519 _
   refine au [10] ?_
   intro x535 e520
   refine au [10] ?_
   intro x536 e521
   refine au [4,24,11] ?_
   intro x537 e522 _
   refine au [10] ?_
   intro x538 e523
   refine au [4,24,11] ?_
   intro x539 e524 _
   refine au [10] ?_
   intro x540 e525
   refine qaj (vs:=[.string (bstr x533),.string (bstr x538),.string (bstr x540),.string (bstr ([111,114,100,101,114]:qDU)),.string (bstr ([116,104,114,101,101,115]:qDU))]) (ys:=([x533,x538,x540,([111,114,100,101,114]:qDU),([116,104,114,101,101,115]:qDU)]:List (qDU))) qF (by decide) rfl underlying39 tf9 rfl rfl rfl rfl rfl (by decide) (fun a122 c122=>?_)
   refine au [110] ?_
   refine qp [6,13,98,99] [0,0] [0,0] [0,1] (fun ((x541,_):Int×Unit)=>([(100,qDW x541)],[],[],[])) (0:Int) () ?_
   intro k0
   rintro ⟨x541,_⟩
   refine aw [39,1,5,24,6,0,2,1,13] ?_ ?_
   refine au [69] ?_
   refine qj [6,13,98,99,100] [0,1] [0,1] [0,1] (fun ((_,_):Unit×Unit)=>([],[],[],[],qce F (qbv F x1 x4 x5 x6 x3 x12 x13 x14 x533 x538 x540 k0) x541)) ?_ ?_
   refine au [128,26,9] ?_
   intro x542 e526 g73 h0
   refine ko (j:=0) (y:=x542) qF rfl rfl tf9 rfl h0 (qu e526).2.2 (fun _=>rfl) rfl rfl ?_
   refine au [97,25,0,4,24,3] ?_
   rintro x543 e527 ⟨a123,c123⟩
   refine au [4,64,24,1,19] ?_
   intro g74
   refine au [17,6,97,26,11,4,24,3] ?_
   rintro x544 e528 ⟨a124,c124⟩
   refine au [4,64,24,1,19] ?_
   intro g75
   refine au [17,6,129,54,25,11,4] ?_
   refine q6 3 120 123 [6,13,98,99,100,19,20,22,23] ((x544.2.2.2.2.2:Int) == 8) ?_ ?_ ?_
   exact az [79,71]
   exact az [4,25,11,70]
   refine aw [0,2,13] ?_ ?_
   exact az [62,25,2,26,12]
   refine au [69,54,4,33,9,4] ?_
   refine q6 4 127 131 [6,13,98,99,100] ((x543.2.2.2.2.2:Int) != x544.2.2.2.2.2) ?_ ?_ ?_
   exact az [79,9,71]
   exact az [4,4,25,8,70]
   refine aw [0,2,13] ?_ ?_
   exact az [48,52,125,119]
   exact az [16,24,7,26,12]
   rintro ⟨_,_⟩
   refine au [39,145] ?_
   exact qk (iadd .i64 x541 1,())
   exact az [130]
   rintro ⟨_,_⟩
   exact az [140,90]
end Go.Proofs.YthibchijlpflmaaGreatDoor
