/- Each Go function of this seat computes what its model says, part 5. -/
import Derived.Test.YthibchijlpflmaaGreatDoorWalks4
open List renaming replicate→qCc, length_set→qCw, length_replicate→qCR
namespace Go.Proofs.YthibchijlpflmaaGreatDoor
open Go SX
open Go.Proofs.Tryz
open Go.Proofs.Tryz renaming prog→qFj
set_option maxHeartbeats 4000000
set_option linter.unusedSimpArgs false
variable {F t1 t2 t3 t4:Nat}{i1 i2 i3 i4 i5 i6 i7 i8 i9 i10 i11:Int}{m1 m2 m3 m4:qFa}{l1 l2 l3:qFb}{p1:List (qFa)}{n1:List (qFb×Nat)}{d1:Bool}{w1:List (Int×Int)}
theorem qk7 {r:(qFa×Int)}(hm:qar F i1 i2 i3 i4 m1 i5 m2=some r) :
    Pure qFj 238 [.agg #[qFc i1,qFc i2,qFc i3,qFc i4,qFd l1 m1 t1,qFc i5,qFd l2 m2 t2]] [qFh l1 m1 t1,qFh l2 m2 t2] (qFb×Nat) (fun g=>.tuple #[qFd g.1 r.1 g.2,qFc r.2]) (fun g=>[qFg g.1 r.1 g.2]) (fun _=>[]):=by
 refine pureA func238 ntmps238 hm fun _=>?_
 refine au [64,23] ?_
 intro g12
 refine au [5,81,45,78,24,3,4] ?_
 refine zT 4 11 15 [1] (decide (300<i1)) ?_ ?_ ?_
 exact az [62,7,61]
 exact az [78,106]
 refine au [4] ?_
 refine zT 4 16 20 [1] (decide (i2<0)) ?_ ?_ ?_
 exact az [62,7,61]
 exact az [78,24,3,60]
 refine au [4] ?_
 refine zT 4 21 25 [1] (decide (1048576<i2)) ?_ ?_ ?_
 exact az [62,7,61]
 exact az [78,106]
 refine aw [0,2,10] ?_ ?_
 refine au [45,5,103] ?_
 exact qy (none,0)
 refine au [82] ?_
 refine qj [1] [0] [] [0,1] (fun ((x49,_):Bool×Unit)=>([(70,.bool x49)],[],[],[],zY F i1 i2 i3 i4 m1 i5 m2 x49)) ?_ ?_
 refine qK [] [0] [0,1] 45 ?_
 refine au [109,15,2,24,15,3,15,4,24,15,5,13,6,35,6] ?_
 intro x0 e0 _
 refine av [0,31,0,6,7,6,8,29,9] ?_ ?_
 intro h0
 refine yM 34 h0 ?_
 refine au [20,9,20,10,20,11,20,12,6,13,6,14,20,15,20,16,20,17,20,18,6,19,6,20,20,21,20,22,20,23,20,24,20,25,20,26,20,27,20,28,20,29,6,30,6,31,20,32,20,33,20,34,20,35,20,36,20,37,20,38,20,39,20,40,20,41,20,42,20,43,6,44,54] ?_
 exact qa (true,())
 intro h0
 refine yM 34 h0 ?_
 refine au [15,9] ?_
 refine qC 10 (.agg #[qFc i4,.slice l1 m1.length t1]) rfl rfl rfl (qA (i:=0) rfl tf65 rfl rfl (by simp) rfl) ?_
 refine au [13,11,32,4] ?_
 intro x6 e1 _
 refine av [0,31,0,100,6,14,29,9] ?_ ?_
 intro h1
 refine yM 40 h1 ?_
 refine au [20,15,20,16,20,17,20,18,6,19,6,20,20,21,20,22,20,23,20,24,20,25,20,26,20,27,20,28,20,29,6,30,6,31,20,32,20,33,20,34,20,35,20,36,20,37,20,38,20,39,20,40,20,41,20,42,20,43,6,44,54] ?_
 exact qa (true,())
 intro h1
 refine yM 40 h1 ?_
 refine au [15,15] ?_
 refine qC 16 (.agg #[qFc i5,.slice l2 m2.length t2]) rfl rfl rfl (qA (i:=0) rfl tf65 rfl rfl (by simp) rfl) ?_
 refine au [13,17,32,4] ?_
 intro x7 e2 _
 refine av [0,31,0,6,18,6,19,6,20,29,9] ?_ ?_
 intro h2
 refine yM 46 h2 ?_
 refine au [20,21,20,22,20,23,20,24,20,25,20,26,20,27,20,28,20,29,6,30,6,31,20,32,20,33,20,34,20,35,20,36,20,37,20,38,20,39,20,40,20,41,20,42,20,43,6,44,54] ?_
 exact qa (true,())
 intro h2
 refine yM 46 h2 ?_
 refine av [15,21,15,22,24,15,23,15,24,24,15,25,15,26,24,15,27,6,28,6,29,6,30,6,31,29,9] ?_ ?_
 intro h3
 refine yM 57 h3 ?_
 refine au [20,32,20,33,20,34,20,35,20,36,20,37,20,38,20,39,20,40,20,41,20,42,20,43,6,44,54] ?_
 exact qa (true,())
 intro h3
 refine yM 57 h3 ?_
 refine au [15,32] ?_
 refine qC 33 (.agg #[qFc i5,.slice l2 m2.length t2]) rfl rfl rfl (qA (i:=0) rfl tf65 rfl rfl (by simp) rfl) ?_
 refine au [15,34,24,15,35,6,36,13,37,37,3] ?_
 intro x10 e3 _
 refine av [0,31,0,6,38,6,39,29,9] ?_ ?_
 intro h4
 refine yM 65 h4 ?_
 refine au [15,40,24,15,41,6,42,6,43,6,44,54] ?_
 exact qa ((decide (0<i1)),())
 intro h4
 refine yM 65 h4 ?_
 refine au [20,40,20,41,20,42,6,43,6,44,54] ?_
 exact qa (false,())
 rintro ⟨x49,_⟩
 refine aw [39,10] ?_ ?_
 refine au [45,5,103] ?_
 exact qy (none,0)
 refine au [97,47] ?_
 refine qj [1] [0] [] [0,1] (fun ((x99,a97,c98):qFa×qFb×Nat)=>([(4,qFd a97 x99 c98)],[],[qFg a97 x99 c98],[],vr F i2 i4 m1 i5 m2 x99)) ?_ ?_
 refine au [45,78,4,73,27,12] ?_
 refine qr [1,72] [0] [] [0,1] (fun (((x11,x12),a0,c0):(qFa×Int)×qFb×Nat)=>([(4,qFd a0 x11 c0),(73,qFc x12)],[],[qFg a0 x11 c0],[])) (([]:qFa),(0:Int)) (none,0) ?_
 intro k0
 rintro ⟨⟨x11,x12⟩,a0,c0⟩
 refine aw [39,1,3,24,3,0,2,1,10] ?_ ?_
 refine au [83,48,47,3,4,24,9,4,37,4] ?_
 intro x13 e4 _
 refine zL [x13] (fun a1 c1=>?_)
 refine zD 1 (qD .i64) rfl underlying56 tf3 rfl rfl rfl rfl rfl (.inl ⟨0,_,rfl⟩) rfl rfl (fun x14 e5 a2 c2=>?_)
 refine au [5,0,95] ?_
 exact ql ((x14,iadd .i64 x12 1),a2,c2)
 refine au [71] ?_
 exact qa (x11,a0,c0)
 rintro ⟨x99,a97,c98⟩
 refine au [39,1,48,78,35,9] ?_
 intro x15 e6 _
 refine aw [25,1,0,2,10] ?_ ?_
 refine au [45,5,103] ?_
 exact qy (none,0)
 refine au [82,48,78,35,10] ?_
 rintro x16 e7 ⟨⟨a3,c3⟩,a4,c4⟩
 refine au [4,79,24,6] ?_
 intro g0
 refine au [21,59,25,7,4] ?_
 refine kX 7 [1,4,6] [0,1] [2,0,1] [0,1] (fun ((x17,_):Bool×Unit)=>([(104,.bool x17)],[],[],[],qbF F i5 m2 x99 x16 x17)) ?_ ?_
 refine qG (os:=_) rfl ?_
 refine av [26,3] ?_ ?_
 intro h5
 refine kF (k:=97) rfl h5 ?_
 refine au [69,62,88] ?_
 exact qa (true,())
 intro h5
 refine kE (k:=97) rfl h5 ?_
 refine au [9,24,9,9,25,10,37,5] ?_
 intro x18 e8 _
 refine au [25,7,87] ?_
 exact qa ((!x18),())
 rintro ⟨x17,_⟩
 try dsimp only
 refine qG (os:=_) rfl ?_
 refine au [4] ?_
 refine kX 7 [4] [] [0] [] (fun ((x19,_):Bool×Unit)=>([(112,.bool x19)],[],[],[],qdg F x99 x19)) ?_ ?_
 refine qG (os:=_) rfl ?_
 refine av [26,3] ?_ ?_
 intro h6
 refine kF (k:=105) rfl h6 ?_
 refine au [69,62,88] ?_
 exact qa (true,())
 intro h6
 refine kE (k:=105) rfl h6 ?_
 refine au [9,24,9,9,25,10,37,5] ?_
 intro x20 e9 _
 refine au [25,7,87] ?_
 exact qa ((!x20),())
 rintro ⟨x19,_⟩
 try dsimp only
 refine qG (os:=_) rfl ?_
 refine aw [0,2,10] ?_ ?_
 refine au [45,5,103] ?_
 exact qy (none,0)
 refine au [57,48,5,49] ?_
 exact qy (a97,c98)
theorem qnH (hm:qe8 F i1 i2 i3 i4 m1 i5 m2=some i6) :
    qFk 198 [.agg #[qFc i1,qFc i2,qFc i3,qFc i4,qFd l1 m1 t1,qFc i5,qFd l2 m2 t2]] [qFh l1 m1 t1,qFh l2 m2 t2] (qFc i6):=by
 refine pureA func198 ntmps198 hm fun _=>?_
 refine au [64,23] ?_
 intro g12
 refine au [47,77] ?_
 refine qd qk7 ?_
 rintro x13 e13 ⟨a14,c15⟩
 exact az [4,79,5,59,68]
theorem qq5 {r:(Int×Int)}(hm:qfA F i1 i2 i3 i4 m1 i5 m2 i6=some r) :
    qFk 169 [.agg #[qFc i1,qFc i2,qFc i3,qFc i4,qFd l1 m1 t1,qFc i5,qFd l2 m2 t2],qFc i6] [qFh l1 m1 t1,qFh l2 m2 t2] (.tuple #[qFc r.1,qFc r.2]):=by
 refine pureA func169 ntmps169 hm fun _=>?_
 refine au [96] ?_
 intro g13
 refine au [5,47,77] ?_
 refine qd qnH ?_
 intro x14 e14 _
 refine au [47] ?_
 refine qj [1,2] [0] [] [0,1] (fun ((x20,_):Int×Unit)=>([(6,qFc x20)],[],[],[],qej F i1 i2 i3 i4 m1 i5 m2 i6 x20)) ?_ ?_
 refine au [48,25,6,4] ?_
 refine kX 9 [1,2,6] [0] [] [0,1] (fun ((x26,_):Bool×Unit)=>([(20,.bool x26)],[],[],[],qek F i1 i2 i3 i4 m1 i5 m2 i6 x14 x26)) ?_ ?_
 refine qG (os:=_) rfl ?_
 refine av [26,3] ?_ ?_
 intro h24
 refine kF (k:=11) rfl h24 ?_
 refine au [4,24,3,4] ?_
 refine zT 5 14 19 [1,2,6,11] (decide (i1≤i6)) ?_ ?_ ?_
 exact az [69,61]
 exact az [4,78,26,4,60]
 refine au [88] ?_
 exact qa ((decide (i6<0) || decide (i1≤i6)),())
 intro h24
 refine kE (k:=11) rfl h24 ?_
 refine au [69,69,87] ?_
 exact qa (false,())
 rintro ⟨x26,_⟩
 try dsimp only
 refine qG (os:=_) rfl ?_
 refine aw [0,2,10] ?_ ?_
 refine au [3,5,0] ?_
 exact qa ((3:Int),())
 refine au [11] ?_
 exact qa (x14,())
 rintro ⟨x20,_⟩
 refine aw [39,1,1,3,4,25,1,0,2,10] ?_ ?_
 exact az [48,5,75]
 refine au [57,77,4,37,4] ?_
 intro x22 e22 _
 exact az [5,68]
theorem qis:∀ (F g1:Nat)(x2 x3 x4 x5 x6:Int)(x7:qFa)(a8:qFb)(c9:Nat)(x10 x11 x12 x13:Int)(x14:qFa)(a15:qFb)(c16:Nat)(x17:Int)(x18:qFa)(a19:qFb)(c20:Nat)(x21 x22:Int)(r:(qFa×Int×Int×Int×Int×Int×Int×Int×Int×Int×Int×Int)),yF F x2 x3 x4 x5 x6 x7 x10 x11 x12 x13 x14 x17 x18 x21 x22=some r→PureM qFj 124 [qFe g1,qFc x22] [⟨g1,174,[qFc x2,qFc x3,qFc x4,qFc x5,qFc x6,qFd a8 x7 c9,qFc x10,qFc x11,qFc x12,qFc x13,qFd a15 x14 c16,qFc x17,qFd a19 x18 c20,qFc x21]⟩] [] [qFh a8 x7 c9,qFh a15 x14 c16,qFh a19 x18 c20] (qFb×Nat) (fun g=>qFd g.1 r.1 g.2) (fun _=>[⟨g1,174,[qFc r.2.1,qFc r.2.2.1,qFc r.2.2.2.1,qFc r.2.2.2.2.1,qFc r.2.2.2.2.2.1,qFd a8 x7 c9,qFc r.2.2.2.2.2.2.1,qFc r.2.2.2.2.2.2.2.1,qFc r.2.2.2.2.2.2.2.2.1,qFc r.2.2.2.2.2.2.2.2.2.1,qFd a15 x14 c16,qFc r.2.2.2.2.2.2.2.2.2.2.1,qFd a19 x18 c20,qFc r.2.2.2.2.2.2.2.2.2.2.2]⟩]) (fun g=>[qFg g.1 r.1 g.2]):=by
  intro F
  induction F with
  | zero=>intro g1 x2 x3 x4 x5 x6 x7 a8 c9 x10 x11 x12 x13 x14 a15 c16 x17 x18 a19 c20 x21 x22 r hm;exact absurd hm (by simp[yF])
  | succ F ih =>
    intro g1 x2 x3 x4 x5 x6 x7 a8 c9 x10 x11 x12 x13 x14 a15 c16 x17 x18 a19 c20 x21 x22 r hm
    refine qjD func124 rfl ntmps124 rfl hm (fun w=>?_)
    refine qoR (l':=[(0,qFe g1),(1,qFc x22)]) rfl ?_
    refine kD ?_
    refine qW ?_
    refine kO rfl rfl rfl ?_
    refine zK ?_
    refine zF ?_
    refine kD ?_
    refine qW ?_
    refine q9 rfl rfl rfl ?_
    refine km rfl rfl rfl ?_
    refine qY rfl rfl ff174_1 rfl ?_
    refine zX (i:=0) rfl rfl tf3 rfl rfl (fun _=>rfl) rfl rfl ?_
    refine qk2 rfl rfl rfl rfl ?_
    refine km rfl rfl rfl ?_
    refine qY rfl rfl ff174_1 rfl ?_
    refine kP (i:=0) rfl rfl rfl tf3 rfl rfl rfl rfl rfl ?_
    refine zK ?_
    refine zF ?_
    refine kD ?_
    refine qW ?_
    refine q9 rfl rfl rfl ?_
    refine km rfl rfl rfl ?_
    refine qY rfl rfl ff174_0 rfl ?_
    refine qY rfl rfl ff71_1 rfl ?_
    refine zX (i:=0) rfl rfl tf69 rfl rfl (by simp) rfl rfl ?_
    refine q9 rfl rfl rfl ?_
    refine vm EnC.e rfl rfl rfl (fun x23 e23=>qq5 e23) (.consF 1 rfl (.consF 2 rfl .nil)) (fun x23 e23=>?_)
    intro _
    refine q9 rfl rfl rfl ?_
    refine qaM rfl rfl rfl rfl ?_
    refine qaM rfl rfl rfl rfl ?_
    refine kO rfl rfl rfl ?_
    refine kO rfl rfl rfl ?_
    refine zK ?_
    refine zF ?_
    refine kD ?_
    refine qW ?_
    refine q9 rfl rfl rfl ?_
    refine km rfl rfl rfl ?_
    refine qY rfl rfl ff174_0 rfl ?_
    refine qY rfl rfl ff71_0 rfl ?_
    refine zX (i:=0) rfl rfl tf67 rfl rfl (by simp) rfl rfl ?_
    refine q9 rfl rfl rfl ?_
    refine q9 rfl rfl rfl ?_
    refine vm EnC.e rfl rfl rfl (fun x24 e24=>qlb e24) (.consF 0 rfl .nil) (fun x24 e24=>?_)
    intro _
    refine q9 rfl rfl rfl ?_
    refine qaM rfl rfl rfl rfl ?_
    refine qaM rfl rfl rfl rfl ?_
    refine qaM rfl rfl rfl rfl ?_
    refine kO rfl rfl rfl ?_
    refine kO rfl rfl rfl ?_
    refine kO rfl rfl rfl ?_
    refine zK ?_
    refine zF ?_
    refine kD ?_
    refine qW ?_
    refine kO rfl rfl rfl ?_
    refine zK ?_
    refine zF ?_
    refine qj [0,1,7,8] [] [] [0,1,2] (fun (((x31,x32,x33,x34,x35,x36,x37,x38,x39,x40,x41,x42),a29,c30):(qFa×Int×Int×Int×Int×Int×Int×Int×Int×Int×Int×Int)×qFb×Nat)=>([(10,qFd a29 x31 c30)],[⟨g1,174,[qFc x32,qFc x33,qFc x34,qFc x35,qFc x36,qFd a8 x7 c9,qFc x37,qFc x38,qFc x39,qFc x40,qFd a15 x14 c16,qFc x41,qFd a19 x18 c20,qFc x42]⟩],[qFg a29 x31 c30],[],yq F x7 x22 x24 x31 x32 x33 x34 x35 x36 x37 x38 x39 x40 x41 x42)) ?_ ?_
    · refine kD ?_
      refine qW ?_
      refine q9 rfl rfl rfl ?_
      refine qtT rfl rfl rfl rfl ?_
      refine zK ?_
      refine zF ?_
      refine qkv rfl (fun h53=>?_) (fun h53=>?_)
      · refine qW ?_
        refine q9 rfl rfl rfl ?_
        refine q9 rfl rfl rfl ?_
        refine q9 rfl rfl rfl ?_
        refine qtW rfl rfl rfl rfl ?_
        refine qc5 EnC.e rfl rfl rfl (fun x50 e50=>ih g1 x2 x3 x4 x5 x6 x7 a8 c9 x10 x11 x12 x13 x14 a15 c16 x17 x18 a19 c20 (iadd .i64 x21 1) (isub .i64 x22 x24.1) x50 e50) (.cons 0 rfl .nil) .nil (.consF 0 rfl (.consF 1 rfl (.consF 2 rfl .nil))) (fun x50 e50=>?_)
        rintro ⟨a51,c52⟩
        refine kO rfl rfl rfl ?_
        refine zK ?_
        exact yj ((x50.1,x50.2.1,x50.2.2.1,x50.2.2.2.1,x50.2.2.2.2.1,x50.2.2.2.2.2.1,x50.2.2.2.2.2.2.1,x50.2.2.2.2.2.2.2.1,x50.2.2.2.2.2.2.2.2.1,x50.2.2.2.2.2.2.2.2.2.1,x50.2.2.2.2.2.2.2.2.2.2.1,x50.2.2.2.2.2.2.2.2.2.2.2),a51,c52) (hB:=(.cons 0 rfl .nil)) (hR:=(.cons 0 rfl .nil)) (hF:=(qi 0 rfl (qi 1 rfl (qi 2 rfl zJ))))
      · refine qh5 ?_
        refine qfZ Int (eI .i64) 3 1 ?_
        exact yj ((([]:qFa),x2,x3,x4,x5,x6,x10,x11,x12,x13,x17,iadd .i64 x21 1),none,0) (hB:=(.cons 0 rfl .nil)) (hR:=(.cons 0 rfl .nil)) (hF:=(qi 0 rfl (qi 1 rfl (qi 2 rfl zJ))))
    · rintro ⟨⟨x31,x32,x33,x34,x35,x36,x37,x38,x39,x40,x41,x42⟩,a29,c30⟩
      try dsimp only
      refine kD ?_
      refine qW ?_
      refine q9 rfl rfl rfl ?_
      refine km rfl rfl rfl ?_
      refine qY rfl rfl ff174_0 rfl ?_
      refine qY rfl rfl ff71_0 rfl ?_
      refine qY rfl rfl ff67_1 rfl ?_
      refine zX (i:=0) rfl rfl tf26 rfl rfl (by simp) rfl rfl ?_
      refine qkw rfl tf26 rfl (fun g43=>?_)
      refine kP (i:=0) rfl rfl rfl tf26 rfl rfl rfl rfl rfl ?_
      refine zK ?_
      refine zF ?_
      refine kD ?_
      refine qW ?_
      refine q9 rfl rfl rfl ?_
      refine qY rfl rfl ff26_0 rfl ?_
      refine kP (i:=0) rfl rfl rfl tf3 rfl rfl rfl rfl rfl ?_
      refine zK ?_
      refine zF ?_
      refine kD ?_
      refine kC mixed [] _ _ (.cons 0 rfl (.cons 0 rfl .nil)) (qh 0 rfl (qh 1 rfl (qh 2 rfl qg))) 18 rfl ?_
      refine qb 0 (qFe g1) rfl rfl rfl (zC rfl) ?_
      refine qb 1 (qFe g1) rfl rfl rfl (zC rfl) ?_
      refine qb 2 (qFe g1) rfl rfl rfl (zi rfl ff174_0) ?_
      refine qb 3 (qFe g1) rfl rfl rfl (zi rfl ff71_0) ?_
      refine qb 4 (.pointer (some ⟨g1,4,none⟩)) rfl rfl rfl (zi rfl ff67_2) ?_
      refine qC 5 (.agg #[qFc x36,.slice a8 x7.length c9]) rfl rfl rfl (qA (i:=1) rfl tf65 rfl rfl (by simp) rfl) ?_
      refine qb 6 (qFc x24.2.1) rfl rfl rfl (zC rfl) ?_
      refine qb 7 (qFc x22) rfl rfl rfl (zC rfl) ?_
      refine qb 8 (qFd a29 x31 c30) rfl rfl rfl (zC rfl) ?_
      refine qC 9 (.agg #[qFc x24.1,qFc x34,qFc x35]) rfl rfl rfl (qA (i:=0) rfl tf26 rfl rfl (by simp) rfl) ?_
      refine qg2 10 rfl (by kernel_rfl) rfl ?_
      refine vm EnC.e rfl rfl rfl (fun x47 e47=>qkC e47) (.consF 0 rfl (.consR 0 (qFg a29 x31 c30) rfl .nil)) (fun x47 e47=>?_)
      rintro ⟨a48,c49⟩
      refine zK ?_
      refine qc (.cons 0 rfl (.cons 0 rfl .nil)) (qh 0 rfl (qh 1 rfl (qh 2 rfl qg))) ?_
      refine qb 11 (.tuple #[qFd a48 x47.1 c49,qFc x47.2.1,qFc x47.2.2]) rfl rfl rfl (zC rfl) ?_
      refine qb 12 (qFd a48 x47.1 c49) rfl rfl rfl (zC rfl) ?_
      refine qb 13 (qFc x47.2.1) rfl rfl rfl (zC rfl) ?_
      refine qb 14 (qFc x47.2.2) rfl rfl rfl (zC rfl) ?_
      refine qb 15 (qFd a48 x47.1 c49) rfl rfl rfl (zC rfl) ?_
      refine qb 16 (qFc x47.2.1) rfl rfl rfl (zC rfl) ?_
      refine qb 17 (qFc x47.2.2) rfl rfl rfl (zC rfl) ?_
      refine qg1 (by kernel_rfl) ?_
      refine qkA ?_ (by intro c h;cases h)
      refine zF ?_
      refine kD ?_
      refine qW ?_
      refine q9 rfl rfl rfl ?_
      refine kO rfl rfl rfl ?_
      refine zK ?_
      refine zF ?_
      refine qoS ?_
      exact yG (a48,c49) (res1 rfl rfl) (hB:=fun h=>by subst h;exact (.cons 1 rfl .nil)) (hR:=fun h=>by subst h;exact (.cons 0 rfl .nil))
theorem qnU {r:(qFa×Int×Int)}(hm:qcr F i1 i2 i3 i4 i5 m1 i6 i7 i8 i9 m2 i10 m3 i11=some r) :
    Pure qFj 89 [.agg #[qFc i1,qFc i2,qFc i3,qFc i4,qFc i5,qFd l1 m1 t1,qFc i6,qFc i7,qFc i8,qFc i9,qFd l2 m2 t2,qFc i10,qFd l3 m3 t3],qFc i11] [qFh l1 m1 t1,qFh l2 m2 t2,qFh l3 m3 t3] (qFb×Nat) (fun g=>.tuple #[qFd g.1 r.1 g.2,qFc r.2.1,qFc r.2.2]) (fun g=>[qFg g.1 r.1 g.2]) (fun _=>[]):=by
 refine pureA func89 ntmps89 hm fun _=>?_
 refine au [96] ?_
 intro g21
 refine au [5,5,47,77] ?_
 refine qd qmA ?_
 intro x22 e22 _
 refine au [47] ?_
 refine qj [1,2] [0] [] [0,1,2] (fun ((x28,_):Int×Unit)=>([(7,qFc x28)],[],[],[],qbf F i1 i2 i3 i4 i5 m1 i6 i7 i8 i9 m2 i10 m3 i11 x28)) ?_ ?_
 refine au [48,25,6,4] ?_
 refine kX 10 [1,2,7] [0] [] [0,1,2] (fun ((x37,_):Bool×Unit)=>([(24,.bool x37)],[],[],[],qbg F i1 i2 i3 i4 i5 m1 i6 i7 i8 i9 m2 i10 m3 i11 x22 x37)) ?_ ?_
 refine qG (os:=_) rfl ?_
 refine av [26,3] ?_ ?_
 intro h35
 refine kF (k:=14) rfl h35 ?_
 refine au [4,24,3,4] ?_
 refine zT 6 17 23 [1,2,7,14] (decide (i1≤i11)) ?_ ?_ ?_
 exact az [69,7,61]
 exact az [4,9,78,26,4,60]
 refine au [88] ?_
 exact qa ((decide (i11<0) || decide (i1≤i11)),())
 intro h35
 refine kE (k:=14) rfl h35 ?_
 refine au [69,69,7,87] ?_
 exact qa (false,())
 rintro ⟨x37,_⟩
 try dsimp only
 refine qG (os:=_) rfl ?_
 refine aw [0,2,10] ?_ ?_
 refine au [3,5,0] ?_
 exact qa ((3:Int),())
 refine au [11] ?_
 exact qa (x22,())
 rintro ⟨x28,_⟩
 refine aw [39,1,1,3,4,25,1,0,2,10] ?_ ?_
 refine au [48,5,5,103] ?_
 exact qy (none,0)
 refine au [57,77] ?_
 refine qJ [qFc i1,qFc i2,qFc i3,qFc i4,qFc i5,qFd l1 m1 t1,qFc i6,qFc i7,qFc i8,qFc i9,qFd l2 m2 t2,qFc i10,qFd l3 m3 t3,qFc 0] ?_
 refine au [23] ?_
 intro g30
 refine au [59,4] ?_
 refine qu (fun h=>qis F _ _ _ _ _ _ _ _ _ _ _ _ _ _ _ _ _ _ _ _ _ _ _ h) ?_
 rintro x31 e31 ⟨a32,c33⟩
 refine au [81,32,13,92,15,3,24,15,4,6,5,67,54,2,8] ?_
 exact qy (a32,c33)
theorem qi9 (hm:jS F p1 i1 i2 i3 m1 m2 m3=some m4) :
    PureM qFj 90 [qFe t1,qFd l3 m3 t4] [⟨t1,85,[qFd l1 p1 t2,qFc i1,qFc i2,qFc i3,qFd l2 m1 t3,.string (bstr m2)]⟩] [] [SlN eN56 iN56 1 (qFd l1 p1 t2) p1 n1,qFf l2 m1 t3,qFf l3 m3 t4,GF] Unit (fun _=>.tuple #[]) (fun _=>[⟨t1,85,[qFd l1 p1 t2,qFc i1,qFc i2,qFc i3,qFd l2 m1 t3,.string (bstr m4)]⟩]) (fun _=>[]):=by
 refine pureMA func90 ntmps90 hm fun _=>?_
 refine au [56,47] ?_
 refine qj [0] [0] [] [0,1,3] (fun ((x82,a80,c81):List (qFa)×qFb×Nat)=>([(4,qFd a80 x82 c81)],[],[Ro eT 9 1 (qFd a80 x82 c81) x82],[],qb3 F x82)) ?_ ?_
 refine au [48,84] ?_
 refine qd8 (qFa) eT 9 1 (qr [0,7,8] [0] [] [2,0,1,3] (fun (((x0,x1),a0,c0):(List (qFa)×Int)×qFb×Nat)=>([(4,qFd a0 x0 c0),(9,qFc x1)],[],[Ro eT 9 1 (qFd a0 x0 c0) x0],[])) (([]:List (qFa)),(0:Int)) (none,0) ?_)
 intro k0
 rintro ⟨⟨x0,x1⟩,a0,c0⟩
 refine aw [39,1,3,24,3,0,2,1,10] ?_ ?_
 refine au [83,45,26,2] ?_
 intro x3 e0 b0 o0
 refine au [25,3,47,3,89] ?_
 refine vm EnC.e rfl rfl rfl (fun x4 e1=>qf0 x3 x4 e1) (.consF 4 rfl .nil) (fun x4 e1 _=>qbr (vs:=[.string (bstr x4)]) (ys:=([x4]:List (qFa))) qI (by decide) rfl underlying39 tf9 rfl rfl rfl rfl rfl (by decide) (fun a1 c1=>zD 1 qI rfl underlying39 tf9 rfl rfl rfl rfl rfl (.inl ⟨0,_,rfl⟩) rfl rfl (fun x9 e2 a2 c2=>?_)))
 refine au [5,0,95] ?_
 exact ql ((x9,iadd .i64 x1 1),a2,c2)
 refine au [71] ?_
 exact qa (x0,a0,c0)
 rintro ⟨x82,a80,c81⟩
 refine au [39,3,89] ?_
 refine vm EnC.e rfl rfl rfl (fun x83 e83=>qAm x82 a80 c81 ([32]:qFa) x83 e83) (.consR 0 (Ro eT 9 1 (qFd a80 x82 c81) x82) rfl .nil) (fun x83 e83 _=>?_)
 exact az [55,85,25,14]
theorem qi8 (F g1:Nat)(x2:List (qFa))(a3:qFb)(c4:(Nat×List (qFb×Nat)))(x5 x6 x7:Int)(x8:qFa)(a9:qFb)(c10:Nat)(x11:qFa)(r:(Int×qFa))(hm:qbE F x2 x5 x6 x7 x8 x11=some r) :
    PureM qFj 63 [qFe g1] [⟨g1,85,[qFd a3 x2 c4.1,qFc x5,qFc x6,qFc x7,qFd a9 x8 c10,.string (bstr x11)]⟩] [] [SlN eN56 iN56 1 (qFd a3 x2 c4.1) x2 c4.2,qFf a9 x8 c10,GF] Unit (fun _=>qFc r.1) (fun _=>[⟨g1,85,[qFd a3 x2 c4.1,qFc x5,qFc x6,qFc x7,qFd a9 x8 c10,.string (bstr r.2)]⟩]) (fun _=>[]):=by
 refine pureMA func63 ntmps63 hm fun _=>?_
 refine au [64,47] ?_
 refine qj [0] [0] [] [0,1,2] (fun (((x29,x30,x31,x32,x33,x34,x37,x38,x39,x40,x41,x44,x45,x48),g28,a35,c36,a42,c43,a46,c47):(Int×Int×Int×Int×Int×Int×qFa×Int×Int×Int×Int×qFa×Int×qFa)×Nat×qFb×Nat×qFb×Nat×qFb×Nat)=>([(3,qFe g28),(4,qFc x29)],[⟨g28,71,[qFc x30,qFc x31,qFc x32,qFc x33,qFc x34,qFd a35 x37 c36,qFc x38,qFc x39,qFc x40,qFc x41,qFd a42 x44 c43,qFc x45,qFd a46 x48 c47]⟩],[qFi a35 x37 c36,qFi a42 x44 c43,qFi a46 x48 c47],[],jR F x2 x5 x6 x7 x8 x11 x29 x30 x31 x32 x33 x34 x37 x38 x39 x40 x41 x44 x45 x48)) ?_ ?_
 refine au [35,4,70,15,2,15,3] ?_
 refine qC 4 (.agg #[.slice a3 x2.length c4.1]) rfl rfl rfl (qA (i:=0) rfl tf24 rfl rfl (by simp) rfl) ?_
 refine au [6,5,6,6,15,7,15,8] ?_
 refine qC 9 (.agg #[qFc x5,qFc x6,qFc x7]) rfl rfl rfl (qA (i:=0) rfl tf26 rfl rfl (by simp) rfl) (vd 10 14 rfl rfl (by kernel_rfl) rfl rfl ?_ ?_)
 refine au [37,6] ?_
 rintro x66 e66 ⟨⟨a67,c68⟩,⟨a69,c70⟩,a71,c72⟩
 refine au [0,35,5,6,11,100,13,14,24,6] ?_
 intro g73
 refine au [0,27,14,13,15,85,27,14,6,16,54] ?_
 exact qa ((x66.2.2.2.2.2.2.2.2.2.2.2.2.2,x66.1,x66.2.1,x66.2.2.1,x66.2.2.2.1,x66.2.2.2.2.1,x66.2.2.2.2.2.1,x66.2.2.2.2.2.2.1,x66.2.2.2.2.2.2.2.1,x66.2.2.2.2.2.2.2.2.1,x66.2.2.2.2.2.2.2.2.2.1,x66.2.2.2.2.2.2.2.2.2.2.1,x66.2.2.2.2.2.2.2.2.2.2.2.1,x66.2.2.2.2.2.2.2.2.2.2.2.2.1),g73,a67,c68,a69,c70,a71,c72)
 refine k8 (m':=((qcC F x2 x5 x6 x7).bind fun x75=>jR F x2 x5 x6 x7 x8 x11 x75.2.2.2.2.2.2.2.2.2.2.2.2.2 x75.1 x75.2.1 x75.2.2.1 x75.2.2.2.1 x75.2.2.2.2.1 x75.2.2.2.2.2.1 x75.2.2.2.2.2.2.1 x75.2.2.2.2.2.2.2.1 x75.2.2.2.2.2.2.2.2.1 x75.2.2.2.2.2.2.2.2.2.1 x75.2.2.2.2.2.2.2.2.2.2.1 x75.2.2.2.2.2.2.2.2.2.2.2.1 x75.2.2.2.2.2.2.2.2.2.2.2.2.1)) (rfl) ?_
 refine au [24,6] ?_
 intro g74
 refine au [0,27,14,13,10,37,6] ?_
 rintro x75 e75 ⟨⟨a76,c77⟩,⟨a78,c79⟩,a80,c81⟩
 refine au [0,27,14,6,11,100,13,15,85,27,14,6,16,54] ?_
 exact qa ((x75.2.2.2.2.2.2.2.2.2.2.2.2.2,x75.1,x75.2.1,x75.2.2.1,x75.2.2.2.1,x75.2.2.2.2.1,x75.2.2.2.2.2.1,x75.2.2.2.2.2.2.1,x75.2.2.2.2.2.2.2.1,x75.2.2.2.2.2.2.2.2.1,x75.2.2.2.2.2.2.2.2.2.1,x75.2.2.2.2.2.2.2.2.2.2.1,x75.2.2.2.2.2.2.2.2.2.2.2.1,x75.2.2.2.2.2.2.2.2.2.2.2.2.1),g74,a76,c77,a78,c79,a80,c81)
 rintro ⟨⟨x29,x30,x31,x32,x33,x34,x37,x38,x39,x40,x41,x44,x45,x48⟩,g28,a35,c36,a42,c43,a46,c47⟩
 refine aw [39,1,1,3,4,25,1,0,2,10] ?_ ?_
 exact az [48,58,25,14]
 refine au [82,28,4] ?_
 intro x57 e57 b58 o59 h60
 replace h60:a9=some ⟨b58,o59,none⟩:=h60
 refine qK [] [0,0] [0,1,2,3] 15 ?_
 refine qC 0 (.agg #[qFc x30,qFc x31,qFc x32,qFc x33,qFc x34,.slice a35 x37.length c36,qFc x38,qFc x39,qFc x40,qFc x41,.slice a42 x44.length c43,qFc x45,.slice a46 x48.length c47]) rfl rfl rfl (qA (i:=1) rfl tf71 rfl rfl (by simp) rfl) ?_
 refine au [6,1,6,2,15,3,24,15,4] ?_
 refine vl 5 h60 e57 ?_
 refine qz 6 (qFc x57) [] rfl rfl rfl (qS (j:=0) rfl tf3 rfl rfl (fun _=>rfl) rfl) ?_
 refine au [13,7] ?_
 refine qd qnU ?_
 rintro x61 e61 ⟨a62,c63⟩
 refine au [0,35,1,6,8,6,9,6,10,6,11,100,6,14,54,2,48,4,37,7] ?_
 intro x64 e64 _
 exact az [98,86]
theorem qlg (F:Nat)(x1:Int)(g2:Nat)(x3:List (qFa))(a4:qFb)(c5:(Nat×List (qFb×Nat)))(r:Bool)(hm:qfM F x1 x3=some r) :
    PureM qFj 173 [qFc x1,qFe g2] [⟨g2,24,[qFd a4 x3 c5.1]⟩] [] [SlN eN56 iN56 1 (qFd a4 x3 c5.1) x3 c5.2] Unit (fun _=>.bool r) (fun _=>[⟨g2,24,[qFd a4 x3 c5.1]⟩]) (fun _=>[]):=by
 refine pureMA func173 ntmps173 hm fun _=>?_
 refine au [56,59,24,3,4] ?_
 refine zT 6 6 12 [] (decide ((x3.length:Int)≤x1)) ?_ ?_ ?_
 exact az [69,7,61]
 exact az [4,78,24,4,26,4,60]
 exact az [86]
theorem qbZ (hm:kH F m1 p1=some i1) :
    PureM qFj 129 [qFd l1 m1 t1,.func (.func 173) #[] #[qFe t2]] [⟨t2,24,[qFd l2 p1 t3]⟩] [] [qFf l1 m1 t1,SlN eN56 iN56 1 (qFd l2 p1 t3) p1 n1] Unit (fun _=>qFc i1) (fun _=>[⟨t2,24,[qFd l2 p1 t3]⟩]) (fun _=>[]):=by
 refine pureMA func129 ntmps129 hm fun _=>?_
 refine au [56,47] ?_
 refine qj [] [0] [] [1] (fun ((_,_):Unit×Unit)=>([],[],[],[],yx F)) ?_ ?_
 refine au [48,84] ?_
 refine qr [0,1,7] [0] [] [0,1] (fun ((x58,_):Int×Unit)=>([(8,qFc x58)],[],[],[])) (0:Int) () ?_
 intro k71
 rintro ⟨x58,_⟩
 refine aw [39,1,3,24,3,0,2,1,10] ?_ ?_
 refine au [83,48,59,89,26,2] ?_
 intro x78 e78 b79 o80
 refine au [25,3] ?_
 refine qfX EnC.e rfl rfl rfl rfl (fun x81 e81=>qlg F x78 t2 p1 l2 (t3,n1) x81 e81) (.cons 0 rfl .nil) .nil (.consF 2 rfl .nil) (fun x81 e81 _=>?_)
 refine aw [0,2,10] ?_ ?_
 exact az [48,49,90,50,25,14]
 refine au [11,95] ?_
 exact ql (iadd .i64 x58 1,())
 exact az [71,26,7]
 rintro ⟨_,_⟩
 exact az [117,86]
theorem qaN (hm:ke F m1 p1=some d1) :
    PureM qFj 119 [qFd l1 m1 t1,.func (.func 173) #[] #[qFe t2]] [⟨t2,24,[qFd l2 p1 t3]⟩] [] [qFf l1 m1 t1,SlN eN56 iN56 1 (qFd l2 p1 t3) p1 n1] Unit (fun _=>.bool d1) (fun _=>[⟨t2,24,[qFd l2 p1 t3]⟩]) (fun _=>[]):=by
 refine pureMA func119 ntmps119 hm fun _=>?_
 refine au [56,59,4] ?_
 refine qu qbZ ?_
 intro x8 e8 _
 exact az [26,4,86]
theorem qn1 (hm:qdD F p1 m1=some i1) :
    qFk 126 [.agg #[qFd l1 p1 t1],qFd l2 m1 t2] [SlN eN56 iN56 1 (qFd l1 p1 t1) p1 n1,qFf l2 m1 t2] (qFc i1):=by
 refine pureA func126 ntmps126 hm fun _=>?_
 refine au [96] ?_
 intro g7
 refine au [81,77,28,2] ?_
 intro x10 e10 _
 refine aw [5,0,2,1,3,4,25,1,0,2,10] ?_ ?_
 exact az [48,75]
 refine au [82,48,27,5] ?_
 refine qu qaN ?_
 intro x13 e13 _
 refine aw [0,2,10] ?_ ?_
 exact az [45,75]
 exact az [97,68]
theorem qrd (hm:qcU F p1 i1=some m1) :
    Pure qFj 127 [.agg #[qFd l1 p1 t1],qFc i1] [SlN eN56 iN56 1 (qFd l1 p1 t1) p1 n1] (qFb×Nat) (fun g=>qFd g.1 m1 g.2) (fun g=>[qFg g.1 m1 g.2]) (fun _=>[]):=by
 refine pureA func127 ntmps127 hm fun _=>?_
 refine au [96] ?_
 intro g5
 refine au [80,29,0] ?_
 intro a6 c7
 refine au [78,24,4,27,4] ?_
 rintro x8 e8 ⟨a9,c10⟩
 refine au [59,4,26,5] ?_
 intro x11 e11 g12 h13
 refine ky (j:=0) (y':=0) (qD .i64) rfl rfl rfl tf3 rfl h13 (qw e11).2.1 rfl (fun x14 e14 h15=>?_)
 have h16:x14.length=x8.length:=by rw[← e14,qCw]
 refine qt (d:=5) (v:=qFd a9 x14 c10) rfl h15 (qt (d:=14) (v:=qFd a9 x14 c10) rfl h15 (qt (d:=15) (v:=qFd a9 x14 c10) rfl h15 ?_))
 refine au [46] ?_
 refine qP (fun ((x0,_):qFa×Unit)=>([(5,qFd a9 x0 c10)],[],[qFg a9 x0 c10],[],qhK F x0)) ?_ ?_
 refine au [48] ?_
 refine zL [i1] (fun a0 c0=>?_)
 refine au [47,14] ?_
 refine qr [2] [0] [] [0] (fun (((x2,x3),a1,c1,g0):(qFa×qFa)×qFb×Nat×qFa)=>([(5,qFd a9 x2 c10),(6,(qv a1 g0.length x3.length c1 1))],[],[qFg a9 x2 c10,qFg a1 (g0++x3) c1],[])) (x14,([i1]:qFa)) (a0,c0,([]:qFa)) ?_
 intro k0
 rintro ⟨⟨x2,x3⟩,a1,c1,g0⟩
 refine au [39,1,48] ?_
 refine qxG rfl UnF.u rfl rfl ?_
 refine aw [25,2,0,2,10] ?_ ?_
 refine au [57] ?_
 refine qj [2] [0] [] [0] (fun (((x5,x6),a3,c2,g1):(qFa×qFa)×qFb×Nat×qFa)=>([(5,qFd a9 x5 c10),(6,(qv a3 g1.length x6.length c2 1))],[],[qFg a9 x5 c10,qFg a3 (g1++x6) c2],[],qdE F (v7 F p1 k0) x5 x6)) ?_ ?_
 refine au [14,48] ?_
 refine qsd (hs:=g0) (xs:=x3) (j:=1) rfl underlying56 tf3 rfl rfl rfl rfl (fun x7 e0 g2 h0=>kJ (j:=1) (y:=x7) (qD .i64) rfl rfl tf3 rfl h0 (qyZ e0) (fun _=>rfl) rfl rfl ?_)
 refine au [80,78,4,27,2] ?_
 intro x9 e1 g3 b0 o0
 refine au [25,3,84] ?_
 refine qr [2,7,32,33] [0] [] [1,2] (fun (((x10,x12,x13),a4,c4,g4):(qFa×qFa×Int)×qFb×Nat×qFa)=>([(5,qFd a9 x10 c10),(6,(qv a4 g4.length x12.length c4 1)),(34,qFc x13)],[],[qFg a9 x10 c10,qFg a4 (g4++x12) c4],[])) (x2,x3,(0:Int)) (a1,c1,g0) ?_
 intro k1
 rintro ⟨⟨x10,x12,x13⟩,a4,c4,g4⟩
 refine aw [39,1,3,24,3,0,2,1,10] ?_ ?_
 refine au [57] ?_
 refine qj [2,7,32,33,34] [0] [] [0,1] (fun (((x15,x16),a5,c5,g6):(qFa×qFa)×qFb×Nat×qFa)=>([(5,qFd a9 x15 c10),(6,(qv a5 g6.length x16.length c5 1))],[],[qFg a9 x15 c10,qFg a5 (g6++x16) c5],[],qcb F (v8 F (v7 F p1 k0) x7 x9 k1) x13 x15 x16)) ?_ ?_
 refine au [14,45,26,2] ?_
 intro x17 e2 b1 o1
 refine au [25,3,59,4,26,5] ?_
 intro x18 e3 g7 h1
 refine kJ (j:=0) (y:=x18) (qD .i64) rfl rfl tf3 rfl h1 (qw e3).2.2 (fun _=>rfl) rfl rfl ?_
 refine aw [24,3,0,2,10] ?_ ?_
 refine au [48,89,4,26,5] ?_
 intro x19 e4 g8 h2
 refine kJ (j:=0) (y:=x19) (qD .i64) rfl rfl tf3 rfl h2 (qw e4).2.2 (fun _=>rfl) rfl rfl ?_
 refine au [24,0,26,5] ?_
 intro x20 e5 g9 h3
 refine ky (j:=0) (y':=iadd .i64 x19 1) (qD .i64) rfl rfl rfl tf3 rfl h3 (qw e5).2.1 rfl (fun x21 e6 h4=>?_)
 have h5:x21.length=x10.length:=by rw[← e6,qCw]
 refine qt (d:=5) (v:=qFd a9 x21 c10) rfl h4 (qt (d:=38) (v:=qFd a9 x21 c10) rfl h4 (qt (d:=43) (v:=qFd a9 x21 c10) rfl h4 (qt (d:=45) (v:=qFd a9 x21 c10) rfl h4 ?_)))
 refine au [46,3,89] ?_
 refine zL [x17] (fun a7 c6=>?_)
 refine qxx (hs:=g4) (xs:=x12) 2 (qD .i64) rfl underlying56 tf3 rfl rfl rfl rfl rfl (.inl ⟨0,_,rfl⟩) rfl rfl (fun x22 e7 a8 c8 g10=>?_)
 refine au [5,115] ?_
 exact qa ((x21,x22),a8,c8,g10)
 refine au [11,24,2] ?_
 exact qa ((x10,x12),a4,c4,g4)
 rintro ⟨⟨x15,x16⟩,a5,c5,g6⟩
 refine au [39,94] ?_
 exact ql ((x15,x16,iadd .i64 x13 1),a5,c5,g6)
 refine au [71,24,2] ?_
 exact qa ((x10,x12),a4,c4,g4)
 rintro ⟨⟨x5,x6⟩,a3,c2,g1⟩
 refine au [39,3,4] ?_
 refine qxB (hs:=g1) (xs:=x6) (j:=1) rfl underlying56 tf3 rfl rfl rfl rfl (fun x23 e9 g11=>?_)
 refine au [5,0] ?_
 exact ql ((x5,x23),a3,c2,g11)
 refine au [71] ?_
 exact qa (x2,())
 rintro ⟨x0,_⟩
 refine au [91,49] ?_
 exact qy (a9,c10)
theorem qrb {r:(qFa×Int)}(hm:qha F p1 i1=some r) :
    Pure qFj 91 [.agg #[qFd l1 p1 t1],qFc i1] [SlN eN56 iN56 1 (qFd l1 p1 t1) p1 n1] (qFb×Nat) (fun g=>.tuple #[qFd g.1 r.1 g.2,qFc r.2]) (fun g=>[qFg g.1 r.1 g.2]) (fun _=>[]):=by
 refine pureA func91 ntmps91 hm fun _=>?_
 refine au [96] ?_
 intro g5
 refine au [5,81,77,4] ?_
 refine zL [i1] (fun a10 c11=>?_)
 refine au [37,8] ?_
 intro x12 e12 _
 refine aw [5,0,2,1,3,4,25,1,0,2,10] ?_ ?_
 refine au [48,5,103] ?_
 exact qy (none,0)
 refine au [57,77,4,37,9] ?_
 rintro x13 e13 ⟨a14,c15⟩
 refine au [5,49] ?_
 exact qy (a14,c15)
theorem qjZ (F g1:Nat)(x2:List (qFa))(a3:qFb)(c4:(Nat×List (qFb×Nat)))(x5 x6 x7:Int)(x8:qFa)(a9:qFb)(c10:Nat)(x11:qFa)(r:(Int×qFa))(hm:qck F x2 x5 x6 x7 x8 x11=some r) :
    PureM qFj 64 [qFe g1] [⟨g1,85,[qFd a3 x2 c4.1,qFc x5,qFc x6,qFc x7,qFd a9 x8 c10,.string (bstr x11)]⟩] [] [SlN eN56 iN56 1 (qFd a3 x2 c4.1) x2 c4.2,qFf a9 x8 c10,GF] Unit (fun _=>qFc r.1) (fun _=>[⟨g1,85,[qFd a3 x2 c4.1,qFc x5,qFc x6,qFc x7,qFd a9 x8 c10,.string (bstr r.2)]⟩]) (fun _=>[]):=by
 refine pureMA func64 ntmps64 hm fun _=>?_
 refine au [64,81,48,4,112,30,10] ?_
 intro x14 e14 _
 refine aw [25,7,0,2,10] ?_ ?_
 exact az [45,58,25,14]
 refine au [82,28,4] ?_
 intro x22 e22 b23 o24 h25
 replace h25:a9=some ⟨b23,o24,none⟩:=h25
 refine qK [] [0] [0,1,2,3] 17 ?_
 refine au [70,15,2,15,3] ?_
 refine qC 4 (.agg #[.slice a3 x2.length c4.1]) rfl rfl rfl (qA (i:=0) rfl tf24 rfl rfl (by simp) rfl) ?_
 refine au [6,5,6,6,15,7,24,15,8] ?_
 refine vl 9 h25 e22 ?_
 refine qz 10 (qFc x22) [] rfl rfl rfl (qS (j:=0) rfl tf3 rfl rfl (fun _=>rfl) rfl) ?_
 refine au [13,11] ?_
 refine qd qrb ?_
 rintro x26 e26 ⟨a27,c28⟩
 refine au [0,33,11,100,6,14,6,15,6,16,54,2] ?_
 refine qj [4] [] [] [1,2,3] (fun ((x43,_):qFa×Unit)=>([],[⟨g1,85,[qFd a3 x2 c4.1,qFc x5,qFc x6,qFc x7,qFd a9 x8 c10,.string (bstr x43)]⟩],[],[],qaj F x26 x43)) ?_ ?_
 refine au [48,89,112,37,10] ?_
 intro x44 e44 b45 o46
 refine au [25,3,26,5] ?_
 intro x47 e47 g48 h49
 refine kJ (j:=0) (y:=x47) (qD .i64) rfl rfl tf3 rfl h49 (qw e47).2.2 (fun _=>rfl) rfl rfl (vm EnC.e rfl rfl rfl (fun x50 e50=>qf0 x47 x50 e50) (.consF 4 rfl .nil) (fun x50 e50=>?_))
 intro _
 refine au [55,21,98,4,112] ?_
 refine ja (j:=3) (qD .i64) (by decide) rfl UnF.u inferInstance rfl rfl rfl rfl ?_
 intro x51 e51 b52 o53
 refine au [25,3,26,5] ?_
 intro x54 e54 g55 h56
 refine kJ (j:=0) (y:=x54) (qD .i64) rfl rfl tf3 rfl h56 (qw e54).2.2 (fun _=>rfl) rfl rfl ?_
 refine aw [24,3,0,2,10] ?_ ?_
 refine au [3,4,55,85] ?_
 exact qa (([110,111,110,101]:qFa),())
 refine au [11] ?_
 exact qa (x50,())
 rintro ⟨x43,_⟩
 exact az [91,86]
theorem qla (hm:qdq F p1=some w1) :
    PureM qFj 174 [.agg #[qFd l1 p1 t1]] [] [] [SlN eN56 iN56 1 (qFd l1 p1 t1) p1 n1] (qFb×Nat) (fun g=>qFd g.1 w1 g.2) (fun _=>[]) (fun g=>[Ro eS63 63 2 (qFd g.1 w1 g.2) w1]):=by
 refine qdJ func174 rfl ntmps174 rfl hm (fun w=>?_)
 refine au [64,23] ?_
 intro g4
 refine au [80,24,6] ?_
 intro g5
 refine au [46,1,45,25,10,30,6] ?_
 intro x35 e35 g36
 refine au [73] ?_
 refine qd8 (Int×Int) eS63 63 2 (qcs (encs:=(fun (p:Int×Int)=>[.agg #[qFc p.1,qFc p.2]])) (y:=(fun (x47:List (Int×Int)) ((x56,x57):Int×Int)=>qf4 F x47 x56 x57)) (lb:=[qFe g36]) (fun (x47:List (Int×Int)) ((a45,c46):qFb×Nat)=>[⟨g5,58,[qFd a45 x47 c46]⟩,⟨g4,24,[qFd l1 p1 t1]⟩]) (fun (x47:List (Int×Int)) ((a45,c46):qFb×Nat)=>[Ro eS63 63 2 (qFd a45 x47 c46) x47]) (fun (_:Empty) (_:Unit)=>[]) (fun (_:Empty) (_:Unit)=>[]) (fun _=>.skip) ([]:List (Int×Int)) (none,0) rfl EnC.e (fun _=>rfl) rfl (.cons 0 rfl .nil) (.cons 0 rfl (.cons 0 rfl .nil)) (.cons 0 rfl .nil) (.consF 0 rfl .nil) (fun z hz _ _ _ hY=>qed F hY ([]:List (Int×Int)) (none,0) g36 p1 l1 (t1,n1) z hz) ?_ ?_ ?_)
 rintro rc1 L1 D1 x47 ⟨a45,c46⟩ ⟨x56,x57⟩ z w M _
 try dsimp only
 refine qdN [(0,.agg #[qFd l1 p1 t1]),(1,qFe g4),(2,.slice none 0 0),(3,qFe g5),(5,.agg #[qFd l1 p1 t1]),(6,.func (.func 159) #[] #[qFe g36]),(7,.agg #[qFc x56,qFc x57])] (qn rfl (qn rfl (qn rfl (qn rfl (qn rfl (qn rfl (qn rfl qd5))))))) ?_
 refine au [3,24,6] ?_
 intro g58
 refine au [85,30,7,14,3,25,12,78,78] ?_
 refine qJ [qFc x57,qFc x56] ?_
 refine qbr (vs:=[.agg #[qFc x57,qFc x56]]) (ys:=([(x57,x56)]:List (Int×Int))) qeu (by decide) rfl underlying58 tf63 rfl rfl rfl rfl rfl (by decide) (fun a59 c60=>zD 1 qeu rfl underlying58 tf63 rfl rfl rfl rfl rfl (.inl ⟨0,_,rfl⟩) rfl rfl (fun x61 e61 a62 c63=>?_))
 refine au [25,5,115] ?_
 exact vB (rc:=rc1) rfl (.cons 3 rfl .nil) rfl (a62,c63) (.cons 2 rfl (.cons 2 rfl (.cons 0 rfl (.cons 1 rfl .nil)))) (.cons 0 rfl .nil)
 rintro x47 _ ⟨a45,c46⟩ D1
 refine au [39,63,45,25,15,49] ?_
 exact jE [D1] (a45,c46) (.inl rfl) rfl (.cons 0 rfl .nil) (res1 rfl rfl) (fun h=>by subst h;rfl) (fun h=>by subst h;exact .nil) (fun h=>by subst h;exact (.cons 0 rfl .nil))
 intro t;exact t.elim
theorem qnN {r:(List (qFa)×Int)}(hm:qfa F p1=some r) :
    Pure qFj 128 [.agg #[qFd l1 p1 t1]] [SlN eN56 iN56 1 (qFd l1 p1 t1) p1 n1] (qFb×Nat×List (qFb×Nat)) (fun g=>.tuple #[.agg #[qFd g.1 r.1 g.2.1],qFc r.2]) (fun g=>[RoN eN56 rN56 56 1 (qFd g.1 r.1 g.2.1) r.1 g.2.2 []]) (fun _=>[]):=by
 refine pureA func128 ntmps128 hm fun _=>?_
 refine au [64,23] ?_
 intro g4
 refine au [24,6] ?_
 intro g5
 refine au [81,45,25,10,28,2] ?_
 intro x8 e8 _
 refine aw [5,0,2,1,3,4,25,1,0,2,10] ?_ ?_
 refine au [45] ?_
 refine qJ [.slice none 0 0] ?_
 exact az [4,21,58,27,0,29,14]
 refine au [82] ?_
 refine qK [] [1] [0] 10 ?_
 refine au [109,28,3,2] ?_
 refine qC 3 (.agg #[.slice l1 p1.length t1]) rfl rfl rfl (qA (i:=0) rfl tf24 rfl rfl (by simp) rfl) ?_
 refine au [13,4] ?_
 refine qu qla ?_
 rintro x20 e20 ⟨a21,c22⟩
 refine au [0,26,13,13,5,33,8] ?_
 intro x23 e23 g24
 refine au [0,26,14,13,6,33,9] ?_
 rintro x25 e25 ⟨a26,c27⟩
 refine au [0,26,14,13,7,33,10] ?_
 rintro x28 e28 ⟨a29,c30⟩
 refine au [0,26,14,13,8,25,5,0,26,14,6,9,54,2,8] ?_
 exact kq (a29,c30) 1
theorem qn0 (F:Nat)(x1:Int)(g2:Nat)(x3:qFa)(a4:qFb)(c5 g6:Nat)(x7:Int)(r:Bool)(hm:qhc F x1 x3 x7=some r) :
    PureM qFj 130 [qFc x1,qFe g2,qFe g6] [⟨g2,56,[qFd a4 x3 c5]⟩,⟨g6,3,[qFc x7]⟩] [] [qFf a4 x3 c5] Unit (fun _=>.bool r) (fun _=>[⟨g2,56,[qFd a4 x3 c5]⟩,⟨g6,3,[qFc x7]⟩]) (fun _=>[]):=by
 refine pureMA func130 ntmps130 hm fun _=>?_
 refine au [111,81,29,15] ?_
 intro x16 e16 b17 o18 h19
 replace h19:a4=some ⟨b17,o18,none⟩:=h19
 refine au [28,4] ?_
 intro x20 e20 b21 o22 h23
 replace h23:a4=some ⟨b21,o22,none⟩:=h23
 refine qK [] [0,0] [0,1,2] 11 ?_
 refine au [24,15,0,6,1] ?_
 refine vl 2 h19 e16 ?_
 refine qz 3 (qFc x16) [] rfl rfl rfl (qS (j:=1) rfl tf3 rfl rfl (fun _=>rfl) rfl) ?_
 refine au [24,15,4,26,8,5] ?_
 refine vl 6 h23 e20 ?_
 refine qz 7 (qFc x20) [] rfl rfl rfl (qS (j:=0) rfl tf3 rfl rfl (fun _=>rfl) rfl) ?_
 exact az [6,8,6,9,6,10,54,2,8,25,14]
theorem qcf (hm:kT F m1 m2 i1=some i2) :
    PureM qFj 129 [qFd l1 m1 t1,.func (.func 130) #[] #[qFe t2,qFe t4]] [⟨t2,56,[qFd l2 m2 t3]⟩,⟨t4,3,[qFc i1]⟩] [] [qFf l1 m1 t1,qFf l2 m2 t3] Unit (fun _=>qFc i2) (fun _=>[⟨t2,56,[qFd l2 m2 t3]⟩,⟨t4,3,[qFc i1]⟩]) (fun _=>[]):=by
 refine pureMA func129 ntmps129 hm fun _=>?_
 refine au [56,47] ?_
 refine qj [] [0,1] [] [1] (fun ((_,_):Unit×Unit)=>([],[],[],[],yO F)) ?_ ?_
 refine au [48,84] ?_
 refine qr [0,1,7] [0,0] [] [0,1] (fun ((x60,_):Int×Unit)=>([(8,qFc x60)],[],[],[])) (0:Int) () ?_
 intro k73
 rintro ⟨x60,_⟩
 refine aw [39,1,3,24,3,0,2,1,10] ?_ ?_
 refine au [83,48,59,89,26,2] ?_
 intro x80 e80 b81 o82
 refine au [25,3] ?_
 refine qfX EnC.e rfl rfl rfl rfl (fun x83 e83=>qn0 F x80 t2 m2 l2 t3 t4 i1 x83 e83) (.cons 0 rfl (.cons 0 rfl .nil)) .nil (.consF 2 rfl .nil) (fun x83 e83 _=>?_)
 refine aw [0,2,10] ?_ ?_
 exact az [48,49,90,50,25,14]
 refine au [11,95] ?_
 exact ql (iadd .i64 x60 1,())
 exact az [71,26,7]
 rintro ⟨_,_⟩
 exact az [117,86]
theorem qrc {r:(qFa×Int)}(hm:qhb F p1 i1 i2=some r) :
    Pure qFj 92 [.agg #[qFd l1 p1 t1],qFc i1,qFc i2] [SlN eN56 iN56 1 (qFd l1 p1 t1) p1 n1] (qFb×Nat) (fun g=>.tuple #[qFd g.1 r.1 g.2,qFc r.2]) (fun g=>[qFg g.1 r.1 g.2]) (fun _=>[]):=by
 refine pureA func92 ntmps92 hm fun _=>?_
 refine au [111,23] ?_
 intro g6
 refine au [5,81,77,89] ?_
 refine zL [i1,i2] (fun a11 c12=>?_)
 refine au [37,8] ?_
 intro x13 e13 _
 refine aw [5,0,2,1,3,4,25,1,0,2,10] ?_ ?_
 refine au [48,5,103] ?_
 exact qy (none,0)
 refine au [57,77] ?_
 refine qd qnN ?_
 rintro x14 e14 ⟨a15,c16⟩
 refine au [4,79,24,6] ?_
 intro g17
 refine au [21,47,77,4,37,9] ?_
 rintro x18 e18 ⟨a19,c20⟩
 refine au [24,6] ?_
 intro g21
 refine au [21,46,1,45,18,4,26,5] ?_
 intro x26 e26 g27 h28
 refine kJ (j:=0) (y:=x26) (qD .i64) rfl rfl tf3 rfl h28 (qw e26).2.2 (fun _=>rfl) rfl rfl ?_
 refine aw [24,3,0,2,10] ?_ ?_
 refine au [45,5,103] ?_
 exact qy (none,0)
 refine au [57,48] ?_
 refine zL [i1] (fun a29 c30=>?_)
 refine au [47] ?_
 refine qP (fun ((x0,a0,c0):qFa×qFb×Nat)=>([(12,qFd a0 x0 c0)],[],[qFg a0 x0 c0],[],qgB F x0)) ?_ ?_
 refine au [48,24,6] ?_
 intro g0
 refine au [21,73] ?_
 refine qr [2,3,11] [1,2] [1] [0] (fun (((x2,x3),a1,c1,g1):(qFa×Int)×qFb×Nat×Nat)=>([(12,qFd a1 x2 c1),(13,qFe g1)],[⟨g1,3,[qFc x3]⟩],[qFg a1 x2 c1],[])) (([i1]:qFa),i1) (a29,c30,g0) ?_
 intro k0
 rintro ⟨⟨x2,x3⟩,a1,c1,g1⟩
 refine aw [39,1,1,3,25,15,4,25,1,0,2,10] ?_ ?_
 refine au [83,45,99,25,15,27,2] ?_
 intro x6 e0 g2 b0 o0
 refine au [25,3,27,5] ?_
 refine qu qcf ?_
 intro x7 e1 _
 refine au [47,3,110,25,12,37,11] ?_
 intro x8 e2 g3 b1 o1
 refine au [25,3,4,29,1] ?_
 intro x9 e3 b2 o2
 refine au [25,3,25,5,0,63,1,45,25,12,46,3,24,6] ?_
 intro g4
 refine au [21,46,3,4,18] ?_
 refine zL [x9] (fun a3 c2=>?_)
 refine zD 2 (qD .i64) rfl underlying56 tf3 rfl rfl rfl rfl rfl (.inl ⟨0,_,rfl⟩) rfl rfl (fun x10 e4 a4 c4=>?_)
 refine au [5,0] ?_
 exact ql ((x10,x9),a4,c4,g4)
 refine au [71] ?_
 exact qa (x2,a1,c1)
 rintro ⟨x0,a0,c0⟩
 refine au [91,5,49] ?_
 exact qy (a0,c0)
theorem qiD {r:(Int×qFa)}(hm:vR F p1 i1 i2 i3 m1 m2 m3 i4 i5=some r) :
    PureM qFj 93 [qFe t1,qFd l3 m3 t4,qFc i4,qFc i5] [⟨t1,85,[qFd l1 p1 t2,qFc i1,qFc i2,qFc i3,qFd l2 m1 t3,.string (bstr m2)]⟩] [] [SlN eN56 iN56 1 (qFd l1 p1 t2) p1 n1,qFf l2 m1 t3,qFf l3 m3 t4,GF] Unit (fun _=>qFc r.1) (fun _=>[⟨t1,85,[qFd l1 p1 t2,qFc i1,qFc i2,qFc i3,qFd l2 m1 t3,.string (bstr r.2)]⟩]) (fun _=>[]):=by
 refine pureMA func93 ntmps93 hm fun _=>?_
 refine au [28,7,45,47] ?_
 refine qj [] [] [] [0,1,3] (fun (((x19,x20),_):(Int×qFa)×Unit)=>([(2,qFc x19)],[⟨t1,85,[qFd l1 p1 t2,qFc i1,qFc i2,qFc i3,qFd l2 m1 t3,.string (bstr x20)]⟩],[],[],jd F x19 x20)) ?_ ?_
 refine au [48,4,37,7] ?_
 intro x21 e21 _
 refine aw [0,2,1,3,4,4,25,6,0,2,10] ?_ ?_
 refine au [3,4,55,21,5,0] ?_
 exact qa (((0:Int),([110,111,110,101]:qFa)),())
 refine au [11] ?_
 exact qa ((i4,x21),())
 rintro ⟨⟨x19,x20⟩,_⟩
 exact az [91,86]
theorem qj1 (F g1:Nat)(x2:List (qFa))(a3:qFb)(c4:(Nat×List (qFb×Nat)))(x5 x6 x7:Int)(x8:qFa)(a9:qFb)(c10:Nat)(x11:qFa)(r:(Int×qFa))(hm:qcm F x2 x5 x6 x7 x8 x11=some r) :
    PureM qFj 65 [qFe g1] [⟨g1,85,[qFd a3 x2 c4.1,qFc x5,qFc x6,qFc x7,qFd a9 x8 c10,.string (bstr x11)]⟩] [] [SlN eN56 iN56 1 (qFd a3 x2 c4.1) x2 c4.2,qFf a9 x8 c10,GF] Unit (fun _=>qFc r.1) (fun _=>[⟨g1,85,[qFd a3 x2 c4.1,qFc x5,qFc x6,qFc x7,qFd a9 x8 c10,.string (bstr r.2)]⟩]) (fun _=>[]):=by
 refine pureMA func65 ntmps65 hm fun _=>?_
 refine au [64,81,28,4] ?_
 intro x23 e23 b24 o25 h26
 replace h26:a9=some ⟨b24,o25,none⟩:=h26
 refine au [29,4] ?_
 intro x27 e27 b28 o29 h30
 replace h30:a9=some ⟨b28,o29,none⟩:=h30
 refine qK [] [0] [0,1,2,3,4] 23 ?_
 refine au [70,15,2,15,3] ?_
 refine qC 4 (.agg #[.slice a3 x2.length c4.1]) rfl rfl rfl (qA (i:=0) rfl tf24 rfl rfl (by simp) rfl) ?_
 refine au [6,5,6,6,15,7,24,15,8] ?_
 refine vl 9 h26 e23 ?_
 refine qz 10 (qFc x23) [] rfl rfl rfl (qS (j:=1) rfl tf3 rfl rfl (fun _=>rfl) rfl) ?_
 refine au [6,11,6,12,15,13,24,15,14] ?_
 refine vl 15 h30 e27 ?_
 refine qz 16 (qFc x27) [] rfl rfl rfl (qS (j:=0) rfl tf3 rfl rfl (fun _=>rfl) rfl) ?_
 refine au [13,17] ?_
 refine qd qrc ?_
 rintro x31 e31 ⟨a32,c33⟩
 refine au [0] ?_
 refine zM [0] [0,1,2,3,4] ?_
 refine au [6,18,6,19,6,20,6,21,6,22,54,2,48,89,37,12] ?_
 intro x34 e34 _
 exact az [86]
theorem qdQ (F g1 g2:Nat)(x3:List (qFa))(a4:qFb)(c5:(Nat×List (qFb×Nat)))(x6 x7 x8:Int)(x9:qFa)(a10:qFb)(c11:Nat)(x12:qFa)(g13:Nat)(r:(Int×qFa))(hm:kL F x3 x6 x7 x8 x9 x12=some r) :
    PureM qFj 94 [qFe g1,qFe g13] [⟨g1,83,[qFe g2]⟩,⟨g2,85,[qFd a4 x3 c5.1,qFc x6,qFc x7,qFc x8,qFd a10 x9 c11,.string (bstr x12)]⟩,⟨g13,107,[.func (.func 67) #[] #[]]⟩] [] [SlN eN56 iN56 1 (qFd a4 x3 c5.1) x3 c5.2,qFf a10 x9 c11,GF] Unit (fun _=>qFc r.1) (fun _=>[⟨g2,85,[qFd a4 x3 c5.1,qFc x6,qFc x7,qFc x8,qFd a10 x9 c11,.string (bstr r.2)]⟩,⟨g1,83,[qFe g2]⟩,⟨g13,107,[.func (.func 67) #[] #[]]⟩]) (fun _=>[]):=by
 refine pureMA func94 ntmps94 hm fun _=>?_
 refine au [56,81,1,28,4] ?_
 intro x36 e36 b37 o38 h39
 replace h39:a10=some ⟨b37,o38,none⟩:=h39
 refine au [37,13,24,15,0,24,15,1,6,2,15,3,26,8,4] ?_
 refine vl 5 h39 e36 ?_
 refine qz 6 (qFc x36) [] rfl rfl rfl (qS (j:=0) rfl tf3 rfl rfl (fun _=>rfl) rfl) ?_
 refine au [13,7] ?_
 refine zL [x36] (fun a40 c41=>?_)
 refine au [0,31,1,13,8,30,10] ?_
 intro x42 e42 _
 refine aw [0,37,14,6,9,16,19,2,10] ?_ ?_
 exact az [45,58,25,14]
 refine au [82,37,15,28,12,0,26,8,1,6,2,15,3,15,4] ?_
 refine qC 5 (.agg #[.slice a4 x3.length c5.1]) rfl rfl rfl (qA (i:=0) rfl tf24 rfl rfl (by simp) rfl) ?_
 refine au [13,6] ?_
 refine qkx EnC.e rfl rfl rfl rfl (fun x46 e46=>qle F x3 a4 c5 x46 e46) (.consF 1 rfl .nil) (fun x46 e46=>?_)
 rintro ⟨a47,c48⟩
 refine au [0,31,1,6,7,6,8,6,9,6,10,65,2,1,29,4] ?_
 intro x58 e58 b59 o60 h61
 replace h61:a10=some ⟨b59,o60,none⟩:=h61
 refine au [30,0] ?_
 intro x62 e62 g63 h64
 replace h64:a47=some ⟨g63,0,none⟩:=h64
 have h65:=zP (k:=x46.1.length) (c:=c48) h64
 refine kC mixed [13] _ _ (.cons 1 rfl (.cons 1 rfl .nil)) (qh 0 rfl (qh 1 rfl (qh 2 rfl (qh 3 rfl (qh 4 rfl (qF 0 rfl (qo (qD .i64) e62 h64) (qgV 0 rfl qg))))))) 14 rfl ?_
 refine au [24,15,0,6,1,24,15,2,6,3,15,4] ?_
 refine qz 5 (qFd a10 x9 c11) [[13]] rfl rfl rfl (kW (j:=6) rfl tf56 rfl rfl (fun _=>rfl) rfl) (vl 6 h61 e58 ?_)
 refine qz 7 (qFc x58) [[13]] rfl rfl rfl (qS (j:=0) rfl tf3 rfl rfl (fun _=>rfl) rfl) (j5 8 h64 e62 ?_)
 refine qz 9 (qFc x62) [[13]] rfl rfl rfl (qS (j:=5) rfl tf3 rfl rfl (fun _=>rfl) rfl) ?_
 refine au [13,10] ?_
 refine vm EnC.e rfl rfl rfl (fun x66 e66=>qf0 x62 x66 e66) (.consF 4 rfl .nil) (fun x66 e66 _=>?_)
 refine au [0] ?_
 refine qc (.cons 1 rfl (.cons 1 rfl .nil)) (qh 0 rfl (qh 1 rfl (qh 2 rfl (qh 3 rfl (qh 4 rfl (qF 0 rfl (qo (qD .i64) e62 h64) (qgV 0 rfl qg))))))) ?_
 exact az [6,11,15,12,13,13,85,38,0,54,2,48,86]
theorem qkS {r:(qFa×qFa×Int)}(hm:qcH F p1=some r) :
    PureM qFj 133 [.agg #[qFd l1 p1 t1]] [] [] [SlN eN56 iN56 1 (qFd l1 p1 t1) p1 n1] ((qFb×Nat)×qFb×Nat) (fun g=>.tuple #[qFd g.1.1 r.1 g.1.2,qFd g.2.1 r.2.1 g.2.2,qFc r.2.2]) (fun _=>[]) (fun g=>[qFg g.1.1 r.1 g.1.2,qFg g.2.1 r.2.1 g.2.2]):=by
 refine qdJ func133 rfl ntmps133 rfl hm (fun w=>?_)
 refine au [64,23] ?_
 intro g4
 refine au [24,6] ?_
 intro g5
 refine au [24,6] ?_
 intro g6
 refine au [81,45,26,6,28,2] ?_
 intro x9 e9 _
 refine aw [5,0,2,1,3,4,25,1,0,2,10] ?_ ?_
 refine au [48,25,5,21,103,25,8] ?_
 exact jE [] ((none,0),none,0) (.inl rfl) rfl .nil (resL (rs:=[.cell 2 56,.cell 3 56,.tmp 4]) rfl (.cell (i:=1) rfl tf56 rfl rfl (fun _=>rfl) rfl (.cell (i:=0) rfl tf56 rfl rfl (fun _=>rfl) rfl (.tmp rfl ResOk.nil))) rfl) (fun h=>by subst h;rfl) (fun h=>by subst h;exact .nil) (fun h=>by subst h;exact (.cons 0 rfl (.cons 0 rfl .nil)))
 refine au [57] ?_
 refine qj [1,2,3,4] [2] [] [0] (fun (((x27,x30),a25,c26,a28,c29):(qFa×qFa)×qFb×Nat×qFb×Nat)=>([],[⟨g6,56,[qFd a25 x27 c26]⟩,⟨g5,56,[qFd a28 x30 c29]⟩],[qFg a25 x27 c26,qFg a28 x30 c29],[],yX F p1 x27 x30)) ?_ ?_
 refine qK [] [2] [0] 10 ?_
 refine au [109,28,3,2,15,4,24,15,5,28,3,6] ?_
 refine vd 3 7 rfl rfl (by kernel_rfl) rfl rfl ?_ ?_
 refine au [26,1] ?_
 intro x0 e0 a0 c0
 refine au [0,26,14] ?_
 refine vd 7 8 rfl rfl (by kernel_rfl) rfl rfl ?_ ?_
 refine au [26,1] ?_
 intro x2 e1 a1 c1
 refine au [0,26,14,13,8,25,5,0,26,14,13,9,85,26,14,54] ?_
 exact qa ((x2,x0),a1,c1,a0,c0)
 refine k8 (m':=((mk 17592186044416 (0:Int) (p1.length:Int)).bind fun x3=>yX F p1 x3 x0)) (rfl) ?_
 refine au [25,5,0,26,14,13,7,26,1] ?_
 intro x3 e2 a3 c2
 refine au [0,26,14,13,9,85,26,14,54] ?_
 exact qa ((x3,x0),a3,c2,a0,c0)
 refine k8 (m':=((mk 17592186044416 (0:Int) (p1.length:Int)).bind fun x4=>((mk 17592186044416 (0:Int) (p1.length:Int)).bind fun x5=>yX F p1 x4 x5))) (Eq.trans (b:=((mk 17592186044416 (0:Int) (p1.length:Int)).bind fun x0=>((mk 17592186044416 (0:Int) (p1.length:Int)).bind fun x2=>yX F p1 x2 x0))) rfl (by generalize (mk 17592186044416 (0:Int) (p1.length:Int))=q0;cases q0 <;> rfl)) ?_
 refine au [26,1] ?_
 intro x4 e3 a4 c4
 refine au [0,26,14,13,3,26,1] ?_
 intro x5 e4 a5 c5
 refine au [0,26,14,13,8,25,5,0,26,14,13,9,85,26,14,54] ?_
 exact qa ((x4,x5),a4,c4,a5,c5)
 rintro ⟨⟨x27,x30⟩,a25,c26,a28,c29⟩
 refine au [39,1,77,30,6] ?_
 intro x98 e98 g99
 refine au [73] ?_
 refine qcs (encs:=(fun (p:Int×Int)=>[.agg #[qFc p.1,qFc p.2]])) (y:=(fun ((x6,x7):(qFa×qFa)) ((x8,x10):Int×Int)=>vT F x6 x7 x8 x10)) (lb:=[qFe g99]) (fun ((x6,x7):(qFa×qFa)) (_:Unit)=>[⟨g4,24,[qFd l1 p1 t1]⟩,⟨g6,56,[qFd a25 x6 c26]⟩,⟨g5,56,[qFd a28 x7 c29]⟩]) (fun ((x6,x7):(qFa×qFa)) (_:Unit)=>[qFg a25 x6 c26,qFg a28 x7 c29]) (fun (_:Empty) (_:Unit)=>[]) (fun (_:Empty) (_:Unit)=>[]) (fun _=>.skip) (x27,x30) () rfl EnC.e (fun _=>rfl) rfl (.cons 0 rfl .nil) (.cons 0 rfl (.cons 0 rfl (.cons 0 rfl .nil))) (.cons 0 rfl (.cons 0 rfl .nil)) (.consF 0 rfl .nil) (fun z hz _ _ _ hY=>qed F hY (x27,x30) () g99 p1 l1 (t1,n1) z hz) ?_ ?_ ?_
 rintro rc1 L1 D1 ⟨x6,x7⟩ _ ⟨x8,x10⟩ z w M _
 try dsimp only
 refine qdN [(1,qFe g4),(2,qFe g5),(3,qFe g6),(4,qFc 0),(20,.agg #[qFd l1 p1 t1]),(21,.func (.func 159) #[] #[qFe g99]),(22,.agg #[qFc x8,qFc x10])] (qn rfl (qn rfl (qn rfl (qn rfl (qn rfl (qn rfl (qn rfl qd5))))))) ?_
 refine au [3,24,6] ?_
 intro g0
 refine au [85,34,7,14,45,28,13,78,28,11] ?_
 intro x11 e5 g1 h0
 refine kJ (j:=1) (y:=x11) (qD .i64) rfl rfl tf3 rfl h0 (qw e5).2.2 (fun _=>rfl) rfl rfl ?_
 refine au [24,0,28,11] ?_
 intro x12 e6 g2 h1
 refine ky (j:=1) (y':=iadd .i64 x11 1) (qD .i64) rfl rfl rfl tf3 rfl h1 (qw e6).2.1 rfl (fun x13 e7 h2=>?_)
 have h3:x13.length=x7.length:=by rw[← e7,qCw]
 refine qt (d:=23) (v:=qFd a28 x13 c29) rfl h2 (q7 (i:=3) (cs':=[qFd a28 x13 c29]) rfl (by simp only[qFd,h2] <;> rfl) ?_)
 refine au [46,3,25,15,78,28,11] ?_
 intro x14 e8 g3 h4
 refine kJ (j:=1) (y:=x14) (qD .i64) rfl rfl tf3 rfl h4 (qw e8).2.2 (fun _=>rfl) rfl rfl ?_
 refine au [24,0,28,11] ?_
 intro x15 e10 g7 h5
 refine ky (j:=1) (y':=iadd .i64 x14 1) (qD .i64) rfl rfl rfl tf3 rfl h5 (qw e10).2.1 rfl (fun x16 e11 h6=>?_)
 have h7:x16.length=x6.length:=by rw[← e11,qCw]
 refine qt (d:=30) (v:=qFd a25 x16 c26) rfl h6 (q7 (i:=2) (cs':=[qFd a25 x16 c26]) rfl (by simp only[qFd,h6] <;> rfl) ?_)
 refine au [115] ?_
 exact vB (rc:=rc1) rfl (.cons 4 rfl .nil) rfl () (.cons 2 rfl (.cons 2 rfl (.cons 2 rfl (.cons 0 rfl (.cons 1 rfl .nil))))) (.cons 0 rfl (.cons 0 rfl .nil))
 rintro ⟨x6,x7⟩ _ _ D1
 refine au [39,63,1,38,1] ?_
 refine qC 0 _ rfl rfl rfl (qA (i:=4) rfl inferInstance rfl rfl (fun _=>rfl) rfl) ?_
 refine au [31,15,1,13,2] ?_
 refine kP (i:=4) rfl rfl rfl inferInstance rfl rfl rfl rfl rfl ?_
 refine au [0,29,6,13,3,30,2,0,29,6,6,4,54,2,8] ?_
 exact jE [D1] ((a28,c29),a25,c26) (.inl rfl) rfl (.cons 0 rfl .nil) (resL (rs:=[.cell 2 56,.cell 3 56,.tmp 4]) rfl (.cell (i:=3) rfl tf56 rfl rfl (fun _=>rfl) rfl (.cell (i:=2) rfl tf56 rfl rfl (fun _=>rfl) rfl (.tmp rfl ResOk.nil))) rfl) (fun h=>by subst h;rfl) (fun h=>by subst h;exact .nil) (fun h=>by subst h;exact (.cons 1 rfl (.cons 0 rfl .nil)))
 intro t;exact t.elim
theorem qld {r:(qFa×Int)}(hm:qdz F p1=some r) :
    Pure qFj 96 [.agg #[qFd l1 p1 t1]] [SlN eN56 iN56 1 (qFd l1 p1 t1) p1 n1] (qFb×Nat) (fun g=>.tuple #[qFd g.1 r.1 g.2,qFc r.2]) (fun g=>[qFg g.1 r.1 g.2]) (fun _=>[]):=by
 refine pureA func96 ntmps96 hm fun _=>?_
 refine au [64,23] ?_
 intro g4
 refine au [5,47,77] ?_
 refine qu qkS ?_
 rintro x5 e5 ⟨⟨a6,c7⟩,a8,c9⟩
 refine aw [4,22,22,22,5,5,5,0,2,1,1,3,4,25,1,0,2,10] ?_ ?_
 refine au [48,5,103] ?_
 exact qy (none,0)
 refine au [97,47] ?_
 refine qP (fun ((x0,a0,c0):qFa×qFb×Nat)=>([(7,qFd a0 x0 c0)],[],[qFg a0 x0 c0],[],qfL F x0)) ?_ ?_
 refine au [14,27,12] ?_
 refine qr [1] [0] [] [0] (fun (((x2,x3),a1,c1):(qFa×qFa)×qFb×Nat)=>([(5,qFd a8 x2 c9),(7,qFd a1 x3 c1)],[],[qFg a8 x2 c9,qFg a1 x3 c1],[])) (x5.2.1,([]:qFa)) (none,0) ?_
 intro k0
 rintro ⟨⟨x2,x3⟩,a1,c1⟩
 refine aw [39,1,1,3,4,24,4,4,24,4,24,3,0,2,10] ?_ ?_
 refine au [57,14,48,31,5] ?_
 intro x4 e0 _
 refine aw [5,0,2,1,1,3,4,24,3,0,2,10] ?_ ?_
 refine au [45,5,58,50,50,25,8] ?_
 exact qy (none,0)
 refine au [57,48,4,26,5] ?_
 intro x6 e1 g0 h0
 refine ky (j:=0) (y':=-1) (qD .i64) rfl rfl rfl tf3 rfl h0 (qw e1).2.1 rfl (fun x7 e2 h1=>?_)
 have h2:x7.length=x2.length:=by rw[← e2,qCw]
 refine qt (d:=5) (v:=qFd a8 x7 c9) rfl h1 (qt (d:=22) (v:=qFd a8 x7 c9) rfl h1 (qt (d:=25) (v:=qFd a8 x7 c9) rfl h1 (qt (d:=29) (v:=qFd a8 x7 c9) rfl h1 ?_)))
 refine au [46] ?_
 refine qj [1,7,8] [0] [1] [0] (fun ((x8,_):qFa×Unit)=>([(5,qFd a8 x8 c9)],[],[qFg a8 x8 c9],[],qa1 F (vW F p1 k0) x3 x4 x8)) ?_ ?_
 refine au [45,78,4,27,2] ?_
 intro x9 e3 g1 b0 o0
 refine au [25,3,84] ?_
 refine qr [1,7,8,36,37] [0] [1] [1,2] (fun (((x10,x11),_):(qFa×Int)×Unit)=>([(5,qFd a8 x10 c9),(38,qFc x11)],[],[qFg a8 x10 c9],[])) (x7,(0:Int)) () ?_
 intro k1
 rintro ⟨⟨x10,x11⟩,_⟩
 refine aw [39,1,3,24,3,0,2,1,10] ?_ ?_
 refine au [83,45,26,2] ?_
 intro x12 e4 b1 o1
 refine au [25,3,47,3,89,28,11] ?_
 intro x13 e6 g2 h3
 refine kJ (j:=1) (y:=x13) (qD .i64) rfl rfl tf3 rfl h3 (qw e6).2.2 (fun _=>rfl) rfl rfl ?_
 refine au [25,9,28,11] ?_
 intro x14 e7 g3 h4
 refine ky (j:=1) (y':=isub .i64 x13 1) (qD .i64) rfl rfl rfl tf3 rfl h4 (qw e7).2.1 rfl (fun x15 e8 h5=>?_)
 have h6:x15.length=x10.length:=by rw[← e8,qCw]
 refine qt (d:=5) (v:=qFd a8 x15 c9) rfl h5 (qt (d:=42) (v:=qFd a8 x15 c9) rfl h5 ?_)
 refine au [0,95] ?_
 exact ql ((x15,iadd .i64 x11 1),())
 refine au [71] ?_
 exact qa (x10,())
 rintro ⟨x8,_⟩
 refine au [39,3,89] ?_
 refine zL [x4] (fun a3 c2=>?_)
 refine zD 1 (qD .i64) rfl underlying56 tf3 rfl rfl rfl rfl rfl (.inl ⟨0,_,rfl⟩) rfl rfl (fun x16 e9 a4 c4=>?_)
 refine au [5,115] ?_
 exact ql ((x8,x16),a4,c4)
 refine au [71] ?_
 exact qa (x3,a1,c1)
 rintro ⟨x0,a0,c0⟩
 refine au [91,5,49] ?_
 exact qy (a0,c0)
theorem qiF (F g1:Nat)(x2:List (qFa))(a3:qFb)(c4:(Nat×List (qFb×Nat)))(x5 x6 x7:Int)(x8:qFa)(a9:qFb)(c10:Nat)(x11:qFa)(r:(Int×qFa))(hm:qaS F x2 x5 x6 x7 x8 x11=some r) :
    PureM qFj 68 [qFe g1] [⟨g1,85,[qFd a3 x2 c4.1,qFc x5,qFc x6,qFc x7,qFd a9 x8 c10,.string (bstr x11)]⟩] [] [SlN eN56 iN56 1 (qFd a3 x2 c4.1) x2 c4.2,qFf a9 x8 c10,GF] Unit (fun _=>qFc r.1) (fun _=>[⟨g1,85,[qFd a3 x2 c4.1,qFc x5,qFc x6,qFc x7,qFd a9 x8 c10,.string (bstr r.2)]⟩]) (fun _=>[]):=by
 refine pureMA func68 ntmps68 hm fun _=>?_
 refine au [64,59,55,9,24,9] ?_
 refine qd qld ?_
 rintro x12 e12 ⟨a13,c14⟩
 refine au [4,79,5,59,89,37,12] ?_
 intro x15 e15 _
 exact az [86]
theorem qdP (F g1 g2:Nat)(x3:List (qFa))(a4:qFb)(c5:(Nat×List (qFb×Nat)))(x6 x7 x8:Int)(x9:qFa)(a10:qFb)(c11:Nat)(x12:qFa)(g13:Nat)(r:(Int×qFa))(hm:kK F x3 x6 x7 x8 x9 x12=some r) :
    PureM qFj 94 [qFe g1,qFe g13] [⟨g1,83,[qFe g2]⟩,⟨g2,85,[qFd a4 x3 c5.1,qFc x6,qFc x7,qFc x8,qFd a10 x9 c11,.string (bstr x12)]⟩,⟨g13,107,[.func (.func 69) #[] #[]]⟩] [] [SlN eN56 iN56 1 (qFd a4 x3 c5.1) x3 c5.2,qFf a10 x9 c11,GF] Unit (fun _=>qFc r.1) (fun _=>[⟨g2,85,[qFd a4 x3 c5.1,qFc x6,qFc x7,qFc x8,qFd a10 x9 c11,.string (bstr r.2)]⟩,⟨g1,83,[qFe g2]⟩,⟨g13,107,[.func (.func 69) #[] #[]]⟩]) (fun _=>[]):=by
 refine pureMA func94 ntmps94 hm fun _=>?_
 refine au [56,81,1,28,4] ?_
 intro x36 e36 b37 o38 h39
 replace h39:a10=some ⟨b37,o38,none⟩:=h39
 refine au [37,13,24,15,0,24,15,1,6,2,15,3,26,8,4] ?_
 refine vl 5 h39 e36 ?_
 refine qz 6 (qFc x36) [] rfl rfl rfl (qS (j:=0) rfl tf3 rfl rfl (fun _=>rfl) rfl) ?_
 refine au [13,7] ?_
 refine zL [x36] (fun a40 c41=>?_)
 refine au [0,31,1,13,8,30,10] ?_
 intro x42 e42 _
 refine aw [0,37,14,6,9,16,19,2,10] ?_ ?_
 exact az [45,58,25,14]
 refine au [82,37,15,28,12,0,26,8,1,6,2,15,3,15,4] ?_
 refine qC 5 (.agg #[.slice a4 x3.length c5.1]) rfl rfl rfl (qA (i:=0) rfl tf24 rfl rfl (by simp) rfl) ?_
 refine au [13,6] ?_
 refine qkx EnC.e rfl rfl rfl rfl (fun x46 e46=>qk6 F x3 a4 c5 x46 e46) (.consF 1 rfl .nil) (fun x46 e46=>?_)
 rintro ⟨a47,c48⟩
 refine au [0,31,1,6,7,6,8,6,9,6,10,65,2,1,29,4] ?_
 intro x58 e58 b59 o60 h61
 replace h61:a10=some ⟨b59,o60,none⟩:=h61
 refine au [30,0] ?_
 intro x62 e62 g63 h64
 replace h64:a47=some ⟨g63,0,none⟩:=h64
 have h65:=zP (k:=x46.1.length) (c:=c48) h64
 refine kC mixed [13] _ _ (.cons 1 rfl (.cons 1 rfl .nil)) (qh 0 rfl (qh 1 rfl (qh 2 rfl (qh 3 rfl (qh 4 rfl (qF 0 rfl (qo (qD .i64) e62 h64) (qgV 0 rfl qg))))))) 14 rfl ?_
 refine au [24,15,0,6,1,24,15,2,6,3,15,4] ?_
 refine qz 5 (qFd a10 x9 c11) [[13]] rfl rfl rfl (kW (j:=6) rfl tf56 rfl rfl (fun _=>rfl) rfl) (vl 6 h61 e58 ?_)
 refine qz 7 (qFc x58) [[13]] rfl rfl rfl (qS (j:=0) rfl tf3 rfl rfl (fun _=>rfl) rfl) (j5 8 h64 e62 ?_)
 refine qz 9 (qFc x62) [[13]] rfl rfl rfl (qS (j:=5) rfl tf3 rfl rfl (fun _=>rfl) rfl) ?_
 refine au [13,10] ?_
 refine vm EnC.e rfl rfl rfl (fun x66 e66=>qf0 x62 x66 e66) (.consF 4 rfl .nil) (fun x66 e66 _=>?_)
 refine au [0] ?_
 refine qc (.cons 1 rfl (.cons 1 rfl .nil)) (qh 0 rfl (qh 1 rfl (qh 2 rfl (qh 3 rfl (qh 4 rfl (qF 0 rfl (qo (qD .i64) e62 h64) (qgV 0 rfl qg))))))) ?_
 exact az [6,11,15,12,13,13,85,38,0,54,2,48,86]
theorem qmn {r:Unit}(hm:qgk F p1=some r) :
    PureM qFj 136 [qFd l1 p1 t1] [] [] [SlN eN56 iN56 1 (qFd l1 p1 t1) p1 n1] Nat (fun g=>.func (.func 179) #[] #[qFe g]) (fun g=>[⟨g,22,[qFd l1 p1 t1]⟩]) (fun _=>[]):=by
 refine pureMA func136 ntmps136 hm fun _=>?_
 refine au [64,23] ?_
 intro g4
 refine au [80,27,5,49] ?_
 exact qM g4
theorem qkR (F:Nat){σ τ:Type}{J:Rounds σ τ}{yy:σ→qFa→Option (σ ⊕ τ)}{L:Nat}(hY:YieldC qFj L (fun (p:qFa)=>[.agg (p.flatMap (eI .i64)).toArray]) J yy)(s0:σ)(gs0:J.γ)(g1:Nat)(x2:List (qFa))(a3:qFb)(c4:(Nat×List (qFb×Nat)))(r:σ ⊕ τ)(hm:qeQ F yy x2 s0=some r) :
    PureM qFj 179 ([.func (.yield L) #[] #[],qFe g1]) ([⟨g1,22,[qFd a3 x2 c4.1]⟩]++J.IB s0 gs0) (J.IR s0 gs0) [J.F,SlN eN56 iN56 1 (qFd a3 x2 c4.1) x2 c4.2] (J.G r) (fun _=>.tuple #[]) (fun g=>[⟨g1,22,[qFd a3 x2 c4.1]⟩]++J.bs r g) (fun g=>J.rs r g):=by
 refine pureMA func179 ntmps179 hm fun _=>?_
 refine au [56,18,84] ?_
 refine jC (fun (((x0,x1),g0):(Int×σ)×J.γ)=>[(0,.func (.yield L) #[] #[]),(1,qFe g1),(11,qFd a3 x2 c4.1),(12,qFc (x2.length:Int)),(13,qFc x0)]) (fun (((x0,x1),g0):(Int×σ)×J.γ)=>[⟨g1,22,[qFd a3 x2 c4.1]⟩]++J.IB x1 g0) (fun (((x0,x1),g0):(Int×σ)×J.γ)=>[]++J.IR x1 g0) (fun (((x0,x1),g0):(Int×σ)×J.γ)=>[SlN eN56 iN56 1 (qFd a3 x2 c4.1) x2 c4.2,J.F]) (fun k (s:(Int×σ)×J.γ)=>qN F yy x2 k s.1) ((0,s0),gs0) F ?_ (hB:=(.cons 0 rfl (qf 0 rfl))) (hR:=(qf 0 rfl)) (hF:=(qi 1 rfl (qi 0 rfl zJ)))
 intro k0
 rintro ⟨⟨x0,x1⟩,g0⟩
 try dsimp only
 refine qbW (m':=jK F yy x2 (qN F yy x2 k0) x0 x1) rfl ?_
 refine aw [1,3,24,3,0,2,1,10] ?_ ?_
 refine au [57] ?_
 refine qdM (fun ((x3,g2):σ×J.γ)=>[(0,.func (.yield L) #[] #[]),(1,qFe g1),(11,qFd a3 x2 c4.1),(12,qFc (x2.length:Int)),(13,qFc x0)]) (fun ((x3,g2):σ×J.γ)=>[⟨g1,22,[qFd a3 x2 c4.1]⟩]++J.IB x3 g2) (fun ((x3,g2):σ×J.γ)=>[]++J.IR x3 g2) (fun ((x3,g2):σ×J.γ)=>[SlN eN56 iN56 1 (qFd a3 x2 c4.1) x2 c4.2,J.F]) (fun ((x3,_):σ×J.γ)=>jN F yy (qN F yy x2 k0) x0 x3) ?_ ?_
 refine au [14,48,27,2] ?_
 intro x4 e0 g3 b0 o0
 refine au [25,3,5,59,84] ?_
 refine jC (fun (((x5,x6),g4):(Int×σ)×J.γ)=>[(0,.func (.yield L) #[] #[]),(1,qFe g1),(3,qFc x0),(4,qFd g3.1 x4 g3.2),(11,qFd a3 x2 c4.1),(12,qFc (x2.length:Int)),(13,qFc x0),(18,qFd g3.1 x4 g3.2),(19,qFc (x4.length:Int)),(20,qFc x5)]) (fun (((x5,x6),g4):(Int×σ)×J.γ)=>[⟨g1,22,[qFd a3 x2 c4.1]⟩]++J.IB x6 g4) (fun (((x5,x6),g4):(Int×σ)×J.γ)=>[]++J.IR x6 g4) (fun (((x5,x6),g4):(Int×σ)×J.γ)=>[qFf g3.1 x4 g3.2,SlN eN56 iN56 1 (qFd a3 x2 c4.1) x2 c4.2,J.F]) (fun k (s:(Int×σ)×J.γ)=>zd F yy (qN F yy x2 k0) x2 x0 x4 k s.1) ((0,x1),g0) F ?_ (hB:=(.cons 0 rfl (qf 0 rfl))) (hR:=(qf 0 rfl)) (hF:=(qi 1 rfl (qi 2 rfl (qi 3 rfl zJ))))
 intro k1
 rintro ⟨⟨x5,x6⟩,g4⟩
 try dsimp only
 refine qbW (m':=jL F yy (qN F yy x2 k0) x2 x0 x4 (zd F yy (qN F yy x2 k0) x2 x0 x4 k1) x5 x6) rfl ?_
 refine aw [1,3,24,3,0,2,1,10] ?_ ?_
 refine au [57] ?_
 refine qdM (fun ((x7,g5):σ×J.γ)=>[(0,.func (.yield L) #[] #[]),(1,qFe g1),(3,qFc x0),(4,qFd g3.1 x4 g3.2),(11,qFd a3 x2 c4.1),(12,qFc (x2.length:Int)),(13,qFc x0),(18,qFd g3.1 x4 g3.2),(19,qFc (x4.length:Int)),(20,qFc x5)]) (fun ((x7,g5):σ×J.γ)=>[⟨g1,22,[qFd a3 x2 c4.1]⟩]++J.IB x7 g5) (fun ((x7,g5):σ×J.γ)=>[]++J.IR x7 g5) (fun ((x7,g5):σ×J.γ)=>[qFf g3.1 x4 g3.2,SlN eN56 iN56 1 (qFd a3 x2 c4.1) x2 c4.2,J.F]) (fun ((x7,_):σ×J.γ)=>jO F yy (zd F yy (qN F yy x2 k0) x2 x0 x4 k1) x5 x7) ?_ ?_
 refine au [14,48,26,2] ?_
 intro x8 e1 b1 o1
 refine au [25,3,5,59,113] ?_
 refine qoV (j:=1) (qD .i64) rfl UnF.u inferInstance rfl rfl rfl rfl rfl ?_
 intro x9 e2 a0 c0
 refine au [84] ?_
 refine jC (fun (((x10,x11),g6):(Int×σ)×J.γ)=>[(0,.func (.yield L) #[] #[]),(1,qFe g1),(3,qFc x0),(4,qFd g3.1 x4 g3.2),(6,qFc x8),(11,qFd a3 x2 c4.1),(12,qFc (x2.length:Int)),(13,qFc x0),(18,qFd g3.1 x4 g3.2),(19,qFc (x4.length:Int)),(20,qFc x5),(28,qFd a0 x9 c0),(29,qFc (x9.length:Int)),(30,qFc x10)]) (fun (((x10,x11),g6):(Int×σ)×J.γ)=>[⟨g1,22,[qFd a3 x2 c4.1]⟩]++J.IB x11 g6) (fun (((x10,x11),g6):(Int×σ)×J.γ)=>[]++J.IR x11 g6) (fun (((x10,x11),g6):(Int×σ)×J.γ)=>[qFf g3.1 x4 g3.2,SlN eN56 iN56 1 (qFd a3 x2 c4.1) x2 c4.2,qFf a0 x9 c0,J.F]) (fun k (s:(Int×σ)×J.γ)=>yf F yy (zd F yy (qN F yy x2 k0) x2 x0 x4 k1) x2 x0 x5 x8 x9 k s.1) ((0,x6),g4) F ?_ (hB:=(.cons 0 rfl (qf 0 rfl))) (hR:=(qf 0 rfl)) (hF:=(qi 2 rfl (qi 3 rfl (qi 0 rfl (qi 4 rfl zJ)))))
 intro k2
 rintro ⟨⟨x10,x11⟩,g6⟩
 try dsimp only
 refine qbW (m':=jM F yy (zd F yy (qN F yy x2 k0) x2 x0 x4 k1) x2 x0 x5 x8 x9 (yf F yy (zd F yy (qN F yy x2 k0) x2 x0 x4 k1) x2 x0 x5 x8 x9 k2) x10 x11) rfl ?_
 refine aw [1,3,24,3,0,2,1,10] ?_ ?_
 refine au [57] ?_
 refine qdM (fun ((x12,g7):σ×J.γ)=>[(0,.func (.yield L) #[] #[]),(1,qFe g1),(3,qFc x0),(4,qFd g3.1 x4 g3.2),(6,qFc x8),(11,qFd a3 x2 c4.1),(12,qFc (x2.length:Int)),(13,qFc x0),(18,qFd g3.1 x4 g3.2),(19,qFc (x4.length:Int)),(20,qFc x5),(28,qFd a0 x9 c0),(29,qFc (x9.length:Int)),(30,qFc x10)]) (fun ((x12,g7):σ×J.γ)=>[⟨g1,22,[qFd a3 x2 c4.1]⟩]++J.IB x12 g7) (fun ((x12,g7):σ×J.γ)=>[]++J.IR x12 g7) (fun ((x12,g7):σ×J.γ)=>[qFf g3.1 x4 g3.2,SlN eN56 iN56 1 (qFd a3 x2 c4.1) x2 c4.2,qFf a0 x9 c0,J.F]) (fun ((x12,_):σ×J.γ)=>jP F yy (yf F yy (zd F yy (qN F yy x2 k0) x2 x0 x4 k1) x2 x0 x5 x8 x9 k2) x10 x12) ?_ ?_
 refine au [14,45,37,10] ?_
 intro x13 e3 b2 o2
 refine au [25,3,80,18,4,37,11] ?_
 intro x14 e4 g8 b3 o3
 refine au [25,3,4,31,14] ?_
 intro x15 e5 _
 refine au [4,79,5,59,4] ?_
 refine j6 4 44 48 [0,1,3,4,6,11,12,13,18,19,20,28,29,30,8] (decide (x0<x8)) ?_ ?_ ?_
 exact az [89,24,3,61]
 exact az [62,7,60]
 refine av [4,26,3] ?_ ?_
 intro h0
 refine kF (k:=49) rfl h0 ?_
 refine au [89,89] ?_
 refine qsc (cells:=([x0,x8,x13]:qFa).flatMap (eI .i64)) rfl underlying188 tf188 tf3 rfl (by kernel_rfl) rfl (qfp hY x11 ([x0,x8,x13]:qFa) g6 (B1:=[⟨g1,22,[qFd a3 x2 c4.1]⟩]) (R1:=[]) (j:=6) rfl rfl rfl rfl rfl rfl rfl (fun x16 _ g9=>?_) (fun x17 _ g9=>?_))
 refine au [25,7,24,11,46] ?_
 refine yh (b:=false) rfl (fun h=>by cases h) (fun _=>?_)
 refine au [11,24,2] ?_
 exact yj (x16,g9) (hB:=(.cons 0 rfl (qf 0 rfl))) (hR:=(qf 0 rfl)) (hF:=(qi 3 rfl (qi 4 rfl (qi 5 rfl (qi 6 rfl zJ)))))
 refine au [25,7,24,11,46] ?_
 refine yh (b:=true) rfl (fun _=>?_) (fun h=>by cases h)
 refine au [8,90,24,5,90,24,5,90,24,5] ?_
 exact jD (B0:=[⟨g1,22,[qFd a3 x2 c4.1]⟩]) (x:=.inr x17) g9 (.inl rfl) (res0 rfl) (.cons 0 rfl (qf 0 rfl)) (qf 0 rfl)
 intro h0
 refine kE (k:=49) rfl h0 ?_
 refine au [69,62,7,24,12,46] ?_
 refine yh (b:=false) rfl (fun h=>by cases h) (fun _=>?_)
 refine au [11,24,2] ?_
 exact yj (x11,g6) (hB:=(.cons 0 rfl (qf 0 rfl))) (hR:=(qf 0 rfl)) (hF:=(qi 3 rfl (qi 4 rfl (qi 5 rfl (qi 6 rfl zJ)))))
 rintro ⟨x12,g7⟩
 refine au [39,94] ?_
 exact vF ((iadd .i64 x10 1,x12),g7) (hB:=(.cons 0 rfl (qf 0 rfl))) (hR:=(qf 0 rfl)) (hF:=(qi 0 rfl (qi 1 rfl (qi 2 rfl (qi 3 rfl zJ)))))
 refine au [71,24,2] ?_
 exact yj (x11,g6) (hB:=(.cons 0 rfl (qf 0 rfl))) (hR:=(qf 0 rfl)) (hF:=(qi 0 rfl (qi 1 rfl (qi 3 rfl zJ))))
 rintro ⟨x7,g5⟩
 refine au [39,94] ?_
 exact vF ((iadd .i64 x5 1,x7),g5) (hB:=(.cons 0 rfl (qf 0 rfl))) (hR:=(qf 0 rfl)) (hF:=(qi 0 rfl (qi 1 rfl (qi 2 rfl zJ))))
 refine au [71,24,2] ?_
 exact yj (x6,g4) (hB:=(.cons 0 rfl (qf 0 rfl))) (hR:=(qf 0 rfl)) (hF:=(qi 1 rfl (qi 2 rfl zJ)))
 rintro ⟨x3,g2⟩
 refine au [39,94] ?_
 exact vF ((iadd .i64 x0 1,x3),g2) (hB:=(.cons 0 rfl (qf 0 rfl))) (hR:=(qf 0 rfl)) (hF:=(qi 0 rfl (qi 1 rfl zJ)))
 refine au [71] ?_
 exact jD (B0:=[⟨g1,22,[qFd a3 x2 c4.1]⟩]) (x:=.inl x1) g0 (.inr rfl) (res0 rfl) (.cons 0 rfl (qf 0 rfl)) (qf 0 rfl)
theorem qmm {r:(qFa×Int×Int)}(hm:qeh F p1=some r) :
    PureM qFj 100 [.agg #[qFd l1 p1 t1]] [] [] [SlN eN56 iN56 1 (qFd l1 p1 t1) p1 n1] (qFb×Nat) (fun g=>.tuple #[qFd g.1 r.1 g.2,qFc r.2.1,qFc r.2.2]) (fun _=>[]) (fun g=>[qFg g.1 r.1 g.2]):=by
 refine qdJ func100 rfl ntmps100 rfl hm (fun w=>?_)
 refine au [64,23] ?_
 intro g4
 refine au [24,6] ?_
 intro g5
 refine au [24,6] ?_
 intro g6
 refine au [81,45,26,6,28,2] ?_
 intro x9 e9 _
 refine aw [5,0,2,1,3,4,25,1,0,2,10] ?_ ?_
 refine au [48,25,5,21,103] ?_
 exact jE [] (none,0) (.inl rfl) rfl .nil (resL (rs:=[.cell 2 56,.cell 3 3,.tmp 4]) rfl (.cell (i:=1) rfl tf56 rfl rfl (fun _=>rfl) rfl (.cell (i:=0) rfl tf3 rfl rfl (fun _=>rfl) rfl (.tmp rfl ResOk.nil))) rfl) (fun h=>by subst h;rfl) (fun h=>by subst h;exact .nil) (fun h=>by subst h;exact (.cons 0 rfl .nil))
 refine au [97,110,24,4,26,1] ?_
 intro x10 e10 a11 c12
 refine au [25,5,46,1,45,26,6,33,1] ?_
 rintro x0 e0 ⟨a0,c0⟩
 refine qu qmn ?_
 intro x2 e1 g0
 refine au [73] ?_
 refine qcs (encs:=(fun (p:qFa)=>[.agg (p.flatMap (eI .i64)).toArray])) (y:=(fun ((x3,x4):(Int×qFa)) (x5:qFa)=>ye F x3 x4 x5)) (lb:=[qFe g0]) (fun ((x3,x4):(Int×qFa)) (_:Unit)=>[⟨g6,3,[qFc x3]⟩,⟨g5,56,[qFd a11 x4 c12]⟩,⟨g4,24,[qFd l1 p1 t1]⟩]) (fun ((x3,x4):(Int×qFa)) (_:Unit)=>[qFg a11 x4 c12]) (fun (_:Empty) (_:Unit)=>[]) (fun (_:Empty) (_:Unit)=>[]) (fun _=>.skip) (0,x10) () rfl EnC.e (fun _=>rfl) rfl (.cons 0 rfl .nil) (.cons 0 rfl (.cons 0 rfl (.cons 0 rfl .nil))) (.cons 1 rfl .nil) (.consG 0 rfl (ko qex) .nil) (fun z hz _ _ _ hY=>qkR F hY (0,x10) () g0 x0 a0 c0 z hz) ?_ ?_ ?_
 rintro rc1 L1 D1 ⟨x3,x4⟩ _ x5 z w M _
 try dsimp only
 refine qdN [(0,.agg #[qFd l1 p1 t1]),(1,qFe g4),(2,qFe g5),(3,qFe g6),(4,qFc 0),(5,qFc x9),(9,.agg #[qFd l1 p1 t1]),(10,qFc x9),(11,qFc x9),(12,.bool ((x9:Int) != 0)),(14,qFe g4),(15,qFd l1 p1 t1),(16,qFc (p1.length:Int)),(17,qFd a11 x10 c12),(18,.agg #[qFd l1 p1 t1]),(19,qFd a0 x0 c0.1),(20,.func (.func 179) #[] #[qFe g0]),(21,.agg (x5.flatMap (eI .i64)).toArray)] (qn rfl (qn rfl (qn rfl (qn rfl (qn rfl (qn rfl (qn rfl (qn rfl (qn rfl (qn rfl (qn rfl (qn rfl (qn rfl (qn rfl (qn rfl (qn rfl (qn rfl (qn rfl qd5)))))))))))))))))) ?_
 refine au [3,24,6] ?_
 intro g1
 refine q7 (i:=0) (cs':=(qCc 3 (0:Int)).flatMap (eI .i64)) rfl rfl (qoU (i:=0) (xs:=(qCc 3 (0:Int))) (k:=3) (qD .i64) rfl qCR rfl ?_)
 refine au [26,11] ?_
 intro h0
 replace h0:=of_decide_eq_true h0
 refine qtV (j:=0) rfl (qCR) (kP (i:=0) rfl rfl rfl tf188 rfl (qAx h0) (qAu (qCR) h0) qAv (qAw (qhd (qCR)) h0) (qoU (i:=0) (xs:=x5) (k:=3) (qD .i64) rfl h0 rfl ?_))
 refine au [0,30,7,14,45,18,24,0,21,46,45,26,11] ?_
 intro h1
 replace h1:=of_decide_eq_true h1
 refine qtV (j:=0) rfl h1 (zX (i:=0) rfl rfl tf188 rfl (qAt (qhd h1)) (by simp) (qAs (qhd h1)) rfl (qoU (i:=0) (xs:=x5) (k:=3) (qD .i64) rfl h1 rfl ?_))
 refine au [4,73] ?_
 refine qr [1,2,3,14,24] [0,1,1,1] [] [0] (fun (((x6,x7),_):(Int×qFa)×Unit)=>([(25,qFc x6)],[⟨g5,56,[qFd a11 x7 c12]⟩],[qFg a11 x7 c12],[])) ((0:Int),x4) () ?_
 intro k0
 rintro ⟨⟨x6,x7⟩,_⟩
 refine aw [39,1,3,24,3,0,2,1,10] ?_ ?_
 refine au [83,45,26,11] ?_
 intro h2
 replace h2:=of_decide_eq_true h2
 refine qsf rfl underlying188 tf3 rfl rfl h2 rfl (fun x8 e2=>?_)
 refine au [47,3,34,0,4,26,5] ?_
 intro x11 e3 g2 h3
 refine kJ (j:=0) (y:=x11) (qD .i64) rfl rfl tf3 rfl h3 (qw e3).2.2 (fun _=>rfl) rfl rfl ?_
 refine au [24,0,26,5] ?_
 intro x12 e4 g3 h4
 refine ky (j:=0) (y':=iadd .i64 x11 1) (qD .i64) rfl rfl rfl tf3 rfl h4 (qw e4).2.1 rfl (fun x13 e5 h5=>?_)
 have h6:x13.length=x7.length:=by rw[← e5,qCw]
 refine qt (d:=28) (v:=qFd a11 x13 c12) rfl h5 (q7 (i:=4) (cs':=[qFd a11 x13 c12]) rfl (by simp only[qFd,h5] <;> rfl) ?_)
 refine au [0,95] ?_
 exact ql ((iadd .i64 x6 1,x13),())
 refine au [71,24,2] ?_
 exact vB (rc:=rc1) rfl (.cons 2 rfl .nil) rfl () (.cons 1 rfl (.cons 3 rfl (.cons 1 rfl (.cons 0 rfl (.cons 0 rfl .nil))))) (.cons 0 rfl .nil)
 rintro ⟨x3,x4⟩ _ _ D1
 refine au [39,63,1,38,1,31,15,0,28,12,1,13,2,30,2,0,29,6,13,3,27,9,0,29,6,6,4,54,2,8] ?_
 exact jE [D1] (a11,c12) (.inl rfl) rfl (.cons 0 rfl .nil) (resL (rs:=[.cell 2 56,.cell 3 3,.tmp 4]) rfl (.cell (i:=2) rfl tf56 rfl rfl (fun _=>rfl) rfl (.cell (i:=1) rfl tf3 rfl rfl (fun _=>rfl) rfl (.tmp rfl ResOk.nil))) rfl) (fun h=>by subst h;rfl) (fun h=>by subst h;exact .nil) (fun h=>by subst h;exact (.cons 0 rfl .nil))
 intro t;exact t.elim
theorem qiq (F g1:Nat)(x2:List (qFa))(a3:qFb)(c4:(Nat×List (qFb×Nat)))(x5 x6 x7:Int)(x8:qFa)(a9:qFb)(c10:Nat)(x11:qFa)(r:(Int×qFa))(hm:qak F x2 x5 x6 x7 x8 x11=some r) :
    PureM qFj 70 [qFe g1] [⟨g1,85,[qFd a3 x2 c4.1,qFc x5,qFc x6,qFc x7,qFd a9 x8 c10,.string (bstr x11)]⟩] [] [SlN eN56 iN56 1 (qFd a3 x2 c4.1) x2 c4.2,qFf a9 x8 c10,GF] Unit (fun _=>qFc r.1) (fun _=>[⟨g1,85,[qFd a3 x2 c4.1,qFc x5,qFc x6,qFc x7,qFd a9 x8 c10,.string (bstr r.2)]⟩]) (fun _=>[]):=by
 refine pureMA func70 ntmps70 hm fun _=>?_
 refine au [64,59,55,9,24,9] ?_
 refine qu qmm ?_
 rintro x12 e12 ⟨a13,c14⟩
 refine au [4,79,22,5,5,59,4] ?_
 refine vm EnC.e rfl rfl rfl (fun x15 e15=>qf0 x12.2.1 x15 e15) (.consF 2 rfl .nil) (fun x15 e15 _=>?_)
 exact az [55,21,98,86]
end Go.Proofs.YthibchijlpflmaaGreatDoor
