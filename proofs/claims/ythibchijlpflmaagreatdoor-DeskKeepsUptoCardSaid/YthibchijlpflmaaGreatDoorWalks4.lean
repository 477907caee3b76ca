/- Each Go function of this seat computes what its model says, part 4. -/
import Derived.Test.YthibchijlpflmaaGreatDoorWalks3
open List renaming length_set→qCw
namespace Go.Proofs.YthibchijlpflmaaGreatDoor
open Go SX
open Go.Proofs.Tryz
open Go.Proofs.Tryz renaming prog→qFj
set_option maxHeartbeats 4000000
set_option linter.unusedSimpArgs false
variable {F t1 t2 t3 t4:Nat}{m1 m2 m3 m4:qFa}{l1 l2 l3 l4:qFb}{i1 i2 i3 i4 i5 i6 i7 i8 i9 i10 i11:Int}{p1:List (qFa)}{n1:List (qFb×Nat)}{d1:Bool}{w1:List (Int×Int)}
theorem qq6 {r:(Int×Int×Int×Int×qFa×Int×qFa×Bool)}(hm:qfB F m1 i1=some r) :
    Pure qFj 194 [qFd l1 m1 t1,qFc i1] [qFf l1 m1 t1] ((qFb×Nat)×qFb×Nat) (fun g=>.tuple #[.agg #[qFc r.1,qFc r.2.1,qFc r.2.2.1,qFc r.2.2.2.1,qFd g.1.1 r.2.2.2.2.1 g.1.2,qFc r.2.2.2.2.2.1,qFd g.2.1 r.2.2.2.2.2.2.1 g.2.2],.bool r.2.2.2.2.2.2.2]) (fun g=>[qFi g.1.1 r.2.2.2.2.1 g.1.2,qFi g.2.1 r.2.2.2.2.2.2.1 g.2.2]) (fun _=>[]):=by
 refine pureA func194 ntmps194 hm fun _=>?_
 refine au [56,24,6] ?_
 intro g5
 refine au [59,74,4,74,35,6] ?_
 intro x6 e6 _
 refine qJ [qFc (m1.length:Int),qFc i1,qFc x6,qFc 0,.slice none 0 0,qFc 0,.slice none 0 0] ?_
 refine au [24,6] ?_
 intro g7
 refine au [21,98,78,26,11] ?_
 intro h8
 refine qjO rfl rfl rfl rfl h8 ?_
 refine au [24,0,81,45,78,78,27,11,25,2,4] ?_
 refine zT 6 30 36 [0,4,6,7] (decide (8192<(iadd .i64 (m1.length:Int) (iadd .i64 (ishr .i64 i1 x6) 1)))) ?_ ?_ ?_
 exact az [69,7,61]
 exact az [78,113,106]
 refine aw [0,2,10] ?_ ?_
 refine au [45] ?_
 refine qJ [qFc 0,qFc 0,qFc 0,qFc 0,.slice none 0 0,qFc 0,.slice none 0 0] ?_
 exact az [25,5,58,114,35,7]
 refine au [97] ?_
 refine qJ [qFc 0,.slice none 0 0,qFc 0] ?_
 refine au [23] ?_
 intro g12
 refine au [47] ?_
 refine qj [4,6,7,8] [2] [] [] (fun (((x0,x2,x3,x5,x7),a0,c0,a1,c1):(Int×qFa×Int×Int×qFa)×qFb×Nat×qFb×Nat)=>([],[⟨g12,302,[qFc x0,qFd a0 x2 c0,qFc x3]⟩,⟨g7,69,[qFc (m1.length:Int),qFc i1,qFc x6,qFc x5,qFd a1 x7 c1,qFc 0,.slice none 0 0]⟩],[qFi a0 x2 c0,qFi a1 x7 c1],[],qgp F m1 i1 x6 x0 x2 x3 x5 x7)) ?_ ?_
 refine au [48,84,30,12,30,12] ?_
 refine qr [4,6,7,8,40,41] [2] [] [0] (fun (((x8,x9,x10,x11,x12,x13),a3,c2,a4,c4):(Int×Int×qFa×Int×Int×qFa)×qFb×Nat×qFb×Nat)=>([(42,qFc x8)],[⟨g12,302,[qFc x9,qFd a3 x10 c2,qFc x11]⟩,⟨g7,69,[qFc (m1.length:Int),qFc i1,qFc x6,qFc x12,qFd a4 x13 c4,qFc 0,.slice none 0 0]⟩],[qFi a3 x10 c2,qFi a4 x13 c4],[])) ((0:Int),(0:Int),([]:qFa),(0:Int),(0:Int),([]:qFa)) (none,0,none,0) ?_
 intro k0
 rintro ⟨⟨x8,x9,x10,x11,x12,x13⟩,a3,c2,a4,c4⟩
 refine aw [39,1,3,24,3,0,2,1,10] ?_ ?_
 refine au [83,45,26,2] ?_
 intro x14 e0 b0 o0
 refine au [25,3,81,28,6] ?_
 intro h0
 refine kC mixed [13] _ _ (.cons 0 rfl (.cons 0 rfl .nil)) (qh 0 rfl (qh 1 rfl (qgV 2 rfl qg))) 14 rfl ?_
 refine au [15,0] ?_
 refine qz 1 (.agg #[qFc x12,.slice a4 x13.length c4]) [[13]] rfl rfl rfl (kW (j:=2) rfl tf65 rfl rfl (by simp) rfl) ?_
 refine au [6,2,15,3] ?_
 refine qz 4 (qFc x6) [[13]] rfl rfl rfl (kW (j:=2) rfl tf3 rfl rfl (fun _=>rfl) rfl) (qb 5 (qFc (ishl .i64 1 x6)) rfl rfl rfl (qi3 rfl rfl h0) ?_)
 refine au [67,33,13,8,15,9] ?_
 refine qz 10 (qFc x6) [[13]] rfl rfl rfl (kW (j:=2) rfl tf3 rfl rfl (fun _=>rfl) rfl) ?_
 refine au [13,11,28,14] ?_
 rintro x15 e1 ⟨a5,c5⟩
 refine au [0] ?_
 refine qc (.cons 0 rfl (.cons 0 rfl .nil)) (qh 0 rfl (qh 1 rfl (qgV 2 rfl qg))) ?_
 refine au [15,12,13,13,27,9,0] ?_
 refine kZ 13 rfl (by kernel_rfl) (.cons 0 rfl (.cons 0 rfl .nil)) ?_
 refine au [54,2,48,4,110,26,11] ?_
 intro h1
 refine qjO rfl rfl rfl rfl h1 ?_
 refine au [35,8] ?_
 rintro x16 e2 ⟨a6,c6⟩
 refine au [46,3,89,55,24,9,28,14] ?_
 rintro x17 e3 ⟨a7,c7⟩
 refine au [55,85,95] ?_
 exact ql ((iadd .i64 x8 1,x17.1,x17.2,x16.2.2,x15.1,x15.2),a7,c7,a5,c5)
 refine au [71] ?_
 exact qa ((x9,x10,x11,x12,x13),a3,c2,a4,c4)
 rintro ⟨⟨x0,x2,x3,x5,x7⟩,a0,c0,a1,c1⟩
 refine au [91,4,35,8] ?_
 rintro x18 e4 ⟨a8,c8⟩
 refine au [98,55,24,9,9,27,9,46,45,26,6,25,5,49] ?_
 exact kq ((a1,c1),a8,c8) 1
theorem qnI {r:(Int×Int×Int×Int×qFa×Int×qFa×Int)}(hm:qdd F m1 i1=some r) :
    Pure qFj 166 [qFd l1 m1 t1,qFc i1] [qFf l1 m1 t1] ((qFb×Nat)×qFb×Nat) (fun g=>.tuple #[.agg #[qFc r.1,qFc r.2.1,qFc r.2.2.1,qFc r.2.2.2.1,qFd g.1.1 r.2.2.2.2.1 g.1.2,qFc r.2.2.2.2.2.1,qFd g.2.1 r.2.2.2.2.2.2.1 g.2.2],qFc r.2.2.2.2.2.2.2]) (fun g=>[qFi g.1.1 r.2.2.2.2.1 g.1.2,qFi g.2.1 r.2.2.2.2.2.2.1 g.2.2]) (fun _=>[]):=by
 refine pureA func166 ntmps166 hm fun _=>?_
 refine au [56,24,6] ?_
 intro g5
 refine au [81,48,4,35,9] ?_
 intro x8 e8 _
 refine aw [5,0,2,1,3,4,25,1,0,2,10] ?_ ?_
 refine au [45] ?_
 refine qJ [qFc 0,qFc 0,qFc 0,qFc 0,.slice none 0 0,qFc 0,.slice none 0 0] ?_
 refine au [4,21,58,114] ?_
 exact kq ((none,0),none,0) 0
 refine au [57,48,4,35,10] ?_
 rintro x9 e9 ⟨⟨a10,c11⟩,a12,c13⟩
 refine au [4,79,24,6] ?_
 intro g14
 refine aw [21,5,0,2,1,1,3,4,25,7,0,2,10] ?_ ?_
 refine au [45] ?_
 refine qJ [qFc 0,qFc 0,qFc 0,qFc 0,.slice none 0 0,qFc 0,.slice none 0 0] ?_
 exact az [25,5,58,114,35,7]
 refine au [57,77,25,5,49] ?_
 exact kq ((a10,c11),a12,c13) 1
theorem qmB {r:(Int×Int×Int×Int×Int×qFa×Int×Int×Int×Int×qFa×Int×qFa×Int)}(hm:qbt F p1 i1 i2 i3 i4 i5 m1=some r) :
    PureM qFj 122 [.agg #[qFd l1 p1 t1],.agg #[qFc i1,qFc i2,qFc i3,qFc i4,qFc i5,qFd l2 m1 t2]] [] [qFi l2 m1 t2] [SlN eN56 iN56 1 (qFd l1 p1 t1) p1 n1] ((qFb×Nat)×(qFb×Nat)×qFb×Nat) (fun g=>.tuple #[.agg #[qFc r.1,qFc r.2.1,qFc r.2.2.1,qFc r.2.2.2.1,qFc r.2.2.2.2.1,qFd g.1.1 r.2.2.2.2.2.1 g.1.2,qFc r.2.2.2.2.2.2.1,qFc r.2.2.2.2.2.2.2.1,qFc r.2.2.2.2.2.2.2.2.1,qFc r.2.2.2.2.2.2.2.2.2.1,qFd g.2.1.1 r.2.2.2.2.2.2.2.2.2.2.1 g.2.1.2,qFc r.2.2.2.2.2.2.2.2.2.2.2.1,qFd g.2.2.1 r.2.2.2.2.2.2.2.2.2.2.2.2.1 g.2.2.2],qFc r.2.2.2.2.2.2.2.2.2.2.2.2.2]) (fun _=>[]) (fun g=>[qFi g.1.1 r.2.2.2.2.2.1 g.1.2,qFi g.2.1.1 r.2.2.2.2.2.2.2.2.2.2.1 g.2.1.2,qFi g.2.2.1 r.2.2.2.2.2.2.2.2.2.2.2.2.1 g.2.2.2]):=by
 refine pureMA func122 ntmps122 hm fun _=>?_
 refine au [96] ?_
 intro g12
 refine au [23] ?_
 intro g13
 refine au [24,6] ?_
 intro g14
 refine au [80,26,6,9,25,10,35,11] ?_
 rintro x15 e15 ⟨⟨a16,c17⟩,a18,c19⟩
 refine aw [4,22,22,22,5,5,5,0,2,1,1,3,4,25,1,0,2,10] ?_ ?_
 refine au [45] ?_
 refine qJ [qFc 0,qFc 0,qFc 0,qFc 0,qFc 0,.slice none 0 0,qFc 0,qFc 0,qFc 0,qFc 0,.slice none 0 0,qFc 0,.slice none 0 0] ?_
 refine au [4,21,58,114,26,0] ?_
 exact yG ((none,0),(none,0),none,0) (resL (rs:=[.cell 4 71,.tmp 5]) rfl (.cell (i:=0) rfl tf71 rfl rfl (by simp) rfl (.tmp rfl ResOk.nil)) rfl) (hR:=fun h=>by subst h;exact (.cons 0 rfl (.cons 0 rfl (.cons 0 rfl .nil))))
 refine au [57,48,9,99,35,12] ?_
 rintro x21 e21 ⟨⟨a22,c23⟩,a24,c25⟩
 refine au [4,79,24,6] ?_
 intro g26
 refine aw [21,5,0,2,1,1,3,4,25,1,0,2,10] ?_ ?_
 refine au [45] ?_
 refine qJ [qFc 0,qFc 0,qFc 0,qFc 0,qFc 0,.slice none 0 0,qFc 0,qFc 0,qFc 0,qFc 0,.slice none 0 0,qFc 0,.slice none 0 0] ?_
 refine au [4,25,5,58,114,26,0] ?_
 exact yG ((none,0),(none,0),none,0) (resL (rs:=[.cell 4 71,.tmp 5]) rfl (.cell (i:=1) rfl tf71 rfl rfl (by simp) rfl (.tmp rfl ResOk.nil)) rfl) (hR:=fun h=>by subst h;exact (.cons 0 rfl (.cons 0 rfl (.cons 0 rfl .nil))))
 refine au [97,26,6,24,9] ?_
 refine qJ [qFc i1,qFc i2,qFc i3,qFc i4,qFc i5,qFd l2 m1 t2,qFc x21.1,qFc x21.2.1,qFc x21.2.2.1,qFc x21.2.2.2.1,qFd a22 x21.2.2.2.2.1 c23,qFc x21.2.2.2.2.2.1,qFd a24 x21.2.2.2.2.2.2.1 c25] ?_
 refine au [25,5,49] ?_
 exact yG ((l2,t2),(a22,c23),a24,c25) (resL (rs:=[.cell 4 71,.tmp 5]) rfl (.cell (i:=1) rfl tf71 rfl rfl (by simp) rfl (.tmp rfl ResOk.nil)) rfl) (hR:=fun h=>by subst h;exact (.cons 4 rfl (.cons 0 rfl (.cons 0 rfl .nil))))
theorem qmz {r:(Int×Int×Int×Int×Int×qFa×Int×Int×Int×Int×qFa×Int×qFa×Int)}(hm:qcC F p1 i1 i2 i3=some r) :
    Pure qFj 88 [.agg #[qFd l1 p1 t1],.agg #[qFc i1,qFc i2,qFc i3]] [SlN eN56 iN56 1 (qFd l1 p1 t1) p1 n1] ((qFb×Nat)×(qFb×Nat)×qFb×Nat) (fun g=>.tuple #[.agg #[qFc r.1,qFc r.2.1,qFc r.2.2.1,qFc r.2.2.2.1,qFc r.2.2.2.2.1,qFd g.1.1 r.2.2.2.2.2.1 g.1.2,qFc r.2.2.2.2.2.2.1,qFc r.2.2.2.2.2.2.2.1,qFc r.2.2.2.2.2.2.2.2.1,qFc r.2.2.2.2.2.2.2.2.2.1,qFd g.2.1.1 r.2.2.2.2.2.2.2.2.2.2.1 g.2.1.2,qFc r.2.2.2.2.2.2.2.2.2.2.2.1,qFd g.2.2.1 r.2.2.2.2.2.2.2.2.2.2.2.2.1 g.2.2.2],qFc r.2.2.2.2.2.2.2.2.2.2.2.2.2]) (fun g=>[qFi g.1.1 r.2.2.2.2.2.1 g.1.2,qFi g.2.1.1 r.2.2.2.2.2.2.2.2.2.2.1 g.2.1.2,qFi g.2.2.1 r.2.2.2.2.2.2.2.2.2.2.2.2.1 g.2.2.2]) (fun _=>[]):=by
 refine pureA func88 ntmps88 hm fun _=>?_
 refine au [96] ?_
 intro g7
 refine au [23] ?_
 intro g8
 refine au [24,6] ?_
 intro g9
 refine au [80,26,6,25,10,30,13] ?_
 rintro x10 e10 ⟨a11,c12⟩
 refine au [4,79,24,6] ?_
 intro g13
 refine aw [21,5,0,2,1,1,3,4,25,1,0,2,10] ?_ ?_
 refine au [45] ?_
 refine qJ [qFc 0,qFc 0,qFc 0,qFc 0,qFc 0,.slice none 0 0,qFc 0,qFc 0,qFc 0,qFc 0,.slice none 0 0,qFc 0,.slice none 0 0] ?_
 exact az [4,25,5,58,114,26,0,35,13]
 refine au [97,31,11,24,9] ?_
 refine qu qmB ?_
 rintro x15 e15 ⟨⟨a16,c17⟩,⟨a18,c19⟩,a20,c21⟩
 refine au [79,25,5,49] ?_
 exact kq ((a16,c17),(a18,c19),a20,c21) 1
theorem qnD (hm:qci F i1 m1=some i2) :
    qFk 237 [.agg #[qFc i1,qFd l1 m1 t1]] [qFh l1 m1 t1] (qFc i2):=by
 refine pureA func237 ntmps237 hm fun _=>?_
 refine au [64,23] ?_
 intro g5
 refine au [81,14,45,78,24,3,4] ?_
 refine zT 4 7 11 [1] (decide (8192<i1)) ?_ ?_ ?_
 exact az [62,7,61]
 exact az [78,106]
 refine aw [5,0,2,10] ?_ ?_
 exact az [45,49,104]
 refine aw [1,3,9,18,24,4,9,18,24,0,31,10,25,1,5,0,2,10] ?_ ?_
 exact az [45,49,104]
 refine qP (fun ((x36,_):Bool×Unit)=>([(21,.bool x36)],[],[],[],qa9 F x36)) ?_ ?_
 refine av [30,1] ?_ ?_
 intro h38
 refine au [35,14] ?_
 intro x39 e39 b40 o41 h42
 replace h42:l1=some ⟨b40,o41,none⟩:=h42
 refine au [28,6] ?_
 intro h43
 refine qK [] [0] [0,1] 20 ?_
 refine au [109] ?_
 refine qb 2 (qFc (irem i1 8)) rfl rfl rfl (qpe rfl rfl rfl) ?_
 refine au [6,3,6,4] ?_
 refine yM 26 h38 ?_
 refine au [15,5,24,15,6,15,7,24,15,8,28,3,9,6,10] ?_
 refine vl 11 h42 e39 ?_
 refine qz 12 (.int .u8 x39) [] rfl rfl rfl (qS (j:=0) rfl tf5 rfl rfl (fun _=>rfl) rfl) ?_
 refine au [15,13,24,15,14] ?_
 refine qb 15 (qFc (irem i1 8)) rfl rfl rfl (qpe rfl rfl rfl) (qb 16 (.int .u8 (ishl .u8 x39 (irem i1 8))) rfl rfl rfl (qi3 rfl rfl h43) ?_)
 refine au [6,17,6,18,6,19,54] ?_
 exact qa ((((ishl .u8 x39 (irem i1 8)):Int) != 0),())
 intro h38
 refine qK [] [0] [0] 20 ?_
 refine au [109] ?_
 refine qb 2 (qFc (irem i1 8)) rfl rfl rfl (qpe rfl rfl rfl) ?_
 refine au [6,3,6,4] ?_
 refine yM 26 h38 ?_
 refine au [20,5,20,6,20,7,20,8,20,9,20,10,20,11,20,12,20,13,20,14,20,15,20,16,20,17,6,18,6,19,54] ?_
 exact qa (false,())
 rintro ⟨x36,_⟩
 refine aw [39,10] ?_ ?_
 exact az [45,49,104]
 exact az [11,63,45,68]
theorem qnO (hm:qfb F i1 i2 i3 i4 i5 m1=some i6) :
    qFk 195 [.agg #[qFc i1,qFc i2,qFc i3,qFc i4,qFc i5,qFd l1 m1 t1]] [qFh l1 m1 t1] (qFc i6):=by
 refine pureA func195 ntmps195 hm fun _=>?_
 refine au [64,23] ?_
 intro g9
 refine au [81,45,78,24,3,4] ?_
 refine zT 4 7 11 [1] (decide (100<i1)) ?_ ?_ ?_
 exact az [62,7,61]
 exact az [78,106]
 refine aw [0,2,10] ?_ ?_
 exact az [45,75]
 refine au [82,45,9,24,9,29,10] ?_
 intro x15 e15 _
 refine aw [5,0,2,1,3,4,25,1,0,2,10] ?_ ?_
 exact az [48,75]
 refine au [97,9,24,9,32,4] ?_
 intro x16 e16 _
 exact az [68]
theorem qnZ {r:(Int×Int×Bool)}(hm:qdC F i1 m1 i2=some r) :
    qFk 265 [.agg #[qFc i1,qFd l1 m1 t1],qFc i2] [qFh l1 m1 t1] (.tuple #[.int .u64 r.1,qFc r.2.1,.bool r.2.2]):=by
 refine pureA func265 ntmps265 hm fun _=>?_
 refine au [96] ?_
 intro g6
 refine au [5,5,47] ?_
 refine qP (fun ((_,_):Unit×Unit)=>([],[],[],[],qhx F)) ?_ ?_
 refine au [48,47,14] ?_
 refine qr [1,2] [0] [] [0] (fun ((x33,_):Int×Unit)=>([(7,qFc x33)],[],[],[])) i2 () ?_
 intro k40
 rintro ⟨x33,_⟩
 refine aw [39,1,1,3,4,9,18,24,3,0,2,10] ?_ ?_
 refine au [83,77,4,29,5] ?_
 intro x44 e44 _
 refine aw [25,6,0,2,10] ?_ ?_
 exact az [48,4,25,9,25,11,113,5,5,49,90,104]
 refine au [11,63,3,113,5,0] ?_
 exact ql (iadd .i64 x33 1,())
 exact az [71,26,7]
 rintro ⟨_,_⟩
 exact az [117,5,5,68]
theorem qir (F:Nat)(x1:Int)(x2:qFa)(a3:qFb)(c4:Nat)(x5:Int)(r:(Int×Int×Int))(hm:qcv F x1 x2 x5=some r) :
    qFk 241 [.agg #[qFc x1,qFd a3 x2 c4],qFc x5] [qFh a3 x2 c4] (.tuple #[.int .u64 r.1,qFc r.2.1,qFc r.2.2]):=by
 refine pureA func241 ntmps241 hm fun _=>?_
 refine au [96] ?_
 intro g6
 refine au [5,5,47,77,4,35,15] ?_
 intro x7 e7 _
 refine aw [4,22,22,22,5,5,5,0,2,1,1,3,4,25,7,0,2,10] ?_ ?_
 exact az [45,5,5,75]
 exact az [57,48,4,5,5,68]
theorem qpg {r:(Int×Bool)}(hm:jG F i1 m1 i2 i3=some r) :
    qFk 240 [.agg #[qFc i1,qFd l1 m1 t1],qFc i2,qFc i3] [qFh l1 m1 t1] (.tuple #[.int .u64 r.1,.bool r.2]):=by
 refine pureA func240 ntmps240 hm fun _=>?_
 refine au [111,23] ?_
 intro g7
 refine aw [5,5,0,2,1,1,3,9,18,4,25,9,4,24,3,0,2,10] ?_ ?_
 exact az [45,5,75]
 refine au [57] ?_
 refine qP (fun ((x24,_):Int×Unit)=>([(6,.int .u64 x24)],[],[],[],qfr F x24)) ?_ ?_
 refine au [48,4,73] ?_
 refine qr [1,3,15] [0] [] [0] (fun (((x29,x30),_):(Int×Int)×Unit)=>([(6,.int .u64 x29),(16,qFc x30)],[],[],[])) ((0:Int),(0:Int)) () ?_
 intro k35
 rintro ⟨⟨x29,x30⟩,_⟩
 refine aw [39,1,3,24,3,0,2,1,10] ?_ ?_
 refine au [83,48,47,3,4,34,8,24,9,89,24,0,29,5] ?_
 intro x38 e38 _
 refine au [36,0,5,0,95] ?_
 exact ql ((ior .u64 (ishl .u64 x29 1) x38,iadd .i64 x30 1),())
 refine au [71] ?_
 exact qa (x29,())
 rintro ⟨x24,_⟩
 exact az [91,5,68]
theorem qbY {r:(Int×Int×Int)}(hm:kG F i1 m1 i2=some r) :
    qFk 242 [.func (.func 241) #[] #[],.agg #[qFc i1,qFd l1 m1 t1],qFc i2] [qFh l1 m1 t1] (.tuple #[.int .u64 r.1,qFc r.2.1,qFc r.2.2]):=by
 refine pureA func242 ntmps242 hm fun _=>?_
 refine au [111,23] ?_
 intro g6
 refine au [5,5,59,24,9,4] ?_
 refine qkx EnC.e rfl rfl rfl rfl (fun x7 e7=>qir F i1 m1 l1 t1 i2 x7 e7) (.consF 0 rfl .nil) (fun x7 e7 _=>?_)
 refine aw [4,22,22,22,5,5,5,0,2,1,1,3,4,25,1,0,2,10] ?_ ?_
 exact az [48,5,5,75]
 refine aw [11,2,1,1,3,4,26,4,0,2,10] ?_ ?_
 exact az [45,5,5,75]
 refine au [57,77,89,25,11,30,14] ?_
 intro x10 e10 _
 refine aw [4,22,22,5,5,0,2,1,1,3,4,25,7,0,2,10] ?_ ?_
 exact az [45,5,5,75]
 refine au [82,48,4,26,11] ?_
 intro h15
 refine qij rfl rfl rfl rfl h15 ?_
 refine au [25,9,24,0,116] ?_
 intro x16 e16
 refine qal 12 e16 ?_
 refine aw [0,2,1,3,4,25,2,0,2,10] ?_ ?_
 exact az [45,5,5,75]
 exact az [57,48,89,25,11,24,0,5,5,68]
theorem qjb {r:(Int×Int×Int)}(hm:jT F i1 m1 i2=some r) :
    qFk 200 [.agg #[qFc i1,qFd l1 m1 t1],qFc i2] [qFh l1 m1 t1] (.tuple #[.int .u64 r.1,qFc r.2.1,qFc r.2.2]):=by
 refine pureA func200 ntmps200 hm fun _=>?_
 refine au [96] ?_
 intro g6
 refine au [5,5,47,77,4] ?_
 refine qd qbY ?_
 intro x7 e7 _
 exact az [79,22,5,5,68]
theorem qlb {r:(Int×Int×Bool)}(hm:qfG F i1 i2 i3 i4 i5 m1 i6 i7=some r) :
    qFk 170 [.agg #[qFc i1,qFc i2,qFc i3,qFc i4,qFc i5,qFd l1 m1 t1],qFc i6,qFc i7] [qFh l1 m1 t1] (.tuple #[qFc r.1,qFc r.2.1,.bool r.2.2]):=by
 refine pureA func170 ntmps170 hm fun _=>?_
 refine au [111,23] ?_
 intro g11
 refine aw [5,5,5,0,2,1,1,3,9,9,18,25,6,0,2,10] ?_ ?_
 exact az [48,5,5,75]
 refine au [97,9,24,9,4,36,1] ?_
 intro x13 e13 _
 refine au [4,79,22,5,5,81,48,25,1,4] ?_
 refine kX 9 [7,9] [] [] [] (fun ((x18,_):Bool×Unit)=>([(35,.bool x18)],[],[],[],qeo F x13 x18)) ?_ ?_
 refine qG (os:=_) rfl ?_
 refine av [26,3] ?_ ?_
 intro h17
 refine kF (k:=26) rfl h17 ?_
 refine au [69,69,88] ?_
 exact qa (true,())
 intro h17
 refine kE (k:=26) rfl h17 ?_
 refine au [4,9,78,4,28,10,25,11,25,2,87] ?_
 exact qa ((decide ((iconv .u64 (imin i2 i7))<x13.1)),())
 rintro ⟨x18,_⟩
 try dsimp only
 refine qG (os:=_) rfl ?_
 refine aw [0,2,10] ?_ ?_
 exact az [45,5,5,75]
 exact az [57,48,25,11,4,5,5,68]
theorem qaG (F:Nat)(x1:Bool)(r:(Unit ⊕ Unit))(hm:yH F x1=some r) :
    PureL qFj 245 [.bool x1] [] [] [] lostCh Unit (fun (_:Unit) (_:Unit)=>.tuple #[]) (fun (_:Unit) (_:Unit)=>[]) (fun (_:Unit) (_:Unit)=>[]) (fun (_:Unit)=>[]) r:=by
 refine qhZ func245 rfl ntmps245 rfl hm (fun w=>?_)
 refine aw [25,0,1,3,4,25,7,0,2,10] ?_ ?_
 refine au [3,33,7] ?_
 exact qu7 rfl rfl (qyN _) rfl (qva rfl rfl (qkz .nil))
 refine au [11] ?_
 exact qea () (.inr rfl) (res0 rfl) rfl .nil .nil
theorem yE (F g1:Nat)(x2:Int)(x3:qFa)(a4:qFb)(c5:Nat)(x6 x7:Int)(r:((Int×Int×Int) ⊕ (Int×Int)))(hm:zS F x2 x3 x6 x7=some r) :
    PureL qFj 266 [qFe g1,qFc x7] [⟨g1,263,[qFc x2,qFd a4 x3 c5,qFc x6]⟩] [] [qFh a4 x3 c5] lostCh Unit (fun (r:(Int×Int×Int)) (_:Unit)=>qFc r.1) (fun (r:(Int×Int×Int)) (_:Unit)=>[⟨g1,263,[qFc r.2.1,qFd a4 x3 c5,qFc r.2.2]⟩]) (fun (_:(Int×Int×Int)) (_:Unit)=>[]) (fun (z:Int×Int)=>[⟨g1,263,[qFc z.1,qFd a4 x3 c5,qFc z.2]⟩]) r:=by
 refine qhZ func266 rfl ntmps266 rfl hm (fun w=>?_)
 refine au [56,81] ?_
 refine qK [] [0] [0] 16 ?_
 refine au [70,15,2] ?_
 refine qC 3 (.agg #[qFc x2,.slice a4 x3.length c5]) rfl rfl rfl (qA (i:=0) rfl tf65 rfl rfl (by simp) rfl) ?_
 refine au [6,4,6,5,15,6,24,15,7,13,8,36,1] ?_
 intro x9 e9 _
 refine au [72,6,9,6,10,6,11,100,6,14,6,15,54,2,48,25,6,4] ?_
 refine j6 5 23 28 [0,5,6] (decide (x9.1≤(iconv .u64 x7))) ?_ ?_ ?_
 exact az [89,25,11,28,5,61]
 exact az [69,60]
 refine yi EnC.e rfl rfl rfl (fun x11 e11=>qaG F (((x9.2.2:Int) == 0) && decide (x9.1≤(iconv .u64 x7))) x11 e11) .nil .nil .nil (fun x12 _=>?_) (fun x11 e11=>?_)
 exact az [105]
 intro _
 refine au [98,4,55,21,98,25,11,49] ?_
 exact qea () (.inl rfl) (res1 rfl rfl) rfl (.cons 0 rfl .nil) .nil
theorem qmu (hm:qep F m1 i1=some i2) :
    qFk 289 [qFd l1 m1 t1,qFc i1] [qFf l1 m1 t1] (qFc i2):=by
 refine pureA func289 ntmps289 hm fun _=>?_
 refine aw [24,8,1,3,5,0,2,1,1,3,4,24,4,4,24,0,25,2,0,2,10] ?_ ?_
 exact az [45,75]
 refine au [97,47] ?_
 refine qP (fun ((x99,_):Int×Unit)=>([(1,qFc i1),(5,qFc x99)],[],[],[],qdt F i1 x99)) ?_ ?_
 refine au [48,84] ?_
 refine qr [1,13,14] [] [] [0] (fun (((x0,x2),_):(Int×Int)×Unit)=>([(5,qFc x0),(15,qFc x2)],[],[],[])) ((0:Int),(0:Int)) () ?_
 intro k0
 rintro ⟨⟨x0,x2⟩,_⟩
 refine aw [39,1,3,24,3,0,2,1,10] ?_ ?_
 refine au [83,48,26,2] ?_
 intro x3 e0 b0 o0
 refine au [25,3,5,81,48,24,3,4] ?_
 refine kX 7 [1,5,7,13,14,15] [] [] [1] (fun ((x5,_):Bool×Unit)=>([(29,.bool x5)],[],[],[],qbL F (qbM F m1 i1 k0) i1 x0 x2 x3 x5)) ?_ ?_
 refine qG (os:=_) rfl ?_
 refine av [26,3] ?_ ?_
 intro h0
 refine kF (k:=22) rfl h0 ?_
 refine au [69,62,88] ?_
 exact qa (true,())
 intro h0
 refine kE (k:=22) rfl h0 ?_
 refine au [4,24,3,4] ?_
 refine qjM 3 (decide (x3<1)) [(1,qFc i1),(5,qFc x0),(13,qFd l1 m1 t1),(14,qFc (m1.length:Int)),(15,qFc x2),(7,qFc x3),(22,.bool false),(23,qFc x3),(24,.bool (decide (x3<1))),(25,.bool (decide (x3<1))),(28,.bool (decide (x3<1) && decide (0<x2)))] (fun h1=>?_) (fun h1=>?_) ?_
 refine qG (os:=_) rfl (kF (k:=25) rfl h1 ?_)
 refine au [4,25,2,24,11] ?_
 refine qt (d:=28) (v:=.bool (decide (x3<1) && decide (0<x2))) rfl (by rw[h1];simp only[Bool.true_and]) (qt (d:=25) (v:=.bool (decide (x3<1))) rfl (by simp only[qFd,h1] <;> rfl) ?_)
 exact az [53]
 refine qG (os:=_) rfl (kE (k:=25) rfl h1 ?_)
 refine au [62,24,12] ?_
 refine qt (d:=28) (v:=.bool (decide (x3<1) && decide (0<x2))) rfl (by rw[h1];simp only[Bool.false_and]) (qt (d:=25) (v:=.bool (decide (x3<1))) rfl (by simp only[qFd,h1] <;> rfl) ?_)
 exact az [53]
 refine qG (os:=_) rfl ?_
 refine au [87] ?_
 exact qa ((decide (x3<1) && decide (0<x2)),())
 rintro ⟨x5,_⟩
 try dsimp only
 refine qG (os:=_) rfl ?_
 refine aw [0,2,10] ?_ ?_
 exact az [45,58,90,104]
 refine au [57,3,89,113,28,10,66,24,0,28,10,116] ?_
 intro x6 e1
 refine qal 5 e1 ?_
 refine au [0,95] ?_
 exact ql ((x6,iadd .i64 x2 1),())
 refine au [71] ?_
 exact qa (x0,())
 rintro ⟨x99,_⟩
 refine aw [39,1,1,3,4,4,25,2,0,2,10] ?_ ?_
 exact az [45,75]
 exact az [97,68]
theorem qlc (hm:qfK F m1 m2=some m3) :
    Pure qFj 290 [qFd l1 m1 t1,qFd l2 m2 t2] [qFf l1 m1 t1,qFf l2 m2 t2] (qFb×Nat) (fun g=>qFd g.1 m3 g.2) (fun g=>[qFg g.1 m3 g.2]) (fun _=>[]):=by
 refine pureA func290 ntmps290 hm fun _=>?_
 refine au [56,80,80,47] ?_
 refine qP (fun (((x0,x2,x3),a0,c0,a1,c1):(qFa×qFa×Bool)×qFb×Nat×qFb×Nat)=>([(0,qFd a0 x0 c0),(5,qFd a1 x2 c1),(6,.bool x3)],[],[qFg a1 x2 c1],[qFf a0 x0 c0],qdu F x0 x2 x3)) ?_ ?_
 refine au [48,84,27,12] ?_
 refine qr [9,10] [] [] [1] (fun (((x5,x6,x7,x8),a3,c2,a4,c4):(qFa×qFa×Bool×Int)×qFb×Nat×qFb×Nat)=>([(0,qFd a3 x5 c2),(5,qFd a4 x6 c4),(6,.bool x7),(11,qFc x8)],[],[qFg a4 x6 c4],[qFf a3 x5 c2])) (m1,([]:qFa),true,(0:Int)) (l1,t1,none,0) ?_
 intro k0
 rintro ⟨⟨x5,x6,x7,x8⟩,a3,c2,a4,c4⟩
 refine aw [39,1,3,24,3,0,2,1,10] ?_ ?_
 refine au [83,45,26,2] ?_
 intro x9 e0 b0 o0
 refine au [25,3,47] ?_
 refine qj [0,6,8,9,10,11] [] [] [2,1] (fun ((x10,a6,c5):qFa×qFb×Nat)=>([(5,qFd a6 x10 c5)],[],[qFg a6 x10 c5],[],qaW F (qaX F m2 k0) x5 x7 x8 x9 x10)) ?_ ?_
 refine aw [1,3,4,0,2,10] ?_ ?_
 refine au [3,89,4] ?_
 refine qoV (j:=2) (qD .i64) rfl UnF.u inferInstance rfl rfl rfl rfl rfl ?_
 intro x11 e1 a7 c7
 refine au [31,4] ?_
 intro x12 e2 a8 c8
 refine au [5,0] ?_
 exact qa (x12,a8,c8)
 refine au [11] ?_
 exact qa (x6,a4,c4)
 rintro ⟨x10,a6,c5⟩
 refine au [39,3,89] ?_
 refine qoV (j:=0) (qD .i64) rfl UnF.u inferInstance rfl rfl rfl rfl rfl ?_
 intro x13 e3 a9 c9
 refine au [4,25,7,5,5,0,95] ?_
 exact ql ((x13,x10,(!x7),iadd .i64 x8 1),a9,c9,a6,c5)
 refine au [71] ?_
 exact qa ((x5,x6,x7),a3,c2,a4,c4)
 rintro ⟨⟨x0,x2,x3⟩,a0,c0,a1,c1⟩
 try dsimp only
 refine qP (fun ((x14,a10,c10):qFa×qFb×Nat)=>([(5,qFd a10 x14 c10)],[],[qFg a10 x14 c10],[],qbN F x14)) ?_ ?_
 refine aw [1,3,4,0,2,10] ?_ ?_
 refine au [3,89,31,4] ?_
 intro x15 e4 a11 c11
 refine au [5,0] ?_
 exact qa (x15,a11,c11)
 refine au [11] ?_
 exact qa (x2,a1,c1)
 rintro ⟨x14,a10,c10⟩
 refine au [91,49] ?_
 exact qy (a10,c10)
theorem qnR {r:(qFa×Int)}(hm:qfc F m1 m2=some r) :
    Pure qFj 267 [qFd l1 m1 t1,qFd l2 m2 t2] [qFf l1 m1 t1,qFf l2 m2 t2] (qFb×Nat) (fun g=>.tuple #[qFd g.1 r.1 g.2,qFc r.2]) (fun g=>[qFg g.1 r.1 g.2]) (fun _=>[]):=by
 refine pureA func267 ntmps267 hm fun _=>?_
 refine au [56,5,59,30,3] ?_
 intro x7 e7 _
 refine au [47] ?_
 refine qj [0,1] [] [] [0,1] (fun ((x10,_):Int×Unit)=>([(6,qFc x10)],[],[],[],qbd F m1 m2 x10)) ?_ ?_
 refine aw [1,3,4,25,6,0,2,10] ?_ ?_
 refine au [3,89,24,4] ?_
 refine qd qmu ?_
 intro x16 e16 _
 refine au [5,0] ?_
 exact qa (x16,())
 refine au [11] ?_
 exact qa (x7,())
 rintro ⟨x10,_⟩
 refine aw [39,1,1,3,4,25,1,0,2,10] ?_ ?_
 refine au [48,5,103] ?_
 exact qy (none,0)
 refine au [57,48,4] ?_
 refine qd qlc ?_
 rintro x12 e12 ⟨a13,c14⟩
 refine au [5,49] ?_
 exact qy (a13,c14)
theorem qhF (F g1:Nat)(x2:Int)(x3:qFa)(a4:qFb)(c5:Nat)(x6 x7:Int)(r:((qFa×Int×Int) ⊕ (Int×Int)))(hm:j2 F x2 x3 x6 x7=some r) :
    PureL qFj 268 [qFe g1,qFc x7] [⟨g1,263,[qFc x2,qFd a4 x3 c5,qFc x6]⟩] [] [qFh a4 x3 c5] lostCh (qFb×Nat) (fun (r:(qFa×Int×Int)) (g:qFb×Nat)=>qFd g.1 r.1 g.2) (fun (r:(qFa×Int×Int)) (_:qFb×Nat)=>[⟨g1,263,[qFc r.2.1,qFd a4 x3 c5,qFc r.2.2]⟩]) (fun (r:(qFa×Int×Int)) (g:qFb×Nat)=>[qFg g.1 r.1 g.2]) (fun (z:Int×Int)=>[⟨g1,263,[qFc z.1,qFd a4 x3 c5,qFc z.2]⟩]) r:=by
 refine qhZ func268 rfl ntmps268 rfl hm (fun w=>?_)
 refine au [56,59,113] ?_
 refine yi EnC.e rfl rfl rfl (fun x8 e8=>yE F g1 x2 x3 a4 c5 x6 (iadd .i64 x7 1) x8 e8) (.cons 0 rfl .nil) .nil (.consF 0 rfl .nil) (fun x9 _=>?_) (fun x8 e8=>?_)
 exact az [105]
 intro _
 refine au [26,1] ?_
 intro x10 e10 a11 c12
 refine au [47] ?_
 refine qP (fun (((x72,x73,x74),_):(qFa×Int×Int)×Unit)=>([(5,qFd a11 x72 c12)],[⟨g1,263,[qFc x73,qFd a4 x3 c5,qFc x74]⟩],[qFg a11 x72 c12],[qFh a4 x3 c5],qc1 F x72 x73 x74)) ?_ ?_
 refine au [48,84] ?_
 refine qr [0,1,13] [] [] [0] (fun (((x93,x94,x95,x96),_):(qFa×Int×Int×Int)×Unit)=>([(5,qFd a11 x93 c12),(14,qFc x94)],[⟨g1,263,[qFc x95,qFd a4 x3 c5,qFc x96]⟩],[qFg a11 x93 c12],[])) (x10,(0:Int),x8.2.1,x8.2.2) () ?_
 intro k0
 rintro ⟨⟨x93,x94,x95,x96⟩,_⟩
 refine aw [39,1,3,24,3,0,2,1,10] ?_ ?_
 refine au [83,48,47,3,89,89] ?_
 refine yi EnC.e rfl rfl rfl (fun x0 e0=>yE F g1 x95 x3 a4 c5 x96 x7 x0 e0) (.cons 0 rfl .nil) .nil (.consF 0 rfl .nil) (fun x1 _=>?_) (fun x0 e0=>?_)
 exact az [28,8,25,13,25,13,28,8,105]
 intro _
 refine au [4,28,10,24,0,26,5] ?_
 intro x4 e1 g0 h0
 refine ky (j:=0) (y':=iadd .i64 x0.1 (imin x94 1)) (qD .i64) rfl rfl rfl tf3 rfl h0 (qw e1).2.1 rfl (fun x5 e2 h1=>?_)
 have h2:x5.length=x93.length:=by rw[← e2,qCw]
 refine qt (d:=5) (v:=qFd a11 x5 c12) rfl h1 (qt (d:=17) (v:=qFd a11 x5 c12) rfl h1 ?_)
 refine au [0,95] ?_
 exact ql ((x5,iadd .i64 x94 1,x0.2.1,x0.2.2),())
 refine au [71] ?_
 exact qa ((x93,x95,x96),())
 rintro ⟨⟨x72,x73,x74⟩,_⟩
 refine au [91,49] ?_
 exact qea (a11,c12) (.inl rfl) (res1 rfl rfl) rfl (.cons 0 rfl .nil) (.cons 0 rfl .nil)
theorem qkW (hm:qbl F i1=some i2) :
    qFk 291 [.int .u64 i1] [] (qFc i2):=by
 refine pureA func291 ntmps291 hm fun _=>?_
 refine au [64,59,27,3,25,11,4,28,9,25,11] ?_
 refine qzu rfl rfl rfl ?_
 refine au [34,9,116] ?_
 intro x2 e2
 refine qal 2 e2 ?_
 exact az [46,8,24,1]
theorem qiO (F g1:Nat)(x2:Int)(x3:qFa)(a4:qFb)(c5:Nat)(x6 x7 x8 x9:Int)(r:((List (Int×Int)×Int×Int) ⊕ (Int×Int)))(hm:qa3 F x2 x3 x6 x7 x8 x9=some r) :
    PureL qFj 269 [qFe g1,qFc x7,qFc x8,qFc x9] [⟨g1,263,[qFc x2,qFd a4 x3 c5,qFc x6]⟩] [] [qFh a4 x3 c5] lostCh (qFb×Nat) (fun (r:(List (Int×Int)×Int×Int)) (g:qFb×Nat)=>qFd g.1 r.1 g.2) (fun (r:(List (Int×Int)×Int×Int)) (_:qFb×Nat)=>[⟨g1,263,[qFc r.2.1,qFd a4 x3 c5,qFc r.2.2]⟩]) (fun (r:(List (Int×Int)×Int×Int)) (g:qFb×Nat)=>[Ro eS209 209 2 (qFd g.1 r.1 g.2) r.1]) (fun (z:Int×Int)=>[⟨g1,263,[qFc z.1,qFd a4 x3 c5,qFc z.2]⟩]) r:=by
 refine qhZ func269 rfl ntmps269 rfl hm (fun w=>?_)
 refine au [28,7,45,59,89,26,11] ?_
 intro h10
 refine qo0 rfl rfl rfl rfl h10 (yi EnC.e rfl rfl rfl (fun x11 e11=>yE F g1 x2 x3 a4 c5 x6 (iquo .i64 x9 x8) x11 e11) (.cons 0 rfl .nil) .nil (.consF 0 rfl .nil) (fun x12 _=>?_) (fun x11 e11=>?_))
 exact az [105]
 intro _
 refine qtU qgT (by decide) rfl UnF.u inferInstance rfl rfl rfl rfl rfl rfl ?_
 intro x13 e13 a14 c15
 refine au [59,47] ?_
 refine qP (fun (((x0,x1,x4),_):(List (Int×Int)×Int×Int)×Unit)=>([(9,qFd a14 x0 c15)],[⟨g1,263,[qFc x1,qFd a4 x3 c5,qFc x4]⟩],[Ro eS209 209 2 (qFd a14 x0 c15) x0],[qFh a4 x3 c5],qdU F x0 x1 x4)) ?_ ?_
 refine au [48,84] ?_
 refine qr [0,2,3,21] [] [] [0] (fun (((x5,x10,x14,x15,x16),_):(List (Int×Int)×Int×Int×Int×Int)×Unit)=>([(9,qFd a14 x5 c15),(10,qFc x10),(22,qFc x14)],[⟨g1,263,[qFc x15,qFd a4 x3 c5,qFc x16]⟩],[Ro eS209 209 2 (qFd a14 x5 c15) x5],[])) (x13,x7,(0:Int),x11.2.1,x11.2.2) () ?_
 intro k0
 rintro ⟨⟨x5,x10,x14,x15,x16⟩,_⟩
 refine aw [39,1,3,24,3,0,2,1,10] ?_ ?_
 refine au [83,48,59] ?_
 refine yi EnC.e rfl rfl rfl (fun x17 e0=>yE F g1 x15 x3 a4 c5 x16 2097152 x17 e0) (.cons 0 rfl .nil) .nil (.consF 0 rfl .nil) (fun x18 _=>?_) (fun x17 e0=>?_)
 exact az [25,13,28,8,25,13,25,13,28,8,105]
 intro _
 refine au [47] ?_
 refine qj [0,2,3,9,11,21,22] [0] [0] [0] (fun ((x19,_):Int×Unit)=>([(10,qFc x19)],[],[],[],yA F (yB F x3 x8 x9 x13 k0) x3 x8 x9 x5 x14 x17 x19)) ?_ ?_
 refine aw [1,3,4,25,6,0,2,10] ?_ ?_
 refine au [3,89,25,11,36,2] ?_
 intro x20 e1 _
 refine au [24,0,5,0] ?_
 exact qa (iadd .i64 x10 x20,())
 refine au [3,89,24,0,24,0,5,0] ?_
 exact qa (iadd .i64 x10 (iadd .i64 x17.1 2),())
 rintro ⟨x19,_⟩
 refine au [91,89,89] ?_
 refine yi EnC.e rfl rfl rfl (fun x21 e2=>yE F g1 x17.2.1 x3 a4 c5 x17.2.2 x9 x21 e2) (.cons 0 rfl .nil) .nil (.consF 0 rfl .nil) (fun x22 _=>?_) (fun x21 e2=>?_)
 exact az [25,13,28,8,25,13,25,13,28,8,105]
 intro _
 refine au [113] ?_
 refine qJ [qFc x19,qFc (iadd .i64 x21.1 x8)] ?_
 refine au [26,5] ?_
 intro x23 e3 g0 h0
 refine ky (j:=0) (y':=(x19,iadd .i64 x21.1 x8)) qgT rfl rfl rfl tf209 rfl h0 (qw e3).2.1 rfl (fun x24 e4 h1=>?_)
 have h2:x24.length=x5.length:=by rw[← e4,qCw]
 refine qt (d:=9) (v:=qFd a14 x24 c15) rfl h1 (qt (d:=38) (v:=qFd a14 x24 c15) rfl h1 ?_)
 refine au [46,3,89,4,26,5] ?_
 intro x25 e5 g2 h3
 refine au [9] ?_
 refine qsh (j:=0) (y:=x25) (off:=1) qgT rfl rfl tf3 rfl h3 (qw e5).2.2 rfl (fun _=>rfl) rfl rfl ?_
 refine au [25,9,24,0,5,0,95] ?_
 exact ql ((x24,iadd .i64 x19 (isub .i64 x25.2 1),iadd .i64 x14 1,x21.2.1,x21.2.2),())
 refine au [71] ?_
 exact qa ((x5,x15,x16),())
 rintro ⟨⟨x0,x1,x4⟩,_⟩
 refine au [91,49] ?_
 exact qea (a14,c15) (.inl rfl) (res1 rfl rfl) rfl (.cons 0 rfl .nil) (.cons 0 rfl .nil)
theorem qhy (hm:jh F m1 t1 i1=some m2) :
    PureM qFj 295 [qFd l1 m1 t1,qFc i1] [] [qFg l1 m1 t1] [] (qFb×Nat) (fun g=>qFd g.1 m2 g.2) (fun _=>[]) (fun g=>[qFg g.1 m2 g.2]):=by
 refine pureMA func295 ntmps295 hm fun _=>?_
 refine aw [24,8,1,3,5,0,2,1,1,3,4,24,3,0,2,10] ?_ ?_
 exact az [29,13]
 refine au [57] ?_
 refine qP (fun ((x15,a13,c14):qFa×qFb×Nat)=>([(0,qFd a13 x15 c14)],[],[qFg a13 x15 c14],[],qaa F x15)) ?_ ?_
 refine au [48,4,36,3,4,24,4,25,9,25,9,116] ?_
 intro x16 e16
 refine qal 1 e16 ?_
 refine aw [0,2,1,3,4,25,2,0,2,10] ?_ ?_
 refine au [3,89,36,3,36,4] ?_
 intro x17 e17
 refine au [4] ?_
 refine qxy (y:=(0:Int)) 0 (qD .i64) rfl UnF.u UnF.u inferInstance rfl rfl rfl rfl rfl rfl rfl rfl rfl ?_
 intro x18 e18 a19 c20
 refine au [4,24,4,36,4] ?_
 intro x21 e21
 refine au [5,0] ?_
 exact qa (x21,a19,c20)
 refine au [11] ?_
 exact qa (m1,l1,t1)
 rintro ⟨x15,a13,c14⟩
 refine au [91,49] ?_
 exact qM (a13,c14)
theorem qgO (hm:zU F p1=some m1) :
    Pure qFj 272 [qFd l1 p1 t1] [SlN eN56 iN56 1 (qFd l1 p1 t1) p1 n1] (qFb×Nat) (fun g=>qFd g.1 m1 g.2) (fun g=>[qFg g.1 m1 g.2]) (fun _=>[]):=by
 refine pureA func272 ntmps272 hm fun _=>?_
 refine au [64,80,47] ?_
 refine qj [0] [] [] [0] (fun ((x43,_):Int×Unit)=>([(3,qFc x43)],[],[],[],kM F p1 x43)) ?_ ?_
 refine au [48,84] ?_
 refine qr [0,9,10] [] [] [0] (fun (((x0,x2),_):(Int×Int)×Unit)=>([(3,qFc x0),(11,qFc x2)],[],[],[])) ((0:Int),(0:Int)) () ?_
 intro k0
 rintro ⟨⟨x0,x2⟩,_⟩
 refine aw [39,1,3,24,3,0,2,1,10] ?_ ?_
 refine au [83,45,27,2] ?_
 intro x3 e0 g0 b0 o0
 refine aw [25,3,5,0,2,1,3,4,4,24,4,24,0,5,0,2,1,3,4,24,3,0,2,10] ?_ ?_
 exact az [29,13]
 refine au [11,95] ?_
 exact ql ((iadd .i64 x0 (x3.length:Int),iadd .i64 x2 1),())
 refine au [71] ?_
 exact qa (x0,())
 rintro ⟨x43,_⟩
 refine au [91,26,10] ?_
 refine qu qhy ?_
 rintro x44 e44 ⟨a45,c46⟩
 refine au [47] ?_
 refine qP (fun ((x4,a0,c0):qFa×qFb×Nat)=>([(6,qFd a0 x4 c0)],[],[qFg a0 x4 c0],[],vU F x4)) ?_ ?_
 refine au [48,84] ?_
 refine qr [25,26] [] [] [0] (fun (((x5,x6),a1,c1):(qFa×Int)×qFb×Nat)=>([(6,qFd a1 x5 c1),(27,qFc x6)],[],[qFg a1 x5 c1],[])) (x44,(0:Int)) (a45,c46) ?_
 intro k1
 rintro ⟨⟨x5,x6⟩,a1,c1⟩
 refine aw [39,1,3,24,3,0,2,1,10] ?_ ?_
 refine au [83,45,27,2] ?_
 intro x7 e1 g1 b1 o1
 refine au [25,3,47,3,89] ?_
 refine zD 0 (qD .i64) rfl UnF.u inferInstance rfl rfl rfl rfl rfl (.inr ⟨1,rfl⟩) rfl rfl ?_
 intro x8 e2 a3 c2
 refine au [5,0,95] ?_
 exact ql ((x8,iadd .i64 x6 1),a3,c2)
 refine au [71] ?_
 exact qa (x5,a1,c1)
 rintro ⟨x4,a0,c0⟩
 refine au [91,49] ?_
 exact qy (a0,c0)
theorem qmy (hm:qcB F i1 i2 i3=some d1) :
    qFk 301 [qFc i1,qFc i2,qFc i3] [] (.bool d1):=by
 refine pureA func301 ntmps301 hm fun _=>?_
 refine au [111,59,4,26,4,4] ?_
 refine j6 4 10 14 [] (decide (i1≤i3)) ?_ ?_ ?_
 exact az [89,28,5,61]
 exact az [62,7,60]
 exact az [68]
theorem qmx {r:(qFa×Int)}(hm:qer F w1=some r) :
    Pure qFj 292 [qFd l1 w1 t1] [Sl eS209 2 (qFd l1 w1 t1) w1] (qFb×Nat) (fun g=>.tuple #[qFd g.1 r.1 g.2,qFc r.2]) (fun g=>[qFg g.1 r.1 g.2]) (fun _=>[]):=by
 refine pureA func292 ntmps292 hm fun _=>?_
 refine aw [25,0,1,3,5,5,0,2,1,1,3,4,24,4,25,2,0,2,10] ?_ ?_
 refine au [45,5,103] ?_
 exact qy (none,0)
 refine au [97,47] ?_
 refine qj [0] [] [] [0] (fun ((_,_):Unit×Unit)=>([],[],[],[],qbS F w1)) ?_ ?_
 refine au [48,84] ?_
 refine qr [0,14,15] [] [] [0] (fun (((x0,x2),_):(Int×Int)×Unit)=>([(4,qFc x0),(16,qFc x2)],[],[],[])) ((-2:Int),(0:Int)) () ?_
 intro k0
 rintro ⟨⟨x0,x2⟩,_⟩
 refine aw [39,1,3,24,3,0,2,1,10] ?_ ?_
 refine au [83,45,32,0] ?_
 intro x3 e0 b0 o0
 refine au [29,3,24,6] ?_
 intro g0
 refine au [21,46,1,14] ?_
 refine qj [0,4,6,14,15,16] [0] [] [1] (fun ((x4,_):Bool×Unit)=>([(20,.bool x4)],[],[],[],jX F (qbU F w1 k0) x0 x2 x3 x4)) ?_ ?_
 refine au [45,78,36,5] ?_
 intro x5 e1 _
 refine aw [25,7,5,0,2,10] ?_ ?_
 refine au [11] ?_
 exact qa ((!x5),())
 refine au [45,78,36,5] ?_
 intro x6 e2 _
 refine aw [25,7,5,0,2,10] ?_ ?_
 refine au [11] ?_
 exact qa ((!x6),())
 refine au [3,78,78,24,0,25,9,25,2,5,0] ?_
 exact qa ((decide (1048576<(isub .i64 (iadd .i64 x3.1 x3.2) 1))),())
 rintro ⟨x4,_⟩
 refine aw [39,10] ?_ ?_
 refine au [45,5,49,50,90,50,25,8] ?_
 exact qy (none,0)
 refine aw [1,3,9,18,4,24,0,24,3,5,0,2,10] ?_ ?_
 refine au [45,5,49,50,90,50,25,8] ?_
 exact qy (none,0)
 refine au [11,63,3,78,78,24,0,25,9,5,0,95] ?_
 exact ql ((isub .i64 (iadd .i64 x3.1 x3.2) 1,iadd .i64 x2 1),())
 exact az [71,26,7]
 rintro ⟨_,_⟩
 refine au [117,47] ?_
 refine qP (fun ((x7,a0,c0):qFa×qFb×Nat)=>([(7,qFd a0 x7 c0)],[],[qFg a0 x7 c0],[],qga F x7)) ?_ ?_
 refine au [48,84,27,12] ?_
 refine qr [49,50] [] [] [0] (fun (((x8,x9),a1,c1):(qFa×Int)×qFb×Nat)=>([(7,qFd a1 x8 c1),(51,qFc x9)],[],[qFg a1 x8 c1],[])) (([]:qFa),(0:Int)) (none,0) ?_
 intro k1
 rintro ⟨⟨x8,x9⟩,a1,c1⟩
 refine aw [39,1,3,24,3,0,2,1,10] ?_ ?_
 refine au [57] ?_
 refine qj [49,50,51] [] [] [0] (fun ((x10,a3,c2):qFa×qFb×Nat)=>([(7,qFd a3 x10 c2)],[],[qFg a3 x10 c2],[],qbT F (jY F w1 k1) x9 x10)) ?_ ?_
 refine au [14,45,32,0] ?_
 intro x11 e3 b1 o1
 refine au [29,3,24,6] ?_
 intro g1
 refine au [21,46,45,78,4,73] ?_
 refine qr [9,49,50,51,56] [0] [] [1] (fun (((x12,x13),a4,c4):(qFa×Int)×qFb×Nat)=>([(7,qFd a4 x12 c4),(57,qFc x13)],[],[qFg a4 x12 c4],[])) (x8,(0:Int)) (a1,c1) ?_
 intro k2
 rintro ⟨⟨x12,x13⟩,a4,c4⟩
 refine aw [39,1,3,24,3,0,2,1,10] ?_ ?_
 refine au [83,48,47,3,4,78,113] ?_
 refine zL [iadd .i64 x11.1 x13] (fun a5 c5=>?_)
 refine zD 1 (qD .i64) rfl underlying56 tf3 rfl rfl rfl rfl rfl (.inl ⟨0,_,rfl⟩) rfl rfl (fun x14 e4 a6 c6=>?_)
 refine au [5,0,95] ?_
 exact ql ((x14,iadd .i64 x13 1),a6,c6)
 refine au [71,24,2] ?_
 exact qa (x12,a4,c4)
 rintro ⟨x10,a3,c2⟩
 refine au [39,94] ?_
 exact ql ((x10,iadd .i64 x9 1),a3,c2)
 refine au [71] ?_
 exact qa (x8,a1,c1)
 rintro ⟨x7,a0,c0⟩
 refine au [91,5,49] ?_
 exact qy (a0,c0)
theorem qnT {r:(qFa×Int)}(hm:qfd F w1 m1=some r) :
    Pure qFj 270 [qFd l1 w1 t1,qFd l2 m1 t2] [Sl eS209 2 (qFd l1 w1 t1) w1,qFf l2 m1 t2] (qFb×Nat) (fun g=>.tuple #[qFd g.1 r.1 g.2,qFc r.2]) (fun g=>[qFg g.1 r.1 g.2]) (fun _=>[]):=by
 refine pureA func270 ntmps270 hm fun _=>?_
 refine au [56,5,59] ?_
 refine qd qmx ?_
 rintro x7 e7 ⟨a8,c9⟩
 refine au [4,79,5,47] ?_
 refine qj [1,6] [] [0] [1] (fun ((x12,_):Int×Unit)=>([(7,qFc x12)],[],[],[],qbe F m1 x7 x12)) ?_ ?_
 refine aw [1,3,4,25,6,0,2,10] ?_ ?_
 refine au [3,4,30,3] ?_
 intro x38 e38 _
 refine au [5,0] ?_
 exact qa (x38,())
 refine au [11] ?_
 exact qa (x7.2,())
 rintro ⟨x12,_⟩
 refine aw [39,1,1,3,4,25,1,0,2,10] ?_ ?_
 refine au [48,5,103] ?_
 exact qy (none,0)
 refine au [57,48,4,36,6] ?_
 refine qbr (vs:=[qFd a8 x7.1 c9,qFd l2 m1 t2]) (ys:=([(x7.1,a8,c9),(m1,l2,t2)]:List (qFa×qFb×Nat))) qq (by decide) rfl underlying22 tf56 rfl rfl rfl rfl rfl (by decide) (fun a14 c15=>qnu (inn:=iN56) ([x7.1,m1]:List (qFa)) ([(a8,c9),(l2,t2)]:List (qFb×Nat)) 0 rfl rfl (qi 0 rfl (qi 1 rfl zJ)) ?_)
 refine au [36,7] ?_
 rintro x16 e16 ⟨a17,c18⟩
 refine au [59,31,7] ?_
 intro x19 e19 _
 refine au [26,11] ?_
 intro h20
 replace h20:=of_decide_eq_true h20
 refine qt (d:=8) (v:=qFd a17 x19 c18) rfl (by simp only[qFd,h20] <;> rfl) (qt (d:=24) (v:=qFd a17 x19 c18) rfl (by simp only[qFd,h20] <;> rfl) (qt (d:=25) (v:=qFd a17 x19 c18) rfl (by simp only[qFd,h20] <;> rfl) ?_))
 refine au [46,1,14,48,32,14] ?_
 rintro x29 e29 ⟨a30,c31⟩
 refine au [33,0] ?_
 rintro x32 e32 ⟨a33,c34⟩
 refine aw [24,4,4,24,4,24,3,5,0,2,10] ?_ ?_
 refine au [45,5,49,50,25,8] ?_
 exact qy (none,0)
 refine aw [1,3,4,24,4,25,2,5,0,2,10] ?_ ?_
 refine au [45,5,49,50,25,8] ?_
 exact qy (none,0)
 refine au [11,63,48,5,49] ?_
 exact qy (a17,c18)
theorem qiI {r:(Int×Int×Bool)}(hm:kd F i1 m1 i2 i3=some r) :
    qFk 302 [.agg #[qFc i1,qFd l1 m1 t1],qFc i2,.int .u64 i3] [qFh l1 m1 t1] (.tuple #[.int .u64 r.1,qFc r.2.1,.bool r.2.2]):=by
 refine pureA func302 ntmps302 hm fun _=>?_
 refine au [111,23] ?_
 intro g7
 refine au [5,5,59,34,11] ?_
 intro x8 e8 _
 refine au [4,79,5,47] ?_
 refine qj [1,3,9,10] [0] [] [0] (fun ((_,_):Unit×Unit)=>([],[],[],[],ku F i1 m1 i2 x8)) ?_ ?_
 refine aw [1,3,4,25,2,0,2,10] ?_ ?_
 refine au [77,89,25,9,30,14] ?_
 intro x15 e15 _
 refine aw [4,22,22,5,5,0,2,1,1,3,4,25,7,0,2,10] ?_ ?_
 exact az [45,5,5,58,12,24,1]
 refine aw [11,2,1,3,4,4,24,3,0,2,10] ?_ ?_
 exact az [48,89,24,0,25,9,5,5,75]
 exact az [11,26,7]
 exact az [11,26,7]
 rintro ⟨_,_⟩
 refine au [39,77,89,30,14] ?_
 intro x14 e14 _
 exact az [4,79,5,59,4,25,9,89,66,5,5,68]
theorem qk8 {r:(Int×Int×Int)}(hm:qdk F i1 i2 d1=some r) :
    qFk 303 [.int .u64 i1,qFc i2,.bool d1] [] (.tuple #[.int .u64 r.1,qFc r.2.1,qFc r.2.2]):=by
 refine pureA func303 ntmps303 hm fun _=>?_
 refine aw [26,9,1,3,5,5,5,0,2,1,14,1,3,4,25,7,5,0,2,10] ?_ ?_
 exact az [45,5,5,49,104]
 refine aw [1,3,4,25,2,5,0,2,10] ?_ ?_
 exact az [45,5,5,49,104]
 exact az [11,63,48,4,5,5,68]
theorem qjd {r:(Int×Int×Int)}(hm:qbH F i1 m1 i2 i3=some r) :
    qFk 293 [.agg #[qFc i1,qFd l1 m1 t1],qFc i2,qFc i3] [qFh l1 m1 t1] (.tuple #[.int .u64 r.1,qFc r.2.1,qFc r.2.2]):=by
 refine pureA func293 ntmps293 hm fun _=>?_
 refine au [111,23] ?_
 intro g7
 refine au [5,5,47,77,4,35,15] ?_
 intro x8 e8 _
 refine aw [4,22,22,22,5,5,5,0,2,1,1,3,4,25,7,0,2,10] ?_ ?_
 exact az [45,5,5,75]
 refine aw [11,2,1,1,3,4,4,25,11,27,11,26,4,0,2,10] ?_ ?_
 exact az [45,5,5,75]
 refine au [57,48,25,11,4,27,11,26,11] ?_
 intro h11
 refine qij rfl rfl rfl rfl h11 ?_
 refine au [116] ?_
 intro x12 e12
 refine qal 12 e12 ?_
 refine au [46,1,28,6] ?_
 intro h17
 refine qK [] [0] [0] 15 ?_
 refine qC 0 (.agg #[qFc i1,.slice l1 m1.length t1]) rfl rfl rfl (qA (i:=0) rfl tf65 rfl rfl (by simp) rfl) ?_
 refine au [6,1,6,2,6,3] ?_
 refine qb 4 (.int .u64 (ishl .u64 x12 i3)) rfl rfl rfl (qi3 rfl rfl h17) ?_
 refine au [6,5,6,6,13,7] ?_
 refine qd qiI ?_
 intro x20 e20 _
 refine au [72,6,8,6,9,6,10,6,11,100,6,14,54,2,48,113,25,9,89] ?_
 refine qd qk8 ?_
 intro x21 e21 _
 exact az [79,22,5,5,68]
theorem qiH {r:(Bool×Int×Bool)}(hm:yb F i1 d1 i2=some r) :
    PureM qFj 294 [qFe t1,.int .u64 i2] [⟨t1,359,[qFc i1,.bool d1]⟩] [] [] Unit (fun _=>.bool r.1) (fun _=>[⟨t1,359,[qFc r.2.1,.bool r.2.2]⟩]) (fun _=>[]):=by
 refine pureMA func294 ntmps294 hm fun _=>?_
 refine aw [24,8,1,3,5,0,2,1,1,3,4,25,2,0,2,10] ?_ ?_
 exact az [45,58,25,14]
 refine au [57] ?_
 refine qP (fun ((x8,_):Int×Unit)=>([(0,qFe t1)],[⟨t1,359,[qFc x8,.bool d1]⟩],[],[],yN F x8)) ?_ ?_
 refine aw [1,3,4,24,10,9,18,0,2,10] ?_ ?_
 refine au [3,4,112,4,25,11,24,0,24,0,55,85] ?_
 exact qa (iadd .i64 i1 (iadd .i64 (iconv .i64 i2) 1),())
 refine kC mixed [9] _ _ .nil (qgV 0 rfl qg) 10 rfl ?_
 refine au [70,15,2] ?_
 refine qz 3 (qFc i1) [[9]] rfl rfl rfl (kW (j:=0) rfl tf3 rfl rfl (fun _=>rfl) rfl) ?_
 refine au [6,4,13,5,36,2] ?_
 intro x10 e10 _
 refine au [0,31,13,67,15,8,13,9,85] ?_
 refine kZ 9 rfl (by kernel_rfl) .nil ?_
 refine au [54] ?_
 exact qa (iadd .i64 i1 x10,())
 rintro ⟨x8,_⟩
 refine au [91,55,21,98,112,34,2] ?_
 intro x9 e9 _
 exact az [86]
theorem qpm {r:(qFa×Int×Int)}(hm:qf3 F i1 m1 i2 i3 i4 i5=some r) :
    Pure qFj 271 [.agg #[qFc i1,qFd l1 m1 t1],qFc i2,qFc i3,qFc i4,qFc i5] [qFh l1 m1 t1] (qFb×Nat) (fun g=>.tuple #[qFd g.1 r.1 g.2,qFc r.2.1,qFc r.2.2]) (fun g=>[qFg g.1 r.1 g.2]) (fun _=>[]):=by
 refine pureA func271 ntmps271 hm fun _=>?_
 refine au [32,1,45,23] ?_
 intro g9
 refine au [5,5,59] ?_
 refine qJ [qFc i3,.bool false] ?_
 refine au [23] ?_
 intro g10
 refine au [47] ?_
 refine qP (fun (((x0,x3),a0,c0):(Int×qFa)×qFb×Nat)=>([(1,qFc x0),(10,qFd a0 x3 c0)],[],[qFg a0 x3 c0],[],qfD F x0 x3)) ?_ ?_
 refine au [48,4,73,27,12] ?_
 refine qr [3,5,13,18] [1] [] [0] (fun (((x4,x9,x10,x11,x12),a1,c1):(Int×qFa×Int×Int×Bool)×qFb×Nat)=>([(1,qFc x4),(10,qFd a1 x9 c1),(19,qFc x10)],[⟨g10,359,[qFc x11,.bool x12]⟩],[qFg a1 x9 c1],[])) (i2,([]:qFa),(0:Int),i3,false) (none,0) ?_
 intro k0
 rintro ⟨⟨x4,x9,x10,x11,x12⟩,a1,c1⟩
 refine aw [39,1,3,24,3,0,2,1,10] ?_ ?_
 refine au [83,45,81,77,89] ?_
 refine qd qjd ?_
 intro x13 e0 _
 refine aw [4,22,22,22,5,5,5,0,2,1,3,4,25,1,0,2,10] ?_ ?_
 refine au [48,5,5,58,90,50,25,8] ?_
 exact qy (none,0)
 refine au [82,48,4] ?_
 refine qu qiH ?_
 intro x14 e1 _
 refine aw [25,7,0,2,10] ?_ ?_
 refine au [45,5,5,58,90,50,25,8] ?_
 exact qy (none,0)
 refine au [57,3,89,112] ?_
 refine zL [x14.2.1] (fun a2 c2=>?_)
 refine zD 1 (qD .i64) rfl underlying56 tf3 rfl rfl rfl rfl rfl (.inl ⟨0,_,rfl⟩) rfl rfl (fun x15 e2 a4 c3=>?_)
 refine au [5,0,95] ?_
 exact ql ((x13.2.1,x15,iadd .i64 x10 1,x14.2.1,x14.2.2),a4,c3)
 refine au [71] ?_
 exact qa ((x4,x9),a1,c1)
 rintro ⟨⟨x0,x3⟩,a0,c0⟩
 refine au [91,4,5,5,49] ?_
 exact qy (a0,c0)
theorem qiM (F g1:Nat)(x2:Int)(x3:qFa)(a4:qFb)(c5:Nat)(x6 x7:Int)(x8:qFa)(a9:qFb)(c10:Nat)(x11 x12 x13:Int)(r:((qFa×Int×Int) ⊕ (Int×Int)))(hm:vY F x2 x3 x6 x7 x8 x11 x12 x13=some r) :
    PureL qFj 244 [qFe g1,qFc x7,qFd a9 x8 c10,.agg #[qFc x11,qFc x12,qFc x13]] [⟨g1,263,[qFc x2,qFd a4 x3 c5,qFc x6]⟩] [] [qFh a4 x3 c5,qFf a9 x8 c10] lostCh (qFb×Nat) (fun (r:(qFa×Int×Int)) (g:qFb×Nat)=>qFd g.1 r.1 g.2) (fun (r:(qFa×Int×Int)) (_:qFb×Nat)=>[⟨g1,263,[qFc r.2.1,qFd a4 x3 c5,qFc r.2.2]⟩]) (fun (r:(qFa×Int×Int)) (g:qFb×Nat)=>[qFg g.1 r.1 g.2]) (fun (z:Int×Int)=>[⟨g1,263,[qFc z.1,qFd a4 x3 c5,qFc z.2]⟩]) r:=by
 refine qhZ func244 rfl ntmps244 rfl hm (fun w=>?_)
 refine au [28,7,45,23] ?_
 intro g14
 refine au [59] ?_
 refine yi EnC.e rfl rfl rfl (fun x15 e15=>yE F g1 x2 x3 a4 c5 x6 300 x15 e15) (.cons 1 rfl .nil) .nil (.consF 0 rfl .nil) (fun x16 _=>?_) (fun x15 e15=>?_)
 exact az [105]
 intro _
 refine aw [5,0,2,1,1,3,4,25,6,0,2,10] ?_ ?_
 refine au [45,103] ?_
 exact qea (none,0) (.inl rfl) (res1 rfl rfl) rfl (.cons 0 rfl .nil) (.cons 0 rfl .nil)
 refine au [97,47] ?_
 refine qj [0,1,7,9] [1] [] [0] (fun (((x31,x32,x33),a29,c30):(qFa×Int×Int)×qFb×Nat)=>([(10,qFd a29 x31 c30)],[⟨g1,263,[qFc x32,qFd a4 x3 c5,qFc x33]⟩],[qFg a29 x31 c30],[],yP F x3 x7 x12 x13 x15 x31 x32 x33)) ?_ ?_
 refine aw [1,3,9,25,12,25,2,0,2,10] ?_ ?_
 refine au [45,59,89,24,4] ?_
 refine yi EnC.e rfl rfl rfl (fun x72 e72=>qhF F g1 x15.2.1 x3 a4 c5 x15.2.2 (x8.length:Int) x72 e72) (.cons 0 rfl .nil) .nil (.consF 0 rfl .nil) (fun x73 _=>?_) (fun x72 e72=>?_)
 exact az [25,13,105]
 rintro ⟨a74,c75⟩
 refine qd qnR ?_
 rintro x76 e76 ⟨a77,c78⟩
 refine au [4,79,5,47,3,4,25,6,4] ?_
 refine j6 5 36 41 [0,1,7,9,10] (decide ((x76.1.length:Int)≤x15.1)) ?_ ?_ ?_
 exact az [4,74,28,5,61]
 exact az [69,60]
 refine yi EnC.e rfl rfl rfl (fun x80 e80=>qaG F (((x76.2:Int) == 0) && decide ((x76.1.length:Int)≤x15.1)) x80 e80) .nil .nil .nil (fun x81 _=>?_) (fun x80 e80=>?_)
 exact az [105]
 intro _
 refine au [0] ?_
 exact qa ((x76.1,x72.2.1,x72.2.2),a77,c78)
 refine au [11,25,8] ?_
 exact qa ((([]:qFa),x15.2.1,x15.2.2),none,0)
 rintro ⟨⟨x31,x32,x33⟩,a29,c30⟩
 refine aw [39,1,3,4,4,24,4,25,9,5,0,2,1,1,3,4,25,6,0,2,10] ?_ ?_
 refine au [48,58] ?_
 exact qea (a29,c30) (.inl rfl) (res1 rfl rfl) rfl (.cons 1 rfl .nil) (.cons 0 rfl .nil)
 refine au [97,47] ?_
 refine qj [0,1,7,10,12] [0] [0] [0] (fun (((x42,x43,x44),a40,c41):(List (Int×Int)×Int×Int)×qFb×Nat)=>([(13,qFd a40 x42 c41)],[⟨g1,263,[qFc x43,qFd a4 x3 c5,qFc x44]⟩],[Ro eS209 209 2 (qFd a40 x42 c41) x42],[],yQ F x3 x7 x13 x15 x31 x42 x43 x44)) ?_ ?_
 refine aw [1,3,9,18,25,2,0,2,10] ?_ ?_
 refine au [3,89,78,4] ?_
 refine yi EnC.e rfl rfl rfl (fun x66 e66=>qiO F g1 x32 x3 a4 c5 x33 x7 x12 (isub .i64 x15.1 (x31.length:Int)) x66 e66) (.cons 1 rfl .nil) .nil (.consF 0 rfl .nil) (fun x67 _=>?_) (fun x66 e66=>?_)
 exact az [105]
 rintro ⟨a68,c69⟩
 refine au [5,0] ?_
 exact qa ((x66.1,x66.2.1,x66.2.2),a68,c69)
 refine au [11] ?_
 exact qfZ (Int×Int) eS209 209 2 (qa ((([]:List (Int×Int)),x32,x33),none,0))
 rintro ⟨⟨x42,x43,x44⟩,a40,c41⟩
 refine au [91,26,10] ?_
 refine qd qnT ?_
 rintro x45 e45 ⟨a46,c47⟩
 refine au [4,79,5,59,25,6,4] ?_
 refine j6 5 66 71 [0,1,7,10,12,14] (decide ((x45.1.length:Int)≤(isub .i64 x15.1 (x31.length:Int)))) ?_ ?_ ?_
 exact az [4,74,28,5,61]
 exact az [69,60]
 refine yi EnC.e rfl rfl rfl (fun x49 e49=>qaG F (((x45.2:Int) == 0) && decide ((x45.1.length:Int)≤(isub .i64 x15.1 (x31.length:Int)))) x49 e49) .nil .nil .nil (fun x50 _=>?_) (fun x49 e49=>?_)
 exact az [25,13,36,8]
 intro _
 refine au [46,1] ?_
 refine qK [] [0,0] [0] 23 ?_
 refine au [70,15,2] ?_
 refine qC 3 (.agg #[qFc x43,.slice a4 x3.length c5]) rfl rfl rfl (qA (i:=1) rfl tf65 rfl rfl (by simp) rfl) ?_
 refine au [6,4,6,5,15,6,26,8,7,6,8,15,9,24,15,10,6,11,6,12,28,3,13,6,14,13,15] ?_
 refine qd qpm ?_
 rintro x54 e54 ⟨a55,c56⟩
 refine au [0,30,5,6,16,6,17,6,18,6,19,6,20,6,21,6,22,54,2,48,25,6] ?_
 refine yi EnC.e rfl rfl rfl (fun x57 e57=>qaG F ((x54.2.2:Int) == 0) x57 e57) .nil .nil .nil (fun x58 _=>?_) (fun x57 e57=>?_)
 exact az [25,13,36,8]
 intro _
 refine au [98,4,55,25,5,98,89] ?_
 refine qiZ 3 rfl (qiZ 1 rfl ?_)
 refine au [36,6] ?_
 refine qbr (vs:=[qFd a29 x31 c30,qFd a46 x45.1 c47,qFd a55 x54.1 c56]) (ys:=([(x31,a29,c30),(x45.1,a46,c47),(x54.1,a55,c56)]:List (qFa×qFb×Nat))) qq (by decide) rfl underlying22 tf56 rfl rfl rfl rfl rfl (by decide) (fun a59 c60=>qnu (inn:=iN56) ([x31,x45.1,x54.1]:List (qFa)) ([(a29,c30),(a46,c47),(a55,c56)]:List (qFb×Nat)) 0 rfl rfl (qi 2 rfl (qi 1 rfl (qi 0 rfl zJ))) ?_)
 refine au [36,7] ?_
 rintro x61 e61 ⟨a62,c63⟩
 refine au [59,31,7] ?_
 intro x64 e64 _
 refine au [26,11] ?_
 intro h65
 replace h65:=of_decide_eq_true h65
 refine qt (d:=10) (v:=qFd a62 x64 c63) rfl (by simp only[qFd,h65] <;> rfl) (qt (d:=104) (v:=qFd a62 x64 c63) rfl (by simp only[qFd,h65] <;> rfl) (qt (d:=105) (v:=qFd a62 x64 c63) rfl (by simp only[qFd,h65] <;> rfl) ?_))
 refine au [98,49] ?_
 exact qea (a62,c63) (.inl rfl) (res1 rfl rfl) rfl (.cons 1 rfl .nil) (.cons 0 rfl .nil)
theorem qiN {r:(qFa×Bool×Int×Int)}(hm:vZ F i1 m1 i2 i3 m2 i4 i5 i6=some r) :
    PureM qFj 201 [qFe t1,qFc i3,qFd l2 m2 t3,.agg #[qFc i4,qFc i5,qFc i6]] [⟨t1,263,[qFc i1,qFd l1 m1 t2,qFc i2]⟩] [] [qFh l1 m1 t2,qFf l2 m2 t3] (qFb×Nat) (fun g=>.tuple #[qFd g.1 r.1 g.2,.bool r.2.1]) (fun _=>[⟨t1,263,[qFc r.2.2.1,qFd l1 m1 t2,qFc r.2.2.2]⟩]) (fun g=>[qFg g.1 r.1 g.2]):=by
 refine qwR func201 rfl ntmps201 rfl hm (fun w=>?_)
 refine au [28,7,45,23] ?_
 intro g14
 refine au [24,6] ?_
 intro g15
 refine au [24,6] ?_
 intro g16
 refine au [46,45,27,5] ?_
 refine qu4 rfl rfl ?_
 refine au [98,55,28,13,59,89,26,6] ?_
 refine yi EnC.e rfl rfl rfl (fun x17 e17=>qiM F t1 i1 m1 l1 t2 i2 i3 m2 l2 t3 i4 i5 i6 x17 e17) (.cons 3 rfl .nil) .nil (.consF 0 rfl (.consF 1 rfl .nil)) (fun x18 _=>?_) (fun x17 e17=>?_)
 refine au [25,13] ?_
 refine qfY EnC.e rfl (.cons 2 rfl (.cons 1 rfl .nil)) (qjA _ _ _ _) ?_
 refine au [25,8] ?_
 exact yG (none,0) (resL (rs:=[.cell 8 56,.cell 9 4]) rfl (.cell (i:=0) rfl tf56 rfl rfl (fun _=>rfl) rfl (.cell (i:=1) rfl tf4 rfl rfl (fun _=>rfl) rfl ResOk.nil)) rfl) (hB:=fun h=>by subst h;exact (.cons 2 rfl .nil)) (hR:=fun h=>by subst h;exact (.cons 0 rfl .nil))
 rintro ⟨a19,c20⟩
 refine au [27,9,46,45,25,15,30,3] ?_
 intro x21 e21 _
 refine au [25,6] ?_
 refine yi EnC.e rfl rfl rfl (fun x22 e22=>qaG F ((x21:Int) == 0) x22 e22) .nil .nil .nil (fun x23 _=>?_) (fun x22 e22=>?_)
 refine au [25,13] ?_
 refine qfY EnC.e rfl (.cons 2 rfl (.cons 1 rfl .nil)) (qjA _ _ _ _) ?_
 refine au [25,8] ?_
 exact yG (none,0) (resL (rs:=[.cell 8 56,.cell 9 4]) rfl (.cell (i:=0) rfl tf56 rfl rfl (fun _=>rfl) rfl (.cell (i:=1) rfl tf4 rfl rfl (fun _=>rfl) rfl ResOk.nil)) rfl) (hB:=fun h=>by subst h;exact (.cons 2 rfl .nil)) (hR:=fun h=>by subst h;exact (.cons 0 rfl .nil))
 intro _
 refine au [46,45] ?_
 refine qJ [qFc 0,.slice none 0 0,.bool false] ?_
 refine au [23] ?_
 intro g24
 refine au [59,4,28,13,4] ?_
 refine zX (i:=4) rfl rfl inferInstance rfl rfl (by simp) rfl rfl ?_
 refine au [29,7,34,15] ?_
 rintro x25 e25 ⟨a26,c27⟩
 refine au [46] ?_
 refine qj [0,8,9,10,11] [0,1,2,3] [0,1] [0] (fun ((_,_):Unit×Unit)=>([],[],[],[],jk F m1 i2 x17 x25)) ?_ ?_
 refine av [30,1] ?_ ?_
 intro h97
 refine qku mixed [8,9] [] [⟨g24,316,[qFc x25.1,qFd a26 x25.2.1 c27,.bool x25.2.2]⟩,⟨t1,263,[qFc x17.2.1,qFd l1 m1 t2,qFc x17.2.2]⟩,⟨g16,4,[.bool false]⟩,⟨g15,56,[qFd a19 x17.1 c20]⟩,⟨g14,26,[qFc i4,qFc i5,qFc i6]⟩] [qFh l1 m1 t2,qFf l2 m2 t3] (.cons 0 rfl (.cons 0 rfl (.cons 0 rfl (.cons 0 rfl (.cons 0 rfl .nil))))) (qh 0 rfl (qh 1 rfl qg)) 20 rfl ?_
 refine au [32,5,32,6,32,7] ?_
 refine qd7 3 (.bool x25.2.2) rfl rfl rfl (qA (i:=0) rfl tf4 rfl rfl (fun _=>rfl) rfl) rfl ?_
 refine au [32,8,36,9] ?_
 refine yM 40 h97 ?_
 refine au [36,10,36,11,36,12] ?_
 refine kx 9 _ rfl rfl rfl (zi rfl inferInstance) rfl (qd7 10 (qFc x25.1) rfl rfl rfl (qA (i:=0) rfl tf3 rfl rfl (fun _=>rfl) rfl) rfl ?_)
 refine au [36,13,36,14] ?_
 refine kx 13 _ rfl rfl rfl (zi rfl inferInstance) rfl (qd7 14 (qFc x17.2.2) rfl rfl rfl (qA (i:=1) rfl tf3 rfl rfl (fun _=>rfl) rfl) rfl (kx 15 _ rfl rfl rfl (zC rfl) rfl (kx 16 _ rfl rfl rfl (zC rfl) rfl (kx 17 _ rfl rfl rfl (zC rfl) rfl ?_))))
 refine au [36,15,13,19] ?_
 refine yi EnC.e rfl rfl rfl (fun x98 e98=>qaG F ((x25.1:Int) == (isub .i64 x17.2.2 i2)) x98 e98) .nil .nil .nil (fun x99 _=>?_) (fun x98 e98=>?_)
 refine au [25,13] ?_
 refine qo1 (l':=[(8,qFe g15),(9,qFe g16)]) (qia rfl rfl (qia rfl rfl qrH)) ?_
 refine au [25,13] ?_
 refine qfY EnC.e rfl (.cons 3 rfl (.cons 2 rfl .nil)) (qjA _ _ _ _) ?_
 refine au [25,8] ?_
 exact yG (none,0) (resL (rs:=[.cell 8 56,.cell 9 4]) rfl (.cell (i:=0) rfl tf56 rfl rfl (fun _=>rfl) rfl (.cell (i:=1) rfl tf4 rfl rfl (fun _=>rfl) rfl ResOk.nil)) rfl) (hB:=fun h=>by subst h;exact (.cons 3 rfl .nil)) (hR:=fun h=>by subst h;exact (.cons 0 rfl .nil))
 intro _
 refine au [0,37,0,16] ?_
 refine qsm ?_ (by intro c h;cases h)
 exact az [26,7]
 intro h97
 refine qku mixed [8,9] [] [⟨g24,316,[qFc x25.1,qFd a26 x25.2.1 c27,.bool x25.2.2]⟩,⟨t1,263,[qFc x17.2.1,qFd l1 m1 t2,qFc x17.2.2]⟩,⟨g16,4,[.bool false]⟩,⟨g15,56,[qFd a19 x17.1 c20]⟩,⟨g14,26,[qFc i4,qFc i5,qFc i6]⟩] [qFh l1 m1 t2,qFf l2 m2 t3] (.cons 0 rfl (.cons 0 rfl (.cons 0 rfl (.cons 0 rfl (.cons 0 rfl .nil))))) (qh 0 rfl (qh 1 rfl qg)) 20 rfl ?_
 refine au [32,5,32,6,32,7] ?_
 refine qd7 3 (.bool x25.2.2) rfl rfl rfl (qA (i:=0) rfl tf4 rfl rfl (fun _=>rfl) rfl) rfl ?_
 refine au [32,8,36,9] ?_
 refine yM 40 h97 ?_
 refine jB 6 rfl rfl rfl rfl (jB 7 rfl rfl rfl rfl (jB 8 rfl rfl rfl rfl (jB 9 rfl rfl rfl rfl (jB 10 rfl rfl rfl rfl (jB 11 rfl rfl rfl rfl (jB 12 rfl rfl rfl rfl (jB 13 rfl rfl rfl rfl (jB 14 rfl rfl rfl rfl (jB 15 rfl rfl rfl rfl (jB 16 rfl rfl rfl rfl (jB 17 rfl rfl rfl rfl ?_)))))))))))
 refine au [36,15,13,19] ?_
 refine yi EnC.e rfl rfl rfl (fun x0 e0=>qaG F false x0 e0) .nil .nil .nil (fun x1 _=>?_) (fun x0 e0=>?_)
 refine au [25,13] ?_
 refine qo1 (l':=[(8,qFe g15),(9,qFe g16)]) (qia rfl rfl (qia rfl rfl qrH)) ?_
 refine au [25,13] ?_
 refine qfY EnC.e rfl (.cons 3 rfl (.cons 2 rfl .nil)) (qjA _ _ _ _) ?_
 refine au [25,8] ?_
 exact yG (none,0) (resL (rs:=[.cell 8 56,.cell 9 4]) rfl (.cell (i:=0) rfl tf56 rfl rfl (fun _=>rfl) rfl (.cell (i:=1) rfl tf4 rfl rfl (fun _=>rfl) rfl ResOk.nil)) rfl) (hB:=fun h=>by subst h;exact (.cons 3 rfl .nil)) (hR:=fun h=>by subst h;exact (.cons 0 rfl .nil))
 intro _
 refine au [0,37,0,16] ?_
 refine qsm ?_ (by intro c h;cases h)
 exact az [26,7]
 rintro ⟨_,_⟩
 try dsimp only
 refine qj [8,9] [1,2,3] [1] [0] (fun ((_,_):Unit×Unit)=>([],[],[],[],qdT F x17)) ?_ ?_
 refine au [48,55,78,4,73] ?_
 refine qr [0,8,9,10,11,59] [0,0,0,0] [0,0] [0] (fun ((x75,_):Int×Unit)=>([(60,qFc x75)],[],[],[])) (0:Int) () ?_
 intro k86
 rintro ⟨x75,_⟩
 refine aw [39,1,3,24,3,0,2,1,10] ?_ ?_
 refine au [83,48,47] ?_
 refine qku mixed [8,9] [] [⟨g24,316,[qFc x25.1,qFd a26 x25.2.1 c27,.bool x25.2.2]⟩,⟨t1,263,[qFc x17.2.1,qFd l1 m1 t2,qFc x17.2.2]⟩,⟨g16,4,[.bool false]⟩,⟨g15,56,[qFd a19 x17.1 c20]⟩] [qFh l1 m1 t2] (.cons 0 rfl (.cons 0 rfl (.cons 0 rfl (.cons 0 rfl .nil)))) (qh 0 rfl qg) 16 rfl ?_
 refine au [32,5,32,6,32,7] ?_
 refine qd7 3 (.agg #[qFc x25.1,.slice a26 x25.2.1.length c27]) rfl rfl rfl (qA (i:=0) rfl tf65 rfl rfl (by simp) rfl) rfl ?_
 refine au [32,8,36,10,36,11,36,12] ?_
 refine qd7 9 (.agg #[qFc x17.2.1,.slice l1 m1.length t2]) rfl rfl rfl (qA (i:=1) rfl tf65 rfl rfl (by simp) rfl) rfl (kx 10 _ rfl rfl rfl (zC rfl) rfl ?_)
 refine au [36,13,36,14,13,5,29,5] ?_
 intro x92 e92 _
 refine au [0,32,9,13,13,29,5] ?_
 intro x93 e93 _
 refine au [0,32,9] ?_
 refine kx 14 _ rfl rfl rfl (zC rfl) rfl ?_
 refine au [13,15] ?_
 refine yi EnC.e rfl rfl rfl (fun x94 e94=>qaG F ((x92:Int) == x93) x94 e94) .nil .nil .nil (fun x95 _=>?_) (fun x94 e94=>?_)
 refine au [25,13] ?_
 refine qo1 (l':=[(8,qFe g15),(9,qFe g16)]) (qia rfl rfl (qia rfl rfl qrH)) ?_
 refine au [28,8,25,13,25,13,28,8,25,13] ?_
 refine qfY EnC.e rfl (.cons 3 rfl (.cons 2 rfl .nil)) (qjA _ _ _ _) ?_
 refine au [25,8] ?_
 exact yG (none,0) (resL (rs:=[.cell 8 56,.cell 9 4]) rfl (.cell (i:=0) rfl tf56 rfl rfl (fun _=>rfl) rfl (.cell (i:=1) rfl tf4 rfl rfl (fun _=>rfl) rfl ResOk.nil)) rfl) (hB:=fun h=>by subst h;exact (.cons 3 rfl .nil)) (hR:=fun h=>by subst h;exact (.cons 0 rfl .nil))
 intro _
 refine au [0,32,9,16] ?_
 refine qsm ?_ (by intro c h;cases h)
 refine au [95] ?_
 exact ql (iadd .i64 x75 1,())
 exact az [71,26,7]
 rintro ⟨_,_⟩
 refine au [117,25,15,27,9,25,5,46,8] ?_
 exact qsn (.inl rfl) EnC.e rfl (qyI _ _) (yG (a19,c20) (resL (rs:=[.cell 8 56,.cell 9 4]) rfl (.cell (i:=2) rfl tf56 rfl rfl (fun _=>rfl) rfl (.cell (i:=1) rfl tf4 rfl rfl (fun _=>rfl) rfl ResOk.nil)) rfl) (hB:=fun h=>by subst h;exact (.cons 0 rfl .nil)) (hR:=fun h=>by subst h;exact (.cons 0 rfl .nil)))
theorem qkC {r:(qFa×Int×Int)}(hm:qaK F i1 m1 i2 i3 m2 i4 i5 i6=some r) :
    Pure qFj 171 [.agg #[qFc i1,qFd l1 m1 t1],qFc i2,qFc i3,qFd l2 m2 t2,.agg #[qFc i4,qFc i5,qFc i6]] [qFh l1 m1 t1,qFf l2 m2 t2] (qFb×Nat) (fun g=>.tuple #[qFd g.1 r.1 g.2,qFc r.2.1,qFc r.2.2]) (fun g=>[qFg g.1 r.1 g.2]) (fun _=>[]):=by
 refine pureA func171 ntmps171 hm fun _=>?_
 refine au [32,1,45,23] ?_
 intro g13
 refine au [23] ?_
 intro g14
 refine au [5,5,80,25,10,4] ?_
 refine qJ [qFc i1,qFd l1 m1 t1,qFc i2] ?_
 refine au [23] ?_
 intro g15
 refine au [59,89,25,10] ?_
 refine qu qiN ?_
 rintro x16 e16 ⟨a17,c18⟩
 refine aw [4,22,22,5,5,0,2,1,1,3,4,25,7,0,2,10] ?_ ?_
 refine au [45,5,5,103] ?_
 exact qy (none,0)
 refine au [82] ?_
 refine qK [] [0,0,0] [0,1] 8 ?_
 refine au [92,15,3,24,15,4,6,5,67,54,2,8] ?_
 exact qy (a17,c18)
theorem qnQ {r:(List (qFa)×Bool)}(hm:qg8 F i1 i2 i3 i4 i5 m1=some r) :
    Pure qFj 196 [.agg #[qFc i1,qFc i2,qFc i3,qFc i4,qFc i5,qFd l1 m1 t1]] [qFh l1 m1 t1] (qFb×Nat×List (qFb×Nat)) (fun g=>.tuple #[qFd g.1 r.1 g.2.1,.bool r.2]) (fun g=>[RoN eN56 rN56 56 1 (qFd g.1 r.1 g.2.1) r.1 g.2.2 []]) (fun _=>[]):=by
 refine pureA func196 ntmps196 hm fun _=>?_
 refine au [64,23] ?_
 intro g9
 refine au [5,80,47] ?_
 refine qj [1] [0] [] [0] (fun (((x0,x7),a0,c0):(List (qFa)×Int)×qFb×Nat×List (qFb×Nat))=>([(2,qFd a0 x0 c0.1),(4,qFc x7)],[],[RoN eN56 rN56 56 1 (qFd a0 x0 c0.1) x0 c0.2 []],[],qeX F i5 x0 x7)) ?_ ?_
 refine au [45,78,4,73] ?_
 refine qxv (qFa) (qFb×Nat) eN56 rN56 56 1 (qr [1,14] [0] [] [0] (fun (((x8,x9,x10),a1,c1):(List (qFa)×Int×Int)×qFb×Nat×List (qFb×Nat))=>([(2,qFd a1 x8 c1.1),(4,qFc x9),(15,qFc x10)],[],[RoN eN56 rN56 56 1 (qFd a1 x8 c1.1) x8 c1.2 []],[])) (([]:List (qFa)),(0:Int),(0:Int)) (none,0,([]:List (qFb×Nat))) ?_)
 intro k0
 rintro ⟨⟨x8,x9,x10⟩,a1,c1⟩
 refine aw [39,1,3,24,3,0,2,1,10] ?_ ?_
 refine au [57] ?_
 refine qj [1,14,15] [0] [] [0] (fun (((x11,x12),a2,c2):(List (qFa)×Int)×qFb×Nat×List (qFb×Nat))=>([(2,qFd a2 x11 c2.1),(4,qFc x12)],[],[RoN eN56 rN56 56 1 (qFd a2 x11 c2.1) x11 c2.2 []],[],qbb F (qbc F i1 i2 i3 i4 i5 m1 k0) x10 x11 x12)) ?_ ?_
 refine au [14,48,47,77,89] ?_
 refine qd qlb ?_
 intro x13 e0 _
 refine aw [4,22,22,22,5,5,5,0,2,1,1,3,4,25,7,0,2,10] ?_ ?_
 refine au [45,5,58,90,50,27,0] ?_
 exact qy (none,0,([]:List (qFb×Nat)))
 refine aw [11,2,1,3,5,0,2,1,1,3,4,25,2,0,2,10] ?_ ?_
 refine au [3,89,4,25,9,31,6] ?_
 intro x14 e1 g0 h0 g1 h1
 refine qky (i:=0) rfl h0 (List.not_mem_nil) (qi1 (j:=1) (p:=(x14,g0)) qq rfl rfl tf56 rfl h1 h0 rfl (fun _=>rfl) rfl rfl ?_)
 refine au [80,9,24,9,24,6] ?_
 intro g2
 refine au [21,98,9,21,46,45,9,25,10,89,4,24,9,37,1] ?_
 rintro x15 e2 ⟨a3,c3⟩
 refine au [4,79,22,5,5,81,1] ?_
 refine qiY (rin:=rN56) (p:=(x14,g0)) (i:=1) (k:=0) (.cons 1 rfl .nil) rfl rfl h0 ?_
 refine aw [3,4,25,1,0,2,10] ?_ ?_
 refine au [45,5,58,90,50,27,0] ?_
 exact qy (none,0,([]:List (qFb×Nat)))
 refine au [57,3,89] ?_
 refine qbr (vs:=[qFd a3 x15.1 c3]) (ys:=([(x15.1,a3,c3)]:List (qFa×qFb×Nat))) qq (by decide) rfl underlying22 tf56 rfl rfl rfl rfl rfl (by decide) (fun a4 c4=>qmb (rin:=rN56) (i:=0) ([x15.1]:List (qFa)) ([(a3,c3)]:List (qFb×Nat)) rfl rfl (.cons 1 rfl .nil) (qqL qq rfl UnF.u inferInstance rfl rfl rfl rfl (.cons 1 rfl (.cons 0 rfl .nil)) rfl rfl ?_))
 intro x16 e3 a5 c5
 refine au [4,5,5,115] ?_
 exact qa ((x16,x15.2.1),a5,c5,(c1.2++([(a3,c3)]:List (qFb×Nat))))
 refine au [97,9,24,9,24,6] ?_
 intro g3
 refine au [21,98,9,21,46,45,9,25,10,89,4,24,9,26,10,37,1] ?_
 rintro x17 e4 ⟨a6,c6⟩
 refine aw [4,22,22,22,5,5,5,0,2,1,1,3,4,25,1,0,2,10] ?_ ?_
 refine au [45,5,58,90,50,27,0] ?_
 exact qy (none,0,([]:List (qFb×Nat)))
 refine au [57,3,89] ?_
 refine qbr (vs:=[qFd a6 x17.1 c6]) (ys:=([(x17.1,a6,c6)]:List (qFa×qFb×Nat))) qq (by decide) rfl underlying22 tf56 rfl rfl rfl rfl rfl (by decide) (fun a8 c7=>qmb (rin:=rN56) (i:=0) ([x17.1]:List (qFa)) ([(a6,c6)]:List (qFb×Nat)) rfl rfl (.cons 0 rfl .nil) (qqL qq rfl UnF.u inferInstance rfl rfl rfl rfl (.cons 2 rfl (.cons 0 rfl .nil)) rfl rfl ?_))
 intro x18 e5 a9 c9
 refine au [4,5,5,115] ?_
 exact qa ((x18,x17.2.1),a9,c9,(c1.2++([(a6,c6)]:List (qFb×Nat))))
 rintro ⟨⟨x11,x12⟩,a2,c2⟩
 refine au [39,94] ?_
 exact ql ((x11,x12,iadd .i64 x10 1),a2,c2)
 refine au [71] ?_
 exact qa ((x8,x9),a1,c1)
 rintro ⟨⟨x0,x7⟩,a0,c0⟩
 refine au [39,1] ?_
 refine qK [] [0] [0] 8 ?_
 refine au [70,15,2,15,3,24,15,4,6,5,67,54,2,8] ?_
 exact qy (a0,c0)
theorem qgh (hm:zb F m1 m2=some d1) :
    qFk 197 [qFd l1 m1 t1,qFd l2 m2 t2] [qFh l1 m1 t1,qFh l2 m2 t2] (.bool d1):=by
 refine pureA func197 ntmps197 hm fun _=>?_
 refine aw [24,8,1,3,5,0,2,1,1,3,4,24,4,4,24,4,25,1,0,2,10] ?_ ?_
 exact az [45,75]
 refine au [57] ?_
 refine qP (fun ((_,_):Unit×Unit)=>([],[],[],[],qbV F)) ?_ ?_
 refine au [48,84] ?_
 refine qr [0,1,12] [] [] [0,1] (fun ((x0,_):Int×Unit)=>([(13,qFc x0)],[],[],[])) (0:Int) () ?_
 intro k0
 rintro ⟨x0,_⟩
 refine aw [39,1,3,24,3,0,2,1,10] ?_ ?_
 refine au [83,48,81,35,14] ?_
 intro x2 e0 b0 o0 h0
 replace h0:l1=some ⟨b0,o0,none⟩:=h0
 refine qfW (j:=2) (qD .u8) (by decide) rfl ?_
 intro x3 e1 b1 o1 h1
 replace h1:l2=some ⟨b1,o1,none⟩:=h1
 refine au [37,2,70] ?_
 refine vl 2 h0 e0 ?_
 refine qz 3 (.int .u8 x2) [] rfl rfl rfl (qS (j:=1) rfl tf5 rfl rfl (fun _=>rfl) rfl) ?_
 refine au [6,4,6,5] ?_
 refine vl 6 h1 e1 ?_
 refine qz 7 (.int .u8 x3) [] rfl rfl rfl (qS (j:=0) rfl tf5 rfl rfl (fun _=>rfl) rfl) ?_
 refine aw [6,8,16,19,2,10] ?_ ?_
 exact az [45,49,90,104]
 refine au [11,95] ?_
 exact ql (iadd .i64 x0 1,())
 exact az [71,26,7]
 rintro ⟨_,_⟩
 exact az [117,68]
theorem qpp {r:(List (qFa)×Int)}(hm:qf6 F i1 i2 i3 i4 i5 m1=some r) :
    Pure qFj 167 [.agg #[qFc i1,qFc i2,qFc i3,qFc i4,qFc i5,qFd l1 m1 t1]] [qFh l1 m1 t1] (qFb×Nat×List (qFb×Nat)) (fun g=>.tuple #[.agg #[qFd g.1 r.1 g.2.1],qFc r.2]) (fun g=>[RoN eN56 rN56 56 1 (qFd g.1 r.1 g.2.1) r.1 g.2.2 []]) (fun _=>[]):=by
 refine pureA func167 ntmps167 hm fun _=>?_
 refine au [64,23] ?_
 intro g9
 refine au [24,6] ?_
 intro g10
 refine au [81,45,25,10] ?_
 refine qd qnO ?_
 intro x13 e13 _
 refine aw [5,0,2,1,3,4,25,1,0,2,10] ?_ ?_
 refine au [45] ?_
 refine qJ [.slice none 0 0] ?_
 exact az [4,21,58,27,0,29,14]
 refine au [97,25,10] ?_
 refine qd qnQ ?_
 rintro x14 e14 ⟨a15,c16⟩
 refine aw [4,22,22,5,5,0,2,1,1,3,4,25,7,0,2,10] ?_ ?_
 refine au [45] ?_
 refine qJ [.slice none 0 0] ?_
 exact az [21,58,27,0,29,14]
 refine au [57,48] ?_
 refine qJ [qFd a15 x14.1 c16.1] ?_
 refine au [24,6] ?_
 intro g18
 refine au [21,46,1,77,9,26,6,30,13] ?_
 rintro x28 e28 ⟨a29,c30⟩
 refine au [4,79,24,6] ?_
 intro g31
 refine au [21,59,25,1,4] ?_
 refine kX 9 [2,7] [1,2] [1] [] (fun ((x34,_):Bool×Unit)=>([(44,.bool x34)],[],[],[],qdr F x14 x34)) ?_ ?_
 refine qG (os:=_) rfl ?_
 refine av [26,3] ?_ ?_
 intro h32
 refine kF (k:=35) rfl h32 ?_
 refine au [69,69,88] ?_
 exact qa (true,())
 intro h32
 refine kE (k:=35) rfl h32 ?_
 refine au [9,78,9,9,28,13,30,15] ?_
 intro x36 e36 _
 refine au [25,7,87] ?_
 exact qa ((!x36),())
 rintro ⟨x34,_⟩
 try dsimp only
 refine qG (os:=_) rfl ?_
 refine aw [0,2,10] ?_ ?_
 refine au [45] ?_
 refine qJ [.slice none 0 0] ?_
 exact az [25,5,58,27,0,33,6]
 refine au [57,77,25,5,49] ?_
 exact kq (a15,c16) 1
theorem qnV (hm:qfe F i1 i2 i3 i4 m1 i5 m2 i6 i7 i8 i9 m3 i10 m4=some d1) :
    qFk 168 [.agg #[qFc i1,qFc i2,qFc i3,qFc i4,qFd l1 m1 t1,qFc i5,qFd l2 m2 t2],.agg #[qFc i6,qFc i7,qFc i8,qFc i9,qFd l3 m3 t3,qFc i10,qFd l4 m4 t4]] [qFh l1 m1 t1,qFh l2 m2 t2,qFh l3 m3 t3,qFh l4 m4 t4] (.bool d1):=by
 refine pureA func168 ntmps168 hm fun _=>?_
 refine au [96] ?_
 intro g23
 refine au [23] ?_
 intro g24
 refine au [80,99,78,25,6,4] ?_
 refine j6 6 10 16 [2,3] ((i2:Int) == i7) ?_ ?_ ?_
 exact az [99,78,25,6,61]
 exact az [69,7,60]
 refine au [4] ?_
 refine j6 6 17 23 [2,3] ((i3:Int) == i8) ?_ ?_ ?_
 exact az [99,78,25,6,61]
 exact az [69,7,60]
 refine au [4] ?_
 refine j6 8 24 32 [2,3] ((i4:Int) == i9) ?_ ?_ ?_
 exact az [9,99,9,78,25,6,61]
 exact az [69,62,7,60]
 refine au [4] ?_
 refine j6 8 33 41 [2,3] ((i5:Int) == i10) ?_ ?_ ?_
 exact az [9,99,9,78,25,6,61]
 exact az [69,62,7,60]
 refine au [4] ?_
 refine kX 8 [2,3] [0,1] [] [2,3,0,1] (fun ((x31,_):Bool×Unit)=>([(50,.bool x31)],[],[],[],qcN F m2 m4 x31)) ?_ ?_
 refine qG (os:=_) rfl ?_
 refine av [26,3] ?_ ?_
 intro h29
 refine kF (k:=42) rfl h29 ?_
 refine au [9,99,9,78,30,15] ?_
 intro x36 e36 _
 refine au [88] ?_
 exact qa (x36,())
 intro h29
 refine kE (k:=42) rfl h29 ?_
 refine au [69,62,7,87] ?_
 exact qa (false,())
 rintro ⟨x31,_⟩
 try dsimp only
 refine qG (os:=_) rfl ?_
 refine au [4] ?_
 refine qfo 8 (fun ((x34,_):Bool×Unit)=>([(59,.bool x34)],[],[],[],qcO F x34)) ?_ ?_
 refine qG (os:=_) rfl ?_
 refine av [26,3] ?_ ?_
 intro h32
 refine kF (k:=51) rfl h32 ?_
 refine au [9,99,9,78,30,15] ?_
 intro x35 e35 _
 refine au [88] ?_
 exact qa (x35,())
 intro h32
 refine kE (k:=51) rfl h32 ?_
 refine au [69,62,7,87] ?_
 exact qa (false,())
 rintro ⟨x34,_⟩
 try dsimp only
 refine qG (os:=_) rfl ?_
 exact az [68]
theorem qkV {r:(Int×Int×Int×Int×Int×qFa×Int×Int×Int×Int×qFa×Int×qFa×Int)}(hm:qe1 F p1 i1 i2 i3 i4 i5 m1=some r) :
    Pure qFj 122 [.agg #[qFd l1 p1 t1],.agg #[qFc i1,qFc i2,qFc i3,qFc i4,qFc i5,qFd l2 m1 t2]] [SlN eN56 iN56 1 (qFd l1 p1 t1) p1 n1,qFh l2 m1 t2] ((qFb×Nat)×(qFb×Nat)×qFb×Nat) (fun g=>.tuple #[.agg #[qFc r.1,qFc r.2.1,qFc r.2.2.1,qFc r.2.2.2.1,qFc r.2.2.2.2.1,qFd g.1.1 r.2.2.2.2.2.1 g.1.2,qFc r.2.2.2.2.2.2.1,qFc r.2.2.2.2.2.2.2.1,qFc r.2.2.2.2.2.2.2.2.1,qFc r.2.2.2.2.2.2.2.2.2.1,qFd g.2.1.1 r.2.2.2.2.2.2.2.2.2.2.1 g.2.1.2,qFc r.2.2.2.2.2.2.2.2.2.2.2.1,qFd g.2.2.1 r.2.2.2.2.2.2.2.2.2.2.2.2.1 g.2.2.2],qFc r.2.2.2.2.2.2.2.2.2.2.2.2.2]) (fun g=>[qFi g.2.1.1 r.2.2.2.2.2.2.2.2.2.2.1 g.2.1.2,qFi g.2.2.1 r.2.2.2.2.2.2.2.2.2.2.2.2.1 g.2.2.2]) (fun _=>[]):=by
 refine pureA func122 ntmps122 hm fun _=>?_
 refine au [96] ?_
 intro g12
 refine au [23] ?_
 intro g13
 refine au [24,6] ?_
 intro g14
 refine au [80,26,6,9,25,10,35,11] ?_
 rintro x15 e15 ⟨⟨a16,c17⟩,a18,c19⟩
 refine aw [4,22,22,22,5,5,5,0,2,1,1,3,4,25,1,0,2,10] ?_ ?_
 refine au [45] ?_
 refine qJ [qFc 0,qFc 0,qFc 0,qFc 0,qFc 0,.slice none 0 0,qFc 0,qFc 0,qFc 0,qFc 0,.slice none 0 0,qFc 0,.slice none 0 0] ?_
 refine au [4,21,58,114] ?_
 exact kq ((none,0),(none,0),none,0) 0
 refine au [57,48,9,99,35,12] ?_
 rintro x21 e21 ⟨⟨a22,c23⟩,a24,c25⟩
 refine au [4,79,24,6] ?_
 intro g26
 refine aw [21,5,0,2,1,1,3,4,25,1,0,2,10] ?_ ?_
 refine au [45] ?_
 refine qJ [qFc 0,qFc 0,qFc 0,qFc 0,qFc 0,.slice none 0 0,qFc 0,qFc 0,qFc 0,qFc 0,.slice none 0 0,qFc 0,.slice none 0 0] ?_
 exact az [4,25,5,58,114,35,13]
 refine au [97,26,6,24,9] ?_
 refine qJ [qFc i1,qFc i2,qFc i3,qFc i4,qFc i5,qFd l2 m1 t2,qFc x21.1,qFc x21.2.1,qFc x21.2.2.1,qFc x21.2.2.2.1,qFd a22 x21.2.2.2.2.1 c23,qFc x21.2.2.2.2.2.1,qFd a24 x21.2.2.2.2.2.2.1 c25] ?_
 refine au [25,5,49] ?_
 exact kq ((l2,t2),(a22,c23),a24,c25) 1
theorem qmA (hm:qes F i1 i2 i3 i4 i5 m1 i6 i7 i8 i9 m2 i10 m3=some i11) :
    qFk 123 [.agg #[qFc i1,qFc i2,qFc i3,qFc i4,qFc i5,qFd l1 m1 t1,qFc i6,qFc i7,qFc i8,qFc i9,qFd l2 m2 t2,qFc i10,qFd l3 m3 t3]] [qFh l1 m1 t1,qFh l2 m2 t2,qFh l3 m3 t3] (qFc i11):=by
 refine pureA func123 ntmps123 hm fun _=>?_
 refine au [64,23] ?_
 intro g20
 refine au [80,9,24,9] ?_
 refine qd qpp ?_
 rintro x21 e21 ⟨a22,c23⟩
 refine au [4,79,24,6] ?_
 intro g24
 refine aw [21,5,0,2,1,1,3,4,25,1,0,2,10] ?_ ?_
 exact az [48,75]
 refine au [82,77,9,25,10] ?_
 refine qd qkV ?_
 rintro x39 e39 ⟨⟨a40,c41⟩,⟨a42,c43⟩,a44,c45⟩
 refine au [4,79,24,6] ?_
 intro g46
 refine au [21,59,25,1,4] ?_
 refine qfo 7 (fun ((x49,_):Bool×Unit)=>([(32,.bool x49)],[],[],[],qau F x49)) ?_ ?_
 refine qG (os:=_) rfl ?_
 refine av [26,3] ?_ ?_
 intro h47
 refine kF (k:=25) rfl h47 ?_
 refine au [69,62,88] ?_
 exact qa (true,())
 intro h47
 refine kE (k:=25) rfl h47 ?_
 refine au [9,24,9,9,26,6] ?_
 refine qd qnV ?_
 intro x51 e51 _
 refine au [25,7,87] ?_
 exact qa ((!x51),())
 rintro ⟨x49,_⟩
 try dsimp only
 refine qG (os:=_) rfl ?_
 refine aw [0,2,10] ?_ ?_
 exact az [45,75]
 exact az [97,68]
theorem qmv {r:Unit}(hm:qeq F i1 m1 i2=some r) :
    PureM qFj 264 [.agg #[qFc i1,qFd l1 m1 t1],.int .u64 i2] [] [] [qFh l1 m1 t1] (Nat×Nat) (fun g=>.func (.func 288) #[] #[qFe g.1,qFe g.2]) (fun g=>[⟨g.1,65,[qFc i1,qFd l1 m1 t1]⟩,⟨g.2,119,[.int .u64 i2]⟩]) (fun _=>[]):=by
 refine pureMA func264 ntmps264 hm fun _=>?_
 refine au [96] ?_
 intro g6
 refine au [23] ?_
 intro g7
 refine au [80,27,5,49] ?_
 exact qM (g6,g7)
theorem qkU (F:Nat){σ τ:Type}{J:Rounds σ τ}{yy:σ→Int→Option (σ ⊕ τ)}{L:Nat}(hY:YieldC qFj L (fun (p:Int)=>[qFc p]) J yy)(s0:σ)(gs0:J.γ)(g1:Nat)(x2:Int)(x3:qFa)(a4:qFb)(c5 g6:Nat)(x7:Int)(r:σ ⊕ τ)(hm:qcM F yy x2 x3 x7 s0=some r) :
    PureM qFj 288 ([.func (.yield L) #[] #[],qFe g1,qFe g6]) ([⟨g1,65,[qFc x2,qFd a4 x3 c5]⟩,⟨g6,119,[.int .u64 x7]⟩]++J.IB s0 gs0) (J.IR s0 gs0) [J.F,qFh a4 x3 c5] (J.G r) (fun _=>.tuple #[]) (fun g=>[⟨g1,65,[qFc x2,qFd a4 x3 c5]⟩,⟨g6,119,[.int .u64 x7]⟩]++J.bs r g) (fun g=>J.rs r g):=by
 refine pureMA func288 ntmps288 hm fun _=>?_
 refine au [111,78,4,73] ?_
 refine jC (fun (((x36,x37),g38):(Int×σ)×J.γ)=>[(0,.func (.yield L) #[] #[]),(1,qFe g1),(2,qFe g6),(6,qFc x2),(7,qFc x36)]) (fun (((x36,x37),g38):(Int×σ)×J.γ)=>[⟨g1,65,[qFc x2,qFd a4 x3 c5]⟩,⟨g6,119,[.int .u64 x7]⟩]++J.IB x37 g38) (fun (((x36,x37),g38):(Int×σ)×J.γ)=>[]++J.IR x37 g38) (fun (((x36,x37),g38):(Int×σ)×J.γ)=>[qFh a4 x3 c5,J.F]) (fun k (s:(Int×σ)×J.γ)=>zA F yy x2 x3 x7 k s.1) ((0,s0),gs0) F ?_ (hB:=(.cons 0 rfl (.cons 0 rfl (qf 0 rfl)))) (hR:=(qf 0 rfl)) (hF:=(qi 1 rfl (qi 0 rfl zJ)))
 intro k67
 rintro ⟨⟨x36,x37⟩,g38⟩
 try dsimp only
 refine qbW (m':=yY F yy x2 x3 x7 (zA F yy x2 x3 x7 k67) x36 x37) rfl ?_
 refine aw [1,3,24,3,0,2,1,10] ?_ ?_
 refine au [57] ?_
 refine qdM (fun ((x81,g82):σ×J.γ)=>[(0,.func (.yield L) #[] #[]),(1,qFe g1),(2,qFe g6),(6,qFc x2),(7,qFc x36)]) (fun ((x81,g82):σ×J.γ)=>[⟨g1,65,[qFc x2,qFd a4 x3 c5]⟩,⟨g6,119,[.int .u64 x7]⟩]++J.IB x81 g82) (fun ((x81,g82):σ×J.γ)=>[]++J.IR x81 g82) (fun ((x81,g82):σ×J.γ)=>[qFh a4 x3 c5,J.F]) (fun ((x81,_):σ×J.γ)=>yc F yy (zA F yy x2 x3 x7 k67) x36 x81) ?_ ?_
 refine au [14,48,81] ?_
 refine qK [] [0,0] [0,1] 11 ?_
 refine qC 0 (.agg #[qFc x2,.slice a4 x3.length c5]) rfl rfl rfl (qA (i:=0) rfl tf65 rfl rfl (by simp) rfl) ?_
 refine au [6,1,26,8,3,13,2,29,5] ?_
 intro x89 e89 _
 refine av [0,32,10,6,4,6,5,29,9] ?_ ?_
 intro h90
 refine yM 15 h90 ?_
 refine au [67,13,8] ?_
 refine qfp hY x37 x36 g38 (B1:=[⟨g1,65,[qFc x2,qFd a4 x3 c5]⟩,⟨g6,119,[.int .u64 x7]⟩]) (R1:=[]) (j:=1) rfl rfl rfl rfl rfl rfl rfl (fun x91 _ g93=>?_) (fun x92 _ g93=>?_)
 refine au [0,32,10,6,9,6,10,54,2] ?_
 refine yh (b:=false) rfl (fun h=>by cases h) (fun _=>?_)
 refine au [11,24,2] ?_
 exact yj (x91,g93) (hB:=(.cons 0 rfl (.cons 0 rfl (qf 0 rfl)))) (hR:=(qf 0 rfl)) (hF:=(qi 0 rfl (qi 1 rfl zJ)))
 refine au [0,32,10,6,9,6,10,54,2] ?_
 refine yh (b:=true) rfl (fun _=>?_) (fun h=>by cases h)
 refine au [8,90,24,5] ?_
 exact jD (B0:=[⟨g1,65,[qFc x2,qFd a4 x3 c5]⟩,⟨g6,119,[.int .u64 x7]⟩]) (x:=.inr x92) g93 (.inl rfl) (res0 rfl) (.cons 0 rfl (.cons 0 rfl (qf 0 rfl))) (qf 0 rfl)
 intro h90
 refine yM 15 h90 ?_
 refine au [20,6,20,7,20,8,20,9,6,10,54,2] ?_
 refine yh (b:=false) rfl (fun h=>by cases h) (fun _=>?_)
 refine au [11,24,2] ?_
 exact yj (x37,g38) (hB:=(.cons 0 rfl (.cons 0 rfl (qf 0 rfl)))) (hR:=(qf 0 rfl)) (hF:=(qi 0 rfl (qi 1 rfl zJ)))
 rintro ⟨x81,g82⟩
 refine au [39,94] ?_
 exact vF ((iadd .i64 x36 1,x81),g82) (hB:=(.cons 0 rfl (.cons 0 rfl (qf 0 rfl)))) (hR:=(qf 0 rfl)) (hF:=(qi 0 rfl (qi 1 rfl zJ)))
 refine au [71] ?_
 exact jD (B0:=[⟨g1,65,[qFc x2,qFd a4 x3 c5]⟩,⟨g6,119,[.int .u64 x7]⟩]) (x:=.inl x37) g38 (.inr rfl) (res0 rfl) (.cons 0 rfl (.cons 0 rfl (qf 0 rfl))) (qf 0 rfl)
theorem qnS (hm:qaZ F i1 m1 i2 i3=some i4) :
    PureM qFj 239 [.agg #[qFc i1,qFd l1 m1 t1],.int .u64 i2,qFc i3] [] [] [qFh l1 m1 t1] Unit (fun _=>qFc i4) (fun _=>[]) (fun _=>[]):=by
 refine qdJ func239 rfl ntmps239 rfl hm (fun w=>?_)
 refine au [111,23] ?_
 intro g7
 refine au [23] ?_
 intro g8
 refine au [24,6] ?_
 intro g9
 refine au [46,1,45,26,6,4] ?_
 refine qu qmv ?_
 rintro x25 e25 ⟨g26,g27⟩
 refine au [73] ?_
 refine qcs (encs:=(fun (p:Int)=>[qFc p])) (y:=(fun (x31:Int) (x37:Int)=>zk F x31 x37)) (lb:=[qFe g26,qFe g27]) (fun (x31:Int) (_:Unit)=>[⟨g9,3,[qFc 0]⟩,⟨g8,3,[qFc x31]⟩,⟨g7,65,[qFc i1,qFd l1 m1 t1]⟩]) (fun (x31:Int) (_:Unit)=>[]) (fun ((x35,x36):(Int×Int)) (_:Unit)=>[⟨g9,3,[qFc x35]⟩,⟨g8,3,[qFc x36]⟩,⟨g7,65,[qFc i1,qFd l1 m1 t1]⟩]) (fun ((x35,x36):(Int×Int)) (_:Unit)=>[]) (fun _=>.ret) i3 () rfl EnC.e (fun _=>rfl) rfl (.cons 0 rfl (.cons 0 rfl .nil)) (.cons 0 rfl (.cons 0 rfl (.cons 0 rfl .nil))) .nil (.consF 0 rfl .nil) (fun z hz _ _ _ hY=>qkU F hY i3 () g26 i1 m1 l1 t1 g27 i2 z hz) ?_ ?_ ?_
 rintro rc1 L1 D1 x31 _ x37 z w M _
 try dsimp only
 refine qdN [(0,.agg #[qFc i1,qFd l1 m1 t1]),(1,.int .u64 i2),(2,qFc i3),(3,qFe g7),(5,qFe g8),(6,qFe g9),(8,.agg #[qFc i1,qFd l1 m1 t1]),(9,.int .u64 i2),(10,.func (.func 288) #[] #[qFe g26,qFe g27]),(11,qFc x37)] (qn rfl (qn rfl (qn rfl (qn rfl (qn rfl (qn rfl (qn rfl (qn rfl (qn rfl (qn rfl qd5)))))))))) ?_
 refine aw [3,5,0,30,7,14,1,1,3,25,12,25,6,0,2,10] ?_ ?_
 refine au [48,21,46,8,12,24,5] ?_
 exact vB (rc:=rc1) rfl (.cons 3 rfl .nil) rfl () (.cons 1 rfl (.cons 1 rfl (.cons 1 rfl (.cons 0 rfl (.cons 0 rfl .nil))))) .nil
 refine au [57,3,25,12,25,9,25,5,115] ?_
 exact vB (rc:=rc1) rfl (.cons 3 rfl .nil) rfl () (.cons 1 rfl (.cons 1 rfl (.cons 1 rfl (.cons 0 rfl (.cons 0 rfl .nil))))) .nil
 rintro x31 _ _ D1
 refine au [39,63,45,30,2,46,8] ?_
 exact jE [D1] () (.inl rfl) rfl (.cons 0 rfl .nil) (resL (rs:=[.cell 6 3]) rfl (.cell (i:=2) rfl tf3 rfl rfl (fun _=>rfl) rfl ResOk.nil) rfl) (fun h=>by subst h;rfl) (fun h=>by subst h;exact .nil) (fun h=>by subst h;exact .nil)
 rintro ⟨x35,x36⟩ _ _ D1
 refine au [39,8,50] ?_
 exact jE [D1] () (.inl rfl) rfl (.cons 0 rfl .nil) (resL (rs:=[.cell 6 3]) rfl (.cell (i:=2) rfl tf3 rfl rfl (fun _=>rfl) rfl ResOk.nil) rfl) (fun h=>by subst h;rfl) (fun h=>by subst h;exact .nil) (fun h=>by subst h;exact .nil)
theorem qt9 (hm:qcn F i1 i2 i3 i4 m1 i5 m2 i6=some i7) :
    qFk 199 [.agg #[qFc i1,qFc i2,qFc i3,qFc i4,qFd l1 m1 t1,qFc i5,qFd l2 m2 t2],qFc i6] [qFh l1 m1 t1,qFh l2 m2 t2] (qFc i7):=by
 refine pureA func199 ntmps199 hm fun _=>?_
 refine au [96] ?_
 intro g13
 refine au [80,9,24,9,4,37,3] ?_
 intro x14 e14 _
 refine au [4,25,9,80,9,24,9,4,78,27,11,78,30,14] ?_
 intro x15 e15 _
 refine au [4,79,5,59,78,26,11] ?_
 intro h16
 refine qij rfl rfl rfl rfl h16 ?_
 refine au [4,25,11,36,0,116] ?_
 intro x17 e17
 refine qal 4 e17 ?_
 exact az [46,8,24,1]
theorem qpl (hm:qeD F i1 m1 i2 m2=some d1) :
    qFk 263 [.agg #[qFc i1,qFd l1 m1 t1],.agg #[qFc i2,qFd l2 m2 t2]] [qFh l1 m1 t1,qFh l2 m2 t2] (.bool d1):=by
 refine pureA func263 ntmps263 hm fun _=>?_
 refine au [96] ?_
 intro g9
 refine au [23] ?_
 intro g10
 refine au [80,99,78,25,6,4] ?_
 refine qfo 6 (fun ((x13,_):Bool×Unit)=>([(16,.bool x13)],[],[],[],qdi F x13)) ?_ ?_
 refine qG (os:=_) rfl ?_
 refine av [26,3] ?_ ?_
 intro h11
 refine kF (k:=10) rfl h11 ?_
 refine au [99,78,30,15] ?_
 intro x14 e14 _
 refine au [88] ?_
 exact qa (x14,())
 intro h11
 refine kE (k:=10) rfl h11 ?_
 refine au [69,7,87] ?_
 exact qa (false,())
 rintro ⟨x13,_⟩
 try dsimp only
 refine qG (os:=_) rfl ?_
 exact az [68]
end Go.Proofs.YthibchijlpflmaaGreatDoor
