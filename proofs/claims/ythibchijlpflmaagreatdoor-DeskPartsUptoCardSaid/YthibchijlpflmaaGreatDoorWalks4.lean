/- Each Go function of this seat computes what its model says, part 4. -/
import Derived.Test.YthibchijlpflmaaGreatDoorWalks3
open List renaming length_set→qCJ
namespace Go.Proofs.YthibchijlpflmaaGreatDoor
open Go SX
open Go.Proofs.Tryz
open Go.Proofs.Tryz renaming prog→qFv
set_option maxHeartbeats 4000000
set_option linter.unusedSimpArgs false
variable {F t1 t2 t3 t4:Nat}{p1:List (qFm)}{l1 l2 l3 l4:qFn}{n1:List (qFn×Nat)}{i1 i2 i3 i4 i5 i6 i7 i8 i9 i10 i11:Int}{m1 m2 m3 m4:qFm}{d1:Bool}{w1:List (Int×Int)}
theorem qmJ {r:(Int×Int×Int×Int×Int×qFm×Int×Int×Int×Int×qFm×Int×qFm×Int)}(hm:qbn F p1 i1 i2 i3 i4 i5 m1=some r) :
    PureM qFv 122 [.agg #[qFp l1 p1 t1],.agg #[qFo i1,qFo i2,qFo i3,qFo i4,qFo i5,qFp l2 m1 t2]] [] [qFu l2 m1 t2] [SlN eN56 iN56 1 (qFp l1 p1 t1) p1 n1] ((qFn×Nat)×(qFn×Nat)×qFn×Nat) (fun g=>.tuple #[.agg #[qFo r.1,qFo r.2.1,qFo r.2.2.1,qFo r.2.2.2.1,qFo r.2.2.2.2.1,qFp g.1.1 r.2.2.2.2.2.1 g.1.2,qFo r.2.2.2.2.2.2.1,qFo r.2.2.2.2.2.2.2.1,qFo r.2.2.2.2.2.2.2.2.1,qFo r.2.2.2.2.2.2.2.2.2.1,qFp g.2.1.1 r.2.2.2.2.2.2.2.2.2.2.1 g.2.1.2,qFo r.2.2.2.2.2.2.2.2.2.2.2.1,qFp g.2.2.1 r.2.2.2.2.2.2.2.2.2.2.2.2.1 g.2.2.2],qFo r.2.2.2.2.2.2.2.2.2.2.2.2.2]) (fun _=>[]) (fun g=>[qFu g.1.1 r.2.2.2.2.2.1 g.1.2,qFu g.2.1.1 r.2.2.2.2.2.2.2.2.2.2.1 g.2.1.2,qFu g.2.2.1 r.2.2.2.2.2.2.2.2.2.2.2.2.1 g.2.2.2]):=by
 refine pureMA func122 ntmps122 hm fun _=>?_
 refine au [111] ?_
 intro g12
 refine au [23] ?_
 intro g13
 refine au [24,5] ?_
 intro g14
 refine au [80,26,7,9,25,10,35,13] ?_
 rintro x15 e15 ⟨⟨a16,c17⟩,a18,c19⟩
 refine aw [4,22,22,22,5,5,5,0,2,1,1,3,4,25,3,0,2,10] ?_ ?_
 refine au [45] ?_
 refine qH [qFo 0,qFo 0,qFo 0,qFo 0,qFo 0,.slice none 0 0,qFo 0,qFo 0,qFo 0,qFo 0,.slice none 0 0,qFo 0,.slice none 0 0] ?_
 refine au [4,21,58,114,26,0] ?_
 exact yD ((none,0),(none,0),none,0) (resL (rs:=[.cell 4 71,.tmp 5]) rfl (.cell (i:=0) rfl tf71 rfl rfl (by simp) rfl (.tmp rfl ResOk.nil)) rfl) (hR:=fun h=>by subst h;exact (.cons 0 rfl (.cons 0 rfl (.cons 0 rfl .nil))))
 refine au [57,48,9,98,35,14] ?_
 rintro x21 e21 ⟨⟨a22,c23⟩,a24,c25⟩
 refine au [4,79,24,5] ?_
 intro g26
 refine aw [21,5,0,2,1,1,3,4,25,3,0,2,10] ?_ ?_
 refine au [45] ?_
 refine qH [qFo 0,qFo 0,qFo 0,qFo 0,qFo 0,.slice none 0 0,qFo 0,qFo 0,qFo 0,qFo 0,.slice none 0 0,qFo 0,.slice none 0 0] ?_
 refine au [4,25,5,58,114,26,0] ?_
 exact yD ((none,0),(none,0),none,0) (resL (rs:=[.cell 4 71,.tmp 5]) rfl (.cell (i:=1) rfl tf71 rfl rfl (by simp) rfl (.tmp rfl ResOk.nil)) rfl) (hR:=fun h=>by subst h;exact (.cons 0 rfl (.cons 0 rfl (.cons 0 rfl .nil))))
 refine au [96,26,7,24,9] ?_
 refine qH [qFo i1,qFo i2,qFo i3,qFo i4,qFo i5,qFp l2 m1 t2,qFo x21.1,qFo x21.2.1,qFo x21.2.2.1,qFo x21.2.2.2.1,qFp a22 x21.2.2.2.2.1 c23,qFo x21.2.2.2.2.2.1,qFp a24 x21.2.2.2.2.2.2.1 c25] ?_
 refine au [25,5,49] ?_
 exact yD ((l2,t2),(a22,c23),a24,c25) (resL (rs:=[.cell 4 71,.tmp 5]) rfl (.cell (i:=1) rfl tf71 rfl rfl (by simp) rfl (.tmp rfl ResOk.nil)) rfl) (hR:=fun h=>by subst h;exact (.cons 4 rfl (.cons 0 rfl (.cons 0 rfl .nil))))
theorem qmH {r:(Int×Int×Int×Int×Int×qFm×Int×Int×Int×Int×qFm×Int×qFm×Int)}(hm:qew F p1 i1 i2 i3=some r) :
    Pure qFv 88 [.agg #[qFp l1 p1 t1],.agg #[qFo i1,qFo i2,qFo i3]] [SlN eN56 iN56 1 (qFp l1 p1 t1) p1 n1] ((qFn×Nat)×(qFn×Nat)×qFn×Nat) (fun g=>.tuple #[.agg #[qFo r.1,qFo r.2.1,qFo r.2.2.1,qFo r.2.2.2.1,qFo r.2.2.2.2.1,qFp g.1.1 r.2.2.2.2.2.1 g.1.2,qFo r.2.2.2.2.2.2.1,qFo r.2.2.2.2.2.2.2.1,qFo r.2.2.2.2.2.2.2.2.1,qFo r.2.2.2.2.2.2.2.2.2.1,qFp g.2.1.1 r.2.2.2.2.2.2.2.2.2.2.1 g.2.1.2,qFo r.2.2.2.2.2.2.2.2.2.2.2.1,qFp g.2.2.1 r.2.2.2.2.2.2.2.2.2.2.2.2.1 g.2.2.2],qFo r.2.2.2.2.2.2.2.2.2.2.2.2.2]) (fun g=>[qFu g.1.1 r.2.2.2.2.2.1 g.1.2,qFu g.2.1.1 r.2.2.2.2.2.2.2.2.2.2.1 g.2.1.2,qFu g.2.2.1 r.2.2.2.2.2.2.2.2.2.2.2.2.1 g.2.2.2]) (fun _=>[]):=by
 refine pureA func88 ntmps88 hm fun _=>?_
 refine au [111] ?_
 intro g7
 refine au [23] ?_
 intro g8
 refine au [24,5] ?_
 intro g9
 refine au [80,26,7,25,10,30,14] ?_
 rintro x10 e10 ⟨a11,c12⟩
 refine au [4,79,24,5] ?_
 intro g13
 refine aw [21,5,0,2,1,1,3,4,25,3,0,2,10] ?_ ?_
 refine au [45] ?_
 refine qH [qFo 0,qFo 0,qFo 0,qFo 0,qFo 0,.slice none 0 0,qFo 0,qFo 0,qFo 0,qFo 0,.slice none 0 0,qFo 0,.slice none 0 0] ?_
 exact az [4,25,5,58,114,26,0,35,15]
 refine au [96,31,12,24,9] ?_
 refine qt qmJ ?_
 rintro x15 e15 ⟨⟨a16,c17⟩,⟨a18,c19⟩,a20,c21⟩
 refine au [79,25,5,49] ?_
 exact ku ((a16,c17),(a18,c19),a20,c21) 1
theorem qnK (hm:qcg F i1 m1=some i2) :
    qFw 237 [.agg #[qFo i1,qFp l1 m1 t1]] [qFt l1 m1 t1] (qFo i2):=by
 refine pureA func237 ntmps237 hm fun _=>?_
 refine au [64,23] ?_
 intro g5
 refine au [81,14,45,78,24,3,4] ?_
 refine zQ 4 7 11 [1] (decide (8192<i1)) ?_ ?_ ?_
 exact az [62,7,61]
 exact az [78,105]
 refine aw [5,0,2,10] ?_ ?_
 exact az [45,49,103]
 refine aw [1,3,9,18,24,6,9,18,24,0,31,11,25,3,5,0,2,10] ?_ ?_
 exact az [45,49,103]
 refine qN (fun ((x36,_):Bool×Unit)=>([(21,.bool x36)],[],[],[],qaR F x36)) ?_ ?_
 refine av [30,1] ?_ ?_
 intro h38
 refine au [36,0] ?_
 intro x39 e39 b40 o41 h42
 replace h42:l1=some ⟨b40,o41,none⟩:=h42
 refine au [28,6] ?_
 intro h43
 refine qI [] [0] [0,1] 20 ?_
 refine au [109] ?_
 refine qb 2 (qFo (irem i1 8)) rfl rfl rfl (qpn rfl rfl rfl) ?_
 refine au [6,3,6,4] ?_
 refine yJ 26 h38 ?_
 refine au [15,5,24,15,6,15,7,24,15,8,28,3,9,6,10] ?_
 refine vg 11 h42 e39 ?_
 refine qy 12 (.int .u8 x39) [] rfl rfl rfl (qQ (j:=0) rfl tf5 rfl rfl (fun _=>rfl) rfl) ?_
 refine au [15,13,24,15,14] ?_
 refine qb 15 (qFo (irem i1 8)) rfl rfl rfl (qpn rfl rfl rfl) (qb 16 (.int .u8 (ishl .u8 x39 (irem i1 8))) rfl rfl rfl (qi8 rfl rfl h43) ?_)
 refine au [6,17,6,18,6,19,54] ?_
 exact qa ((((ishl .u8 x39 (irem i1 8)):Int) != 0),())
 intro h38
 refine qI [] [0] [0] 20 ?_
 refine au [109] ?_
 refine qb 2 (qFo (irem i1 8)) rfl rfl rfl (qpn rfl rfl rfl) ?_
 refine au [6,3,6,4] ?_
 refine yJ 26 h38 ?_
 refine au [20,5,20,6,20,7,20,8,20,9,20,10,20,11,20,12,20,13,20,14,20,15,20,16,20,17,6,18,6,19,54] ?_
 exact qa (false,())
 rintro ⟨x36,_⟩
 refine aw [39,10] ?_ ?_
 exact az [45,49,103]
 exact az [11,63,45,69]
theorem qnV (hm:qfi F i1 i2 i3 i4 i5 m1=some i6) :
    qFw 195 [.agg #[qFo i1,qFo i2,qFo i3,qFo i4,qFo i5,qFp l1 m1 t1]] [qFt l1 m1 t1] (qFo i6):=by
 refine pureA func195 ntmps195 hm fun _=>?_
 refine au [64,23] ?_
 intro g9
 refine au [81,45,78,24,3,4] ?_
 refine zQ 4 7 11 [1] (decide (100<i1)) ?_ ?_ ?_
 exact az [62,7,61]
 exact az [78,105]
 refine aw [0,2,10] ?_ ?_
 exact az [45,76]
 refine au [82,45,9,24,9,29,10] ?_
 intro x15 e15 _
 refine aw [5,0,2,1,3,4,25,3,0,2,10] ?_ ?_
 exact az [48,76]
 refine au [96,9,24,9,32,5] ?_
 intro x16 e16 _
 exact az [69]
theorem qn6 {r:(Int×Int×Bool)}(hm:qdF F i1 m1 i2=some r) :
    qFw 265 [.agg #[qFo i1,qFp l1 m1 t1],qFo i2] [qFt l1 m1 t1] (.tuple #[.int .u64 r.1,qFo r.2.1,.bool r.2.2]):=by
 refine pureA func265 ntmps265 hm fun _=>?_
 refine au [111] ?_
 intro g6
 refine au [5,5,47] ?_
 refine qN (fun ((_,_):Unit×Unit)=>([],[],[],[],qhz F)) ?_ ?_
 refine au [48,47,14] ?_
 refine qq [1,2] [0] [] [0] (fun ((x33,_):Int×Unit)=>([(7,qFo x33)],[],[],[])) i2 () ?_
 intro k40
 rintro ⟨x33,_⟩
 refine aw [39,1,1,3,4,9,18,24,3,0,2,10] ?_ ?_
 refine au [83,77,4,29,5] ?_
 intro x44 e44 _
 refine aw [25,6,0,2,10] ?_ ?_
 exact az [48,4,25,9,25,11,113,5,5,49,90,103]
 refine au [11,63,3,113,5,0] ?_
 exact qk (iadd .i64 x33 1,())
 exact az [71,26,8]
 rintro ⟨_,_⟩
 exact az [117,5,5,69]
theorem qiu (F:Nat)(x1:Int)(x2:qFm)(a3:qFn)(c4:Nat)(x5:Int)(r:(Int×Int×Int))(hm:qcu F x1 x2 x5=some r) :
    qFw 241 [.agg #[qFo x1,qFp a3 x2 c4],qFo x5] [qFt a3 x2 c4] (.tuple #[.int .u64 r.1,qFo r.2.1,qFo r.2.2]):=by
 refine pureA func241 ntmps241 hm fun _=>?_
 refine au [111] ?_
 intro g6
 refine au [5,5,47,77,4,36,1] ?_
 intro x7 e7 _
 refine aw [4,22,22,22,5,5,5,0,2,1,1,3,4,25,7,0,2,10] ?_ ?_
 exact az [45,5,5,76]
 exact az [57,48,4,5,5,69]
theorem qpp {r:(Int×Bool)}(hm:jq F i1 m1 i2 i3=some r) :
    qFw 240 [.agg #[qFo i1,qFp l1 m1 t1],qFo i2,qFo i3] [qFt l1 m1 t1] (.tuple #[.int .u64 r.1,.bool r.2]):=by
 refine pureA func240 ntmps240 hm fun _=>?_
 refine au [108,23] ?_
 intro g7
 refine aw [5,5,0,2,1,1,3,9,18,4,25,9,4,24,3,0,2,10] ?_ ?_
 exact az [45,5,76]
 refine au [57] ?_
 refine qN (fun ((x24,_):Int×Unit)=>([(6,.int .u64 x24)],[],[],[],qfw F x24)) ?_ ?_
 refine au [48,4,73] ?_
 refine qq [1,3,15] [0] [] [0] (fun (((x29,x30),_):(Int×Int)×Unit)=>([(6,.int .u64 x29),(16,qFo x30)],[],[],[])) ((0:Int),(0:Int)) () ?_
 intro k35
 rintro ⟨⟨x29,x30⟩,_⟩
 refine aw [39,1,3,24,3,0,2,1,10] ?_ ?_
 refine au [83,48,47,3,4,34,10,24,9,89,24,0,29,5] ?_
 intro x38 e38 _
 refine au [36,2,5,0,95] ?_
 exact qk ((ior .u64 (ishl .u64 x29 1) x38,iadd .i64 x30 1),())
 refine au [71] ?_
 exact qa (x29,())
 rintro ⟨x24,_⟩
 exact az [91,5,69]
theorem qbT {r:(Int×Int×Int)}(hm:kF F i1 m1 i2=some r) :
    qFw 242 [.func (.func 241) #[] #[],.agg #[qFo i1,qFp l1 m1 t1],qFo i2] [qFt l1 m1 t1] (.tuple #[.int .u64 r.1,qFo r.2.1,qFo r.2.2]):=by
 refine pureA func242 ntmps242 hm fun _=>?_
 refine au [108,23] ?_
 intro g6
 refine au [5,5,59,24,9,4] ?_
 refine qkA EnC.e rfl rfl rfl rfl (fun x7 e7=>qiu F i1 m1 l1 t1 i2 x7 e7) (.consF 0 rfl .nil) (fun x7 e7 _=>?_)
 refine aw [4,22,22,22,5,5,5,0,2,1,1,3,4,25,3,0,2,10] ?_ ?_
 exact az [48,5,5,76]
 refine aw [11,2,1,1,3,4,26,4,0,2,10] ?_ ?_
 exact az [45,5,5,76]
 refine au [57,77,89,25,11,30,15] ?_
 intro x10 e10 _
 refine aw [4,22,22,5,5,0,2,1,1,3,4,25,7,0,2,10] ?_ ?_
 exact az [45,5,5,76]
 refine au [82,48,4,26,11] ?_
 intro h15
 refine qil rfl rfl rfl rfl h15 ?_
 refine au [25,9,24,0,116] ?_
 intro x16 e16
 refine j3 12 e16 ?_
 refine aw [0,2,1,3,4,25,1,0,2,10] ?_ ?_
 exact az [45,5,5,76]
 exact az [57,48,89,25,11,24,0,5,5,69]
theorem qjg {r:(Int×Int×Int)}(hm:jC F i1 m1 i2=some r) :
    qFw 200 [.agg #[qFo i1,qFp l1 m1 t1],qFo i2] [qFt l1 m1 t1] (.tuple #[.int .u64 r.1,qFo r.2.1,qFo r.2.2]):=by
 refine pureA func200 ntmps200 hm fun _=>?_
 refine au [111] ?_
 intro g6
 refine au [5,5,47,77,4] ?_
 refine qd qbT ?_
 intro x7 e7 _
 exact az [79,22,5,5,69]
theorem qlg {r:(Int×Int×Bool)}(hm:qfK F i1 i2 i3 i4 i5 m1 i6 i7=some r) :
    qFw 170 [.agg #[qFo i1,qFo i2,qFo i3,qFo i4,qFo i5,qFp l1 m1 t1],qFo i6,qFo i7] [qFt l1 m1 t1] (.tuple #[qFo r.1,qFo r.2.1,.bool r.2.2]):=by
 refine pureA func170 ntmps170 hm fun _=>?_
 refine au [108,23] ?_
 intro g11
 refine aw [5,5,5,0,2,1,1,3,9,9,18,25,6,0,2,10] ?_ ?_
 exact az [48,5,5,76]
 refine au [96,9,24,9,4,36,3] ?_
 intro x13 e13 _
 refine au [4,79,22,5,5,81,48,25,3,4] ?_
 refine kI 9 [7,9] [] [] [] (fun ((x18,_):Bool×Unit)=>([(35,.bool x18)],[],[],[],qes F x13 x18)) ?_ ?_
 refine qD (os:=_) rfl ?_
 refine av [26,2] ?_ ?_
 intro h17
 refine kj (k:=26) rfl h17 ?_
 refine au [68,68,86] ?_
 exact qa (true,())
 intro h17
 refine kg (k:=26) rfl h17 ?_
 refine au [4,9,78,4,28,10,25,11,25,1,85] ?_
 exact qa ((decide ((iconv .u64 (imin i2 i7))<x13.1)),())
 rintro ⟨x18,_⟩
 try dsimp only
 refine qD (os:=_) rfl ?_
 refine aw [0,2,10] ?_ ?_
 exact az [45,5,5,76]
 exact az [57,48,25,11,4,5,5,69]
theorem qao (F:Nat)(x1:Bool)(r:(Unit ⊕ Unit))(hm:yE F x1=some r) :
    PureL qFv 245 [.bool x1] [] [] [] lostCh Unit (fun (_:Unit) (_:Unit)=>.tuple #[]) (fun (_:Unit) (_:Unit)=>[]) (fun (_:Unit) (_:Unit)=>[]) (fun (_:Unit)=>[]) r:=by
 refine qhZ func245 rfl ntmps245 rfl hm (fun w=>?_)
 refine aw [25,0,1,3,4,25,7,0,2,10] ?_ ?_
 refine au [3,33,9] ?_
 exact qvb rfl rfl (qyZ _) rfl (qve rfl rfl (qkC .nil))
 refine au [11] ?_
 exact qef () (.inr rfl) (res0 rfl) rfl .nil .nil
theorem yB (F g1:Nat)(x2:Int)(x3:qFm)(a4:qFn)(c5:Nat)(x6 x7:Int)(r:((Int×Int×Int) ⊕ (Int×Int)))(hm:zP F x2 x3 x6 x7=some r) :
    PureL qFv 266 [qFq g1,qFo x7] [⟨g1,263,[qFo x2,qFp a4 x3 c5,qFo x6]⟩] [] [qFt a4 x3 c5] lostCh Unit (fun (r:(Int×Int×Int)) (_:Unit)=>qFo r.1) (fun (r:(Int×Int×Int)) (_:Unit)=>[⟨g1,263,[qFo r.2.1,qFp a4 x3 c5,qFo r.2.2]⟩]) (fun (_:(Int×Int×Int)) (_:Unit)=>[]) (fun (z:Int×Int)=>[⟨g1,263,[qFo z.1,qFp a4 x3 c5,qFo z.2]⟩]) r:=by
 refine qhZ func266 rfl ntmps266 rfl hm (fun w=>?_)
 refine au [56,81] ?_
 refine qI [] [0] [0] 16 ?_
 refine au [70,15,2] ?_
 refine qB 3 (.agg #[qFo x2,.slice a4 x3.length c5]) rfl rfl rfl (qz (i:=0) rfl tf65 rfl rfl (by simp) rfl) ?_
 refine au [6,4,6,5,15,6,24,15,7,12,8,36,3] ?_
 intro x9 e9 _
 refine au [72,6,9,6,10,6,11,100,6,14,6,15,54,2,48,25,6,4] ?_
 refine vC 5 23 28 [0,5,6] (decide (x9.1≤(iconv .u64 x7))) ?_ ?_ ?_
 exact az [89,25,11,28,5,61]
 exact az [68,60]
 refine yg EnC.e rfl rfl rfl (fun x11 e11=>qao F (((x9.2.2:Int) == 0) && decide (x9.1≤(iconv .u64 x7))) x11 e11) .nil .nil .nil (fun x12 _=>?_) (fun x11 e11=>?_)
 exact az [104]
 intro _
 refine au [97,4,55,21,97,25,11,49] ?_
 exact qef () (.inl rfl) (res1 rfl rfl) rfl (.cons 0 rfl .nil) .nil
theorem qmC (hm:qet F m1 i1=some i2) :
    qFw 289 [qFp l1 m1 t1,qFo i1] [qFr l1 m1 t1] (qFo i2):=by
 refine pureA func289 ntmps289 hm fun _=>?_
 refine aw [24,8,1,3,5,0,2,1,1,3,4,24,6,4,24,0,25,1,0,2,10] ?_ ?_
 exact az [45,76]
 refine au [96,47] ?_
 refine qN (fun ((x99,_):Int×Unit)=>([(1,qFo i1),(5,qFo x99)],[],[],[],qdv F i1 x99)) ?_ ?_
 refine au [48,84] ?_
 refine qq [1,13,14] [] [] [0] (fun (((x0,x2),_):(Int×Int)×Unit)=>([(5,qFo x0),(15,qFo x2)],[],[],[])) ((0:Int),(0:Int)) () ?_
 intro k0
 rintro ⟨⟨x0,x2⟩,_⟩
 refine aw [39,1,3,24,3,0,2,1,10] ?_ ?_
 refine au [83,48,26,3] ?_
 intro x3 e0 b0 o0
 refine au [25,2,5,81,48,24,3,4] ?_
 refine kI 7 [1,5,7,13,14,15] [] [] [1] (fun ((x5,_):Bool×Unit)=>([(29,.bool x5)],[],[],[],qbG F (qbH F m1 i1 k0) i1 x0 x2 x3 x5)) ?_ ?_
 refine qD (os:=_) rfl ?_
 refine av [26,2] ?_ ?_
 intro h0
 refine kj (k:=22) rfl h0 ?_
 refine au [68,62,86] ?_
 exact qa (true,())
 intro h0
 refine kg (k:=22) rfl h0 ?_
 refine au [4,24,3,4] ?_
 refine qjQ 3 (decide (x3<1)) [(1,qFo i1),(5,qFo x0),(13,qFp l1 m1 t1),(14,qFo (m1.length:Int)),(15,qFo x2),(7,qFo x3),(22,.bool false),(23,qFo x3),(24,.bool (decide (x3<1))),(25,.bool (decide (x3<1))),(28,.bool (decide (x3<1) && decide (0<x2)))] (fun h1=>?_) (fun h1=>?_) ?_
 refine qD (os:=_) rfl (kj (k:=25) rfl h1 ?_)
 refine au [4,25,1,24,11] ?_
 refine qs (d:=28) (v:=.bool (decide (x3<1) && decide (0<x2))) rfl (by rw[h1];simp only[Bool.true_and]) (qs (d:=25) (v:=.bool (decide (x3<1))) rfl (by simp only[qFp,h1] <;> rfl) ?_)
 exact az [53]
 refine qD (os:=_) rfl (kg (k:=25) rfl h1 ?_)
 refine au [62,24,12] ?_
 refine qs (d:=28) (v:=.bool (decide (x3<1) && decide (0<x2))) rfl (by rw[h1];simp only[Bool.false_and]) (qs (d:=25) (v:=.bool (decide (x3<1))) rfl (by simp only[qFp,h1] <;> rfl) ?_)
 exact az [53]
 refine qD (os:=_) rfl ?_
 refine au [85] ?_
 exact qa ((decide (x3<1) && decide (0<x2)),())
 rintro ⟨x5,_⟩
 try dsimp only
 refine qD (os:=_) rfl ?_
 refine aw [0,2,10] ?_ ?_
 exact az [45,58,90,103]
 refine au [57,3,89,113,28,10,66,24,0,28,10,116] ?_
 intro x6 e1
 refine j3 5 e1 ?_
 refine au [0,95] ?_
 exact qk ((x6,iadd .i64 x2 1),())
 refine au [71] ?_
 exact qa (x0,())
 rintro ⟨x99,_⟩
 refine aw [39,1,1,3,4,4,25,1,0,2,10] ?_ ?_
 exact az [45,76]
 exact az [96,69]
theorem qlh (hm:qfO F m1 m2=some m3) :
    Pure qFv 290 [qFp l1 m1 t1,qFp l2 m2 t2] [qFr l1 m1 t1,qFr l2 m2 t2] (qFn×Nat) (fun g=>qFp g.1 m3 g.2) (fun g=>[qFs g.1 m3 g.2]) (fun _=>[]):=by
 refine pureA func290 ntmps290 hm fun _=>?_
 refine au [56,80,80,47] ?_
 refine qN (fun (((x0,x2,x3),a0,c0,a1,c1):(qFm×qFm×Bool)×qFn×Nat×qFn×Nat)=>([(0,qFp a0 x0 c0),(5,qFp a1 x2 c1),(6,.bool x3)],[],[qFs a1 x2 c1],[qFr a0 x0 c0],qdw F x0 x2 x3)) ?_ ?_
 refine au [48,84,27,12] ?_
 refine qq [9,10] [] [] [1] (fun (((x5,x6,x7,x8),a3,c2,a4,c4):(qFm×qFm×Bool×Int)×qFn×Nat×qFn×Nat)=>([(0,qFp a3 x5 c2),(5,qFp a4 x6 c4),(6,.bool x7),(11,qFo x8)],[],[qFs a4 x6 c4],[qFr a3 x5 c2])) (m1,([]:qFm),true,(0:Int)) (l1,t1,none,0) ?_
 intro k0
 rintro ⟨⟨x5,x6,x7,x8⟩,a3,c2,a4,c4⟩
 refine aw [39,1,3,24,3,0,2,1,10] ?_ ?_
 refine au [83,45,26,3] ?_
 intro x9 e0 b0 o0
 refine au [25,2,47] ?_
 refine qi [0,6,8,9,10,11] [] [] [2,1] (fun ((x10,a6,c5):qFm×qFn×Nat)=>([(5,qFp a6 x10 c5)],[],[qFs a6 x10 c5],[],qaF F (qaG F m2 k0) x5 x7 x8 x9 x10)) ?_ ?_
 refine aw [1,3,4,0,2,10] ?_ ?_
 refine au [3,89,4] ?_
 refine qo4 (j:=2) (qC .i64) rfl UnF.u inferInstance rfl rfl rfl rfl rfl ?_
 intro x11 e1 a7 c7
 refine au [31,5] ?_
 intro x12 e2 a8 c8
 refine au [5,0] ?_
 exact qa (x12,a8,c8)
 refine au [11] ?_
 exact qa (x6,a4,c4)
 rintro ⟨x10,a6,c5⟩
 refine au [39,3,89] ?_
 refine qo4 (j:=0) (qC .i64) rfl UnF.u inferInstance rfl rfl rfl rfl rfl ?_
 intro x13 e3 a9 c9
 refine au [4,25,7,5,5,0,95] ?_
 exact qk ((x13,x10,(!x7),iadd .i64 x8 1),a9,c9,a6,c5)
 refine au [71] ?_
 exact qa ((x5,x6,x7),a3,c2,a4,c4)
 rintro ⟨⟨x0,x2,x3⟩,a0,c0,a1,c1⟩
 try dsimp only
 refine qN (fun ((x14,a10,c10):qFm×qFn×Nat)=>([(5,qFp a10 x14 c10)],[],[qFs a10 x14 c10],[],qbI F x14)) ?_ ?_
 refine aw [1,3,4,0,2,10] ?_ ?_
 refine au [3,89,31,5] ?_
 intro x15 e4 a11 c11
 refine au [5,0] ?_
 exact qa (x15,a11,c11)
 refine au [11] ?_
 exact qa (x2,a1,c1)
 rintro ⟨x14,a10,c10⟩
 refine au [91,49] ?_
 exact qx (a10,c10)
theorem qnY {r:(qFm×Int)}(hm:qfj F m1 m2=some r) :
    Pure qFv 267 [qFp l1 m1 t1,qFp l2 m2 t2] [qFr l1 m1 t1,qFr l2 m2 t2] (qFn×Nat) (fun g=>.tuple #[qFp g.1 r.1 g.2,qFo r.2]) (fun g=>[qFs g.1 r.1 g.2]) (fun _=>[]):=by
 refine pureA func267 ntmps267 hm fun _=>?_
 refine au [56,5,59,30,3] ?_
 intro x7 e7 _
 refine au [47] ?_
 refine qi [0,1] [] [] [0,1] (fun ((x10,_):Int×Unit)=>([(6,qFo x10)],[],[],[],qa7 F m1 m2 x10)) ?_ ?_
 refine aw [1,3,4,25,6,0,2,10] ?_ ?_
 refine au [3,89,24,6] ?_
 refine qd qmC ?_
 intro x16 e16 _
 refine au [5,0] ?_
 exact qa (x16,())
 refine au [11] ?_
 exact qa (x7,())
 rintro ⟨x10,_⟩
 refine aw [39,1,1,3,4,25,3,0,2,10] ?_ ?_
 refine au [48,5,99] ?_
 exact qx (none,0)
 refine au [57,48,4] ?_
 refine qd qlh ?_
 rintro x12 e12 ⟨a13,c14⟩
 refine au [5,49] ?_
 exact qx (a13,c14)
theorem qhI (F g1:Nat)(x2:Int)(x3:qFm)(a4:qFn)(c5:Nat)(x6 x7:Int)(r:((qFm×Int×Int) ⊕ (Int×Int)))(hm:jK F x2 x3 x6 x7=some r) :
    PureL qFv 268 [qFq g1,qFo x7] [⟨g1,263,[qFo x2,qFp a4 x3 c5,qFo x6]⟩] [] [qFt a4 x3 c5] lostCh (qFn×Nat) (fun (r:(qFm×Int×Int)) (g:qFn×Nat)=>qFp g.1 r.1 g.2) (fun (r:(qFm×Int×Int)) (_:qFn×Nat)=>[⟨g1,263,[qFo r.2.1,qFp a4 x3 c5,qFo r.2.2]⟩]) (fun (r:(qFm×Int×Int)) (g:qFn×Nat)=>[qFs g.1 r.1 g.2]) (fun (z:Int×Int)=>[⟨g1,263,[qFo z.1,qFp a4 x3 c5,qFo z.2]⟩]) r:=by
 refine qhZ func268 rfl ntmps268 rfl hm (fun w=>?_)
 refine au [56,59,113] ?_
 refine yg EnC.e rfl rfl rfl (fun x8 e8=>yB F g1 x2 x3 a4 c5 x6 (iadd .i64 x7 1) x8 e8) (.cons 0 rfl .nil) .nil (.consF 0 rfl .nil) (fun x9 _=>?_) (fun x8 e8=>?_)
 exact az [104]
 intro _
 refine au [26,1] ?_
 intro x10 e10 a11 c12
 refine au [47] ?_
 refine qN (fun (((x72,x73,x74),_):(qFm×Int×Int)×Unit)=>([(5,qFp a11 x72 c12)],[⟨g1,263,[qFo x73,qFp a4 x3 c5,qFo x74]⟩],[qFs a11 x72 c12],[qFt a4 x3 c5],qc2 F x72 x73 x74)) ?_ ?_
 refine au [48,84] ?_
 refine qq [0,1,13] [] [] [0] (fun (((x93,x94,x95,x96),_):(qFm×Int×Int×Int)×Unit)=>([(5,qFp a11 x93 c12),(14,qFo x94)],[⟨g1,263,[qFo x95,qFp a4 x3 c5,qFo x96]⟩],[qFs a11 x93 c12],[])) (x10,(0:Int),x8.2.1,x8.2.2) () ?_
 intro k0
 rintro ⟨⟨x93,x94,x95,x96⟩,_⟩
 refine aw [39,1,3,24,3,0,2,1,10] ?_ ?_
 refine au [83,48,47,3,89,89] ?_
 refine yg EnC.e rfl rfl rfl (fun x0 e0=>yB F g1 x95 x3 a4 c5 x96 x7 x0 e0) (.cons 0 rfl .nil) .nil (.consF 0 rfl .nil) (fun x1 _=>?_) (fun x0 e0=>?_)
 exact az [28,8,25,13,25,13,28,8,104]
 intro _
 refine au [4,28,10,24,0,26,5] ?_
 intro x4 e1 g0 h0
 refine kz (j:=0) (y':=iadd .i64 x0.1 (imin x94 1)) (qC .i64) rfl rfl rfl tf3 rfl h0 (qu e1).2.1 rfl (fun x5 e2 h1=>?_)
 have h2:x5.length=x93.length:=by rw[← e2,qCJ]
 refine qs (d:=5) (v:=qFp a11 x5 c12) rfl h1 (qs (d:=17) (v:=qFp a11 x5 c12) rfl h1 ?_)
 refine au [0,95] ?_
 exact qk ((x5,iadd .i64 x94 1,x0.2.1,x0.2.2),())
 refine au [71] ?_
 exact qa ((x93,x95,x96),())
 rintro ⟨⟨x72,x73,x74⟩,_⟩
 refine au [91,49] ?_
 exact qef (a11,c12) (.inl rfl) (res1 rfl rfl) rfl (.cons 0 rfl .nil) (.cons 0 rfl .nil)
theorem qkY (hm:qbf F i1=some i2) :
    qFw 291 [.int .u64 i1] [] (qFo i2):=by
 refine pureA func291 ntmps291 hm fun _=>?_
 refine au [64,59,27,3,25,11,4,28,9,25,11] ?_
 refine qzG rfl rfl rfl ?_
 refine au [34,11,116] ?_
 intro x2 e2
 refine j3 2 e2 ?_
 exact az [46,8,24,1]
theorem qiS (F g1:Nat)(x2:Int)(x3:qFm)(a4:qFn)(c5:Nat)(x6 x7 x8 x9:Int)(r:((List (Int×Int)×Int×Int) ⊕ (Int×Int)))(hm:qaM F x2 x3 x6 x7 x8 x9=some r) :
    PureL qFv 269 [qFq g1,qFo x7,qFo x8,qFo x9] [⟨g1,263,[qFo x2,qFp a4 x3 c5,qFo x6]⟩] [] [qFt a4 x3 c5] lostCh (qFn×Nat) (fun (r:(List (Int×Int)×Int×Int)) (g:qFn×Nat)=>qFp g.1 r.1 g.2) (fun (r:(List (Int×Int)×Int×Int)) (_:qFn×Nat)=>[⟨g1,263,[qFo r.2.1,qFp a4 x3 c5,qFo r.2.2]⟩]) (fun (r:(List (Int×Int)×Int×Int)) (g:qFn×Nat)=>[Ro eS209 209 2 (qFp g.1 r.1 g.2) r.1]) (fun (z:Int×Int)=>[⟨g1,263,[qFo z.1,qFp a4 x3 c5,qFo z.2]⟩]) r:=by
 refine qhZ func269 rfl ntmps269 rfl hm (fun w=>?_)
 refine au [28,7,45,59,89,26,11] ?_
 intro h10
 refine qo9 rfl rfl rfl rfl h10 (yg EnC.e rfl rfl rfl (fun x11 e11=>yB F g1 x2 x3 a4 c5 x6 (iquo .i64 x9 x8) x11 e11) (.cons 0 rfl .nil) .nil (.consF 0 rfl .nil) (fun x12 _=>?_) (fun x11 e11=>?_))
 exact az [104]
 intro _
 refine qt0 qgT (by decide) rfl UnF.u inferInstance rfl rfl rfl rfl rfl rfl ?_
 intro x13 e13 a14 c15
 refine au [59,47] ?_
 refine qN (fun (((x0,x1,x4),_):(List (Int×Int)×Int×Int)×Unit)=>([(9,qFp a14 x0 c15)],[⟨g1,263,[qFo x1,qFp a4 x3 c5,qFo x4]⟩],[Ro eS209 209 2 (qFp a14 x0 c15) x0],[qFt a4 x3 c5],qdX F x0 x1 x4)) ?_ ?_
 refine au [48,84] ?_
 refine qq [0,2,3,21] [] [] [0] (fun (((x5,x10,x14,x15,x16),_):(List (Int×Int)×Int×Int×Int×Int)×Unit)=>([(9,qFp a14 x5 c15),(10,qFo x10),(22,qFo x14)],[⟨g1,263,[qFo x15,qFp a4 x3 c5,qFo x16]⟩],[Ro eS209 209 2 (qFp a14 x5 c15) x5],[])) (x13,x7,(0:Int),x11.2.1,x11.2.2) () ?_
 intro k0
 rintro ⟨⟨x5,x10,x14,x15,x16⟩,_⟩
 refine aw [39,1,3,24,3,0,2,1,10] ?_ ?_
 refine au [83,48,59] ?_
 refine yg EnC.e rfl rfl rfl (fun x17 e0=>yB F g1 x15 x3 a4 c5 x16 2097152 x17 e0) (.cons 0 rfl .nil) .nil (.consF 0 rfl .nil) (fun x18 _=>?_) (fun x17 e0=>?_)
 exact az [25,13,28,8,25,13,25,13,28,8,104]
 intro _
 refine au [47] ?_
 refine qi [0,2,3,9,11,21,22] [0] [0] [0] (fun ((x19,_):Int×Unit)=>([(10,qFo x19)],[],[],[],yx F (yz F x3 x8 x9 x13 k0) x3 x8 x9 x5 x14 x17 x19)) ?_ ?_
 refine aw [1,3,4,25,6,0,2,10] ?_ ?_
 refine au [3,89,25,11,36,4] ?_
 intro x20 e1 _
 refine au [24,0,5,0] ?_
 exact qa (iadd .i64 x10 x20,())
 refine au [3,89,24,0,24,0,5,0] ?_
 exact qa (iadd .i64 x10 (iadd .i64 x17.1 2),())
 rintro ⟨x19,_⟩
 refine au [91,89,89] ?_
 refine yg EnC.e rfl rfl rfl (fun x21 e2=>yB F g1 x17.2.1 x3 a4 c5 x17.2.2 x9 x21 e2) (.cons 0 rfl .nil) .nil (.consF 0 rfl .nil) (fun x22 _=>?_) (fun x21 e2=>?_)
 exact az [25,13,28,8,25,13,25,13,28,8,104]
 intro _
 refine au [113] ?_
 refine qH [qFo x19,qFo (iadd .i64 x21.1 x8)] ?_
 refine au [26,5] ?_
 intro x23 e3 g0 h0
 refine kz (j:=0) (y':=(x19,iadd .i64 x21.1 x8)) qgT rfl rfl rfl tf209 rfl h0 (qu e3).2.1 rfl (fun x24 e4 h1=>?_)
 have h2:x24.length=x5.length:=by rw[← e4,qCJ]
 refine qs (d:=9) (v:=qFp a14 x24 c15) rfl h1 (qs (d:=38) (v:=qFp a14 x24 c15) rfl h1 ?_)
 refine au [46,3,89,4,26,5] ?_
 intro x25 e5 g2 h3
 refine au [9] ?_
 refine qsm (j:=0) (y:=x25) (off:=1) qgT rfl rfl tf3 rfl h3 (qu e5).2.2 rfl (fun _=>rfl) rfl rfl ?_
 refine au [25,9,24,0,5,0,95] ?_
 exact qk ((x24,iadd .i64 x19 (isub .i64 x25.2 1),iadd .i64 x14 1,x21.2.1,x21.2.2),())
 refine au [71] ?_
 exact qa ((x5,x15,x16),())
 rintro ⟨⟨x0,x1,x4⟩,_⟩
 refine au [91,49] ?_
 exact qef (a14,c15) (.inl rfl) (res1 rfl rfl) rfl (.cons 0 rfl .nil) (.cons 0 rfl .nil)
theorem qhB (hm:jd F m1 t1 i1=some m2) :
    PureM qFv 295 [qFp l1 m1 t1,qFo i1] [] [qFs l1 m1 t1] [] (qFn×Nat) (fun g=>qFp g.1 m2 g.2) (fun _=>[]) (fun g=>[qFs g.1 m2 g.2]):=by
 refine pureMA func295 ntmps295 hm fun _=>?_
 refine aw [24,8,1,3,5,0,2,1,1,3,4,24,3,0,2,10] ?_ ?_
 exact az [29,13]
 refine au [57] ?_
 refine qN (fun ((x15,a13,c14):qFm×qFn×Nat)=>([(0,qFp a13 x15 c14)],[],[qFs a13 x15 c14],[],jR F x15)) ?_ ?_
 refine au [48,4,36,5,4,24,6,25,9,25,9,116] ?_
 intro x16 e16
 refine j3 1 e16 ?_
 refine aw [0,2,1,3,4,25,1,0,2,10] ?_ ?_
 refine au [3,89,36,5,36,6] ?_
 intro x17 e17
 refine au [4] ?_
 refine qxK (y:=(0:Int)) 0 (qC .i64) rfl UnF.u UnF.u inferInstance rfl rfl rfl rfl rfl rfl rfl rfl rfl ?_
 intro x18 e18 a19 c20
 refine au [4,24,6,36,6] ?_
 intro x21 e21
 refine au [5,0] ?_
 exact qa (x21,a19,c20)
 refine au [11] ?_
 exact qa (m1,l1,t1)
 rintro ⟨x15,a13,c14⟩
 refine au [91,49] ?_
 exact qK (a13,c14)
theorem qgO (hm:zR F p1=some m1) :
    Pure qFv 272 [qFp l1 p1 t1] [SlN eN56 iN56 1 (qFp l1 p1 t1) p1 n1] (qFn×Nat) (fun g=>qFp g.1 m1 g.2) (fun g=>[qFs g.1 m1 g.2]) (fun _=>[]):=by
 refine pureA func272 ntmps272 hm fun _=>?_
 refine au [64,80,47] ?_
 refine qi [0] [] [] [0] (fun ((x43,_):Int×Unit)=>([(3,qFo x43)],[],[],[],kM F p1 x43)) ?_ ?_
 refine au [48,84] ?_
 refine qq [0,9,10] [] [] [0] (fun (((x0,x2),_):(Int×Int)×Unit)=>([(3,qFo x0),(11,qFo x2)],[],[],[])) ((0:Int),(0:Int)) () ?_
 intro k0
 rintro ⟨⟨x0,x2⟩,_⟩
 refine aw [39,1,3,24,3,0,2,1,10] ?_ ?_
 refine au [83,45,27,2] ?_
 intro x3 e0 g0 b0 o0
 refine aw [25,2,5,0,2,1,3,4,4,24,6,24,0,5,0,2,1,3,4,24,3,0,2,10] ?_ ?_
 exact az [29,13]
 refine au [11,95] ?_
 exact qk ((iadd .i64 x0 (x3.length:Int),iadd .i64 x2 1),())
 refine au [71] ?_
 exact qa (x0,())
 rintro ⟨x43,_⟩
 refine au [91,26,10] ?_
 refine qt qhB ?_
 rintro x44 e44 ⟨a45,c46⟩
 refine au [47] ?_
 refine qN (fun ((x4,a0,c0):qFm×qFn×Nat)=>([(6,qFp a0 x4 c0)],[],[qFs a0 x4 c0],[],vQ F x4)) ?_ ?_
 refine au [48,84] ?_
 refine qq [25,26] [] [] [0] (fun (((x5,x6),a1,c1):(qFm×Int)×qFn×Nat)=>([(6,qFp a1 x5 c1),(27,qFo x6)],[],[qFs a1 x5 c1],[])) (x44,(0:Int)) (a45,c46) ?_
 intro k1
 rintro ⟨⟨x5,x6⟩,a1,c1⟩
 refine aw [39,1,3,24,3,0,2,1,10] ?_ ?_
 refine au [83,45,27,2] ?_
 intro x7 e1 g1 b1 o1
 refine au [25,2,47,3,89] ?_
 refine zA 0 (qC .i64) rfl UnF.u inferInstance rfl rfl rfl rfl rfl (.inr ⟨1,rfl⟩) rfl rfl ?_
 intro x8 e2 a3 c2
 refine au [5,0,95] ?_
 exact qk ((x8,iadd .i64 x6 1),a3,c2)
 refine au [71] ?_
 exact qa (x5,a1,c1)
 rintro ⟨x4,a0,c0⟩
 refine au [91,49] ?_
 exact qx (a0,c0)
theorem qmG (hm:qcC F i1 i2 i3=some d1) :
    qFw 301 [qFo i1,qFo i2,qFo i3] [] (.bool d1):=by
 refine pureA func301 ntmps301 hm fun _=>?_
 refine au [108,59,4,26,4,4] ?_
 refine vC 4 10 14 [] (decide (i1≤i3)) ?_ ?_ ?_
 exact az [89,28,5,61]
 exact az [62,7,60]
 exact az [69]
theorem qmF {r:(qFm×Int)}(hm:qev F w1=some r) :
    Pure qFv 292 [qFp l1 w1 t1] [Sl eS209 2 (qFp l1 w1 t1) w1] (qFn×Nat) (fun g=>.tuple #[qFp g.1 r.1 g.2,qFo r.2]) (fun g=>[qFs g.1 r.1 g.2]) (fun _=>[]):=by
 refine pureA func292 ntmps292 hm fun _=>?_
 refine aw [25,0,1,3,5,5,0,2,1,1,3,4,24,6,25,1,0,2,10] ?_ ?_
 refine au [45,5,99] ?_
 exact qx (none,0)
 refine au [96,47] ?_
 refine qi [0] [] [] [0] (fun ((_,_):Unit×Unit)=>([],[],[],[],qbN F w1)) ?_ ?_
 refine au [48,84] ?_
 refine qq [0,14,15] [] [] [0] (fun (((x0,x2),_):(Int×Int)×Unit)=>([(4,qFo x0),(16,qFo x2)],[],[],[])) ((-2:Int),(0:Int)) () ?_
 intro k0
 rintro ⟨⟨x0,x2⟩,_⟩
 refine aw [39,1,3,24,3,0,2,1,10] ?_ ?_
 refine au [83,45,32,1] ?_
 intro x3 e0 b0 o0
 refine au [29,3,24,5] ?_
 intro g0
 refine au [21,46,1,14] ?_
 refine qi [0,4,6,14,15,16] [0] [] [1] (fun ((x4,_):Bool×Unit)=>([(20,.bool x4)],[],[],[],jG F (qbP F w1 k0) x0 x2 x3 x4)) ?_ ?_
 refine au [45,78,36,7] ?_
 intro x5 e1 _
 refine aw [25,7,5,0,2,10] ?_ ?_
 refine au [11] ?_
 exact qa ((!x5),())
 refine au [45,78,36,7] ?_
 intro x6 e2 _
 refine aw [25,7,5,0,2,10] ?_ ?_
 refine au [11] ?_
 exact qa ((!x6),())
 refine au [3,78,78,24,0,25,9,25,1,5,0] ?_
 exact qa ((decide (1048576<(isub .i64 (iadd .i64 x3.1 x3.2) 1))),())
 rintro ⟨x4,_⟩
 refine aw [39,10] ?_ ?_
 refine au [45,5,49,50,90,50,25,8] ?_
 exact qx (none,0)
 refine aw [1,3,9,18,4,24,0,24,3,5,0,2,10] ?_ ?_
 refine au [45,5,49,50,90,50,25,8] ?_
 exact qx (none,0)
 refine au [11,63,3,78,78,24,0,25,9,5,0,95] ?_
 exact qk ((isub .i64 (iadd .i64 x3.1 x3.2) 1,iadd .i64 x2 1),())
 exact az [71,26,8]
 rintro ⟨_,_⟩
 refine au [117,47] ?_
 refine qN (fun ((x7,a0,c0):qFm×qFn×Nat)=>([(7,qFp a0 x7 c0)],[],[qFs a0 x7 c0],[],qgb F x7)) ?_ ?_
 refine au [48,84,27,12] ?_
 refine qq [49,50] [] [] [0] (fun (((x8,x9),a1,c1):(qFm×Int)×qFn×Nat)=>([(7,qFp a1 x8 c1),(51,qFo x9)],[],[qFs a1 x8 c1],[])) (([]:qFm),(0:Int)) (none,0) ?_
 intro k1
 rintro ⟨⟨x8,x9⟩,a1,c1⟩
 refine aw [39,1,3,24,3,0,2,1,10] ?_ ?_
 refine au [57] ?_
 refine qi [49,50,51] [] [] [0] (fun ((x10,a3,c2):qFm×qFn×Nat)=>([(7,qFp a3 x10 c2)],[],[qFs a3 x10 c2],[],qbO F (jH F w1 k1) x9 x10)) ?_ ?_
 refine au [14,45,32,1] ?_
 intro x11 e3 b1 o1
 refine au [29,3,24,5] ?_
 intro g1
 refine au [21,46,45,78,4,73] ?_
 refine qq [9,49,50,51,56] [0] [] [1] (fun (((x12,x13),a4,c4):(qFm×Int)×qFn×Nat)=>([(7,qFp a4 x12 c4),(57,qFo x13)],[],[qFs a4 x12 c4],[])) (x8,(0:Int)) (a1,c1) ?_
 intro k2
 rintro ⟨⟨x12,x13⟩,a4,c4⟩
 refine aw [39,1,3,24,3,0,2,1,10] ?_ ?_
 refine au [83,48,47,3,4,78,113] ?_
 refine zI [iadd .i64 x11.1 x13] (fun a5 c5=>?_)
 refine zA 1 (qC .i64) rfl underlying56 tf3 rfl rfl rfl rfl rfl (.inl ⟨0,_,rfl⟩) rfl rfl (fun x14 e4 a6 c6=>?_)
 refine au [5,0,95] ?_
 exact qk ((x14,iadd .i64 x13 1),a6,c6)
 refine au [71,24,2] ?_
 exact qa (x12,a4,c4)
 rintro ⟨x10,a3,c2⟩
 refine au [39,94] ?_
 exact qk ((x10,iadd .i64 x9 1),a3,c2)
 refine au [71] ?_
 exact qa (x8,a1,c1)
 rintro ⟨x7,a0,c0⟩
 refine au [91,5,49] ?_
 exact qx (a0,c0)
theorem qn0 {r:(qFm×Int)}(hm:qfk F w1 m1=some r) :
    Pure qFv 270 [qFp l1 w1 t1,qFp l2 m1 t2] [Sl eS209 2 (qFp l1 w1 t1) w1,qFr l2 m1 t2] (qFn×Nat) (fun g=>.tuple #[qFp g.1 r.1 g.2,qFo r.2]) (fun g=>[qFs g.1 r.1 g.2]) (fun _=>[]):=by
 refine pureA func270 ntmps270 hm fun _=>?_
 refine au [56,5,59] ?_
 refine qd qmF ?_
 rintro x7 e7 ⟨a8,c9⟩
 refine au [4,79,5,47] ?_
 refine qi [1,6] [] [0] [1] (fun ((x12,_):Int×Unit)=>([(7,qFo x12)],[],[],[],qa8 F m1 x7 x12)) ?_ ?_
 refine aw [1,3,4,25,6,0,2,10] ?_ ?_
 refine au [3,4,30,3] ?_
 intro x38 e38 _
 refine au [5,0] ?_
 exact qa (x38,())
 refine au [11] ?_
 exact qa (x7.2,())
 rintro ⟨x12,_⟩
 refine aw [39,1,1,3,4,25,3,0,2,10] ?_ ?_
 refine au [48,5,99] ?_
 exact qx (none,0)
 refine au [57,48,4,36,8] ?_
 refine qbl (vs:=[qFp a8 x7.1 c9,qFp l2 m1 t2]) (ys:=([(x7.1,a8,c9),(m1,l2,t2)]:List (qFm×qFn×Nat))) qp (by decide) rfl underlying22 tf56 rfl rfl rfl rfl rfl (by decide) (fun a14 c15=>qnB (inn:=iN56) ([x7.1,m1]:List (qFm)) ([(a8,c9),(l2,t2)]:List (qFn×Nat)) 0 rfl rfl (qh 0 rfl (qh 1 rfl zG)) ?_)
 refine au [36,9] ?_
 rintro x16 e16 ⟨a17,c18⟩
 refine au [59,31,8] ?_
 intro x19 e19 _
 refine au [26,11] ?_
 intro h20
 replace h20:=of_decide_eq_true h20
 refine qs (d:=8) (v:=qFp a17 x19 c18) rfl (by simp only[qFp,h20] <;> rfl) (qs (d:=24) (v:=qFp a17 x19 c18) rfl (by simp only[qFp,h20] <;> rfl) (qs (d:=25) (v:=qFp a17 x19 c18) rfl (by simp only[qFp,h20] <;> rfl) ?_))
 refine au [46,1,14,48,33,0] ?_
 rintro x29 e29 ⟨a30,c31⟩
 refine au [33,2] ?_
 rintro x32 e32 ⟨a33,c34⟩
 refine aw [24,6,4,24,6,24,3,5,0,2,10] ?_ ?_
 refine au [45,5,49,50,25,8] ?_
 exact qx (none,0)
 refine aw [1,3,4,24,6,25,1,5,0,2,10] ?_ ?_
 refine au [45,5,49,50,25,8] ?_
 exact qx (none,0)
 refine au [11,63,48,5,49] ?_
 exact qx (a17,c18)
theorem qiM {r:(Int×Int×Bool)}(hm:zY F i1 m1 i2 i3=some r) :
    qFw 302 [.agg #[qFo i1,qFp l1 m1 t1],qFo i2,.int .u64 i3] [qFt l1 m1 t1] (.tuple #[.int .u64 r.1,qFo r.2.1,.bool r.2.2]):=by
 refine pureA func302 ntmps302 hm fun _=>?_
 refine au [108,23] ?_
 intro g7
 refine au [5,5,59,34,13] ?_
 intro x8 e8 _
 refine au [4,79,5,47] ?_
 refine qi [1,3,9,10] [0] [] [0] (fun ((_,_):Unit×Unit)=>([],[],[],[],kv F i1 m1 i2 x8)) ?_ ?_
 refine aw [1,3,4,25,1,0,2,10] ?_ ?_
 refine au [77,89,25,9,30,15] ?_
 intro x15 e15 _
 refine aw [4,22,22,5,5,0,2,1,1,3,4,25,7,0,2,10] ?_ ?_
 exact az [45,5,5,58,13,24,1]
 refine aw [11,2,1,3,4,4,24,3,0,2,10] ?_ ?_
 exact az [48,89,24,0,25,9,5,5,76]
 exact az [11,26,8]
 exact az [11,26,8]
 rintro ⟨_,_⟩
 refine au [39,77,89,30,15] ?_
 intro x14 e14 _
 exact az [4,79,5,59,4,25,9,89,66,5,5,69]
theorem qld {r:(Int×Int×Int)}(hm:qdm F i1 i2 d1=some r) :
    qFw 303 [.int .u64 i1,qFo i2,.bool d1] [] (.tuple #[.int .u64 r.1,qFo r.2.1,qFo r.2.2]):=by
 refine pureA func303 ntmps303 hm fun _=>?_
 refine aw [26,6,1,3,5,5,5,0,2,1,14,1,3,4,25,7,5,0,2,10] ?_ ?_
 exact az [45,5,5,49,103]
 refine aw [1,3,4,25,1,5,0,2,10] ?_ ?_
 exact az [45,5,5,49,103]
 exact az [11,63,48,4,5,5,69]
theorem qji {r:(Int×Int×Int)}(hm:qbC F i1 m1 i2 i3=some r) :
    qFw 293 [.agg #[qFo i1,qFp l1 m1 t1],qFo i2,qFo i3] [qFt l1 m1 t1] (.tuple #[.int .u64 r.1,qFo r.2.1,qFo r.2.2]):=by
 refine pureA func293 ntmps293 hm fun _=>?_
 refine au [108,23] ?_
 intro g7
 refine au [5,5,47,77,4,36,1] ?_
 intro x8 e8 _
 refine aw [4,22,22,22,5,5,5,0,2,1,1,3,4,25,7,0,2,10] ?_ ?_
 exact az [45,5,5,76]
 refine aw [11,2,1,1,3,4,4,25,11,27,11,26,4,0,2,10] ?_ ?_
 exact az [45,5,5,76]
 refine au [57,48,25,11,4,27,11,26,11] ?_
 intro h11
 refine qil rfl rfl rfl rfl h11 ?_
 refine au [116] ?_
 intro x12 e12
 refine j3 12 e12 ?_
 refine au [46,1,28,6] ?_
 intro h17
 refine qI [] [0] [0] 15 ?_
 refine qB 0 (.agg #[qFo i1,.slice l1 m1.length t1]) rfl rfl rfl (qz (i:=0) rfl tf65 rfl rfl (by simp) rfl) ?_
 refine au [6,1,6,2,6,3] ?_
 refine qb 4 (.int .u64 (ishl .u64 x12 i3)) rfl rfl rfl (qi8 rfl rfl h17) ?_
 refine au [6,5,6,6,12,7] ?_
 refine qd qiM ?_
 intro x20 e20 _
 refine au [72,6,8,6,9,6,10,6,11,100,6,14,54,2,48,113,25,9,89] ?_
 refine qd qld ?_
 intro x21 e21 _
 exact az [79,22,5,5,69]
theorem qiL {r:(Bool×Int×Bool)}(hm:k8 F i1 d1 i2=some r) :
    PureM qFv 294 [qFq t1,.int .u64 i2] [⟨t1,359,[qFo i1,.bool d1]⟩] [] [] Unit (fun _=>.bool r.1) (fun _=>[⟨t1,359,[qFo r.2.1,.bool r.2.2]⟩]) (fun _=>[]):=by
 refine pureMA func294 ntmps294 hm fun _=>?_
 refine aw [24,8,1,3,5,0,2,1,1,3,4,25,1,0,2,10] ?_ ?_
 exact az [45,58,25,14]
 refine au [57] ?_
 refine qN (fun ((x8,_):Int×Unit)=>([(0,qFq t1)],[⟨t1,359,[qFo x8,.bool d1]⟩],[],[],yK F x8)) ?_ ?_
 refine aw [1,3,4,24,10,9,18,0,2,10] ?_ ?_
 refine au [3,4,112,4,25,11,24,0,24,0,55,87] ?_
 exact qa (iadd .i64 i1 (iadd .i64 (iconv .i64 i2) 1),())
 refine kD mixed [9] _ _ .nil (qgV 0 rfl qf) 10 rfl ?_
 refine au [70,15,2] ?_
 refine qy 3 (qFo i1) [[9]] rfl rfl rfl (kX (j:=0) rfl tf3 rfl rfl (fun _=>rfl) rfl) ?_
 refine au [6,4,12,5,36,4] ?_
 intro x10 e10 _
 refine au [0,31,14,67,15,8,12,9,87] ?_
 refine kY 9 rfl (by kernel_rfl) .nil ?_
 refine au [54] ?_
 exact qa (iadd .i64 i1 x10,())
 rintro ⟨x8,_⟩
 refine au [91,55,21,97,112,34,4] ?_
 intro x9 e9 _
 exact az [88]
theorem qpv {r:(qFm×Int×Int)}(hm:qf5 F i1 m1 i2 i3 i4 i5=some r) :
    Pure qFv 271 [.agg #[qFo i1,qFp l1 m1 t1],qFo i2,qFo i3,qFo i4,qFo i5] [qFt l1 m1 t1] (qFn×Nat) (fun g=>.tuple #[qFp g.1 r.1 g.2,qFo r.2.1,qFo r.2.2]) (fun g=>[qFs g.1 r.1 g.2]) (fun _=>[]):=by
 refine pureA func271 ntmps271 hm fun _=>?_
 refine au [32,2,45,23] ?_
 intro g9
 refine au [5,5,59] ?_
 refine qH [qFo i3,.bool false] ?_
 refine au [23] ?_
 intro g10
 refine au [47] ?_
 refine qN (fun (((x0,x3),a0,c0):(Int×qFm)×qFn×Nat)=>([(1,qFo x0),(10,qFp a0 x3 c0)],[],[qFs a0 x3 c0],[],qfH F x0 x3)) ?_ ?_
 refine au [48,4,73,27,12] ?_
 refine qq [3,5,13,18] [1] [] [0] (fun (((x4,x9,x10,x11,x12),a1,c1):(Int×qFm×Int×Int×Bool)×qFn×Nat)=>([(1,qFo x4),(10,qFp a1 x9 c1),(19,qFo x10)],[⟨g10,359,[qFo x11,.bool x12]⟩],[qFs a1 x9 c1],[])) (i2,([]:qFm),(0:Int),i3,false) (none,0) ?_
 intro k0
 rintro ⟨⟨x4,x9,x10,x11,x12⟩,a1,c1⟩
 refine aw [39,1,3,24,3,0,2,1,10] ?_ ?_
 refine au [83,45,81,77,89] ?_
 refine qd qji ?_
 intro x13 e0 _
 refine aw [4,22,22,22,5,5,5,0,2,1,3,4,25,3,0,2,10] ?_ ?_
 refine au [48,5,5,58,90,50,25,8] ?_
 exact qx (none,0)
 refine au [82,48,4] ?_
 refine qt qiL ?_
 intro x14 e1 _
 refine aw [25,7,0,2,10] ?_ ?_
 refine au [45,5,5,58,90,50,25,8] ?_
 exact qx (none,0)
 refine au [57,3,89,112] ?_
 refine zI [x14.2.1] (fun a2 c2=>?_)
 refine zA 1 (qC .i64) rfl underlying56 tf3 rfl rfl rfl rfl rfl (.inl ⟨0,_,rfl⟩) rfl rfl (fun x15 e2 a4 c3=>?_)
 refine au [5,0,95] ?_
 exact qk ((x13.2.1,x15,iadd .i64 x10 1,x14.2.1,x14.2.2),a4,c3)
 refine au [71] ?_
 exact qa ((x4,x9),a1,c1)
 rintro ⟨⟨x0,x3⟩,a0,c0⟩
 refine au [91,4,5,5,49] ?_
 exact qx (a0,c0)
theorem qiQ (F g1:Nat)(x2:Int)(x3:qFm)(a4:qFn)(c5:Nat)(x6 x7:Int)(x8:qFm)(a9:qFn)(c10:Nat)(x11 x12 x13:Int)(r:((qFm×Int×Int) ⊕ (Int×Int)))(hm:vU F x2 x3 x6 x7 x8 x11 x12 x13=some r) :
    PureL qFv 244 [qFq g1,qFo x7,qFp a9 x8 c10,.agg #[qFo x11,qFo x12,qFo x13]] [⟨g1,263,[qFo x2,qFp a4 x3 c5,qFo x6]⟩] [] [qFt a4 x3 c5,qFr a9 x8 c10] lostCh (qFn×Nat) (fun (r:(qFm×Int×Int)) (g:qFn×Nat)=>qFp g.1 r.1 g.2) (fun (r:(qFm×Int×Int)) (_:qFn×Nat)=>[⟨g1,263,[qFo r.2.1,qFp a4 x3 c5,qFo r.2.2]⟩]) (fun (r:(qFm×Int×Int)) (g:qFn×Nat)=>[qFs g.1 r.1 g.2]) (fun (z:Int×Int)=>[⟨g1,263,[qFo z.1,qFp a4 x3 c5,qFo z.2]⟩]) r:=by
 refine qhZ func244 rfl ntmps244 rfl hm (fun w=>?_)
 refine au [28,7,45,23] ?_
 intro g14
 refine au [59] ?_
 refine yg EnC.e rfl rfl rfl (fun x15 e15=>yB F g1 x2 x3 a4 c5 x6 300 x15 e15) (.cons 1 rfl .nil) .nil (.consF 0 rfl .nil) (fun x16 _=>?_) (fun x15 e15=>?_)
 exact az [104]
 intro _
 refine aw [5,0,2,1,1,3,4,25,6,0,2,10] ?_ ?_
 refine au [45,99] ?_
 exact qef (none,0) (.inl rfl) (res1 rfl rfl) rfl (.cons 0 rfl .nil) (.cons 0 rfl .nil)
 refine au [96,47] ?_
 refine qi [0,1,7,9] [1] [] [0] (fun (((x31,x32,x33),a29,c30):(qFm×Int×Int)×qFn×Nat)=>([(10,qFp a29 x31 c30)],[⟨g1,263,[qFo x32,qFp a4 x3 c5,qFo x33]⟩],[qFs a29 x31 c30],[],yM F x3 x7 x12 x13 x15 x31 x32 x33)) ?_ ?_
 refine aw [1,3,9,25,12,25,1,0,2,10] ?_ ?_
 refine au [45,59,89,24,6] ?_
 refine yg EnC.e rfl rfl rfl (fun x72 e72=>qhI F g1 x15.2.1 x3 a4 c5 x15.2.2 (x8.length:Int) x72 e72) (.cons 0 rfl .nil) .nil (.consF 0 rfl .nil) (fun x73 _=>?_) (fun x72 e72=>?_)
 exact az [25,13,104]
 rintro ⟨a74,c75⟩
 refine qd qnY ?_
 rintro x76 e76 ⟨a77,c78⟩
 refine au [4,79,5,47,3,4,25,6,4] ?_
 refine vC 5 36 41 [0,1,7,9,10] (decide ((x76.1.length:Int)≤x15.1)) ?_ ?_ ?_
 exact az [4,74,28,5,61]
 exact az [68,60]
 refine yg EnC.e rfl rfl rfl (fun x80 e80=>qao F (((x76.2:Int) == 0) && decide ((x76.1.length:Int)≤x15.1)) x80 e80) .nil .nil .nil (fun x81 _=>?_) (fun x80 e80=>?_)
 exact az [104]
 intro _
 refine au [0] ?_
 exact qa ((x76.1,x72.2.1,x72.2.2),a77,c78)
 refine au [11,25,8] ?_
 exact qa ((([]:qFm),x15.2.1,x15.2.2),none,0)
 rintro ⟨⟨x31,x32,x33⟩,a29,c30⟩
 refine aw [39,1,3,4,4,24,6,25,9,5,0,2,1,1,3,4,25,6,0,2,10] ?_ ?_
 refine au [48,58] ?_
 exact qef (a29,c30) (.inl rfl) (res1 rfl rfl) rfl (.cons 1 rfl .nil) (.cons 0 rfl .nil)
 refine au [96,47] ?_
 refine qi [0,1,7,10,12] [0] [0] [0] (fun (((x42,x43,x44),a40,c41):(List (Int×Int)×Int×Int)×qFn×Nat)=>([(13,qFp a40 x42 c41)],[⟨g1,263,[qFo x43,qFp a4 x3 c5,qFo x44]⟩],[Ro eS209 209 2 (qFp a40 x42 c41) x42],[],yN F x3 x7 x13 x15 x31 x42 x43 x44)) ?_ ?_
 refine aw [1,3,9,18,25,1,0,2,10] ?_ ?_
 refine au [3,89,78,4] ?_
 refine yg EnC.e rfl rfl rfl (fun x66 e66=>qiS F g1 x32 x3 a4 c5 x33 x7 x12 (isub .i64 x15.1 (x31.length:Int)) x66 e66) (.cons 1 rfl .nil) .nil (.consF 0 rfl .nil) (fun x67 _=>?_) (fun x66 e66=>?_)
 exact az [104]
 rintro ⟨a68,c69⟩
 refine au [5,0] ?_
 exact qa ((x66.1,x66.2.1,x66.2.2),a68,c69)
 refine au [11] ?_
 exact qf1 (Int×Int) eS209 209 2 (qa ((([]:List (Int×Int)),x32,x33),none,0))
 rintro ⟨⟨x42,x43,x44⟩,a40,c41⟩
 refine au [91,26,10] ?_
 refine qd qn0 ?_
 rintro x45 e45 ⟨a46,c47⟩
 refine au [4,79,5,59,25,6,4] ?_
 refine vC 5 66 71 [0,1,7,10,12,14] (decide ((x45.1.length:Int)≤(isub .i64 x15.1 (x31.length:Int)))) ?_ ?_ ?_
 exact az [4,74,28,5,61]
 exact az [68,60]
 refine yg EnC.e rfl rfl rfl (fun x49 e49=>qao F (((x45.2:Int) == 0) && decide ((x45.1.length:Int)≤(isub .i64 x15.1 (x31.length:Int)))) x49 e49) .nil .nil .nil (fun x50 _=>?_) (fun x49 e49=>?_)
 exact az [25,13,36,10]
 intro _
 refine au [46,1] ?_
 refine qI [] [0,0] [0] 23 ?_
 refine au [70,15,2] ?_
 refine qB 3 (.agg #[qFo x43,.slice a4 x3.length c5]) rfl rfl rfl (qz (i:=1) rfl tf65 rfl rfl (by simp) rfl) ?_
 refine au [6,4,6,5,15,6,26,9,7,6,8,15,9,24,15,10,6,11,6,12,28,3,13,6,14,12,15] ?_
 refine qd qpv ?_
 rintro x54 e54 ⟨a55,c56⟩
 refine au [0,30,6,6,16,6,17,6,18,6,19,6,20,6,21,6,22,54,2,48,25,6] ?_
 refine yg EnC.e rfl rfl rfl (fun x57 e57=>qao F ((x54.2.2:Int) == 0) x57 e57) .nil .nil .nil (fun x58 _=>?_) (fun x57 e57=>?_)
 exact az [25,13,36,10]
 intro _
 refine au [97,4,55,25,5,97,89] ?_
 refine qi4 3 rfl (qi4 1 rfl ?_)
 refine au [36,8] ?_
 refine qbl (vs:=[qFp a29 x31 c30,qFp a46 x45.1 c47,qFp a55 x54.1 c56]) (ys:=([(x31,a29,c30),(x45.1,a46,c47),(x54.1,a55,c56)]:List (qFm×qFn×Nat))) qp (by decide) rfl underlying22 tf56 rfl rfl rfl rfl rfl (by decide) (fun a59 c60=>qnB (inn:=iN56) ([x31,x45.1,x54.1]:List (qFm)) ([(a29,c30),(a46,c47),(a55,c56)]:List (qFn×Nat)) 0 rfl rfl (qh 2 rfl (qh 1 rfl (qh 0 rfl zG))) ?_)
 refine au [36,9] ?_
 rintro x61 e61 ⟨a62,c63⟩
 refine au [59,31,8] ?_
 intro x64 e64 _
 refine au [26,11] ?_
 intro h65
 replace h65:=of_decide_eq_true h65
 refine qs (d:=10) (v:=qFp a62 x64 c63) rfl (by simp only[qFp,h65] <;> rfl) (qs (d:=104) (v:=qFp a62 x64 c63) rfl (by simp only[qFp,h65] <;> rfl) (qs (d:=105) (v:=qFp a62 x64 c63) rfl (by simp only[qFp,h65] <;> rfl) ?_))
 refine au [97,49] ?_
 exact qef (a62,c63) (.inl rfl) (res1 rfl rfl) rfl (.cons 1 rfl .nil) (.cons 0 rfl .nil)
theorem qiR {r:(qFm×Bool×Int×Int)}(hm:vV F i1 m1 i2 i3 m2 i4 i5 i6=some r) :
    PureM qFv 201 [qFq t1,qFo i3,qFp l2 m2 t3,.agg #[qFo i4,qFo i5,qFo i6]] [⟨t1,263,[qFo i1,qFp l1 m1 t2,qFo i2]⟩] [] [qFt l1 m1 t2,qFr l2 m2 t3] (qFn×Nat) (fun g=>.tuple #[qFp g.1 r.1 g.2,.bool r.2.1]) (fun _=>[⟨t1,263,[qFo r.2.2.1,qFp l1 m1 t2,qFo r.2.2.2]⟩]) (fun g=>[qFs g.1 r.1 g.2]):=by
 refine qw1 func201 rfl ntmps201 rfl hm (fun w=>?_)
 refine au [28,7,45,23] ?_
 intro g14
 refine au [24,5] ?_
 intro g15
 refine au [24,5] ?_
 intro g16
 refine au [46,45,27,5] ?_
 refine qu8 rfl rfl ?_
 refine au [97,55,28,13,59,89,26,7] ?_
 refine yg EnC.e rfl rfl rfl (fun x17 e17=>qiQ F t1 i1 m1 l1 t2 i2 i3 m2 l2 t3 i4 i5 i6 x17 e17) (.cons 3 rfl .nil) .nil (.consF 0 rfl (.consF 1 rfl .nil)) (fun x18 _=>?_) (fun x17 e17=>?_)
 refine au [25,13] ?_
 refine qf0 EnC.e rfl (.cons 2 rfl (.cons 1 rfl .nil)) (qjE _ _ _ _) ?_
 refine au [25,8] ?_
 exact yD (none,0) (resL (rs:=[.cell 8 56,.cell 9 4]) rfl (.cell (i:=0) rfl tf56 rfl rfl (fun _=>rfl) rfl (.cell (i:=1) rfl tf4 rfl rfl (fun _=>rfl) rfl ResOk.nil)) rfl) (hB:=fun h=>by subst h;exact (.cons 2 rfl .nil)) (hR:=fun h=>by subst h;exact (.cons 0 rfl .nil))
 rintro ⟨a19,c20⟩
 refine au [27,9,46,45,25,15,30,3] ?_
 intro x21 e21 _
 refine au [25,6] ?_
 refine yg EnC.e rfl rfl rfl (fun x22 e22=>qao F ((x21:Int) == 0) x22 e22) .nil .nil .nil (fun x23 _=>?_) (fun x22 e22=>?_)
 refine au [25,13] ?_
 refine qf0 EnC.e rfl (.cons 2 rfl (.cons 1 rfl .nil)) (qjE _ _ _ _) ?_
 refine au [25,8] ?_
 exact yD (none,0) (resL (rs:=[.cell 8 56,.cell 9 4]) rfl (.cell (i:=0) rfl tf56 rfl rfl (fun _=>rfl) rfl (.cell (i:=1) rfl tf4 rfl rfl (fun _=>rfl) rfl ResOk.nil)) rfl) (hB:=fun h=>by subst h;exact (.cons 2 rfl .nil)) (hR:=fun h=>by subst h;exact (.cons 0 rfl .nil))
 intro _
 refine au [46,45] ?_
 refine qH [qFo 0,.slice none 0 0,.bool false] ?_
 refine au [23] ?_
 intro g24
 refine au [59,4,28,13,4] ?_
 refine zU (i:=4) rfl rfl inferInstance rfl rfl (by simp) rfl rfl ?_
 refine au [29,7,35,1] ?_
 rintro x25 e25 ⟨a26,c27⟩
 refine au [46] ?_
 refine qi [0,8,9,10,11] [0,1,2,3] [0,1] [0] (fun ((_,_):Unit×Unit)=>([],[],[],[],jf F m1 i2 x17 x25)) ?_ ?_
 refine av [30,1] ?_ ?_
 intro h97
 refine qkx mixed [8,9] [] [⟨g24,316,[qFo x25.1,qFp a26 x25.2.1 c27,.bool x25.2.2]⟩,⟨t1,263,[qFo x17.2.1,qFp l1 m1 t2,qFo x17.2.2]⟩,⟨g16,4,[.bool false]⟩,⟨g15,56,[qFp a19 x17.1 c20]⟩,⟨g14,26,[qFo i4,qFo i5,qFo i6]⟩] [qFt l1 m1 t2,qFr l2 m2 t3] (.cons 0 rfl (.cons 0 rfl (.cons 0 rfl (.cons 0 rfl (.cons 0 rfl .nil))))) (qg 0 rfl (qg 1 rfl qf)) 20 rfl ?_
 refine au [32,6,32,7,32,8] ?_
 refine qec 3 (.bool x25.2.2) rfl rfl rfl (qz (i:=0) rfl tf4 rfl rfl (fun _=>rfl) rfl) rfl ?_
 refine au [32,9,36,11] ?_
 refine yJ 40 h97 ?_
 refine au [36,12,36,13,36,14] ?_
 refine ky 9 _ rfl rfl rfl (zd rfl inferInstance) rfl (qec 10 (qFo x25.1) rfl rfl rfl (qz (i:=0) rfl tf3 rfl rfl (fun _=>rfl) rfl) rfl ?_)
 refine au [36,15,37,0] ?_
 refine ky 13 _ rfl rfl rfl (zd rfl inferInstance) rfl (qec 14 (qFo x17.2.2) rfl rfl rfl (qz (i:=1) rfl tf3 rfl rfl (fun _=>rfl) rfl) rfl (ky 15 _ rfl rfl rfl (zy rfl) rfl (ky 16 _ rfl rfl rfl (zy rfl) rfl (ky 17 _ rfl rfl rfl (zy rfl) rfl ?_))))
 refine au [37,1,12,19] ?_
 refine yg EnC.e rfl rfl rfl (fun x98 e98=>qao F ((x25.1:Int) == (isub .i64 x17.2.2 i2)) x98 e98) .nil .nil .nil (fun x99 _=>?_) (fun x98 e98=>?_)
 refine au [25,13] ?_
 refine qpa (l':=[(8,qFq g15),(9,qFq g16)]) (qic rfl rfl (qic rfl rfl qrO)) ?_
 refine au [25,13] ?_
 refine qf0 EnC.e rfl (.cons 3 rfl (.cons 2 rfl .nil)) (qjE _ _ _ _) ?_
 refine au [25,8] ?_
 exact yD (none,0) (resL (rs:=[.cell 8 56,.cell 9 4]) rfl (.cell (i:=0) rfl tf56 rfl rfl (fun _=>rfl) rfl (.cell (i:=1) rfl tf4 rfl rfl (fun _=>rfl) rfl ResOk.nil)) rfl) (hB:=fun h=>by subst h;exact (.cons 3 rfl .nil)) (hR:=fun h=>by subst h;exact (.cons 0 rfl .nil))
 intro _
 refine au [0,37,2,16] ?_
 refine qsr ?_ (by intro c h;cases h)
 exact az [26,8]
 intro h97
 refine qkx mixed [8,9] [] [⟨g24,316,[qFo x25.1,qFp a26 x25.2.1 c27,.bool x25.2.2]⟩,⟨t1,263,[qFo x17.2.1,qFp l1 m1 t2,qFo x17.2.2]⟩,⟨g16,4,[.bool false]⟩,⟨g15,56,[qFp a19 x17.1 c20]⟩,⟨g14,26,[qFo i4,qFo i5,qFo i6]⟩] [qFt l1 m1 t2,qFr l2 m2 t3] (.cons 0 rfl (.cons 0 rfl (.cons 0 rfl (.cons 0 rfl (.cons 0 rfl .nil))))) (qg 0 rfl (qg 1 rfl qf)) 20 rfl ?_
 refine au [32,6,32,7,32,8] ?_
 refine qec 3 (.bool x25.2.2) rfl rfl rfl (qz (i:=0) rfl tf4 rfl rfl (fun _=>rfl) rfl) rfl ?_
 refine au [32,9,36,11] ?_
 refine yJ 40 h97 ?_
 refine jl 6 rfl rfl rfl rfl (jl 7 rfl rfl rfl rfl (jl 8 rfl rfl rfl rfl (jl 9 rfl rfl rfl rfl (jl 10 rfl rfl rfl rfl (jl 11 rfl rfl rfl rfl (jl 12 rfl rfl rfl rfl (jl 13 rfl rfl rfl rfl (jl 14 rfl rfl rfl rfl (jl 15 rfl rfl rfl rfl (jl 16 rfl rfl rfl rfl (jl 17 rfl rfl rfl rfl ?_)))))))))))
 refine au [37,1,12,19] ?_
 refine yg EnC.e rfl rfl rfl (fun x0 e0=>qao F false x0 e0) .nil .nil .nil (fun x1 _=>?_) (fun x0 e0=>?_)
 refine au [25,13] ?_
 refine qpa (l':=[(8,qFq g15),(9,qFq g16)]) (qic rfl rfl (qic rfl rfl qrO)) ?_
 refine au [25,13] ?_
 refine qf0 EnC.e rfl (.cons 3 rfl (.cons 2 rfl .nil)) (qjE _ _ _ _) ?_
 refine au [25,8] ?_
 exact yD (none,0) (resL (rs:=[.cell 8 56,.cell 9 4]) rfl (.cell (i:=0) rfl tf56 rfl rfl (fun _=>rfl) rfl (.cell (i:=1) rfl tf4 rfl rfl (fun _=>rfl) rfl ResOk.nil)) rfl) (hB:=fun h=>by subst h;exact (.cons 3 rfl .nil)) (hR:=fun h=>by subst h;exact (.cons 0 rfl .nil))
 intro _
 refine au [0,37,2,16] ?_
 refine qsr ?_ (by intro c h;cases h)
 exact az [26,8]
 rintro ⟨_,_⟩
 try dsimp only
 refine qi [8,9] [1,2,3] [1] [0] (fun ((_,_):Unit×Unit)=>([],[],[],[],qdW F x17)) ?_ ?_
 refine au [48,55,78,4,73] ?_
 refine qq [0,8,9,10,11,59] [0,0,0,0] [0,0] [0] (fun ((x75,_):Int×Unit)=>([(60,qFo x75)],[],[],[])) (0:Int) () ?_
 intro k86
 rintro ⟨x75,_⟩
 refine aw [39,1,3,24,3,0,2,1,10] ?_ ?_
 refine au [83,48,47] ?_
 refine qkx mixed [8,9] [] [⟨g24,316,[qFo x25.1,qFp a26 x25.2.1 c27,.bool x25.2.2]⟩,⟨t1,263,[qFo x17.2.1,qFp l1 m1 t2,qFo x17.2.2]⟩,⟨g16,4,[.bool false]⟩,⟨g15,56,[qFp a19 x17.1 c20]⟩] [qFt l1 m1 t2] (.cons 0 rfl (.cons 0 rfl (.cons 0 rfl (.cons 0 rfl .nil)))) (qg 0 rfl qf) 16 rfl ?_
 refine au [32,6,32,7,32,8] ?_
 refine qec 3 (.agg #[qFo x25.1,.slice a26 x25.2.1.length c27]) rfl rfl rfl (qz (i:=0) rfl tf65 rfl rfl (by simp) rfl) rfl ?_
 refine au [32,9,36,12,36,13,36,14] ?_
 refine qec 9 (.agg #[qFo x17.2.1,.slice l1 m1.length t2]) rfl rfl rfl (qz (i:=1) rfl tf65 rfl rfl (by simp) rfl) rfl (ky 10 _ rfl rfl rfl (zy rfl) rfl ?_)
 refine au [36,15,37,0,12,5,29,5] ?_
 intro x92 e92 _
 refine au [0,32,10,12,13,29,5] ?_
 intro x93 e93 _
 refine au [0,32,10] ?_
 refine ky 14 _ rfl rfl rfl (zy rfl) rfl ?_
 refine au [12,15] ?_
 refine yg EnC.e rfl rfl rfl (fun x94 e94=>qao F ((x92:Int) == x93) x94 e94) .nil .nil .nil (fun x95 _=>?_) (fun x94 e94=>?_)
 refine au [25,13] ?_
 refine qpa (l':=[(8,qFq g15),(9,qFq g16)]) (qic rfl rfl (qic rfl rfl qrO)) ?_
 refine au [28,8,25,13,25,13,28,8,25,13] ?_
 refine qf0 EnC.e rfl (.cons 3 rfl (.cons 2 rfl .nil)) (qjE _ _ _ _) ?_
 refine au [25,8] ?_
 exact yD (none,0) (resL (rs:=[.cell 8 56,.cell 9 4]) rfl (.cell (i:=0) rfl tf56 rfl rfl (fun _=>rfl) rfl (.cell (i:=1) rfl tf4 rfl rfl (fun _=>rfl) rfl ResOk.nil)) rfl) (hB:=fun h=>by subst h;exact (.cons 3 rfl .nil)) (hR:=fun h=>by subst h;exact (.cons 0 rfl .nil))
 intro _
 refine au [0,32,10,16] ?_
 refine qsr ?_ (by intro c h;cases h)
 refine au [95] ?_
 exact qk (iadd .i64 x75 1,())
 exact az [71,26,8]
 rintro ⟨_,_⟩
 refine au [117,25,15,27,9,25,5,46,8] ?_
 exact qss (.inl rfl) EnC.e rfl (qyU _ _) (yD (a19,c20) (resL (rs:=[.cell 8 56,.cell 9 4]) rfl (.cell (i:=2) rfl tf56 rfl rfl (fun _=>rfl) rfl (.cell (i:=1) rfl tf4 rfl rfl (fun _=>rfl) rfl ResOk.nil)) rfl) (hB:=fun h=>by subst h;exact (.cons 0 rfl .nil)) (hR:=fun h=>by subst h;exact (.cons 0 rfl .nil)))
theorem qkF {r:(qFm×Int×Int)}(hm:qas F i1 m1 i2 i3 m2 i4 i5 i6=some r) :
    Pure qFv 171 [.agg #[qFo i1,qFp l1 m1 t1],qFo i2,qFo i3,qFp l2 m2 t2,.agg #[qFo i4,qFo i5,qFo i6]] [qFt l1 m1 t1,qFr l2 m2 t2] (qFn×Nat) (fun g=>.tuple #[qFp g.1 r.1 g.2,qFo r.2.1,qFo r.2.2]) (fun g=>[qFs g.1 r.1 g.2]) (fun _=>[]):=by
 refine pureA func171 ntmps171 hm fun _=>?_
 refine au [32,2,45,23] ?_
 intro g13
 refine au [23] ?_
 intro g14
 refine au [5,5,80,25,10,4] ?_
 refine qH [qFo i1,qFp l1 m1 t1,qFo i2] ?_
 refine au [23] ?_
 intro g15
 refine au [59,89,25,10] ?_
 refine qt qiR ?_
 rintro x16 e16 ⟨a17,c18⟩
 refine aw [4,22,22,5,5,0,2,1,1,3,4,25,7,0,2,10] ?_ ?_
 refine au [45,5,5,99] ?_
 exact qx (none,0)
 refine au [82] ?_
 refine qI [] [0,0,0] [0,1] 8 ?_
 refine au [92,15,3,24,15,4,6,5,67,54,2,8] ?_
 exact qx (a17,c18)
theorem qnX {r:(List (qFm)×Bool)}(hm:qg8 F i1 i2 i3 i4 i5 m1=some r) :
    Pure qFv 196 [.agg #[qFo i1,qFo i2,qFo i3,qFo i4,qFo i5,qFp l1 m1 t1]] [qFt l1 m1 t1] (qFn×Nat×List (qFn×Nat)) (fun g=>.tuple #[qFp g.1 r.1 g.2.1,.bool r.2]) (fun g=>[RoN eN56 rN56 56 1 (qFp g.1 r.1 g.2.1) r.1 g.2.2 []]) (fun _=>[]):=by
 refine pureA func196 ntmps196 hm fun _=>?_
 refine au [64,23] ?_
 intro g9
 refine au [5,80,47] ?_
 refine qi [1] [0] [] [0] (fun (((x0,x7),a0,c0):(List (qFm)×Int)×qFn×Nat×List (qFn×Nat))=>([(2,qFp a0 x0 c0.1),(4,qFo x7)],[],[RoN eN56 rN56 56 1 (qFp a0 x0 c0.1) x0 c0.2 []],[],qe4 F i5 x0 x7)) ?_ ?_
 refine au [45,78,4,73] ?_
 refine qxG (qFm) (qFn×Nat) eN56 rN56 56 1 (qq [1,14] [0] [] [0] (fun (((x8,x9,x10),a1,c1):(List (qFm)×Int×Int)×qFn×Nat×List (qFn×Nat))=>([(2,qFp a1 x8 c1.1),(4,qFo x9),(15,qFo x10)],[],[RoN eN56 rN56 56 1 (qFp a1 x8 c1.1) x8 c1.2 []],[])) (([]:List (qFm)),(0:Int),(0:Int)) (none,0,([]:List (qFn×Nat))) ?_)
 intro k0
 rintro ⟨⟨x8,x9,x10⟩,a1,c1⟩
 refine aw [39,1,3,24,3,0,2,1,10] ?_ ?_
 refine au [57] ?_
 refine qi [1,14,15] [0] [] [0] (fun (((x11,x12),a2,c2):(List (qFm)×Int)×qFn×Nat×List (qFn×Nat))=>([(2,qFp a2 x11 c2.1),(4,qFo x12)],[],[RoN eN56 rN56 56 1 (qFp a2 x11 c2.1) x11 c2.2 []],[],qa5 F (qa6 F i1 i2 i3 i4 i5 m1 k0) x10 x11 x12)) ?_ ?_
 refine au [14,48,47,77,89] ?_
 refine qd qlg ?_
 intro x13 e0 _
 refine aw [4,22,22,22,5,5,5,0,2,1,1,3,4,25,7,0,2,10] ?_ ?_
 refine au [45,5,58,90,50,27,1] ?_
 exact qx (none,0,([]:List (qFn×Nat)))
 refine aw [11,2,1,3,5,0,2,1,1,3,4,25,1,0,2,10] ?_ ?_
 refine au [3,89,4,25,9,31,7] ?_
 intro x14 e1 g0 h0 g1 h1
 refine qkB (i:=0) rfl h0 (List.not_mem_nil) (qi6 (j:=1) (p:=(x14,g0)) qp rfl rfl tf56 rfl h1 h0 rfl (fun _=>rfl) rfl rfl ?_)
 refine au [80,9,24,9,24,5] ?_
 intro g2
 refine au [21,97,9,21,46,45,9,25,10,89,4,24,9,37,3] ?_
 rintro x15 e2 ⟨a3,c3⟩
 refine au [4,79,22,5,5,81,1] ?_
 refine qi3 (rin:=rN56) (p:=(x14,g0)) (i:=1) (k:=0) (.cons 1 rfl .nil) rfl rfl h0 ?_
 refine aw [3,4,25,3,0,2,10] ?_ ?_
 refine au [45,5,58,90,50,27,1] ?_
 exact qx (none,0,([]:List (qFn×Nat)))
 refine au [57,3,89] ?_
 refine qbl (vs:=[qFp a3 x15.1 c3]) (ys:=([(x15.1,a3,c3)]:List (qFm×qFn×Nat))) qp (by decide) rfl underlying22 tf56 rfl rfl rfl rfl rfl (by decide) (fun a4 c4=>qmj (rin:=rN56) (i:=0) ([x15.1]:List (qFm)) ([(a3,c3)]:List (qFn×Nat)) rfl rfl (.cons 1 rfl .nil) (qqT qp rfl UnF.u inferInstance rfl rfl rfl rfl (.cons 1 rfl (.cons 0 rfl .nil)) rfl rfl ?_))
 intro x16 e3 a5 c5
 refine au [4,5,5,115] ?_
 exact qa ((x16,x15.2.1),a5,c5,(c1.2++([(a3,c3)]:List (qFn×Nat))))
 refine au [96,9,24,9,24,5] ?_
 intro g3
 refine au [21,97,9,21,46,45,9,25,10,89,4,24,9,26,10,37,3] ?_
 rintro x17 e4 ⟨a6,c6⟩
 refine aw [4,22,22,22,5,5,5,0,2,1,1,3,4,25,3,0,2,10] ?_ ?_
 refine au [45,5,58,90,50,27,1] ?_
 exact qx (none,0,([]:List (qFn×Nat)))
 refine au [57,3,89] ?_
 refine qbl (vs:=[qFp a6 x17.1 c6]) (ys:=([(x17.1,a6,c6)]:List (qFm×qFn×Nat))) qp (by decide) rfl underlying22 tf56 rfl rfl rfl rfl rfl (by decide) (fun a8 c7=>qmj (rin:=rN56) (i:=0) ([x17.1]:List (qFm)) ([(a6,c6)]:List (qFn×Nat)) rfl rfl (.cons 0 rfl .nil) (qqT qp rfl UnF.u inferInstance rfl rfl rfl rfl (.cons 2 rfl (.cons 0 rfl .nil)) rfl rfl ?_))
 intro x18 e5 a9 c9
 refine au [4,5,5,115] ?_
 exact qa ((x18,x17.2.1),a9,c9,(c1.2++([(a6,c6)]:List (qFn×Nat))))
 rintro ⟨⟨x11,x12⟩,a2,c2⟩
 refine au [39,94] ?_
 exact qk ((x11,x12,iadd .i64 x10 1),a2,c2)
 refine au [71] ?_
 exact qa ((x8,x9),a1,c1)
 rintro ⟨⟨x0,x7⟩,a0,c0⟩
 refine au [39,1] ?_
 refine qI [] [0] [0] 8 ?_
 refine au [70,15,2,15,3,24,15,4,6,5,67,54,2,8] ?_
 exact qx (a0,c0)
theorem qgi (hm:q9 F m1 m2=some d1) :
    qFw 197 [qFp l1 m1 t1,qFp l2 m2 t2] [qFt l1 m1 t1,qFt l2 m2 t2] (.bool d1):=by
 refine pureA func197 ntmps197 hm fun _=>?_
 refine aw [24,8,1,3,5,0,2,1,1,3,4,24,6,4,24,6,25,3,0,2,10] ?_ ?_
 exact az [45,76]
 refine au [57] ?_
 refine qN (fun ((_,_):Unit×Unit)=>([],[],[],[],qbQ F)) ?_ ?_
 refine au [48,84] ?_
 refine qq [0,1,12] [] [] [0,1] (fun ((x0,_):Int×Unit)=>([(13,qFo x0)],[],[],[])) (0:Int) () ?_
 intro k0
 rintro ⟨x0,_⟩
 refine aw [39,1,3,24,3,0,2,1,10] ?_ ?_
 refine au [83,48,81,36,0] ?_
 intro x2 e0 b0 o0 h0
 replace h0:l1=some ⟨b0,o0,none⟩:=h0
 refine qfY (j:=2) (qC .u8) (by decide) rfl ?_
 intro x3 e1 b1 o1 h1
 replace h1:l2=some ⟨b1,o1,none⟩:=h1
 refine au [37,4,70] ?_
 refine vg 2 h0 e0 ?_
 refine qy 3 (.int .u8 x2) [] rfl rfl rfl (qQ (j:=1) rfl tf5 rfl rfl (fun _=>rfl) rfl) ?_
 refine au [6,4,6,5] ?_
 refine vg 6 h1 e1 ?_
 refine qy 7 (.int .u8 x3) [] rfl rfl rfl (qQ (j:=0) rfl tf5 rfl rfl (fun _=>rfl) rfl) ?_
 refine aw [6,8,16,19,2,10] ?_ ?_
 exact az [45,49,90,103]
 refine au [11,95] ?_
 exact qk (iadd .i64 x0 1,())
 exact az [71,26,8]
 rintro ⟨_,_⟩
 exact az [117,69]
theorem qpz {r:(List (qFm)×Int)}(hm:qf8 F i1 i2 i3 i4 i5 m1=some r) :
    Pure qFv 167 [.agg #[qFo i1,qFo i2,qFo i3,qFo i4,qFo i5,qFp l1 m1 t1]] [qFt l1 m1 t1] (qFn×Nat×List (qFn×Nat)) (fun g=>.tuple #[.agg #[qFp g.1 r.1 g.2.1],qFo r.2]) (fun g=>[RoN eN56 rN56 56 1 (qFp g.1 r.1 g.2.1) r.1 g.2.2 []]) (fun _=>[]):=by
 refine pureA func167 ntmps167 hm fun _=>?_
 refine au [64,23] ?_
 intro g9
 refine au [24,5] ?_
 intro g10
 refine au [81,45,25,10] ?_
 refine qd qnV ?_
 intro x13 e13 _
 refine aw [5,0,2,1,3,4,25,3,0,2,10] ?_ ?_
 refine au [45] ?_
 refine qH [.slice none 0 0] ?_
 exact az [4,21,58,27,1,29,14]
 refine au [96,25,10] ?_
 refine qd qnX ?_
 rintro x14 e14 ⟨a15,c16⟩
 refine aw [4,22,22,5,5,0,2,1,1,3,4,25,7,0,2,10] ?_ ?_
 refine au [45] ?_
 refine qH [.slice none 0 0] ?_
 exact az [21,58,27,1,29,14]
 refine au [57,48] ?_
 refine qH [qFp a15 x14.1 c16.1] ?_
 refine au [24,5] ?_
 intro g18
 refine au [21,46,1,77,9,26,7,30,14] ?_
 rintro x28 e28 ⟨a29,c30⟩
 refine au [4,79,24,5] ?_
 intro g31
 refine au [21,59,25,3,4] ?_
 refine kI 9 [2,7] [1,2] [1] [] (fun ((x34,_):Bool×Unit)=>([(44,.bool x34)],[],[],[],qdt F x14 x34)) ?_ ?_
 refine qD (os:=_) rfl ?_
 refine av [26,2] ?_ ?_
 intro h32
 refine kj (k:=35) rfl h32 ?_
 refine au [68,68,86] ?_
 exact qa (true,())
 intro h32
 refine kg (k:=35) rfl h32 ?_
 refine au [9,78,9,9,28,13,31,0] ?_
 intro x36 e36 _
 refine au [25,7,85] ?_
 exact qa ((!x36),())
 rintro ⟨x34,_⟩
 try dsimp only
 refine qD (os:=_) rfl ?_
 refine aw [0,2,10] ?_ ?_
 refine au [45] ?_
 refine qH [.slice none 0 0] ?_
 exact az [25,5,58,27,1,33,8]
 refine au [57,77,25,5,49] ?_
 exact ku (a15,c16) 1
theorem qn2 (hm:qfl F i1 i2 i3 i4 m1 i5 m2 i6 i7 i8 i9 m3 i10 m4=some d1) :
    qFw 168 [.agg #[qFo i1,qFo i2,qFo i3,qFo i4,qFp l1 m1 t1,qFo i5,qFp l2 m2 t2],.agg #[qFo i6,qFo i7,qFo i8,qFo i9,qFp l3 m3 t3,qFo i10,qFp l4 m4 t4]] [qFt l1 m1 t1,qFt l2 m2 t2,qFt l3 m3 t3,qFt l4 m4 t4] (.bool d1):=by
 refine pureA func168 ntmps168 hm fun _=>?_
 refine au [111] ?_
 intro g23
 refine au [23] ?_
 intro g24
 refine au [80,98,78,25,6,4] ?_
 refine vC 6 10 16 [2,3] ((i2:Int) == i7) ?_ ?_ ?_
 exact az [98,78,25,6,61]
 exact az [68,7,60]
 refine au [4] ?_
 refine vC 6 17 23 [2,3] ((i3:Int) == i8) ?_ ?_ ?_
 exact az [98,78,25,6,61]
 exact az [68,7,60]
 refine au [4] ?_
 refine vC 8 24 32 [2,3] ((i4:Int) == i9) ?_ ?_ ?_
 exact az [9,98,9,78,25,6,61]
 exact az [68,62,7,60]
 refine au [4] ?_
 refine vC 8 33 41 [2,3] ((i5:Int) == i10) ?_ ?_ ?_
 exact az [9,98,9,78,25,6,61]
 exact az [68,62,7,60]
 refine au [4] ?_
 refine kI 8 [2,3] [0,1] [] [2,3,0,1] (fun ((x31,_):Bool×Unit)=>([(50,.bool x31)],[],[],[],qcM F m2 m4 x31)) ?_ ?_
 refine qD (os:=_) rfl ?_
 refine av [26,2] ?_ ?_
 intro h29
 refine kj (k:=42) rfl h29 ?_
 refine au [9,98,9,78,31,0] ?_
 intro x36 e36 _
 refine au [86] ?_
 exact qa (x36,())
 intro h29
 refine kg (k:=42) rfl h29 ?_
 refine au [68,62,7,85] ?_
 exact qa (false,())
 rintro ⟨x31,_⟩
 try dsimp only
 refine qD (os:=_) rfl ?_
 refine au [4] ?_
 refine qft 8 (fun ((x34,_):Bool×Unit)=>([(59,.bool x34)],[],[],[],qcN F x34)) ?_ ?_
 refine qD (os:=_) rfl ?_
 refine av [26,2] ?_ ?_
 intro h32
 refine kj (k:=51) rfl h32 ?_
 refine au [9,98,9,78,31,0] ?_
 intro x35 e35 _
 refine au [86] ?_
 exact qa (x35,())
 intro h32
 refine kg (k:=51) rfl h32 ?_
 refine au [68,62,7,85] ?_
 exact qa (false,())
 rintro ⟨x34,_⟩
 try dsimp only
 refine qD (os:=_) rfl ?_
 exact az [69]
theorem qkX {r:(Int×Int×Int×Int×Int×qFm×Int×Int×Int×Int×qFm×Int×qFm×Int)}(hm:qe8 F p1 i1 i2 i3 i4 i5 m1=some r) :
    Pure qFv 122 [.agg #[qFp l1 p1 t1],.agg #[qFo i1,qFo i2,qFo i3,qFo i4,qFo i5,qFp l2 m1 t2]] [SlN eN56 iN56 1 (qFp l1 p1 t1) p1 n1,qFt l2 m1 t2] ((qFn×Nat)×(qFn×Nat)×qFn×Nat) (fun g=>.tuple #[.agg #[qFo r.1,qFo r.2.1,qFo r.2.2.1,qFo r.2.2.2.1,qFo r.2.2.2.2.1,qFp g.1.1 r.2.2.2.2.2.1 g.1.2,qFo r.2.2.2.2.2.2.1,qFo r.2.2.2.2.2.2.2.1,qFo r.2.2.2.2.2.2.2.2.1,qFo r.2.2.2.2.2.2.2.2.2.1,qFp g.2.1.1 r.2.2.2.2.2.2.2.2.2.2.1 g.2.1.2,qFo r.2.2.2.2.2.2.2.2.2.2.2.1,qFp g.2.2.1 r.2.2.2.2.2.2.2.2.2.2.2.2.1 g.2.2.2],qFo r.2.2.2.2.2.2.2.2.2.2.2.2.2]) (fun g=>[qFu g.2.1.1 r.2.2.2.2.2.2.2.2.2.2.1 g.2.1.2,qFu g.2.2.1 r.2.2.2.2.2.2.2.2.2.2.2.2.1 g.2.2.2]) (fun _=>[]):=by
 refine pureA func122 ntmps122 hm fun _=>?_
 refine au [111] ?_
 intro g12
 refine au [23] ?_
 intro g13
 refine au [24,5] ?_
 intro g14
 refine au [80,26,7,9,25,10,35,13] ?_
 rintro x15 e15 ⟨⟨a16,c17⟩,a18,c19⟩
 refine aw [4,22,22,22,5,5,5,0,2,1,1,3,4,25,3,0,2,10] ?_ ?_
 refine au [45] ?_
 refine qH [qFo 0,qFo 0,qFo 0,qFo 0,qFo 0,.slice none 0 0,qFo 0,qFo 0,qFo 0,qFo 0,.slice none 0 0,qFo 0,.slice none 0 0] ?_
 refine au [4,21,58,114] ?_
 exact ku ((none,0),(none,0),none,0) 0
 refine au [57,48,9,98,35,14] ?_
 rintro x21 e21 ⟨⟨a22,c23⟩,a24,c25⟩
 refine au [4,79,24,5] ?_
 intro g26
 refine aw [21,5,0,2,1,1,3,4,25,3,0,2,10] ?_ ?_
 refine au [45] ?_
 refine qH [qFo 0,qFo 0,qFo 0,qFo 0,qFo 0,.slice none 0 0,qFo 0,qFo 0,qFo 0,qFo 0,.slice none 0 0,qFo 0,.slice none 0 0] ?_
 exact az [4,25,5,58,114,35,15]
 refine au [96,26,7,24,9] ?_
 refine qH [qFo i1,qFo i2,qFo i3,qFo i4,qFo i5,qFp l2 m1 t2,qFo x21.1,qFo x21.2.1,qFo x21.2.2.1,qFo x21.2.2.2.1,qFp a22 x21.2.2.2.2.1 c23,qFo x21.2.2.2.2.2.1,qFp a24 x21.2.2.2.2.2.2.1 c25] ?_
 refine au [25,5,49] ?_
 exact ku ((l2,t2),(a22,c23),a24,c25) 1
theorem qmI (hm:qex F i1 i2 i3 i4 i5 m1 i6 i7 i8 i9 m2 i10 m3=some i11) :
    qFw 123 [.agg #[qFo i1,qFo i2,qFo i3,qFo i4,qFo i5,qFp l1 m1 t1,qFo i6,qFo i7,qFo i8,qFo i9,qFp l2 m2 t2,qFo i10,qFp l3 m3 t3]] [qFt l1 m1 t1,qFt l2 m2 t2,qFt l3 m3 t3] (qFo i11):=by
 refine pureA func123 ntmps123 hm fun _=>?_
 refine au [64,23] ?_
 intro g20
 refine au [80,9,24,9] ?_
 refine qd qpz ?_
 rintro x21 e21 ⟨a22,c23⟩
 refine au [4,79,24,5] ?_
 intro g24
 refine aw [21,5,0,2,1,1,3,4,25,3,0,2,10] ?_ ?_
 exact az [48,76]
 refine au [82,77,9,25,10] ?_
 refine qd qkX ?_
 rintro x39 e39 ⟨⟨a40,c41⟩,⟨a42,c43⟩,a44,c45⟩
 refine au [4,79,24,5] ?_
 intro g46
 refine au [21,59,25,3,4] ?_
 refine qft 7 (fun ((x49,_):Bool×Unit)=>([(32,.bool x49)],[],[],[],qad F x49)) ?_ ?_
 refine qD (os:=_) rfl ?_
 refine av [26,2] ?_ ?_
 intro h47
 refine kj (k:=25) rfl h47 ?_
 refine au [68,62,86] ?_
 exact qa (true,())
 intro h47
 refine kg (k:=25) rfl h47 ?_
 refine au [9,24,9,9,26,7] ?_
 refine qd qn2 ?_
 intro x51 e51 _
 refine au [25,7,85] ?_
 exact qa ((!x51),())
 rintro ⟨x49,_⟩
 try dsimp only
 refine qD (os:=_) rfl ?_
 refine aw [0,2,10] ?_ ?_
 exact az [45,76]
 exact az [96,69]
theorem qmD {r:Unit}(hm:qeu F i1 m1 i2=some r) :
    PureM qFv 264 [.agg #[qFo i1,qFp l1 m1 t1],.int .u64 i2] [] [] [qFt l1 m1 t1] (Nat×Nat) (fun g=>.func (.func 288) #[] #[qFq g.1,qFq g.2]) (fun g=>[⟨g.1,65,[qFo i1,qFp l1 m1 t1]⟩,⟨g.2,119,[.int .u64 i2]⟩]) (fun _=>[]):=by
 refine pureMA func264 ntmps264 hm fun _=>?_
 refine au [111] ?_
 intro g6
 refine au [23] ?_
 intro g7
 refine au [80,27,5,49] ?_
 exact qK (g6,g7)
theorem qkW (F:Nat){σ τ:Type}{J:Rounds σ τ}{yy:σ→Int→Option (σ ⊕ τ)}{L:Nat}(hY:YieldC qFv L (fun (p:Int)=>[qFo p]) J yy)(s0:σ)(gs0:J.γ)(g1:Nat)(x2:Int)(x3:qFm)(a4:qFn)(c5 g6:Nat)(x7:Int)(r:σ ⊕ τ)(hm:qcL F yy x2 x3 x7 s0=some r) :
    PureM qFv 288 ([.func (.yield L) #[] #[],qFq g1,qFq g6]) ([⟨g1,65,[qFo x2,qFp a4 x3 c5]⟩,⟨g6,119,[.int .u64 x7]⟩]++J.IB s0 gs0) (J.IR s0 gs0) [J.F,qFt a4 x3 c5] (J.G r) (fun _=>.tuple #[]) (fun g=>[⟨g1,65,[qFo x2,qFp a4 x3 c5]⟩,⟨g6,119,[.int .u64 x7]⟩]++J.bs r g) (fun g=>J.rs r g):=by
 refine pureMA func288 ntmps288 hm fun _=>?_
 refine au [108,78,4,73] ?_
 refine jm (fun (((x36,x37),g38):(Int×σ)×J.γ)=>[(0,.func (.yield L) #[] #[]),(1,qFq g1),(2,qFq g6),(6,qFo x2),(7,qFo x36)]) (fun (((x36,x37),g38):(Int×σ)×J.γ)=>[⟨g1,65,[qFo x2,qFp a4 x3 c5]⟩,⟨g6,119,[.int .u64 x7]⟩]++J.IB x37 g38) (fun (((x36,x37),g38):(Int×σ)×J.γ)=>[]++J.IR x37 g38) (fun (((x36,x37),g38):(Int×σ)×J.γ)=>[qFt a4 x3 c5,J.F]) (fun k (s:(Int×σ)×J.γ)=>zw F yy x2 x3 x7 k s.1) ((0,s0),gs0) F ?_ (hB:=(.cons 0 rfl (.cons 0 rfl (qe 0 rfl)))) (hR:=(qe 0 rfl)) (hF:=(qh 1 rfl (qh 0 rfl zG)))
 intro k67
 rintro ⟨⟨x36,x37⟩,g38⟩
 try dsimp only
 refine qbR (m':=yU F yy x2 x3 x7 (zw F yy x2 x3 x7 k67) x36 x37) rfl ?_
 refine aw [1,3,24,3,0,2,1,10] ?_ ?_
 refine au [57] ?_
 refine qdP (fun ((x81,g82):σ×J.γ)=>[(0,.func (.yield L) #[] #[]),(1,qFq g1),(2,qFq g6),(6,qFo x2),(7,qFo x36)]) (fun ((x81,g82):σ×J.γ)=>[⟨g1,65,[qFo x2,qFp a4 x3 c5]⟩,⟨g6,119,[.int .u64 x7]⟩]++J.IB x81 g82) (fun ((x81,g82):σ×J.γ)=>[]++J.IR x81 g82) (fun ((x81,g82):σ×J.γ)=>[qFt a4 x3 c5,J.F]) (fun ((x81,_):σ×J.γ)=>k9 F yy (zw F yy x2 x3 x7 k67) x36 x81) ?_ ?_
 refine au [14,48,81] ?_
 refine qI [] [0,0] [0,1] 11 ?_
 refine qB 0 (.agg #[qFo x2,.slice a4 x3.length c5]) rfl rfl rfl (qz (i:=0) rfl tf65 rfl rfl (by simp) rfl) ?_
 refine au [6,1,26,9,3,12,2,29,5] ?_
 intro x89 e89 _
 refine av [0,32,11,6,4,6,5,29,9] ?_ ?_
 intro h90
 refine yJ 15 h90 ?_
 refine au [67,12,8] ?_
 refine qfu hY x37 x36 g38 (B1:=[⟨g1,65,[qFo x2,qFp a4 x3 c5]⟩,⟨g6,119,[.int .u64 x7]⟩]) (R1:=[]) (j:=1) rfl rfl rfl rfl rfl rfl rfl (fun x91 _ g93=>?_) (fun x92 _ g93=>?_)
 refine au [0,32,11,6,9,6,10,54,2] ?_
 refine yf (b:=false) rfl (fun h=>by cases h) (fun _=>?_)
 refine au [11,24,2] ?_
 exact yh (x91,g93) (hB:=(.cons 0 rfl (.cons 0 rfl (qe 0 rfl)))) (hR:=(qe 0 rfl)) (hF:=(qh 0 rfl (qh 1 rfl zG)))
 refine au [0,32,11,6,9,6,10,54,2] ?_
 refine yf (b:=true) rfl (fun _=>?_) (fun h=>by cases h)
 refine au [8,90,24,7] ?_
 exact jn (B0:=[⟨g1,65,[qFo x2,qFp a4 x3 c5]⟩,⟨g6,119,[.int .u64 x7]⟩]) (x:=.inr x92) g93 (.inl rfl) (res0 rfl) (.cons 0 rfl (.cons 0 rfl (qe 0 rfl))) (qe 0 rfl)
 intro h90
 refine yJ 15 h90 ?_
 refine au [20,6,20,7,20,8,20,9,6,10,54,2] ?_
 refine yf (b:=false) rfl (fun h=>by cases h) (fun _=>?_)
 refine au [11,24,2] ?_
 exact yh (x37,g38) (hB:=(.cons 0 rfl (.cons 0 rfl (qe 0 rfl)))) (hR:=(qe 0 rfl)) (hF:=(qh 0 rfl (qh 1 rfl zG)))
 rintro ⟨x81,g82⟩
 refine au [39,94] ?_
 exact vz ((iadd .i64 x36 1,x81),g82) (hB:=(.cons 0 rfl (.cons 0 rfl (qe 0 rfl)))) (hR:=(qe 0 rfl)) (hF:=(qh 0 rfl (qh 1 rfl zG)))
 refine au [71] ?_
 exact jn (B0:=[⟨g1,65,[qFo x2,qFp a4 x3 c5]⟩,⟨g6,119,[.int .u64 x7]⟩]) (x:=.inl x37) g38 (.inr rfl) (res0 rfl) (.cons 0 rfl (.cons 0 rfl (qe 0 rfl))) (qe 0 rfl)
theorem qnZ (hm:qaI F i1 m1 i2 i3=some i4) :
    PureM qFv 239 [.agg #[qFo i1,qFp l1 m1 t1],.int .u64 i2,qFo i3] [] [] [qFt l1 m1 t1] Unit (fun _=>qFo i4) (fun _=>[]) (fun _=>[]):=by
 refine qdM func239 rfl ntmps239 rfl hm (fun w=>?_)
 refine au [108,23] ?_
 intro g7
 refine au [23] ?_
 intro g8
 refine au [24,5] ?_
 intro g9
 refine au [46,1,45,26,7,4] ?_
 refine qt qmD ?_
 rintro x25 e25 ⟨g26,g27⟩
 refine au [73] ?_
 refine qcr (encs:=(fun (p:Int)=>[qFo p])) (y:=(fun (x31:Int) (x37:Int)=>zi F x31 x37)) (lb:=[qFq g26,qFq g27]) (fun (x31:Int) (_:Unit)=>[⟨g9,3,[qFo 0]⟩,⟨g8,3,[qFo x31]⟩,⟨g7,65,[qFo i1,qFp l1 m1 t1]⟩]) (fun (x31:Int) (_:Unit)=>[]) (fun ((x35,x36):(Int×Int)) (_:Unit)=>[⟨g9,3,[qFo x35]⟩,⟨g8,3,[qFo x36]⟩,⟨g7,65,[qFo i1,qFp l1 m1 t1]⟩]) (fun ((x35,x36):(Int×Int)) (_:Unit)=>[]) (fun _=>.ret) i3 () rfl EnC.e (fun _=>rfl) rfl (.cons 0 rfl (.cons 0 rfl .nil)) (.cons 0 rfl (.cons 0 rfl (.cons 0 rfl .nil))) .nil (.consF 0 rfl .nil) (fun z hz _ _ _ hY=>qkW F hY i3 () g26 i1 m1 l1 t1 g27 i2 z hz) ?_ ?_ ?_
 rintro rc1 L1 D1 x31 _ x37 z w M _
 try dsimp only
 refine qdQ [(0,.agg #[qFo i1,qFp l1 m1 t1]),(1,.int .u64 i2),(2,qFo i3),(3,qFq g7),(5,qFq g8),(6,qFq g9),(8,.agg #[qFo i1,qFp l1 m1 t1]),(9,.int .u64 i2),(10,.func (.func 288) #[] #[qFq g26,qFq g27]),(11,qFo x37)] (qm rfl (qm rfl (qm rfl (qm rfl (qm rfl (qm rfl (qm rfl (qm rfl (qm rfl (qm rfl qea)))))))))) ?_
 refine aw [3,5,0,30,8,14,1,1,3,25,12,25,6,0,2,10] ?_ ?_
 refine au [48,21,46,8,13,24,7] ?_
 exact vv (rc:=rc1) rfl (.cons 3 rfl .nil) rfl () (.cons 1 rfl (.cons 1 rfl (.cons 1 rfl (.cons 0 rfl (.cons 0 rfl .nil))))) .nil
 refine au [57,3,25,12,25,9,25,5,115] ?_
 exact vv (rc:=rc1) rfl (.cons 3 rfl .nil) rfl () (.cons 1 rfl (.cons 1 rfl (.cons 1 rfl (.cons 0 rfl (.cons 0 rfl .nil))))) .nil
 rintro x31 _ _ D1
 refine au [39,63,45,30,2,46,8] ?_
 exact jo [D1] () (.inl rfl) rfl (.cons 0 rfl .nil) (resL (rs:=[.cell 6 3]) rfl (.cell (i:=2) rfl tf3 rfl rfl (fun _=>rfl) rfl ResOk.nil) rfl) (fun h=>by subst h;rfl) (fun h=>by subst h;exact .nil) (fun h=>by subst h;exact .nil)
 rintro ⟨x35,x36⟩ _ _ D1
 refine au [39,8,50] ?_
 exact jo [D1] () (.inl rfl) rfl (.cons 0 rfl .nil) (resL (rs:=[.cell 6 3]) rfl (.cell (i:=2) rfl tf3 rfl rfl (fun _=>rfl) rfl ResOk.nil) rfl) (fun h=>by subst h;rfl) (fun h=>by subst h;exact .nil) (fun h=>by subst h;exact .nil)
theorem que (hm:qcl F i1 i2 i3 i4 m1 i5 m2 i6=some i7) :
    qFw 199 [.agg #[qFo i1,qFo i2,qFo i3,qFo i4,qFp l1 m1 t1,qFo i5,qFp l2 m2 t2],qFo i6] [qFt l1 m1 t1,qFt l2 m2 t2] (qFo i7):=by
 refine pureA func199 ntmps199 hm fun _=>?_
 refine au [111] ?_
 intro g13
 refine au [80,9,24,9,4,37,5] ?_
 intro x14 e14 _
 refine au [4,25,9,80,9,24,9,4,78,27,11,78,30,15] ?_
 intro x15 e15 _
 refine au [4,79,5,59,78,26,11] ?_
 intro h16
 refine qil rfl rfl rfl rfl h16 ?_
 refine au [4,25,11,36,2,116] ?_
 intro x17 e17
 refine j3 4 e17 ?_
 exact az [46,8,24,1]
theorem qpu (hm:qeJ F i1 m1 i2 m2=some d1) :
    qFw 263 [.agg #[qFo i1,qFp l1 m1 t1],.agg #[qFo i2,qFp l2 m2 t2]] [qFt l1 m1 t1,qFt l2 m2 t2] (.bool d1):=by
 refine pureA func263 ntmps263 hm fun _=>?_
 refine au [111] ?_
 intro g9
 refine au [23] ?_
 intro g10
 refine au [80,98,78,25,6,4] ?_
 refine qft 6 (fun ((x13,_):Bool×Unit)=>([(16,.bool x13)],[],[],[],qdk F x13)) ?_ ?_
 refine qD (os:=_) rfl ?_
 refine av [26,2] ?_ ?_
 intro h11
 refine kj (k:=10) rfl h11 ?_
 refine au [98,78,31,0] ?_
 intro x14 e14 _
 refine au [86] ?_
 exact qa (x14,())
 intro h11
 refine kg (k:=10) rfl h11 ?_
 refine au [68,7,85] ?_
 exact qa (false,())
 rintro ⟨x13,_⟩
 try dsimp only
 refine qD (os:=_) rfl ?_
 exact az [69]
theorem qlc {r:(qFm×Int)}(hm:qaa F i1 i2 i3 i4 m1 i5 m2=some r) :
    Pure qFv 238 [.agg #[qFo i1,qFo i2,qFo i3,qFo i4,qFp l1 m1 t1,qFo i5,qFp l2 m2 t2]] [qFt l1 m1 t1,qFt l2 m2 t2] (qFn×Nat) (fun g=>.tuple #[qFp g.1 r.1 g.2,qFo r.2]) (fun g=>[qFs g.1 r.1 g.2]) (fun _=>[]):=by
 refine pureA func238 ntmps238 hm fun _=>?_
 refine au [64,23] ?_
 intro g12
 refine au [5,81,45,78,24,3,4] ?_
 refine zQ 4 11 15 [1] (decide (300<i1)) ?_ ?_ ?_
 exact az [62,7,61]
 exact az [78,105]
 refine au [4] ?_
 refine zQ 4 16 20 [1] (decide (i2<0)) ?_ ?_ ?_
 exact az [62,7,61]
 exact az [78,24,3,60]
 refine au [4] ?_
 refine zQ 4 21 25 [1] (decide (1048576<i2)) ?_ ?_ ?_
 exact az [62,7,61]
 exact az [78,105]
 refine aw [0,2,10] ?_ ?_
 refine au [45,5,99] ?_
 exact qx (none,0)
 refine au [82] ?_
 refine qi [1] [0] [] [0,1] (fun ((x49,_):Bool×Unit)=>([(70,.bool x49)],[],[],[],zV F i1 i2 i3 i4 m1 i5 m2 x49)) ?_ ?_
 refine qI [] [0] [0,1] 45 ?_
 refine au [109,15,2,24,15,3,15,4,24,15,5,12,6,35,8] ?_
 intro x0 e0 _
 refine av [0,31,1,6,7,6,8,29,9] ?_ ?_
 intro h0
 refine yJ 34 h0 ?_
 refine au [20,9,20,10,20,11,20,12,6,13,6,14,20,15,20,16,20,17,20,18,6,19,6,20,20,21,20,22,20,23,20,24,20,25,20,26,20,27,20,28,20,29,6,30,6,31,20,32,20,33,20,34,20,35,20,36,20,37,20,38,20,39,20,40,20,41,20,42,20,43,6,44,54] ?_
 exact qa (true,())
 intro h0
 refine yJ 34 h0 ?_
 refine au [15,9] ?_
 refine qB 10 (.agg #[qFo i4,.slice l1 m1.length t1]) rfl rfl rfl (qz (i:=0) rfl tf65 rfl rfl (by simp) rfl) ?_
 refine au [12,11,32,5] ?_
 intro x6 e1 _
 refine av [0,31,1,100,6,14,29,9] ?_ ?_
 intro h1
 refine yJ 40 h1 ?_
 refine au [20,15,20,16,20,17,20,18,6,19,6,20,20,21,20,22,20,23,20,24,20,25,20,26,20,27,20,28,20,29,6,30,6,31,20,32,20,33,20,34,20,35,20,36,20,37,20,38,20,39,20,40,20,41,20,42,20,43,6,44,54] ?_
 exact qa (true,())
 intro h1
 refine yJ 40 h1 ?_
 refine au [15,15] ?_
 refine qB 16 (.agg #[qFo i5,.slice l2 m2.length t2]) rfl rfl rfl (qz (i:=0) rfl tf65 rfl rfl (by simp) rfl) ?_
 refine au [12,17,32,5] ?_
 intro x7 e2 _
 refine av [0,31,1,6,18,6,19,6,20,29,9] ?_ ?_
 intro h2
 refine yJ 46 h2 ?_
 refine au [20,21,20,22,20,23,20,24,20,25,20,26,20,27,20,28,20,29,6,30,6,31,20,32,20,33,20,34,20,35,20,36,20,37,20,38,20,39,20,40,20,41,20,42,20,43,6,44,54] ?_
 exact qa (true,())
 intro h2
 refine yJ 46 h2 ?_
 refine av [15,21,15,22,24,15,23,15,24,24,15,25,15,26,24,15,27,6,28,6,29,6,30,6,31,29,9] ?_ ?_
 intro h3
 refine yJ 57 h3 ?_
 refine au [20,32,20,33,20,34,20,35,20,36,20,37,20,38,20,39,20,40,20,41,20,42,20,43,6,44,54] ?_
 exact qa (true,())
 intro h3
 refine yJ 57 h3 ?_
 refine au [15,32] ?_
 refine qB 33 (.agg #[qFo i5,.slice l2 m2.length t2]) rfl rfl rfl (qz (i:=0) rfl tf65 rfl rfl (by simp) rfl) ?_
 refine au [15,34,24,15,35,6,36,12,37,37,5] ?_
 intro x10 e3 _
 refine av [0,31,1,6,38,6,39,29,9] ?_ ?_
 intro h4
 refine yJ 65 h4 ?_
 refine au [15,40,24,15,41,6,42,6,43,6,44,54] ?_
 exact qa ((decide (0<i1)),())
 intro h4
 refine yJ 65 h4 ?_
 refine au [20,40,20,41,20,42,6,43,6,44,54] ?_
 exact qa (false,())
 rintro ⟨x49,_⟩
 refine aw [39,10] ?_ ?_
 refine au [45,5,99] ?_
 exact qx (none,0)
 refine au [96,47] ?_
 refine qi [1] [0] [] [0,1] (fun ((x99,a97,c98):qFm×qFn×Nat)=>([(4,qFp a97 x99 c98)],[],[qFs a97 x99 c98],[],vm F i2 i4 m1 i5 m2 x99)) ?_ ?_
 refine au [45,78,4,73,27,12] ?_
 refine qq [1,72] [0] [] [0,1] (fun (((x11,x12),a0,c0):(qFm×Int)×qFn×Nat)=>([(4,qFp a0 x11 c0),(73,qFo x12)],[],[qFs a0 x11 c0],[])) (([]:qFm),(0:Int)) (none,0) ?_
 intro k0
 rintro ⟨⟨x11,x12⟩,a0,c0⟩
 refine aw [39,1,3,24,3,0,2,1,10] ?_ ?_
 refine au [83,48,47,3,4,24,9,4,37,6] ?_
 intro x13 e4 _
 refine zI [x13] (fun a1 c1=>?_)
 refine zA 1 (qC .i64) rfl underlying56 tf3 rfl rfl rfl rfl rfl (.inl ⟨0,_,rfl⟩) rfl rfl (fun x14 e5 a2 c2=>?_)
 refine au [5,0,95] ?_
 exact qk ((x14,iadd .i64 x12 1),a2,c2)
 refine au [71] ?_
 exact qa (x11,a0,c0)
 rintro ⟨x99,a97,c98⟩
 refine au [39,1,48,78,35,11] ?_
 intro x15 e6 _
 refine aw [25,3,0,2,10] ?_ ?_
 refine au [45,5,99] ?_
 exact qx (none,0)
 refine au [82,48,78,35,12] ?_
 rintro x16 e7 ⟨⟨a3,c3⟩,a4,c4⟩
 refine au [4,79,24,5] ?_
 intro g0
 refine au [21,59,25,7,4] ?_
 refine kI 7 [1,4,6] [0,1] [2,0,1] [0,1] (fun ((x17,_):Bool×Unit)=>([(104,.bool x17)],[],[],[],qbA F i5 m2 x99 x16 x17)) ?_ ?_
 refine qD (os:=_) rfl ?_
 refine av [26,2] ?_ ?_
 intro h5
 refine kj (k:=97) rfl h5 ?_
 refine au [68,62,86] ?_
 exact qa (true,())
 intro h5
 refine kg (k:=97) rfl h5 ?_
 refine au [9,24,9,9,25,10,37,7] ?_
 intro x18 e8 _
 refine au [25,7,85] ?_
 exact qa ((!x18),())
 rintro ⟨x17,_⟩
 try dsimp only
 refine qD (os:=_) rfl ?_
 refine au [4] ?_
 refine kI 7 [4] [] [0] [] (fun ((x19,_):Bool×Unit)=>([(112,.bool x19)],[],[],[],qdi F x99 x19)) ?_ ?_
 refine qD (os:=_) rfl ?_
 refine av [26,2] ?_ ?_
 intro h6
 refine kj (k:=105) rfl h6 ?_
 refine au [68,62,86] ?_
 exact qa (true,())
 intro h6
 refine kg (k:=105) rfl h6 ?_
 refine au [9,24,9,9,25,10,37,7] ?_
 intro x20 e9 _
 refine au [25,7,85] ?_
 exact qa ((!x20),())
 rintro ⟨x19,_⟩
 try dsimp only
 refine qD (os:=_) rfl ?_
 refine aw [0,2,10] ?_ ?_
 refine au [45,5,99] ?_
 exact qx (none,0)
 refine au [57,48,5,49] ?_
 exact qx (a97,c98)
theorem qnO (hm:qff F i1 i2 i3 i4 m1 i5 m2=some i6) :
    qFw 198 [.agg #[qFo i1,qFo i2,qFo i3,qFo i4,qFp l1 m1 t1,qFo i5,qFp l2 m2 t2]] [qFt l1 m1 t1,qFt l2 m2 t2] (qFo i6):=by
 refine pureA func198 ntmps198 hm fun _=>?_
 refine au [64,23] ?_
 intro g12
 refine au [47,77] ?_
 refine qd qlc ?_
 rintro x13 e13 ⟨a14,c15⟩
 exact az [4,79,5,59,69]
theorem qrd {r:(Int×Int)}(hm:qfE F i1 i2 i3 i4 m1 i5 m2 i6=some r) :
    qFw 169 [.agg #[qFo i1,qFo i2,qFo i3,qFo i4,qFp l1 m1 t1,qFo i5,qFp l2 m2 t2],qFo i6] [qFt l1 m1 t1,qFt l2 m2 t2] (.tuple #[qFo r.1,qFo r.2]):=by
 refine pureA func169 ntmps169 hm fun _=>?_
 refine au [111] ?_
 intro g13
 refine au [5,47,77] ?_
 refine qd qnO ?_
 intro x14 e14 _
 refine au [47] ?_
 refine qi [1,2] [0] [] [0,1] (fun ((x20,_):Int×Unit)=>([(6,qFo x20)],[],[],[],qen F i1 i2 i3 i4 m1 i5 m2 i6 x20)) ?_ ?_
 refine au [48,25,6,4] ?_
 refine kI 9 [1,2,6] [0] [] [0,1] (fun ((x26,_):Bool×Unit)=>([(20,.bool x26)],[],[],[],qeo F i1 i2 i3 i4 m1 i5 m2 i6 x14 x26)) ?_ ?_
 refine qD (os:=_) rfl ?_
 refine av [26,2] ?_ ?_
 intro h24
 refine kj (k:=11) rfl h24 ?_
 refine au [4,24,3,4] ?_
 refine zQ 5 14 19 [1,2,6,11] (decide (i1≤i6)) ?_ ?_ ?_
 exact az [68,61]
 exact az [4,78,26,4,60]
 refine au [86] ?_
 exact qa ((decide (i6<0) || decide (i1≤i6)),())
 intro h24
 refine kg (k:=11) rfl h24 ?_
 refine au [68,68,85] ?_
 exact qa (false,())
 rintro ⟨x26,_⟩
 try dsimp only
 refine qD (os:=_) rfl ?_
 refine aw [0,2,10] ?_ ?_
 refine au [3,5,0] ?_
 exact qa ((3:Int),())
 refine au [11] ?_
 exact qa (x14,())
 rintro ⟨x20,_⟩
 refine aw [39,1,1,3,4,25,3,0,2,10] ?_ ?_
 exact az [48,5,76]
 refine au [57,77,4,37,6] ?_
 intro x22 e22 _
 exact az [5,69]
end Go.Proofs.YthibchijlpflmaaGreatDoor
