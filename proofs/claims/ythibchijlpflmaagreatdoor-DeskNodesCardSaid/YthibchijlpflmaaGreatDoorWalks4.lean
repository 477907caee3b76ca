/- Each Go function of this seat computes what its model says, part 4. -/
import Derived.Test.YthibchijlpflmaaGreatDoorWalks3
open List renaming length_set→qBA
namespace Go.Proofs.YthibchijlpflmaaGreatDoor
open Go SX
open Go.Proofs.Tryz
open Go.Proofs.Tryz renaming prog→qD9
set_option maxHeartbeats 4000000
set_option linter.unusedSimpArgs false
variable {F t1 t2 t3 t4:Nat}{p1:List (qD0)}{l1 l2 l3 l4:qD1}{n1:List (qD1×Nat)}{i1 i2 i3 i4 i5 i6 i7 i8 i9 i10 i11:Int}{m1 m2 m3 m4:qD0}{d1:Bool}{w1:List (Int×Int)}
theorem qmd {r:(Int×Int×Int×Int×Int×qD0×Int×Int×Int×Int×qD0×Int×qD0×Int)}(hm:qaZ F p1 i1 i2 i3 i4 i5 m1=some r) :
    PureM qD9 122 [.agg #[qD3 l1 p1 t1],.agg #[qD2 i1,qD2 i2,qD2 i3,qD2 i4,qD2 i5,qD3 l2 m1 t2]] [] [qD8 l2 m1 t2] [SlN eN56 iN56 1 (qD3 l1 p1 t1) p1 n1] ((qD1×Nat)×(qD1×Nat)×qD1×Nat) (fun g=>.tuple #[.agg #[qD2 r.1,qD2 r.2.1,qD2 r.2.2.1,qD2 r.2.2.2.1,qD2 r.2.2.2.2.1,qD3 g.1.1 r.2.2.2.2.2.1 g.1.2,qD2 r.2.2.2.2.2.2.1,qD2 r.2.2.2.2.2.2.2.1,qD2 r.2.2.2.2.2.2.2.2.1,qD2 r.2.2.2.2.2.2.2.2.2.1,qD3 g.2.1.1 r.2.2.2.2.2.2.2.2.2.2.1 g.2.1.2,qD2 r.2.2.2.2.2.2.2.2.2.2.2.1,qD3 g.2.2.1 r.2.2.2.2.2.2.2.2.2.2.2.2.1 g.2.2.2],qD2 r.2.2.2.2.2.2.2.2.2.2.2.2.2]) (fun _=>[]) (fun g=>[qD8 g.1.1 r.2.2.2.2.2.1 g.1.2,qD8 g.2.1.1 r.2.2.2.2.2.2.2.2.2.2.1 g.2.1.2,qD8 g.2.2.1 r.2.2.2.2.2.2.2.2.2.2.2.2.1 g.2.2.2]):=by
 refine pureMA func122 ntmps122 hm fun _=>?_
 refine au [79] ?_
 intro g12
 refine au [24,0] ?_
 intro g13
 refine au [24,2] ?_
 intro g14
 refine au [83,26,9,10,25,11,36,3] ?_
 rintro x15 e15 ⟨⟨a16,c17⟩,a18,c19⟩
 refine aw [3,22,22,22,5,5,5,0,2,1,1,4,3,25,4,0,2,11] ?_ ?_
 refine au [45] ?_
 refine qF [qD2 0,qD2 0,qD2 0,qD2 0,qD2 0,.slice none 0 0,qD2 0,qD2 0,qD2 0,qD2 0,.slice none 0 0,qD2 0,.slice none 0 0] ?_
 refine au [3,17,59,120,26,2] ?_
 exact yr ((none,0),(none,0),none,0) (resL (rs:=[.cell 4 71,.tmp 5]) rfl (.cell (i:=0) rfl tf71 rfl rfl (by simp) rfl (.tmp rfl ResOk.nil)) rfl) (hR:=fun h=>by subst h;exact (.cons 0 rfl (.cons 0 rfl (.cons 0 rfl .nil))))
 refine au [57,48,10,94,36,4] ?_
 rintro x21 e21 ⟨⟨a22,c23⟩,a24,c25⟩
 refine au [3,81,24,2] ?_
 intro g26
 refine aw [17,5,0,2,1,1,4,3,25,4,0,2,11] ?_ ?_
 refine au [45] ?_
 refine qF [qD2 0,qD2 0,qD2 0,qD2 0,qD2 0,.slice none 0 0,qD2 0,qD2 0,qD2 0,qD2 0,.slice none 0 0,qD2 0,.slice none 0 0] ?_
 refine au [3,25,5,59,120,26,2] ?_
 exact yr ((none,0),(none,0),none,0) (resL (rs:=[.cell 4 71,.tmp 5]) rfl (.cell (i:=1) rfl tf71 rfl rfl (by simp) rfl (.tmp rfl ResOk.nil)) rfl) (hR:=fun h=>by subst h;exact (.cons 0 rfl (.cons 0 rfl (.cons 0 rfl .nil))))
 refine au [125,26,9,24,12] ?_
 refine qF [qD2 i1,qD2 i2,qD2 i3,qD2 i4,qD2 i5,qD3 l2 m1 t2,qD2 x21.1,qD2 x21.2.1,qD2 x21.2.2.1,qD2 x21.2.2.2.1,qD3 a22 x21.2.2.2.2.1 c23,qD2 x21.2.2.2.2.2.1,qD3 a24 x21.2.2.2.2.2.2.1 c25] ?_
 refine au [25,5,49] ?_
 exact yr ((l2,t2),(a22,c23),a24,c25) (resL (rs:=[.cell 4 71,.tmp 5]) rfl (.cell (i:=1) rfl tf71 rfl rfl (by simp) rfl (.tmp rfl ResOk.nil)) rfl) (hR:=fun h=>by subst h;exact (.cons 4 rfl (.cons 0 rfl (.cons 0 rfl .nil))))
theorem qmb {r:(Int×Int×Int×Int×Int×qD0×Int×Int×Int×Int×qD0×Int×qD0×Int)}(hm:qdT F p1 i1 i2 i3=some r) :
    Pure qD9 88 [.agg #[qD3 l1 p1 t1],.agg #[qD2 i1,qD2 i2,qD2 i3]] [SlN eN56 iN56 1 (qD3 l1 p1 t1) p1 n1] ((qD1×Nat)×(qD1×Nat)×qD1×Nat) (fun g=>.tuple #[.agg #[qD2 r.1,qD2 r.2.1,qD2 r.2.2.1,qD2 r.2.2.2.1,qD2 r.2.2.2.2.1,qD3 g.1.1 r.2.2.2.2.2.1 g.1.2,qD2 r.2.2.2.2.2.2.1,qD2 r.2.2.2.2.2.2.2.1,qD2 r.2.2.2.2.2.2.2.2.1,qD2 r.2.2.2.2.2.2.2.2.2.1,qD3 g.2.1.1 r.2.2.2.2.2.2.2.2.2.2.1 g.2.1.2,qD2 r.2.2.2.2.2.2.2.2.2.2.2.1,qD3 g.2.2.1 r.2.2.2.2.2.2.2.2.2.2.2.2.1 g.2.2.2],qD2 r.2.2.2.2.2.2.2.2.2.2.2.2.2]) (fun g=>[qD8 g.1.1 r.2.2.2.2.2.1 g.1.2,qD8 g.2.1.1 r.2.2.2.2.2.2.2.2.2.2.1 g.2.1.2,qD8 g.2.2.1 r.2.2.2.2.2.2.2.2.2.2.2.2.1 g.2.2.2]) (fun _=>[]):=by
 refine pureA func88 ntmps88 hm fun _=>?_
 refine au [79] ?_
 intro g7
 refine au [24,0] ?_
 intro g8
 refine au [24,2] ?_
 intro g9
 refine au [83,26,9,25,11,31,5] ?_
 rintro x10 e10 ⟨a11,c12⟩
 refine au [3,81,24,2] ?_
 intro g13
 refine aw [17,5,0,2,1,1,4,3,25,4,0,2,11] ?_ ?_
 refine au [45] ?_
 refine qF [qD2 0,qD2 0,qD2 0,qD2 0,qD2 0,.slice none 0 0,qD2 0,qD2 0,qD2 0,qD2 0,.slice none 0 0,qD2 0,.slice none 0 0] ?_
 exact az [3,25,5,59,120,26,2,36,5]
 refine au [125,32,1,24,12] ?_
 refine qs qmd ?_
 rintro x15 e15 ⟨⟨a16,c17⟩,⟨a18,c19⟩,a20,c21⟩
 refine au [81,25,5,49] ?_
 exact zW ((a16,c17),(a18,c19),a20,c21) 1
theorem qna (hm:qbM F i1 m1=some i2) :
    qEa 237 [.agg #[qD2 i1,qD3 l1 m1 t1]] [qD7 l1 m1 t1] (qD2 i2):=by
 refine pureA func237 ntmps237 hm fun _=>?_
 refine au [87] ?_
 intro g5
 refine au [82,14,45,67,127] ?_
 refine zp 4 7 11 [1] (decide (8192<i1)) ?_ ?_ ?_
 exact az [63,7,62]
 exact az [67,105]
 refine aw [5,0,2,11] ?_ ?_
 exact az [45,49,110]
 refine aw [1,4,10,20,24,7,10,20,23,31,2,25,4,5,0,2,11] ?_ ?_
 exact az [45,49,110]
 refine qL (fun ((x36,_):Bool×Unit)=>([(21,.bool x36)],[],[],[],qaK F x36)) ?_ ?_
 refine av [30,8] ?_ ?_
 intro h38
 refine au [36,6] ?_
 intro x39 e39 b40 o41 h42
 replace h42:l1=some ⟨b40,o41,none⟩:=h42
 refine au [28,11] ?_
 intro h43
 refine qE [] [0] [0,1] 20 ?_
 refine au [114] ?_
 refine qb 2 (qD2 (irem i1 8)) rfl rfl rfl (qoE rfl rfl rfl) ?_
 refine au [6,3,6,4] ?_
 refine yA 26 h38 ?_
 refine au [18,5,24,15,6,18,7,24,15,8,28,8,9,6,10] ?_
 refine vW 11 h42 e39 ?_
 refine qz 12 (.int .u8 x39) [] rfl rfl rfl (qV (j:=0) rfl tf5 rfl rfl (fun _=>rfl) rfl) ?_
 refine au [18,13,24,15,14] ?_
 refine qb 15 (qD2 (irem i1 8)) rfl rfl rfl (qoE rfl rfl rfl) (qb 16 (.int .u8 (ishl .u8 x39 (irem i1 8))) rfl rfl rfl (qiA rfl rfl h43) ?_)
 refine au [6,17,6,18,6,19,54] ?_
 exact qa ((((ishl .u8 x39 (irem i1 8)):Int) != 0),())
 intro h38
 refine qE [] [0] [0] 20 ?_
 refine au [114] ?_
 refine qb 2 (qD2 (irem i1 8)) rfl rfl rfl (qoE rfl rfl rfl) ?_
 refine au [6,3,6,4] ?_
 refine yA 26 h38 ?_
 refine au [19,5,19,6,19,7,19,8,19,9,19,10,19,11,19,12,19,13,19,14,19,15,19,16,19,17,6,18,6,19,54] ?_
 exact qa (false,())
 rintro ⟨x36,_⟩
 refine aw [39,11] ?_ ?_
 exact az [45,49,110]
 exact az [12,65,45,71]
theorem qnl (hm:qeF F i1 i2 i3 i4 i5 m1=some i6) :
    qEa 195 [.agg #[qD2 i1,qD2 i2,qD2 i3,qD2 i4,qD2 i5,qD3 l1 m1 t1]] [qD7 l1 m1 t1] (qD2 i6):=by
 refine pureA func195 ntmps195 hm fun _=>?_
 refine au [87] ?_
 intro g9
 refine au [82,45,67,127] ?_
 refine zp 4 7 11 [1] (decide (100<i1)) ?_ ?_ ?_
 exact az [63,7,62]
 exact az [67,105]
 refine aw [0,2,11] ?_ ?_
 exact az [45,78]
 refine au [84,45,103,30,1] ?_
 intro x15 e15 _
 refine aw [5,0,2,1,4,3,25,4,0,2,11] ?_ ?_
 exact az [48,78]
 refine au [125,103,32,10] ?_
 intro x16 e16 _
 exact az [71]
theorem qnw {r:(Int×Int×Bool)}(hm:qdb F i1 m1 i2=some r) :
    qEa 265 [.agg #[qD2 i1,qD3 l1 m1 t1],qD2 i2] [qD7 l1 m1 t1] (.tuple #[.int .u64 r.1,qD2 r.2.1,.bool r.2.2]):=by
 refine pureA func265 ntmps265 hm fun _=>?_
 refine au [79] ?_
 intro g6
 refine au [5,5,47] ?_
 refine qL (fun ((_,_):Unit×Unit)=>([],[],[],[],qgZ F)) ?_ ?_
 refine au [48,47,14] ?_
 refine qm [1,2] [0] [] [0] (fun ((x33,_):Int×Unit)=>([(7,qD2 x33)],[],[],[])) i2 () ?_
 intro k40
 rintro ⟨x33,_⟩
 refine aw [39,1,1,4,3,10,20,24,4,0,2,11] ?_ ?_
 refine au [85,74,3,29,12] ?_
 intro x44 e44 _
 refine aw [25,6,0,2,11] ?_ ?_
 exact az [48,3,25,9,25,10,3,23,5,5,49,111,110]
 refine au [12,65,4,3,23,5,0] ?_
 exact qj (iadd .i64 x33 1,())
 exact az [122]
 rintro ⟨_,_⟩
 exact az [39,45,5,5,71]
theorem qhS (F:Nat)(x1:Int)(x2:qD0)(a3:qD1)(c4:Nat)(x5:Int)(r:(Int×Int×Int))(hm:qbZ F x1 x2 x5=some r) :
    qEa 241 [.agg #[qD2 x1,qD3 a3 x2 c4],qD2 x5] [qD7 a3 x2 c4] (.tuple #[.int .u64 r.1,qD2 r.2.1,qD2 r.2.2]):=by
 refine pureA func241 ntmps241 hm fun _=>?_
 refine au [79] ?_
 intro g6
 refine au [5,5,47,74,3,36,7] ?_
 intro x7 e7 _
 refine aw [3,22,22,22,5,5,5,0,2,1,1,4,3,25,7,0,2,11] ?_ ?_
 exact az [45,5,5,78]
 exact az [57,48,3,5,5,71]
theorem qoI {r:(Int×Bool)}(hm:jf F i1 m1 i2 i3=some r) :
    qEa 240 [.agg #[qD2 i1,qD3 l1 m1 t1],qD2 i2,qD2 i3] [qD7 l1 m1 t1] (.tuple #[.int .u64 r.1,.bool r.2]):=by
 refine pureA func240 ntmps240 hm fun _=>?_
 refine au [126] ?_
 intro g7
 refine aw [5,5,0,2,1,1,4,10,20,3,25,9,3,24,4,0,2,11] ?_ ?_
 exact az [45,5,78]
 refine au [57] ?_
 refine qL (fun ((x24,_):Int×Unit)=>([(6,.int .u64 x24)],[],[],[],qeV F x24)) ?_ ?_
 refine au [48,3,75] ?_
 refine qm [1,3,15] [0] [] [0] (fun (((x29,x30),_):(Int×Int)×Unit)=>([(6,.int .u64 x29),(16,qD2 x30)],[],[],[])) ((0:Int),(0:Int)) () ?_
 intro k35
 rintro ⟨⟨x29,x30⟩,_⟩
 refine aw [39,1,4,24,4,0,2,1,11] ?_ ?_
 refine au [85,48,47,4,3,34,15,24,12,91,23,29,12] ?_
 intro x38 e38 _
 refine au [36,8,5,0,98] ?_
 exact qj ((ior .u64 (ishl .u64 x29 1) x38,iadd .i64 x30 1),())
 refine au [72] ?_
 exact qa (x29,())
 rintro ⟨x24,_⟩
 exact az [92,5,71]
theorem qbv {r:(Int×Int×Int)}(hm:kp F i1 m1 i2=some r) :
    qEa 242 [.func (.func 241) #[] #[],.agg #[qD2 i1,qD3 l1 m1 t1],qD2 i2] [qD7 l1 m1 t1] (.tuple #[.int .u64 r.1,qD2 r.2.1,qD2 r.2.2]):=by
 refine pureA func242 ntmps242 hm fun _=>?_
 refine au [126] ?_
 intro g6
 refine au [5,5,60,24,12,3] ?_
 refine qj3 EnC.e rfl rfl rfl rfl (fun x7 e7=>qhS F i1 m1 l1 t1 i2 x7 e7) (.consF 0 rfl .nil) (fun x7 e7 _=>?_)
 refine aw [3,22,22,22,5,5,5,0,2,1,1,4,3,25,4,0,2,11] ?_ ?_
 exact az [48,5,5,78]
 refine aw [12,2,1,1,4,3,26,6,0,2,11] ?_ ?_
 exact az [45,5,5,78]
 refine au [57,74,91,25,10,31,6] ?_
 intro x10 e10 _
 refine aw [3,22,22,5,5,0,2,1,1,4,3,25,7,0,2,11] ?_ ?_
 exact az [45,5,5,78]
 refine au [84,48,3,26,12] ?_
 intro h15
 refine qhL rfl rfl rfl rfl h15 ?_
 refine au [25,9,23,5,27,0] ?_
 intro x16 e16
 refine jQ 12 e16 ?_
 refine aw [0,2,1,4,3,25,1,0,2,11] ?_ ?_
 exact az [45,5,5,78]
 exact az [57,48,91,25,10,23,5,5,71]
theorem qiI {r:(Int×Int×Int)}(hm:jq F i1 m1 i2=some r) :
    qEa 200 [.agg #[qD2 i1,qD3 l1 m1 t1],qD2 i2] [qD7 l1 m1 t1] (.tuple #[.int .u64 r.1,qD2 r.2.1,qD2 r.2.2]):=by
 refine pureA func200 ntmps200 hm fun _=>?_
 refine au [79] ?_
 intro g6
 refine au [5,5,47,74,3] ?_
 refine qd qbv ?_
 intro x7 e7 _
 exact az [81,22,5,5,71]
theorem qkL {r:(Int×Int×Bool)}(hm:qfa F i1 i2 i3 i4 i5 m1 i6 i7=some r) :
    qEa 170 [.agg #[qD2 i1,qD2 i2,qD2 i3,qD2 i4,qD2 i5,qD3 l1 m1 t1],qD2 i6,qD2 i7] [qD7 l1 m1 t1] (.tuple #[qD2 r.1,qD2 r.2.1,.bool r.2.2]):=by
 refine pureA func170 ntmps170 hm fun _=>?_
 refine au [126] ?_
 intro g11
 refine aw [5,5,5,0,2,1,1,4,10,10,20,25,6,0,2,11] ?_ ?_
 exact az [48,5,5,78]
 refine au [125,103,3,36,9] ?_
 intro x13 e13 _
 refine au [3,81,22,5,5,82,48,25,4,3] ?_
 refine kH 9 [7,9] [] [] [] (fun ((x18,_):Bool×Unit)=>([(35,.bool x18)],[],[],[],qdP F x13 x18)) ?_ ?_
 refine qC (os:=_) rfl ?_
 refine av [26,5] ?_ ?_
 intro h17
 refine ko (k:=26) rfl h17 ?_
 refine au [68,68,113] ?_
 exact qa (true,())
 intro h17
 refine km (k:=26) rfl h17 ?_
 refine au [3,10,67,3,29,0,25,10,25,1,112] ?_
 exact qa ((decide ((iconv .u64 (imin i2 i7))<x13.1)),())
 rintro ⟨x18,_⟩
 try dsimp only
 refine qC (os:=_) rfl ?_
 refine aw [0,2,11] ?_ ?_
 exact az [45,5,5,78]
 exact az [57,48,25,10,3,5,5,71]
theorem qad (F:Nat)(x1:Bool)(r:(Unit ⊕ Unit))(hm:yu F x1=some r) :
    PureL qD9 245 [.bool x1] [] [] [] lostCh Unit (fun (_:Unit) (_:Unit)=>.tuple #[]) (fun (_:Unit) (_:Unit)=>[]) (fun (_:Unit) (_:Unit)=>[]) (fun (_:Unit)=>[]) r:=by
 refine qhs func245 rfl ntmps245 rfl hm (fun w=>?_)
 refine aw [25,0,1,4,3,25,7,0,2,11] ?_ ?_
 refine au [4,33,15] ?_
 exact que rfl rfl (qxX _) rfl (quh rfl rfl (qj5 .nil))
 refine au [12] ?_
 exact qdF () (.inr rfl) (res0 rfl) rfl .nil .nil
theorem yp (F g1:Nat)(x2:Int)(x3:qD0)(a4:qD1)(c5:Nat)(x6 x7:Int)(r:((Int×Int×Int) ⊕ (Int×Int)))(hm:zI F x2 x3 x6 x7=some r) :
    PureL qD9 266 [qD4 g1,qD2 x7] [⟨g1,263,[qD2 x2,qD3 a4 x3 c5,qD2 x6]⟩] [] [qD7 a4 x3 c5] lostCh Unit (fun (r:(Int×Int×Int)) (_:Unit)=>qD2 r.1) (fun (r:(Int×Int×Int)) (_:Unit)=>[⟨g1,263,[qD2 r.2.1,qD3 a4 x3 c5,qD2 r.2.2]⟩]) (fun (_:(Int×Int×Int)) (_:Unit)=>[]) (fun (z:Int×Int)=>[⟨g1,263,[qD2 z.1,qD3 a4 x3 c5,qD2 z.2]⟩]) r:=by
 refine qhs func266 rfl ntmps266 rfl hm (fun w=>?_)
 refine au [55,82] ?_
 refine qE [] [0] [0] 16 ?_
 refine au [70,18,2] ?_
 refine qr 3 (.agg #[qD2 x2,.slice a4 x3.length c5]) rfl rfl rfl (qq (i:=0) rfl tf65 rfl rfl (by simp) rfl) ?_
 refine au [6,4,6,5,18,6,24,15,7,9,8,36,9] ?_
 intro x9 e9 _
 refine au [73,123,76,124,6,15,54,2,48,25,6,3] ?_
 refine kP 5 23 28 [0,5,6] (decide (x9.1≤(iconv .u64 x7))) ?_ ?_ ?_
 exact az [91,25,10,28,10,62]
 exact az [68,61]
 refine k9 EnC.e rfl rfl rfl (fun x11 e11=>qad F (((x9.2.2:Int) == 0) && decide (x9.1≤(iconv .u64 x7))) x11 e11) .nil .nil .nil (fun x12 _=>?_) (fun x11 e11=>?_)
 exact az [115]
 intro _
 refine au [117,3,51,17,117,25,10,49] ?_
 exact qdF () (.inl rfl) (res1 rfl rfl) rfl (.cons 0 rfl .nil) .nil
theorem ql6 (hm:qdQ F m1 i1=some i2) :
    qEa 289 [qD3 l1 m1 t1,qD2 i1] [qD5 l1 m1 t1] (qD2 i2):=by
 refine pureA func289 ntmps289 hm fun _=>?_
 refine aw [24,10,1,4,5,0,2,1,1,4,3,24,7,3,23,25,1,0,2,11] ?_ ?_
 exact az [45,78]
 refine au [125,47] ?_
 refine qL (fun ((x99,_):Int×Unit)=>([(1,qD2 i1),(5,qD2 x99)],[],[],[],qc1 F i1 x99)) ?_ ?_
 refine au [48,86] ?_
 refine qm [1,13,14] [] [] [0] (fun (((x0,x2),_):(Int×Int)×Unit)=>([(5,qD2 x0),(15,qD2 x2)],[],[],[])) ((0:Int),(0:Int)) () ?_
 intro k0
 rintro ⟨⟨x0,x2⟩,_⟩
 refine aw [39,1,4,24,4,0,2,1,11] ?_ ?_
 refine au [85,48,26,4] ?_
 intro x3 e0 b0 o0
 refine au [25,3,5,82,48,127] ?_
 refine kH 7 [1,5,7,13,14,15] [] [] [1] (fun ((x5,_):Bool×Unit)=>([(29,.bool x5)],[],[],[],qbj F (qbk F m1 i1 k0) i1 x0 x2 x3 x5)) ?_ ?_
 refine qC (os:=_) rfl ?_
 refine av [26,5] ?_ ?_
 intro h0
 refine ko (k:=22) rfl h0 ?_
 refine au [68,63,113] ?_
 exact qa (true,())
 intro h0
 refine km (k:=22) rfl h0 ?_
 refine au [3,127] ?_
 refine qjl 3 (decide (x3<1)) [(1,qD2 i1),(5,qD2 x0),(13,qD3 l1 m1 t1),(14,qD2 (m1.length:Int)),(15,qD2 x2),(7,qD2 x3),(22,.bool false),(23,qD2 x3),(24,.bool (decide (x3<1))),(25,.bool (decide (x3<1))),(28,.bool (decide (x3<1) && decide (0<x2)))] (fun h1=>?_) (fun h1=>?_) ?_
 refine qC (os:=_) rfl (ko (k:=25) rfl h1 ?_)
 refine au [3,25,1,24,8] ?_
 refine qp (d:=28) (v:=.bool (decide (x3<1) && decide (0<x2))) rfl (by rw[h1];simp only[Bool.true_and]) (qp (d:=25) (v:=.bool (decide (x3<1))) rfl (by simp only[qD3,h1] <;> rfl) ?_)
 exact az [50]
 refine qC (os:=_) rfl (km (k:=25) rfl h1 ?_)
 refine au [63,24,9] ?_
 refine qp (d:=28) (v:=.bool (decide (x3<1) && decide (0<x2))) rfl (by rw[h1];simp only[Bool.false_and]) (qp (d:=25) (v:=.bool (decide (x3<1))) rfl (by simp only[qD3,h1] <;> rfl) ?_)
 exact az [50]
 refine qC (os:=_) rfl ?_
 refine au [112] ?_
 exact qa ((decide (x3<1) && decide (0<x2)),())
 rintro ⟨x5,_⟩
 try dsimp only
 refine qC (os:=_) rfl ?_
 refine aw [0,2,11] ?_ ?_
 exact az [45,59,111,110]
 refine au [57,4,91,3,23,29,0,88,23,29,0,5,27,0] ?_
 intro x6 e1
 refine jQ 5 e1 ?_
 refine au [0,98] ?_
 exact qj ((x6,iadd .i64 x2 1),())
 refine au [72] ?_
 exact qa (x0,())
 rintro ⟨x99,_⟩
 refine aw [39,1,1,4,3,3,25,1,0,2,11] ?_ ?_
 exact az [45,78]
 exact az [125,71]
theorem qkM (hm:qfe F m1 m2=some m3) :
    Pure qD9 290 [qD3 l1 m1 t1,qD3 l2 m2 t2] [qD5 l1 m1 t1,qD5 l2 m2 t2] (qD1×Nat) (fun g=>qD3 g.1 m3 g.2) (fun g=>[qD6 g.1 m3 g.2]) (fun _=>[]):=by
 refine pureA func290 ntmps290 hm fun _=>?_
 refine au [55,83,83,47] ?_
 refine qL (fun (((x0,x2,x3),a0,c0,a1,c1):(qD0×qD0×Bool)×qD1×Nat×qD1×Nat)=>([(0,qD3 a0 x0 c0),(5,qD3 a1 x2 c1),(6,.bool x3)],[],[qD6 a1 x2 c1],[qD5 a0 x0 c0],qc2 F x0 x2 x3)) ?_ ?_
 refine au [48,86,28,0] ?_
 refine qm [9,10] [] [] [1] (fun (((x5,x6,x7,x8),a3,c2,a4,c4):(qD0×qD0×Bool×Int)×qD1×Nat×qD1×Nat)=>([(0,qD3 a3 x5 c2),(5,qD3 a4 x6 c4),(6,.bool x7),(11,qD2 x8)],[],[qD6 a4 x6 c4],[qD5 a3 x5 c2])) (m1,([]:qD0),true,(0:Int)) (l1,t1,none,0) ?_
 intro k0
 rintro ⟨⟨x5,x6,x7,x8⟩,a3,c2,a4,c4⟩
 refine aw [39,1,4,24,4,0,2,1,11] ?_ ?_
 refine au [85,45,26,4] ?_
 intro x9 e0 b0 o0
 refine au [25,3,47] ?_
 refine qg [0,6,8,9,10,11] [] [] [2,1] (fun ((x10,a6,c5):qD0×qD1×Nat)=>([(5,qD3 a6 x10 c5)],[],[qD6 a6 x10 c5],[],qau F (qav F m2 k0) x5 x7 x8 x9 x10)) ?_ ?_
 refine aw [1,4,3,0,2,11] ?_ ?_
 refine au [4,91,3] ?_
 refine qok (j:=2) (qA .i64) rfl UnF.u inferInstance rfl rfl rfl rfl rfl ?_
 intro x11 e1 a7 c7
 refine au [31,10] ?_
 intro x12 e2 a8 c8
 refine au [5,0] ?_
 exact qa (x12,a8,c8)
 refine au [12] ?_
 exact qa (x6,a4,c4)
 rintro ⟨x10,a6,c5⟩
 refine au [39,4,91] ?_
 refine qok (j:=0) (qA .i64) rfl UnF.u inferInstance rfl rfl rfl rfl rfl ?_
 intro x13 e3 a9 c9
 refine au [3,25,7,5,5,0,98] ?_
 exact qj ((x13,x10,(!x7),iadd .i64 x8 1),a9,c9,a6,c5)
 refine au [72] ?_
 exact qa ((x5,x6,x7),a3,c2,a4,c4)
 rintro ⟨⟨x0,x2,x3⟩,a0,c0,a1,c1⟩
 try dsimp only
 refine qL (fun ((x14,a10,c10):qD0×qD1×Nat)=>([(5,qD3 a10 x14 c10)],[],[qD6 a10 x14 c10],[],qbl F x14)) ?_ ?_
 refine aw [1,4,3,0,2,11] ?_ ?_
 refine au [4,91,31,10] ?_
 intro x15 e4 a11 c11
 refine au [5,0] ?_
 exact qa (x15,a11,c11)
 refine au [12] ?_
 exact qa (x2,a1,c1)
 rintro ⟨x14,a10,c10⟩
 refine au [92,49] ?_
 exact qx (a10,c10)
theorem qno {r:(qD0×Int)}(hm:qeG F m1 m2=some r) :
    Pure qD9 267 [qD3 l1 m1 t1,qD3 l2 m2 t2] [qD5 l1 m1 t1,qD5 l2 m2 t2] (qD1×Nat) (fun g=>.tuple #[qD3 g.1 r.1 g.2,qD2 r.2]) (fun g=>[qD6 g.1 r.1 g.2]) (fun _=>[]):=by
 refine pureA func267 ntmps267 hm fun _=>?_
 refine au [55,5,60,30,10] ?_
 intro x7 e7 _
 refine au [47] ?_
 refine qg [0,1] [] [] [0,1] (fun ((x10,_):Int×Unit)=>([(6,qD2 x10)],[],[],[],qaN F m1 m2 x10)) ?_ ?_
 refine aw [1,4,3,25,6,0,2,11] ?_ ?_
 refine au [4,91,24,7] ?_
 refine qd ql6 ?_
 intro x16 e16 _
 refine au [5,0] ?_
 exact qa (x16,())
 refine au [12] ?_
 exact qa (x7,())
 rintro ⟨x10,_⟩
 refine aw [39,1,1,4,3,25,4,0,2,11] ?_ ?_
 refine au [48,5,104] ?_
 exact qx (none,0)
 refine au [57,48,3] ?_
 refine qd qkM ?_
 rintro x12 e12 ⟨a13,c14⟩
 refine au [5,49] ?_
 exact qx (a13,c14)
theorem qg8 (F g1:Nat)(x2:Int)(x3:qD0)(a4:qD1)(c5:Nat)(x6 x7:Int)(r:((qD0×Int×Int) ⊕ (Int×Int)))(hm:jx F x2 x3 x6 x7=some r) :
    PureL qD9 268 [qD4 g1,qD2 x7] [⟨g1,263,[qD2 x2,qD3 a4 x3 c5,qD2 x6]⟩] [] [qD7 a4 x3 c5] lostCh (qD1×Nat) (fun (r:(qD0×Int×Int)) (g:qD1×Nat)=>qD3 g.1 r.1 g.2) (fun (r:(qD0×Int×Int)) (_:qD1×Nat)=>[⟨g1,263,[qD2 r.2.1,qD3 a4 x3 c5,qD2 r.2.2]⟩]) (fun (r:(qD0×Int×Int)) (g:qD1×Nat)=>[qD6 g.1 r.1 g.2]) (fun (z:Int×Int)=>[⟨g1,263,[qD2 z.1,qD3 a4 x3 c5,qD2 z.2]⟩]) r:=by
 refine qhs func268 rfl ntmps268 rfl hm (fun w=>?_)
 refine au [55,60,3,23] ?_
 refine k9 EnC.e rfl rfl rfl (fun x8 e8=>yp F g1 x2 x3 a4 c5 x6 (iadd .i64 x7 1) x8 e8) (.cons 0 rfl .nil) .nil (.consF 0 rfl .nil) (fun x9 _=>?_) (fun x8 e8=>?_)
 exact az [115]
 intro _
 refine au [26,3] ?_
 intro x10 e10 a11 c12
 refine au [47] ?_
 refine qL (fun (((x72,x73,x74),_):(qD0×Int×Int)×Unit)=>([(5,qD3 a11 x72 c12)],[⟨g1,263,[qD2 x73,qD3 a4 x3 c5,qD2 x74]⟩],[qD6 a11 x72 c12],[qD7 a4 x3 c5],qcz F x72 x73 x74)) ?_ ?_
 refine au [48,86] ?_
 refine qm [0,1,13] [] [] [0] (fun (((x93,x94,x95,x96),_):(qD0×Int×Int×Int)×Unit)=>([(5,qD3 a11 x93 c12),(14,qD2 x94)],[⟨g1,263,[qD2 x95,qD3 a4 x3 c5,qD2 x96]⟩],[qD6 a11 x93 c12],[])) (x10,(0:Int),x8.2.1,x8.2.2) () ?_
 intro k0
 rintro ⟨⟨x93,x94,x95,x96⟩,_⟩
 refine aw [39,1,4,24,4,0,2,1,11] ?_ ?_
 refine au [85,48,47,4,91,91] ?_
 refine k9 EnC.e rfl rfl rfl (fun x0 e0=>yp F g1 x95 x3 a4 c5 x96 x7 x0 e0) (.cons 0 rfl .nil) .nil (.consF 0 rfl .nil) (fun x1 _=>?_) (fun x0 e0=>?_)
 exact az [28,13,25,13,25,13,28,13,115]
 intro _
 refine au [3,29,0,23,26,7] ?_
 intro x4 e1 g0 h0
 refine zZ (j:=0) (y':=iadd .i64 x0.1 (imin x94 1)) (qA .i64) rfl rfl rfl tf3 rfl h0 (qw e1).2.1 rfl (fun x5 e2 h1=>?_)
 have h2:x5.length=x93.length:=by rw[← e2,qBA]
 refine qp (d:=5) (v:=qD3 a11 x5 c12) rfl h1 (qp (d:=17) (v:=qD3 a11 x5 c12) rfl h1 ?_)
 refine au [0,98] ?_
 exact qj ((x5,iadd .i64 x94 1,x0.2.1,x0.2.2),())
 refine au [72] ?_
 exact qa ((x93,x95,x96),())
 rintro ⟨⟨x72,x73,x74⟩,_⟩
 refine au [92,49] ?_
 exact qdF (a11,c12) (.inl rfl) (res1 rfl rfl) rfl (.cons 0 rfl .nil) (.cons 0 rfl .nil)
theorem qko (hm:qaV F i1=some i2) :
    qEa 291 [.int .u64 i1] [] (qD2 i2):=by
 refine pureA func291 ntmps291 hm fun _=>?_
 refine au [64,60,27,7,25,10,3,28,15,25,10] ?_
 refine qyF rfl rfl rfl ?_
 refine au [35,0,5,27,0] ?_
 intro x2 e2
 refine jQ 2 e2 ?_
 exact az [46,8,24,5]
theorem qii (F g1:Nat)(x2:Int)(x3:qD0)(a4:qD1)(c5:Nat)(x6 x7 x8 x9:Int)(r:((List (Int×Int)×Int×Int) ⊕ (Int×Int)))(hm:qaD F x2 x3 x6 x7 x8 x9=some r) :
    PureL qD9 269 [qD4 g1,qD2 x7,qD2 x8,qD2 x9] [⟨g1,263,[qD2 x2,qD3 a4 x3 c5,qD2 x6]⟩] [] [qD7 a4 x3 c5] lostCh (qD1×Nat) (fun (r:(List (Int×Int)×Int×Int)) (g:qD1×Nat)=>qD3 g.1 r.1 g.2) (fun (r:(List (Int×Int)×Int×Int)) (_:qD1×Nat)=>[⟨g1,263,[qD2 r.2.1,qD3 a4 x3 c5,qD2 r.2.2]⟩]) (fun (r:(List (Int×Int)×Int×Int)) (g:qD1×Nat)=>[Ro eS209 209 2 (qD3 g.1 r.1 g.2) r.1]) (fun (z:Int×Int)=>[⟨g1,263,[qD2 z.1,qD3 a4 x3 c5,qD2 z.2]⟩]) r:=by
 refine qhs func269 rfl ntmps269 rfl hm (fun w=>?_)
 refine au [28,12,45,60,91,26,12] ?_
 intro h10
 refine qop rfl rfl rfl rfl h10 (k9 EnC.e rfl rfl rfl (fun x11 e11=>yp F g1 x2 x3 a4 c5 x6 (iquo .i64 x9 x8) x11 e11) (.cons 0 rfl .nil) .nil (.consF 0 rfl .nil) (fun x12 _=>?_) (fun x11 e11=>?_))
 exact az [115]
 intro _
 refine qs1 qgi (by decide) rfl UnF.u inferInstance rfl rfl rfl rfl rfl rfl ?_
 intro x13 e13 a14 c15
 refine au [60,47] ?_
 refine qL (fun (((x0,x1,x4),_):(List (Int×Int)×Int×Int)×Unit)=>([(9,qD3 a14 x0 c15)],[⟨g1,263,[qD2 x1,qD3 a4 x3 c5,qD2 x4]⟩],[Ro eS209 209 2 (qD3 a14 x0 c15) x0],[qD7 a4 x3 c5],qdr F x0 x1 x4)) ?_ ?_
 refine au [48,86] ?_
 refine qm [0,2,3,21] [] [] [0] (fun (((x5,x10,x14,x15,x16),_):(List (Int×Int)×Int×Int×Int×Int)×Unit)=>([(9,qD3 a14 x5 c15),(10,qD2 x10),(22,qD2 x14)],[⟨g1,263,[qD2 x15,qD3 a4 x3 c5,qD2 x16]⟩],[Ro eS209 209 2 (qD3 a14 x5 c15) x5],[])) (x13,x7,(0:Int),x11.2.1,x11.2.2) () ?_
 intro k0
 rintro ⟨⟨x5,x10,x14,x15,x16⟩,_⟩
 refine aw [39,1,4,24,4,0,2,1,11] ?_ ?_
 refine au [85,48,60] ?_
 refine k9 EnC.e rfl rfl rfl (fun x17 e0=>yp F g1 x15 x3 a4 c5 x16 2097152 x17 e0) (.cons 0 rfl .nil) .nil (.consF 0 rfl .nil) (fun x18 _=>?_) (fun x17 e0=>?_)
 exact az [25,13,28,13,25,13,25,13,28,13,115]
 intro _
 refine au [47] ?_
 refine qg [0,2,3,9,11,21,22] [0] [0] [0] (fun ((x19,_):Int×Unit)=>([(10,qD2 x19)],[],[],[],yn F (yo F x3 x8 x9 x13 k0) x3 x8 x9 x5 x14 x17 x19)) ?_ ?_
 refine aw [1,4,3,25,6,0,2,11] ?_ ?_
 refine au [4,91,25,10,36,10] ?_
 intro x20 e1 _
 refine au [23,5,0] ?_
 exact qa (iadd .i64 x10 x20,())
 refine au [4,91,23,23,5,0] ?_
 exact qa (iadd .i64 x10 (iadd .i64 x17.1 2),())
 rintro ⟨x19,_⟩
 refine au [92,91,91] ?_
 refine k9 EnC.e rfl rfl rfl (fun x21 e2=>yp F g1 x17.2.1 x3 a4 c5 x17.2.2 x9 x21 e2) (.cons 0 rfl .nil) .nil (.consF 0 rfl .nil) (fun x22 _=>?_) (fun x21 e2=>?_)
 exact az [25,13,28,13,25,13,25,13,28,13,115]
 intro _
 refine au [3,23] ?_
 refine qF [qD2 x19,qD2 (iadd .i64 x21.1 x8)] ?_
 refine au [26,7] ?_
 intro x23 e3 g0 h0
 refine zZ (j:=0) (y':=(x19,iadd .i64 x21.1 x8)) qgi rfl rfl rfl tf209 rfl h0 (qw e3).2.1 rfl (fun x24 e4 h1=>?_)
 have h2:x24.length=x5.length:=by rw[← e4,qBA]
 refine qp (d:=9) (v:=qD3 a14 x24 c15) rfl h1 (qp (d:=38) (v:=qD3 a14 x24 c15) rfl h1 ?_)
 refine au [46,4,91,3,26,7] ?_
 intro x25 e5 g2 h3
 refine au [10] ?_
 refine qrr (j:=0) (y:=x25) (off:=1) qgi rfl rfl tf3 rfl h3 (qw e5).2.2 rfl (fun _=>rfl) rfl rfl ?_
 refine au [25,9,23,5,0,98] ?_
 exact qj ((x24,iadd .i64 x19 (isub .i64 x25.2 1),iadd .i64 x14 1,x21.2.1,x21.2.2),())
 refine au [72] ?_
 exact qa ((x5,x15,x16),())
 rintro ⟨⟨x0,x1,x4⟩,_⟩
 refine au [92,49] ?_
 exact qdF (a14,c15) (.inl rfl) (res1 rfl rfl) rfl (.cons 0 rfl .nil) (.cons 0 rfl .nil)
theorem qg1 (hm:vR F m1 t1 i1=some m2) :
    PureM qD9 295 [qD3 l1 m1 t1,qD2 i1] [] [qD6 l1 m1 t1] [] (qD1×Nat) (fun g=>qD3 g.1 m2 g.2) (fun _=>[]) (fun g=>[qD6 g.1 m2 g.2]):=by
 refine pureMA func295 ntmps295 hm fun _=>?_
 refine aw [24,10,1,4,5,0,2,1,1,4,3,24,4,0,2,11] ?_ ?_
 exact az [30,4]
 refine au [57] ?_
 refine qL (fun ((x15,a13,c14):qD0×qD1×Nat)=>([(0,qD3 a13 x15 c14)],[],[qD6 a13 x15 c14],[],jE F x15)) ?_ ?_
 refine au [48,3,36,11,3,24,7,25,9,25,9,5,27,0] ?_
 intro x16 e16
 refine jQ 1 e16 ?_
 refine aw [0,2,1,4,3,25,1,0,2,11] ?_ ?_
 refine au [4,91,36,11,36,12] ?_
 intro x17 e17
 refine au [3] ?_
 refine qwH (y:=(0:Int)) 0 (qA .i64) rfl UnF.u UnF.u inferInstance rfl rfl rfl rfl rfl rfl rfl rfl rfl ?_
 intro x18 e18 a19 c20
 refine au [3,24,7,36,12] ?_
 intro x21 e21
 refine au [5,0] ?_
 exact qa (x21,a19,c20)
 refine au [12] ?_
 exact qa (m1,l1,t1)
 rintro ⟨x15,a13,c14⟩
 refine au [92,49] ?_
 exact qH (a13,c14)
theorem qf9 (hm:zK F p1=some m1) :
    Pure qD9 272 [qD3 l1 p1 t1] [SlN eN56 iN56 1 (qD3 l1 p1 t1) p1 n1] (qD1×Nat) (fun g=>qD3 g.1 m1 g.2) (fun g=>[qD6 g.1 m1 g.2]) (fun _=>[]):=by
 refine pureA func272 ntmps272 hm fun _=>?_
 refine au [64,83,47] ?_
 refine qg [0] [] [] [0] (fun ((x43,_):Int×Unit)=>([(3,qD2 x43)],[],[],[],kx F p1 x43)) ?_ ?_
 refine au [48,86] ?_
 refine qm [0,9,10] [] [] [0] (fun (((x0,x2),_):(Int×Int)×Unit)=>([(3,qD2 x0),(11,qD2 x2)],[],[],[])) ((0:Int),(0:Int)) () ?_
 intro k0
 rintro ⟨⟨x0,x2⟩,_⟩
 refine aw [39,1,4,24,4,0,2,1,11] ?_ ?_
 refine au [85,45,27,6] ?_
 intro x3 e0 g0 b0 o0
 refine aw [25,3,5,0,2,1,4,3,3,24,7,23,5,0,2,1,4,3,24,4,0,2,11] ?_ ?_
 exact az [30,4]
 refine au [12,98] ?_
 exact qj ((iadd .i64 x0 (x3.length:Int),iadd .i64 x2 1),())
 refine au [72] ?_
 exact qa (x0,())
 rintro ⟨x43,_⟩
 refine au [92,26,11] ?_
 refine qs qg1 ?_
 rintro x44 e44 ⟨a45,c46⟩
 refine au [47] ?_
 refine qL (fun ((x4,a0,c0):qD0×qD1×Nat)=>([(6,qD3 a0 x4 c0)],[],[qD6 a0 x4 c0],[],vE F x4)) ?_ ?_
 refine au [48,86] ?_
 refine qm [25,26] [] [] [0] (fun (((x5,x6),a1,c1):(qD0×Int)×qD1×Nat)=>([(6,qD3 a1 x5 c1),(27,qD2 x6)],[],[qD6 a1 x5 c1],[])) (x44,(0:Int)) (a45,c46) ?_
 intro k1
 rintro ⟨⟨x5,x6⟩,a1,c1⟩
 refine aw [39,1,4,24,4,0,2,1,11] ?_ ?_
 refine au [85,45,27,6] ?_
 intro x7 e1 g1 b1 o1
 refine au [25,3,47,4,91] ?_
 refine zo 0 (qA .i64) rfl UnF.u inferInstance rfl rfl rfl rfl rfl (.inr ⟨1,rfl⟩) rfl rfl ?_
 intro x8 e2 a3 c2
 refine au [5,0,98] ?_
 exact qj ((x8,iadd .i64 x6 1),a3,c2)
 refine au [72] ?_
 exact qa (x5,a1,c1)
 rintro ⟨x4,a0,c0⟩
 refine au [92,49] ?_
 exact qx (a0,c0)
theorem qma (hm:qb5 F i1 i2 i3=some d1) :
    qEa 301 [qD2 i1,qD2 i2,qD2 i3] [] (.bool d1):=by
 refine pureA func301 ntmps301 hm fun _=>?_
 refine au [26,8,45,60,3,26,6,3] ?_
 refine kP 4 10 14 [] (decide (i1≤i3)) ?_ ?_ ?_
 exact az [91,28,10,62]
 exact az [63,7,61]
 exact az [71]
theorem ql9 {r:(qD0×Int)}(hm:qdS F w1=some r) :
    Pure qD9 292 [qD3 l1 w1 t1] [Sl eS209 2 (qD3 l1 w1 t1) w1] (qD1×Nat) (fun g=>.tuple #[qD3 g.1 r.1 g.2,qD2 r.2]) (fun g=>[qD6 g.1 r.1 g.2]) (fun _=>[]):=by
 refine pureA func292 ntmps292 hm fun _=>?_
 refine aw [25,0,1,4,5,5,0,2,1,1,4,3,24,7,25,1,0,2,11] ?_ ?_
 refine au [45,5,104] ?_
 exact qx (none,0)
 refine au [125,47] ?_
 refine qg [0] [] [] [0] (fun ((_,_):Unit×Unit)=>([],[],[],[],qbq F w1)) ?_ ?_
 refine au [48,86] ?_
 refine qm [0,14,15] [] [] [0] (fun (((x0,x2),_):(Int×Int)×Unit)=>([(4,qD2 x0),(16,qD2 x2)],[],[],[])) ((-2:Int),(0:Int)) () ?_
 intro k0
 rintro ⟨⟨x0,x2⟩,_⟩
 refine aw [39,1,4,24,4,0,2,1,11] ?_ ?_
 refine au [85,45,32,6] ?_
 intro x3 e0 b0 o0
 refine au [29,11,24,2] ?_
 intro g0
 refine au [17,46,1,14] ?_
 refine qg [0,4,6,14,15,16] [0] [] [1] (fun ((x4,_):Bool×Unit)=>([(20,.bool x4)],[],[],[],jt F (qbs F w1 k0) x0 x2 x3 x4)) ?_ ?_
 refine au [45,67,36,13] ?_
 intro x5 e1 _
 refine aw [25,7,5,0,2,11] ?_ ?_
 refine au [12] ?_
 exact qa ((!x5),())
 refine au [45,67,36,13] ?_
 intro x6 e2 _
 refine aw [25,7,5,0,2,11] ?_ ?_
 refine au [12] ?_
 exact qa ((!x6),())
 refine au [4,67,67,23,25,9,25,1,5,0] ?_
 exact qa ((decide (1048576<(isub .i64 (iadd .i64 x3.1 x3.2) 1))),())
 rintro ⟨x4,_⟩
 refine aw [39,11] ?_ ?_
 refine au [45,5,49,52,111,52,25,8] ?_
 exact qx (none,0)
 refine aw [1,4,10,20,3,23,24,4,5,0,2,11] ?_ ?_
 refine au [45,5,49,52,111,52,25,8] ?_
 exact qx (none,0)
 refine au [12,65,4,67,67,23,25,9,5,0,98] ?_
 exact qj ((isub .i64 (iadd .i64 x3.1 x3.2) 1,iadd .i64 x2 1),())
 exact az [122]
 rintro ⟨_,_⟩
 refine au [39,45,47] ?_
 refine qL (fun ((x7,a0,c0):qD0×qD1×Nat)=>([(7,qD3 a0 x7 c0)],[],[qD6 a0 x7 c0],[],qfB F x7)) ?_ ?_
 refine au [48,86,28,0] ?_
 refine qm [49,50] [] [] [0] (fun (((x8,x9),a1,c1):(qD0×Int)×qD1×Nat)=>([(7,qD3 a1 x8 c1),(51,qD2 x9)],[],[qD6 a1 x8 c1],[])) (([]:qD0),(0:Int)) (none,0) ?_
 intro k1
 rintro ⟨⟨x8,x9⟩,a1,c1⟩
 refine aw [39,1,4,24,4,0,2,1,11] ?_ ?_
 refine au [57] ?_
 refine qg [49,50,51] [] [] [0] (fun ((x10,a3,c2):qD0×qD1×Nat)=>([(7,qD3 a3 x10 c2)],[],[qD6 a3 x10 c2],[],qbr F (ju F w1 k1) x9 x10)) ?_ ?_
 refine au [14,45,32,6] ?_
 intro x11 e3 b1 o1
 refine au [29,11,24,2] ?_
 intro g1
 refine au [17,46,45,67,3,75] ?_
 refine qm [9,49,50,51,56] [0] [] [1] (fun (((x12,x13),a4,c4):(qD0×Int)×qD1×Nat)=>([(7,qD3 a4 x12 c4),(57,qD2 x13)],[],[qD6 a4 x12 c4],[])) (x8,(0:Int)) (a1,c1) ?_
 intro k2
 rintro ⟨⟨x12,x13⟩,a4,c4⟩
 refine aw [39,1,4,24,4,0,2,1,11] ?_ ?_
 refine au [85,48,47,4,3,67,3,23] ?_
 refine zw [iadd .i64 x11.1 x13] (fun a5 c5=>?_)
 refine zo 1 (qA .i64) rfl underlying56 tf3 rfl rfl rfl rfl rfl (.inl ⟨0,_,rfl⟩) rfl rfl (fun x14 e4 a6 c6=>?_)
 refine au [5,0,98] ?_
 exact qj ((x14,iadd .i64 x13 1),a6,c6)
 refine au [72,24,3] ?_
 exact qa (x12,a4,c4)
 rintro ⟨x10,a3,c2⟩
 refine au [39,97] ?_
 exact qj ((x10,iadd .i64 x9 1),a3,c2)
 refine au [72] ?_
 exact qa (x8,a1,c1)
 rintro ⟨x7,a0,c0⟩
 refine au [92,5,49] ?_
 exact qx (a0,c0)
theorem qnq {r:(qD0×Int)}(hm:qeH F w1 m1=some r) :
    Pure qD9 270 [qD3 l1 w1 t1,qD3 l2 m1 t2] [Sl eS209 2 (qD3 l1 w1 t1) w1,qD5 l2 m1 t2] (qD1×Nat) (fun g=>.tuple #[qD3 g.1 r.1 g.2,qD2 r.2]) (fun g=>[qD6 g.1 r.1 g.2]) (fun _=>[]):=by
 refine pureA func270 ntmps270 hm fun _=>?_
 refine au [55,5,60] ?_
 refine qd ql9 ?_
 rintro x7 e7 ⟨a8,c9⟩
 refine au [3,81,5,47] ?_
 refine qg [1,6] [] [0] [1] (fun ((x12,_):Int×Unit)=>([(7,qD2 x12)],[],[],[],qaO F m1 x7 x12)) ?_ ?_
 refine aw [1,4,3,25,6,0,2,11] ?_ ?_
 refine au [4,3,30,10] ?_
 intro x38 e38 _
 refine au [5,0] ?_
 exact qa (x38,())
 refine au [12] ?_
 exact qa (x7.2,())
 rintro ⟨x12,_⟩
 refine aw [39,1,1,4,3,25,4,0,2,11] ?_ ?_
 refine au [48,5,104] ?_
 exact qx (none,0)
 refine au [57,48,3,32,11] ?_
 refine qaX (vs:=[qD3 a8 x7.1 c9,qD3 l2 m1 t2]) (ys:=([(x7.1,a8,c9),(m1,l2,t2)]:List (qD0×qD1×Nat))) qn (by decide) rfl underlying22 tf56 rfl rfl rfl rfl rfl (by decide) (fun a14 c15=>qm5 (inn:=iN56) ([x7.1,m1]:List (qD0)) ([(a8,c9),(l2,t2)]:List (qD1×Nat)) 0 rfl rfl (qi 0 rfl (qi 1 rfl zB)) ?_)
 refine au [36,14] ?_
 rintro x16 e16 ⟨a17,c18⟩
 refine au [60,31,13] ?_
 intro x19 e19 _
 refine au [26,12] ?_
 intro h20
 replace h20:=of_decide_eq_true h20
 refine qp (d:=8) (v:=qD3 a17 x19 c18) rfl (by simp only[qD3,h20] <;> rfl) (qp (d:=24) (v:=qD3 a17 x19 c18) rfl (by simp only[qD3,h20] <;> rfl) (qp (d:=25) (v:=qD3 a17 x19 c18) rfl (by simp only[qD3,h20] <;> rfl) ?_))
 refine au [46,1,14,48,33,6] ?_
 rintro x29 e29 ⟨a30,c31⟩
 refine au [33,8] ?_
 rintro x32 e32 ⟨a33,c34⟩
 refine aw [24,7,3,24,7,24,4,5,0,2,11] ?_ ?_
 refine au [45,5,49,52,25,8] ?_
 exact qx (none,0)
 refine aw [1,4,3,24,7,25,1,5,0,2,11] ?_ ?_
 refine au [45,5,49,52,25,8] ?_
 exact qx (none,0)
 refine au [12,65,48,5,49] ?_
 exact qx (a17,c18)
theorem qic {r:(Int×Int×Bool)}(hm:zS F i1 m1 i2 i3=some r) :
    qEa 302 [.agg #[qD2 i1,qD3 l1 m1 t1],qD2 i2,.int .u64 i3] [qD7 l1 m1 t1] (.tuple #[.int .u64 r.1,qD2 r.2.1,.bool r.2.2]):=by
 refine pureA func302 ntmps302 hm fun _=>?_
 refine au [126] ?_
 intro g7
 refine au [5,5,60,35,2] ?_
 intro x8 e8 _
 refine au [3,81,5,47] ?_
 refine qg [1,3,9,10] [0] [] [0] (fun ((_,_):Unit×Unit)=>([],[],[],[],zX F i1 m1 i2 x8)) ?_ ?_
 refine aw [1,4,3,25,1,0,2,11] ?_ ?_
 refine au [74,91,25,9,31,6] ?_
 intro x15 e15 _
 refine aw [3,22,22,5,5,0,2,1,1,4,3,25,7,0,2,11] ?_ ?_
 exact az [45,5,5,59,13,24,5]
 refine aw [12,2,1,4,3,3,24,4,0,2,11] ?_ ?_
 exact az [48,91,23,25,9,5,5,78]
 exact az [12,26,14]
 exact az [12,26,14]
 rintro ⟨_,_⟩
 refine au [39,74,91,31,6] ?_
 intro x14 e14 _
 exact az [3,81,5,60,3,25,9,91,88,5,5,71]
theorem qkI {r:(Int×Int×Int)}(hm:qcT F i1 i2 d1=some r) :
    qEa 303 [.int .u64 i1,qD2 i2,.bool d1] [] (.tuple #[.int .u64 r.1,qD2 r.2.1,qD2 r.2.2]):=by
 refine pureA func303 ntmps303 hm fun _=>?_
 refine aw [26,8,1,4,5,5,5,0,2,1,14,1,4,3,25,7,5,0,2,11] ?_ ?_
 exact az [45,5,5,49,110]
 refine aw [1,4,3,25,1,5,0,2,11] ?_ ?_
 exact az [45,5,5,49,110]
 exact az [12,65,48,3,5,5,71]
theorem qiK {r:(Int×Int×Int)}(hm:qbf F i1 m1 i2 i3=some r) :
    qEa 293 [.agg #[qD2 i1,qD3 l1 m1 t1],qD2 i2,qD2 i3] [qD7 l1 m1 t1] (.tuple #[.int .u64 r.1,qD2 r.2.1,qD2 r.2.2]):=by
 refine pureA func293 ntmps293 hm fun _=>?_
 refine au [126] ?_
 intro g7
 refine au [5,5,47,74,3,36,7] ?_
 intro x8 e8 _
 refine aw [3,22,22,22,5,5,5,0,2,1,1,4,3,25,7,0,2,11] ?_ ?_
 exact az [45,5,5,78]
 refine aw [12,2,1,1,4,3,3,25,10,27,15,26,6,0,2,11] ?_ ?_
 exact az [45,5,5,78]
 refine au [57,48,25,10,3,27,15,26,12] ?_
 intro h11
 refine qhL rfl rfl rfl rfl h11 ?_
 refine au [5,27,0] ?_
 intro x12 e12
 refine jQ 12 e12 ?_
 refine au [46,1,28,11] ?_
 intro h17
 refine qE [] [0] [0] 15 ?_
 refine qr 0 (.agg #[qD2 i1,.slice l1 m1.length t1]) rfl rfl rfl (qq (i:=0) rfl tf65 rfl rfl (by simp) rfl) ?_
 refine au [6,1,6,2,6,3] ?_
 refine qb 4 (.int .u64 (ishl .u64 x12 i3)) rfl rfl rfl (qiA rfl rfl h17) ?_
 refine au [6,5,6,6,9,7] ?_
 refine qd qic ?_
 intro x20 e20 _
 refine au [73,6,8,123,76,124,54,2,48,3,23,25,9,91] ?_
 refine qd qkI ?_
 intro x21 e21 _
 exact az [81,22,5,5,71]
theorem qib {r:(Bool×Int×Bool)}(hm:kW F i1 d1 i2=some r) :
    PureM qD9 294 [qD4 t1,.int .u64 i2] [⟨t1,359,[qD2 i1,.bool d1]⟩] [] [] Unit (fun _=>.bool r.1) (fun _=>[⟨t1,359,[qD2 r.2.1,.bool r.2.2]⟩]) (fun _=>[]):=by
 refine pureMA func294 ntmps294 hm fun _=>?_
 refine aw [24,10,1,4,5,0,2,1,1,4,3,25,1,0,2,11] ?_ ?_
 exact az [45,59,25,15]
 refine au [57] ?_
 refine qL (fun ((x8,_):Int×Unit)=>([(0,qD4 t1)],[⟨t1,359,[qD2 x8,.bool d1]⟩],[],[],yC F x8)) ?_ ?_
 refine aw [1,4,3,24,11,10,20,0,2,11] ?_ ?_
 refine au [4,3,119,3,25,10,23,23,51,80] ?_
 exact qa (iadd .i64 i1 (iadd .i64 (iconv .i64 i2) 1),())
 refine kg mixed [9] _ _ .nil (qgl 0 rfl qf) 10 rfl ?_
 refine au [70,18,2] ?_
 refine qz 3 (qD2 i1) [[9]] rfl rfl rfl (kM (j:=0) rfl tf3 rfl rfl (fun _=>rfl) rfl) ?_
 refine au [6,4,9,5,36,10] ?_
 intro x10 e10 _
 refine au [0,32,3,58,18,8,9,9,80] ?_
 refine kQ 9 rfl (by kernel_rfl) .nil ?_
 refine au [54] ?_
 exact qa (iadd .i64 i1 x10,())
 rintro ⟨x8,_⟩
 refine au [92,51,17,117,119,34,9] ?_
 intro x9 e9 _
 exact az [90]
theorem qoO {r:(qD0×Int×Int)}(hm:qfv F i1 m1 i2 i3 i4 i5=some r) :
    Pure qD9 271 [.agg #[qD2 i1,qD3 l1 m1 t1],qD2 i2,qD2 i3,qD2 i4,qD2 i5] [qD7 l1 m1 t1] (qD1×Nat) (fun g=>.tuple #[qD3 g.1 r.1 g.2,qD2 r.2.1,qD2 r.2.2]) (fun g=>[qD6 g.1 r.1 g.2]) (fun _=>[]):=by
 refine pureA func271 ntmps271 hm fun _=>?_
 refine au [32,7,99] ?_
 intro g9
 refine au [5,5,60] ?_
 refine qF [qD2 i3,.bool false] ?_
 refine au [24,0] ?_
 intro g10
 refine au [47] ?_
 refine qL (fun (((x0,x3),a0,c0):(Int×qD0)×qD1×Nat)=>([(1,qD2 x0),(10,qD3 a0 x3 c0)],[],[qD6 a0 x3 c0],[],qe7 F x0 x3)) ?_ ?_
 refine au [48,3,75,28,0] ?_
 refine qm [3,5,13,18] [1] [] [0] (fun (((x4,x9,x10,x11,x12),a1,c1):(Int×qD0×Int×Int×Bool)×qD1×Nat)=>([(1,qD2 x4),(10,qD3 a1 x9 c1),(19,qD2 x10)],[⟨g10,359,[qD2 x11,.bool x12]⟩],[qD6 a1 x9 c1],[])) (i2,([]:qD0),(0:Int),i3,false) (none,0) ?_
 intro k0
 rintro ⟨⟨x4,x9,x10,x11,x12⟩,a1,c1⟩
 refine aw [39,1,4,24,4,0,2,1,11] ?_ ?_
 refine au [85,45,82,74,91] ?_
 refine qd qiK ?_
 intro x13 e0 _
 refine aw [3,22,22,22,5,5,5,0,2,1,4,3,25,4,0,2,11] ?_ ?_
 refine au [48,5,5,59,111,52,25,8] ?_
 exact qx (none,0)
 refine au [84,48,3] ?_
 refine qs qib ?_
 intro x14 e1 _
 refine aw [25,7,0,2,11] ?_ ?_
 refine au [45,5,5,59,111,52,25,8] ?_
 exact qx (none,0)
 refine au [57,4,91,119] ?_
 refine zw [x14.2.1] (fun a2 c2=>?_)
 refine zo 1 (qA .i64) rfl underlying56 tf3 rfl rfl rfl rfl rfl (.inl ⟨0,_,rfl⟩) rfl rfl (fun x15 e2 a4 c3=>?_)
 refine au [5,0,98] ?_
 exact qj ((x13.2.1,x15,iadd .i64 x10 1,x14.2.1,x14.2.2),a4,c3)
 refine au [72] ?_
 exact qa ((x4,x9),a1,c1)
 rintro ⟨⟨x0,x3⟩,a0,c0⟩
 refine au [92,3,5,5,49] ?_
 exact qx (a0,c0)
theorem qig (F g1:Nat)(x2:Int)(x3:qD0)(a4:qD1)(c5:Nat)(x6 x7:Int)(x8:qD0)(a9:qD1)(c10:Nat)(x11 x12 x13:Int)(r:((qD0×Int×Int) ⊕ (Int×Int)))(hm:vI F x2 x3 x6 x7 x8 x11 x12 x13=some r) :
    PureL qD9 244 [qD4 g1,qD2 x7,qD3 a9 x8 c10,.agg #[qD2 x11,qD2 x12,qD2 x13]] [⟨g1,263,[qD2 x2,qD3 a4 x3 c5,qD2 x6]⟩] [] [qD7 a4 x3 c5,qD5 a9 x8 c10] lostCh (qD1×Nat) (fun (r:(qD0×Int×Int)) (g:qD1×Nat)=>qD3 g.1 r.1 g.2) (fun (r:(qD0×Int×Int)) (_:qD1×Nat)=>[⟨g1,263,[qD2 r.2.1,qD3 a4 x3 c5,qD2 r.2.2]⟩]) (fun (r:(qD0×Int×Int)) (g:qD1×Nat)=>[qD6 g.1 r.1 g.2]) (fun (z:Int×Int)=>[⟨g1,263,[qD2 z.1,qD3 a4 x3 c5,qD2 z.2]⟩]) r:=by
 refine qhs func244 rfl ntmps244 rfl hm (fun w=>?_)
 refine au [28,12,99] ?_
 intro g14
 refine au [60] ?_
 refine k9 EnC.e rfl rfl rfl (fun x15 e15=>yp F g1 x2 x3 a4 c5 x6 300 x15 e15) (.cons 1 rfl .nil) .nil (.consF 0 rfl .nil) (fun x16 _=>?_) (fun x15 e15=>?_)
 exact az [115]
 intro _
 refine aw [5,0,2,1,1,4,3,25,6,0,2,11] ?_ ?_
 refine au [45,104] ?_
 exact qdF (none,0) (.inl rfl) (res1 rfl rfl) rfl (.cons 0 rfl .nil) (.cons 0 rfl .nil)
 refine au [125,47] ?_
 refine qg [0,1,7,9] [1] [] [0] (fun (((x31,x32,x33),a29,c30):(qD0×Int×Int)×qD1×Nat)=>([(10,qD3 a29 x31 c30)],[⟨g1,263,[qD2 x32,qD3 a4 x3 c5,qD2 x33]⟩],[qD6 a29 x31 c30],[],yE F x3 x7 x12 x13 x15 x31 x32 x33)) ?_ ?_
 refine aw [1,4,10,25,12,25,1,0,2,11] ?_ ?_
 refine au [45,60,91,24,7] ?_
 refine k9 EnC.e rfl rfl rfl (fun x72 e72=>qg8 F g1 x15.2.1 x3 a4 c5 x15.2.2 (x8.length:Int) x72 e72) (.cons 0 rfl .nil) .nil (.consF 0 rfl .nil) (fun x73 _=>?_) (fun x72 e72=>?_)
 exact az [25,13,115]
 rintro ⟨a74,c75⟩
 refine qd qno ?_
 rintro x76 e76 ⟨a77,c78⟩
 refine au [3,81,5,47,4,3,25,6,3] ?_
 refine kP 5 36 41 [0,1,7,9,10] (decide ((x76.1.length:Int)≤x15.1)) ?_ ?_ ?_
 exact az [3,77,28,10,62]
 exact az [68,61]
 refine k9 EnC.e rfl rfl rfl (fun x80 e80=>qad F (((x76.2:Int) == 0) && decide ((x76.1.length:Int)≤x15.1)) x80 e80) .nil .nil .nil (fun x81 _=>?_) (fun x80 e80=>?_)
 exact az [115]
 intro _
 refine au [0] ?_
 exact qa ((x76.1,x72.2.1,x72.2.2),a77,c78)
 refine au [12,25,8] ?_
 exact qa ((([]:qD0),x15.2.1,x15.2.2),none,0)
 rintro ⟨⟨x31,x32,x33⟩,a29,c30⟩
 refine aw [39,1,4,3,3,24,7,25,9,5,0,2,1,1,4,3,25,6,0,2,11] ?_ ?_
 refine au [48,59] ?_
 exact qdF (a29,c30) (.inl rfl) (res1 rfl rfl) rfl (.cons 1 rfl .nil) (.cons 0 rfl .nil)
 refine au [125,47] ?_
 refine qg [0,1,7,10,12] [0] [0] [0] (fun (((x42,x43,x44),a40,c41):(List (Int×Int)×Int×Int)×qD1×Nat)=>([(13,qD3 a40 x42 c41)],[⟨g1,263,[qD2 x43,qD3 a4 x3 c5,qD2 x44]⟩],[Ro eS209 209 2 (qD3 a40 x42 c41) x42],[],yF F x3 x7 x13 x15 x31 x42 x43 x44)) ?_ ?_
 refine aw [1,4,10,20,25,1,0,2,11] ?_ ?_
 refine au [4,91,67,3] ?_
 refine k9 EnC.e rfl rfl rfl (fun x66 e66=>qii F g1 x32 x3 a4 c5 x33 x7 x12 (isub .i64 x15.1 (x31.length:Int)) x66 e66) (.cons 1 rfl .nil) .nil (.consF 0 rfl .nil) (fun x67 _=>?_) (fun x66 e66=>?_)
 exact az [115]
 rintro ⟨a68,c69⟩
 refine au [5,0] ?_
 exact qa ((x66.1,x66.2.1,x66.2.2),a68,c69)
 refine au [12] ?_
 exact qfp (Int×Int) eS209 209 2 (qa ((([]:List (Int×Int)),x32,x33),none,0))
 rintro ⟨⟨x42,x43,x44⟩,a40,c41⟩
 refine au [92,26,11] ?_
 refine qd qnq ?_
 rintro x45 e45 ⟨a46,c47⟩
 refine au [3,81,5,60,25,6,3] ?_
 refine kP 5 66 71 [0,1,7,10,12,14] (decide ((x45.1.length:Int)≤(isub .i64 x15.1 (x31.length:Int)))) ?_ ?_ ?_
 exact az [3,77,28,10,62]
 exact az [68,61]
 refine k9 EnC.e rfl rfl rfl (fun x49 e49=>qad F (((x45.2:Int) == 0) && decide ((x45.1.length:Int)≤(isub .i64 x15.1 (x31.length:Int)))) x49 e49) .nil .nil .nil (fun x50 _=>?_) (fun x49 e49=>?_)
 exact az [25,13,36,15]
 intro _
 refine au [46,1] ?_
 refine qE [] [0,0] [0] 23 ?_
 refine au [70,18,2] ?_
 refine qr 3 (.agg #[qD2 x43,.slice a4 x3.length c5]) rfl rfl rfl (qq (i:=1) rfl tf65 rfl rfl (by simp) rfl) ?_
 refine au [6,4,6,5,18,6,26,10,7,6,8,18,9,24,15,10,76,28,8,13,6,14,9,15] ?_
 refine qd qoO ?_
 rintro x54 e54 ⟨a55,c56⟩
 refine au [0,28,14,6,16,6,17,6,18,6,19,6,20,6,21,6,22,54,2,48,25,6] ?_
 refine k9 EnC.e rfl rfl rfl (fun x57 e57=>qad F ((x54.2.2:Int) == 0) x57 e57) .nil .nil .nil (fun x58 _=>?_) (fun x57 e57=>?_)
 exact az [25,13,36,15]
 intro _
 refine au [117,3,51,25,5,117,91] ?_
 refine qiw 3 rfl (qiw 1 rfl ?_)
 refine au [32,11] ?_
 refine qaX (vs:=[qD3 a29 x31 c30,qD3 a46 x45.1 c47,qD3 a55 x54.1 c56]) (ys:=([(x31,a29,c30),(x45.1,a46,c47),(x54.1,a55,c56)]:List (qD0×qD1×Nat))) qn (by decide) rfl underlying22 tf56 rfl rfl rfl rfl rfl (by decide) (fun a59 c60=>qm5 (inn:=iN56) ([x31,x45.1,x54.1]:List (qD0)) ([(a29,c30),(a46,c47),(a55,c56)]:List (qD1×Nat)) 0 rfl rfl (qi 2 rfl (qi 1 rfl (qi 0 rfl zB))) ?_)
 refine au [36,14] ?_
 rintro x61 e61 ⟨a62,c63⟩
 refine au [60,31,13] ?_
 intro x64 e64 _
 refine au [26,12] ?_
 intro h65
 replace h65:=of_decide_eq_true h65
 refine qp (d:=10) (v:=qD3 a62 x64 c63) rfl (by simp only[qD3,h65] <;> rfl) (qp (d:=104) (v:=qD3 a62 x64 c63) rfl (by simp only[qD3,h65] <;> rfl) (qp (d:=105) (v:=qD3 a62 x64 c63) rfl (by simp only[qD3,h65] <;> rfl) ?_))
 refine au [117,49] ?_
 exact qdF (a62,c63) (.inl rfl) (res1 rfl rfl) rfl (.cons 1 rfl .nil) (.cons 0 rfl .nil)
theorem qih {r:(qD0×Bool×Int×Int)}(hm:vJ F i1 m1 i2 i3 m2 i4 i5 i6=some r) :
    PureM qD9 201 [qD4 t1,qD2 i3,qD3 l2 m2 t3,.agg #[qD2 i4,qD2 i5,qD2 i6]] [⟨t1,263,[qD2 i1,qD3 l1 m1 t2,qD2 i2]⟩] [] [qD7 l1 m1 t2,qD5 l2 m2 t3] (qD1×Nat) (fun g=>.tuple #[qD3 g.1 r.1 g.2,.bool r.2.1]) (fun _=>[⟨t1,263,[qD2 r.2.2.1,qD3 l1 m1 t2,qD2 r.2.2.2]⟩]) (fun g=>[qD6 g.1 r.1 g.2]):=by
 refine qvZ func201 rfl ntmps201 rfl hm (fun w=>?_)
 refine au [28,12,99] ?_
 intro g14
 refine au [24,2] ?_
 intro g15
 refine au [24,2] ?_
 intro g16
 refine au [46,45,27,9] ?_
 refine qub rfl rfl ?_
 refine au [117,51,29,3,60,91,26,9] ?_
 refine k9 EnC.e rfl rfl rfl (fun x17 e17=>qig F t1 i1 m1 l1 t2 i2 i3 m2 l2 t3 i4 i5 i6 x17 e17) (.cons 3 rfl .nil) .nil (.consF 0 rfl (.consF 1 rfl .nil)) (fun x18 _=>?_) (fun x17 e17=>?_)
 refine au [25,13] ?_
 refine qfo EnC.e rfl (.cons 2 rfl (.cons 1 rfl .nil)) (qi9 _ _ _ _) ?_
 refine au [25,8] ?_
 exact yr (none,0) (resL (rs:=[.cell 8 56,.cell 9 4]) rfl (.cell (i:=0) rfl tf56 rfl rfl (fun _=>rfl) rfl (.cell (i:=1) rfl tf4 rfl rfl (fun _=>rfl) rfl ResOk.nil)) rfl) (hB:=fun h=>by subst h;exact (.cons 2 rfl .nil)) (hR:=fun h=>by subst h;exact (.cons 0 rfl .nil))
 rintro ⟨a19,c20⟩
 refine au [27,13,46,45,26,1,30,10] ?_
 intro x21 e21 _
 refine au [25,6] ?_
 refine k9 EnC.e rfl rfl rfl (fun x22 e22=>qad F ((x21:Int) == 0) x22 e22) .nil .nil .nil (fun x23 _=>?_) (fun x22 e22=>?_)
 refine au [25,13] ?_
 refine qfo EnC.e rfl (.cons 2 rfl (.cons 1 rfl .nil)) (qi9 _ _ _ _) ?_
 refine au [25,8] ?_
 exact yr (none,0) (resL (rs:=[.cell 8 56,.cell 9 4]) rfl (.cell (i:=0) rfl tf56 rfl rfl (fun _=>rfl) rfl (.cell (i:=1) rfl tf4 rfl rfl (fun _=>rfl) rfl ResOk.nil)) rfl) (hB:=fun h=>by subst h;exact (.cons 2 rfl .nil)) (hR:=fun h=>by subst h;exact (.cons 0 rfl .nil))
 intro _
 refine au [46,45] ?_
 refine qF [qD2 0,.slice none 0 0,.bool false] ?_
 refine au [24,0] ?_
 intro g24
 refine au [60,3,29,3,3] ?_
 refine zO (i:=4) rfl rfl inferInstance rfl rfl (by simp) rfl rfl ?_
 refine au [29,14,35,7] ?_
 rintro x25 e25 ⟨a26,c27⟩
 refine au [46] ?_
 refine qg [0,8,9,10,11] [0,1,2,3] [0,1] [0] (fun ((_,_):Unit×Unit)=>([],[],[],[],vT F m1 i2 x17 x25)) ?_ ?_
 refine av [30,8] ?_ ?_
 intro h97
 refine qj0 mixed [8,9] [] [⟨g24,316,[qD2 x25.1,qD3 a26 x25.2.1 c27,.bool x25.2.2]⟩,⟨t1,263,[qD2 x17.2.1,qD3 l1 m1 t2,qD2 x17.2.2]⟩,⟨g16,4,[.bool false]⟩,⟨g15,56,[qD3 a19 x17.1 c20]⟩,⟨g14,26,[qD2 i4,qD2 i5,qD2 i6]⟩] [qD7 l1 m1 t2,qD5 l2 m2 t3] (.cons 0 rfl (.cons 0 rfl (.cons 0 rfl (.cons 0 rfl (.cons 0 rfl .nil))))) (qh 0 rfl (qh 1 rfl qf)) 20 rfl ?_
 refine au [32,12,32,13,32,14] ?_
 refine qdC 3 (.bool x25.2.2) rfl rfl rfl (qq (i:=0) rfl tf4 rfl rfl (fun _=>rfl) rfl) rfl ?_
 refine au [32,15,37,0] ?_
 refine yA 40 h97 ?_
 refine au [37,1,37,2,37,3] ?_
 refine zY 9 _ rfl rfl rfl (qZ rfl inferInstance) rfl (qdC 10 (qD2 x25.1) rfl rfl rfl (qq (i:=0) rfl tf3 rfl rfl (fun _=>rfl) rfl) rfl ?_)
 refine au [37,4,37,5] ?_
 refine zY 13 _ rfl rfl rfl (qZ rfl inferInstance) rfl (qdC 14 (qD2 x17.2.2) rfl rfl rfl (qq (i:=1) rfl tf3 rfl rfl (fun _=>rfl) rfl) rfl (zY 15 _ rfl rfl rfl (zn rfl) rfl (zY 16 _ rfl rfl rfl (zn rfl) rfl (zY 17 _ rfl rfl rfl (zn rfl) rfl ?_))))
 refine au [37,6,9,19] ?_
 refine k9 EnC.e rfl rfl rfl (fun x98 e98=>qad F ((x25.1:Int) == (isub .i64 x17.2.2 i2)) x98 e98) .nil .nil .nil (fun x99 _=>?_) (fun x98 e98=>?_)
 refine au [25,13] ?_
 refine qoq (l':=[(8,qD4 g15),(9,qD4 g16)]) (qhC rfl rfl (qhC rfl rfl qqW)) ?_
 refine au [25,13] ?_
 refine qfo EnC.e rfl (.cons 3 rfl (.cons 2 rfl .nil)) (qi9 _ _ _ _) ?_
 refine au [25,8] ?_
 exact yr (none,0) (resL (rs:=[.cell 8 56,.cell 9 4]) rfl (.cell (i:=0) rfl tf56 rfl rfl (fun _=>rfl) rfl (.cell (i:=1) rfl tf4 rfl rfl (fun _=>rfl) rfl ResOk.nil)) rfl) (hB:=fun h=>by subst h;exact (.cons 3 rfl .nil)) (hR:=fun h=>by subst h;exact (.cons 0 rfl .nil))
 intro _
 refine au [0,37,7,15] ?_
 refine qrw ?_ (by intro c h;cases h)
 exact az [26,14]
 intro h97
 refine qj0 mixed [8,9] [] [⟨g24,316,[qD2 x25.1,qD3 a26 x25.2.1 c27,.bool x25.2.2]⟩,⟨t1,263,[qD2 x17.2.1,qD3 l1 m1 t2,qD2 x17.2.2]⟩,⟨g16,4,[.bool false]⟩,⟨g15,56,[qD3 a19 x17.1 c20]⟩,⟨g14,26,[qD2 i4,qD2 i5,qD2 i6]⟩] [qD7 l1 m1 t2,qD5 l2 m2 t3] (.cons 0 rfl (.cons 0 rfl (.cons 0 rfl (.cons 0 rfl (.cons 0 rfl .nil))))) (qh 0 rfl (qh 1 rfl qf)) 20 rfl ?_
 refine au [32,12,32,13,32,14] ?_
 refine qdC 3 (.bool x25.2.2) rfl rfl rfl (qq (i:=0) rfl tf4 rfl rfl (fun _=>rfl) rfl) rfl ?_
 refine au [32,15,37,0] ?_
 refine yA 40 h97 ?_
 refine v7 6 rfl rfl rfl rfl (v7 7 rfl rfl rfl rfl (v7 8 rfl rfl rfl rfl (v7 9 rfl rfl rfl rfl (v7 10 rfl rfl rfl rfl (v7 11 rfl rfl rfl rfl (v7 12 rfl rfl rfl rfl (v7 13 rfl rfl rfl rfl (v7 14 rfl rfl rfl rfl (v7 15 rfl rfl rfl rfl (v7 16 rfl rfl rfl rfl (v7 17 rfl rfl rfl rfl ?_)))))))))))
 refine au [37,6,9,19] ?_
 refine k9 EnC.e rfl rfl rfl (fun x0 e0=>qad F false x0 e0) .nil .nil .nil (fun x1 _=>?_) (fun x0 e0=>?_)
 refine au [25,13] ?_
 refine qoq (l':=[(8,qD4 g15),(9,qD4 g16)]) (qhC rfl rfl (qhC rfl rfl qqW)) ?_
 refine au [25,13] ?_
 refine qfo EnC.e rfl (.cons 3 rfl (.cons 2 rfl .nil)) (qi9 _ _ _ _) ?_
 refine au [25,8] ?_
 exact yr (none,0) (resL (rs:=[.cell 8 56,.cell 9 4]) rfl (.cell (i:=0) rfl tf56 rfl rfl (fun _=>rfl) rfl (.cell (i:=1) rfl tf4 rfl rfl (fun _=>rfl) rfl ResOk.nil)) rfl) (hB:=fun h=>by subst h;exact (.cons 3 rfl .nil)) (hR:=fun h=>by subst h;exact (.cons 0 rfl .nil))
 intro _
 refine au [0,37,7,15] ?_
 refine qrw ?_ (by intro c h;cases h)
 exact az [26,14]
 rintro ⟨_,_⟩
 try dsimp only
 refine qg [8,9] [1,2,3] [1] [0] (fun ((_,_):Unit×Unit)=>([],[],[],[],qdq F x17)) ?_ ?_
 refine au [48,51,67,3,75] ?_
 refine qm [0,8,9,10,11,59] [0,0,0,0] [0,0] [0] (fun ((x75,_):Int×Unit)=>([(60,qD2 x75)],[],[],[])) (0:Int) () ?_
 intro k86
 rintro ⟨x75,_⟩
 refine aw [39,1,4,24,4,0,2,1,11] ?_ ?_
 refine au [85,48,47] ?_
 refine qj0 mixed [8,9] [] [⟨g24,316,[qD2 x25.1,qD3 a26 x25.2.1 c27,.bool x25.2.2]⟩,⟨t1,263,[qD2 x17.2.1,qD3 l1 m1 t2,qD2 x17.2.2]⟩,⟨g16,4,[.bool false]⟩,⟨g15,56,[qD3 a19 x17.1 c20]⟩] [qD7 l1 m1 t2] (.cons 0 rfl (.cons 0 rfl (.cons 0 rfl (.cons 0 rfl .nil)))) (qh 0 rfl qf) 16 rfl ?_
 refine au [32,12,32,13,32,14] ?_
 refine qdC 3 (.agg #[qD2 x25.1,.slice a26 x25.2.1.length c27]) rfl rfl rfl (qq (i:=0) rfl tf65 rfl rfl (by simp) rfl) rfl ?_
 refine au [32,15,37,1,37,2,37,3] ?_
 refine qdC 9 (.agg #[qD2 x17.2.1,.slice l1 m1.length t2]) rfl rfl rfl (qq (i:=1) rfl tf65 rfl rfl (by simp) rfl) rfl (zY 10 _ rfl rfl rfl (zn rfl) rfl ?_)
 refine au [37,4,37,5,9,5,29,12] ?_
 intro x92 e92 _
 refine au [0,33,0,9,13,29,12] ?_
 intro x93 e93 _
 refine au [0,33,0] ?_
 refine zY 14 _ rfl rfl rfl (zn rfl) rfl ?_
 refine au [9,15] ?_
 refine k9 EnC.e rfl rfl rfl (fun x94 e94=>qad F ((x92:Int) == x93) x94 e94) .nil .nil .nil (fun x95 _=>?_) (fun x94 e94=>?_)
 refine au [25,13] ?_
 refine qoq (l':=[(8,qD4 g15),(9,qD4 g16)]) (qhC rfl rfl (qhC rfl rfl qqW)) ?_
 refine au [28,13,25,13,25,13,28,13,25,13] ?_
 refine qfo EnC.e rfl (.cons 3 rfl (.cons 2 rfl .nil)) (qi9 _ _ _ _) ?_
 refine au [25,8] ?_
 exact yr (none,0) (resL (rs:=[.cell 8 56,.cell 9 4]) rfl (.cell (i:=0) rfl tf56 rfl rfl (fun _=>rfl) rfl (.cell (i:=1) rfl tf4 rfl rfl (fun _=>rfl) rfl ResOk.nil)) rfl) (hB:=fun h=>by subst h;exact (.cons 3 rfl .nil)) (hR:=fun h=>by subst h;exact (.cons 0 rfl .nil))
 intro _
 refine au [0,33,0,15] ?_
 refine qrw ?_ (by intro c h;cases h)
 refine au [98] ?_
 exact qj (iadd .i64 x75 1,())
 exact az [122]
 rintro ⟨_,_⟩
 refine au [39,45,26,1,27,13,25,5,46,8] ?_
 exact qrx (.inl rfl) EnC.e rfl (qxR _ _) (yr (a19,c20) (resL (rs:=[.cell 8 56,.cell 9 4]) rfl (.cell (i:=2) rfl tf56 rfl rfl (fun _=>rfl) rfl (.cell (i:=1) rfl tf4 rfl rfl (fun _=>rfl) rfl ResOk.nil)) rfl) (hB:=fun h=>by subst h;exact (.cons 0 rfl .nil)) (hR:=fun h=>by subst h;exact (.cons 0 rfl .nil)))
theorem qj8 {r:(qD0×Int×Int)}(hm:qah F i1 m1 i2 i3 m2 i4 i5 i6=some r) :
    Pure qD9 171 [.agg #[qD2 i1,qD3 l1 m1 t1],qD2 i2,qD2 i3,qD3 l2 m2 t2,.agg #[qD2 i4,qD2 i5,qD2 i6]] [qD7 l1 m1 t1,qD5 l2 m2 t2] (qD1×Nat) (fun g=>.tuple #[qD3 g.1 r.1 g.2,qD2 r.2.1,qD2 r.2.2]) (fun g=>[qD6 g.1 r.1 g.2]) (fun _=>[]):=by
 refine pureA func171 ntmps171 hm fun _=>?_
 refine au [32,7,99] ?_
 intro g13
 refine au [24,0] ?_
 intro g14
 refine au [5,5,83,25,11,3] ?_
 refine qF [qD2 i1,qD3 l1 m1 t1,qD2 i2] ?_
 refine au [24,0] ?_
 intro g15
 refine au [60,91,25,11] ?_
 refine qs qih ?_
 rintro x16 e16 ⟨a17,c18⟩
 refine aw [3,22,22,5,5,0,2,1,1,4,3,25,7,0,2,11] ?_ ?_
 refine au [45,5,5,104] ?_
 exact qx (none,0)
 refine au [84] ?_
 refine qE [] [0,0,0] [0,1] 8 ?_
 refine au [96,18,3,24,15,4,6,5,58,54,2,8] ?_
 exact qx (a17,c18)
theorem qnn {r:(List (qD0)×Bool)}(hm:qgB F i1 i2 i3 i4 i5 m1=some r) :
    Pure qD9 196 [.agg #[qD2 i1,qD2 i2,qD2 i3,qD2 i4,qD2 i5,qD3 l1 m1 t1]] [qD7 l1 m1 t1] (qD1×Nat×List (qD1×Nat)) (fun g=>.tuple #[qD3 g.1 r.1 g.2.1,.bool r.2]) (fun g=>[RoN eN56 rN56 56 1 (qD3 g.1 r.1 g.2.1) r.1 g.2.2 []]) (fun _=>[]):=by
 refine pureA func196 ntmps196 hm fun _=>?_
 refine au [87] ?_
 intro g9
 refine au [5,83,47] ?_
 refine qg [1] [0] [] [0] (fun (((x0,x7),a0,c0):(List (qD0)×Int)×qD1×Nat×List (qD1×Nat))=>([(2,qD3 a0 x0 c0.1),(4,qD2 x7)],[],[RoN eN56 rN56 56 1 (qD3 a0 x0 c0.1) x0 c0.2 []],[],qeu F i5 x0 x7)) ?_ ?_
 refine au [45,67,3,75] ?_
 refine qwD (qD0) (qD1×Nat) eN56 rN56 56 1 (qm [1,14] [0] [] [0] (fun (((x8,x9,x10),a1,c1):(List (qD0)×Int×Int)×qD1×Nat×List (qD1×Nat))=>([(2,qD3 a1 x8 c1.1),(4,qD2 x9),(15,qD2 x10)],[],[RoN eN56 rN56 56 1 (qD3 a1 x8 c1.1) x8 c1.2 []],[])) (([]:List (qD0)),(0:Int),(0:Int)) (none,0,([]:List (qD1×Nat))) ?_)
 intro k0
 rintro ⟨⟨x8,x9,x10⟩,a1,c1⟩
 refine aw [39,1,4,24,4,0,2,1,11] ?_ ?_
 refine au [57] ?_
 refine qg [1,14,15] [0] [] [0] (fun (((x11,x12),a2,c2):(List (qD0)×Int)×qD1×Nat×List (qD1×Nat))=>([(2,qD3 a2 x11 c2.1),(4,qD2 x12)],[],[RoN eN56 rN56 56 1 (qD3 a2 x11 c2.1) x11 c2.2 []],[],qaL F (qaM F i1 i2 i3 i4 i5 m1 k0) x10 x11 x12)) ?_ ?_
 refine au [14,48,47,74,91] ?_
 refine qd qkL ?_
 intro x13 e0 _
 refine aw [3,22,22,22,5,5,5,0,2,1,1,4,3,25,7,0,2,11] ?_ ?_
 refine au [45,5,59,111,52,27,2] ?_
 exact qx (none,0,([]:List (qD1×Nat)))
 refine aw [12,2,1,4,5,0,2,1,1,4,3,25,1,0,2,11] ?_ ?_
 refine au [4,91,3,25,9,31,12] ?_
 intro x14 e1 g0 h0 g1 h1
 refine qj4 (i:=0) rfl h0 (List.not_mem_nil) (qiy (j:=1) (p:=(x14,g0)) qn rfl rfl tf56 rfl h1 h0 rfl (fun _=>rfl) rfl rfl ?_)
 refine au [83,103,24,2] ?_
 intro g2
 refine au [17,117,10,17,46,45,10,25,11,91,3,24,12,37,8] ?_
 rintro x15 e2 ⟨a3,c3⟩
 refine au [3,81,22,5,5,82,1] ?_
 refine qiv (rin:=rN56) (p:=(x14,g0)) (i:=1) (k:=0) (.cons 1 rfl .nil) rfl rfl h0 ?_
 refine aw [4,3,25,4,0,2,11] ?_ ?_
 refine au [45,5,59,111,52,27,2] ?_
 exact qx (none,0,([]:List (qD1×Nat)))
 refine au [57,4,91] ?_
 refine qaX (vs:=[qD3 a3 x15.1 c3]) (ys:=([(x15.1,a3,c3)]:List (qD0×qD1×Nat))) qn (by decide) rfl underlying22 tf56 rfl rfl rfl rfl rfl (by decide) (fun a4 c4=>qlP (rin:=rN56) (i:=0) ([x15.1]:List (qD0)) ([(a3,c3)]:List (qD1×Nat)) rfl rfl (.cons 1 rfl .nil) (qp1 qn rfl UnF.u inferInstance rfl rfl rfl rfl (.cons 1 rfl (.cons 0 rfl .nil)) rfl rfl ?_))
 intro x16 e3 a5 c5
 refine au [3,5,5,121] ?_
 exact qa ((x16,x15.2.1),a5,c5,(c1.2++([(a3,c3)]:List (qD1×Nat))))
 refine au [125,103,24,2] ?_
 intro g3
 refine au [17,117,10,17,46,45,10,25,11,91,3,24,12,26,11,37,8] ?_
 rintro x17 e4 ⟨a6,c6⟩
 refine aw [3,22,22,22,5,5,5,0,2,1,1,4,3,25,4,0,2,11] ?_ ?_
 refine au [45,5,59,111,52,27,2] ?_
 exact qx (none,0,([]:List (qD1×Nat)))
 refine au [57,4,91] ?_
 refine qaX (vs:=[qD3 a6 x17.1 c6]) (ys:=([(x17.1,a6,c6)]:List (qD0×qD1×Nat))) qn (by decide) rfl underlying22 tf56 rfl rfl rfl rfl rfl (by decide) (fun a8 c7=>qlP (rin:=rN56) (i:=0) ([x17.1]:List (qD0)) ([(a6,c6)]:List (qD1×Nat)) rfl rfl (.cons 0 rfl .nil) (qp1 qn rfl UnF.u inferInstance rfl rfl rfl rfl (.cons 2 rfl (.cons 0 rfl .nil)) rfl rfl ?_))
 intro x18 e5 a9 c9
 refine au [3,5,5,121] ?_
 exact qa ((x18,x17.2.1),a9,c9,(c1.2++([(a6,c6)]:List (qD1×Nat))))
 rintro ⟨⟨x11,x12⟩,a2,c2⟩
 refine au [39,97] ?_
 exact qj ((x11,x12,iadd .i64 x10 1),a2,c2)
 refine au [72] ?_
 exact qa ((x8,x9),a1,c1)
 rintro ⟨⟨x0,x7⟩,a0,c0⟩
 refine au [39,1] ?_
 refine qE [] [0] [0] 8 ?_
 refine au [70,18,2,18,3,24,15,4,6,5,58,54,2,8] ?_
 exact qx (a0,c0)
theorem qfI (hm:qX F m1 m2=some d1) :
    qEa 197 [qD3 l1 m1 t1,qD3 l2 m2 t2] [qD7 l1 m1 t1,qD7 l2 m2 t2] (.bool d1):=by
 refine pureA func197 ntmps197 hm fun _=>?_
 refine aw [24,10,1,4,5,0,2,1,1,4,3,24,7,3,24,7,25,4,0,2,11] ?_ ?_
 exact az [45,78]
 refine au [57] ?_
 refine qL (fun ((_,_):Unit×Unit)=>([],[],[],[],qbt F)) ?_ ?_
 refine au [48,86] ?_
 refine qm [0,1,12] [] [] [0,1] (fun ((x0,_):Int×Unit)=>([(13,qD2 x0)],[],[],[])) (0:Int) () ?_
 intro k0
 rintro ⟨x0,_⟩
 refine aw [39,1,4,24,4,0,2,1,11] ?_ ?_
 refine au [85,48,82,36,6] ?_
 intro x2 e0 b0 o0 h0
 replace h0:l1=some ⟨b0,o0,none⟩:=h0
 refine qgu (j:=2) (qA .u8) (by decide) rfl ?_
 intro x3 e1 b1 o1 h1
 replace h1:l2=some ⟨b1,o1,none⟩:=h1
 refine qE [] [] [0,1,2,3] 9 ?_
 refine au [70] ?_
 refine vW 2 h0 e0 ?_
 refine qz 3 (.int .u8 x2) [] rfl rfl rfl (qV (j:=1) rfl tf5 rfl rfl (fun _=>rfl) rfl) ?_
 refine au [6,4,6,5] ?_
 refine vW 6 h1 e1 ?_
 refine qz 7 (.int .u8 x3) [] rfl rfl rfl (qV (j:=0) rfl tf5 rfl rfl (fun _=>rfl) rfl) ?_
 refine aw [6,8,15,16,2,11] ?_ ?_
 exact az [45,49,111,110]
 refine au [12,98] ?_
 exact qj (iadd .i64 x0 1,())
 exact az [122]
 rintro ⟨_,_⟩
 exact az [39,45,71]
theorem qoR {r:(List (qD0)×Int)}(hm:qfy F i1 i2 i3 i4 i5 m1=some r) :
    Pure qD9 167 [.agg #[qD2 i1,qD2 i2,qD2 i3,qD2 i4,qD2 i5,qD3 l1 m1 t1]] [qD7 l1 m1 t1] (qD1×Nat×List (qD1×Nat)) (fun g=>.tuple #[.agg #[qD3 g.1 r.1 g.2.1],qD2 r.2]) (fun g=>[RoN eN56 rN56 56 1 (qD3 g.1 r.1 g.2.1) r.1 g.2.2 []]) (fun _=>[]):=by
 refine pureA func167 ntmps167 hm fun _=>?_
 refine au [87] ?_
 intro g9
 refine au [24,2] ?_
 intro g10
 refine au [82,107] ?_
 refine qd qnl ?_
 intro x13 e13 _
 refine aw [5,0,2,1,4,3,25,4,0,2,11] ?_ ?_
 refine au [45] ?_
 refine qF [.slice none 0 0] ?_
 exact az [3,17,59,27,2,30,5]
 refine au [57,107] ?_
 refine qd qnn ?_
 rintro x14 e14 ⟨a15,c16⟩
 refine aw [3,22,22,5,5,0,2,1,1,4,3,25,7,0,2,11] ?_ ?_
 refine au [45] ?_
 refine qF [.slice none 0 0] ?_
 exact az [17,59,27,2,30,5]
 refine au [57,48] ?_
 refine qF [qD3 a15 x14.1 c16.1] ?_
 refine au [24,2] ?_
 intro g18
 refine au [17,46,1,74,10,26,9,31,5] ?_
 rintro x28 e28 ⟨a29,c30⟩
 refine au [3,81,24,2] ?_
 intro g31
 refine au [17,60,25,4,3] ?_
 refine kH 9 [2,7] [1,2] [1] [] (fun ((x34,_):Bool×Unit)=>([(44,.bool x34)],[],[],[],qcZ F x14 x34)) ?_ ?_
 refine qC (os:=_) rfl ?_
 refine av [26,5] ?_ ?_
 intro h32
 refine ko (k:=35) rfl h32 ?_
 refine au [68,68,113] ?_
 exact qa (true,())
 intro h32
 refine km (k:=35) rfl h32 ?_
 refine au [10,67,10,10,29,3,31,7] ?_
 intro x36 e36 _
 refine au [25,7,112] ?_
 exact qa ((!x36),())
 rintro ⟨x34,_⟩
 try dsimp only
 refine qC (os:=_) rfl ?_
 refine aw [0,2,11] ?_ ?_
 refine au [45] ?_
 refine qF [.slice none 0 0] ?_
 exact az [25,5,59,27,2,33,14]
 refine au [57,74,25,5,49] ?_
 exact zW (a15,c16) 1
theorem qns (hm:qeI F i1 i2 i3 i4 m1 i5 m2 i6 i7 i8 i9 m3 i10 m4=some d1) :
    qEa 168 [.agg #[qD2 i1,qD2 i2,qD2 i3,qD2 i4,qD3 l1 m1 t1,qD2 i5,qD3 l2 m2 t2],.agg #[qD2 i6,qD2 i7,qD2 i8,qD2 i9,qD3 l3 m3 t3,qD2 i10,qD3 l4 m4 t4]] [qD7 l1 m1 t1,qD7 l2 m2 t2,qD7 l3 m3 t3,qD7 l4 m4 t4] (.bool d1):=by
 refine pureA func168 ntmps168 hm fun _=>?_
 refine au [79] ?_
 intro g23
 refine au [24,0] ?_
 intro g24
 refine au [83,94,67,25,6,3] ?_
 refine kP 6 10 16 [2,3] ((i2:Int) == i7) ?_ ?_ ?_
 exact az [94,67,25,6,62]
 exact az [68,7,61]
 refine au [3] ?_
 refine kP 6 17 23 [2,3] ((i3:Int) == i8) ?_ ?_ ?_
 exact az [94,67,25,6,62]
 exact az [68,7,61]
 refine au [3] ?_
 refine kP 8 24 32 [2,3] ((i4:Int) == i9) ?_ ?_ ?_
 exact az [10,94,10,67,25,6,62]
 exact az [68,63,7,61]
 refine au [3] ?_
 refine kP 8 33 41 [2,3] ((i5:Int) == i10) ?_ ?_ ?_
 exact az [10,94,10,67,25,6,62]
 exact az [68,63,7,61]
 refine au [3] ?_
 refine kH 8 [2,3] [0,1] [] [2,3,0,1] (fun ((x31,_):Bool×Unit)=>([(50,.bool x31)],[],[],[],qcl F m2 m4 x31)) ?_ ?_
 refine qC (os:=_) rfl ?_
 refine av [26,5] ?_ ?_
 intro h29
 refine ko (k:=42) rfl h29 ?_
 refine au [10,94,10,67,31,7] ?_
 intro x36 e36 _
 refine au [113] ?_
 exact qa (x36,())
 intro h29
 refine km (k:=42) rfl h29 ?_
 refine au [68,63,7,112] ?_
 exact qa (false,())
 rintro ⟨x31,_⟩
 try dsimp only
 refine qC (os:=_) rfl ?_
 refine au [3] ?_
 refine qgv 8 (fun ((x34,_):Bool×Unit)=>([(59,.bool x34)],[],[],[],qcm F x34)) ?_ ?_
 refine qC (os:=_) rfl ?_
 refine av [26,5] ?_ ?_
 intro h32
 refine ko (k:=51) rfl h32 ?_
 refine au [10,94,10,67,31,7] ?_
 intro x35 e35 _
 refine au [113] ?_
 exact qa (x35,())
 intro h32
 refine km (k:=51) rfl h32 ?_
 refine au [68,63,7,112] ?_
 exact qa (false,())
 rintro ⟨x34,_⟩
 try dsimp only
 refine qC (os:=_) rfl ?_
 exact az [71]
theorem qkn {r:(Int×Int×Int×Int×Int×qD0×Int×Int×Int×Int×qD0×Int×qD0×Int)}(hm:qey F p1 i1 i2 i3 i4 i5 m1=some r) :
    Pure qD9 122 [.agg #[qD3 l1 p1 t1],.agg #[qD2 i1,qD2 i2,qD2 i3,qD2 i4,qD2 i5,qD3 l2 m1 t2]] [SlN eN56 iN56 1 (qD3 l1 p1 t1) p1 n1,qD7 l2 m1 t2] ((qD1×Nat)×(qD1×Nat)×qD1×Nat) (fun g=>.tuple #[.agg #[qD2 r.1,qD2 r.2.1,qD2 r.2.2.1,qD2 r.2.2.2.1,qD2 r.2.2.2.2.1,qD3 g.1.1 r.2.2.2.2.2.1 g.1.2,qD2 r.2.2.2.2.2.2.1,qD2 r.2.2.2.2.2.2.2.1,qD2 r.2.2.2.2.2.2.2.2.1,qD2 r.2.2.2.2.2.2.2.2.2.1,qD3 g.2.1.1 r.2.2.2.2.2.2.2.2.2.2.1 g.2.1.2,qD2 r.2.2.2.2.2.2.2.2.2.2.2.1,qD3 g.2.2.1 r.2.2.2.2.2.2.2.2.2.2.2.2.1 g.2.2.2],qD2 r.2.2.2.2.2.2.2.2.2.2.2.2.2]) (fun g=>[qD8 g.2.1.1 r.2.2.2.2.2.2.2.2.2.2.1 g.2.1.2,qD8 g.2.2.1 r.2.2.2.2.2.2.2.2.2.2.2.2.1 g.2.2.2]) (fun _=>[]):=by
 refine pureA func122 ntmps122 hm fun _=>?_
 refine au [79] ?_
 intro g12
 refine au [24,0] ?_
 intro g13
 refine au [24,2] ?_
 intro g14
 refine au [83,26,9,10,25,11,36,3] ?_
 rintro x15 e15 ⟨⟨a16,c17⟩,a18,c19⟩
 refine aw [3,22,22,22,5,5,5,0,2,1,1,4,3,25,4,0,2,11] ?_ ?_
 refine au [45] ?_
 refine qF [qD2 0,qD2 0,qD2 0,qD2 0,qD2 0,.slice none 0 0,qD2 0,qD2 0,qD2 0,qD2 0,.slice none 0 0,qD2 0,.slice none 0 0] ?_
 refine au [3,17,59,120] ?_
 exact zW ((none,0),(none,0),none,0) 0
 refine au [57,48,10,94,36,4] ?_
 rintro x21 e21 ⟨⟨a22,c23⟩,a24,c25⟩
 refine au [3,81,24,2] ?_
 intro g26
 refine aw [17,5,0,2,1,1,4,3,25,4,0,2,11] ?_ ?_
 refine au [45] ?_
 refine qF [qD2 0,qD2 0,qD2 0,qD2 0,qD2 0,.slice none 0 0,qD2 0,qD2 0,qD2 0,qD2 0,.slice none 0 0,qD2 0,.slice none 0 0] ?_
 exact az [3,25,5,59,120,36,5]
 refine au [125,26,9,24,12] ?_
 refine qF [qD2 i1,qD2 i2,qD2 i3,qD2 i4,qD2 i5,qD3 l2 m1 t2,qD2 x21.1,qD2 x21.2.1,qD2 x21.2.2.1,qD2 x21.2.2.2.1,qD3 a22 x21.2.2.2.2.1 c23,qD2 x21.2.2.2.2.2.1,qD3 a24 x21.2.2.2.2.2.2.1 c25] ?_
 refine au [25,5,49] ?_
 exact zW ((l2,t2),(a22,c23),a24,c25) 1
theorem qmc (hm:qdU F i1 i2 i3 i4 i5 m1 i6 i7 i8 i9 m2 i10 m3=some i11) :
    qEa 123 [.agg #[qD2 i1,qD2 i2,qD2 i3,qD2 i4,qD2 i5,qD3 l1 m1 t1,qD2 i6,qD2 i7,qD2 i8,qD2 i9,qD3 l2 m2 t2,qD2 i10,qD3 l3 m3 t3]] [qD7 l1 m1 t1,qD7 l2 m2 t2,qD7 l3 m3 t3] (qD2 i11):=by
 refine pureA func123 ntmps123 hm fun _=>?_
 refine au [87] ?_
 intro g20
 refine au [83,103] ?_
 refine qd qoR ?_
 rintro x21 e21 ⟨a22,c23⟩
 refine au [3,81,24,2] ?_
 intro g24
 refine aw [17,5,0,2,1,1,4,3,25,4,0,2,11] ?_ ?_
 exact az [48,78]
 refine au [84,74,10,25,11] ?_
 refine qd qkn ?_
 rintro x39 e39 ⟨⟨a40,c41⟩,⟨a42,c43⟩,a44,c45⟩
 refine au [3,81,24,2] ?_
 intro g46
 refine au [17,60,25,4,3] ?_
 refine qgv 7 (fun ((x49,_):Bool×Unit)=>([(32,.bool x49)],[],[],[],j1 F x49)) ?_ ?_
 refine qC (os:=_) rfl ?_
 refine av [26,5] ?_ ?_
 intro h47
 refine ko (k:=25) rfl h47 ?_
 refine au [68,63,113] ?_
 exact qa (true,())
 intro h47
 refine km (k:=25) rfl h47 ?_
 refine au [103,10,26,9] ?_
 refine qd qns ?_
 intro x51 e51 _
 refine au [25,7,112] ?_
 exact qa ((!x51),())
 rintro ⟨x49,_⟩
 try dsimp only
 refine qC (os:=_) rfl ?_
 refine aw [0,2,11] ?_ ?_
 exact az [45,78]
 exact az [125,71]
theorem ql7 {r:Unit}(hm:qdR F i1 m1 i2=some r) :
    PureM qD9 264 [.agg #[qD2 i1,qD3 l1 m1 t1],.int .u64 i2] [] [] [qD7 l1 m1 t1] (Nat×Nat) (fun g=>.func (.func 288) #[] #[qD4 g.1,qD4 g.2]) (fun g=>[⟨g.1,65,[qD2 i1,qD3 l1 m1 t1]⟩,⟨g.2,119,[.int .u64 i2]⟩]) (fun _=>[]):=by
 refine pureMA func264 ntmps264 hm fun _=>?_
 refine au [79] ?_
 intro g6
 refine au [24,0] ?_
 intro g7
 refine au [83,27,9,49] ?_
 exact qH (g6,g7)
theorem qkm (F:Nat){σ τ:Type}{J:Rounds σ τ}{yy:σ→Int→Option (σ ⊕ τ)}{L:Nat}(hY:YieldC qD9 L (fun (p:Int)=>[qD2 p]) J yy)(s0:σ)(gs0:J.γ)(g1:Nat)(x2:Int)(x3:qD0)(a4:qD1)(c5 g6:Nat)(x7:Int)(r:σ ⊕ τ)(hm:qck F yy x2 x3 x7 s0=some r) :
    PureM qD9 288 ([.func (.yield L) #[] #[],qD4 g1,qD4 g6]) ([⟨g1,65,[qD2 x2,qD3 a4 x3 c5]⟩,⟨g6,119,[.int .u64 x7]⟩]++J.IB s0 gs0) (J.IR s0 gs0) [J.F,qD7 a4 x3 c5] (J.G r) (fun _=>.tuple #[]) (fun g=>[⟨g1,65,[qD2 x2,qD3 a4 x3 c5]⟩,⟨g6,119,[.int .u64 x7]⟩]++J.bs r g) (fun g=>J.rs r g):=by
 refine pureMA func288 ntmps288 hm fun _=>?_
 refine au [26,8,45,67,3,75] ?_
 refine vy (fun (((x36,x37),g38):(Int×σ)×J.γ)=>[(0,.func (.yield L) #[] #[]),(1,qD4 g1),(2,qD4 g6),(6,qD2 x2),(7,qD2 x36)]) (fun (((x36,x37),g38):(Int×σ)×J.γ)=>[⟨g1,65,[qD2 x2,qD3 a4 x3 c5]⟩,⟨g6,119,[.int .u64 x7]⟩]++J.IB x37 g38) (fun (((x36,x37),g38):(Int×σ)×J.γ)=>[]++J.IR x37 g38) (fun (((x36,x37),g38):(Int×σ)×J.γ)=>[qD7 a4 x3 c5,J.F]) (fun k (s:(Int×σ)×J.γ)=>zj F yy x2 x3 x7 k s.1) ((0,s0),gs0) F ?_ (hB:=(.cons 0 rfl (.cons 0 rfl (qe 0 rfl)))) (hR:=(qe 0 rfl)) (hF:=(qi 1 rfl (qi 0 rfl zB)))
 intro k67
 rintro ⟨⟨x36,x37⟩,g38⟩
 try dsimp only
 refine qaJ (m':=yM F yy x2 x3 x7 (zj F yy x2 x3 x7 k67) x36 x37) rfl ?_
 refine aw [1,4,24,4,0,2,1,11] ?_ ?_
 refine au [57] ?_
 refine qdj (fun ((x81,g82):σ×J.γ)=>[(0,.func (.yield L) #[] #[]),(1,qD4 g1),(2,qD4 g6),(6,qD2 x2),(7,qD2 x36)]) (fun ((x81,g82):σ×J.γ)=>[⟨g1,65,[qD2 x2,qD3 a4 x3 c5]⟩,⟨g6,119,[.int .u64 x7]⟩]++J.IB x81 g82) (fun ((x81,g82):σ×J.γ)=>[]++J.IR x81 g82) (fun ((x81,g82):σ×J.γ)=>[qD7 a4 x3 c5,J.F]) (fun ((x81,_):σ×J.γ)=>kX F yy (zj F yy x2 x3 x7 k67) x36 x81) ?_ ?_
 refine au [14,48,82] ?_
 refine qE [] [0,0] [0,1] 11 ?_
 refine qr 0 (.agg #[qD2 x2,.slice a4 x3.length c5]) rfl rfl rfl (qq (i:=0) rfl tf65 rfl rfl (by simp) rfl) ?_
 refine au [6,1,26,10,3,9,2,29,12] ?_
 intro x89 e89 _
 refine av [0,33,1,6,4,6,5,30,0] ?_ ?_
 intro h90
 refine yA 15 h90 ?_
 refine au [58,9,8] ?_
 refine qeT hY x37 x36 g38 (B1:=[⟨g1,65,[qD2 x2,qD3 a4 x3 c5]⟩,⟨g6,119,[.int .u64 x7]⟩]) (R1:=[]) (j:=1) rfl rfl rfl rfl rfl rfl rfl (fun x91 _ g93=>?_) (fun x92 _ g93=>?_)
 refine au [0,33,1,123,54,2] ?_
 refine k8 (b:=false) rfl (fun h=>by cases h) (fun _=>?_)
 refine au [12,24,3] ?_
 exact ya (x91,g93) (hB:=(.cons 0 rfl (.cons 0 rfl (qe 0 rfl)))) (hR:=(qe 0 rfl)) (hF:=(qi 0 rfl (qi 1 rfl zB)))
 refine au [0,33,1,123,54,2] ?_
 refine k8 (b:=true) rfl (fun _=>?_) (fun h=>by cases h)
 refine au [8,111,24,6] ?_
 exact v8 (B0:=[⟨g1,65,[qD2 x2,qD3 a4 x3 c5]⟩,⟨g6,119,[.int .u64 x7]⟩]) (x:=.inr x92) g93 (.inl rfl) (res0 rfl) (.cons 0 rfl (.cons 0 rfl (qe 0 rfl))) (qe 0 rfl)
 intro h90
 refine yA 15 h90 ?_
 refine au [19,6,19,7,19,8,19,9,6,10,54,2] ?_
 refine k8 (b:=false) rfl (fun h=>by cases h) (fun _=>?_)
 refine au [12,24,3] ?_
 exact ya (x37,g38) (hB:=(.cons 0 rfl (.cons 0 rfl (qe 0 rfl)))) (hR:=(qe 0 rfl)) (hF:=(qi 0 rfl (qi 1 rfl zB)))
 rintro ⟨x81,g82⟩
 refine au [39,97] ?_
 exact vn ((iadd .i64 x36 1,x81),g82) (hB:=(.cons 0 rfl (.cons 0 rfl (qe 0 rfl)))) (hR:=(qe 0 rfl)) (hF:=(qi 0 rfl (qi 1 rfl zB)))
 refine au [72] ?_
 exact v8 (B0:=[⟨g1,65,[qD2 x2,qD3 a4 x3 c5]⟩,⟨g6,119,[.int .u64 x7]⟩]) (x:=.inl x37) g38 (.inr rfl) (res0 rfl) (.cons 0 rfl (.cons 0 rfl (qe 0 rfl))) (qe 0 rfl)
theorem qnp (hm:qax F i1 m1 i2 i3=some i4) :
    PureM qD9 239 [.agg #[qD2 i1,qD3 l1 m1 t1],.int .u64 i2,qD2 i3] [] [] [qD7 l1 m1 t1] Unit (fun _=>qD2 i4) (fun _=>[]) (fun _=>[]):=by
 refine qdg func239 rfl ntmps239 rfl hm (fun w=>?_)
 refine au [126] ?_
 intro g7
 refine au [24,0] ?_
 intro g8
 refine au [24,2] ?_
 intro g9
 refine au [46,1,45,26,9,3] ?_
 refine qs ql7 ?_
 rintro x25 e25 ⟨g26,g27⟩
 refine au [75] ?_
 refine qbU (encs:=(fun (p:Int)=>[qD2 p])) (y:=(fun (x31:Int) (x37:Int)=>q6 F x31 x37)) (lb:=[qD4 g26,qD4 g27]) (fun (x31:Int) (_:Unit)=>[⟨g9,3,[qD2 0]⟩,⟨g8,3,[qD2 x31]⟩,⟨g7,65,[qD2 i1,qD3 l1 m1 t1]⟩]) (fun (x31:Int) (_:Unit)=>[]) (fun ((x35,x36):(Int×Int)) (_:Unit)=>[⟨g9,3,[qD2 x35]⟩,⟨g8,3,[qD2 x36]⟩,⟨g7,65,[qD2 i1,qD3 l1 m1 t1]⟩]) (fun ((x35,x36):(Int×Int)) (_:Unit)=>[]) (fun _=>.ret) i3 () rfl EnC.e (fun _=>rfl) rfl (.cons 0 rfl (.cons 0 rfl .nil)) (.cons 0 rfl (.cons 0 rfl (.cons 0 rfl .nil))) .nil (.consF 0 rfl .nil) (fun z hz _ _ _ hY=>qkm F hY i3 () g26 i1 m1 l1 t1 g27 i2 z hz) ?_ ?_ ?_
 rintro rc1 L1 D1 x31 _ x37 z w M _
 try dsimp only
 refine qdk [(0,.agg #[qD2 i1,qD3 l1 m1 t1]),(1,.int .u64 i2),(2,qD2 i3),(3,qD4 g7),(5,qD4 g8),(6,qD4 g9),(8,.agg #[qD2 i1,qD3 l1 m1 t1]),(9,.int .u64 i2),(10,.func (.func 288) #[] #[qD4 g26,qD4 g27]),(11,qD2 x37)] (qk rfl (qk rfl (qk rfl (qk rfl (qk rfl (qk rfl (qk rfl (qk rfl (qk rfl (qk rfl qdB)))))))))) ?_
 refine aw [4,5,0,30,13,14,1,1,4,25,12,25,6,0,2,11] ?_ ?_
 refine au [48,17,46,8,13,24,6] ?_
 exact vk (rc:=rc1) rfl (.cons 3 rfl .nil) rfl () (.cons 1 rfl (.cons 1 rfl (.cons 1 rfl (.cons 0 rfl (.cons 0 rfl .nil))))) .nil
 refine au [57,4,25,12,25,9,25,5,121] ?_
 exact vk (rc:=rc1) rfl (.cons 3 rfl .nil) rfl () (.cons 1 rfl (.cons 1 rfl (.cons 1 rfl (.cons 0 rfl (.cons 0 rfl .nil))))) .nil
 rintro x31 _ _ D1
 refine au [39,65,45,30,9,46,8] ?_
 exact ja [D1] () (.inl rfl) rfl (.cons 0 rfl .nil) (resL (rs:=[.cell 6 3]) rfl (.cell (i:=2) rfl tf3 rfl rfl (fun _=>rfl) rfl ResOk.nil) rfl) (fun h=>by subst h;rfl) (fun h=>by subst h;exact .nil) (fun h=>by subst h;exact .nil)
 rintro ⟨x35,x36⟩ _ _ D1
 refine au [39,8,52] ?_
 exact ja [D1] () (.inl rfl) rfl (.cons 0 rfl .nil) (resL (rs:=[.cell 6 3]) rfl (.cell (i:=2) rfl tf3 rfl rfl (fun _=>rfl) rfl ResOk.nil) rfl) (fun h=>by subst h;rfl) (fun h=>by subst h;exact .nil) (fun h=>by subst h;exact .nil)
theorem qth (hm:qbN F i1 i2 i3 i4 m1 i5 m2 i6=some i7) :
    qEa 199 [.agg #[qD2 i1,qD2 i2,qD2 i3,qD2 i4,qD3 l1 m1 t1,qD2 i5,qD3 l2 m2 t2],qD2 i6] [qD7 l1 m1 t1,qD7 l2 m2 t2] (qD2 i7):=by
 refine pureA func199 ntmps199 hm fun _=>?_
 refine au [79] ?_
 intro g13
 refine au [83,103,3,37,9] ?_
 intro x14 e14 _
 refine au [3,25,9,83,103,3,67,27,15,67,31,6] ?_
 intro x15 e15 _
 refine au [3,81,5,60,67,26,12] ?_
 intro h16
 refine qhL rfl rfl rfl rfl h16 ?_
 refine au [3,25,10,36,8,5,27,0] ?_
 intro x17 e17
 refine jQ 4 e17 ?_
 exact az [46,8,24,5]
theorem qoN (hm:qd6 F i1 m1 i2 m2=some d1) :
    qEa 263 [.agg #[qD2 i1,qD3 l1 m1 t1],.agg #[qD2 i2,qD3 l2 m2 t2]] [qD7 l1 m1 t1,qD7 l2 m2 t2] (.bool d1):=by
 refine pureA func263 ntmps263 hm fun _=>?_
 refine au [79] ?_
 intro g9
 refine au [24,0] ?_
 intro g10
 refine au [83,94,67,25,6,3] ?_
 refine qgv 6 (fun ((x13,_):Bool×Unit)=>([(16,.bool x13)],[],[],[],qcR F x13)) ?_ ?_
 refine qC (os:=_) rfl ?_
 refine av [26,5] ?_ ?_
 intro h11
 refine ko (k:=10) rfl h11 ?_
 refine au [94,67,31,7] ?_
 intro x14 e14 _
 refine au [113] ?_
 exact qa (x14,())
 intro h11
 refine km (k:=10) rfl h11 ?_
 refine au [68,7,112] ?_
 exact qa (false,())
 rintro ⟨x13,_⟩
 try dsimp only
 refine qC (os:=_) rfl ?_
 exact az [71]
theorem qkH {r:(qD0×Int)}(hm:jX F i1 i2 i3 i4 m1 i5 m2=some r) :
    Pure qD9 238 [.agg #[qD2 i1,qD2 i2,qD2 i3,qD2 i4,qD3 l1 m1 t1,qD2 i5,qD3 l2 m2 t2]] [qD7 l1 m1 t1,qD7 l2 m2 t2] (qD1×Nat) (fun g=>.tuple #[qD3 g.1 r.1 g.2,qD2 r.2]) (fun g=>[qD6 g.1 r.1 g.2]) (fun _=>[]):=by
 refine pureA func238 ntmps238 hm fun _=>?_
 refine au [87] ?_
 intro g12
 refine au [5,82,45,67,127] ?_
 refine zp 4 11 15 [1] (decide (300<i1)) ?_ ?_ ?_
 exact az [63,7,62]
 exact az [67,105]
 refine au [3] ?_
 refine zp 4 16 20 [1] (decide (i2<0)) ?_ ?_ ?_
 exact az [63,7,62]
 exact az [67,24,4,61]
 refine au [3] ?_
 refine zp 4 21 25 [1] (decide (1048576<i2)) ?_ ?_ ?_
 exact az [63,7,62]
 exact az [67,105]
 refine aw [0,2,11] ?_ ?_
 refine au [45,5,104] ?_
 exact qx (none,0)
 refine au [84] ?_
 refine qg [1] [0] [] [0,1] (fun ((x49,_):Bool×Unit)=>([(70,.bool x49)],[],[],[],zP F i1 i2 i3 i4 m1 i5 m2 x49)) ?_ ?_
 refine qE [] [0] [0,1] 45 ?_
 refine au [114,18,2,24,15,3,18,4,24,15,5,9,6,35,14] ?_
 intro x0 e0 _
 refine av [0,29,6,6,7,6,8,30,0] ?_ ?_
 intro h0
 refine yA 34 h0 ?_
 refine au [19,9,19,10,19,11,19,12,124,19,15,19,16,19,17,19,18,6,19,6,20,19,21,19,22,19,23,19,24,19,25,19,26,19,27,19,28,19,29,6,30,6,31,19,32,19,33,19,34,19,35,19,36,19,37,19,38,19,39,19,40,19,41,19,42,19,43,6,44,54] ?_
 exact qa (true,())
 intro h0
 refine yA 34 h0 ?_
 refine au [18,9] ?_
 refine qr 10 (.agg #[qD2 i4,.slice l1 m1.length t1]) rfl rfl rfl (qq (i:=0) rfl tf65 rfl rfl (by simp) rfl) ?_
 refine au [9,11,32,10] ?_
 intro x6 e1 _
 refine av [0,29,6,6,12,124,30,0] ?_ ?_
 intro h1
 refine yA 40 h1 ?_
 refine au [19,15,19,16,19,17,19,18,6,19,6,20,19,21,19,22,19,23,19,24,19,25,19,26,19,27,19,28,19,29,6,30,6,31,19,32,19,33,19,34,19,35,19,36,19,37,19,38,19,39,19,40,19,41,19,42,19,43,6,44,54] ?_
 exact qa (true,())
 intro h1
 refine yA 40 h1 ?_
 refine au [18,15] ?_
 refine qr 16 (.agg #[qD2 i5,.slice l2 m2.length t2]) rfl rfl rfl (qq (i:=0) rfl tf65 rfl rfl (by simp) rfl) ?_
 refine au [9,17,32,10] ?_
 intro x7 e2 _
 refine av [0,29,6,6,18,6,19,6,20,30,0] ?_ ?_
 intro h2
 refine yA 46 h2 ?_
 refine au [19,21,19,22,19,23,19,24,19,25,19,26,19,27,19,28,19,29,6,30,6,31,19,32,19,33,19,34,19,35,19,36,19,37,19,38,19,39,19,40,19,41,19,42,19,43,6,44,54] ?_
 exact qa (true,())
 intro h2
 refine yA 46 h2 ?_
 refine av [18,21,18,22,24,15,23,18,24,24,15,25,18,26,24,15,27,6,28,6,29,6,30,6,31,30,0] ?_ ?_
 intro h3
 refine yA 57 h3 ?_
 refine au [19,32,19,33,19,34,19,35,19,36,19,37,19,38,19,39,19,40,19,41,19,42,19,43,6,44,54] ?_
 exact qa (true,())
 intro h3
 refine yA 57 h3 ?_
 refine au [18,32] ?_
 refine qr 33 (.agg #[qD2 i5,.slice l2 m2.length t2]) rfl rfl rfl (qq (i:=0) rfl tf65 rfl rfl (by simp) rfl) ?_
 refine au [18,34,24,15,35,6,36,9,37,37,9] ?_
 intro x10 e3 _
 refine av [0,29,6,6,38,6,39,30,0] ?_ ?_
 intro h4
 refine yA 65 h4 ?_
 refine au [18,40,24,15,41,6,42,6,43,6,44,54] ?_
 exact qa ((decide (0<i1)),())
 intro h4
 refine yA 65 h4 ?_
 refine au [19,40,19,41,19,42,6,43,6,44,54] ?_
 exact qa (false,())
 rintro ⟨x49,_⟩
 refine aw [39,11] ?_ ?_
 refine au [45,5,104] ?_
 exact qx (none,0)
 refine au [125,47] ?_
 refine qg [1] [0] [] [0,1] (fun ((x99,a97,c98):qD0×qD1×Nat)=>([(4,qD3 a97 x99 c98)],[],[qD6 a97 x99 c98],[],vb F i2 i4 m1 i5 m2 x99)) ?_ ?_
 refine au [45,67,3,75,28,0] ?_
 refine qm [1,72] [0] [] [0,1] (fun (((x11,x12),a0,c0):(qD0×Int)×qD1×Nat)=>([(4,qD3 a0 x11 c0),(73,qD2 x12)],[],[qD6 a0 x11 c0],[])) (([]:qD0),(0:Int)) (none,0) ?_
 intro k0
 rintro ⟨⟨x11,x12⟩,a0,c0⟩
 refine aw [39,1,4,24,4,0,2,1,11] ?_ ?_
 refine au [85,48,47,4,3,24,12,3,37,10] ?_
 intro x13 e4 _
 refine zw [x13] (fun a1 c1=>?_)
 refine zo 1 (qA .i64) rfl underlying56 tf3 rfl rfl rfl rfl rfl (.inl ⟨0,_,rfl⟩) rfl rfl (fun x14 e5 a2 c2=>?_)
 refine au [5,0,98] ?_
 exact qj ((x14,iadd .i64 x12 1),a2,c2)
 refine au [72] ?_
 exact qa (x11,a0,c0)
 rintro ⟨x99,a97,c98⟩
 refine au [39,1,48,67,36,1] ?_
 intro x15 e6 _
 refine aw [25,4,0,2,11] ?_ ?_
 refine au [45,5,104] ?_
 exact qx (none,0)
 refine au [84,48,67,36,2] ?_
 rintro x16 e7 ⟨⟨a3,c3⟩,a4,c4⟩
 refine au [3,81,24,2] ?_
 intro g0
 refine au [17,60,25,7,3] ?_
 refine kH 7 [1,4,6] [0,1] [2,0,1] [0,1] (fun ((x17,_):Bool×Unit)=>([(104,.bool x17)],[],[],[],qbd F i5 m2 x99 x16 x17)) ?_ ?_
 refine qC (os:=_) rfl ?_
 refine av [26,5] ?_ ?_
 intro h5
 refine ko (k:=97) rfl h5 ?_
 refine au [68,63,113] ?_
 exact qa (true,())
 intro h5
 refine km (k:=97) rfl h5 ?_
 refine au [103,10,25,11,37,11] ?_
 intro x18 e8 _
 refine au [25,7,112] ?_
 exact qa ((!x18),())
 rintro ⟨x17,_⟩
 try dsimp only
 refine qC (os:=_) rfl ?_
 refine au [3] ?_
 refine kH 7 [4] [] [0] [] (fun ((x19,_):Bool×Unit)=>([(112,.bool x19)],[],[],[],qcP F x99 x19)) ?_ ?_
 refine qC (os:=_) rfl ?_
 refine av [26,5] ?_ ?_
 intro h6
 refine ko (k:=105) rfl h6 ?_
 refine au [68,63,113] ?_
 exact qa (true,())
 intro h6
 refine km (k:=105) rfl h6 ?_
 refine au [103,10,25,11,37,11] ?_
 intro x20 e9 _
 refine au [25,7,112] ?_
 exact qa ((!x20),())
 rintro ⟨x19,_⟩
 try dsimp only
 refine qC (os:=_) rfl ?_
 refine aw [0,2,11] ?_ ?_
 refine au [45,5,104] ?_
 exact qx (none,0)
 refine au [57,48,5,49] ?_
 exact qx (a97,c98)
theorem qne (hm:qeE F i1 i2 i3 i4 m1 i5 m2=some i6) :
    qEa 198 [.agg #[qD2 i1,qD2 i2,qD2 i3,qD2 i4,qD3 l1 m1 t1,qD2 i5,qD3 l2 m2 t2]] [qD7 l1 m1 t1,qD7 l2 m2 t2] (qD2 i6):=by
 refine pureA func198 ntmps198 hm fun _=>?_
 refine au [87] ?_
 intro g12
 refine au [47,74] ?_
 refine qd qkH ?_
 rintro x13 e13 ⟨a14,c15⟩
 exact az [3,81,5,60,71]
theorem qql {r:(Int×Int)}(hm:qe4 F i1 i2 i3 i4 m1 i5 m2 i6=some r) :
    qEa 169 [.agg #[qD2 i1,qD2 i2,qD2 i3,qD2 i4,qD3 l1 m1 t1,qD2 i5,qD3 l2 m2 t2],qD2 i6] [qD7 l1 m1 t1,qD7 l2 m2 t2] (.tuple #[qD2 r.1,qD2 r.2]):=by
 refine pureA func169 ntmps169 hm fun _=>?_
 refine au [79] ?_
 intro g13
 refine au [5,47,74] ?_
 refine qd qne ?_
 intro x14 e14 _
 refine au [47] ?_
 refine qg [1,2] [0] [] [0,1] (fun ((x20,_):Int×Unit)=>([(6,qD2 x20)],[],[],[],qdL F i1 i2 i3 i4 m1 i5 m2 i6 x20)) ?_ ?_
 refine au [48,25,6,3] ?_
 refine kH 9 [1,2,6] [0] [] [0,1] (fun ((x26,_):Bool×Unit)=>([(20,.bool x26)],[],[],[],qdM F i1 i2 i3 i4 m1 i5 m2 i6 x14 x26)) ?_ ?_
 refine qC (os:=_) rfl ?_
 refine av [26,5] ?_ ?_
 intro h24
 refine ko (k:=11) rfl h24 ?_
 refine au [3,127] ?_
 refine zp 5 14 19 [1,2,6,11] (decide (i1≤i6)) ?_ ?_ ?_
 exact az [68,62]
 exact az [3,67,26,6,61]
 refine au [113] ?_
 exact qa ((decide (i6<0) || decide (i1≤i6)),())
 intro h24
 refine km (k:=11) rfl h24 ?_
 refine au [68,68,112] ?_
 exact qa (false,())
 rintro ⟨x26,_⟩
 try dsimp only
 refine qC (os:=_) rfl ?_
 refine aw [0,2,11] ?_ ?_
 refine au [4,5,0] ?_
 exact qa ((3:Int),())
 refine au [12] ?_
 exact qa (x14,())
 rintro ⟨x20,_⟩
 refine aw [39,1,1,4,3,25,4,0,2,11] ?_ ?_
 exact az [48,5,78]
 refine au [57,74,3,37,10] ?_
 intro x22 e22 _
 exact az [5,71]
end Go.Proofs.YthibchijlpflmaaGreatDoor
