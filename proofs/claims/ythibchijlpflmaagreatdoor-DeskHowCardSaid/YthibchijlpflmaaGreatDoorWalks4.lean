/- Each Go function of this seat computes what its model says, part 4. -/
import Derived.Test.YthibchijlpflmaaGreatDoorWalks3
open List renaming length_set→qBs
namespace Go.Proofs.YthibchijlpflmaaGreatDoor
open Go SX
open Go.Proofs.Tryz
open Go.Proofs.Tryz renaming prog→qD3
set_option maxHeartbeats 4000000
set_option linter.unusedSimpArgs false
variable {F t1 t2 t3 t4:Nat}{p1:List (qDU)}{l1 l2 l3 l4:qDV}{n1:List (qDV×Nat)}{i1 i2 i3 i4 i5 i6 i7 i8 i9 i10 i11:Int}{m1 m2 m3 m4:qDU}{d1:Bool}{w1:List (Int×Int)}
theorem qmj {r:(Int×Int×Int×Int×Int×qDU×Int×Int×Int×Int×qDU×Int×qDU×Int)}(hm:qa2 F p1 i1 i2 i3 i4 i5 m1=some r) :
    PureM qD3 122 [.agg #[qDX l1 p1 t1],.agg #[qDW i1,qDW i2,qDW i3,qDW i4,qDW i5,qDX l2 m1 t2]] [] [qD2 l2 m1 t2] [SlN eN56 iN56 1 (qDX l1 p1 t1) p1 n1] ((qDV×Nat)×(qDV×Nat)×qDV×Nat) (fun g=>.tuple #[.agg #[qDW r.1,qDW r.2.1,qDW r.2.2.1,qDW r.2.2.2.1,qDW r.2.2.2.2.1,qDX g.1.1 r.2.2.2.2.2.1 g.1.2,qDW r.2.2.2.2.2.2.1,qDW r.2.2.2.2.2.2.2.1,qDW r.2.2.2.2.2.2.2.2.1,qDW r.2.2.2.2.2.2.2.2.2.1,qDX g.2.1.1 r.2.2.2.2.2.2.2.2.2.2.1 g.2.1.2,qDW r.2.2.2.2.2.2.2.2.2.2.2.1,qDX g.2.2.1 r.2.2.2.2.2.2.2.2.2.2.2.2.1 g.2.2.2],qDW r.2.2.2.2.2.2.2.2.2.2.2.2.2]) (fun _=>[]) (fun g=>[qD2 g.1.1 r.2.2.2.2.2.1 g.1.2,qD2 g.2.1.1 r.2.2.2.2.2.2.2.2.2.2.1 g.2.1.2,qD2 g.2.2.1 r.2.2.2.2.2.2.2.2.2.2.2.2.1 g.2.2.2]):=by
 refine pureMA func122 ntmps122 hm fun _=>?_
 refine au [100] ?_
 intro g12
 refine au [24,4] ?_
 intro g13
 refine au [19] ?_
 intro g14
 refine au [97,26,11,12,26,0,36,2] ?_
 rintro x15 e15 ⟨⟨a16,c17⟩,a18,c19⟩
 refine aw [4,24,1,24,1,24,1,6,6,6,0,2,1,1,5,4,25,8,0,2,13] ?_ ?_
 refine au [48] ?_
 refine qH [qDW 0,qDW 0,qDW 0,qDW 0,qDW 0,.slice none 0 0,qDW 0,qDW 0,qDW 0,qDW 0,.slice none 0 0,qDW 0,.slice none 0 0] ?_
 refine au [4,17,75,138,26,5] ?_
 exact yD ((none,0),(none,0),none,0) (resL (rs:=[.cell 4 71,.tmp 5]) rfl (.cell (i:=0) rfl tf71 rfl rfl (by simp) rfl (.tmp rfl ResOk.nil)) rfl) (hR:=fun h=>by subst h;exact (.cons 0 rfl (.cons 0 rfl (.cons 0 rfl .nil))))
 refine au [69,54,12,123,36,3] ?_
 rintro x21 e21 ⟨⟨a22,c23⟩,a24,c25⟩
 refine au [4,64,19] ?_
 intro g26
 refine aw [17,6,0,2,1,1,5,4,25,8,0,2,13] ?_ ?_
 refine au [48] ?_
 refine qH [qDW 0,qDW 0,qDW 0,qDW 0,qDW 0,.slice none 0 0,qDW 0,qDW 0,qDW 0,qDW 0,.slice none 0 0,qDW 0,.slice none 0 0] ?_
 refine au [4,25,10,75,138,26,5] ?_
 exact yD ((none,0),(none,0),none,0) (resL (rs:=[.cell 4 71,.tmp 5]) rfl (.cell (i:=1) rfl tf71 rfl rfl (by simp) rfl (.tmp rfl ResOk.nil)) rfl) (hR:=fun h=>by subst h;exact (.cons 0 rfl (.cons 0 rfl (.cons 0 rfl .nil))))
 refine au [131,26,11,25,0] ?_
 refine qH [qDW i1,qDW i2,qDW i3,qDW i4,qDW i5,qDX l2 m1 t2,qDW x21.1,qDW x21.2.1,qDW x21.2.2.1,qDW x21.2.2.2.1,qDX a22 x21.2.2.2.2.1 c23,qDW x21.2.2.2.2.2.1,qDX a24 x21.2.2.2.2.2.2.1 c25] ?_
 refine au [25,10,52] ?_
 exact yD ((l2,t2),(a22,c23),a24,c25) (resL (rs:=[.cell 4 71,.tmp 5]) rfl (.cell (i:=1) rfl tf71 rfl rfl (by simp) rfl (.tmp rfl ResOk.nil)) rfl) (hR:=fun h=>by subst h;exact (.cons 4 rfl (.cons 0 rfl (.cons 0 rfl .nil))))
theorem qmh {r:(Int×Int×Int×Int×Int×qDU×Int×Int×Int×Int×qDU×Int×qDU×Int)}(hm:qd1 F p1 i1 i2 i3=some r) :
    Pure qD3 88 [.agg #[qDX l1 p1 t1],.agg #[qDW i1,qDW i2,qDW i3]] [SlN eN56 iN56 1 (qDX l1 p1 t1) p1 n1] ((qDV×Nat)×(qDV×Nat)×qDV×Nat) (fun g=>.tuple #[.agg #[qDW r.1,qDW r.2.1,qDW r.2.2.1,qDW r.2.2.2.1,qDW r.2.2.2.2.1,qDX g.1.1 r.2.2.2.2.2.1 g.1.2,qDW r.2.2.2.2.2.2.1,qDW r.2.2.2.2.2.2.2.1,qDW r.2.2.2.2.2.2.2.2.1,qDW r.2.2.2.2.2.2.2.2.2.1,qDX g.2.1.1 r.2.2.2.2.2.2.2.2.2.2.1 g.2.1.2,qDW r.2.2.2.2.2.2.2.2.2.2.2.1,qDX g.2.2.1 r.2.2.2.2.2.2.2.2.2.2.2.2.1 g.2.2.2],qDW r.2.2.2.2.2.2.2.2.2.2.2.2.2]) (fun g=>[qD2 g.1.1 r.2.2.2.2.2.1 g.1.2,qD2 g.2.1.1 r.2.2.2.2.2.2.2.2.2.2.1 g.2.1.2,qD2 g.2.2.1 r.2.2.2.2.2.2.2.2.2.2.2.2.1 g.2.2.2]) (fun _=>[]):=by
 refine pureA func88 ntmps88 hm fun _=>?_
 refine au [100] ?_
 intro g7
 refine au [24,4] ?_
 intro g8
 refine au [19] ?_
 intro g9
 refine au [97,26,11,26,0,31,3] ?_
 rintro x10 e10 ⟨a11,c12⟩
 refine au [4,64,19] ?_
 intro g13
 refine aw [17,6,0,2,1,1,5,4,25,8,0,2,13] ?_ ?_
 refine au [48] ?_
 refine qH [qDW 0,qDW 0,qDW 0,qDW 0,qDW 0,.slice none 0 0,qDW 0,qDW 0,qDW 0,qDW 0,.slice none 0 0,qDW 0,.slice none 0 0] ?_
 exact az [4,25,10,75,138,26,5,36,4]
 refine au [131,31,14,25,0] ?_
 refine qt qmj ?_
 rintro x15 e15 ⟨⟨a16,c17⟩,⟨a18,c19⟩,a20,c21⟩
 refine au [64,25,10,52] ?_
 exact kp ((a16,c17),(a18,c19),a20,c21) 1
theorem qni (hm:qbL F i1 m1=some i2) :
    qD4 237 [.agg #[qDW i1,qDX l1 m1 t1]] [qD1 l1 m1 t1] (qDW i2):=by
 refine pureA func237 ntmps237 hm fun _=>?_
 refine au [104] ?_
 intro g5
 refine au [129,128,57,143] ?_
 refine q6 4 7 11 [1] (decide (8192<i1)) ?_ ?_ ?_
 exact az [79,9,71]
 exact az [57,109]
 refine aw [6,0,2,13] ?_ ?_
 exact az [48,52,119]
 refine aw [1,5,12,24,0,24,10,12,24,0,24,2,31,0,25,8,6,0,2,13] ?_ ?_
 exact az [48,52,119]
 refine qP (fun ((x36,_):Bool×Unit)=>([(21,.bool x36)],[],[],[],qaN F x36)) ?_ ?_
 refine av [30,5] ?_ ?_
 intro h38
 refine au [36,5] ?_
 intro x39 e39 b40 o41 h42
 replace h42:l1=some ⟨b40,o41,none⟩:=h42
 refine au [28,11] ?_
 intro h43
 refine qJ [] [0] [0,1] 20 ?_
 refine au [139] ?_
 refine qb 2 (qDW (irem i1 8)) rfl rfl rfl (qoQ rfl rfl rfl) ?_
 refine au [3,3,3,4] ?_
 refine yI 26 h38 ?_
 refine au [21,5,25,4,6,21,7,25,4,8,28,8,9,3,10] ?_
 refine v7 11 h42 e39 ?_
 refine qB 12 (.int .u8 x39) [] rfl rfl rfl (qZ (j:=0) rfl tf5 rfl rfl (fun _=>rfl) rfl) ?_
 refine au [21,13,25,4,14] ?_
 refine qb 15 (qDW (irem i1 8)) rfl rfl rfl (qoQ rfl rfl rfl) (qb 16 (.int .u8 (ishl .u8 x39 (irem i1 8))) rfl rfl rfl (qiL rfl rfl h43) ?_)
 refine au [3,17,3,18,3,19,53] ?_
 exact qa ((((ishl .u8 x39 (irem i1 8)):Int) != 0),())
 intro h38
 refine qJ [] [0] [0] 20 ?_
 refine au [139] ?_
 refine qb 2 (qDW (irem i1 8)) rfl rfl rfl (qoQ rfl rfl rfl) ?_
 refine au [3,3,3,4] ?_
 refine yI 26 h38 ?_
 refine au [23,5,23,6,23,7,23,8,23,9,23,10,23,11,23,12,23,13,23,14,23,15,23,16,23,17,3,18,3,19,53] ?_
 exact qa (false,())
 rintro ⟨x36,_⟩
 refine aw [39,13] ?_ ?_
 exact az [48,52,119]
 exact az [16,82,48,90]
theorem qnt (hm:qeP F i1 i2 i3 i4 i5 m1=some i6) :
    qD4 195 [.agg #[qDW i1,qDW i2,qDW i3,qDW i4,qDW i5,qDX l1 m1 t1]] [qD1 l1 m1 t1] (qDW i6):=by
 refine pureA func195 ntmps195 hm fun _=>?_
 refine au [104] ?_
 intro g9
 refine au [129,48,57,143] ?_
 refine q6 4 7 11 [1] (decide (100<i1)) ?_ ?_ ?_
 exact az [79,9,71]
 exact az [57,109]
 refine aw [0,2,13] ?_ ?_
 exact az [48,96]
 refine au [135,48,134,29,14] ?_
 intro x15 e15 _
 refine aw [6,0,2,1,5,4,25,8,0,2,13] ?_ ?_
 exact az [54,96]
 refine au [131,134,32,7] ?_
 intro x16 e16 _
 exact az [90]
theorem qnE {r:(Int×Int×Bool)}(hm:qde F i1 m1 i2=some r) :
    qD4 265 [.agg #[qDW i1,qDX l1 m1 t1],qDW i2] [qD1 l1 m1 t1] (.tuple #[.int .u64 r.1,qDW r.2.1,.bool r.2.2]):=by
 refine pureA func265 ntmps265 hm fun _=>?_
 refine au [100] ?_
 intro g6
 refine au [6,6,51] ?_
 refine qP (fun ((_,_):Unit×Unit)=>([],[],[],[],qha F)) ?_ ?_
 refine au [54,51,20] ?_
 refine qp [1,2] [0] [] [0] (fun ((x33,_):Int×Unit)=>([(7,qDW x33)],[],[],[])) i2 () ?_
 intro k40
 rintro ⟨x33,_⟩
 refine aw [39,1,1,5,4,12,24,0,24,6,0,2,13] ?_ ?_
 refine au [135,20,106,4,29,9] ?_
 intro x44 e44 _
 refine aw [25,11,0,2,13] ?_ ?_
 exact az [54,4,25,14,25,15,124,6,6,52,125,119]
 refine au [16,82,5,124,6,0] ?_
 exact qk (iadd .i64 x33 1,())
 exact az [130]
 rintro ⟨_,_⟩
 exact az [140,6,6,90]
theorem qh5 (F:Nat)(x1:Int)(x2:qDU)(a3:qDV)(c4:Nat)(x5:Int)(r:(Int×Int×Int))(hm:qb2 F x1 x2 x5=some r) :
    qD4 241 [.agg #[qDW x1,qDX a3 x2 c4],qDW x5] [qD1 a3 x2 c4] (.tuple #[.int .u64 r.1,qDW r.2.1,qDW r.2.2]):=by
 refine pureA func241 ntmps241 hm fun _=>?_
 refine au [100] ?_
 intro g6
 refine au [6,6,97,25,0,4,36,6] ?_
 intro x7 e7 _
 refine aw [4,24,1,24,1,24,1,6,6,6,0,2,1,1,5,4,25,12,0,2,13] ?_ ?_
 exact az [48,6,6,96]
 exact az [69,54,4,6,6,90]
theorem qoV {r:(Int×Bool)}(hm:je F i1 m1 i2 i3=some r) :
    qD4 240 [.agg #[qDW i1,qDX l1 m1 t1],qDW i2,qDW i3] [qD1 l1 m1 t1] (.tuple #[.int .u64 r.1,.bool r.2]):=by
 refine pureA func240 ntmps240 hm fun _=>?_
 refine au [116] ?_
 intro g7
 refine aw [6,6,0,2,1,1,5,12,24,0,4,25,14,4,24,6,0,2,13] ?_ ?_
 exact az [48,6,96]
 refine au [69] ?_
 refine qP (fun ((x24,_):Int×Unit)=>([(6,.int .u64 x24)],[],[],[],qe7 F x24)) ?_ ?_
 refine au [54,4,92] ?_
 refine qp [1,3,15] [0] [] [0] (fun (((x29,x30),_):(Int×Int)×Unit)=>([(6,.int .u64 x29),(16,qDW x30)],[],[],[])) ((0:Int),(0:Int)) () ?_
 intro k35
 rintro ⟨⟨x29,x30⟩,_⟩
 refine aw [39,1,5,24,6,0,2,1,13] ?_ ?_
 refine au [137,51,5,4,34,15,25,0,4,124,29,9] ?_
 intro x38 e38 _
 refine au [36,7,6,0,146] ?_
 exact qk ((ior .u64 (ishl .u64 x29 1) x38,iadd .i64 x30 1),())
 refine au [91] ?_
 exact qa (x29,())
 rintro ⟨x24,_⟩
 exact az [120,6,90]
theorem qbt {r:(Int×Int×Int)}(hm:kD F i1 m1 i2=some r) :
    qD4 242 [.func (.func 241) #[] #[],.agg #[qDW i1,qDX l1 m1 t1],qDW i2] [qD1 l1 m1 t1] (.tuple #[.int .u64 r.1,qDW r.2.1,qDW r.2.2]):=by
 refine pureA func242 ntmps242 hm fun _=>?_
 refine au [116] ?_
 intro g6
 refine au [6,6,76,25,0,4] ?_
 refine qkb EnC.e rfl rfl rfl rfl (fun x7 e7=>qh5 F i1 m1 l1 t1 i2 x7 e7) (.consF 0 rfl .nil) (fun x7 e7 _=>?_)
 refine aw [4,24,1,24,1,24,1,6,6,6,0,2,1,1,5,4,25,8,0,2,13] ?_ ?_
 exact az [54,6,6,96]
 refine aw [16,2,1,1,5,4,26,10,0,2,13] ?_ ?_
 exact az [48,6,6,96]
 refine au [69,106,4,4,25,15,31,4] ?_
 intro x10 e10 _
 refine aw [4,24,1,24,1,6,6,0,2,1,1,5,4,25,12,0,2,13] ?_ ?_
 exact az [48,6,6,96]
 refine au [135,54,4,27,0] ?_
 intro h15
 refine qhY rfl rfl rfl rfl h15 ?_
 refine au [25,14,24,2,6,27,1] ?_
 intro x16 e16
 refine jS 12 e16 ?_
 refine aw [0,2,1,5,4,25,6,0,2,13] ?_ ?_
 exact az [48,6,6,96]
 exact az [69,54,4,4,25,15,24,2,6,6,90]
theorem qiT {r:(Int×Int×Int)}(hm:jq F i1 m1 i2=some r) :
    qD4 200 [.agg #[qDW i1,qDX l1 m1 t1],qDW i2] [qD1 l1 m1 t1] (.tuple #[.int .u64 r.1,qDW r.2.1,qDW r.2.2]):=by
 refine pureA func200 ntmps200 hm fun _=>?_
 refine au [100] ?_
 intro g6
 refine au [6,6,97,25,0,4] ?_
 refine qd qbt ?_
 intro x7 e7 _
 exact az [64,24,1,6,6,90]
theorem qkS {r:(Int×Int×Bool)}(hm:qfo F i1 i2 i3 i4 i5 m1 i6 i7=some r) :
    qD4 170 [.agg #[qDW i1,qDW i2,qDW i3,qDW i4,qDW i5,qDX l1 m1 t1],qDW i6,qDW i7] [qD1 l1 m1 t1] (.tuple #[qDW r.1,qDW r.2.1,.bool r.2.2]):=by
 refine pureA func170 ntmps170 hm fun _=>?_
 refine au [116] ?_
 intro g11
 refine aw [6,6,6,0,2,1,1,5,12,12,24,0,25,11,0,2,13] ?_ ?_
 exact az [54,6,6,96]
 refine au [131,134,4,36,8] ?_
 intro x13 e13 _
 refine au [4,64,24,1,6,6,129,54,25,8,4] ?_
 refine kX 9 [7,9] [] [] [] (fun ((x18,_):Bool×Unit)=>([(35,.bool x18)],[],[],[],qdX F x13 x18)) ?_ ?_
 refine qG (os:=_) rfl ?_
 refine av [26,8] ?_ ?_
 intro h17
 refine kH (k:=26) rfl h17 ?_
 refine au [88,88,112] ?_
 exact qa (true,())
 intro h17
 refine kG (k:=26) rfl h17 ?_
 refine au [4,12,57,4,28,15,25,15,25,6,111] ?_
 exact qa ((decide ((iconv .u64 (imin i2 i7))<x13.1)),())
 rintro ⟨x18,_⟩
 try dsimp only
 refine qG (os:=_) rfl ?_
 refine aw [0,2,13] ?_ ?_
 exact az [48,6,6,96]
 exact az [69,54,25,15,4,6,6,90]
theorem qak (F:Nat)(x1:Bool)(r:(Unit ⊕ Unit))(hm:yE F x1=some r) :
    PureL qD3 245 [.bool x1] [] [] [] lostCh Unit (fun (_:Unit) (_:Unit)=>.tuple #[]) (fun (_:Unit) (_:Unit)=>[]) (fun (_:Unit) (_:Unit)=>[]) (fun (_:Unit)=>[]) r:=by
 refine qhF func245 rfl ntmps245 rfl hm (fun w=>?_)
 refine aw [25,5,1,5,4,25,12,0,2,13] ?_ ?_
 refine au [5,33,14] ?_
 exact qui rfl rfl (qxY _) rfl (qul rfl rfl (qkd .nil))
 refine au [16] ?_
 exact qdM () (.inr rfl) (res0 rfl) rfl .nil .nil
theorem yB (F g1:Nat)(x2:Int)(x3:qDU)(a4:qDV)(c5:Nat)(x6 x7:Int)(r:((Int×Int×Int) ⊕ (Int×Int)))(hm:zQ F x2 x3 x6 x7=some r) :
    PureL qD3 266 [qDY g1,qDW x7] [⟨g1,263,[qDW x2,qDX a4 x3 c5,qDW x6]⟩] [] [qD1 a4 x3 c5] lostCh Unit (fun (r:(Int×Int×Int)) (_:Unit)=>qDW r.1) (fun (r:(Int×Int×Int)) (_:Unit)=>[⟨g1,263,[qDW r.2.1,qDX a4 x3 c5,qDW r.2.2]⟩]) (fun (_:(Int×Int×Int)) (_:Unit)=>[]) (fun (z:Int×Int)=>[⟨g1,263,[qDW z.1,qDX a4 x3 c5,qDW z.2]⟩]) r:=by
 refine qhF func266 rfl ntmps266 rfl hm (fun w=>?_)
 refine au [61,129] ?_
 refine qJ [] [0] [0] 16 ?_
 refine au [89,21,2] ?_
 refine qA 3 (.agg #[qDW x2,.slice a4 x3.length c5]) rfl rfl rfl (qy (i:=0) rfl tf65 rfl rfl (by simp) rfl) ?_
 refine au [3,4,3,5,21,6,25,4,7,7,8,36,8] ?_
 intro x9 e9 _
 refine au [93,141,127,45,3,15,53,2,54,25,11,4] ?_
 refine qai 5 23 28 [0,5,6] (decide (x9.1≤(iconv .u64 x7))) ?_ ?_ ?_
 exact az [4,4,25,15,28,10,71]
 exact az [88,70]
 refine yi EnC.e rfl rfl rfl (fun x11 e11=>qak F (((x9.2.2:Int) == 0) && decide (x9.1≤(iconv .u64 x7))) x11 e11) .nil .nil .nil (fun x12 _=>?_) (fun x11 e11=>?_)
 exact az [142]
 intro _
 refine au [50,54,4,85,132,54,25,15,52] ?_
 exact qdM () (.inl rfl) (res1 rfl rfl) rfl (.cons 0 rfl .nil) .nil
theorem qmc (hm:qdY F m1 i1=some i2) :
    qD4 289 [qDX l1 m1 t1,qDW i1] [qDZ l1 m1 t1] (qDW i2):=by
 refine pureA func289 ntmps289 hm fun _=>?_
 refine aw [24,14,1,5,6,0,2,1,1,5,4,24,10,4,24,2,25,6,0,2,13] ?_ ?_
 exact az [48,96]
 refine au [131,51] ?_
 refine qP (fun ((x99,_):Int×Unit)=>([(1,qDW i1),(5,qDW x99)],[],[],[],qc4 F i1 x99)) ?_ ?_
 refine au [114] ?_
 refine qp [1,13,14] [] [] [0] (fun (((x0,x2),_):(Int×Int)×Unit)=>([(5,qDW x0),(15,qDW x2)],[],[],[])) ((0:Int),(0:Int)) () ?_
 intro k0
 rintro ⟨⟨x0,x2⟩,_⟩
 refine aw [39,1,5,24,6,0,2,1,13] ?_ ?_
 refine au [137,26,7] ?_
 intro x3 e0 b0 o0
 refine au [25,7,6,129,54,143] ?_
 refine kX 7 [1,5,7,13,14,15] [] [] [1] (fun ((x5,_):Bool×Unit)=>([(29,.bool x5)],[],[],[],qbh F (qbi F m1 i1 k0) i1 x0 x2 x3 x5)) ?_ ?_
 refine qG (os:=_) rfl ?_
 refine av [26,8] ?_ ?_
 intro h0
 refine kH (k:=22) rfl h0 ?_
 refine au [88,79,112] ?_
 exact qa (true,())
 intro h0
 refine kG (k:=22) rfl h0 ?_
 refine au [4,143] ?_
 refine qju 3 (decide (x3<1)) [(1,qDW i1),(5,qDW x0),(13,qDX l1 m1 t1),(14,qDW (m1.length:Int)),(15,qDW x2),(7,qDW x3),(22,.bool false),(23,qDW x3),(24,.bool (decide (x3<1))),(25,.bool (decide (x3<1))),(28,.bool (decide (x3<1) && decide (0<x2)))] (fun h1=>?_) (fun h1=>?_) ?_
 refine qG (os:=_) rfl (kH (k:=25) rfl h1 ?_)
 refine au [4,25,6,24,12] ?_
 refine qr (d:=28) (v:=.bool (decide (x3<1) && decide (0<x2))) rfl (by rw[h1];simp only[Bool.true_and]) (qr (d:=25) (v:=.bool (decide (x3<1))) rfl (by simp only[qDX,h1] <;> rfl) ?_)
 exact az [59]
 refine qG (os:=_) rfl (kG (k:=25) rfl h1 ?_)
 refine au [79,24,13] ?_
 refine qr (d:=28) (v:=.bool (decide (x3<1) && decide (0<x2))) rfl (by rw[h1];simp only[Bool.false_and]) (qr (d:=25) (v:=.bool (decide (x3<1))) rfl (by simp only[qDX,h1] <;> rfl) ?_)
 exact az [59]
 refine qG (os:=_) rfl ?_
 refine au [111] ?_
 exact qa ((decide (x3<1) && decide (0<x2)),())
 rintro ⟨x5,_⟩
 try dsimp only
 refine qG (os:=_) rfl ?_
 refine aw [0,2,13] ?_ ?_
 exact az [48,75,125,119]
 refine au [69,5,4,4,124,28,15,83,24,2,28,15,6,27,1] ?_
 intro x6 e1
 refine jS 5 e1 ?_
 refine au [0,146] ?_
 exact qk ((x6,iadd .i64 x2 1),())
 refine au [91] ?_
 exact qa (x0,())
 rintro ⟨x99,_⟩
 refine aw [39,1,1,5,4,4,25,6,0,2,13] ?_ ?_
 exact az [48,96]
 exact az [131,90]
theorem qkT (hm:qfs F m1 m2=some m3) :
    Pure qD3 290 [qDX l1 m1 t1,qDX l2 m2 t2] [qDZ l1 m1 t1,qDZ l2 m2 t2] (qDV×Nat) (fun g=>qDX g.1 m3 g.2) (fun g=>[qD0 g.1 m3 g.2]) (fun _=>[]):=by
 refine pureA func290 ntmps290 hm fun _=>?_
 refine au [61,97,97,51] ?_
 refine qP (fun (((x0,x2,x3),a0,c0,a1,c1):(qDU×qDU×Bool)×qDV×Nat×qDV×Nat)=>([(0,qDX a0 x0 c0),(5,qDX a1 x2 c1),(6,.bool x3)],[],[qD0 a1 x2 c1],[qDZ a0 x0 c0],qc5 F x0 x2 x3)) ?_ ?_
 refine au [114,28,1] ?_
 refine qp [9,10] [] [] [1] (fun (((x5,x6,x7,x8),a3,c2,a4,c4):(qDU×qDU×Bool×Int)×qDV×Nat×qDV×Nat)=>([(0,qDX a3 x5 c2),(5,qDX a4 x6 c4),(6,.bool x7),(11,qDW x8)],[],[qD0 a4 x6 c4],[qDZ a3 x5 c2])) (m1,([]:qDU),true,(0:Int)) (l1,t1,none,0) ?_
 intro k0
 rintro ⟨⟨x5,x6,x7,x8⟩,a3,c2,a4,c4⟩
 refine aw [39,1,5,24,6,0,2,1,13] ?_ ?_
 refine au [136,26,7] ?_
 intro x9 e0 b0 o0
 refine au [25,7,51] ?_
 refine qj [0,6,8,9,10,11] [] [] [2,1] (fun ((x10,a6,c5):qDU×qDV×Nat)=>([(5,qDX a6 x10 c5)],[],[qD0 a6 x10 c5],[],qaA F (qaB F m2 k0) x5 x7 x8 x9 x10)) ?_ ?_
 refine aw [1,5,4,0,2,13] ?_ ?_
 refine au [5,4,4,4] ?_
 refine qow (j:=2) (qD .i64) rfl UnF.u inferInstance rfl rfl rfl rfl rfl ?_
 intro x11 e1 a7 c7
 refine au [31,7] ?_
 intro x12 e2 a8 c8
 refine au [6,0] ?_
 exact qa (x12,a8,c8)
 refine au [16] ?_
 exact qa (x6,a4,c4)
 rintro ⟨x10,a6,c5⟩
 refine au [39,5,4,4] ?_
 refine qow (j:=0) (qD .i64) rfl UnF.u inferInstance rfl rfl rfl rfl rfl ?_
 intro x13 e3 a9 c9
 refine au [4,25,12,6,6,0,146] ?_
 exact qk ((x13,x10,(!x7),iadd .i64 x8 1),a9,c9,a6,c5)
 refine au [91] ?_
 exact qa ((x5,x6,x7),a3,c2,a4,c4)
 rintro ⟨⟨x0,x2,x3⟩,a0,c0,a1,c1⟩
 try dsimp only
 refine qP (fun ((x14,a10,c10):qDU×qDV×Nat)=>([(5,qDX a10 x14 c10)],[],[qD0 a10 x14 c10],[],qbj F x14)) ?_ ?_
 refine aw [1,5,4,0,2,13] ?_ ?_
 refine au [5,4,4,31,7] ?_
 intro x15 e4 a11 c11
 refine au [6,0] ?_
 exact qa (x15,a11,c11)
 refine au [16] ?_
 exact qa (x2,a1,c1)
 rintro ⟨x14,a10,c10⟩
 refine au [120,52] ?_
 exact qx (a10,c10)
theorem qnw {r:(qDU×Int)}(hm:qeQ F m1 m2=some r) :
    Pure qD3 267 [qDX l1 m1 t1,qDX l2 m2 t2] [qDZ l1 m1 t1,qDZ l2 m2 t2] (qDV×Nat) (fun g=>.tuple #[qDX g.1 r.1 g.2,qDW r.2]) (fun g=>[qD0 g.1 r.1 g.2]) (fun _=>[]):=by
 refine pureA func267 ntmps267 hm fun _=>?_
 refine au [61,6,76,30,7] ?_
 intro x7 e7 _
 refine au [51] ?_
 refine qj [0,1] [] [] [0,1] (fun ((x10,_):Int×Unit)=>([(6,qDW x10)],[],[],[],qaR F m1 m2 x10)) ?_ ?_
 refine aw [1,5,4,25,11,0,2,13] ?_ ?_
 refine au [5,4,4,24,10] ?_
 refine qd qmc ?_
 intro x16 e16 _
 refine au [6,0] ?_
 exact qa (x16,())
 refine au [16] ?_
 exact qa (x7,())
 rintro ⟨x10,_⟩
 refine aw [39,1,1,5,4,25,8,0,2,13] ?_ ?_
 refine au [54,6,105] ?_
 exact qx (none,0)
 refine au [69,54,4] ?_
 refine qd qkT ?_
 rintro x12 e12 ⟨a13,c14⟩
 refine au [6,52] ?_
 exact qx (a13,c14)
theorem qhk (F g1:Nat)(x2:Int)(x3:qDU)(a4:qDV)(c5:Nat)(x6 x7:Int)(r:((qDU×Int×Int) ⊕ (Int×Int)))(hm:jx F x2 x3 x6 x7=some r) :
    PureL qD3 268 [qDY g1,qDW x7] [⟨g1,263,[qDW x2,qDX a4 x3 c5,qDW x6]⟩] [] [qD1 a4 x3 c5] lostCh (qDV×Nat) (fun (r:(qDU×Int×Int)) (g:qDV×Nat)=>qDX g.1 r.1 g.2) (fun (r:(qDU×Int×Int)) (_:qDV×Nat)=>[⟨g1,263,[qDW r.2.1,qDX a4 x3 c5,qDW r.2.2]⟩]) (fun (r:(qDU×Int×Int)) (g:qDV×Nat)=>[qD0 g.1 r.1 g.2]) (fun (z:Int×Int)=>[⟨g1,263,[qDW z.1,qDX a4 x3 c5,qDW z.2]⟩]) r:=by
 refine qhF func268 rfl ntmps268 rfl hm (fun w=>?_)
 refine au [61,76,124] ?_
 refine yi EnC.e rfl rfl rfl (fun x8 e8=>yB F g1 x2 x3 a4 c5 x6 (iadd .i64 x7 1) x8 e8) (.cons 0 rfl .nil) .nil (.consF 0 rfl .nil) (fun x9 _=>?_) (fun x8 e8=>?_)
 exact az [142]
 intro _
 refine au [26,6] ?_
 intro x10 e10 a11 c12
 refine au [51] ?_
 refine qP (fun (((x72,x73,x74),_):(qDU×Int×Int)×Unit)=>([(5,qDX a11 x72 c12)],[⟨g1,263,[qDW x73,qDX a4 x3 c5,qDW x74]⟩],[qD0 a11 x72 c12],[qD1 a4 x3 c5],qcG F x72 x73 x74)) ?_ ?_
 refine au [114] ?_
 refine qp [0,1,13] [] [] [0] (fun (((x93,x94,x95,x96),_):(qDU×Int×Int×Int)×Unit)=>([(5,qDX a11 x93 c12),(14,qDW x94)],[⟨g1,263,[qDW x95,qDX a4 x3 c5,qDW x96]⟩],[qD0 a11 x93 c12],[])) (x10,(0:Int),x8.2.1,x8.2.2) () ?_
 intro k0
 rintro ⟨⟨x93,x94,x95,x96⟩,_⟩
 refine aw [39,1,5,24,6,0,2,1,13] ?_ ?_
 refine au [137,51,5,4,4,4,4] ?_
 refine yi EnC.e rfl rfl rfl (fun x0 e0=>yB F g1 x95 x3 a4 c5 x96 x7 x0 e0) (.cons 0 rfl .nil) .nil (.consF 0 rfl .nil) (fun x1 _=>?_) (fun x0 e0=>?_)
 exact az [28,13,26,2,26,2,28,13,142]
 intro _
 refine au [4,28,15,24,2,26,9] ?_
 intro x4 e1 g0 h0
 refine kx (j:=0) (y':=iadd .i64 x0.1 (imin x94 1)) (qD .i64) rfl rfl rfl tf3 rfl h0 (qu e1).2.1 rfl (fun x5 e2 h1=>?_)
 have h2:x5.length=x93.length:=by rw[← e2,qBs]
 refine qr (d:=5) (v:=qDX a11 x5 c12) rfl h1 (qr (d:=17) (v:=qDX a11 x5 c12) rfl h1 ?_)
 refine au [0,146] ?_
 exact qk ((x5,iadd .i64 x94 1,x0.2.1,x0.2.2),())
 refine au [91] ?_
 exact qa ((x93,x95,x96),())
 rintro ⟨⟨x72,x73,x74⟩,_⟩
 refine au [120,52] ?_
 exact qdM (a11,c12) (.inl rfl) (res1 rfl rfl) rfl (.cons 0 rfl .nil) (.cons 0 rfl .nil)
theorem qky (hm:qaZ F i1=some i2) :
    qD4 291 [.int .u64 i1] [] (qDW i2):=by
 refine pureA func291 ntmps291 hm fun _=>?_
 refine au [80,76,27,8,25,15,4,28,14,25,15] ?_
 refine qyF rfl rfl rfl ?_
 refine au [35,0,6,27,1] ?_
 intro x2 e2
 refine jS 2 e2 ?_
 exact az [50,11,24,8]
theorem qiu (F g1:Nat)(x2:Int)(x3:qDU)(a4:qDV)(c5:Nat)(x6 x7 x8 x9:Int)(r:((List (Int×Int)×Int×Int) ⊕ (Int×Int)))(hm:qaH F x2 x3 x6 x7 x8 x9=some r) :
    PureL qD3 269 [qDY g1,qDW x7,qDW x8,qDW x9] [⟨g1,263,[qDW x2,qDX a4 x3 c5,qDW x6]⟩] [] [qD1 a4 x3 c5] lostCh (qDV×Nat) (fun (r:(List (Int×Int)×Int×Int)) (g:qDV×Nat)=>qDX g.1 r.1 g.2) (fun (r:(List (Int×Int)×Int×Int)) (_:qDV×Nat)=>[⟨g1,263,[qDW r.2.1,qDX a4 x3 c5,qDW r.2.2]⟩]) (fun (r:(List (Int×Int)×Int×Int)) (g:qDV×Nat)=>[Ro eS209 209 2 (qDX g.1 r.1 g.2) r.1]) (fun (z:Int×Int)=>[⟨g1,263,[qDW z.1,qDX a4 x3 c5,qDW z.2]⟩]) r:=by
 refine qhF func269 rfl ntmps269 rfl hm (fun w=>?_)
 refine au [28,12,48,76,4,4,27,0] ?_
 intro h10
 refine qoB rfl rfl rfl rfl h10 (yi EnC.e rfl rfl rfl (fun x11 e11=>yB F g1 x2 x3 a4 c5 x6 (iquo .i64 x9 x8) x11 e11) (.cons 0 rfl .nil) .nil (.consF 0 rfl .nil) (fun x12 _=>?_) (fun x11 e11=>?_))
 exact az [142]
 intro _
 refine qs9 qgs (by decide) rfl UnF.u inferInstance rfl rfl rfl rfl rfl rfl ?_
 intro x13 e13 a14 c15
 refine au [76,51] ?_
 refine qP (fun (((x0,x1,x4),_):(List (Int×Int)×Int×Int)×Unit)=>([(9,qDX a14 x0 c15)],[⟨g1,263,[qDW x1,qDX a4 x3 c5,qDW x4]⟩],[Ro eS209 209 2 (qDX a14 x0 c15) x0],[qD1 a4 x3 c5],qdy F x0 x1 x4)) ?_ ?_
 refine au [114] ?_
 refine qp [0,2,3,21] [] [] [0] (fun (((x5,x10,x14,x15,x16),_):(List (Int×Int)×Int×Int×Int×Int)×Unit)=>([(9,qDX a14 x5 c15),(10,qDW x10),(22,qDW x14)],[⟨g1,263,[qDW x15,qDX a4 x3 c5,qDW x16]⟩],[Ro eS209 209 2 (qDX a14 x5 c15) x5],[])) (x13,x7,(0:Int),x11.2.1,x11.2.2) () ?_
 intro k0
 rintro ⟨⟨x5,x10,x14,x15,x16⟩,_⟩
 refine aw [39,1,5,24,6,0,2,1,13] ?_ ?_
 refine au [137,76] ?_
 refine yi EnC.e rfl rfl rfl (fun x17 e0=>yB F g1 x15 x3 a4 c5 x16 2097152 x17 e0) (.cons 0 rfl .nil) .nil (.consF 0 rfl .nil) (fun x18 _=>?_) (fun x17 e0=>?_)
 exact az [26,2,28,13,26,2,26,2,28,13,142]
 intro _
 refine au [51] ?_
 refine qj [0,2,3,9,11,21,22] [0] [0] [0] (fun ((x19,_):Int×Unit)=>([(10,qDW x19)],[],[],[],yz F (yA F x3 x8 x9 x13 k0) x3 x8 x9 x5 x14 x17 x19)) ?_ ?_
 refine aw [1,5,4,25,11,0,2,13] ?_ ?_
 refine au [5,4,4,25,15,36,9] ?_
 intro x20 e1 _
 refine au [24,2,6,0] ?_
 exact qa (iadd .i64 x10 x20,())
 refine au [5,4,124,24,2,6,0] ?_
 exact qa (iadd .i64 x10 (iadd .i64 x17.1 2),())
 rintro ⟨x19,_⟩
 refine au [120,4,4,4,4] ?_
 refine yi EnC.e rfl rfl rfl (fun x21 e2=>yB F g1 x17.2.1 x3 a4 c5 x17.2.2 x9 x21 e2) (.cons 0 rfl .nil) .nil (.consF 0 rfl .nil) (fun x22 _=>?_) (fun x21 e2=>?_)
 exact az [26,2,28,13,26,2,26,2,28,13,142]
 intro _
 refine au [124] ?_
 refine qH [qDW x19,qDW (iadd .i64 x21.1 x8)] ?_
 refine au [26,9] ?_
 intro x23 e3 g0 h0
 refine kx (j:=0) (y':=(x19,iadd .i64 x21.1 x8)) qgs rfl rfl rfl tf209 rfl h0 (qu e3).2.1 rfl (fun x24 e4 h1=>?_)
 have h2:x24.length=x5.length:=by rw[← e4,qBs]
 refine qr (d:=9) (v:=qDX a14 x24 c15) rfl h1 (qr (d:=38) (v:=qDX a14 x24 c15) rfl h1 ?_)
 refine au [50,5,4,4,4,26,9] ?_
 intro x25 e5 g2 h3
 refine au [12] ?_
 refine qrB (j:=0) (y:=x25) (off:=1) qgs rfl rfl tf3 rfl h3 (qu e5).2.2 rfl (fun _=>rfl) rfl rfl ?_
 refine au [25,14,24,2,6,0,146] ?_
 exact qk ((x24,iadd .i64 x19 (isub .i64 x25.2 1),iadd .i64 x14 1,x21.2.1,x21.2.2),())
 refine au [91] ?_
 exact qa ((x5,x15,x16),())
 rintro ⟨⟨x0,x1,x4⟩,_⟩
 refine au [120,52] ?_
 exact qdM (a14,c15) (.inl rfl) (res1 rfl rfl) rfl (.cons 0 rfl .nil) (.cons 0 rfl .nil)
theorem qhc (hm:vX F m1 t1 i1=some m2) :
    PureM qD3 295 [qDX l1 m1 t1,qDW i1] [] [qD0 l1 m1 t1] [] (qDV×Nat) (fun g=>qDX g.1 m2 g.2) (fun _=>[]) (fun g=>[qD0 g.1 m2 g.2]):=by
 refine pureMA func295 ntmps295 hm fun _=>?_
 refine aw [24,14,1,5,6,0,2,1,1,5,4,24,6,0,2,13] ?_ ?_
 exact az [30,1]
 refine au [69] ?_
 refine qP (fun ((x15,a13,c14):qDU×qDV×Nat)=>([(0,qDX a13 x15 c14)],[],[qD0 a13 x15 c14],[],jF F x15)) ?_ ?_
 refine au [54,4,36,10,4,24,10,25,14,25,14,6,27,1] ?_
 intro x16 e16
 refine jS 1 e16 ?_
 refine aw [0,2,1,5,4,25,6,0,2,13] ?_ ?_
 refine au [5,4,4,36,10,36,11] ?_
 intro x17 e17
 refine au [4] ?_
 refine qwO (y:=(0:Int)) 0 (qD .i64) rfl UnF.u UnF.u inferInstance rfl rfl rfl rfl rfl rfl rfl rfl rfl ?_
 intro x18 e18 a19 c20
 refine au [4,24,10,36,11] ?_
 intro x21 e21
 refine au [6,0] ?_
 exact qa (x21,a19,c20)
 refine au [16] ?_
 exact qa (m1,l1,t1)
 rintro ⟨x15,a13,c14⟩
 refine au [120,52] ?_
 exact qK (a13,c14)
theorem qgk (hm:zR F p1=some m1) :
    Pure qD3 272 [qDX l1 p1 t1] [SlN eN56 iN56 1 (qDX l1 p1 t1) p1 n1] (qDV×Nat) (fun g=>qDX g.1 m1 g.2) (fun g=>[qD0 g.1 m1 g.2]) (fun _=>[]):=by
 refine pureA func272 ntmps272 hm fun _=>?_
 refine au [80,97,51] ?_
 refine qj [0] [] [] [0] (fun ((x43,_):Int×Unit)=>([(3,qDW x43)],[],[],[],kI F p1 x43)) ?_ ?_
 refine au [114] ?_
 refine qp [0,9,10] [] [] [0] (fun (((x0,x2),_):(Int×Int)×Unit)=>([(3,qDW x0),(11,qDW x2)],[],[],[])) ((0:Int),(0:Int)) () ?_
 intro k0
 rintro ⟨⟨x0,x2⟩,_⟩
 refine aw [39,1,5,24,6,0,2,1,13] ?_ ?_
 refine au [136,27,7] ?_
 intro x3 e0 g0 b0 o0
 refine aw [25,7,6,0,2,1,5,4,4,24,10,24,2,6,0,2,1,5,4,24,6,0,2,13] ?_ ?_
 exact az [30,1]
 refine au [16,146] ?_
 exact qk ((iadd .i64 x0 (x3.length:Int),iadd .i64 x2 1),())
 refine au [91] ?_
 exact qa (x0,())
 rintro ⟨x43,_⟩
 refine au [120,26,15] ?_
 refine qt qhc ?_
 rintro x44 e44 ⟨a45,c46⟩
 refine au [51] ?_
 refine qP (fun ((x4,a0,c0):qDU×qDV×Nat)=>([(6,qDX a0 x4 c0)],[],[qD0 a0 x4 c0],[],vK F x4)) ?_ ?_
 refine au [114] ?_
 refine qp [25,26] [] [] [0] (fun (((x5,x6),a1,c1):(qDU×Int)×qDV×Nat)=>([(6,qDX a1 x5 c1),(27,qDW x6)],[],[qD0 a1 x5 c1],[])) (x44,(0:Int)) (a45,c46) ?_
 intro k1
 rintro ⟨⟨x5,x6⟩,a1,c1⟩
 refine aw [39,1,5,24,6,0,2,1,13] ?_ ?_
 refine au [136,27,7] ?_
 intro x7 e1 g1 b1 o1
 refine au [25,7,51,5,4,4] ?_
 refine zw 0 (qD .i64) rfl UnF.u inferInstance rfl rfl rfl rfl rfl (.inr ⟨1,rfl⟩) rfl rfl ?_
 intro x8 e2 a3 c2
 refine au [6,0,146] ?_
 exact qk ((x8,iadd .i64 x6 1),a3,c2)
 refine au [91] ?_
 exact qa (x5,a1,c1)
 rintro ⟨x4,a0,c0⟩
 refine au [120,52] ?_
 exact qx (a0,c0)
theorem qmg (hm:qb9 F i1 i2 i3=some d1) :
    qD4 301 [qDW i1,qDW i2,qDW i3] [] (.bool d1):=by
 refine pureA func301 ntmps301 hm fun _=>?_
 refine au [26,14,48,76,4,26,10,4] ?_
 refine qai 4 10 14 [] (decide (i1≤i3)) ?_ ?_ ?_
 exact az [4,4,28,10,71]
 exact az [79,9,70]
 exact az [90]
theorem qmf {r:(qDU×Int)}(hm:qd0 F w1=some r) :
    Pure qD3 292 [qDX l1 w1 t1] [Sl eS209 2 (qDX l1 w1 t1) w1] (qDV×Nat) (fun g=>.tuple #[qDX g.1 r.1 g.2,qDW r.2]) (fun g=>[qD0 g.1 r.1 g.2]) (fun _=>[]):=by
 refine pureA func292 ntmps292 hm fun _=>?_
 refine aw [25,5,1,5,6,6,0,2,1,1,5,4,24,10,25,6,0,2,13] ?_ ?_
 refine au [48,6,105] ?_
 exact qx (none,0)
 refine au [131,51] ?_
 refine qj [0] [] [] [0] (fun ((_,_):Unit×Unit)=>([],[],[],[],qbo F w1)) ?_ ?_
 refine au [114] ?_
 refine qp [0,14,15] [] [] [0] (fun (((x0,x2),_):(Int×Int)×Unit)=>([(4,qDW x0),(16,qDW x2)],[],[],[])) ((-2:Int),(0:Int)) () ?_
 intro k0
 rintro ⟨⟨x0,x2⟩,_⟩
 refine aw [39,1,5,24,6,0,2,1,13] ?_ ?_
 refine au [136,32,3] ?_
 intro x3 e0 b0 o0
 refine au [29,8,19] ?_
 intro g0
 refine au [132,1,20] ?_
 refine qj [0,4,6,14,15,16] [0] [] [1] (fun ((x4,_):Bool×Unit)=>([(20,.bool x4)],[],[],[],jt F (qbq F w1 k0) x0 x2 x3 x4)) ?_ ?_
 refine au [48,57,36,12] ?_
 intro x5 e1 _
 refine aw [25,12,6,0,2,13] ?_ ?_
 refine au [16] ?_
 exact qa ((!x5),())
 refine au [48,57,36,12] ?_
 intro x6 e2 _
 refine aw [25,12,6,0,2,13] ?_ ?_
 refine au [16] ?_
 exact qa ((!x6),())
 refine au [5,57,57,24,2,25,14,25,6,6,0] ?_
 exact qa ((decide (1048576<(isub .i64 (iadd .i64 x3.1 x3.2) 1))),())
 rintro ⟨x4,_⟩
 refine aw [39,13] ?_ ?_
 refine au [48,6,52,60,125,60,25,13] ?_
 exact qx (none,0)
 refine aw [1,5,12,24,0,4,24,2,24,6,6,0,2,13] ?_ ?_
 refine au [48,6,52,60,125,60,25,13] ?_
 exact qx (none,0)
 refine au [16,82,5,57,57,24,2,25,14,6,0,146] ?_
 exact qk ((isub .i64 (iadd .i64 x3.1 x3.2) 1,iadd .i64 x2 1),())
 exact az [130]
 rintro ⟨_,_⟩
 refine au [140,51] ?_
 refine qP (fun ((x7,a0,c0):qDU×qDV×Nat)=>([(7,qDX a0 x7 c0)],[],[qD0 a0 x7 c0],[],qfP F x7)) ?_ ?_
 refine au [114,28,1] ?_
 refine qp [49,50] [] [] [0] (fun (((x8,x9),a1,c1):(qDU×Int)×qDV×Nat)=>([(7,qDX a1 x8 c1),(51,qDW x9)],[],[qD0 a1 x8 c1],[])) (([]:qDU),(0:Int)) (none,0) ?_
 intro k1
 rintro ⟨⟨x8,x9⟩,a1,c1⟩
 refine aw [39,1,5,24,6,0,2,1,13] ?_ ?_
 refine au [69] ?_
 refine qj [49,50,51] [] [] [0] (fun ((x10,a3,c2):qDU×qDV×Nat)=>([(7,qDX a3 x10 c2)],[],[qD0 a3 x10 c2],[],qbp F (ju F w1 k1) x9 x10)) ?_ ?_
 refine au [128,32,3] ?_
 intro x11 e3 b1 o1
 refine au [29,8,19] ?_
 intro g1
 refine au [132,48,57,4,92] ?_
 refine qp [9,49,50,51,56] [0] [] [1] (fun (((x12,x13),a4,c4):(qDU×Int)×qDV×Nat)=>([(7,qDX a4 x12 c4),(57,qDW x13)],[],[qD0 a4 x12 c4],[])) (x8,(0:Int)) (a1,c1) ?_
 intro k2
 rintro ⟨⟨x12,x13⟩,a4,c4⟩
 refine aw [39,1,5,24,6,0,2,1,13] ?_ ?_
 refine au [137,51,5,4,57,124] ?_
 refine zB [iadd .i64 x11.1 x13] (fun a5 c5=>?_)
 refine zw 1 (qD .i64) rfl underlying56 tf3 rfl rfl rfl rfl rfl (.inl ⟨0,_,rfl⟩) rfl rfl (fun x14 e4 a6 c6=>?_)
 refine au [6,0,146] ?_
 exact qk ((x14,iadd .i64 x13 1),a6,c6)
 refine au [91,24,7] ?_
 exact qa (x12,a4,c4)
 rintro ⟨x10,a3,c2⟩
 refine au [39,145] ?_
 exact qk ((x10,iadd .i64 x9 1),a3,c2)
 refine au [91] ?_
 exact qa (x8,a1,c1)
 rintro ⟨x7,a0,c0⟩
 refine au [120,6,52] ?_
 exact qx (a0,c0)
theorem qny {r:(qDU×Int)}(hm:qeR F w1 m1=some r) :
    Pure qD3 270 [qDX l1 w1 t1,qDX l2 m1 t2] [Sl eS209 2 (qDX l1 w1 t1) w1,qDZ l2 m1 t2] (qDV×Nat) (fun g=>.tuple #[qDX g.1 r.1 g.2,qDW r.2]) (fun g=>[qD0 g.1 r.1 g.2]) (fun _=>[]):=by
 refine pureA func270 ntmps270 hm fun _=>?_
 refine au [61,6,76] ?_
 refine qd qmf ?_
 rintro x7 e7 ⟨a8,c9⟩
 refine au [4,64,6,51] ?_
 refine qj [1,6] [] [0] [1] (fun ((x12,_):Int×Unit)=>([(7,qDW x12)],[],[],[],qaS F m1 x7 x12)) ?_ ?_
 refine aw [1,5,4,25,11,0,2,13] ?_ ?_
 refine au [5,4,30,7] ?_
 intro x38 e38 _
 refine au [6,0] ?_
 exact qa (x38,())
 refine au [16] ?_
 exact qa (x7.2,())
 rintro ⟨x12,_⟩
 refine aw [39,1,1,5,4,25,8,0,2,13] ?_ ?_
 refine au [54,6,105] ?_
 exact qx (none,0)
 refine au [69,54,4,32,8] ?_
 refine qaj (vs:=[qDX a8 x7.1 c9,qDX l2 m1 t2]) (ys:=([(x7.1,a8,c9),(m1,l2,t2)]:List (qDU×qDV×Nat))) qq (by decide) rfl underlying22 tf56 rfl rfl rfl rfl rfl (by decide) (fun a14 c15=>qnc (inn:=iN56) ([x7.1,m1]:List (qDU)) ([(a8,c9),(l2,t2)]:List (qDV×Nat)) 0 rfl rfl (qi 0 rfl (qi 1 rfl zG)) ?_)
 refine au [36,13] ?_
 rintro x16 e16 ⟨a17,c18⟩
 refine au [76,31,10] ?_
 intro x19 e19 _
 refine au [27,0] ?_
 intro h20
 replace h20:=of_decide_eq_true h20
 refine qr (d:=8) (v:=qDX a17 x19 c18) rfl (by simp only[qDX,h20] <;> rfl) (qr (d:=24) (v:=qDX a17 x19 c18) rfl (by simp only[qDX,h20] <;> rfl) (qr (d:=25) (v:=qDX a17 x19 c18) rfl (by simp only[qDX,h20] <;> rfl) ?_))
 refine au [50,1,122,33,4] ?_
 rintro x29 e29 ⟨a30,c31⟩
 refine au [33,6] ?_
 rintro x32 e32 ⟨a33,c34⟩
 refine aw [24,10,4,24,10,24,6,6,0,2,13] ?_ ?_
 refine au [48,6,52,60,25,13] ?_
 exact qx (none,0)
 refine aw [1,5,4,24,10,25,6,6,0,2,13] ?_ ?_
 refine au [48,6,52,60,25,13] ?_
 exact qx (none,0)
 refine au [16,82,54,6,52] ?_
 exact qx (a17,c18)
theorem qio {r:(Int×Int×Bool)}(hm:zZ F i1 m1 i2 i3=some r) :
    qD4 302 [.agg #[qDW i1,qDX l1 m1 t1],qDW i2,.int .u64 i3] [qD1 l1 m1 t1] (.tuple #[.int .u64 r.1,qDW r.2.1,.bool r.2.2]):=by
 refine pureA func302 ntmps302 hm fun _=>?_
 refine au [116] ?_
 intro g7
 refine au [6,6,76,35,2] ?_
 intro x8 e8 _
 refine au [4,64,6,51] ?_
 refine qj [1,3,9,10] [0] [] [0] (fun ((_,_):Unit×Unit)=>([],[],[],[],kq F i1 m1 i2 x8)) ?_ ?_
 refine aw [1,5,4,25,6,0,2,13] ?_ ?_
 refine au [106,4,4,25,14,31,4] ?_
 intro x15 e15 _
 refine aw [4,24,1,24,1,6,6,0,2,1,1,5,4,25,12,0,2,13] ?_ ?_
 exact az [48,6,6,75,18,24,8]
 refine aw [16,2,1,5,4,4,24,6,0,2,13] ?_ ?_
 exact az [54,4,124,25,14,6,6,96]
 exact az [16,26,12]
 exact az [16,26,12]
 rintro ⟨_,_⟩
 refine au [39,106,4,4,31,4] ?_
 intro x14 e14 _
 exact az [4,64,6,76,4,25,14,4,4,83,6,6,90]
theorem qkP {r:(Int×Int×Int)}(hm:qcV F i1 i2 d1=some r) :
    qD4 303 [.int .u64 i1,qDW i2,.bool d1] [] (.tuple #[.int .u64 r.1,qDW r.2.1,qDW r.2.2]):=by
 refine pureA func303 ntmps303 hm fun _=>?_
 refine aw [26,14,1,5,6,6,6,0,2,1,20,1,5,4,25,12,6,0,2,13] ?_ ?_
 exact az [48,6,6,52,119]
 refine aw [1,5,4,25,6,6,0,2,13] ?_ ?_
 exact az [48,6,6,52,119]
 exact az [16,82,54,4,6,6,90]
theorem qiV {r:(Int×Int×Int)}(hm:qbd F i1 m1 i2 i3=some r) :
    qD4 293 [.agg #[qDW i1,qDX l1 m1 t1],qDW i2,qDW i3] [qD1 l1 m1 t1] (.tuple #[.int .u64 r.1,qDW r.2.1,qDW r.2.2]):=by
 refine pureA func293 ntmps293 hm fun _=>?_
 refine au [116] ?_
 intro g7
 refine au [6,6,97,25,0,4,36,6] ?_
 intro x8 e8 _
 refine aw [4,24,1,24,1,24,1,6,6,6,0,2,1,1,5,4,25,12,0,2,13] ?_ ?_
 exact az [48,6,6,96]
 refine aw [16,2,1,1,5,4,4,25,15,28,0,26,10,0,2,13] ?_ ?_
 exact az [48,6,6,96]
 refine au [69,54,25,15,4,28,0,27,0] ?_
 intro h11
 refine qhY rfl rfl rfl rfl h11 ?_
 refine au [6,27,1] ?_
 intro x12 e12
 refine jS 12 e12 ?_
 refine au [50,1,28,11] ?_
 intro h17
 refine qJ [] [0] [0] 15 ?_
 refine qA 0 (.agg #[qDW i1,.slice l1 m1.length t1]) rfl rfl rfl (qy (i:=0) rfl tf65 rfl rfl (by simp) rfl) ?_
 refine au [3,1,3,2,3,3] ?_
 refine qb 4 (.int .u64 (ishl .u64 x12 i3)) rfl rfl rfl (qiL rfl rfl h17) ?_
 refine au [3,5,3,6,7,7] ?_
 refine qd qio ?_
 intro x20 e20 _
 refine au [93,3,8,141,127,45,53,2,54,124,25,14,4,4] ?_
 refine qd qkP ?_
 intro x21 e21 _
 exact az [64,24,1,6,6,90]
theorem qim {r:(Bool×Int×Bool)}(hm:ya F i1 d1 i2=some r) :
    PureM qD3 294 [qDY t1,.int .u64 i2] [⟨t1,359,[qDW i1,.bool d1]⟩] [] [] Unit (fun _=>.bool r.1) (fun _=>[⟨t1,359,[qDW r.2.1,.bool r.2.2]⟩]) (fun _=>[]):=by
 refine pureMA func294 ntmps294 hm fun _=>?_
 refine aw [24,14,1,5,6,0,2,1,1,5,4,25,6,0,2,13] ?_ ?_
 exact az [48,75,26,3]
 refine au [69] ?_
 refine qP (fun ((x8,_):Int×Unit)=>([(0,qDY t1)],[⟨t1,359,[qDW x8,.bool d1]⟩],[],[],yK F x8)) ?_ ?_
 refine aw [1,5,4,24,15,12,24,0,0,2,13] ?_ ?_
 refine au [5,4,94,4,25,15,24,2,24,2,85,17,0] ?_
 exact qa (iadd .i64 i1 (iadd .i64 (iconv .i64 i2) 1),())
 refine kB mixed [9] _ _ .nil (qgv 0 rfl qf) 10 rfl ?_
 refine au [89,21,2] ?_
 refine qB 3 (qDW i1) [[9]] rfl rfl rfl (kW (j:=0) rfl tf3 rfl rfl (fun _=>rfl) rfl) ?_
 refine au [3,4,7,5,36,9] ?_
 intro x10 e10 _
 refine au [0,32,0,87,21,8,7,9,17,0] ?_
 refine kZ 9 rfl (by kernel_rfl) .nil ?_
 refine au [53] ?_
 exact qa (iadd .i64 i1 x10,())
 rintro ⟨x8,_⟩
 refine au [120,85,132,54,94,34,8] ?_
 intro x9 e9 _
 exact az [117]
theorem qo1 {r:(qDU×Int×Int)}(hm:qfJ F i1 m1 i2 i3 i4 i5=some r) :
    Pure qD3 271 [.agg #[qDW i1,qDX l1 m1 t1],qDW i2,qDW i3,qDW i4,qDW i5] [qD1 l1 m1 t1] (qDV×Nat) (fun g=>.tuple #[qDX g.1 r.1 g.2,qDW r.2.1,qDW r.2.2]) (fun g=>[qD0 g.1 r.1 g.2]) (fun _=>[]):=by
 refine pureA func271 ntmps271 hm fun _=>?_
 refine au [32,4,113] ?_
 intro g9
 refine au [6,6,76] ?_
 refine qH [qDW i3,.bool false] ?_
 refine au [24,4] ?_
 intro g10
 refine au [51] ?_
 refine qP (fun (((x0,x3),a0,c0):(Int×qDU)×qDV×Nat)=>([(1,qDW x0),(10,qDX a0 x3 c0)],[],[qD0 a0 x3 c0],[],qfl F x0 x3)) ?_ ?_
 refine au [54,4,92,28,1] ?_
 refine qp [3,5,13,18] [1] [] [0] (fun (((x4,x9,x10,x11,x12),a1,c1):(Int×qDU×Int×Int×Bool)×qDV×Nat)=>([(1,qDW x4),(10,qDX a1 x9 c1),(19,qDW x10)],[⟨g10,359,[qDW x11,.bool x12]⟩],[qD0 a1 x9 c1],[])) (i2,([]:qDU),(0:Int),i3,false) (none,0) ?_
 intro k0
 rintro ⟨⟨x4,x9,x10,x11,x12⟩,a1,c1⟩
 refine aw [39,1,5,24,6,0,2,1,13] ?_ ?_
 refine au [136,129,106,4,4] ?_
 refine qd qiV ?_
 intro x13 e0 _
 refine aw [4,24,1,24,1,24,1,6,6,6,0,2,1,5,4,25,8,0,2,13] ?_ ?_
 refine au [54,6,6,75,125,60,25,13] ?_
 exact qx (none,0)
 refine au [135,54,4] ?_
 refine qt qim ?_
 intro x14 e1 _
 refine aw [25,12,0,2,13] ?_ ?_
 refine au [48,6,6,75,125,60,25,13] ?_
 exact qx (none,0)
 refine au [69,5,4,4,94] ?_
 refine zB [x14.2.1] (fun a2 c2=>?_)
 refine zw 1 (qD .i64) rfl underlying56 tf3 rfl rfl rfl rfl rfl (.inl ⟨0,_,rfl⟩) rfl rfl (fun x15 e2 a4 c3=>?_)
 refine au [6,0,146] ?_
 exact qk ((x13.2.1,x15,iadd .i64 x10 1,x14.2.1,x14.2.2),a4,c3)
 refine au [91] ?_
 exact qa ((x4,x9),a1,c1)
 rintro ⟨⟨x0,x3⟩,a0,c0⟩
 refine au [120,4,6,6,52] ?_
 exact qx (a0,c0)
theorem qis (F g1:Nat)(x2:Int)(x3:qDU)(a4:qDV)(c5:Nat)(x6 x7:Int)(x8:qDU)(a9:qDV)(c10:Nat)(x11 x12 x13:Int)(r:((qDU×Int×Int) ⊕ (Int×Int)))(hm:vO F x2 x3 x6 x7 x8 x11 x12 x13=some r) :
    PureL qD3 244 [qDY g1,qDW x7,qDX a9 x8 c10,.agg #[qDW x11,qDW x12,qDW x13]] [⟨g1,263,[qDW x2,qDX a4 x3 c5,qDW x6]⟩] [] [qD1 a4 x3 c5,qDZ a9 x8 c10] lostCh (qDV×Nat) (fun (r:(qDU×Int×Int)) (g:qDV×Nat)=>qDX g.1 r.1 g.2) (fun (r:(qDU×Int×Int)) (_:qDV×Nat)=>[⟨g1,263,[qDW r.2.1,qDX a4 x3 c5,qDW r.2.2]⟩]) (fun (r:(qDU×Int×Int)) (g:qDV×Nat)=>[qD0 g.1 r.1 g.2]) (fun (z:Int×Int)=>[⟨g1,263,[qDW z.1,qDX a4 x3 c5,qDW z.2]⟩]) r:=by
 refine qhF func244 rfl ntmps244 rfl hm (fun w=>?_)
 refine au [28,12,113] ?_
 intro g14
 refine au [76] ?_
 refine yi EnC.e rfl rfl rfl (fun x15 e15=>yB F g1 x2 x3 a4 c5 x6 300 x15 e15) (.cons 1 rfl .nil) .nil (.consF 0 rfl .nil) (fun x16 _=>?_) (fun x15 e15=>?_)
 exact az [142]
 intro _
 refine aw [6,0,2,1,1,5,4,25,11,0,2,13] ?_ ?_
 refine au [48,105] ?_
 exact qdM (none,0) (.inl rfl) (res1 rfl rfl) rfl (.cons 0 rfl .nil) (.cons 0 rfl .nil)
 refine au [131,51] ?_
 refine qj [0,1,7,9] [1] [] [0] (fun (((x31,x32,x33),a29,c30):(qDU×Int×Int)×qDV×Nat)=>([(10,qDX a29 x31 c30)],[⟨g1,263,[qDW x32,qDX a4 x3 c5,qDW x33]⟩],[qD0 a29 x31 c30],[],yM F x3 x7 x12 x13 x15 x31 x32 x33)) ?_ ?_
 refine aw [1,5,12,26,1,25,6,0,2,13] ?_ ?_
 refine au [48,76,4,4,24,10] ?_
 refine yi EnC.e rfl rfl rfl (fun x72 e72=>qhk F g1 x15.2.1 x3 a4 c5 x15.2.2 (x8.length:Int) x72 e72) (.cons 0 rfl .nil) .nil (.consF 0 rfl .nil) (fun x73 _=>?_) (fun x72 e72=>?_)
 exact az [26,2,142]
 rintro ⟨a74,c75⟩
 refine qd qnw ?_
 rintro x76 e76 ⟨a77,c78⟩
 refine au [4,64,6,51,5,4,25,11,4] ?_
 refine qai 5 36 41 [0,1,7,9,10] (decide ((x76.1.length:Int)≤x15.1)) ?_ ?_ ?_
 exact az [4,86,28,10,71]
 exact az [88,70]
 refine yi EnC.e rfl rfl rfl (fun x80 e80=>qak F (((x76.2:Int) == 0) && decide ((x76.1.length:Int)≤x15.1)) x80 e80) .nil .nil .nil (fun x81 _=>?_) (fun x80 e80=>?_)
 exact az [142]
 intro _
 refine au [0] ?_
 exact qa ((x76.1,x72.2.1,x72.2.2),a77,c78)
 refine au [16,25,13] ?_
 exact qa ((([]:qDU),x15.2.1,x15.2.2),none,0)
 rintro ⟨⟨x31,x32,x33⟩,a29,c30⟩
 refine aw [39,1,5,4,4,24,10,25,14,6,0,2,1,1,5,4,25,11,0,2,13] ?_ ?_
 refine au [54,75] ?_
 exact qdM (a29,c30) (.inl rfl) (res1 rfl rfl) rfl (.cons 1 rfl .nil) (.cons 0 rfl .nil)
 refine au [131,51] ?_
 refine qj [0,1,7,10,12] [0] [0] [0] (fun (((x42,x43,x44),a40,c41):(List (Int×Int)×Int×Int)×qDV×Nat)=>([(13,qDX a40 x42 c41)],[⟨g1,263,[qDW x43,qDX a4 x3 c5,qDW x44]⟩],[Ro eS209 209 2 (qDX a40 x42 c41) x42],[],yN F x3 x7 x13 x15 x31 x42 x43 x44)) ?_ ?_
 refine aw [1,5,12,24,0,25,6,0,2,13] ?_ ?_
 refine au [5,4,4,57,4] ?_
 refine yi EnC.e rfl rfl rfl (fun x66 e66=>qiu F g1 x32 x3 a4 c5 x33 x7 x12 (isub .i64 x15.1 (x31.length:Int)) x66 e66) (.cons 1 rfl .nil) .nil (.consF 0 rfl .nil) (fun x67 _=>?_) (fun x66 e66=>?_)
 exact az [142]
 rintro ⟨a68,c69⟩
 refine au [6,0] ?_
 exact qa ((x66.1,x66.2.1,x66.2.2),a68,c69)
 refine au [16] ?_
 exact qfC (Int×Int) eS209 209 2 (qa ((([]:List (Int×Int)),x32,x33),none,0))
 rintro ⟨⟨x42,x43,x44⟩,a40,c41⟩
 refine au [120,26,15] ?_
 refine qd qny ?_
 rintro x45 e45 ⟨a46,c47⟩
 refine au [4,64,6,76,25,11,4] ?_
 refine qai 5 66 71 [0,1,7,10,12,14] (decide ((x45.1.length:Int)≤(isub .i64 x15.1 (x31.length:Int)))) ?_ ?_ ?_
 exact az [4,86,28,10,71]
 exact az [88,70]
 refine yi EnC.e rfl rfl rfl (fun x49 e49=>qak F (((x45.2:Int) == 0) && decide ((x45.1.length:Int)≤(isub .i64 x15.1 (x31.length:Int)))) x49 e49) .nil .nil .nil (fun x50 _=>?_) (fun x49 e49=>?_)
 exact az [26,2,36,14]
 intro _
 refine au [50,1] ?_
 refine qJ [] [0,0] [0] 23 ?_
 refine au [89,21,2] ?_
 refine qA 3 (.agg #[qDW x43,.slice a4 x3.length c5]) rfl rfl rfl (qy (i:=1) rfl tf65 rfl rfl (by simp) rfl) ?_
 refine au [3,4,3,5,21,6,26,13,7,3,8,21,9,25,4,10,127,28,8,13,3,14,7,15] ?_
 refine qd qo1 ?_
 rintro x54 e54 ⟨a55,c56⟩
 refine au [0,30,9,3,16,3,17,3,18,46,3,21,3,22,53,2,54,25,11] ?_
 refine yi EnC.e rfl rfl rfl (fun x57 e57=>qak F ((x54.2.2:Int) == 0) x57 e57) .nil .nil .nil (fun x58 _=>?_) (fun x57 e57=>?_)
 exact az [26,2,36,14]
 intro _
 refine au [50,54,4,85,25,10,50,54,4,4] ?_
 refine qiH 3 rfl (qiH 1 rfl ?_)
 refine au [32,8] ?_
 refine qaj (vs:=[qDX a29 x31 c30,qDX a46 x45.1 c47,qDX a55 x54.1 c56]) (ys:=([(x31,a29,c30),(x45.1,a46,c47),(x54.1,a55,c56)]:List (qDU×qDV×Nat))) qq (by decide) rfl underlying22 tf56 rfl rfl rfl rfl rfl (by decide) (fun a59 c60=>qnc (inn:=iN56) ([x31,x45.1,x54.1]:List (qDU)) ([(a29,c30),(a46,c47),(a55,c56)]:List (qDV×Nat)) 0 rfl rfl (qi 2 rfl (qi 1 rfl (qi 0 rfl zG))) ?_)
 refine au [36,13] ?_
 rintro x61 e61 ⟨a62,c63⟩
 refine au [76,31,10] ?_
 intro x64 e64 _
 refine au [27,0] ?_
 intro h65
 replace h65:=of_decide_eq_true h65
 refine qr (d:=10) (v:=qDX a62 x64 c63) rfl (by simp only[qDX,h65] <;> rfl) (qr (d:=104) (v:=qDX a62 x64 c63) rfl (by simp only[qDX,h65] <;> rfl) (qr (d:=105) (v:=qDX a62 x64 c63) rfl (by simp only[qDX,h65] <;> rfl) ?_))
 refine au [50,54,52] ?_
 exact qdM (a62,c63) (.inl rfl) (res1 rfl rfl) rfl (.cons 1 rfl .nil) (.cons 0 rfl .nil)
theorem qit {r:(qDU×Bool×Int×Int)}(hm:vP F i1 m1 i2 i3 m2 i4 i5 i6=some r) :
    PureM qD3 201 [qDY t1,qDW i3,qDX l2 m2 t3,.agg #[qDW i4,qDW i5,qDW i6]] [⟨t1,263,[qDW i1,qDX l1 m1 t2,qDW i2]⟩] [] [qD1 l1 m1 t2,qDZ l2 m2 t3] (qDV×Nat) (fun g=>.tuple #[qDX g.1 r.1 g.2,.bool r.2.1]) (fun _=>[⟨t1,263,[qDW r.2.2.1,qDX l1 m1 t2,qDW r.2.2.2]⟩]) (fun g=>[qD0 g.1 r.1 g.2]):=by
 refine qv5 func201 rfl ntmps201 rfl hm (fun w=>?_)
 refine au [28,12,113] ?_
 intro g14
 refine au [19] ?_
 intro g15
 refine au [19] ?_
 intro g16
 refine au [50,48,27,10] ?_
 refine quf rfl rfl ?_
 refine au [50,54,85,29,2,76,4,4,26,11] ?_
 refine yi EnC.e rfl rfl rfl (fun x17 e17=>qis F t1 i1 m1 l1 t2 i2 i3 m2 l2 t3 i4 i5 i6 x17 e17) (.cons 3 rfl .nil) .nil (.consF 0 rfl (.consF 1 rfl .nil)) (fun x18 _=>?_) (fun x17 e17=>?_)
 refine au [26,2] ?_
 refine qfB EnC.e rfl (.cons 2 rfl (.cons 1 rfl .nil)) (qjk _ _ _ _) ?_
 refine au [25,13] ?_
 exact yD (none,0) (resL (rs:=[.cell 8 56,.cell 9 4]) rfl (.cell (i:=0) rfl tf56 rfl rfl (fun _=>rfl) rfl (.cell (i:=1) rfl tf4 rfl rfl (fun _=>rfl) rfl ResOk.nil)) rfl) (hB:=fun h=>by subst h;exact (.cons 2 rfl .nil)) (hR:=fun h=>by subst h;exact (.cons 0 rfl .nil))
 rintro ⟨a19,c20⟩
 refine au [27,14,50,48,26,4,30,7] ?_
 intro x21 e21 _
 refine au [25,11] ?_
 refine yi EnC.e rfl rfl rfl (fun x22 e22=>qak F ((x21:Int) == 0) x22 e22) .nil .nil .nil (fun x23 _=>?_) (fun x22 e22=>?_)
 refine au [26,2] ?_
 refine qfB EnC.e rfl (.cons 2 rfl (.cons 1 rfl .nil)) (qjk _ _ _ _) ?_
 refine au [25,13] ?_
 exact yD (none,0) (resL (rs:=[.cell 8 56,.cell 9 4]) rfl (.cell (i:=0) rfl tf56 rfl rfl (fun _=>rfl) rfl (.cell (i:=1) rfl tf4 rfl rfl (fun _=>rfl) rfl ResOk.nil)) rfl) (hB:=fun h=>by subst h;exact (.cons 2 rfl .nil)) (hR:=fun h=>by subst h;exact (.cons 0 rfl .nil))
 intro _
 refine au [50,48] ?_
 refine qH [qDW 0,.slice none 0 0,.bool false] ?_
 refine au [24,4] ?_
 intro g24
 refine au [76,4,29,2,4] ?_
 refine zW (i:=4) rfl rfl inferInstance rfl rfl (by simp) rfl rfl ?_
 refine au [29,11,35,6] ?_
 rintro x25 e25 ⟨a26,c27⟩
 refine au [50] ?_
 refine qj [0,8,9,10,11] [0,1,2,3] [0,1] [0] (fun ((_,_):Unit×Unit)=>([],[],[],[],vZ F m1 i2 x17 x25)) ?_ ?_
 refine av [30,5] ?_ ?_
 intro h97
 refine qj8 mixed [8,9] [] [⟨g24,316,[qDW x25.1,qDX a26 x25.2.1 c27,.bool x25.2.2]⟩,⟨t1,263,[qDW x17.2.1,qDX l1 m1 t2,qDW x17.2.2]⟩,⟨g16,4,[.bool false]⟩,⟨g15,56,[qDX a19 x17.1 c20]⟩,⟨g14,26,[qDW i4,qDW i5,qDW i6]⟩] [qD1 l1 m1 t2,qDZ l2 m2 t3] (.cons 0 rfl (.cons 0 rfl (.cons 0 rfl (.cons 0 rfl (.cons 0 rfl .nil))))) (qh 0 rfl (qh 1 rfl qf)) 20 rfl ?_
 refine au [32,9,32,10,32,11] ?_
 refine qdJ 3 (.bool x25.2.2) rfl rfl rfl (qy (i:=0) rfl tf4 rfl rfl (fun _=>rfl) rfl) rfl ?_
 refine au [32,12,36,15] ?_
 refine yI 40 h97 ?_
 refine au [37,0,37,1,37,2] ?_
 refine kw 9 _ rfl rfl rfl (za rfl inferInstance) rfl (qdJ 10 (qDW x25.1) rfl rfl rfl (qy (i:=0) rfl tf3 rfl rfl (fun _=>rfl) rfl) rfl ?_)
 refine au [37,3,37,4] ?_
 refine kw 13 _ rfl rfl rfl (za rfl inferInstance) rfl (qdJ 14 (qDW x17.2.2) rfl rfl rfl (qy (i:=1) rfl tf3 rfl rfl (fun _=>rfl) rfl) rfl (kw 15 _ rfl rfl rfl (zv rfl) rfl (kw 16 _ rfl rfl rfl (zv rfl) rfl (kw 17 _ rfl rfl rfl (zv rfl) rfl ?_))))
 refine au [37,5,7,19] ?_
 refine yi EnC.e rfl rfl rfl (fun x98 e98=>qak F ((x25.1:Int) == (isub .i64 x17.2.2 i2)) x98 e98) .nil .nil .nil (fun x99 _=>?_) (fun x98 e98=>?_)
 refine au [26,2] ?_
 refine qoC (l':=[(8,qDY g15),(9,qDY g16)]) (qhO rfl rfl (qhO rfl rfl qq7)) ?_
 refine au [26,2] ?_
 refine qfB EnC.e rfl (.cons 3 rfl (.cons 2 rfl .nil)) (qjk _ _ _ _) ?_
 refine au [25,13] ?_
 exact yD (none,0) (resL (rs:=[.cell 8 56,.cell 9 4]) rfl (.cell (i:=0) rfl tf56 rfl rfl (fun _=>rfl) rfl (.cell (i:=1) rfl tf4 rfl rfl (fun _=>rfl) rfl ResOk.nil)) rfl) (hB:=fun h=>by subst h;exact (.cons 3 rfl .nil)) (hR:=fun h=>by subst h;exact (.cons 0 rfl .nil))
 intro _
 refine au [0,37,6,14] ?_
 refine qrG ?_ (by intro c h;cases h)
 exact az [26,12]
 intro h97
 refine qj8 mixed [8,9] [] [⟨g24,316,[qDW x25.1,qDX a26 x25.2.1 c27,.bool x25.2.2]⟩,⟨t1,263,[qDW x17.2.1,qDX l1 m1 t2,qDW x17.2.2]⟩,⟨g16,4,[.bool false]⟩,⟨g15,56,[qDX a19 x17.1 c20]⟩,⟨g14,26,[qDW i4,qDW i5,qDW i6]⟩] [qD1 l1 m1 t2,qDZ l2 m2 t3] (.cons 0 rfl (.cons 0 rfl (.cons 0 rfl (.cons 0 rfl (.cons 0 rfl .nil))))) (qh 0 rfl (qh 1 rfl qf)) 20 rfl ?_
 refine au [32,9,32,10,32,11] ?_
 refine qdJ 3 (.bool x25.2.2) rfl rfl rfl (qy (i:=0) rfl tf4 rfl rfl (fun _=>rfl) rfl) rfl ?_
 refine au [32,12,36,15] ?_
 refine yI 40 h97 ?_
 refine jb 6 rfl rfl rfl rfl (jb 7 rfl rfl rfl rfl (jb 8 rfl rfl rfl rfl (jb 9 rfl rfl rfl rfl (jb 10 rfl rfl rfl rfl (jb 11 rfl rfl rfl rfl (jb 12 rfl rfl rfl rfl (jb 13 rfl rfl rfl rfl (jb 14 rfl rfl rfl rfl (jb 15 rfl rfl rfl rfl (jb 16 rfl rfl rfl rfl (jb 17 rfl rfl rfl rfl ?_)))))))))))
 refine au [37,5,7,19] ?_
 refine yi EnC.e rfl rfl rfl (fun x0 e0=>qak F false x0 e0) .nil .nil .nil (fun x1 _=>?_) (fun x0 e0=>?_)
 refine au [26,2] ?_
 refine qoC (l':=[(8,qDY g15),(9,qDY g16)]) (qhO rfl rfl (qhO rfl rfl qq7)) ?_
 refine au [26,2] ?_
 refine qfB EnC.e rfl (.cons 3 rfl (.cons 2 rfl .nil)) (qjk _ _ _ _) ?_
 refine au [25,13] ?_
 exact yD (none,0) (resL (rs:=[.cell 8 56,.cell 9 4]) rfl (.cell (i:=0) rfl tf56 rfl rfl (fun _=>rfl) rfl (.cell (i:=1) rfl tf4 rfl rfl (fun _=>rfl) rfl ResOk.nil)) rfl) (hB:=fun h=>by subst h;exact (.cons 3 rfl .nil)) (hR:=fun h=>by subst h;exact (.cons 0 rfl .nil))
 intro _
 refine au [0,37,6,14] ?_
 refine qrG ?_ (by intro c h;cases h)
 exact az [26,12]
 rintro ⟨_,_⟩
 try dsimp only
 refine qj [8,9] [1,2,3] [1] [0] (fun ((_,_):Unit×Unit)=>([],[],[],[],qdx F x17)) ?_ ?_
 refine au [54,85,57,4,92] ?_
 refine qp [0,8,9,10,11,59] [0,0,0,0] [0,0] [0] (fun ((x75,_):Int×Unit)=>([(60,qDW x75)],[],[],[])) (0:Int) () ?_
 intro k86
 rintro ⟨x75,_⟩
 refine aw [39,1,5,24,6,0,2,1,13] ?_ ?_
 refine au [137,51] ?_
 refine qj8 mixed [8,9] [] [⟨g24,316,[qDW x25.1,qDX a26 x25.2.1 c27,.bool x25.2.2]⟩,⟨t1,263,[qDW x17.2.1,qDX l1 m1 t2,qDW x17.2.2]⟩,⟨g16,4,[.bool false]⟩,⟨g15,56,[qDX a19 x17.1 c20]⟩] [qD1 l1 m1 t2] (.cons 0 rfl (.cons 0 rfl (.cons 0 rfl (.cons 0 rfl .nil)))) (qh 0 rfl qf) 16 rfl ?_
 refine au [32,9,32,10,32,11] ?_
 refine qdJ 3 (.agg #[qDW x25.1,.slice a26 x25.2.1.length c27]) rfl rfl rfl (qy (i:=0) rfl tf65 rfl rfl (by simp) rfl) rfl ?_
 refine au [32,12,37,0,37,1,37,2] ?_
 refine qdJ 9 (.agg #[qDW x17.2.1,.slice l1 m1.length t2]) rfl rfl rfl (qy (i:=1) rfl tf65 rfl rfl (by simp) rfl) rfl (kw 10 _ rfl rfl rfl (zv rfl) rfl ?_)
 refine au [37,3,37,4,7,5,29,9] ?_
 intro x92 e92 _
 refine au [0,32,13,7,13,29,9] ?_
 intro x93 e93 _
 refine au [0,32,13] ?_
 refine kw 14 _ rfl rfl rfl (zv rfl) rfl ?_
 refine au [7,15] ?_
 refine yi EnC.e rfl rfl rfl (fun x94 e94=>qak F ((x92:Int) == x93) x94 e94) .nil .nil .nil (fun x95 _=>?_) (fun x94 e94=>?_)
 refine au [26,2] ?_
 refine qoC (l':=[(8,qDY g15),(9,qDY g16)]) (qhO rfl rfl (qhO rfl rfl qq7)) ?_
 refine au [28,13,26,2,26,2,28,13,26,2] ?_
 refine qfB EnC.e rfl (.cons 3 rfl (.cons 2 rfl .nil)) (qjk _ _ _ _) ?_
 refine au [25,13] ?_
 exact yD (none,0) (resL (rs:=[.cell 8 56,.cell 9 4]) rfl (.cell (i:=0) rfl tf56 rfl rfl (fun _=>rfl) rfl (.cell (i:=1) rfl tf4 rfl rfl (fun _=>rfl) rfl ResOk.nil)) rfl) (hB:=fun h=>by subst h;exact (.cons 3 rfl .nil)) (hR:=fun h=>by subst h;exact (.cons 0 rfl .nil))
 intro _
 refine au [0,32,13,14] ?_
 refine qrG ?_ (by intro c h;cases h)
 refine au [146] ?_
 exact qk (iadd .i64 x75 1,())
 exact az [130]
 rintro ⟨_,_⟩
 refine au [140,26,4,27,14,25,10,50,11] ?_
 exact qrH (.inl rfl) EnC.e rfl (qxT _ _) (yD (a19,c20) (resL (rs:=[.cell 8 56,.cell 9 4]) rfl (.cell (i:=2) rfl tf56 rfl rfl (fun _=>rfl) rfl (.cell (i:=1) rfl tf4 rfl rfl (fun _=>rfl) rfl ResOk.nil)) rfl) (hB:=fun h=>by subst h;exact (.cons 0 rfl .nil)) (hR:=fun h=>by subst h;exact (.cons 0 rfl .nil)))
theorem qkg {r:(qDU×Int×Int)}(hm:qap F i1 m1 i2 i3 m2 i4 i5 i6=some r) :
    Pure qD3 171 [.agg #[qDW i1,qDX l1 m1 t1],qDW i2,qDW i3,qDX l2 m2 t2,.agg #[qDW i4,qDW i5,qDW i6]] [qD1 l1 m1 t1,qDZ l2 m2 t2] (qDV×Nat) (fun g=>.tuple #[qDX g.1 r.1 g.2,qDW r.2.1,qDW r.2.2]) (fun g=>[qD0 g.1 r.1 g.2]) (fun _=>[]):=by
 refine pureA func171 ntmps171 hm fun _=>?_
 refine au [32,4,113] ?_
 intro g13
 refine au [24,4] ?_
 intro g14
 refine au [6,6,97,26,0,4] ?_
 refine qH [qDW i1,qDX l1 m1 t1,qDW i2] ?_
 refine au [24,4] ?_
 intro g15
 refine au [76,4,4,26,0] ?_
 refine qt qit ?_
 rintro x16 e16 ⟨a17,c18⟩
 refine aw [4,24,1,24,1,6,6,0,2,1,1,5,4,25,12,0,2,13] ?_ ?_
 refine au [48,6,6,105] ?_
 exact qx (none,0)
 refine au [135] ?_
 refine qJ [] [0,0,0] [0,1] 8 ?_
 refine au [115,21,3,25,4,4,3,5,87,53,2,11] ?_
 exact qx (a17,c18)
theorem qnv {r:(List (qDU)×Bool)}(hm:qgM F i1 i2 i3 i4 i5 m1=some r) :
    Pure qD3 196 [.agg #[qDW i1,qDW i2,qDW i3,qDW i4,qDW i5,qDX l1 m1 t1]] [qD1 l1 m1 t1] (qDV×Nat×List (qDV×Nat)) (fun g=>.tuple #[qDX g.1 r.1 g.2.1,.bool r.2]) (fun g=>[RoN eN56 rN56 56 1 (qDX g.1 r.1 g.2.1) r.1 g.2.2 []]) (fun _=>[]):=by
 refine pureA func196 ntmps196 hm fun _=>?_
 refine au [104] ?_
 intro g9
 refine au [6,97,51] ?_
 refine qj [1] [0] [] [0] (fun (((x0,x7),a0,c0):(List (qDU)×Int)×qDV×Nat×List (qDV×Nat))=>([(2,qDX a0 x0 c0.1),(4,qDW x7)],[],[RoN eN56 rN56 56 1 (qDX a0 x0 c0.1) x0 c0.2 []],[],qeD F i5 x0 x7)) ?_ ?_
 refine au [48,57,4,92] ?_
 refine qwK (qDU) (qDV×Nat) eN56 rN56 56 1 (qp [1,14] [0] [] [0] (fun (((x8,x9,x10),a1,c1):(List (qDU)×Int×Int)×qDV×Nat×List (qDV×Nat))=>([(2,qDX a1 x8 c1.1),(4,qDW x9),(15,qDW x10)],[],[RoN eN56 rN56 56 1 (qDX a1 x8 c1.1) x8 c1.2 []],[])) (([]:List (qDU)),(0:Int),(0:Int)) (none,0,([]:List (qDV×Nat))) ?_)
 intro k0
 rintro ⟨⟨x8,x9,x10⟩,a1,c1⟩
 refine aw [39,1,5,24,6,0,2,1,13] ?_ ?_
 refine au [69] ?_
 refine qj [1,14,15] [0] [] [0] (fun (((x11,x12),a2,c2):(List (qDU)×Int)×qDV×Nat×List (qDV×Nat))=>([(2,qDX a2 x11 c2.1),(4,qDW x12)],[],[RoN eN56 rN56 56 1 (qDX a2 x11 c2.1) x11 c2.2 []],[],qaP F (qaQ F i1 i2 i3 i4 i5 m1 k0) x10 x11 x12)) ?_ ?_
 refine au [122,97,25,0,4,4] ?_
 refine qd qkS ?_
 intro x13 e0 _
 refine aw [4,24,1,24,1,24,1,6,6,6,0,2,1,1,5,4,25,12,0,2,13] ?_ ?_
 refine au [48,6,75,125,60,27,5] ?_
 exact qx (none,0,([]:List (qDV×Nat)))
 refine aw [16,2,1,5,6,0,2,1,1,5,4,25,6,0,2,13] ?_ ?_
 refine au [5,4,4,4,25,14,31,9] ?_
 intro x14 e1 g0 h0 g1 h1
 refine qkc (i:=0) rfl h0 (List.not_mem_nil) (qiJ (j:=1) (p:=(x14,g0)) qq rfl rfl tf56 rfl h1 h0 rfl (fun _=>rfl) rfl rfl ?_)
 refine au [97,134,19] ?_
 intro g2
 refine au [132,54,12,132,48,12,26,0,4,4,4,25,0,37,7] ?_
 rintro x15 e2 ⟨a3,c3⟩
 refine au [4,64,24,1,6,6,129,1] ?_
 refine qiG (rin:=rN56) (p:=(x14,g0)) (i:=1) (k:=0) (.cons 1 rfl .nil) rfl rfl h0 ?_
 refine aw [5,4,25,8,0,2,13] ?_ ?_
 refine au [48,6,75,125,60,27,5] ?_
 exact qx (none,0,([]:List (qDV×Nat)))
 refine au [69,5,4,4] ?_
 refine qaj (vs:=[qDX a3 x15.1 c3]) (ys:=([(x15.1,a3,c3)]:List (qDU×qDV×Nat))) qq (by decide) rfl underlying22 tf56 rfl rfl rfl rfl rfl (by decide) (fun a4 c4=>qlW (rin:=rN56) (i:=0) ([x15.1]:List (qDU)) ([(a3,c3)]:List (qDV×Nat)) rfl rfl (.cons 1 rfl .nil) (qqd qq rfl UnF.u inferInstance rfl rfl rfl rfl (.cons 1 rfl (.cons 0 rfl .nil)) rfl rfl ?_))
 intro x16 e3 a5 c5
 refine au [4,6,6,0,24,7] ?_
 exact qa ((x16,x15.2.1),a5,c5,(c1.2++([(a3,c3)]:List (qDV×Nat))))
 refine au [131,134,19] ?_
 intro g3
 refine au [132,54,12,132,48,12,26,0,4,4,4,25,0,26,15,37,7] ?_
 rintro x17 e4 ⟨a6,c6⟩
 refine aw [4,24,1,24,1,24,1,6,6,6,0,2,1,1,5,4,25,8,0,2,13] ?_ ?_
 refine au [48,6,75,125,60,27,5] ?_
 exact qx (none,0,([]:List (qDV×Nat)))
 refine au [69,5,4,4] ?_
 refine qaj (vs:=[qDX a6 x17.1 c6]) (ys:=([(x17.1,a6,c6)]:List (qDU×qDV×Nat))) qq (by decide) rfl underlying22 tf56 rfl rfl rfl rfl rfl (by decide) (fun a8 c7=>qlW (rin:=rN56) (i:=0) ([x17.1]:List (qDU)) ([(a6,c6)]:List (qDV×Nat)) rfl rfl (.cons 0 rfl .nil) (qqd qq rfl UnF.u inferInstance rfl rfl rfl rfl (.cons 2 rfl (.cons 0 rfl .nil)) rfl rfl ?_))
 intro x18 e5 a9 c9
 refine au [4,6,6,0,24,7] ?_
 exact qa ((x18,x17.2.1),a9,c9,(c1.2++([(a6,c6)]:List (qDV×Nat))))
 rintro ⟨⟨x11,x12⟩,a2,c2⟩
 refine au [39,145] ?_
 exact qk ((x11,x12,iadd .i64 x10 1),a2,c2)
 refine au [91] ?_
 exact qa ((x8,x9),a1,c1)
 rintro ⟨⟨x0,x7⟩,a0,c0⟩
 refine au [39,1] ?_
 refine qJ [] [0] [0] 8 ?_
 refine au [89,21,2,21,3,25,4,4,3,5,87,53,2,11] ?_
 exact qx (a0,c0)
theorem qfW (hm:q8 F m1 m2=some d1) :
    qD4 197 [qDX l1 m1 t1,qDX l2 m2 t2] [qD1 l1 m1 t1,qD1 l2 m2 t2] (.bool d1):=by
 refine pureA func197 ntmps197 hm fun _=>?_
 refine aw [24,14,1,5,6,0,2,1,1,5,4,24,10,4,24,10,25,8,0,2,13] ?_ ?_
 exact az [48,96]
 refine au [69] ?_
 refine qP (fun ((_,_):Unit×Unit)=>([],[],[],[],qbr F)) ?_ ?_
 refine au [114] ?_
 refine qp [0,1,12] [] [] [0,1] (fun ((x0,_):Int×Unit)=>([(13,qDW x0)],[],[],[])) (0:Int) () ?_
 intro k0
 rintro ⟨x0,_⟩
 refine aw [39,1,5,24,6,0,2,1,13] ?_ ?_
 refine au [137,129,36,5] ?_
 intro x2 e0 b0 o0 h0
 replace h0:l1=some ⟨b0,o0,none⟩:=h0
 refine qgF (j:=2) (qD .u8) (by decide) rfl ?_
 intro x3 e1 b1 o1 h1
 replace h1:l2=some ⟨b1,o1,none⟩:=h1
 refine qJ [] [] [0,1,2,3] 9 ?_
 refine au [89] ?_
 refine v7 2 h0 e0 ?_
 refine qB 3 (.int .u8 x2) [] rfl rfl rfl (qZ (j:=1) rfl tf5 rfl rfl (fun _=>rfl) rfl) ?_
 refine au [3,4,3,5] ?_
 refine v7 6 h1 e1 ?_
 refine qB 7 (.int .u8 x3) [] rfl rfl rfl (qZ (j:=0) rfl tf5 rfl rfl (fun _=>rfl) rfl) ?_
 refine aw [3,8,14,15,2,13] ?_ ?_
 exact az [48,52,125,119]
 refine au [16,146] ?_
 exact qk (iadd .i64 x0 1,())
 exact az [130]
 rintro ⟨_,_⟩
 exact az [140,90]
theorem qo4 {r:(List (qDU)×Int)}(hm:qfM F i1 i2 i3 i4 i5 m1=some r) :
    Pure qD3 167 [.agg #[qDW i1,qDW i2,qDW i3,qDW i4,qDW i5,qDX l1 m1 t1]] [qD1 l1 m1 t1] (qDV×Nat×List (qDV×Nat)) (fun g=>.tuple #[.agg #[qDX g.1 r.1 g.2.1],qDW r.2]) (fun g=>[RoN eN56 rN56 56 1 (qDX g.1 r.1 g.2.1) r.1 g.2.2 []]) (fun _=>[]):=by
 refine pureA func167 ntmps167 hm fun _=>?_
 refine au [104] ?_
 intro g9
 refine au [19] ?_
 intro g10
 refine au [129,48,26,0] ?_
 refine qd qnt ?_
 intro x13 e13 _
 refine aw [6,0,2,1,5,4,25,8,0,2,13] ?_ ?_
 refine au [48] ?_
 refine qH [.slice none 0 0] ?_
 exact az [4,17,75,27,5,30,2]
 refine au [131,26,0] ?_
 refine qd qnv ?_
 rintro x14 e14 ⟨a15,c16⟩
 refine aw [4,24,1,24,1,6,6,0,2,1,1,5,4,25,12,0,2,13] ?_ ?_
 refine au [48] ?_
 refine qH [.slice none 0 0] ?_
 exact az [17,75,27,5,30,2]
 refine au [69,54] ?_
 refine qH [qDX a15 x14.1 c16.1] ?_
 refine au [19] ?_
 intro g18
 refine au [132,1,106,12,26,11,31,3] ?_
 rintro x28 e28 ⟨a29,c30⟩
 refine au [4,64,19] ?_
 intro g31
 refine au [17,76,25,8,4] ?_
 refine kX 9 [2,7] [1,2] [1] [] (fun ((x34,_):Bool×Unit)=>([(44,.bool x34)],[],[],[],qc2 F x14 x34)) ?_ ?_
 refine qG (os:=_) rfl ?_
 refine av [26,8] ?_ ?_
 intro h32
 refine kH (k:=35) rfl h32 ?_
 refine au [88,88,112] ?_
 exact qa (true,())
 intro h32
 refine kG (k:=35) rfl h32 ?_
 refine au [12,57,12,12,29,2,31,5] ?_
 intro x36 e36 _
 refine au [25,12,111] ?_
 exact qa ((!x36),())
 rintro ⟨x34,_⟩
 try dsimp only
 refine qG (os:=_) rfl ?_
 refine aw [0,2,13] ?_ ?_
 refine au [48] ?_
 refine qH [.slice none 0 0] ?_
 exact az [25,10,75,27,5,33,13]
 refine au [69,106,25,10,52] ?_
 exact kp (a15,c16) 1
theorem qnA (hm:qeS F i1 i2 i3 i4 m1 i5 m2 i6 i7 i8 i9 m3 i10 m4=some d1) :
    qD4 168 [.agg #[qDW i1,qDW i2,qDW i3,qDW i4,qDX l1 m1 t1,qDW i5,qDX l2 m2 t2],.agg #[qDW i6,qDW i7,qDW i8,qDW i9,qDX l3 m3 t3,qDW i10,qDX l4 m4 t4]] [qD1 l1 m1 t1,qD1 l2 m2 t2,qD1 l3 m3 t3,qD1 l4 m4 t4] (.bool d1):=by
 refine pureA func168 ntmps168 hm fun _=>?_
 refine au [100] ?_
 intro g23
 refine au [24,4] ?_
 intro g24
 refine au [97,123,57,25,11,4] ?_
 refine qai 6 10 16 [2,3] ((i2:Int) == i7) ?_ ?_ ?_
 exact az [123,57,25,11,71]
 exact az [88,9,70]
 refine au [4] ?_
 refine qai 6 17 23 [2,3] ((i3:Int) == i8) ?_ ?_ ?_
 exact az [123,57,25,11,71]
 exact az [88,9,70]
 refine au [4] ?_
 refine qai 8 24 32 [2,3] ((i4:Int) == i9) ?_ ?_ ?_
 exact az [12,123,12,57,25,11,71]
 exact az [88,79,9,70]
 refine au [4] ?_
 refine qai 8 33 41 [2,3] ((i5:Int) == i10) ?_ ?_ ?_
 exact az [12,123,12,57,25,11,71]
 exact az [88,79,9,70]
 refine au [4] ?_
 refine kX 8 [2,3] [0,1] [] [2,3,0,1] (fun ((x31,_):Bool×Unit)=>([(50,.bool x31)],[],[],[],qcr F m2 m4 x31)) ?_ ?_
 refine qG (os:=_) rfl ?_
 refine av [26,8] ?_ ?_
 intro h29
 refine kH (k:=42) rfl h29 ?_
 refine au [12,123,12,57,31,5] ?_
 intro x36 e36 _
 refine au [112] ?_
 exact qa (x36,())
 intro h29
 refine kG (k:=42) rfl h29 ?_
 refine au [88,79,9,111] ?_
 exact qa (false,())
 rintro ⟨x31,_⟩
 try dsimp only
 refine qG (os:=_) rfl ?_
 refine au [4] ?_
 refine qgG 8 (fun ((x34,_):Bool×Unit)=>([(59,.bool x34)],[],[],[],qcs F x34)) ?_ ?_
 refine qG (os:=_) rfl ?_
 refine av [26,8] ?_ ?_
 intro h32
 refine kH (k:=51) rfl h32 ?_
 refine au [12,123,12,57,31,5] ?_
 intro x35 e35 _
 refine au [112] ?_
 exact qa (x35,())
 intro h32
 refine kG (k:=51) rfl h32 ?_
 refine au [88,79,9,111] ?_
 exact qa (false,())
 rintro ⟨x34,_⟩
 try dsimp only
 refine qG (os:=_) rfl ?_
 exact az [90]
theorem qkx {r:(Int×Int×Int×Int×Int×qDU×Int×Int×Int×Int×qDU×Int×qDU×Int)}(hm:qeH F p1 i1 i2 i3 i4 i5 m1=some r) :
    Pure qD3 122 [.agg #[qDX l1 p1 t1],.agg #[qDW i1,qDW i2,qDW i3,qDW i4,qDW i5,qDX l2 m1 t2]] [SlN eN56 iN56 1 (qDX l1 p1 t1) p1 n1,qD1 l2 m1 t2] ((qDV×Nat)×(qDV×Nat)×qDV×Nat) (fun g=>.tuple #[.agg #[qDW r.1,qDW r.2.1,qDW r.2.2.1,qDW r.2.2.2.1,qDW r.2.2.2.2.1,qDX g.1.1 r.2.2.2.2.2.1 g.1.2,qDW r.2.2.2.2.2.2.1,qDW r.2.2.2.2.2.2.2.1,qDW r.2.2.2.2.2.2.2.2.1,qDW r.2.2.2.2.2.2.2.2.2.1,qDX g.2.1.1 r.2.2.2.2.2.2.2.2.2.2.1 g.2.1.2,qDW r.2.2.2.2.2.2.2.2.2.2.2.1,qDX g.2.2.1 r.2.2.2.2.2.2.2.2.2.2.2.2.1 g.2.2.2],qDW r.2.2.2.2.2.2.2.2.2.2.2.2.2]) (fun g=>[qD2 g.2.1.1 r.2.2.2.2.2.2.2.2.2.2.1 g.2.1.2,qD2 g.2.2.1 r.2.2.2.2.2.2.2.2.2.2.2.2.1 g.2.2.2]) (fun _=>[]):=by
 refine pureA func122 ntmps122 hm fun _=>?_
 refine au [100] ?_
 intro g12
 refine au [24,4] ?_
 intro g13
 refine au [19] ?_
 intro g14
 refine au [97,26,11,12,26,0,36,2] ?_
 rintro x15 e15 ⟨⟨a16,c17⟩,a18,c19⟩
 refine aw [4,24,1,24,1,24,1,6,6,6,0,2,1,1,5,4,25,8,0,2,13] ?_ ?_
 refine au [48] ?_
 refine qH [qDW 0,qDW 0,qDW 0,qDW 0,qDW 0,.slice none 0 0,qDW 0,qDW 0,qDW 0,qDW 0,.slice none 0 0,qDW 0,.slice none 0 0] ?_
 refine au [4,17,75,138] ?_
 exact kp ((none,0),(none,0),none,0) 0
 refine au [69,54,12,123,36,3] ?_
 rintro x21 e21 ⟨⟨a22,c23⟩,a24,c25⟩
 refine au [4,64,19] ?_
 intro g26
 refine aw [17,6,0,2,1,1,5,4,25,8,0,2,13] ?_ ?_
 refine au [48] ?_
 refine qH [qDW 0,qDW 0,qDW 0,qDW 0,qDW 0,.slice none 0 0,qDW 0,qDW 0,qDW 0,qDW 0,.slice none 0 0,qDW 0,.slice none 0 0] ?_
 exact az [4,25,10,75,138,36,4]
 refine au [131,26,11,25,0] ?_
 refine qH [qDW i1,qDW i2,qDW i3,qDW i4,qDW i5,qDX l2 m1 t2,qDW x21.1,qDW x21.2.1,qDW x21.2.2.1,qDW x21.2.2.2.1,qDX a22 x21.2.2.2.2.1 c23,qDW x21.2.2.2.2.2.1,qDX a24 x21.2.2.2.2.2.2.1 c25] ?_
 refine au [25,10,52] ?_
 exact kp ((l2,t2),(a22,c23),a24,c25) 1
theorem qmi (hm:qd2 F i1 i2 i3 i4 i5 m1 i6 i7 i8 i9 m2 i10 m3=some i11) :
    qD4 123 [.agg #[qDW i1,qDW i2,qDW i3,qDW i4,qDW i5,qDX l1 m1 t1,qDW i6,qDW i7,qDW i8,qDW i9,qDX l2 m2 t2,qDW i10,qDX l3 m3 t3]] [qD1 l1 m1 t1,qD1 l2 m2 t2,qD1 l3 m3 t3] (qDW i11):=by
 refine pureA func123 ntmps123 hm fun _=>?_
 refine au [104] ?_
 intro g20
 refine au [97,134] ?_
 refine qd qo4 ?_
 rintro x21 e21 ⟨a22,c23⟩
 refine au [4,64,19] ?_
 intro g24
 refine aw [17,6,0,2,1,1,5,4,25,8,0,2,13] ?_ ?_
 exact az [54,96]
 refine au [135,106,12,26,0] ?_
 refine qd qkx ?_
 rintro x39 e39 ⟨⟨a40,c41⟩,⟨a42,c43⟩,a44,c45⟩
 refine au [4,64,19] ?_
 intro g46
 refine au [17,76,25,8,4] ?_
 refine qgG 7 (fun ((x49,_):Bool×Unit)=>([(32,.bool x49)],[],[],[],j6 F x49)) ?_ ?_
 refine qG (os:=_) rfl ?_
 refine av [26,8] ?_ ?_
 intro h47
 refine kH (k:=25) rfl h47 ?_
 refine au [88,79,112] ?_
 exact qa (true,())
 intro h47
 refine kG (k:=25) rfl h47 ?_
 refine au [134,12,26,11] ?_
 refine qd qnA ?_
 intro x51 e51 _
 refine au [25,12,111] ?_
 exact qa ((!x51),())
 rintro ⟨x49,_⟩
 try dsimp only
 refine qG (os:=_) rfl ?_
 refine aw [0,2,13] ?_ ?_
 exact az [48,96]
 exact az [131,90]
theorem qmd {r:Unit}(hm:qdZ F i1 m1 i2=some r) :
    PureM qD3 264 [.agg #[qDW i1,qDX l1 m1 t1],.int .u64 i2] [] [] [qD1 l1 m1 t1] (Nat×Nat) (fun g=>.func (.func 288) #[] #[qDY g.1,qDY g.2]) (fun g=>[⟨g.1,65,[qDW i1,qDX l1 m1 t1]⟩,⟨g.2,119,[.int .u64 i2]⟩]) (fun _=>[]):=by
 refine pureMA func264 ntmps264 hm fun _=>?_
 refine au [100] ?_
 intro g6
 refine au [24,4] ?_
 intro g7
 refine au [97,27,10,52] ?_
 exact qK (g6,g7)
theorem qkw (F:Nat){σ τ:Type}{J:Rounds σ τ}{yy:σ→Int→Option (σ ⊕ τ)}{L:Nat}(hY:YieldC qD3 L (fun (p:Int)=>[qDW p]) J yy)(s0:σ)(gs0:J.γ)(g1:Nat)(x2:Int)(x3:qDU)(a4:qDV)(c5 g6:Nat)(x7:Int)(r:σ ⊕ τ)(hm:qcq F yy x2 x3 x7 s0=some r) :
    PureM qD3 288 ([.func (.yield L) #[] #[],qDY g1,qDY g6]) ([⟨g1,65,[qDW x2,qDX a4 x3 c5]⟩,⟨g6,119,[.int .u64 x7]⟩]++J.IB s0 gs0) (J.IR s0 gs0) [J.F,qD1 a4 x3 c5] (J.G r) (fun _=>.tuple #[]) (fun g=>[⟨g1,65,[qDW x2,qDX a4 x3 c5]⟩,⟨g6,119,[.int .u64 x7]⟩]++J.bs r g) (fun g=>J.rs r g):=by
 refine pureMA func288 ntmps288 hm fun _=>?_
 refine au [26,14,48,57,4,92] ?_
 refine vE (fun (((x36,x37),g38):(Int×σ)×J.γ)=>[(0,.func (.yield L) #[] #[]),(1,qDY g1),(2,qDY g6),(6,qDW x2),(7,qDW x36)]) (fun (((x36,x37),g38):(Int×σ)×J.γ)=>[⟨g1,65,[qDW x2,qDX a4 x3 c5]⟩,⟨g6,119,[.int .u64 x7]⟩]++J.IB x37 g38) (fun (((x36,x37),g38):(Int×σ)×J.γ)=>[]++J.IR x37 g38) (fun (((x36,x37),g38):(Int×σ)×J.γ)=>[qD1 a4 x3 c5,J.F]) (fun k (s:(Int×σ)×J.γ)=>zr F yy x2 x3 x7 k s.1) ((0,s0),gs0) F ?_ (hB:=(.cons 0 rfl (.cons 0 rfl (qe 0 rfl)))) (hR:=(qe 0 rfl)) (hF:=(qi 1 rfl (qi 0 rfl zG)))
 intro k67
 rintro ⟨⟨x36,x37⟩,g38⟩
 try dsimp only
 refine qaM (m':=yU F yy x2 x3 x7 (zr F yy x2 x3 x7 k67) x36 x37) rfl ?_
 refine aw [1,5,24,6,0,2,1,13] ?_ ?_
 refine au [69] ?_
 refine qdp (fun ((x81,g82):σ×J.γ)=>[(0,.func (.yield L) #[] #[]),(1,qDY g1),(2,qDY g6),(6,qDW x2),(7,qDW x36)]) (fun ((x81,g82):σ×J.γ)=>[⟨g1,65,[qDW x2,qDX a4 x3 c5]⟩,⟨g6,119,[.int .u64 x7]⟩]++J.IB x81 g82) (fun ((x81,g82):σ×J.γ)=>[]++J.IR x81 g82) (fun ((x81,g82):σ×J.γ)=>[qD1 a4 x3 c5,J.F]) (fun ((x81,_):σ×J.γ)=>yb F yy (zr F yy x2 x3 x7 k67) x36 x81) ?_ ?_
 refine au [122,129] ?_
 refine qJ [] [0,0] [0,1] 11 ?_
 refine qA 0 (.agg #[qDW x2,.slice a4 x3.length c5]) rfl rfl rfl (qy (i:=0) rfl tf65 rfl rfl (by simp) rfl) ?_
 refine au [3,1,26,13,3,7,2,29,9] ?_
 intro x89 e89 _
 refine av [0,32,14,3,4,3,5,29,13] ?_ ?_
 intro h90
 refine yI 15 h90 ?_
 refine au [87,7,8] ?_
 refine qe4 hY x37 x36 g38 (B1:=[⟨g1,65,[qDW x2,qDX a4 x3 c5]⟩,⟨g6,119,[.int .u64 x7]⟩]) (R1:=[]) (j:=1) rfl rfl rfl rfl rfl rfl rfl (fun x91 _ g93=>?_) (fun x92 _ g93=>?_)
 refine au [0,32,14,141,53,2] ?_
 refine yh (b:=false) rfl (fun h=>by cases h) (fun _=>?_)
 refine au [16,24,7] ?_
 exact yj (x91,g93) (hB:=(.cons 0 rfl (.cons 0 rfl (qe 0 rfl)))) (hR:=(qe 0 rfl)) (hF:=(qi 0 rfl (qi 1 rfl zG)))
 refine au [0,32,14,141,53,2] ?_
 refine yh (b:=true) rfl (fun _=>?_) (fun h=>by cases h)
 refine au [11,125,24,9] ?_
 exact jc (B0:=[⟨g1,65,[qDW x2,qDX a4 x3 c5]⟩,⟨g6,119,[.int .u64 x7]⟩]) (x:=.inr x92) g93 (.inl rfl) (res0 rfl) (.cons 0 rfl (.cons 0 rfl (qe 0 rfl))) (qe 0 rfl)
 intro h90
 refine yI 15 h90 ?_
 refine au [23,6,23,7,23,8,23,9,3,10,53,2] ?_
 refine yh (b:=false) rfl (fun h=>by cases h) (fun _=>?_)
 refine au [16,24,7] ?_
 exact yj (x37,g38) (hB:=(.cons 0 rfl (.cons 0 rfl (qe 0 rfl)))) (hR:=(qe 0 rfl)) (hF:=(qi 0 rfl (qi 1 rfl zG)))
 rintro ⟨x81,g82⟩
 refine au [39,145] ?_
 exact vr ((iadd .i64 x36 1,x81),g82) (hB:=(.cons 0 rfl (.cons 0 rfl (qe 0 rfl)))) (hR:=(qe 0 rfl)) (hF:=(qi 0 rfl (qi 1 rfl zG)))
 refine au [91] ?_
 exact jc (B0:=[⟨g1,65,[qDW x2,qDX a4 x3 c5]⟩,⟨g6,119,[.int .u64 x7]⟩]) (x:=.inl x37) g38 (.inr rfl) (res0 rfl) (.cons 0 rfl (.cons 0 rfl (qe 0 rfl))) (qe 0 rfl)
theorem qnx (hm:qaD F i1 m1 i2 i3=some i4) :
    PureM qD3 239 [.agg #[qDW i1,qDX l1 m1 t1],.int .u64 i2,qDW i3] [] [] [qD1 l1 m1 t1] Unit (fun _=>qDW i4) (fun _=>[]) (fun _=>[]):=by
 refine qdm func239 rfl ntmps239 rfl hm (fun w=>?_)
 refine au [116] ?_
 intro g7
 refine au [24,4] ?_
 intro g8
 refine au [19] ?_
 intro g9
 refine au [50,1,48,26,11,4] ?_
 refine qt qmd ?_
 rintro x25 e25 ⟨g26,g27⟩
 refine au [92] ?_
 refine qbW (encs:=(fun (p:Int)=>[qDW p])) (y:=(fun (x31:Int) (x37:Int)=>zd F x31 x37)) (lb:=[qDY g26,qDY g27]) (fun (x31:Int) (_:Unit)=>[⟨g9,3,[qDW 0]⟩,⟨g8,3,[qDW x31]⟩,⟨g7,65,[qDW i1,qDX l1 m1 t1]⟩]) (fun (x31:Int) (_:Unit)=>[]) (fun ((x35,x36):(Int×Int)) (_:Unit)=>[⟨g9,3,[qDW x35]⟩,⟨g8,3,[qDW x36]⟩,⟨g7,65,[qDW i1,qDX l1 m1 t1]⟩]) (fun ((x35,x36):(Int×Int)) (_:Unit)=>[]) (fun _=>.ret) i3 () rfl EnC.e (fun _=>rfl) rfl (.cons 0 rfl (.cons 0 rfl .nil)) (.cons 0 rfl (.cons 0 rfl (.cons 0 rfl .nil))) .nil (.consF 0 rfl .nil) (fun z hz _ _ _ hY=>qkw F hY i3 () g26 i1 m1 l1 t1 g27 i2 z hz) ?_ ?_ ?_
 rintro rc1 L1 D1 x31 _ x37 z w M _
 try dsimp only
 refine qdq [(0,.agg #[qDW i1,qDX l1 m1 t1]),(1,.int .u64 i2),(2,qDW i3),(3,qDY g7),(5,qDY g8),(6,qDY g9),(8,.agg #[qDW i1,qDX l1 m1 t1]),(9,.int .u64 i2),(10,.func (.func 288) #[] #[qDY g26,qDY g27]),(11,qDW x37)] (qm rfl (qm rfl (qm rfl (qm rfl (qm rfl (qm rfl (qm rfl (qm rfl (qm rfl (qm rfl qdI)))))))))) ?_
 refine aw [5,6,0,30,11,20,1,1,5,26,1,25,11,0,2,13] ?_ ?_
 refine au [54,132,11,18,24,9] ?_
 exact vn (rc:=rc1) rfl (.cons 3 rfl .nil) rfl () (.cons 1 rfl (.cons 1 rfl (.cons 1 rfl (.cons 0 rfl (.cons 0 rfl .nil))))) .nil
 refine au [69,5,26,1,25,14,121,24,7] ?_
 exact vn (rc:=rc1) rfl (.cons 3 rfl .nil) rfl () (.cons 1 rfl (.cons 1 rfl (.cons 1 rfl (.cons 0 rfl (.cons 0 rfl .nil))))) .nil
 rintro x31 _ _ D1
 refine au [39,82,48,30,6,50,11] ?_
 exact jd [D1] () (.inl rfl) rfl (.cons 0 rfl .nil) (resL (rs:=[.cell 6 3]) rfl (.cell (i:=2) rfl tf3 rfl rfl (fun _=>rfl) rfl ResOk.nil) rfl) (fun h=>by subst h;rfl) (fun h=>by subst h;exact .nil) (fun h=>by subst h;exact .nil)
 rintro ⟨x35,x36⟩ _ _ D1
 refine au [39,11,60] ?_
 exact jd [D1] () (.inl rfl) rfl (.cons 0 rfl .nil) (resL (rs:=[.cell 6 3]) rfl (.cell (i:=2) rfl tf3 rfl rfl (fun _=>rfl) rfl ResOk.nil) rfl) (fun h=>by subst h;rfl) (fun h=>by subst h;exact .nil) (fun h=>by subst h;exact .nil)
theorem qtp (hm:qbO F i1 i2 i3 i4 m1 i5 m2 i6=some i7) :
    qD4 199 [.agg #[qDW i1,qDW i2,qDW i3,qDW i4,qDX l1 m1 t1,qDW i5,qDX l2 m2 t2],qDW i6] [qD1 l1 m1 t1,qD1 l2 m2 t2] (qDW i7):=by
 refine pureA func199 ntmps199 hm fun _=>?_
 refine au [100] ?_
 intro g13
 refine au [97,134,4,37,8] ?_
 intro x14 e14 _
 refine au [4,25,14,97,134,4,57,28,0,57,31,4] ?_
 intro x15 e15 _
 refine au [4,64,6,76,57,27,0] ?_
 intro h16
 refine qhY rfl rfl rfl rfl h16 ?_
 refine au [4,25,15,36,7,6,27,1] ?_
 intro x17 e17
 refine jS 4 e17 ?_
 exact az [50,11,24,8]
theorem qo0 (hm:qee F i1 m1 i2 m2=some d1) :
    qD4 263 [.agg #[qDW i1,qDX l1 m1 t1],.agg #[qDW i2,qDX l2 m2 t2]] [qD1 l1 m1 t1,qD1 l2 m2 t2] (.bool d1):=by
 refine pureA func263 ntmps263 hm fun _=>?_
 refine au [100] ?_
 intro g9
 refine au [24,4] ?_
 intro g10
 refine au [97,123,57,25,11,4] ?_
 refine qgG 6 (fun ((x13,_):Bool×Unit)=>([(16,.bool x13)],[],[],[],qcT F x13)) ?_ ?_
 refine qG (os:=_) rfl ?_
 refine av [26,8] ?_ ?_
 intro h11
 refine kH (k:=10) rfl h11 ?_
 refine au [123,57,31,5] ?_
 intro x14 e14 _
 refine au [112] ?_
 exact qa (x14,())
 intro h11
 refine kG (k:=10) rfl h11 ?_
 refine au [88,9,111] ?_
 exact qa (false,())
 rintro ⟨x13,_⟩
 try dsimp only
 refine qG (os:=_) rfl ?_
 exact az [90]
theorem qkO {r:(qDU×Int)}(hm:j3 F i1 i2 i3 i4 m1 i5 m2=some r) :
    Pure qD3 238 [.agg #[qDW i1,qDW i2,qDW i3,qDW i4,qDX l1 m1 t1,qDW i5,qDX l2 m2 t2]] [qD1 l1 m1 t1,qD1 l2 m2 t2] (qDV×Nat) (fun g=>.tuple #[qDX g.1 r.1 g.2,qDW r.2]) (fun g=>[qD0 g.1 r.1 g.2]) (fun _=>[]):=by
 refine pureA func238 ntmps238 hm fun _=>?_
 refine au [104] ?_
 intro g12
 refine au [6,129,48,57,143] ?_
 refine q6 4 11 15 [1] (decide (300<i1)) ?_ ?_ ?_
 exact az [79,9,71]
 exact az [57,109]
 refine au [4] ?_
 refine q6 4 16 20 [1] (decide (i2<0)) ?_ ?_ ?_
 exact az [79,9,71]
 exact az [57,24,6,70]
 refine au [4] ?_
 refine q6 4 21 25 [1] (decide (1048576<i2)) ?_ ?_ ?_
 exact az [79,9,71]
 exact az [57,109]
 refine aw [0,2,13] ?_ ?_
 refine au [48,6,105] ?_
 exact qx (none,0)
 refine au [135] ?_
 refine qj [1] [0] [] [0,1] (fun ((x49,_):Bool×Unit)=>([(70,.bool x49)],[],[],[],zX F i1 i2 i3 i4 m1 i5 m2 x49)) ?_ ?_
 refine qJ [] [0] [0,1] 45 ?_
 refine au [139,21,2,25,4,3,21,4,25,4,5,7,6,35,13] ?_
 intro x0 e0 _
 refine av [77,3,7,3,8,29,13] ?_ ?_
 intro h0
 refine yI 34 h0 ?_
 refine au [23,9,23,10,23,11,23,12,45,23,15,23,16,23,17,23,18,46,23,21,23,22,23,23,23,24,23,25,23,26,23,27,23,28,23,29,3,30,3,31,23,32,23,33,23,34,23,35,23,36,23,37,23,38,23,39,23,40,23,41,23,42,23,43,3,44,53] ?_
 exact qa (true,())
 intro h0
 refine yI 34 h0 ?_
 refine au [21,9] ?_
 refine qA 10 (.agg #[qDW i4,.slice l1 m1.length t1]) rfl rfl rfl (qy (i:=0) rfl tf65 rfl rfl (by simp) rfl) ?_
 refine au [7,11,32,7] ?_
 intro x6 e1 _
 refine av [77,3,12,45,29,13] ?_ ?_
 intro h1
 refine yI 40 h1 ?_
 refine au [23,15,23,16,23,17,23,18,46,23,21,23,22,23,23,23,24,23,25,23,26,23,27,23,28,23,29,3,30,3,31,23,32,23,33,23,34,23,35,23,36,23,37,23,38,23,39,23,40,23,41,23,42,23,43,3,44,53] ?_
 exact qa (true,())
 intro h1
 refine yI 40 h1 ?_
 refine au [21,15] ?_
 refine qA 16 (.agg #[qDW i5,.slice l2 m2.length t2]) rfl rfl rfl (qy (i:=0) rfl tf65 rfl rfl (by simp) rfl) ?_
 refine au [7,17,32,7] ?_
 intro x7 e2 _
 refine av [77,3,18,46,29,13] ?_ ?_
 intro h2
 refine yI 46 h2 ?_
 refine au [23,21,23,22,23,23,23,24,23,25,23,26,23,27,23,28,23,29,3,30,3,31,23,32,23,33,23,34,23,35,23,36,23,37,23,38,23,39,23,40,23,41,23,42,23,43,3,44,53] ?_
 exact qa (true,())
 intro h2
 refine yI 46 h2 ?_
 refine av [21,21,21,22,25,4,23,21,24,25,4,25,21,26,25,4,27,3,28,3,29,3,30,3,31,29,13] ?_ ?_
 intro h3
 refine yI 57 h3 ?_
 refine au [23,32,23,33,23,34,23,35,23,36,23,37,23,38,23,39,23,40,23,41,23,42,23,43,3,44,53] ?_
 exact qa (true,())
 intro h3
 refine yI 57 h3 ?_
 refine au [21,32] ?_
 refine qA 33 (.agg #[qDW i5,.slice l2 m2.length t2]) rfl rfl rfl (qy (i:=0) rfl tf65 rfl rfl (by simp) rfl) ?_
 refine au [21,34,25,4,35,3,36,7,37,37,8] ?_
 intro x10 e3 _
 refine av [77,3,38,3,39,29,13] ?_ ?_
 intro h4
 refine yI 65 h4 ?_
 refine au [21,40,25,4,41,3,42,3,43,3,44,53] ?_
 exact qa ((decide (0<i1)),())
 intro h4
 refine yI 65 h4 ?_
 refine au [23,40,23,41,23,42,3,43,3,44,53] ?_
 exact qa (false,())
 rintro ⟨x49,_⟩
 refine aw [39,13] ?_ ?_
 refine au [48,6,105] ?_
 exact qx (none,0)
 refine au [131,51] ?_
 refine qj [1] [0] [] [0,1] (fun ((x99,a97,c98):qDU×qDV×Nat)=>([(4,qDX a97 x99 c98)],[],[qD0 a97 x99 c98],[],vg F i2 i4 m1 i5 m2 x99)) ?_ ?_
 refine au [48,57,4,92,28,1] ?_
 refine qp [1,72] [0] [] [0,1] (fun (((x11,x12),a0,c0):(qDU×Int)×qDV×Nat)=>([(4,qDX a0 x11 c0),(73,qDW x12)],[],[qD0 a0 x11 c0],[])) (([]:qDU),(0:Int)) (none,0) ?_
 intro k0
 rintro ⟨⟨x11,x12⟩,a0,c0⟩
 refine aw [39,1,5,24,6,0,2,1,13] ?_ ?_
 refine au [137,51,5,4,25,0,4,37,9] ?_
 intro x13 e4 _
 refine zB [x13] (fun a1 c1=>?_)
 refine zw 1 (qD .i64) rfl underlying56 tf3 rfl rfl rfl rfl rfl (.inl ⟨0,_,rfl⟩) rfl rfl (fun x14 e5 a2 c2=>?_)
 refine au [6,0,146] ?_
 exact qk ((x14,iadd .i64 x12 1),a2,c2)
 refine au [91] ?_
 exact qa (x11,a0,c0)
 rintro ⟨x99,a97,c98⟩
 refine au [39,1,54,57,36,0] ?_
 intro x15 e6 _
 refine aw [25,8,0,2,13] ?_ ?_
 refine au [48,6,105] ?_
 exact qx (none,0)
 refine au [135,54,57,36,1] ?_
 rintro x16 e7 ⟨⟨a3,c3⟩,a4,c4⟩
 refine au [4,64,19] ?_
 intro g0
 refine au [17,76,25,12,4] ?_
 refine kX 7 [1,4,6] [0,1] [2,0,1] [0,1] (fun ((x17,_):Bool×Unit)=>([(104,.bool x17)],[],[],[],qbb F i5 m2 x99 x16 x17)) ?_ ?_
 refine qG (os:=_) rfl ?_
 refine av [26,8] ?_ ?_
 intro h5
 refine kH (k:=97) rfl h5 ?_
 refine au [88,79,112] ?_
 exact qa (true,())
 intro h5
 refine kG (k:=97) rfl h5 ?_
 refine au [134,12,26,0,37,10] ?_
 intro x18 e8 _
 refine au [25,12,111] ?_
 exact qa ((!x18),())
 rintro ⟨x17,_⟩
 try dsimp only
 refine qG (os:=_) rfl ?_
 refine au [4] ?_
 refine kX 7 [4] [] [0] [] (fun ((x19,_):Bool×Unit)=>([(112,.bool x19)],[],[],[],qcR F x99 x19)) ?_ ?_
 refine qG (os:=_) rfl ?_
 refine av [26,8] ?_ ?_
 intro h6
 refine kH (k:=105) rfl h6 ?_
 refine au [88,79,112] ?_
 exact qa (true,())
 intro h6
 refine kG (k:=105) rfl h6 ?_
 refine au [134,12,26,0,37,10] ?_
 intro x20 e9 _
 refine au [25,12,111] ?_
 exact qa ((!x20),())
 rintro ⟨x19,_⟩
 try dsimp only
 refine qG (os:=_) rfl ?_
 refine aw [0,2,13] ?_ ?_
 refine au [48,6,105] ?_
 exact qx (none,0)
 refine au [69,54,6,52] ?_
 exact qx (a97,c98)
theorem qnm (hm:qeN F i1 i2 i3 i4 m1 i5 m2=some i6) :
    qD4 198 [.agg #[qDW i1,qDW i2,qDW i3,qDW i4,qDX l1 m1 t1,qDW i5,qDX l2 m2 t2]] [qD1 l1 m1 t1,qD1 l2 m2 t2] (qDW i6):=by
 refine pureA func198 ntmps198 hm fun _=>?_
 refine au [104] ?_
 intro g12
 refine au [97,25,0] ?_
 refine qd qkO ?_
 rintro x13 e13 ⟨a14,c15⟩
 exact az [4,64,6,76,90]
theorem qqy {r:(Int×Int)}(hm:qfi F i1 i2 i3 i4 m1 i5 m2 i6=some r) :
    qD4 169 [.agg #[qDW i1,qDW i2,qDW i3,qDW i4,qDX l1 m1 t1,qDW i5,qDX l2 m2 t2],qDW i6] [qD1 l1 m1 t1,qD1 l2 m2 t2] (.tuple #[qDW r.1,qDW r.2]):=by
 refine pureA func169 ntmps169 hm fun _=>?_
 refine au [100] ?_
 intro g13
 refine au [6,97,25,0] ?_
 refine qd qnm ?_
 intro x14 e14 _
 refine au [51] ?_
 refine qj [1,2] [0] [] [0,1] (fun ((x20,_):Int×Unit)=>([(6,qDW x20)],[],[],[],qdS F i1 i2 i3 i4 m1 i5 m2 i6 x20)) ?_ ?_
 refine au [54,25,11,4] ?_
 refine kX 9 [1,2,6] [0] [] [0,1] (fun ((x26,_):Bool×Unit)=>([(20,.bool x26)],[],[],[],qdT F i1 i2 i3 i4 m1 i5 m2 i6 x14 x26)) ?_ ?_
 refine qG (os:=_) rfl ?_
 refine av [26,8] ?_ ?_
 intro h24
 refine kH (k:=11) rfl h24 ?_
 refine au [4,143] ?_
 refine q6 5 14 19 [1,2,6,11] (decide (i1≤i6)) ?_ ?_ ?_
 exact az [88,71]
 exact az [4,57,26,10,70]
 refine au [112] ?_
 exact qa ((decide (i6<0) || decide (i1≤i6)),())
 intro h24
 refine kG (k:=11) rfl h24 ?_
 refine au [88,88,111] ?_
 exact qa (false,())
 rintro ⟨x26,_⟩
 try dsimp only
 refine qG (os:=_) rfl ?_
 refine aw [0,2,13] ?_ ?_
 refine au [5,6,0] ?_
 exact qa ((3:Int),())
 refine au [16] ?_
 exact qa (x14,())
 rintro ⟨x20,_⟩
 refine aw [39,1,1,5,4,25,8,0,2,13] ?_ ?_
 exact az [54,6,96]
 refine au [69,106,4,37,9] ?_
 intro x22 e22 _
 exact az [6,90]
end Go.Proofs.YthibchijlpflmaaGreatDoor
