/- Each Go function of this seat computes what its model says, part 6. -/
import Derived.Test.YtmoikolponkmpaaGreatWalks5
open Bool renaming false_and→qvT, true_and→qvZ
open List renaming range→qwm, length_set→qwE, not_mem_nil→qxW
namespace Go.Proofs.YtmoikolponkmpaaGreat
open Go SX
set_option maxHeartbeats 4000000 in
theorem qhX {F:Nat}  {r:Bool}(hm:qbW F =some r) :
    Pure Tryz.prog 32 [] [] Unit (fun _=>.bool r) (fun _=>[]) (fun _=>[]):=by
 refine ql Tryz.func32 rfl Tryz.ntmps32 rfl hm (fun w=>?_)
 refine au [27,2,61,79,29,3] ?_
 rintro x1 e1 ⟨a2,c3⟩
 refine qo (cells:=[qyq 3,qyq 3,qyq 2]) rfl st27 rfl (by kernel_rfl) rfl (zx ent23 rfl rfl rfl (fun x4 e4=>qfH F x1 a2 c3 3 3 2 x4 e4) (.consG 0 rfl (zW qfv) .nil) (fun x4 e4=>?_))
 rintro ⟨⟨a5,c6⟩,⟨a7,c8⟩,⟨a9,c10⟩⟩
 refine au [95] ?_
 intro g11
 refine au [24,3,91,30,7] ?_
 rintro x12 e12 ⟨a13,c14⟩
 refine au [80,10,5,5,91,37,0] ?_
 intro x15 e15 _
 refine au [80,5,91,37,0] ?_
 intro x16 e16 _
 refine au [80,5,91,30,7] ?_
 rintro x17 e17 ⟨a18,c19⟩
 refine au [80,10,5,5,75,24,2,1] ?_
 refine qq 4 (fun ((x24,_):(Bool×Unit))=>([(1,.pointer (some ⟨g11,0,none⟩)),(4,qyq x12.2.1),(5,qyq x12.2.2),(6,.bool x15.1),(7,qyq x15.2),(8,.bool x16.1),(9,qyq x16.2),(12,qyq x17.2.2),(47,.bool x24)],[⟨g11,69,[qyq x4.1,qyq x4.2.1,qyq x4.2.2.1,qyq x4.2.2.2.1,qyq x4.2.2.2.2.1,.slice a5 x4.2.2.2.2.2.1.length c6,qyq x4.2.2.2.2.2.2.1,qyq x4.2.2.2.2.2.2.2.1,qyq x4.2.2.2.2.2.2.2.2.1,qyq x4.2.2.2.2.2.2.2.2.2.1,.slice a7 x4.2.2.2.2.2.2.2.2.2.2.1.length c8,qyq x4.2.2.2.2.2.2.2.2.2.2.2.1,.slice a9 x4.2.2.2.2.2.2.2.2.2.2.2.2.1.length c10]⟩],[Ro (eI .u8) 5 1 (.slice a5 x4.2.2.2.2.2.1.length c6) x4.2.2.2.2.2.1,Ro (eI .u8) 5 1 (.slice a7 x4.2.2.2.2.2.2.2.2.2.2.1.length c8) x4.2.2.2.2.2.2.2.2.2.2.1,Ro (eI .u8) 5 1 (.slice a9 x4.2.2.2.2.2.2.2.2.2.2.2.2.1.length c10) x4.2.2.2.2.2.2.2.2.2.2.2.2.1],[],qab F x4 x12 x15 x16 x17 x24)) ?_ ?_
 refine qa (os:=_) rfl ?_
 refine av [24,12] ?_ ?_
 intro h20
 refine qf (k:=43) rfl h20 ?_
 refine au [1] ?_
 refine qn (vs:=[qyq 1,qyq 2,qyq 3,qyq 5]) (ys:=([1,2,3,5]:qyo)) (qp .i64) (by decide) rfl Tryz.underlying22 tf3 rfl rfl rfl rfl rfl (by decide) (fun a40 c41=>?_)
 refine au [26,5] ?_
 intro x42 e42 _
 refine au [16,0] ?_
 exact qb (x42,())
 intro h20
 refine qe (k:=43) rfl h20 ?_
 refine au [66,6,17,0] ?_
 exact qb (false,())
 rintro ⟨x24,_⟩
 try dsimp only
 refine qa (os:=_) rfl ?_
 refine au [1] ?_
 refine qk 3 x24 [(1,.pointer (some ⟨g11,0,none⟩)),(5,qyq x12.2.2),(6,.bool x15.1),(7,qyq x15.2),(8,.bool x16.1),(9,qyq x16.2),(12,qyq x17.2.2),(51,.bool (x24 && ((x12.2.1:Int) == 2)))] (fun h25=>?_) (fun h25=>?_) ?_
 refine qa (os:=_) rfl (qf (k:=48) rfl h25 ?_)
 refine au [1,76] ?_
 refine qc (d:=51) (v:=.bool (x24 && ((x12.2.1:Int) == 2))) rfl (by rw[h25];simp only[qvZ]) ?_
 exact az [68]
 refine qa (os:=_) rfl (qe (k:=48) rfl h25 ?_)
 refine au [90] ?_
 refine qc (d:=51) (v:=.bool (x24 && ((x12.2.1:Int) == 2))) rfl (by rw[h25];simp only[qvT]) ?_
 exact az [68]
 refine qa (os:=_) rfl ?_
 refine au [1] ?_
 refine qk 3 (x24 && ((x12.2.1:Int) == 2)) [(1,.pointer (some ⟨g11,0,none⟩)),(6,.bool x15.1),(7,qyq x15.2),(8,.bool x16.1),(9,qyq x16.2),(12,qyq x17.2.2),(55,.bool ((x24 && ((x12.2.1:Int) == 2)) && ((x12.2.2:Int) == 0)))] (fun h26=>?_) (fun h26=>?_) ?_
 refine qa (os:=_) rfl (qf (k:=52) rfl h26 ?_)
 refine au [1,76] ?_
 refine qc (d:=55) (v:=.bool ((x24 && ((x12.2.1:Int) == 2)) && ((x12.2.2:Int) == 0))) rfl (by rw[h26];simp only[qvZ]) ?_
 exact az [68]
 refine qa (os:=_) rfl (qe (k:=52) rfl h26 ?_)
 refine au [90] ?_
 refine qc (d:=55) (v:=.bool ((x24 && ((x12.2.1:Int) == 2)) && ((x12.2.2:Int) == 0))) rfl (by rw[h26];simp only[qvT]) ?_
 exact az [68]
 refine qa (os:=_) rfl ?_
 refine au [1] ?_
 refine qk 2 ((x24 && ((x12.2.1:Int) == 2)) && ((x12.2.2:Int) == 0)) [(1,.pointer (some ⟨g11,0,none⟩)),(7,qyq x15.2),(8,.bool x16.1),(9,qyq x16.2),(12,qyq x17.2.2),(58,.bool (((x24 && ((x12.2.1:Int) == 2)) && ((x12.2.2:Int) == 0)) && x15.1))] (fun h27=>?_) (fun h27=>?_) ?_
 refine qa (os:=_) rfl (qf (k:=56) rfl h27 ?_)
 refine au [1,16] ?_
 refine qc (d:=58) (v:=.bool (((x24 && ((x12.2.1:Int) == 2)) && ((x12.2.2:Int) == 0)) && x15.1)) rfl (by rw[h27];simp only[qvZ]) ?_
 exact az [68]
 refine qa (os:=_) rfl (qe (k:=56) rfl h27 ?_)
 refine au [6,17] ?_
 refine qc (d:=58) (v:=.bool (((x24 && ((x12.2.1:Int) == 2)) && ((x12.2.2:Int) == 0)) && x15.1)) rfl (by rw[h27];simp only[qvT]) ?_
 exact az [68]
 refine qa (os:=_) rfl ?_
 refine au [1] ?_
 refine qk 3 (((x24 && ((x12.2.1:Int) == 2)) && ((x12.2.2:Int) == 0)) && x15.1) [(1,.pointer (some ⟨g11,0,none⟩)),(8,.bool x16.1),(9,qyq x16.2),(12,qyq x17.2.2),(62,.bool ((((x24 && ((x12.2.1:Int) == 2)) && ((x12.2.2:Int) == 0)) && x15.1) && ((x15.2:Int) == 0)))] (fun h28=>?_) (fun h28=>?_) ?_
 refine qa (os:=_) rfl (qf (k:=59) rfl h28 ?_)
 refine au [1,76] ?_
 refine qc (d:=62) (v:=.bool ((((x24 && ((x12.2.1:Int) == 2)) && ((x12.2.2:Int) == 0)) && x15.1) && ((x15.2:Int) == 0))) rfl (by rw[h28];simp only[qvZ]) ?_
 exact az [68]
 refine qa (os:=_) rfl (qe (k:=59) rfl h28 ?_)
 refine au [90] ?_
 refine qc (d:=62) (v:=.bool ((((x24 && ((x12.2.1:Int) == 2)) && ((x12.2.2:Int) == 0)) && x15.1) && ((x15.2:Int) == 0))) rfl (by rw[h28];simp only[qvT]) ?_
 exact az [68]
 refine qa (os:=_) rfl ?_
 refine au [1] ?_
 refine qk 3 ((((x24 && ((x12.2.1:Int) == 2)) && ((x12.2.2:Int) == 0)) && x15.1) && ((x15.2:Int) == 0)) [(1,.pointer (some ⟨g11,0,none⟩)),(9,qyq x16.2),(12,qyq x17.2.2),(66,.bool (((((x24 && ((x12.2.1:Int) == 2)) && ((x12.2.2:Int) == 0)) && x15.1) && ((x15.2:Int) == 0)) && (!x16.1)))] (fun h29=>?_) (fun h29=>?_) ?_
 refine qa (os:=_) rfl (qf (k:=63) rfl h29 ?_)
 refine au [1,25,1,16] ?_
 refine qc (d:=66) (v:=.bool (((((x24 && ((x12.2.1:Int) == 2)) && ((x12.2.2:Int) == 0)) && x15.1) && ((x15.2:Int) == 0)) && (!x16.1))) rfl (by rw[h29];simp only[qvZ]) ?_
 exact az [68]
 refine qa (os:=_) rfl (qe (k:=63) rfl h29 ?_)
 refine au [90] ?_
 refine qc (d:=66) (v:=.bool (((((x24 && ((x12.2.1:Int) == 2)) && ((x12.2.2:Int) == 0)) && x15.1) && ((x15.2:Int) == 0)) && (!x16.1))) rfl (by rw[h29];simp only[qvT]) ?_
 exact az [68]
 refine qa (os:=_) rfl ?_
 refine au [1] ?_
 refine qk 3 (((((x24 && ((x12.2.1:Int) == 2)) && ((x12.2.2:Int) == 0)) && x15.1) && ((x15.2:Int) == 0)) && (!x16.1)) [(1,.pointer (some ⟨g11,0,none⟩)),(12,qyq x17.2.2),(70,.bool ((((((x24 && ((x12.2.1:Int) == 2)) && ((x12.2.2:Int) == 0)) && x15.1) && ((x15.2:Int) == 0)) && (!x16.1)) && ((x16.2:Int) == 0)))] (fun h30=>?_) (fun h30=>?_) ?_
 refine qa (os:=_) rfl (qf (k:=67) rfl h30 ?_)
 refine au [1,76] ?_
 refine qc (d:=70) (v:=.bool ((((((x24 && ((x12.2.1:Int) == 2)) && ((x12.2.2:Int) == 0)) && x15.1) && ((x15.2:Int) == 0)) && (!x16.1)) && ((x16.2:Int) == 0))) rfl (by rw[h30];simp only[qvZ]) ?_
 exact az [68]
 refine qa (os:=_) rfl (qe (k:=67) rfl h30 ?_)
 refine au [90] ?_
 refine qc (d:=70) (v:=.bool ((((((x24 && ((x12.2.1:Int) == 2)) && ((x12.2.2:Int) == 0)) && x15.1) && ((x15.2:Int) == 0)) && (!x16.1)) && ((x16.2:Int) == 0))) rfl (by rw[h30];simp only[qvT]) ?_
 exact az [68]
 refine qa (os:=_) rfl ?_
 refine au [1] ?_
 refine qk 3 ((((((x24 && ((x12.2.1:Int) == 2)) && ((x12.2.2:Int) == 0)) && x15.1) && ((x15.2:Int) == 0)) && (!x16.1)) && ((x16.2:Int) == 0)) [(1,.pointer (some ⟨g11,0,none⟩)),(74,.bool (((((((x24 && ((x12.2.1:Int) == 2)) && ((x12.2.2:Int) == 0)) && x15.1) && ((x15.2:Int) == 0)) && (!x16.1)) && ((x16.2:Int) == 0)) && ((x17.2.2:Int) == 3)))] (fun h31=>?_) (fun h31=>?_) ?_
 refine qa (os:=_) rfl (qf (k:=71) rfl h31 ?_)
 refine au [1,76] ?_
 refine qc (d:=74) (v:=.bool (((((((x24 && ((x12.2.1:Int) == 2)) && ((x12.2.2:Int) == 0)) && x15.1) && ((x15.2:Int) == 0)) && (!x16.1)) && ((x16.2:Int) == 0)) && ((x17.2.2:Int) == 3))) rfl (by rw[h31];simp only[qvZ]) ?_
 exact az [68]
 refine qa (os:=_) rfl (qe (k:=71) rfl h31 ?_)
 refine au [90] ?_
 refine qc (d:=74) (v:=.bool (((((((x24 && ((x12.2.1:Int) == 2)) && ((x12.2.2:Int) == 0)) && x15.1) && ((x15.2:Int) == 0)) && (!x16.1)) && ((x16.2:Int) == 0)) && ((x17.2.2:Int) == 3))) rfl (by rw[h31];simp only[qvT]) ?_
 exact az [68]
 refine qa (os:=_) rfl ?_
 refine au [1] ?_
 refine qq 4 (fun ((x34,_):(Bool×Unit))=>([(1,.pointer (some ⟨g11,0,none⟩)),(79,.bool x34)],[⟨g11,69,[qyq x4.1,qyq x4.2.1,qyq x4.2.2.1,qyq x4.2.2.2.1,qyq x4.2.2.2.2.1,.slice a5 x4.2.2.2.2.2.1.length c6,qyq x4.2.2.2.2.2.2.1,qyq x4.2.2.2.2.2.2.2.1,qyq x4.2.2.2.2.2.2.2.2.1,qyq x4.2.2.2.2.2.2.2.2.2.1,.slice a7 x4.2.2.2.2.2.2.2.2.2.2.1.length c8,qyq x4.2.2.2.2.2.2.2.2.2.2.2.1,.slice a9 x4.2.2.2.2.2.2.2.2.2.2.2.2.1.length c10]⟩],[Ro (eI .u8) 5 1 (.slice a5 x4.2.2.2.2.2.1.length c6) x4.2.2.2.2.2.1,Ro (eI .u8) 5 1 (.slice a7 x4.2.2.2.2.2.2.2.2.2.2.1.length c8) x4.2.2.2.2.2.2.2.2.2.2.1,Ro (eI .u8) 5 1 (.slice a9 x4.2.2.2.2.2.2.2.2.2.2.2.2.1.length c10) x4.2.2.2.2.2.2.2.2.2.2.2.2.1],[],qac F x4 x34)) ?_ ?_
 refine qa (os:=_) rfl ?_
 refine av [24,12] ?_ ?_
 intro h32
 refine qf (k:=75) rfl h32 ?_
 refine au [24,4,32,3] ?_
 intro x39 e39 _
 refine au [76,0] ?_
 exact qb (((x39:Int) == 0),())
 intro h32
 refine qe (k:=75) rfl h32 ?_
 refine au [66,6,17,0] ?_
 exact qb (false,())
 rintro ⟨x34,_⟩
 try dsimp only
 refine qa (os:=_) rfl ?_
 refine au [1] ?_
 refine qq 6 (fun ((x37,_):(Bool×Unit))=>([(86,.bool x37)],[],[],[],qbX F x37)) ?_ ?_
 refine qa (os:=_) rfl ?_
 refine av [24,12] ?_ ?_
 intro h35
 refine qf (k:=80) rfl h35 ?_
 refine au [130] ?_
 refine qo (cells:=[qyq x4.1,qyq x4.2.1,qyq x4.2.2.1,qyq x4.2.2.2.1,qyq x4.2.2.2.2.1,.slice a5 x4.2.2.2.2.2.1.length c6,qyq 0,qyq 0,qyq 0,qyq 0,.slice none 0 0,qyq 0,.slice none 0 0]) rfl st69 rfl (by kernel_rfl) rfl ?_
 refine au [26,8,26,8,32,3] ?_
 intro x38 e38 _
 refine au [76,0] ?_
 exact qb (((x38:Int) == 4),())
 intro h35
 refine qe (k:=80) rfl h35 ?_
 refine au [72,6,17,0] ?_
 exact qb (false,())
 rintro ⟨x37,_⟩
 try dsimp only
 refine qa (os:=_) rfl ?_
 exact az [85]
set_option maxHeartbeats 4000000 in
theorem qlB {F:Nat}{x1:List (qyo)}{a2:qyp}{c3:Nat}{s3:List (qyp×Nat)}{r:List (qyo)}(hm:qd9 F x1=some r) :
    PureM Tryz.prog 33 [.slice a2 x1.length c3] [] [RoN eN22 rN22 22 1 (.slice a2 x1.length c3) x1 s3 []] [] (List (qyp×Nat)) (fun _=>.tuple #[]) (fun _=>[]) (fun g=>[RoN eN22 rN22 22 1 (.slice a2 r.length c3) r g []]):=by
 refine zw Tryz.func33 rfl Tryz.ntmps33 rfl hm (fun w=>?_)
 refine au [25,9,124] ?_
 refine qu (fun (((x0,x2),g0):((List (qyo)×Int)×List (qyp×Nat)))=>([(5,.slice a2 x0.length c3),(6,qyq (x1.length:Int)),(7,qyq x2)],[],[RoN eN22 rN22 22 1 (.slice a2 x0.length c3) x0 g0 []],[])) (fun k (s:((List (qyo)×Int)×List (qyp×Nat)))=>zN F x1 k s.1) ((x1,0),s3) F ?_
 intro k0
 rintro ⟨⟨x0,x2⟩,g0⟩
 try dsimp only
 refine qB (m':=qbU F x1 (zN F x1 k0) x0 x2) rfl ?_
 refine av [118] ?_ ?_
 intro _
 refine au [74] ?_
 refine qh (fun ((x3,g1):(List (qyo)×List (qyp×Nat)))=>([(5,.slice a2 x3.length c3),(6,qyq (x1.length:Int)),(7,qyq x2)],[],[RoN eN22 rN22 22 1 (.slice a2 x3.length c3) x3 g1 []],[],qbV F (zN F x1 k0) x2 x3)) ?_ ?_
 refine au [19,61,28,6] ?_
 intro x4 e0 g2 h0 g3 h1
 refine qdH (i:=0) rfl h0 (qxW) (qcS (j:=1) (p:=(x4,g2)) zX rfl rfl tf22 rfl h1 h0 rfl (fun _=>rfl) rfl rfl ?_)
 refine au [79,60,19] ?_
 refine qu (fun (((x5,x6),_):((qyo×Int)×Unit))=>([(3,.slice g2.1 x5.length g2.2),(4,qyq x6),(5,.slice a2 x0.length c3),(6,qyq (x1.length:Int)),(7,qyq x2)],[],[Ro (eI .i64) 3 1 (.slice g2.1 x5.length g2.2) x5,RoN eN22 rN22 22 1 (.slice a2 x0.length c3) x0 g0 [x2.toNat]],[])) (fun k (s:((qyo×Int)×Unit))=>yZ F (zN F x1 k0) x0 x2 x4 k s.1) ((x4,0),()) F ?_
 intro k1
 rintro ⟨⟨x5,x6⟩,_⟩
 try dsimp only
 refine qB (m':=qbr F (zN F x1 k0) x0 x2 x4 (yZ F (zN F x1 k0) x0 x2 x4 k1) x5 x6) rfl ?_
 refine av [83,126,101] ?_ ?_
 intro _
 refine au [74,3,19,4,1,1,29,0] ?_
 intro x7 e1 g4 h2
 refine qd3 (j:=0) (y':=-9) (qp .i64) rfl rfl rfl tf3 rfl h2 (qP e1).2.1 rfl (fun x8 e2 h3=>?_)
 have h4:x8.length=x5.length:=by rw[← e2,qwE]
 refine qc (d:=3) (v:=.slice g2.1 x8.length g2.2) rfl h3 (qc (d:=12) (v:=.slice g2.1 x8.length g2.2) rfl h3 (qc (d:=17) (v:=.slice g2.1 x8.length g2.2) rfl h3 ?_))
 refine au [0,78,4,1,23,5,0] ?_
 exact qr ((x8,iadd .i64 x6 1),())
 intro _
 refine au [87,24,10,37,1] ?_
 intro h5
 replace h5:=of_decide_eq_true h5
 refine qi4 (rin:=rN22) (i:=0) (kh:=0) (y:=x5) (q:=g2) (.cons 0 rfl .nil) rfl rfl h0 (by simp only[eN22,h5]) (fun x9 e3 h6 g5=>?_)
 have h7:x9.length=x0.length:=by rw[← e3,qwE]
 exact qmY (d:=5) (v:=.slice a2 x9.length c3) rfl (by rw[h6] <;> rfl) (qb (x9,g5))
 rintro ⟨x3,g1⟩
 try dsimp only
 refine au [4,23,1,0] ?_
 exact qr ((x3,iadd .i64 x2 1),g1)
 intro _
 refine au [87] ?_
 exact zy g0
set_option maxHeartbeats 4000000 in
theorem qpy {F:Nat}{x1:List (qyo)}{a2:qyp}{c3:Nat}{s3:List (qyp×Nat)}{r:Bool}(hm:qfp F x1=some r) :
    PureM Tryz.prog 34 [.agg #[.slice a2 x1.length c3]] [] [RoN eN22 rN22 22 1 (.slice a2 x1.length c3) x1 s3 []] [] Unit (fun _=>.bool r) (fun _=>[]) (fun _=>[]):=by
 refine zw Tryz.func34 rfl Tryz.ntmps34 rfl hm (fun w=>?_)
 refine au [25,9,82] ?_
 intro g4
 refine au [60] ?_
 refine qh (fun ((_,_):(Unit×Unit))=>([],[],[],[],qfI F)) ?_ ?_
 refine au [61,60,19] ?_
 refine qu (fun (((x0,x2,x3),g0):((Int×List (qyo)×Int)×List (qyp×Nat)))=>([(1,.pointer (some ⟨g4,0,none⟩)),(3,qyq x0)],[⟨g4,30,[.slice a2 x2.length c3]⟩],[RoN eN22 rN22 22 1 (.slice a2 x2.length c3) x2 g0 (qwm x3.toNat)],[])) (fun k (s:((Int×List (qyo)×Int)×List (qyp×Nat)))=>kb F k s.1) ((0,x1,0),s3) F ?_
 intro k0
 rintro ⟨⟨x0,x2,x3⟩,g0⟩
 try dsimp only
 refine qB (m':=qc1 F (kb F k0) x0 x2 x3) rfl ?_
 refine av [83,73,24,6,101] ?_ ?_
 intro _
 refine au [74] ?_
 refine qh (fun ((x4,_):(List (qyo)×Unit))=>([(1,.pointer (some ⟨g4,0,none⟩)),(3,qyq x0)],[⟨g4,30,[.slice a2 x4.length c3]⟩],[RoN eN22 rN22 22 1 (.slice a2 x4.length c3) x4 (g0.set x0.toNat (none,0)) (qwm (iadd .i64 x0 1).toNat)],[],qek F (kb F k0) x0 x4)) ?_ ?_
 refine au [19] ?_
 refine qh (fun ((_,_):(Unit×Unit))=>([(1,.pointer (some ⟨g4,0,none⟩)),(3,qyq x0)],[⟨g4,30,[.slice a2 x2.length c3]⟩],[RoN eN22 rN22 22 1 (.slice a2 x2.length c3) x2 g0 (qwm x3.toNat)],[],qc3 F (kb F k0) x0 x2 x3)) ?_ ?_
 refine au [61,60,19] ?_
 refine qu (fun ((x5,_):(Int×Unit))=>([(1,.pointer (some ⟨g4,0,none⟩)),(3,qyq x0),(4,qyq x5)],[⟨g4,30,[.slice a2 x2.length c3]⟩],[RoN eN22 rN22 22 1 (.slice a2 x2.length c3) x2 g0 (qwm x3.toNat)],[])) (fun k (s:(Int×Unit))=>jK F (kb F k0) x0 x2 x3 k s.1) (0,()) F ?_
 intro k1
 rintro ⟨x5,_⟩
 try dsimp only
 refine qB (m':=qc2 F (kb F k0) x0 x2 x3 (jK F (kb F k0) x0 x2 x3 k1) x5) rfl ?_
 refine au [83,73,1,28,6] ?_
 intro x6 e0 g1 h0 g2 h1
 refine au [25,13] ?_
 intro h2
 refine qdH (i:=0) rfl h0 (qh9 h2) (qcS (j:=1) (p:=(x6,g1)) zX rfl rfl tf22 rfl h1 h0 rfl (fun _=>rfl) rfl rfl ?_)
 refine av [24,6,101] ?_ ?_
 intro _
 refine au [74,3,19,3] ?_
 refine qcR (rin:=rN22) (p:=(x6,g1)) (i:=0) (k:=0) (.cons 0 rfl .nil) rfl rfl h0 ?_
 refine au [4,73,1,28,6] ?_
 intro x7 e1 g3 h3 g5 h4
 refine au [25,13] ?_
 intro h5
 refine qdH (i:=0) rfl h3 (qh9 h5) (qcS (j:=1) (p:=(x7,g3)) zX rfl rfl tf22 rfl h4 h3 rfl (fun _=>rfl) rfl rfl ?_)
 refine au [1,29,0] ?_
 intro x8 e2 g6 h6
 refine qfB (j:=0) (y:=x8) (qp .i64) rfl rfl tf3 rfl h6 (qP e2).2.2 (fun _=>rfl) rfl rfl ?_
 refine av [101] ?_ ?_
 intro _
 refine au [3] ?_
 refine qcR (rin:=rN22) (p:=(x7,g3)) (i:=0) (k:=0) (.cons 0 rfl .nil) rfl rfl h3 ?_
 exact az [4,64,129,129,28,10]
 intro _
 refine au [13,78] ?_
 refine qcR (rin:=rN22) (p:=(x7,g3)) (i:=0) (k:=0) (.cons 0 rfl .nil) rfl rfl h3 ?_
 refine au [4,1,23,5,0] ?_
 exact qr (iadd .i64 x5 1,())
 intro _
 refine au [87] ?_
 refine qnW (rin:=rN22) (p:=(x6,g1)) (i:=0) (k:=0) (.cons 0 rfl .nil) rfl rfl h0 ?_
 exact az [26,0]
 rintro ⟨_,_⟩
 try dsimp only
 refine au [61,73,1,28,6] ?_
 intro x9 e3 g7 h7 g8 h8
 refine au [25,13] ?_
 intro h9
 refine qdH (i:=0) rfl h7 (qh9 h9) (qcS (j:=1) (p:=(x9,g7)) zX rfl rfl tf22 rfl h8 h7 rfl (fun _=>rfl) rfl rfl (qn (vs:=[.slice g7.1 x9.length g7.2]) (ys:=([(x9,(g7.1,g7.2))]:List (qyo×(qyp×Nat)))) zX (by decide) rfl Tryz.underlying28 tf22 rfl rfl rfl rfl rfl (by decide) (fun a0 c0=>qd2 (rin:=rN22) (i:=0) ([x9]:List (qyo)) ([(g7.1,g7.2)]:List (qyp×Nat)) rfl rfl (.cons 0 rfl .nil) ?_)))
 refine au [25,13] ?_
 intro h10
 refine qqa 1 (iadd .i64 x0 1) rfl (qqI h10) ?_
 refine au [37,2] ?_
 intro x10 e4 g9
 refine au [25,13] ?_
 intro h11
 replace h11:=of_decide_eq_true h11
 refine qc (d:=36) (v:=.slice a0 x10.length c0) rfl (by rw[h11] <;> rfl) ?_
 refine au [59,4,73,1] ?_
 refine qmU (j:=1) rfl UnF.u inferInstance rfl rfl rfl rfl ?_
 intro x11 e5 g10 h12 g11 h13
 refine au [25,13] ?_
 intro h14
 refine qnV (j:=1) (y':=([]:qyo)) (q':=(none,0)) zX rfl rfl rfl tf22 rfl h13 (List.mem_range.2 (of_decide_eq_true h14)) (qP e5).2.1 rfl (fun x12 e6 h15=>?_)
 have h16:x12.length=x2.length:=by rw[← e6,qwE]
 refine qc (d:=32) (v:=.slice a2 x12.length c3) rfl (by rw[h15] <;> rfl) (qc (d:=39) (v:=.slice a2 x12.length c3) rfl (by rw[h15] <;> rfl) (qeU (i:=0) (cs':=[.slice a2 x12.length c3]) rfl (by rw[h15] <;> rfl) ?_))
 refine au [0,24,10] ?_
 exact qb (x12,())
 rintro ⟨x4,_⟩
 try dsimp only
 refine au [4,1,23,5,0] ?_
 exact qr ((iadd .i64 x0 1,x4,iadd .i64 x0 1),(g0.set x0.toNat (none,0)))
 intro _
 exact az [87,26,0]
 rintro ⟨_,_⟩
 try dsimp only
 exact az [61,64,28,10]
set_option maxHeartbeats 4000000 in
theorem qkn {F:Nat}{x1:Int}{x2:(qyo×qyo)}{a3:qyp}{c4:Nat}{x5:Int}{x6:qyo}{a7:qyp}{c8:Nat}{r:Bool}(hm:jf F x1 x2 x5 x6=some r) :
    Pure Tryz.prog 35 [.agg #[qyq x1,.slice a3 x2.1.length c4],.agg #[qyq x5,.slice a7 x6.length c8]] [Sl (eI .u8) 1 (.slice a3 (x2.1++x2.2).length c4) (x2.1++x2.2),Sl (eI .u8) 1 (.slice a7 x6.length c8) x6] Unit (fun _=>.bool r) (fun _=>[]) (fun _=>[]):=by
 refine ql Tryz.func35 rfl Tryz.ntmps35 rfl hm (fun w=>?_)
 refine au [24,11] ?_
 refine qmQ 0 (qp .u8) rfl ?_
 refine au [82] ?_
 intro g9
 refine au [24,1] ?_
 intro g10
 refine au [60] ?_
 refine qh (fun ((x18,_):(Bool×Unit))=>([(4,.bool x18)],[],[],[],qbq F x18)) ?_ ?_
 refine qy mixed [] [⟨g10,25,[qyq x5,.slice a7 x6.length c8]⟩,⟨g9,25,[qyq x1,.slice a3 x2.1.length c4]⟩] [Sl (eI .u8) 1 (.slice a3 x2.1.length c4) x2.1,Sl (eI .u8) 1 (.slice a3 (x2.1++x2.2).length c4) (x2.1++x2.2),Sl (eI .u8) 1 (.slice a7 x6.length c8) x6] (.cons 0 rfl (.cons 0 rfl .nil)) (qt 0 rfl (qt 1 rfl (qt 2 rfl qw))) 19 rfl (q8 0 (.agg #[qyq x1,.slice a3 x2.1.length c4]) rfl rfl rfl (qQ (i:=1) rfl tf25 rfl rfl (by simp) rfl) (q8 1 (.agg #[qyq x5,.slice a7 x6.length c8]) rfl rfl rfl (qQ (i:=0) rfl tf25 rfl rfl (by simp) rfl) ?_))
 refine au [20,2,30,6] ?_
 intro x19 e19 _
 refine av [0,32,5,7,3,26,4] ?_ ?_
 intro h20
 refine qi (d:=8) (v:=.bool true) rfl (by rw[h20] <;> rfl) ?_
 refine au [24,0,4,27,13,5,24,0,6,25,2,7,26,11,8,7,9,24,0,11,25,2,12,26,11,13,20,10,25,13] ?_
 intro h22
 refine qi2 (xs:=x2.1) (ts:=x2.2) (j:=1) (qp .u8) (by decide) (of_decide_eq_true h22) rfl Tryz.underlying23 tf5 rfl rfl rfl rfl ?_
 refine au [0,32,5,20,14] ?_
 refine qbL (j:=1) (qp .u8) (by decide) rfl UnF.u inferInstance rfl rfl rfl rfl ?_
 intro x23 e23 b24 o25
 refine au [0,37,3,20,15,25,14,0,37,3,7,16,7,17,7,18,24,8] ?_
 exact qx (qb (((x23:Int) == 77),())) (by intro c h;cases h)
 intro h20
 refine qi (d:=8) (v:=.bool false) rfl (by rw[h20] <;> rfl) ?_
 refine au [8,4,8,5,8,6,8,7,8,8,8,9,8,10,8,11,8,12,8,13,8,14,8,15,8,16,7,17,7,18,24,8] ?_
 exact qx (qb (false,())) (by intro c h;cases h)
 rintro ⟨x18,_⟩
 try dsimp only
 exact az [9,18]
set_option maxHeartbeats 4000000 in
theorem qhF {F:Nat}{x1:List (Int×qyo)}{a2:qyp}{c3:Nat}{s3:List (qyp×Nat)}{r:List (Int×qyo)}(hm:qds F x1=some r) :
    PureM Tryz.prog 36 [.slice a2 x1.length c3] [] [RoN eN25 rN25 25 2 (.slice a2 x1.length c3) x1 s3 []] [] (List (qyp×Nat)) (fun _=>.tuple #[]) (fun _=>[]) (fun g=>[RoN eN25 rN25 25 2 (.slice a2 r.length c3) r g []]):=by
 refine zw Tryz.func36 rfl Tryz.ntmps36 rfl hm (fun w=>?_)
 refine au [25,9,124] ?_
 refine qu (fun (((x0,x2),g0):((List (Int×qyo)×Int)×List (qyp×Nat)))=>([(5,.slice a2 x0.length c3),(6,qyq (x1.length:Int)),(7,qyq x2)],[],[RoN eN25 rN25 25 2 (.slice a2 x0.length c3) x0 g0 []],[])) (fun k (s:((List (Int×qyo)×Int)×List (qyp×Nat)))=>zb F x1 k s.1) ((x1,0),s3) F ?_
 intro k0
 rintro ⟨⟨x0,x2⟩,g0⟩
 try dsimp only
 refine qB (m':=jg F x1 (zb F x1 k0) x0 x2) rfl ?_
 refine av [118] ?_ ?_
 intro _
 refine au [74] ?_
 refine qh (fun ((x3,g1):(List (Int×qyo)×List (qyp×Nat)))=>([(5,.slice a2 x3.length c3),(6,qyq (x1.length:Int)),(7,qyq x2)],[],[RoN eN25 rN25 25 2 (.slice a2 x3.length c3) x3 g1 []],[],jh F (zb F x1 k0) x2 x3)) ?_ ?_
 refine au [19,61,28,6] ?_
 intro x4 e0 g2 h0 g3 h1
 refine qdH (i:=0) rfl h0 (qxW) (qcS (j:=1) (p:=(x4,g2)) qoj rfl rfl tf25 rfl h1 h0 rfl (by simp) rfl rfl ?_)
 refine au [24,9] ?_
 intro g4
 refine au [97,61,60,19] ?_
 refine qu (fun (((x5,x6),_):((Int×qyo)×Unit))=>([(3,.pointer (some ⟨g4,0,none⟩)),(4,qyq x5),(5,.slice a2 x0.length c3),(6,qyq (x1.length:Int)),(7,qyq x2)],[⟨g4,25,[qyq x4.1,.slice g2.1 x6.length g2.2]⟩],[RoN eN25 rN25 25 2 (.slice a2 x0.length c3) x0 g0 [x2.toNat],Ro (eI .u8) 5 1 (.slice g2.1 x6.length g2.2) x6],[])) (fun k (s:((Int×qyo)×Unit))=>kH F (zb F x1 k0) x0 x2 x4 k s.1) ((0,x4.2),()) F ?_
 intro k1
 rintro ⟨⟨x5,x6⟩,_⟩
 try dsimp only
 refine qB (m':=vJ F (zb F x1 k0) x0 x2 x4 (kH F (zb F x1 k0) x0 x2 x4 k1) x5 x6) rfl ?_
 refine av [83,73,24,6,101] ?_ ?_
 intro _
 refine au [74,3,19,4,73,1] ?_
 refine qd1 (j:=1) rfl UnF.u inferInstance rfl rfl rfl rfl ?_
 intro x7 e1 g5 h2
 refine qd3 (j:=1) (y':=99) (qp .u8) rfl rfl rfl tf5 rfl h2 (qP e1).2.1 rfl (fun x8 e2 h3=>?_)
 have h4:x8.length=x6.length:=by rw[← e2,qwE]
 refine qc (d:=13) (v:=.slice g2.1 x8.length g2.2) rfl h3 (qc (d:=19) (v:=.slice g2.1 x8.length g2.2) rfl h3 (qeU (i:=0) (cs':=[qyq x4.1,.slice g2.1 x8.length g2.2]) rfl (by rw[h3] <;> rfl) ?_))
 refine au [0,78,4,1,23,5,0] ?_
 exact qr ((iadd .i64 x5 1,x8),())
 intro _
 refine au [87,24,10,37,1] ?_
 intro h5
 replace h5:=of_decide_eq_true h5
 refine qi4 (rin:=rN25) (i:=0) (kh:=0) (y:=(x4.1,x6)) (q:=g2) (.cons 1 rfl .nil) rfl rfl h0 (by simp only[eN25,h5]) (fun x9 e3 h6 g6=>?_)
 have h7:x9.length=x0.length:=by rw[← e3,qwE]
 exact qmY (d:=5) (v:=.slice a2 x9.length c3) rfl (by rw[h6] <;> rfl) (qb (x9,g6))
 rintro ⟨x3,g1⟩
 try dsimp only
 refine au [4,23,1,0] ?_
 exact qr ((x3,iadd .i64 x2 1),g1)
 intro _
 refine au [87] ?_
 exact zy g0
set_option maxHeartbeats 4000000 in
theorem qql {F:Nat}{x1:(qyo×qyo)}{a2:qyp}{c3:Nat}{x4:qyo}{a5:qyp}{c6:Nat}{r:Bool}(hm:qdm F x1 x4=some r) :
    Pure Tryz.prog 37 [.slice a2 x1.1.length c3,.slice a5 x4.length c6] [Sl (eI .i64) 1 (.slice a2 (x1.1++x1.2).length c3) (x1.1++x1.2),Sl (eI .i64) 1 (.slice a5 x4.length c6) x4] Unit (fun _=>.bool r) (fun _=>[]) (fun _=>[]):=by
 refine ql Tryz.func37 rfl Tryz.ntmps37 rfl hm (fun w=>?_)
 refine au [24,11] ?_
 refine qmQ 0 (qp .i64) rfl ?_
 refine au [61,75,1,26,5] ?_
 intro x7 e7 _
 refine au [1] ?_
 refine qq 11 (fun ((x14,_):(Bool×Unit))=>([(19,.bool x14)],[],[],[],qd8 F x14)) ?_ ?_
 refine qa (os:=_) rfl ?_
 refine av [24,12] ?_ ?_
 intro h8
 refine qf (k:=8) rfl h8 ?_
 refine au [1,126,23,25,13] ?_
 intro h16
 refine qi2 (xs:=x1.1) (ts:=x1.2) (j:=1) (qp .i64) (by decide) (of_decide_eq_true h16) rfl Tryz.underlying22 tf3 rfl rfl rfl rfl ?_
 refine au [126,29,14] ?_
 intro x17 e17 b18 o19
 refine au [25,14,76,0] ?_
 exact qb (((x17:Int) == 77),())
 intro h8
 refine qe (k:=8) rfl h8 ?_
 refine au [72,72,90,0] ?_
 exact qb (false,())
 rintro ⟨x14,_⟩
 try dsimp only
 refine qa (os:=_) rfl ?_
 exact az [85]
set_option maxHeartbeats 4000000 in
theorem qi7 (F:Nat)(x1:qyo)(a2:qyp)(c3:Nat)(x4:qyo)(a5:qyp)(c6:Nat)(x7:Int)(x8:qyo)(a9:qyp)(c10:Nat)(x11:Int)(x12:Int)(x13:Int)(x14:List (qyo))(a15:qyp)(c16:(Nat×List (qyp×Nat)))(x17:Int)(x18:Int)(r:Bool)(hm:qej F x1 x4 x7 x8 x11 x12 x13 x14 x17 x18=some r) :
    Pure Tryz.prog 3 [.slice a2 x1.length c3,.slice a5 x4.length c6,.agg #[qyq x7,.slice a9 x8.length c10],.agg #[qyq x11,qyq x12,qyq x13],.agg #[.slice a15 x14.length c16.1],qyq x17,qyq x18] [Sl (eI .i64) 1 (.slice a2 x1.length c3) x1,Sl (eI .i64) 1 (.slice a5 x4.length c6) x4,Sl (eI .u8) 1 (.slice a9 x8.length c10) x8,SlN eN22 iN22 1 (.slice a15 x14.length c16.1) x14 c16.2] Unit (fun _=>.bool r) (fun _=>[]) (fun _=>[]):=by
 refine ql Tryz.func3 rfl Tryz.ntmps3 rfl hm (fun w=>qpi (l':=[(0,.slice a2 x1.length c3),(1,.slice a5 x4.length c6),(2,.agg #[qyq x7,.slice a9 x8.length c10]),(3,.agg #[qyq x11,qyq x12,qyq x13]),(4,.agg #[.slice a15 x14.length c16.1]),(5,qyq x17),(6,qyq x18)]) rfl ?_)
 refine au [82] ?_
 intro g19
 refine au [24,1] ?_
 intro g20
 refine au [24,1] ?_
 intro g21
 refine au [60] ?_
 refine qh (fun (((x55,x58,x60,x63),(a53,c54,a56,c57,g59,a61,c62)):(((qyo×qyo)×(qyo×qyo)×Int×(qyo×qyo))×(qyp×Nat×qyp×Nat×Nat×qyp×Nat)))=>([(0,.slice a2 x1.length c3),(1,.slice a5 x4.length c6),(5,qyq x17),(6,qyq x18),(9,.pointer (some ⟨g19,0,none⟩)),(10,.pointer (some ⟨g20,0,none⟩)),(11,.pointer (some ⟨g21,0,none⟩)),(15,.slice a53 x55.1.length c54),(16,.slice a56 x58.1.length c57),(17,.pointer (some ⟨g59,0,none⟩))],[⟨g21,30,[.slice a15 x14.length c16.1]⟩,⟨g20,27,[qyq x11,qyq x12,qyq x13]⟩,⟨g19,25,[qyq x7,.slice a9 x8.length c10]⟩,⟨g59,25,[qyq x60,.slice a61 x63.1.length c62]⟩],[Ro (eI .i64) 3 1 (.slice a53 (x55.1++x55.2).length c54) (x55.1++x55.2),Ro (eI .i64) 3 1 (.slice a56 (x58.1++x58.2).length c57) (x58.1++x58.2),Ro (eI .u8) 5 1 (.slice a61 (x63.1++x63.2).length c62) (x63.1++x63.2)],[Sl (eI .i64) 1 (.slice a2 x1.length c3) x1,Sl (eI .i64) 1 (.slice a5 x4.length c6) x4,SlN eN22 iN22 1 (.slice a15 x14.length c16.1) x14 c16.2,Sl (eI .u8) 1 (.slice a9 x8.length c10) x8],yE F x1 x4 x7 x8 x11 x12 x13 x14 x17 x18 x55 x58 x60 x63)) ?_ ?_
 refine qy mixed [] [⟨g21,30,[.slice a15 x14.length c16.1]⟩,⟨g20,27,[qyq x11,qyq x12,qyq x13]⟩,⟨g19,25,[qyq x7,.slice a9 x8.length c10]⟩] [Sl (eI .i64) 1 (.slice a2 x1.length c3) x1,Sl (eI .i64) 1 (.slice a5 x4.length c6) x4,Sl (eI .u8) 1 (.slice a9 x8.length c10) x8,SlN eN22 iN22 1 (.slice a15 x14.length c16.1) x14 c16.2] (.cons 0 rfl (.cons 0 rfl (.cons 0 rfl .nil))) (qt 0 rfl (qt 1 rfl (qt 2 rfl (qt 3 rfl qw)))) 10 rfl ?_
 refine au [7,0,7,2] ?_
 refine q8 4 (.agg #[qyq x7,.slice a9 x8.length c10]) rfl rfl rfl (qQ (i:=2) rfl tf25 rfl rfl (by simp) rfl) (qa9 1 6 rfl rfl (by kernel_rfl) rfl rfl ?_ ?_)
 refine au [28,7] ?_
 rintro x0 e0 ⟨a0,c0⟩
 refine au [0,32,7] ?_
 refine qa9 3 6 rfl rfl (by kernel_rfl) rfl rfl ?_ ?_
 refine au [28,7] ?_
 rintro x2 e1 ⟨a1,c1⟩
 refine au [0,32,7] ?_
 refine qa9 5 6 rfl rfl (by kernel_rfl) rfl rfl ?_ ?_
 refine au [28,8] ?_
 rintro x3 e2 ⟨a3,c2⟩
 refine au [0,32,7,20,6,24,9] ?_
 intro g0
 refine au [0,26,6,7,7,7,8,20,9,102,26,6,24,8] ?_
 exact qx (qb ((x0,x2,x3.1,x3.2),(a0,c0,a1,c1,g0,a3,c2))) (by intro c h;cases h)
 refine qba (m':=((yv F x7 x8).bind fun x5=>yE F x1 x4 x7 x8 x11 x12 x13 x14 x17 x18 x0 x2 x5.1 x5.2)) (rfl) ?_
 refine au [24,9] ?_
 intro g1
 refine au [0,26,6,20,5,28,8] ?_
 rintro x5 e3 ⟨a4,c4⟩
 refine au [0,26,6,7,7,7,8,20,9,102,26,6,24,8] ?_
 exact qx (qb ((x0,x2,x5.1,x5.2),(a0,c0,a1,c1,g1,a4,c4))) (by intro c h;cases h)
 refine qba (m':=((qaW F x4).bind fun x6=>((yv F x7 x8).bind fun x9=>yE F x1 x4 x7 x8 x11 x12 x13 x14 x17 x18 x0 x6 x9.1 x9.2))) (rfl) ?_
 refine au [24,9] ?_
 intro g2
 refine au [0,26,6,20,3,28,7] ?_
 rintro x6 e4 ⟨a6,c5⟩
 refine au [0,26,6,20,5,28,8] ?_
 rintro x9 e5 ⟨a7,c7⟩
 refine au [0,26,6,7,7,7,8,20,9,102,26,6,24,8] ?_
 exact qx (qb ((x0,x6,x9.1,x9.2),(a0,c0,a6,c5,g2,a7,c7))) (by intro c h;cases h)
 refine qba (m':=((qaW F x1).bind fun x10=>((qaW F x4).bind fun x15=>((yv F x7 x8).bind fun x16=>yE F x1 x4 x7 x8 x11 x12 x13 x14 x17 x18 x10 x15 x16.1 x16.2)))) (rfl) ?_
 refine au [24,9] ?_
 intro g3
 refine au [0,26,6,20,1,28,7] ?_
 rintro x10 e6 ⟨a8,c8⟩
 refine au [0,26,6,20,3,28,7] ?_
 rintro x15 e7 ⟨a10,c9⟩
 refine au [0,26,6,20,5,28,8] ?_
 rintro x16 e8 ⟨a11,c11⟩
 refine au [0,26,6,7,7,7,8,20,9,102,26,6,24,8] ?_
 exact qx (qb ((x10,x15,x16.1,x16.2),(a8,c8,a10,c9,g3,a11,c11))) (by intro c h;cases h)
 rintro ⟨⟨x55,x58,x60,x63⟩,⟨a53,c54,a56,c57,g59,a61,c62⟩⟩
 try dsimp only
 refine au [61] ?_
 refine qo (cells:=[.slice none 0 0]) rfl st30 rfl (by kernel_rfl) rfl ?_
 refine au [24,9] ?_
 intro g64
 refine au [97] ?_
 refine qh (fun ((x19,(a12,c12)):(List (qyo)×(qyp×(Nat×List (qyp×Nat)))))=>([(0,.slice a2 x1.length c3),(1,.slice a5 x4.length c6),(5,qyq x17),(6,qyq x18),(9,.pointer (some ⟨g19,0,none⟩)),(10,.pointer (some ⟨g20,0,none⟩)),(11,.pointer (some ⟨g21,0,none⟩)),(15,.slice a53 x55.1.length c54),(16,.slice a56 x58.1.length c57),(17,.pointer (some ⟨g59,0,none⟩)),(18,.pointer (some ⟨g64,0,none⟩))],[⟨g64,30,[.slice a12 x19.length c12.1]⟩,⟨g21,30,[.slice a15 x14.length c16.1]⟩,⟨g20,27,[qyq x11,qyq x12,qyq x13]⟩,⟨g19,25,[qyq x7,.slice a9 x8.length c10]⟩,⟨g59,25,[qyq x60,.slice a61 x63.1.length c62]⟩],[Ro (eI .i64) 3 1 (.slice a53 (x55.1++x55.2).length c54) (x55.1++x55.2),Ro (eI .i64) 3 1 (.slice a56 (x58.1++x58.2).length c57) (x58.1++x58.2),RoN eN22 rN22p 22 1 (.slice a12 x19.length c12.1) x19 c12.2 [],Ro (eI .u8) 5 1 (.slice a61 (x63.1++x63.2).length c62) (x63.1++x63.2)],[Sl (eI .i64) 1 (.slice a2 x1.length c3) x1,Sl (eI .i64) 1 (.slice a5 x4.length c6) x4,SlN eN22 iN22 1 (.slice a15 x14.length c16.1) x14 c16.2,Sl (eI .u8) 1 (.slice a9 x8.length c10) x8],qaU F x1 x4 x7 x8 x11 x12 x13 x14 x17 x18 x55 x58 x60 x63 x19)) ?_ ?_
 refine au [61,60,19] ?_
 refine qmO (qyo) (qyp×Nat) eN22 rN22p 22 1 (qu (fun (((x20,x21),(a13,c13)):((Int×List (qyo))×(qyp×(Nat×List (qyp×Nat)))))=>([(0,.slice a2 x1.length c3),(1,.slice a5 x4.length c6),(5,qyq x17),(6,qyq x18),(9,.pointer (some ⟨g19,0,none⟩)),(10,.pointer (some ⟨g20,0,none⟩)),(11,.pointer (some ⟨g21,0,none⟩)),(15,.slice a53 x55.1.length c54),(16,.slice a56 x58.1.length c57),(17,.pointer (some ⟨g59,0,none⟩)),(18,.pointer (some ⟨g64,0,none⟩)),(19,qyq x20)],[⟨g64,30,[.slice a13 x21.length c13.1]⟩,⟨g21,30,[.slice a15 x14.length c16.1]⟩,⟨g20,27,[qyq x11,qyq x12,qyq x13]⟩,⟨g19,25,[qyq x7,.slice a9 x8.length c10]⟩,⟨g59,25,[qyq x60,.slice a61 x63.1.length c62]⟩],[Ro (eI .i64) 3 1 (.slice a53 (x55.1++x55.2).length c54) (x55.1++x55.2),Ro (eI .i64) 3 1 (.slice a56 (x58.1++x58.2).length c57) (x58.1++x58.2),RoN eN22 rN22p 22 1 (.slice a13 x21.length c13.1) x21 c13.2 [],Ro (eI .u8) 5 1 (.slice a61 (x63.1++x63.2).length c62) (x63.1++x63.2)],[Sl (eI .i64) 1 (.slice a2 x1.length c3) x1,Sl (eI .i64) 1 (.slice a5 x4.length c6) x4,SlN eN22 iN22 1 (.slice a15 x14.length c16.1) x14 c16.2,Sl (eI .u8) 1 (.slice a9 x8.length c10) x8])) (fun k (s:((Int×List (qyo))×(qyp×(Nat×List (qyp×Nat)))))=>yf F x1 x4 x7 x8 x11 x12 x13 x14 x17 x18 x55 x58 x60 x63 k s.1) ((0,([]:List (qyo))),(none,(0,([]:List (qyp×Nat))))) F ?_)
 intro k0
 rintro ⟨⟨x20,x21⟩,⟨a13,c13⟩⟩
 try dsimp only
 refine qB (m':=jW F x1 x4 x7 x8 x11 x12 x13 x14 x17 x18 x55 x58 x60 x63 (yf F x1 x4 x7 x8 x11 x12 x13 x14 x17 x18 x55 x58 x60 x63 k0) x20 x21) rfl ?_
 refine av [83,84,24,6,101] ?_ ?_
 intro _
 refine au [74,3,19,37,4] ?_
 intro x22 e9 g4 b0 o0 h0
 replace h0:a15=some ⟨b0,o0,none⟩:=h0
 refine qy mixed [11] [⟨g21,30,[.slice a15 x14.length c16.1]⟩,⟨g20,27,[qyq x11,qyq x12,qyq x13]⟩,⟨g19,25,[qyq x7,.slice a9 x8.length c10]⟩,⟨g59,25,[qyq x60,.slice a61 x63.1.length c62]⟩] [qK b0 (o0+x20.toNat*1) (eN22 (x22,g4)),Sl (eI .i64) 1 (.slice g4.1 x22.length g4.2) x22,Sl (eI .i64) 1 (.slice a2 x1.length c3) x1,Sl (eI .i64) 1 (.slice a5 x4.length c6) x4,SlN eN22 iN22 1 (.slice a15 x14.length c16.1) x14 c16.2,Sl (eI .u8) 1 (.slice a9 x8.length c10) x8,(BlkD.is ⟨g64,30,[.slice a13 x21.length c13.1]⟩)] (.cons 1 rfl (.cons 1 rfl (.cons 1 rfl (.cons 1 rfl .nil)))) (qt 0 rfl (qt 1 rfl (qt 2 rfl (qt 3 rfl (qt 4 rfl (qt 5 rfl (qgx 0 rfl qw))))))) 12 rfl ?_
 refine au [24,0,0] ?_
 refine qO 1 (.slice a13 x21.length c13.1) [[11]] rfl rfl rfl (yS (j:=6) rfl tf28 rfl rfl (fun _=>rfl) rfl) ?_
 refine au [24,0,2,25,2,3,7,4] ?_
 refine qi (d:=80) (v:=.slice (some ⟨b0,o0,none⟩) x14.length c16.1) rfl (by rw[h0] <;> rfl) (qm 5 (.pointer (some ⟨b0,(o0+x20.toNat*1),none⟩)) rfl rfl rfl (vI Tryz.underlying28 tf22 rfl rfl (qP e9).1 (yr e9)) (qi (d:=80) (v:=.slice a15 x14.length c16.1) rfl (by rw[h0] <;> rfl) (qO 6 (.slice g4.1 x22.length g4.2) [[11]] rfl rfl rfl (zG (j:=0) rfl tf22 rfl rfl (fun _=>rfl) rfl) ?_)))
 refine au [20,7,28,7] ?_
 rintro x23 e10 ⟨a14,c14⟩
 refine au [0,32,8,20,8,25,13] ?_
 intro h1
 refine qst 0 (ts:=([77]:qyo)) (of_decide_eq_true h1) rfl (qn (vs:=[.slice a14 x23.1.length c14]) (ys:=([(x23.1,(a14,c14))]:List (qyo×(qyp×Nat)))) zX (by decide) rfl Tryz.underlying28 tf22 rfl rfl rfl rfl rfl (by decide) (fun a16 c15=>qd2 (rin:=rN22p) (i:=0) ([x23.1]:List (qyo)) ([(a14,c14)]:List (qyp×Nat)) rfl rfl (.cons 0 rfl .nil) ?_))
 refine au [0,32,8,20,9] ?_
 refine qiZ zX rfl UnF.u inferInstance rfl rfl rfl rfl (.cons 3 rfl (.cons 0 rfl .nil)) rfl rfl ?_
 intro x24 e11 a17 c17
 refine au [0,32,8,24,0,10,20,11,102] ?_
 refine qbp 11 rfl (by kernel_rfl) (.cons 1 rfl (.cons 1 rfl (.cons 1 rfl (.cons 1 rfl .nil)))) ?_
 refine au [24,8] ?_
 refine qx ?_ (by intro c h;cases h)
 refine au [78,4,1,23,5,0] ?_
 exact qr ((iadd .i64 x20 1,x24),(a17,(c17,(c13.2++([(a14,c14)]:List (qyp×Nat))))))
 intro _
 refine au [87] ?_
 exact qb (x21,(a13,c13))
 rintro ⟨x19,⟨a12,c12⟩⟩
 try dsimp only
 refine au [62,1] ?_
 refine zx ent7 rfl rfl rfl (fun x25 e12=>qhp F x55.1 a53 c54 x18 x25 e12) (.consG 0 rfl (qcs (qp .i64)) .nil) (fun x25 e12=>?_)
 rintro ⟨a18,c18⟩
 refine au [80,5,75,1,32,4] ?_
 rintro x26 e13 ⟨a19,c19⟩
 refine au [80,5,75,1] ?_
 refine zx ent9 rfl rfl rfl (fun x27 e14=>qge F x55.1 a53 c54 x18 2 x27 e14) (.consG 2 rfl (qcs (qp .i64)) .nil) (fun x27 e14=>?_)
 rintro ⟨a20,c20⟩
 refine au [95] ?_
 intro g5
 refine au [24,3,75] ?_
 refine zx ent10 rfl rfl rfl (fun x28 e15=>qgm F x55.1 a53 c54 3 x28 e15) (.consG 3 rfl (qcs (qp .i64)) .nil) (fun x28 e15=>?_)
 rintro ⟨⟨a21,c21⟩,⟨a22,c22⟩⟩
 refine au [80,10,5,5,75,1,28,2] ?_
 rintro x29 e16 ⟨a23,c23⟩
 refine au [80,5,75,1] ?_
 refine zx ent12 rfl rfl rfl (fun x30 e17=>qe8 F x58.1 a56 c57 x55.1 a53 c54 x30 e17) (.consG 7 rfl (qcs (qp .i64)) (.consG 6 rfl (qcs (qp .i64)) .nil)) (fun x30 e17=>?_)
 rintro ⟨⟨a24,c24⟩,⟨a25,c25⟩⟩
 refine au [80,10,5,5,75,26,3] ?_
 refine zx ent13 rfl rfl rfl (fun x31 e18=>qgj F x58.1 a56 c57 ([]:qyo) none 0 x31 e18) (.consG 10 rfl (qcs (qp .i64)) (.consR 0 (Ro (eI .i64) 3 1 (.slice none ([]:qyo).length 0) ([]:qyo)) rfl .nil)) (fun x31 e18=>?_)
 rintro ⟨a26,c26⟩
 refine au [80,5,75,26,3,26,3] ?_
 refine zx ent14 rfl rfl rfl (fun x32 e19=>qgk F x58.1 a56 c57 ([]:qyo) none 0 ([]:qyo) none 0 x32 e19) (.consG 13 rfl (qcs (qp .i64)) (.consR 0 (Ro (eI .i64) 3 1 (.slice none ([]:qyo).length 0) ([]:qyo)) rfl (.consR 0 (Ro (eI .i64) 3 1 (.slice none ([]:qyo).length 0) ([]:qyo)) rfl .nil))) (fun x32 e19=>?_)
 rintro ⟨a27,c27⟩
 refine au [80,5,75,1,1,28,11] ?_
 refine zx ent15 rfl rfl rfl (fun x33 e20=>qgn F x18 x55.1 a53 c54 x58.1 a56 c57 x11 x12 x13 x33 e20) (.consG 13 rfl (qcs (qp .i64)) (.consG 14 rfl (qcs (qp .i64)) .nil)) (fun x33 e20=>?_)
 rintro ⟨a28,c28⟩
 refine au [95] ?_
 intro g6
 refine au [24,3,79,32,9,1,1,28,3] ?_
 refine zx ent16 rfl rfl rfl (fun x34 e21=>qhs F x60 x63.1 a61 c62 0 x18 x58.1 a56 c57 x11 x12 x13 x34 e21) (.consG 17 rfl (qcs (qp .u8)) (.consG 15 rfl (qcs (qp .i64)) .nil)) (fun x34 e21=>?_)
 rintro ⟨a29,c29⟩
 refine au [80,10,5,5,79,26,2,28,3] ?_
 refine zx ent17 rfl rfl rfl (fun x35 e22=>qaT F x19 a12 c12 x11 x12 x13 x35 e22) (.consG 17 rfl qiC .nil) (fun x35 e22=>?_)
 rintro ⟨a30,c30⟩
 refine au [95] ?_
 intro g7
 refine au [24,3,60] ?_
 refine qh (fun (((x36,x37),(g8,a31,c31)):((Int×(qyo×qyo))×(Nat×qyp×Nat)))=>([(0,.slice a2 x1.length c3),(1,.slice a5 x4.length c6),(5,qyq x17),(9,.pointer (some ⟨g19,0,none⟩)),(10,.pointer (some ⟨g20,0,none⟩)),(11,.pointer (some ⟨g21,0,none⟩)),(15,.slice a53 x55.1.length c54),(16,.slice a56 x58.1.length c57),(17,.pointer (some ⟨g59,0,none⟩)),(18,.pointer (some ⟨g64,0,none⟩)),(22,.slice a19 x26.1.length c19),(24,.pointer (some ⟨g5,0,none⟩)),(27,.slice a22 x28.2.1.length c22),(29,.slice a23 x29.1.length c23),(31,.slice a24 x30.1.length c24),(32,.slice a25 x30.2.1.length c25),(34,.slice a26 x31.1.length c26),(36,.slice a27 x32.1.length c27),(38,.pointer (some ⟨g6,0,none⟩)),(40,.slice a29 x34.1.length c29),(43,.pointer (some ⟨g7,0,none⟩)),(45,.pointer (some ⟨g8,0,none⟩))],[⟨g7,53,[qyq x35.1,qyq x35.2.1,qyq x35.2.2.1,qyq x35.2.2.2.1,qyq x35.2.2.2.2.1,.slice a30 x35.2.2.2.2.2.1.length c30]⟩,⟨g6,25,[qyq x33.1,.slice a28 x33.2.1.length c28]⟩,⟨g5,25,[qyq x27.1,.slice a20 x27.2.1.length c20]⟩,⟨g64,30,[.slice a12 x19.length c12.1]⟩,⟨g21,30,[.slice a15 x14.length c16.1]⟩,⟨g20,27,[qyq x11,qyq x12,qyq x13]⟩,⟨g19,25,[qyq x7,.slice a9 x8.length c10]⟩,⟨g59,25,[qyq x60,.slice a61 x63.1.length c62]⟩,⟨g8,53,[qyq x35.1,qyq x35.2.1,qyq x35.2.2.1,qyq x35.2.2.2.1,qyq x36,.slice a31 x37.1.length c31]⟩],[Ro (eI .i64) 3 1 (.slice a53 (x55.1++x55.2).length c54) (x55.1++x55.2),Ro (eI .i64) 3 1 (.slice a56 (x58.1++x58.2).length c57) (x58.1++x58.2),Ro (eI .i64) 3 1 (.slice a19 x26.1.length c19) x26.1,Ro (eI .i64) 3 1 (.slice a22 x28.2.1.length c22) x28.2.1,Ro (eI .i64) 3 1 (.slice a23 x29.1.length c23) x29.1,Ro (eI .i64) 3 1 (.slice a24 x30.1.length c24) x30.1,Ro (eI .i64) 3 1 (.slice a25 x30.2.1.length c25) x30.2.1,Ro (eI .i64) 3 1 (.slice a26 x31.1.length c26) x31.1,Ro (eI .i64) 3 1 (.slice a27 x32.1.length c27) x32.1,Ro (eI .i64) 3 1 (.slice a29 x34.1.length c29) x34.1,Ro (eI .u8) 5 1 (.slice a30 x35.2.2.2.2.2.1.length c30) x35.2.2.2.2.2.1,Ro (eI .u8) 5 1 (.slice a28 x33.2.1.length c28) x33.2.1,Ro (eI .u8) 5 1 (.slice a20 x27.2.1.length c20) x27.2.1,RoN eN22 rN22p 22 1 (.slice a12 x19.length c12.1) x19 c12.2 [],Ro (eI .u8) 5 1 (.slice a61 (x63.1++x63.2).length c62) (x63.1++x63.2),Ro (eI .u8) 5 1 (.slice a31 (x37.1++x37.2).length c31) (x37.1++x37.2)],[Sl (eI .i64) 1 (.slice a2 x1.length c3) x1,Sl (eI .i64) 1 (.slice a5 x4.length c6) x4,SlN eN22 iN22 1 (.slice a15 x14.length c16.1) x14 c16.2,Sl (eI .u8) 1 (.slice a9 x8.length c10) x8],qaV F x1 x4 x7 x8 x11 x12 x13 x14 x17 x55 x58 x60 x63 x19 x26 x27 x28 x29 x30 x31 x32 x33 x34 x35 x36 x37)) ?_ ?_
 refine qy mixed [] [⟨g7,53,[qyq x35.1,qyq x35.2.1,qyq x35.2.2.1,qyq x35.2.2.2.1,qyq x35.2.2.2.2.1,.slice a30 x35.2.2.2.2.2.1.length c30]⟩,⟨g6,25,[qyq x33.1,.slice a28 x33.2.1.length c28]⟩,⟨g5,25,[qyq x27.1,.slice a20 x27.2.1.length c20]⟩,⟨g64,30,[.slice a12 x19.length c12.1]⟩,⟨g21,30,[.slice a15 x14.length c16.1]⟩,⟨g20,27,[qyq x11,qyq x12,qyq x13]⟩,⟨g19,25,[qyq x7,.slice a9 x8.length c10]⟩,⟨g59,25,[qyq x60,.slice a61 x63.1.length c62]⟩] [Sl (eI .i64) 1 (.slice a2 x1.length c3) x1,Sl (eI .i64) 1 (.slice a5 x4.length c6) x4,SlN eN22 iN22 1 (.slice a15 x14.length c16.1) x14 c16.2,Sl (eI .u8) 1 (.slice a9 x8.length c10) x8] (.cons 0 rfl (.cons 0 rfl (.cons 0 rfl (.cons 0 rfl (.cons 0 rfl (.cons 0 rfl (.cons 0 rfl (.cons 0 rfl .nil)))))))) (qt 0 rfl (qt 1 rfl (qt 2 rfl (qt 3 rfl qw)))) 10 rfl ?_
 refine au [100,24,0,2] ?_
 refine q8 3 (.agg #[qyq x35.2.1,qyq x35.2.2.1,qyq x35.2.2.2.1]) rfl rfl rfl (qQ (i:=0) rfl tf27 rfl rfl (by simp) rfl) ?_
 refine au [24,0,4] ?_
 refine q8 5 (.agg #[qyq x35.2.2.2.2.1,.slice a30 x35.2.2.2.2.2.1.length c30]) rfl rfl rfl (qQ (i:=0) rfl tf25 rfl rfl (by simp) rfl) (qa9 6 8 rfl rfl (by kernel_rfl) rfl rfl ?_ ?_)
 refine au [28,8] ?_
 rintro x38 e23 ⟨a32,c32⟩
 refine au [0] ?_
 refine zd (.cons 0 rfl (.cons 0 rfl (.cons 0 rfl (.cons 0 rfl (.cons 0 rfl (.cons 0 rfl (.cons 0 rfl (.cons 0 rfl .nil)))))))) (qt 0 rfl (qt 1 rfl (qt 2 rfl (qt 3 rfl qw)))) (qm 7 (.agg #[qyq x35.1,qyq x35.2.1,qyq x35.2.2.1,qyq x35.2.2.2.1,qyq x38.1,.slice a32 x38.2.1.length c32]) rfl rfl rfl (qdr (cells:=[qyq x35.1,qyq x35.2.1,qyq x35.2.2.1,qyq x35.2.2.2.1,qyq x38.1,.slice a32 x38.2.1.length c32]) st53 rfl (by kernel_rfl)) ?_)
 refine au [20,8,24,9] ?_
 intro g9
 refine au [0,29,4,20,9,102,29,4,24,8] ?_
 exact qx (zj ((x38.1,x38.2),(g9,a32,c32)) (hB:=(pk [1,2,3,4,5,6,7,8,0])) (hR:=(pk [17,18,15,13,11,9,10,7,4,2,1,3,14,19,20,0])) (hF:=(qj 0 rfl (qj 1 rfl (qj 2 rfl (qj 3 rfl zA)))))) (by intro c h;cases h)
 refine qba (m':=((yv F x35.2.2.2.2.1 x35.2.2.2.2.2.1).bind fun x39=>qaV F x1 x4 x7 x8 x11 x12 x13 x14 x17 x55 x58 x60 x63 x19 x26 x27 x28 x29 x30 x31 x32 x33 x34 x35 x39.1 x39.2)) (rfl) ?_
 refine au [24,9] ?_
 intro g10
 refine au [0,29,4,20,6,28,8] ?_
 rintro x39 e24 ⟨a33,c33⟩
 refine au [0,29,4] ?_
 refine qm 7 (.agg #[qyq x35.1,qyq x35.2.1,qyq x35.2.2.1,qyq x35.2.2.2.1,qyq x39.1,.slice a33 x39.2.1.length c33]) rfl rfl rfl (qdr (cells:=[qyq x35.1,qyq x35.2.1,qyq x35.2.2.1,qyq x35.2.2.2.1,qyq x39.1,.slice a33 x39.2.1.length c33]) st53 rfl (by kernel_rfl)) ?_
 refine au [20,9,102,29,4,24,8] ?_
 exact qx (zj ((x39.1,x39.2),(g10,a33,c33)) (hB:=(pk [1,2,3,4,5,6,7,8,0])) (hR:=(pk [17,18,15,13,11,9,10,7,4,2,1,3,14,19,20,0])) (hF:=(qj 0 rfl (qj 1 rfl (qj 2 rfl (qj 3 rfl zA)))))) (by intro c h;cases h)
 rintro ⟨⟨x36,x37⟩,⟨g8,a31,c31⟩⟩
 try dsimp only
 refine au [61,32,10] ?_
 refine zx ent18 rfl rfl rfl (fun x40 e25=>qhq F x35.1 x35.2.1 x35.2.2.1 x35.2.2.2.1 x36 x37.1 a31 c31 x40 e25) (.consG 15 rfl (qcs (qp .u8)) .nil) (fun x40 e25=>?_)
 rintro ⟨a34,c34⟩
 refine au [95] ?_
 intro g11
 refine au [24,3,79,28,3,32,9] ?_
 refine zx ent19 rfl rfl rfl (fun x41 e26=>qd7 F x19 a12 c12 x11 x12 x13 x41 e26) (.consG 14 rfl qiC .nil) (fun x41 e26=>?_)
 rintro ⟨⟨a35,c35⟩,⟨a36,c36⟩⟩
 refine au [80,10,5,5,79,32,10] ?_
 refine zx ent20 rfl rfl rfl (fun x42 e27=>qgl F x60 x63.1 a61 c62 3 x42 e27) (.consG 17 rfl (qcs (qp .u8)) .nil) (fun x42 e27=>?_)
 rintro ⟨a37,c37⟩
 refine au [95] ?_
 intro g12
 refine au [24,3,75,1] ?_
 refine zx ent21 rfl rfl rfl (fun x43 e28=>qgd F x55.1 a53 c54 x17 x43 e28) (.consG 4 rfl (qcs (qp .i64)) .nil) (fun x43 e28=>?_)
 rintro ⟨⟨a38,c38⟩,⟨a39,c39⟩⟩
 refine au [95] ?_
 intro g13
 refine au [24,3,91,36,14] ?_
 rintro x44 e29 ⟨a40,c40⟩
 refine au [80,5,79,32,9,32,10] ?_
 refine zx ent23 rfl rfl rfl (fun x45 e30=>qfH F x19 a12 c12 x11 x12 x13 x45 e30) (.consG 20 rfl qiC .nil) (fun x45 e30=>?_)
 rintro ⟨⟨a41,c41⟩,⟨a42,c42⟩,⟨a43,c43⟩⟩
 refine au [95] ?_
 intro g14
 refine au [24,3,91,30,7] ?_
 rintro x46 e31 ⟨a44,c44⟩
 refine au [80,10,5,5,60,3,61] ?_
 refine qg qi9 ?_
 intro x47 e32 _
 refine au [25,1,1] ?_
 refine qq 3 (fun ((x48,_):(Bool×Unit))=>([(0,.slice a2 x1.length c3),(1,.slice a5 x4.length c6),(9,.pointer (some ⟨g19,0,none⟩)),(11,.pointer (some ⟨g21,0,none⟩)),(15,.slice a53 x55.1.length c54),(16,.slice a56 x58.1.length c57),(17,.pointer (some ⟨g59,0,none⟩)),(18,.pointer (some ⟨g64,0,none⟩)),(22,.slice a19 x26.1.length c19),(24,.pointer (some ⟨g5,0,none⟩)),(27,.slice a22 x28.2.1.length c22),(29,.slice a23 x29.1.length c23),(31,.slice a24 x30.1.length c24),(32,.slice a25 x30.2.1.length c25),(34,.slice a26 x31.1.length c26),(36,.slice a27 x32.1.length c27),(38,.pointer (some ⟨g6,0,none⟩)),(40,.slice a29 x34.1.length c29),(43,.pointer (some ⟨g7,0,none⟩)),(45,.pointer (some ⟨g8,0,none⟩)),(46,.pointer (some ⟨g11,0,none⟩)),(48,.slice a35 x41.1.length c35),(49,.slice a36 x41.2.1.length c36),(51,.pointer (some ⟨g12,0,none⟩)),(53,.pointer (some ⟨g13,0,none⟩)),(55,.slice a40 x44.1.length c40),(57,.pointer (some ⟨g14,0,none⟩)),(59,.slice a44 x46.1.length c44),(211,.bool x48)],[⟨g14,69,[qyq x45.1,qyq x45.2.1,qyq x45.2.2.1,qyq x45.2.2.2.1,qyq x45.2.2.2.2.1,.slice a41 x45.2.2.2.2.2.1.length c41,qyq x45.2.2.2.2.2.2.1,qyq x45.2.2.2.2.2.2.2.1,qyq x45.2.2.2.2.2.2.2.2.1,qyq x45.2.2.2.2.2.2.2.2.2.1,.slice a42 x45.2.2.2.2.2.2.2.2.2.2.1.length c42,qyq x45.2.2.2.2.2.2.2.2.2.2.2.1,.slice a43 x45.2.2.2.2.2.2.2.2.2.2.2.2.1.length c43]⟩,⟨g13,64,[qyq x43.1,qyq x43.2.1,qyq x43.2.2.1,qyq x43.2.2.2.1,.slice a38 x43.2.2.2.2.1.length c38,qyq x43.2.2.2.2.2.1,.slice a39 x43.2.2.2.2.2.2.1.length c39]⟩,⟨g12,60,[qyq x42.1,.slice a37 x42.2.1.length c37]⟩,⟨g11,30,[.slice a34 x40.1.length c34.1]⟩,⟨g7,53,[qyq x35.1,qyq x35.2.1,qyq x35.2.2.1,qyq x35.2.2.2.1,qyq x35.2.2.2.2.1,.slice a30 x35.2.2.2.2.2.1.length c30]⟩,⟨g6,25,[qyq x33.1,.slice a28 x33.2.1.length c28]⟩,⟨g5,25,[qyq x27.1,.slice a20 x27.2.1.length c20]⟩,⟨g64,30,[.slice a12 x19.length c12.1]⟩,⟨g21,30,[.slice a15 x14.length c16.1]⟩,⟨g19,25,[qyq x7,.slice a9 x8.length c10]⟩,⟨g59,25,[qyq x60,.slice a61 x63.1.length c62]⟩,⟨g8,53,[qyq x35.1,qyq x35.2.1,qyq x35.2.2.1,qyq x35.2.2.2.1,qyq x36,.slice a31 x37.1.length c31]⟩],[Ro (eI .i64) 3 1 (.slice a53 (x55.1++x55.2).length c54) (x55.1++x55.2),Ro (eI .i64) 3 1 (.slice a56 (x58.1++x58.2).length c57) (x58.1++x58.2),Ro (eI .i64) 3 1 (.slice a19 x26.1.length c19) x26.1,Ro (eI .i64) 3 1 (.slice a22 x28.2.1.length c22) x28.2.1,Ro (eI .i64) 3 1 (.slice a23 x29.1.length c23) x29.1,Ro (eI .i64) 3 1 (.slice a24 x30.1.length c24) x30.1,Ro (eI .i64) 3 1 (.slice a25 x30.2.1.length c25) x30.2.1,Ro (eI .i64) 3 1 (.slice a26 x31.1.length c26) x31.1,Ro (eI .i64) 3 1 (.slice a27 x32.1.length c27) x32.1,Ro (eI .i64) 3 1 (.slice a29 x34.1.length c29) x34.1,Ro (eI .i64) 3 1 (.slice a35 x41.1.length c35) x41.1,Ro (eI .i64) 3 1 (.slice a36 x41.2.1.length c36) x41.2.1,Ro (eI .i64) 3 1 (.slice a40 x44.1.length c40) x44.1,Ro (eI .i64) 3 1 (.slice a44 x46.1.length c44) x46.1,Ro (eI .u8) 5 1 (.slice a41 x45.2.2.2.2.2.1.length c41) x45.2.2.2.2.2.1,Ro (eI .u8) 5 1 (.slice a42 x45.2.2.2.2.2.2.2.2.2.2.1.length c42) x45.2.2.2.2.2.2.2.2.2.2.1,Ro (eI .u8) 5 1 (.slice a43 x45.2.2.2.2.2.2.2.2.2.2.2.2.1.length c43) x45.2.2.2.2.2.2.2.2.2.2.2.2.1,Ro (eI .u8) 5 1 (.slice a38 x43.2.2.2.2.1.length c38) x43.2.2.2.2.1,Ro (eI .u8) 5 1 (.slice a39 x43.2.2.2.2.2.2.1.length c39) x43.2.2.2.2.2.2.1,Ro (eI .i64) 3 1 (.slice a37 x42.2.1.length c37) x42.2.1,RoN eN22 rN22 22 1 (.slice a34 x40.1.length c34.1) x40.1 c34.2 [],Ro (eI .u8) 5 1 (.slice a30 x35.2.2.2.2.2.1.length c30) x35.2.2.2.2.2.1,Ro (eI .u8) 5 1 (.slice a28 x33.2.1.length c28) x33.2.1,Ro (eI .u8) 5 1 (.slice a20 x27.2.1.length c20) x27.2.1,RoN eN22 rN22p 22 1 (.slice a12 x19.length c12.1) x19 c12.2 [],Ro (eI .u8) 5 1 (.slice a61 (x63.1++x63.2).length c62) (x63.1++x63.2),Ro (eI .u8) 5 1 (.slice a31 (x37.1++x37.2).length c31) (x37.1++x37.2)],[Sl (eI .i64) 1 (.slice a2 x1.length c3) x1,Sl (eI .i64) 1 (.slice a5 x4.length c6) x4,SlN eN22 iN22 1 (.slice a15 x14.length c16.1) x14 c16.2,Sl (eI .u8) 1 (.slice a9 x8.length c10) x8],jX F x1 x4 x7 x8 x14 x55 x58 x60 x63 x19 x26 x27 x28 x29 x30 x31 x32 x33 x34 x35 x36 x37 x40 x41 x42 x43 x44 x45 x46 x48)) ?_ ?_
 refine qa (os:=_) rfl ?_
 refine av [24,12] ?_ ?_
 intro h2
 refine qf (k:=208) rfl h2 ?_
 refine au [66,16,0] ?_
 exact zj (true,()) (hB:=(pk [0,1,2,3,4,5,6,7,8,10,11,12])) (hR:=(pk [11,12,13,14,15,16,17,18,19,20,8,9,4,0,1,2,3,5,6,7,10,21,22,23,24,25,26])) (hF:=(qj 0 rfl (qj 1 rfl (qj 2 rfl (qj 3 rfl zA)))))
 intro h2
 refine qe (k:=208) rfl h2 (qg qjc ?_)
 intro x49 e33 _
 refine au [25,1,17,0] ?_
 exact zj ((!x49),()) (hB:=(pk [0,1,2,3,4,5,6,7,8,10,11,12])) (hR:=(pk [11,12,13,14,15,16,17,18,19,20,8,9,4,0,1,2,3,5,6,7,10,21,22,23,24,25,26])) (hF:=(qj 0 rfl (qj 1 rfl (qj 2 rfl (qj 3 rfl zA)))))
 rintro ⟨x48,_⟩
 try dsimp only
 refine qa (os:=_) rfl ?_
 refine au [1] ?_
 refine qq 3 (fun ((x50,_):(Bool×Unit))=>([(0,.slice a2 x1.length c3),(1,.slice a5 x4.length c6),(9,.pointer (some ⟨g19,0,none⟩)),(11,.pointer (some ⟨g21,0,none⟩)),(15,.slice a53 x55.1.length c54),(16,.slice a56 x58.1.length c57),(17,.pointer (some ⟨g59,0,none⟩)),(18,.pointer (some ⟨g64,0,none⟩)),(22,.slice a19 x26.1.length c19),(24,.pointer (some ⟨g5,0,none⟩)),(27,.slice a22 x28.2.1.length c22),(29,.slice a23 x29.1.length c23),(31,.slice a24 x30.1.length c24),(32,.slice a25 x30.2.1.length c25),(34,.slice a26 x31.1.length c26),(36,.slice a27 x32.1.length c27),(38,.pointer (some ⟨g6,0,none⟩)),(40,.slice a29 x34.1.length c29),(43,.pointer (some ⟨g7,0,none⟩)),(45,.pointer (some ⟨g8,0,none⟩)),(46,.pointer (some ⟨g11,0,none⟩)),(48,.slice a35 x41.1.length c35),(49,.slice a36 x41.2.1.length c36),(51,.pointer (some ⟨g12,0,none⟩)),(53,.pointer (some ⟨g13,0,none⟩)),(55,.slice a40 x44.1.length c40),(57,.pointer (some ⟨g14,0,none⟩)),(59,.slice a44 x46.1.length c44),(215,.bool x50)],[⟨g14,69,[qyq x45.1,qyq x45.2.1,qyq x45.2.2.1,qyq x45.2.2.2.1,qyq x45.2.2.2.2.1,.slice a41 x45.2.2.2.2.2.1.length c41,qyq x45.2.2.2.2.2.2.1,qyq x45.2.2.2.2.2.2.2.1,qyq x45.2.2.2.2.2.2.2.2.1,qyq x45.2.2.2.2.2.2.2.2.2.1,.slice a42 x45.2.2.2.2.2.2.2.2.2.2.1.length c42,qyq x45.2.2.2.2.2.2.2.2.2.2.2.1,.slice a43 x45.2.2.2.2.2.2.2.2.2.2.2.2.1.length c43]⟩,⟨g13,64,[qyq x43.1,qyq x43.2.1,qyq x43.2.2.1,qyq x43.2.2.2.1,.slice a38 x43.2.2.2.2.1.length c38,qyq x43.2.2.2.2.2.1,.slice a39 x43.2.2.2.2.2.2.1.length c39]⟩,⟨g12,60,[qyq x42.1,.slice a37 x42.2.1.length c37]⟩,⟨g11,30,[.slice a34 x40.1.length c34.1]⟩,⟨g7,53,[qyq x35.1,qyq x35.2.1,qyq x35.2.2.1,qyq x35.2.2.2.1,qyq x35.2.2.2.2.1,.slice a30 x35.2.2.2.2.2.1.length c30]⟩,⟨g6,25,[qyq x33.1,.slice a28 x33.2.1.length c28]⟩,⟨g5,25,[qyq x27.1,.slice a20 x27.2.1.length c20]⟩,⟨g64,30,[.slice a12 x19.length c12.1]⟩,⟨g21,30,[.slice a15 x14.length c16.1]⟩,⟨g19,25,[qyq x7,.slice a9 x8.length c10]⟩,⟨g59,25,[qyq x60,.slice a61 x63.1.length c62]⟩,⟨g8,53,[qyq x35.1,qyq x35.2.1,qyq x35.2.2.1,qyq x35.2.2.2.1,qyq x36,.slice a31 x37.1.length c31]⟩],[Ro (eI .i64) 3 1 (.slice a53 (x55.1++x55.2).length c54) (x55.1++x55.2),Ro (eI .i64) 3 1 (.slice a56 (x58.1++x58.2).length c57) (x58.1++x58.2),Ro (eI .i64) 3 1 (.slice a19 x26.1.length c19) x26.1,Ro (eI .i64) 3 1 (.slice a22 x28.2.1.length c22) x28.2.1,Ro (eI .i64) 3 1 (.slice a23 x29.1.length c23) x29.1,Ro (eI .i64) 3 1 (.slice a24 x30.1.length c24) x30.1,Ro (eI .i64) 3 1 (.slice a25 x30.2.1.length c25) x30.2.1,Ro (eI .i64) 3 1 (.slice a26 x31.1.length c26) x31.1,Ro (eI .i64) 3 1 (.slice a27 x32.1.length c27) x32.1,Ro (eI .i64) 3 1 (.slice a29 x34.1.length c29) x34.1,Ro (eI .i64) 3 1 (.slice a35 x41.1.length c35) x41.1,Ro (eI .i64) 3 1 (.slice a36 x41.2.1.length c36) x41.2.1,Ro (eI .i64) 3 1 (.slice a40 x44.1.length c40) x44.1,Ro (eI .i64) 3 1 (.slice a44 x46.1.length c44) x46.1,Ro (eI .u8) 5 1 (.slice a41 x45.2.2.2.2.2.1.length c41) x45.2.2.2.2.2.1,Ro (eI .u8) 5 1 (.slice a42 x45.2.2.2.2.2.2.2.2.2.2.1.length c42) x45.2.2.2.2.2.2.2.2.2.2.1,Ro (eI .u8) 5 1 (.slice a43 x45.2.2.2.2.2.2.2.2.2.2.2.2.1.length c43) x45.2.2.2.2.2.2.2.2.2.2.2.2.1,Ro (eI .u8) 5 1 (.slice a38 x43.2.2.2.2.1.length c38) x43.2.2.2.2.1,Ro (eI .u8) 5 1 (.slice a39 x43.2.2.2.2.2.2.1.length c39) x43.2.2.2.2.2.2.1,Ro (eI .i64) 3 1 (.slice a37 x42.2.1.length c37) x42.2.1,RoN eN22 rN22 22 1 (.slice a34 x40.1.length c34.1) x40.1 c34.2 [],Ro (eI .u8) 5 1 (.slice a30 x35.2.2.2.2.2.1.length c30) x35.2.2.2.2.2.1,Ro (eI .u8) 5 1 (.slice a28 x33.2.1.length c28) x33.2.1,Ro (eI .u8) 5 1 (.slice a20 x27.2.1.length c20) x27.2.1,RoN eN22 rN22p 22 1 (.slice a12 x19.length c12.1) x19 c12.2 [],Ro (eI .u8) 5 1 (.slice a61 (x63.1++x63.2).length c62) (x63.1++x63.2),Ro (eI .u8) 5 1 (.slice a31 (x37.1++x37.2).length c31) (x37.1++x37.2)],[Sl (eI .i64) 1 (.slice a2 x1.length c3) x1,Sl (eI .i64) 1 (.slice a5 x4.length c6) x4,SlN eN22 iN22 1 (.slice a15 x14.length c16.1) x14 c16.2,Sl (eI .u8) 1 (.slice a9 x8.length c10) x8],jY F x1 x4 x7 x8 x14 x55 x58 x60 x63 x19 x26 x27 x28 x29 x30 x31 x32 x33 x34 x35 x36 x37 x40 x41 x42 x43 x44 x45 x46 x50)) ?_ ?_
 refine qa (os:=_) rfl ?_
 refine av [24,12] ?_ ?_
 intro h3
 refine qf (k:=212) rfl h3 ?_
 refine au [66,16,0] ?_
 exact zj (true,()) (hB:=(pk [0,1,2,3,4,5,6,7,8,9,10,11])) (hR:=(pk [0,1,2,3,4,5,6,7,8,9,10,11,12,13,14,15,16,17,18,19,20,21,22,23,24,25,26])) (hF:=(qj 0 rfl (qj 1 rfl (qj 2 rfl (qj 3 rfl zA)))))
 intro h3
 refine qe (k:=212) rfl h3 (qg qhW ?_)
 intro x51 e34 _
 refine au [25,1,17,0] ?_
 exact zj ((!x51),()) (hB:=(pk [0,1,2,3,4,5,6,7,8,9,10,11])) (hR:=(pk [0,1,2,3,4,5,6,7,8,9,10,11,12,13,14,15,16,17,18,19,20,21,22,23,24,25,26])) (hF:=(qj 0 rfl (qj 1 rfl (qj 2 rfl (qj 3 rfl zA)))))
 rintro ⟨x50,_⟩
 try dsimp only
 refine qa (os:=_) rfl ?_
 refine au [1] ?_
 refine qq 3 (fun ((x52,_):(Bool×Unit))=>([(0,.slice a2 x1.length c3),(1,.slice a5 x4.length c6),(9,.pointer (some ⟨g19,0,none⟩)),(11,.pointer (some ⟨g21,0,none⟩)),(15,.slice a53 x55.1.length c54),(16,.slice a56 x58.1.length c57),(17,.pointer (some ⟨g59,0,none⟩)),(18,.pointer (some ⟨g64,0,none⟩)),(22,.slice a19 x26.1.length c19),(24,.pointer (some ⟨g5,0,none⟩)),(27,.slice a22 x28.2.1.length c22),(29,.slice a23 x29.1.length c23),(31,.slice a24 x30.1.length c24),(32,.slice a25 x30.2.1.length c25),(34,.slice a26 x31.1.length c26),(36,.slice a27 x32.1.length c27),(38,.pointer (some ⟨g6,0,none⟩)),(40,.slice a29 x34.1.length c29),(43,.pointer (some ⟨g7,0,none⟩)),(45,.pointer (some ⟨g8,0,none⟩)),(46,.pointer (some ⟨g11,0,none⟩)),(48,.slice a35 x41.1.length c35),(49,.slice a36 x41.2.1.length c36),(51,.pointer (some ⟨g12,0,none⟩)),(53,.pointer (some ⟨g13,0,none⟩)),(55,.slice a40 x44.1.length c40),(57,.pointer (some ⟨g14,0,none⟩)),(59,.slice a44 x46.1.length c44),(219,.bool x52)],[⟨g14,69,[qyq x45.1,qyq x45.2.1,qyq x45.2.2.1,qyq x45.2.2.2.1,qyq x45.2.2.2.2.1,.slice a41 x45.2.2.2.2.2.1.length c41,qyq x45.2.2.2.2.2.2.1,qyq x45.2.2.2.2.2.2.2.1,qyq x45.2.2.2.2.2.2.2.2.1,qyq x45.2.2.2.2.2.2.2.2.2.1,.slice a42 x45.2.2.2.2.2.2.2.2.2.2.1.length c42,qyq x45.2.2.2.2.2.2.2.2.2.2.2.1,.slice a43 x45.2.2.2.2.2.2.2.2.2.2.2.2.1.length c43]⟩,⟨g13,64,[qyq x43.1,qyq x43.2.1,qyq x43.2.2.1,qyq x43.2.2.2.1,.slice a38 x43.2.2.2.2.1.length c38,qyq x43.2.2.2.2.2.1,.slice a39 x43.2.2.2.2.2.2.1.length c39]⟩,⟨g12,60,[qyq x42.1,.slice a37 x42.2.1.length c37]⟩,⟨g11,30,[.slice a34 x40.1.length c34.1]⟩,⟨g7,53,[qyq x35.1,qyq x35.2.1,qyq x35.2.2.1,qyq x35.2.2.2.1,qyq x35.2.2.2.2.1,.slice a30 x35.2.2.2.2.2.1.length c30]⟩,⟨g6,25,[qyq x33.1,.slice a28 x33.2.1.length c28]⟩,⟨g5,25,[qyq x27.1,.slice a20 x27.2.1.length c20]⟩,⟨g64,30,[.slice a12 x19.length c12.1]⟩,⟨g21,30,[.slice a15 x14.length c16.1]⟩,⟨g19,25,[qyq x7,.slice a9 x8.length c10]⟩,⟨g59,25,[qyq x60,.slice a61 x63.1.length c62]⟩,⟨g8,53,[qyq x35.1,qyq x35.2.1,qyq x35.2.2.1,qyq x35.2.2.2.1,qyq x36,.slice a31 x37.1.length c31]⟩],[Ro (eI .i64) 3 1 (.slice a53 (x55.1++x55.2).length c54) (x55.1++x55.2),Ro (eI .i64) 3 1 (.slice a56 (x58.1++x58.2).length c57) (x58.1++x58.2),Ro (eI .i64) 3 1 (.slice a19 x26.1.length c19) x26.1,Ro (eI .i64) 3 1 (.slice a22 x28.2.1.length c22) x28.2.1,Ro (eI .i64) 3 1 (.slice a23 x29.1.length c23) x29.1,Ro (eI .i64) 3 1 (.slice a24 x30.1.length c24) x30.1,Ro (eI .i64) 3 1 (.slice a25 x30.2.1.length c25) x30.2.1,Ro (eI .i64) 3 1 (.slice a26 x31.1.length c26) x31.1,Ro (eI .i64) 3 1 (.slice a27 x32.1.length c27) x32.1,Ro (eI .i64) 3 1 (.slice a29 x34.1.length c29) x34.1,Ro (eI .i64) 3 1 (.slice a35 x41.1.length c35) x41.1,Ro (eI .i64) 3 1 (.slice a36 x41.2.1.length c36) x41.2.1,Ro (eI .i64) 3 1 (.slice a40 x44.1.length c40) x44.1,Ro (eI .i64) 3 1 (.slice a44 x46.1.length c44) x46.1,Ro (eI .u8) 5 1 (.slice a41 x45.2.2.2.2.2.1.length c41) x45.2.2.2.2.2.1,Ro (eI .u8) 5 1 (.slice a42 x45.2.2.2.2.2.2.2.2.2.2.1.length c42) x45.2.2.2.2.2.2.2.2.2.2.1,Ro (eI .u8) 5 1 (.slice a43 x45.2.2.2.2.2.2.2.2.2.2.2.2.1.length c43) x45.2.2.2.2.2.2.2.2.2.2.2.2.1,Ro (eI .u8) 5 1 (.slice a38 x43.2.2.2.2.1.length c38) x43.2.2.2.2.1,Ro (eI .u8) 5 1 (.slice a39 x43.2.2.2.2.2.2.1.length c39) x43.2.2.2.2.2.2.1,Ro (eI .i64) 3 1 (.slice a37 x42.2.1.length c37) x42.2.1,RoN eN22 rN22 22 1 (.slice a34 x40.1.length c34.1) x40.1 c34.2 [],Ro (eI .u8) 5 1 (.slice a30 x35.2.2.2.2.2.1.length c30) x35.2.2.2.2.2.1,Ro (eI .u8) 5 1 (.slice a28 x33.2.1.length c28) x33.2.1,Ro (eI .u8) 5 1 (.slice a20 x27.2.1.length c20) x27.2.1,RoN eN22 rN22p 22 1 (.slice a12 x19.length c12.1) x19 c12.2 [],Ro (eI .u8) 5 1 (.slice a61 (x63.1++x63.2).length c62) (x63.1++x63.2),Ro (eI .u8) 5 1 (.slice a31 (x37.1++x37.2).length c31) (x37.1++x37.2)],[Sl (eI .i64) 1 (.slice a2 x1.length c3) x1,Sl (eI .i64) 1 (.slice a5 x4.length c6) x4,SlN eN22 iN22 1 (.slice a15 x14.length c16.1) x14 c16.2,Sl (eI .u8) 1 (.slice a9 x8.length c10) x8],jZ F x1 x4 x7 x8 x14 x55 x58 x60 x63 x19 x26 x27 x28 x29 x30 x31 x32 x33 x34 x35 x36 x37 x40 x41 x42 x43 x44 x45 x46 x52)) ?_ ?_
 refine qa (os:=_) rfl ?_
 refine av [24,12] ?_ ?_
 intro h4
 refine qf (k:=216) rfl h4 ?_
 refine au [66,16,0] ?_
 exact zj (true,()) (hB:=(pk [0,1,2,3,4,5,6,7,8,9,10,11])) (hR:=(pk [0,1,2,3,4,5,6,7,8,9,10,11,12,13,14,15,16,17,18,19,20,21,22,23,24,25,26])) (hF:=(qj 0 rfl (qj 1 rfl (qj 2 rfl (qj 3 rfl zA)))))
 intro h4
 refine qe (k:=216) rfl h4 (qg qje ?_)
 intro x53 e35 _
 refine au [25,1,17,0] ?_
 exact zj ((!x53),()) (hB:=(pk [0,1,2,3,4,5,6,7,8,9,10,11])) (hR:=(pk [0,1,2,3,4,5,6,7,8,9,10,11,12,13,14,15,16,17,18,19,20,21,22,23,24,25,26])) (hF:=(qj 0 rfl (qj 1 rfl (qj 2 rfl (qj 3 rfl zA)))))
 rintro ⟨x52,_⟩
 try dsimp only
 refine qa (os:=_) rfl ?_
 refine au [1] ?_
 refine qq 3 (fun ((x54,_):(Bool×Unit))=>([(0,.slice a2 x1.length c3),(1,.slice a5 x4.length c6),(9,.pointer (some ⟨g19,0,none⟩)),(11,.pointer (some ⟨g21,0,none⟩)),(15,.slice a53 x55.1.length c54),(16,.slice a56 x58.1.length c57),(17,.pointer (some ⟨g59,0,none⟩)),(18,.pointer (some ⟨g64,0,none⟩)),(22,.slice a19 x26.1.length c19),(24,.pointer (some ⟨g5,0,none⟩)),(27,.slice a22 x28.2.1.length c22),(29,.slice a23 x29.1.length c23),(31,.slice a24 x30.1.length c24),(32,.slice a25 x30.2.1.length c25),(34,.slice a26 x31.1.length c26),(36,.slice a27 x32.1.length c27),(38,.pointer (some ⟨g6,0,none⟩)),(40,.slice a29 x34.1.length c29),(43,.pointer (some ⟨g7,0,none⟩)),(45,.pointer (some ⟨g8,0,none⟩)),(46,.pointer (some ⟨g11,0,none⟩)),(48,.slice a35 x41.1.length c35),(49,.slice a36 x41.2.1.length c36),(51,.pointer (some ⟨g12,0,none⟩)),(53,.pointer (some ⟨g13,0,none⟩)),(55,.slice a40 x44.1.length c40),(57,.pointer (some ⟨g14,0,none⟩)),(59,.slice a44 x46.1.length c44),(223,.bool x54)],[⟨g14,69,[qyq x45.1,qyq x45.2.1,qyq x45.2.2.1,qyq x45.2.2.2.1,qyq x45.2.2.2.2.1,.slice a41 x45.2.2.2.2.2.1.length c41,qyq x45.2.2.2.2.2.2.1,qyq x45.2.2.2.2.2.2.2.1,qyq x45.2.2.2.2.2.2.2.2.1,qyq x45.2.2.2.2.2.2.2.2.2.1,.slice a42 x45.2.2.2.2.2.2.2.2.2.2.1.length c42,qyq x45.2.2.2.2.2.2.2.2.2.2.2.1,.slice a43 x45.2.2.2.2.2.2.2.2.2.2.2.2.1.length c43]⟩,⟨g13,64,[qyq x43.1,qyq x43.2.1,qyq x43.2.2.1,qyq x43.2.2.2.1,.slice a38 x43.2.2.2.2.1.length c38,qyq x43.2.2.2.2.2.1,.slice a39 x43.2.2.2.2.2.2.1.length c39]⟩,⟨g12,60,[qyq x42.1,.slice a37 x42.2.1.length c37]⟩,⟨g11,30,[.slice a34 x40.1.length c34.1]⟩,⟨g7,53,[qyq x35.1,qyq x35.2.1,qyq x35.2.2.1,qyq x35.2.2.2.1,qyq x35.2.2.2.2.1,.slice a30 x35.2.2.2.2.2.1.length c30]⟩,⟨g6,25,[qyq x33.1,.slice a28 x33.2.1.length c28]⟩,⟨g5,25,[qyq x27.1,.slice a20 x27.2.1.length c20]⟩,⟨g64,30,[.slice a12 x19.length c12.1]⟩,⟨g21,30,[.slice a15 x14.length c16.1]⟩,⟨g19,25,[qyq x7,.slice a9 x8.length c10]⟩,⟨g59,25,[qyq x60,.slice a61 x63.1.length c62]⟩,⟨g8,53,[qyq x35.1,qyq x35.2.1,qyq x35.2.2.1,qyq x35.2.2.2.1,qyq x36,.slice a31 x37.1.length c31]⟩],[Ro (eI .i64) 3 1 (.slice a53 (x55.1++x55.2).length c54) (x55.1++x55.2),Ro (eI .i64) 3 1 (.slice a56 (x58.1++x58.2).length c57) (x58.1++x58.2),Ro (eI .i64) 3 1 (.slice a19 x26.1.length c19) x26.1,Ro (eI .i64) 3 1 (.slice a22 x28.2.1.length c22) x28.2.1,Ro (eI .i64) 3 1 (.slice a23 x29.1.length c23) x29.1,Ro (eI .i64) 3 1 (.slice a24 x30.1.length c24) x30.1,Ro (eI .i64) 3 1 (.slice a25 x30.2.1.length c25) x30.2.1,Ro (eI .i64) 3 1 (.slice a26 x31.1.length c26) x31.1,Ro (eI .i64) 3 1 (.slice a27 x32.1.length c27) x32.1,Ro (eI .i64) 3 1 (.slice a29 x34.1.length c29) x34.1,Ro (eI .i64) 3 1 (.slice a35 x41.1.length c35) x41.1,Ro (eI .i64) 3 1 (.slice a36 x41.2.1.length c36) x41.2.1,Ro (eI .i64) 3 1 (.slice a40 x44.1.length c40) x44.1,Ro (eI .i64) 3 1 (.slice a44 x46.1.length c44) x46.1,Ro (eI .u8) 5 1 (.slice a41 x45.2.2.2.2.2.1.length c41) x45.2.2.2.2.2.1,Ro (eI .u8) 5 1 (.slice a42 x45.2.2.2.2.2.2.2.2.2.2.1.length c42) x45.2.2.2.2.2.2.2.2.2.2.1,Ro (eI .u8) 5 1 (.slice a43 x45.2.2.2.2.2.2.2.2.2.2.2.2.1.length c43) x45.2.2.2.2.2.2.2.2.2.2.2.2.1,Ro (eI .u8) 5 1 (.slice a38 x43.2.2.2.2.1.length c38) x43.2.2.2.2.1,Ro (eI .u8) 5 1 (.slice a39 x43.2.2.2.2.2.2.1.length c39) x43.2.2.2.2.2.2.1,Ro (eI .i64) 3 1 (.slice a37 x42.2.1.length c37) x42.2.1,RoN eN22 rN22 22 1 (.slice a34 x40.1.length c34.1) x40.1 c34.2 [],Ro (eI .u8) 5 1 (.slice a30 x35.2.2.2.2.2.1.length c30) x35.2.2.2.2.2.1,Ro (eI .u8) 5 1 (.slice a28 x33.2.1.length c28) x33.2.1,Ro (eI .u8) 5 1 (.slice a20 x27.2.1.length c20) x27.2.1,RoN eN22 rN22p 22 1 (.slice a12 x19.length c12.1) x19 c12.2 [],Ro (eI .u8) 5 1 (.slice a61 (x63.1++x63.2).length c62) (x63.1++x63.2),Ro (eI .u8) 5 1 (.slice a31 (x37.1++x37.2).length c31) (x37.1++x37.2)],[Sl (eI .i64) 1 (.slice a2 x1.length c3) x1,Sl (eI .i64) 1 (.slice a5 x4.length c6) x4,SlN eN22 iN22 1 (.slice a15 x14.length c16.1) x14 c16.2,Sl (eI .u8) 1 (.slice a9 x8.length c10) x8],j1 F x1 x4 x7 x8 x14 x55 x58 x60 x63 x19 x26 x27 x28 x29 x30 x31 x32 x33 x34 x35 x36 x37 x40 x41 x42 x43 x44 x45 x46 x54)) ?_ ?_
 refine qa (os:=_) rfl ?_
 refine av [24,12] ?_ ?_
 intro h5
 refine qf (k:=220) rfl h5 ?_
 refine au [66,16,0] ?_
 exact zj (true,()) (hB:=(pk [0,1,2,3,4,5,6,7,8,9,10,11])) (hR:=(pk [0,1,2,3,4,5,6,7,8,9,10,11,12,13,14,15,16,17,18,19,20,21,22,23,24,25,26])) (hF:=(qj 0 rfl (qj 1 rfl (qj 2 rfl (qj 3 rfl zA)))))
 intro h5
 refine qe (k:=220) rfl h5 (qg qja ?_)
 intro x56 e36 _
 refine au [25,1,17,0] ?_
 exact zj ((!x56),()) (hB:=(pk [0,1,2,3,4,5,6,7,8,9,10,11])) (hR:=(pk [0,1,2,3,4,5,6,7,8,9,10,11,12,13,14,15,16,17,18,19,20,21,22,23,24,25,26])) (hF:=(qj 0 rfl (qj 1 rfl (qj 2 rfl (qj 3 rfl zA)))))
 rintro ⟨x54,_⟩
 try dsimp only
 refine qa (os:=_) rfl ?_
 refine au [1] ?_
 refine qq 3 (fun ((x57,_):(Bool×Unit))=>([(0,.slice a2 x1.length c3),(1,.slice a5 x4.length c6),(9,.pointer (some ⟨g19,0,none⟩)),(11,.pointer (some ⟨g21,0,none⟩)),(15,.slice a53 x55.1.length c54),(16,.slice a56 x58.1.length c57),(17,.pointer (some ⟨g59,0,none⟩)),(18,.pointer (some ⟨g64,0,none⟩)),(22,.slice a19 x26.1.length c19),(24,.pointer (some ⟨g5,0,none⟩)),(27,.slice a22 x28.2.1.length c22),(29,.slice a23 x29.1.length c23),(31,.slice a24 x30.1.length c24),(32,.slice a25 x30.2.1.length c25),(34,.slice a26 x31.1.length c26),(36,.slice a27 x32.1.length c27),(38,.pointer (some ⟨g6,0,none⟩)),(40,.slice a29 x34.1.length c29),(43,.pointer (some ⟨g7,0,none⟩)),(45,.pointer (some ⟨g8,0,none⟩)),(46,.pointer (some ⟨g11,0,none⟩)),(48,.slice a35 x41.1.length c35),(49,.slice a36 x41.2.1.length c36),(51,.pointer (some ⟨g12,0,none⟩)),(53,.pointer (some ⟨g13,0,none⟩)),(55,.slice a40 x44.1.length c40),(57,.pointer (some ⟨g14,0,none⟩)),(59,.slice a44 x46.1.length c44),(227,.bool x57)],[⟨g14,69,[qyq x45.1,qyq x45.2.1,qyq x45.2.2.1,qyq x45.2.2.2.1,qyq x45.2.2.2.2.1,.slice a41 x45.2.2.2.2.2.1.length c41,qyq x45.2.2.2.2.2.2.1,qyq x45.2.2.2.2.2.2.2.1,qyq x45.2.2.2.2.2.2.2.2.1,qyq x45.2.2.2.2.2.2.2.2.2.1,.slice a42 x45.2.2.2.2.2.2.2.2.2.2.1.length c42,qyq x45.2.2.2.2.2.2.2.2.2.2.2.1,.slice a43 x45.2.2.2.2.2.2.2.2.2.2.2.2.1.length c43]⟩,⟨g13,64,[qyq x43.1,qyq x43.2.1,qyq x43.2.2.1,qyq x43.2.2.2.1,.slice a38 x43.2.2.2.2.1.length c38,qyq x43.2.2.2.2.2.1,.slice a39 x43.2.2.2.2.2.2.1.length c39]⟩,⟨g12,60,[qyq x42.1,.slice a37 x42.2.1.length c37]⟩,⟨g11,30,[.slice a34 x40.1.length c34.1]⟩,⟨g7,53,[qyq x35.1,qyq x35.2.1,qyq x35.2.2.1,qyq x35.2.2.2.1,qyq x35.2.2.2.2.1,.slice a30 x35.2.2.2.2.2.1.length c30]⟩,⟨g6,25,[qyq x33.1,.slice a28 x33.2.1.length c28]⟩,⟨g5,25,[qyq x27.1,.slice a20 x27.2.1.length c20]⟩,⟨g64,30,[.slice a12 x19.length c12.1]⟩,⟨g21,30,[.slice a15 x14.length c16.1]⟩,⟨g19,25,[qyq x7,.slice a9 x8.length c10]⟩,⟨g59,25,[qyq x60,.slice a61 x63.1.length c62]⟩,⟨g8,53,[qyq x35.1,qyq x35.2.1,qyq x35.2.2.1,qyq x35.2.2.2.1,qyq x36,.slice a31 x37.1.length c31]⟩],[Ro (eI .i64) 3 1 (.slice a53 (x55.1++x55.2).length c54) (x55.1++x55.2),Ro (eI .i64) 3 1 (.slice a56 (x58.1++x58.2).length c57) (x58.1++x58.2),Ro (eI .i64) 3 1 (.slice a19 x26.1.length c19) x26.1,Ro (eI .i64) 3 1 (.slice a22 x28.2.1.length c22) x28.2.1,Ro (eI .i64) 3 1 (.slice a23 x29.1.length c23) x29.1,Ro (eI .i64) 3 1 (.slice a24 x30.1.length c24) x30.1,Ro (eI .i64) 3 1 (.slice a25 x30.2.1.length c25) x30.2.1,Ro (eI .i64) 3 1 (.slice a26 x31.1.length c26) x31.1,Ro (eI .i64) 3 1 (.slice a27 x32.1.length c27) x32.1,Ro (eI .i64) 3 1 (.slice a29 x34.1.length c29) x34.1,Ro (eI .i64) 3 1 (.slice a35 x41.1.length c35) x41.1,Ro (eI .i64) 3 1 (.slice a36 x41.2.1.length c36) x41.2.1,Ro (eI .i64) 3 1 (.slice a40 x44.1.length c40) x44.1,Ro (eI .i64) 3 1 (.slice a44 x46.1.length c44) x46.1,Ro (eI .u8) 5 1 (.slice a41 x45.2.2.2.2.2.1.length c41) x45.2.2.2.2.2.1,Ro (eI .u8) 5 1 (.slice a42 x45.2.2.2.2.2.2.2.2.2.2.1.length c42) x45.2.2.2.2.2.2.2.2.2.2.1,Ro (eI .u8) 5 1 (.slice a43 x45.2.2.2.2.2.2.2.2.2.2.2.2.1.length c43) x45.2.2.2.2.2.2.2.2.2.2.2.2.1,Ro (eI .u8) 5 1 (.slice a38 x43.2.2.2.2.1.length c38) x43.2.2.2.2.1,Ro (eI .u8) 5 1 (.slice a39 x43.2.2.2.2.2.2.1.length c39) x43.2.2.2.2.2.2.1,Ro (eI .i64) 3 1 (.slice a37 x42.2.1.length c37) x42.2.1,RoN eN22 rN22 22 1 (.slice a34 x40.1.length c34.1) x40.1 c34.2 [],Ro (eI .u8) 5 1 (.slice a30 x35.2.2.2.2.2.1.length c30) x35.2.2.2.2.2.1,Ro (eI .u8) 5 1 (.slice a28 x33.2.1.length c28) x33.2.1,Ro (eI .u8) 5 1 (.slice a20 x27.2.1.length c20) x27.2.1,RoN eN22 rN22p 22 1 (.slice a12 x19.length c12.1) x19 c12.2 [],Ro (eI .u8) 5 1 (.slice a61 (x63.1++x63.2).length c62) (x63.1++x63.2),Ro (eI .u8) 5 1 (.slice a31 (x37.1++x37.2).length c31) (x37.1++x37.2)],[Sl (eI .i64) 1 (.slice a2 x1.length c3) x1,Sl (eI .i64) 1 (.slice a5 x4.length c6) x4,SlN eN22 iN22 1 (.slice a15 x14.length c16.1) x14 c16.2,Sl (eI .u8) 1 (.slice a9 x8.length c10) x8],j2 F x1 x4 x7 x8 x14 x55 x58 x60 x63 x19 x26 x27 x28 x29 x30 x31 x32 x33 x34 x35 x36 x37 x40 x41 x42 x43 x44 x45 x46 x57)) ?_ ?_
 refine qa (os:=_) rfl ?_
 refine av [24,12] ?_ ?_
 intro h6
 refine qf (k:=224) rfl h6 ?_
 refine au [66,16,0] ?_
 exact zj (true,()) (hB:=(pk [0,1,2,3,4,5,6,7,8,9,10,11])) (hR:=(pk [0,1,2,3,4,5,6,7,8,9,10,11,12,13,14,15,16,17,18,19,20,21,22,23,24,25,26])) (hF:=(qj 0 rfl (qj 1 rfl (qj 2 rfl (qj 3 rfl zA)))))
 intro h6
 refine qe (k:=224) rfl h6 (qg qjb ?_)
 intro x59 e37 _
 refine au [25,1,17,0] ?_
 exact zj ((!x59),()) (hB:=(pk [0,1,2,3,4,5,6,7,8,9,10,11])) (hR:=(pk [0,1,2,3,4,5,6,7,8,9,10,11,12,13,14,15,16,17,18,19,20,21,22,23,24,25,26])) (hF:=(qj 0 rfl (qj 1 rfl (qj 2 rfl (qj 3 rfl zA)))))
 rintro ⟨x57,_⟩
 try dsimp only
 refine qa (os:=_) rfl ?_
 refine au [1] ?_
 refine qq 3 (fun ((x61,_):(Bool×Unit))=>([(0,.slice a2 x1.length c3),(1,.slice a5 x4.length c6),(9,.pointer (some ⟨g19,0,none⟩)),(11,.pointer (some ⟨g21,0,none⟩)),(15,.slice a53 x55.1.length c54),(16,.slice a56 x58.1.length c57),(17,.pointer (some ⟨g59,0,none⟩)),(18,.pointer (some ⟨g64,0,none⟩)),(22,.slice a19 x26.1.length c19),(24,.pointer (some ⟨g5,0,none⟩)),(27,.slice a22 x28.2.1.length c22),(29,.slice a23 x29.1.length c23),(31,.slice a24 x30.1.length c24),(32,.slice a25 x30.2.1.length c25),(34,.slice a26 x31.1.length c26),(36,.slice a27 x32.1.length c27),(38,.pointer (some ⟨g6,0,none⟩)),(40,.slice a29 x34.1.length c29),(43,.pointer (some ⟨g7,0,none⟩)),(45,.pointer (some ⟨g8,0,none⟩)),(46,.pointer (some ⟨g11,0,none⟩)),(48,.slice a35 x41.1.length c35),(49,.slice a36 x41.2.1.length c36),(51,.pointer (some ⟨g12,0,none⟩)),(53,.pointer (some ⟨g13,0,none⟩)),(55,.slice a40 x44.1.length c40),(57,.pointer (some ⟨g14,0,none⟩)),(59,.slice a44 x46.1.length c44),(231,.bool x61)],[⟨g14,69,[qyq x45.1,qyq x45.2.1,qyq x45.2.2.1,qyq x45.2.2.2.1,qyq x45.2.2.2.2.1,.slice a41 x45.2.2.2.2.2.1.length c41,qyq x45.2.2.2.2.2.2.1,qyq x45.2.2.2.2.2.2.2.1,qyq x45.2.2.2.2.2.2.2.2.1,qyq x45.2.2.2.2.2.2.2.2.2.1,.slice a42 x45.2.2.2.2.2.2.2.2.2.2.1.length c42,qyq x45.2.2.2.2.2.2.2.2.2.2.2.1,.slice a43 x45.2.2.2.2.2.2.2.2.2.2.2.2.1.length c43]⟩,⟨g13,64,[qyq x43.1,qyq x43.2.1,qyq x43.2.2.1,qyq x43.2.2.2.1,.slice a38 x43.2.2.2.2.1.length c38,qyq x43.2.2.2.2.2.1,.slice a39 x43.2.2.2.2.2.2.1.length c39]⟩,⟨g12,60,[qyq x42.1,.slice a37 x42.2.1.length c37]⟩,⟨g11,30,[.slice a34 x40.1.length c34.1]⟩,⟨g7,53,[qyq x35.1,qyq x35.2.1,qyq x35.2.2.1,qyq x35.2.2.2.1,qyq x35.2.2.2.2.1,.slice a30 x35.2.2.2.2.2.1.length c30]⟩,⟨g6,25,[qyq x33.1,.slice a28 x33.2.1.length c28]⟩,⟨g5,25,[qyq x27.1,.slice a20 x27.2.1.length c20]⟩,⟨g64,30,[.slice a12 x19.length c12.1]⟩,⟨g21,30,[.slice a15 x14.length c16.1]⟩,⟨g19,25,[qyq x7,.slice a9 x8.length c10]⟩,⟨g59,25,[qyq x60,.slice a61 x63.1.length c62]⟩,⟨g8,53,[qyq x35.1,qyq x35.2.1,qyq x35.2.2.1,qyq x35.2.2.2.1,qyq x36,.slice a31 x37.1.length c31]⟩],[Ro (eI .i64) 3 1 (.slice a53 (x55.1++x55.2).length c54) (x55.1++x55.2),Ro (eI .i64) 3 1 (.slice a56 (x58.1++x58.2).length c57) (x58.1++x58.2),Ro (eI .i64) 3 1 (.slice a19 x26.1.length c19) x26.1,Ro (eI .i64) 3 1 (.slice a22 x28.2.1.length c22) x28.2.1,Ro (eI .i64) 3 1 (.slice a23 x29.1.length c23) x29.1,Ro (eI .i64) 3 1 (.slice a24 x30.1.length c24) x30.1,Ro (eI .i64) 3 1 (.slice a25 x30.2.1.length c25) x30.2.1,Ro (eI .i64) 3 1 (.slice a26 x31.1.length c26) x31.1,Ro (eI .i64) 3 1 (.slice a27 x32.1.length c27) x32.1,Ro (eI .i64) 3 1 (.slice a29 x34.1.length c29) x34.1,Ro (eI .i64) 3 1 (.slice a35 x41.1.length c35) x41.1,Ro (eI .i64) 3 1 (.slice a36 x41.2.1.length c36) x41.2.1,Ro (eI .i64) 3 1 (.slice a40 x44.1.length c40) x44.1,Ro (eI .i64) 3 1 (.slice a44 x46.1.length c44) x46.1,Ro (eI .u8) 5 1 (.slice a41 x45.2.2.2.2.2.1.length c41) x45.2.2.2.2.2.1,Ro (eI .u8) 5 1 (.slice a42 x45.2.2.2.2.2.2.2.2.2.2.1.length c42) x45.2.2.2.2.2.2.2.2.2.2.1,Ro (eI .u8) 5 1 (.slice a43 x45.2.2.2.2.2.2.2.2.2.2.2.2.1.length c43) x45.2.2.2.2.2.2.2.2.2.2.2.2.1,Ro (eI .u8) 5 1 (.slice a38 x43.2.2.2.2.1.length c38) x43.2.2.2.2.1,Ro (eI .u8) 5 1 (.slice a39 x43.2.2.2.2.2.2.1.length c39) x43.2.2.2.2.2.2.1,Ro (eI .i64) 3 1 (.slice a37 x42.2.1.length c37) x42.2.1,RoN eN22 rN22 22 1 (.slice a34 x40.1.length c34.1) x40.1 c34.2 [],Ro (eI .u8) 5 1 (.slice a30 x35.2.2.2.2.2.1.length c30) x35.2.2.2.2.2.1,Ro (eI .u8) 5 1 (.slice a28 x33.2.1.length c28) x33.2.1,Ro (eI .u8) 5 1 (.slice a20 x27.2.1.length c20) x27.2.1,RoN eN22 rN22p 22 1 (.slice a12 x19.length c12.1) x19 c12.2 [],Ro (eI .u8) 5 1 (.slice a61 (x63.1++x63.2).length c62) (x63.1++x63.2),Ro (eI .u8) 5 1 (.slice a31 (x37.1++x37.2).length c31) (x37.1++x37.2)],[Sl (eI .i64) 1 (.slice a2 x1.length c3) x1,Sl (eI .i64) 1 (.slice a5 x4.length c6) x4,SlN eN22 iN22 1 (.slice a15 x14.length c16.1) x14 c16.2,Sl (eI .u8) 1 (.slice a9 x8.length c10) x8],j3 F x1 x4 x7 x8 x14 x55 x58 x60 x63 x19 x26 x27 x28 x29 x30 x31 x32 x33 x34 x35 x36 x37 x40 x41 x42 x43 x44 x45 x46 x61)) ?_ ?_
 refine qa (os:=_) rfl ?_
 refine av [24,12] ?_ ?_
 intro h7
 refine qf (k:=228) rfl h7 ?_
 refine au [66,16,0] ?_
 exact zj (true,()) (hB:=(pk [0,1,2,3,4,5,6,7,8,9,10,11])) (hR:=(pk [0,1,2,3,4,5,6,7,8,9,10,11,12,13,14,15,16,17,18,19,20,21,22,23,24,25,26])) (hF:=(qj 0 rfl (qj 1 rfl (qj 2 rfl (qj 3 rfl zA)))))
 intro h7
 refine qe (k:=228) rfl h7 (qg qi8 ?_)
 intro x62 e38 _
 refine au [25,1,17,0] ?_
 exact zj ((!x62),()) (hB:=(pk [0,1,2,3,4,5,6,7,8,9,10,11])) (hR:=(pk [0,1,2,3,4,5,6,7,8,9,10,11,12,13,14,15,16,17,18,19,20,21,22,23,24,25,26])) (hF:=(qj 0 rfl (qj 1 rfl (qj 2 rfl (qj 3 rfl zA)))))
 rintro ⟨x61,_⟩
 try dsimp only
 refine qa (os:=_) rfl ?_
 refine au [1] ?_
 refine qq 3 (fun ((x64,_):(Bool×Unit))=>([(0,.slice a2 x1.length c3),(1,.slice a5 x4.length c6),(9,.pointer (some ⟨g19,0,none⟩)),(11,.pointer (some ⟨g21,0,none⟩)),(15,.slice a53 x55.1.length c54),(16,.slice a56 x58.1.length c57),(17,.pointer (some ⟨g59,0,none⟩)),(18,.pointer (some ⟨g64,0,none⟩)),(22,.slice a19 x26.1.length c19),(24,.pointer (some ⟨g5,0,none⟩)),(27,.slice a22 x28.2.1.length c22),(29,.slice a23 x29.1.length c23),(31,.slice a24 x30.1.length c24),(32,.slice a25 x30.2.1.length c25),(34,.slice a26 x31.1.length c26),(36,.slice a27 x32.1.length c27),(38,.pointer (some ⟨g6,0,none⟩)),(40,.slice a29 x34.1.length c29),(43,.pointer (some ⟨g7,0,none⟩)),(45,.pointer (some ⟨g8,0,none⟩)),(46,.pointer (some ⟨g11,0,none⟩)),(48,.slice a35 x41.1.length c35),(49,.slice a36 x41.2.1.length c36),(51,.pointer (some ⟨g12,0,none⟩)),(53,.pointer (some ⟨g13,0,none⟩)),(55,.slice a40 x44.1.length c40),(57,.pointer (some ⟨g14,0,none⟩)),(59,.slice a44 x46.1.length c44),(235,.bool x64)],[⟨g14,69,[qyq x45.1,qyq x45.2.1,qyq x45.2.2.1,qyq x45.2.2.2.1,qyq x45.2.2.2.2.1,.slice a41 x45.2.2.2.2.2.1.length c41,qyq x45.2.2.2.2.2.2.1,qyq x45.2.2.2.2.2.2.2.1,qyq x45.2.2.2.2.2.2.2.2.1,qyq x45.2.2.2.2.2.2.2.2.2.1,.slice a42 x45.2.2.2.2.2.2.2.2.2.2.1.length c42,qyq x45.2.2.2.2.2.2.2.2.2.2.2.1,.slice a43 x45.2.2.2.2.2.2.2.2.2.2.2.2.1.length c43]⟩,⟨g13,64,[qyq x43.1,qyq x43.2.1,qyq x43.2.2.1,qyq x43.2.2.2.1,.slice a38 x43.2.2.2.2.1.length c38,qyq x43.2.2.2.2.2.1,.slice a39 x43.2.2.2.2.2.2.1.length c39]⟩,⟨g12,60,[qyq x42.1,.slice a37 x42.2.1.length c37]⟩,⟨g11,30,[.slice a34 x40.1.length c34.1]⟩,⟨g7,53,[qyq x35.1,qyq x35.2.1,qyq x35.2.2.1,qyq x35.2.2.2.1,qyq x35.2.2.2.2.1,.slice a30 x35.2.2.2.2.2.1.length c30]⟩,⟨g6,25,[qyq x33.1,.slice a28 x33.2.1.length c28]⟩,⟨g5,25,[qyq x27.1,.slice a20 x27.2.1.length c20]⟩,⟨g64,30,[.slice a12 x19.length c12.1]⟩,⟨g21,30,[.slice a15 x14.length c16.1]⟩,⟨g19,25,[qyq x7,.slice a9 x8.length c10]⟩,⟨g59,25,[qyq x60,.slice a61 x63.1.length c62]⟩,⟨g8,53,[qyq x35.1,qyq x35.2.1,qyq x35.2.2.1,qyq x35.2.2.2.1,qyq x36,.slice a31 x37.1.length c31]⟩],[Ro (eI .i64) 3 1 (.slice a53 (x55.1++x55.2).length c54) (x55.1++x55.2),Ro (eI .i64) 3 1 (.slice a56 (x58.1++x58.2).length c57) (x58.1++x58.2),Ro (eI .i64) 3 1 (.slice a19 x26.1.length c19) x26.1,Ro (eI .i64) 3 1 (.slice a22 x28.2.1.length c22) x28.2.1,Ro (eI .i64) 3 1 (.slice a23 x29.1.length c23) x29.1,Ro (eI .i64) 3 1 (.slice a24 x30.1.length c24) x30.1,Ro (eI .i64) 3 1 (.slice a25 x30.2.1.length c25) x30.2.1,Ro (eI .i64) 3 1 (.slice a26 x31.1.length c26) x31.1,Ro (eI .i64) 3 1 (.slice a27 x32.1.length c27) x32.1,Ro (eI .i64) 3 1 (.slice a29 x34.1.length c29) x34.1,Ro (eI .i64) 3 1 (.slice a35 x41.1.length c35) x41.1,Ro (eI .i64) 3 1 (.slice a36 x41.2.1.length c36) x41.2.1,Ro (eI .i64) 3 1 (.slice a40 x44.1.length c40) x44.1,Ro (eI .i64) 3 1 (.slice a44 x46.1.length c44) x46.1,Ro (eI .u8) 5 1 (.slice a41 x45.2.2.2.2.2.1.length c41) x45.2.2.2.2.2.1,Ro (eI .u8) 5 1 (.slice a42 x45.2.2.2.2.2.2.2.2.2.2.1.length c42) x45.2.2.2.2.2.2.2.2.2.2.1,Ro (eI .u8) 5 1 (.slice a43 x45.2.2.2.2.2.2.2.2.2.2.2.2.1.length c43) x45.2.2.2.2.2.2.2.2.2.2.2.2.1,Ro (eI .u8) 5 1 (.slice a38 x43.2.2.2.2.1.length c38) x43.2.2.2.2.1,Ro (eI .u8) 5 1 (.slice a39 x43.2.2.2.2.2.2.1.length c39) x43.2.2.2.2.2.2.1,Ro (eI .i64) 3 1 (.slice a37 x42.2.1.length c37) x42.2.1,RoN eN22 rN22 22 1 (.slice a34 x40.1.length c34.1) x40.1 c34.2 [],Ro (eI .u8) 5 1 (.slice a30 x35.2.2.2.2.2.1.length c30) x35.2.2.2.2.2.1,Ro (eI .u8) 5 1 (.slice a28 x33.2.1.length c28) x33.2.1,Ro (eI .u8) 5 1 (.slice a20 x27.2.1.length c20) x27.2.1,RoN eN22 rN22p 22 1 (.slice a12 x19.length c12.1) x19 c12.2 [],Ro (eI .u8) 5 1 (.slice a61 (x63.1++x63.2).length c62) (x63.1++x63.2),Ro (eI .u8) 5 1 (.slice a31 (x37.1++x37.2).length c31) (x37.1++x37.2)],[Sl (eI .i64) 1 (.slice a2 x1.length c3) x1,Sl (eI .i64) 1 (.slice a5 x4.length c6) x4,SlN eN22 iN22 1 (.slice a15 x14.length c16.1) x14 c16.2,Sl (eI .u8) 1 (.slice a9 x8.length c10) x8],j4 F x1 x4 x7 x8 x14 x55 x58 x60 x63 x19 x26 x27 x28 x29 x30 x31 x32 x33 x34 x35 x36 x37 x40 x41 x42 x43 x44 x45 x46 x64)) ?_ ?_
 refine qa (os:=_) rfl ?_
 refine av [24,12] ?_ ?_
 intro h8
 refine qf (k:=232) rfl h8 ?_
 refine au [66,16,0] ?_
 exact zj (true,()) (hB:=(pk [0,1,2,3,4,5,6,7,8,9,10,11])) (hR:=(pk [0,1,2,3,4,5,6,7,8,9,10,11,12,13,14,15,16,17,18,19,20,21,22,23,24,25,26])) (hF:=(qj 0 rfl (qj 1 rfl (qj 2 rfl (qj 3 rfl zA)))))
 intro h8
 refine qe (k:=232) rfl h8 (qg qhX ?_)
 intro x65 e39 _
 refine au [25,1,17,0] ?_
 exact zj ((!x65),()) (hB:=(pk [0,1,2,3,4,5,6,7,8,9,10,11])) (hR:=(pk [0,1,2,3,4,5,6,7,8,9,10,11,12,13,14,15,16,17,18,19,20,21,22,23,24,25,26])) (hF:=(qj 0 rfl (qj 1 rfl (qj 2 rfl (qj 3 rfl zA)))))
 rintro ⟨x64,_⟩
 try dsimp only
 refine qa (os:=_) rfl ?_
 refine av [63] ?_ ?_
 intro _
 exact az [61,99]
 intro _
 refine au [74,62,1,1,1,1,1,1,1,1,1,1,1,12,27,15] ?_
 refine qn (vs:=[.slice a19 x26.1.length c19,.slice a22 x28.2.1.length c22,.slice a23 x29.1.length c23,.slice a24 x30.1.length c24,.slice a25 x30.2.1.length c25,.slice a26 x31.1.length c26,.slice a27 x32.1.length c27,.slice a29 x34.1.length c29,.slice a35 x41.1.length c35,.slice a36 x41.2.1.length c36,.slice a40 x44.1.length c40,.slice a44 x46.1.length c44,.slice a37 x42.2.1.length c37]) (ys:=([(x26.1,(a19,c19)),(x28.2.1,(a22,c22)),(x29.1,(a23,c23)),(x30.1,(a24,c24)),(x30.2.1,(a25,c25)),(x31.1,(a26,c26)),(x32.1,(a27,c27)),(x34.1,(a29,c29)),(x41.1,(a35,c35)),(x41.2.1,(a36,c36)),(x44.1,(a40,c40)),(x46.1,(a44,c44)),(x42.2.1,(a37,c37))]:List (qyo×(qyp×Nat)))) zX (by decide) rfl Tryz.underlying28 tf22 rfl rfl rfl rfl rfl (by decide) (fun a45 c45=>qkg (rin:=rN22) (i:=0) ([x26.1,x28.2.1,x29.1,x30.1,x30.2.1,x31.1,x32.1,x34.1,x41.1,x41.2.1,x44.1,x46.1,x42.2.1]:List (qyo)) ([(a19,c19),(a22,c22),(a23,c23),(a24,c24),(a25,c25),(a26,c26),(a27,c27),(a29,c29),(a35,c35),(a36,c36),(a40,c40),(a44,c44),(a37,c37)]:List (qyp×Nat)) rfl rfl (.cons 2 rfl (.cons 3 rfl (.cons 4 rfl (.cons 5 rfl (.cons 6 rfl (.cons 7 rfl (.cons 8 rfl (.cons 9 rfl (.cons 10 rfl (.cons 11 rfl (.cons 12 rfl (.cons 13 rfl (.cons 19 rfl .nil))))))))))))) (.cons 0 rfl (.cons 1 rfl (.cons 14 rfl (.cons 15 rfl (.cons 16 rfl (.cons 17 rfl (.cons 18 rfl (.cons 20 rfl (.cons 21 rfl (.cons 22 rfl (.cons 23 rfl (.cons 24 rfl (.cons 25 rfl (.cons 26 rfl .nil)))))))))))))) ?_)
 refine au [37,2] ?_
 intro x66 e40 g15
 refine au [25,13] ?_
 intro h9
 replace h9:=of_decide_eq_true h9
 refine qc (d:=250) (v:=.slice a45 x66.length c45) rfl (by rw[h9] <;> rfl) ?_
 refine au [59,3,61,28,11] ?_
 refine qW qpy ?_
 intro x67 e41 _
 refine au [25,1,1] ?_
 refine qq 7 (fun ((x68,_):(Bool×Unit))=>([(0,.slice a2 x1.length c3),(1,.slice a5 x4.length c6),(9,.pointer (some ⟨g19,0,none⟩)),(11,.pointer (some ⟨g21,0,none⟩)),(15,.slice a53 x55.1.length c54),(16,.slice a56 x58.1.length c57),(17,.pointer (some ⟨g59,0,none⟩)),(18,.pointer (some ⟨g64,0,none⟩)),(24,.pointer (some ⟨g5,0,none⟩)),(38,.pointer (some ⟨g6,0,none⟩)),(43,.pointer (some ⟨g7,0,none⟩)),(53,.pointer (some ⟨g13,0,none⟩)),(57,.pointer (some ⟨g14,0,none⟩)),(262,.bool x68)],[⟨g14,69,[qyq x45.1,qyq x45.2.1,qyq x45.2.2.1,qyq x45.2.2.2.1,qyq x45.2.2.2.2.1,.slice a41 x45.2.2.2.2.2.1.length c41,qyq x45.2.2.2.2.2.2.1,qyq x45.2.2.2.2.2.2.2.1,qyq x45.2.2.2.2.2.2.2.2.1,qyq x45.2.2.2.2.2.2.2.2.2.1,.slice a42 x45.2.2.2.2.2.2.2.2.2.2.1.length c42,qyq x45.2.2.2.2.2.2.2.2.2.2.2.1,.slice a43 x45.2.2.2.2.2.2.2.2.2.2.2.2.1.length c43]⟩,⟨g13,64,[qyq x43.1,qyq x43.2.1,qyq x43.2.2.1,qyq x43.2.2.2.1,.slice a38 x43.2.2.2.2.1.length c38,qyq x43.2.2.2.2.2.1,.slice a39 x43.2.2.2.2.2.2.1.length c39]⟩,⟨g7,53,[qyq x35.1,qyq x35.2.1,qyq x35.2.2.1,qyq x35.2.2.2.1,qyq x35.2.2.2.2.1,.slice a30 x35.2.2.2.2.2.1.length c30]⟩,⟨g6,25,[qyq x33.1,.slice a28 x33.2.1.length c28]⟩,⟨g5,25,[qyq x27.1,.slice a20 x27.2.1.length c20]⟩,⟨g64,30,[.slice a12 x19.length c12.1]⟩,⟨g21,30,[.slice a15 x14.length c16.1]⟩,⟨g19,25,[qyq x7,.slice a9 x8.length c10]⟩,⟨g59,25,[qyq x60,.slice a61 x63.1.length c62]⟩],[Ro (eI .i64) 3 1 (.slice a53 (x55.1++x55.2).length c54) (x55.1++x55.2),Ro (eI .i64) 3 1 (.slice a56 (x58.1++x58.2).length c57) (x58.1++x58.2),Ro (eI .u8) 5 1 (.slice a41 x45.2.2.2.2.2.1.length c41) x45.2.2.2.2.2.1,Ro (eI .u8) 5 1 (.slice a42 x45.2.2.2.2.2.2.2.2.2.2.1.length c42) x45.2.2.2.2.2.2.2.2.2.2.1,Ro (eI .u8) 5 1 (.slice a43 x45.2.2.2.2.2.2.2.2.2.2.2.2.1.length c43) x45.2.2.2.2.2.2.2.2.2.2.2.2.1,Ro (eI .u8) 5 1 (.slice a38 x43.2.2.2.2.1.length c38) x43.2.2.2.2.1,Ro (eI .u8) 5 1 (.slice a39 x43.2.2.2.2.2.2.1.length c39) x43.2.2.2.2.2.2.1,Ro (eI .u8) 5 1 (.slice a30 x35.2.2.2.2.2.1.length c30) x35.2.2.2.2.2.1,Ro (eI .u8) 5 1 (.slice a28 x33.2.1.length c28) x33.2.1,Ro (eI .u8) 5 1 (.slice a20 x27.2.1.length c20) x27.2.1,RoN eN22 rN22p 22 1 (.slice a12 x19.length c12.1) x19 c12.2 [],Ro (eI .u8) 5 1 (.slice a61 (x63.1++x63.2).length c62) (x63.1++x63.2)],[Sl (eI .i64) 1 (.slice a2 x1.length c3) x1,Sl (eI .i64) 1 (.slice a5 x4.length c6) x4,SlN eN22 iN22 1 (.slice a15 x14.length c16.1) x14 c16.2,Sl (eI .u8) 1 (.slice a9 x8.length c10) x8],j5 F x1 x4 x7 x8 x14 x55 x58 x60 x63 x19 x27 x33 x35 x43 x45 x68)) ?_ ?_
 refine qa (os:=_) rfl ?_
 refine av [24,12] ?_ ?_
 intro h10
 refine qf (k:=255) rfl h10 ?_
 refine au [72,66,16,0] ?_
 exact zj (true,()) (hB:=(pk [0,1,4,5,6,7,8,9,10])) (hR:=(pk [1,2,3,4,5,6,7,8,9,10,11,12])) (hF:=(qj 0 rfl (qj 1 rfl (qj 2 rfl (qj 3 rfl zA)))))
 intro h10
 refine qe (k:=255) rfl h10 ?_
 refine au [12] ?_
 refine ka (i:=11) rfl rfl inferInstance rfl rfl (by simp) rfl rfl ?_
 refine au [12,28,3,37,5] ?_
 intro x69 e42 _
 refine au [25,1,17,0] ?_
 exact zj ((!x69),()) (hB:=(pk [0,1,4,5,6,7,8,9,10])) (hR:=(pk [1,2,3,4,5,6,7,8,9,10,11,12])) (hF:=(qj 0 rfl (qj 1 rfl (qj 2 rfl (qj 3 rfl zA)))))
 rintro ⟨x68,_⟩
 try dsimp only
 refine qa (os:=_) rfl ?_
 refine av [63] ?_ ?_
 intro _
 exact az [61,99]
 intro _
 refine au [108,28,3,28,11,12,26,2,12,25,4,12,25,4,12,130,12,130,12,130] ?_
 refine qn (vs:=[.agg #[qyq x27.1,.slice a20 x27.2.1.length c20],.agg #[qyq x33.1,.slice a28 x33.2.1.length c28],.agg #[qyq x35.2.2.2.2.1,.slice a30 x35.2.2.2.2.2.1.length c30],.agg #[qyq x43.2.2.2.1,.slice a38 x43.2.2.2.2.1.length c38],.agg #[qyq x43.2.2.2.2.2.1,.slice a39 x43.2.2.2.2.2.2.1.length c39],.agg #[qyq x45.2.2.2.2.1,.slice a41 x45.2.2.2.2.2.1.length c41],.agg #[qyq x45.2.2.2.2.2.2.2.2.2.1,.slice a42 x45.2.2.2.2.2.2.2.2.2.2.1.length c42],.agg #[qyq x45.2.2.2.2.2.2.2.2.2.2.2.1,.slice a43 x45.2.2.2.2.2.2.2.2.2.2.2.2.1.length c43]]) (ys:=([((x27.1,x27.2.1),(a20,c20)),((x33.1,x33.2.1),(a28,c28)),((x35.2.2.2.2.1,x35.2.2.2.2.2.1),(a30,c30)),((x43.2.2.2.1,x43.2.2.2.2.1),(a38,c38)),((x43.2.2.2.2.2.1,x43.2.2.2.2.2.2.1),(a39,c39)),((x45.2.2.2.2.1,x45.2.2.2.2.2.1),(a41,c41)),((x45.2.2.2.2.2.2.2.2.2.1,x45.2.2.2.2.2.2.2.2.2.2.1),(a42,c42)),((x45.2.2.2.2.2.2.2.2.2.2.2.1,x45.2.2.2.2.2.2.2.2.2.2.2.2.1),(a43,c43))]:List ((Int×qyo)×(qyp×Nat)))) qoj (by decide) rfl Tryz.underlying95 tf25 rfl rfl rfl rfl rfl (by decide) (fun a46 c46=>qkg (rin:=rN25) (i:=0) ([(x27.1,x27.2.1),(x33.1,x33.2.1),(x35.2.2.2.2.1,x35.2.2.2.2.2.1),(x43.2.2.2.1,x43.2.2.2.2.1),(x43.2.2.2.2.2.1,x43.2.2.2.2.2.2.1),(x45.2.2.2.2.1,x45.2.2.2.2.2.1),(x45.2.2.2.2.2.2.2.2.2.1,x45.2.2.2.2.2.2.2.2.2.2.1),(x45.2.2.2.2.2.2.2.2.2.2.2.1,x45.2.2.2.2.2.2.2.2.2.2.2.2.1)]:List (Int×qyo)) ([(a20,c20),(a28,c28),(a30,c30),(a38,c38),(a39,c39),(a41,c41),(a42,c42),(a43,c43)]:List (qyp×Nat)) rfl rfl (.cons 9 rfl (.cons 8 rfl (.cons 7 rfl (.cons 5 rfl (.cons 6 rfl (.cons 2 rfl (.cons 3 rfl (.cons 4 rfl .nil)))))))) (.cons 0 rfl (.cons 1 rfl (.cons 10 rfl (.cons 11 rfl .nil)))) (qW qhF ?_))
 intro x70 e43 g16
 refine au [25,13] ?_
 intro h11
 replace h11:=of_decide_eq_true h11
 refine qc (d:=280) (v:=.slice a46 x70.length c46) rfl (by rw[h11] <;> rfl) ?_
 refine au [59] ?_
 refine qh (fun ((_,_):(Unit×Unit))=>([(0,.slice a2 x1.length c3),(1,.slice a5 x4.length c6),(9,.pointer (some ⟨g19,0,none⟩)),(15,.slice a53 x55.1.length c54),(16,.slice a56 x58.1.length c57),(17,.pointer (some ⟨g59,0,none⟩))],[⟨g19,25,[qyq x7,.slice a9 x8.length c10]⟩,⟨g59,25,[qyq x60,.slice a61 x63.1.length c62]⟩],[Ro (eI .i64) 3 1 (.slice a53 (x55.1++x55.2).length c54) (x55.1++x55.2),Ro (eI .i64) 3 1 (.slice a56 (x58.1++x58.2).length c57) (x58.1++x58.2),Ro (eI .u8) 5 1 (.slice a61 (x63.1++x63.2).length c62) (x63.1++x63.2)],[Sl (eI .i64) 1 (.slice a2 x1.length c3) x1,Sl (eI .i64) 1 (.slice a5 x4.length c6) x4,Sl (eI .u8) 1 (.slice a9 x8.length c10) x8],j6 F x1 x4 x7 x8 x55 x58 x60 x63)) ?_ ?_
 refine au [61,60,19] ?_
 refine qu (fun ((x71,_):(Int×Unit))=>([(0,.slice a2 x1.length c3),(1,.slice a5 x4.length c6),(9,.pointer (some ⟨g19,0,none⟩)),(11,.pointer (some ⟨g21,0,none⟩)),(15,.slice a53 x55.1.length c54),(16,.slice a56 x58.1.length c57),(17,.pointer (some ⟨g59,0,none⟩)),(18,.pointer (some ⟨g64,0,none⟩)),(62,qyq x71)],[⟨g64,30,[.slice a12 x19.length c12.1]⟩,⟨g21,30,[.slice a15 x14.length c16.1]⟩,⟨g19,25,[qyq x7,.slice a9 x8.length c10]⟩,⟨g59,25,[qyq x60,.slice a61 x63.1.length c62]⟩],[Ro (eI .i64) 3 1 (.slice a53 (x55.1++x55.2).length c54) (x55.1++x55.2),Ro (eI .i64) 3 1 (.slice a56 (x58.1++x58.2).length c57) (x58.1++x58.2),RoN eN22 rN22p 22 1 (.slice a12 x19.length c12.1) x19 c12.2 [],Ro (eI .u8) 5 1 (.slice a61 (x63.1++x63.2).length c62) (x63.1++x63.2)],[Sl (eI .i64) 1 (.slice a2 x1.length c3) x1,Sl (eI .i64) 1 (.slice a5 x4.length c6) x4,SlN eN22 iN22 1 (.slice a15 x14.length c16.1) x14 c16.2,Sl (eI .u8) 1 (.slice a9 x8.length c10) x8])) (fun k (s:(Int×Unit))=>ye F x1 x4 x7 x8 x14 x55 x58 x60 x63 x19 k s.1) (0,()) F ?_
 intro k1
 rintro ⟨x71,_⟩
 try dsimp only
 refine qB (m':=jV F x1 x4 x7 x8 x14 x55 x58 x60 x63 x19 (ye F x1 x4 x7 x8 x14 x55 x58 x60 x63 x19 k1) x71) rfl ?_
 refine av [83,84,24,6,101] ?_ ?_
 intro _
 refine au [74,3,19,3] ?_
 refine qsi (j:=2) rfl ?_
 intro x72 e44 g17 h12 g18 h13
 replace h13:a12=some ⟨g18,0,none⟩:=h13
 have h14:=qha (k:=x19.length) (c:=c12.1) h13
 refine qp7 (i:=2) rfl h12 (qxW) ?_
 refine au [37,4] ?_
 intro x73 e45 g22 b1 o1 h15
 replace h15:a15=some ⟨b1,o1,none⟩:=h15
 refine qy mixed [] [⟨g64,30,[.slice a12 x19.length c12.1]⟩,⟨g21,30,[.slice a15 x14.length c16.1]⟩,⟨g19,25,[qyq x7,.slice a9 x8.length c10]⟩,⟨g59,25,[qyq x60,.slice a61 x63.1.length c62]⟩] [qK b1 (o1+x71.toNat*1) (eN22 (x73,g22)),Sl (eI .i64) 1 (.slice g22.1 x73.length g22.2) x73,Sl (eI .i64) 1 (.slice a2 x1.length c3) x1,Sl (eI .i64) 1 (.slice a5 x4.length c6) x4,SlN eN22 iN22 1 (.slice a15 x14.length c16.1) x14 c16.2,Sl (eI .u8) 1 (.slice a9 x8.length c10) x8,qK g18 (x71.toNat*1) (eN22 (x72,g17))] (.cons 0 rfl (.cons 0 rfl (.cons 0 rfl (.cons 0 rfl .nil)))) (qt 0 rfl (qt 1 rfl (qt 2 rfl (qt 3 rfl (qt 4 rfl (qt 5 rfl (qmg 1 rfl (qn9 zX h12 h13) qw))))))) 12 rfl ?_
 refine au [100,7,2] ?_
 refine qi (d:=290) (v:=.slice (some ⟨g18,0,none⟩) x19.length c12.1) rfl (by rw[h13] <;> rfl) (qm 3 (.pointer (some ⟨g18,x71.toNat*1,none⟩)) rfl rfl rfl (qgT Tryz.underlying28 tf22 rfl rfl (qP e44).1 (yr e44)) (qi (d:=290) (v:=.slice a12 x19.length c12.1) rfl (by rw[h13] <;> rfl) (qO 4 (.slice g17.1 x72.length g17.2) [] rfl rfl rfl (zG (j:=6) rfl tf22 rfl rfl (fun _=>rfl) rfl) ?_)))
 refine au [24,0,5,27,13,6,7,7] ?_
 refine qi (d:=295) (v:=.slice (some ⟨b1,o1,none⟩) x14.length c16.1) rfl (by rw[h15] <;> rfl) (qm 8 (.pointer (some ⟨b1,(o1+x71.toNat*1),none⟩)) rfl rfl rfl (vI Tryz.underlying28 tf22 rfl rfl (qP e45).1 (yr e45)) (qi (d:=295) (v:=.slice a15 x14.length c16.1) rfl (by rw[h15] <;> rfl) (qO 9 (.slice g22.1 x73.length g22.2) [] rfl rfl rfl (zG (j:=0) rfl tf22 rfl rfl (fun _=>rfl) rfl) ?_)))
 refine au [20,10,32,11] ?_
 intro x74 e46 _
 refine au [0] ?_
 refine zd (.cons 0 rfl (.cons 0 rfl (.cons 0 rfl (.cons 0 rfl .nil)))) (qt 0 rfl (qt 1 rfl (qt 2 rfl (qt 3 rfl (qt 4 rfl (qt 5 rfl (qmg 1 rfl (qn9 zX h12 h13) qw))))))) ?_
 refine au [7,11,24,8] ?_
 refine qx ?_ (by intro c h;cases h)
 refine av [2,11] ?_ ?_
 intro _
 refine au [3] ?_
 refine qcR (rin:=rN22p) (p:=(x72,g17)) (i:=0) (k:=0) (.cons 0 rfl .nil) rfl rfl h12 ?_
 exact az [4,64,129,18]
 intro _
 refine au [13,78] ?_
 refine qcR (rin:=rN22p) (p:=(x72,g17)) (i:=0) (k:=0) (.cons 0 rfl .nil) rfl rfl h12 ?_
 refine au [4,1,23,5,0] ?_
 exact qr (iadd .i64 x71 1,())
 intro _
 exact az [87,26,0]
 rintro ⟨_,_⟩
 try dsimp only
 refine au [62,1,32,11] ?_
 intro x75 e47 _
 refine au [1] ?_
 refine qq 4 (fun ((x76,_):(Bool×Unit))=>([(9,.pointer (some ⟨g19,0,none⟩)),(17,.pointer (some ⟨g59,0,none⟩)),(308,.bool x76)],[⟨g19,25,[qyq x7,.slice a9 x8.length c10]⟩,⟨g59,25,[qyq x60,.slice a61 x63.1.length c62]⟩],[Ro (eI .u8) 5 1 (.slice a61 (x63.1++x63.2).length c62) (x63.1++x63.2)],[Sl (eI .u8) 1 (.slice a9 x8.length c10) x8],j7 F x7 x8 x60 x63 x76)) ?_ ?_
 refine qa (os:=_) rfl ?_
 refine av [24,12] ?_ ?_
 intro h16
 refine qf (k:=304) rfl h16 ?_
 refine au [1,1,32,11] ?_
 intro x77 e48 _
 refine au [16,0] ?_
 exact qb (x77,())
 intro h16
 refine qe (k:=304) rfl h16 ?_
 refine au [66,6,17,0] ?_
 exact qb (false,())
 rintro ⟨x76,_⟩
 try dsimp only
 refine qa (os:=_) rfl ?_
 refine au [1] ?_
 refine qq 4 (fun ((x78,_):(Bool×Unit))=>([(313,.bool x78)],[],[],[],qbR F x78)) ?_ ?_
 refine qa (os:=_) rfl ?_
 refine av [24,12] ?_ ?_
 intro h17
 refine qf (k:=309) rfl h17 ?_
 refine au [25,4,24,4,37,5] ?_
 intro x79 e49 _
 refine au [16,0] ?_
 exact qb (x79,())
 intro h17
 refine qe (k:=309) rfl h17 ?_
 refine au [66,6,17,0] ?_
 exact qb (false,())
 rintro ⟨x78,_⟩
 try dsimp only
 refine qa (os:=_) rfl ?_
 exact az [85]
end Go.Proofs.YtmoikolponkmpaaGreat
