/- Each Go function of this seat computes what its model says, part 4. -/
import Derived.Test.YtmoikolponkmpaaGreatWalks3
open Bool renaming false_and→qvT, true_and→qvZ, false_or→qv2, true_or→qv4
namespace Go.Proofs.YtmoikolponkmpaaGreat
open Go SX
set_option maxHeartbeats 4000000 in
theorem qkD {F:Nat}{x1:Int}{x2:qyo}{a3:qyp}{c4:Nat}{x5:Int}{r:qyo}(hm:qce F x1 x2 x5=some r) :
    Pure Tryz.prog 89 [.agg #[qyq x1,.slice a3 x2.length c4],qyq x5] [Sl (eI .u8) 1 (.slice a3 x2.length c4) x2] (qyp×Nat) (fun g=>.slice g.1 r.length g.2) (fun g=>[Ro (eI .i64) 3 1 (.slice g.1 r.length g.2) r]) (fun _=>[]):=by
 refine ql Tryz.func89 rfl Tryz.ntmps89 rfl hm (fun w=>?_)
 refine au [94] ?_
 intro g6
 refine au [79] ?_
 refine qn (vs:=[qyq 0]) (ys:=([0]:qyo)) (qp .i64) (by decide) rfl Tryz.underlying22 tf3 rfl rfl rfl rfl rfl (by decide) (fun a7 c8=>?_)
 refine au [60] ?_
 refine qh (fun ((x82,(a80,c81)):(qyo×(qyp×Nat)))=>([(5,.slice a80 x82.length c81)],[],[Ro (eI .i64) 3 1 (.slice a80 x82.length c81) x82],[],qe3 F x82)) ?_ ?_
 refine au [62,60,19] ?_
 refine qu (fun (((x0,x3),(a0,c0)):((qyo×Int)×(qyp×Nat)))=>([(1,qyq x5),(2,.pointer (some ⟨g6,0,none⟩)),(5,.slice a0 x0.length c0),(6,qyq x3)],[⟨g6,25,[qyq x1,.slice a3 x2.length c4]⟩],[Ro (eI .i64) 3 1 (.slice a0 x0.length c0) x0],[Sl (eI .u8) 1 (.slice a3 x2.length c4) x2])) (fun k (s:((qyo×Int)×(qyp×Nat)))=>vd F x1 x2 x5 k s.1) ((([0]:qyo),x5),(a7,c8)) F ?_
 intro k0
 rintro ⟨⟨x0,x3⟩,⟨a0,c0⟩⟩
 try dsimp only
 refine qB (m':=qbC F x1 x2 x5 (vd F x1 x2 x5 k0) x0 x3) rfl ?_
 refine av [83,73,26,15,63] ?_ ?_
 intro _
 refine au [74,3,19,29,9] ?_
 intro x4 e0 g0 h0
 replace h0:a0=some ⟨g0,0,none⟩:=h0
 have h1:=qha (k:=x0.length) (c:=c0) h0
 refine qy mixed [15] [⟨g6,25,[qyq x1,.slice a3 x2.length c4]⟩] [Sl (eI .u8) 1 (.slice a3 x2.length c4) x2,qK g0 ((isub .i64 (x0.length:Int) 1).toNat*1) ((eI .i64) x4)] (.cons 0 rfl .nil) (qt 0 rfl (qmg 0 rfl (qgX (qp .i64) e0 h0) qw)) 17 rfl ?_
 refine au [88,7,2,26,11,3,7,4] ?_
 refine qi (d:=17) (v:=.slice (some ⟨g0,0,none⟩) x0.length c0) rfl (by rw[h0] <;> rfl) (qm 5 (.pointer (some ⟨g0,(isub .i64 (x0.length:Int) 1).toNat*1,none⟩)) rfl rfl rfl (qgT Tryz.underlying22 tf3 rfl rfl (qP e0).1 (yr e0)) (qi (d:=17) (v:=.slice a0 x0.length c0) rfl (by rw[h0] <;> rfl) (qO 6 (qyq x4) [[13,14,15]] rfl rfl rfl (zG (j:=1) rfl tf3 rfl rfl (fun _=>rfl) rfl) (q8 7 (.agg #[qyq x1,.slice a3 x2.length c4]) rfl rfl rfl (qQ (i:=0) rfl tf25 rfl rfl (by simp) rfl) ?_))))
 refine au [7,8,7,9,7,10,7,11,20,12,31,15] ?_
 intro x6 e1 _
 refine au [0] ?_
 refine zd (.cons 0 rfl .nil) (qt 0 rfl (qmg 0 rfl (qgX (qp .i64) e0 h0) qw)) ?_
 refine au [7,13,20,14] ?_
 refine qn (vs:=[qyq (iadd .i64 x4 x6)]) (ys:=([iadd .i64 x4 x6]:qyo)) (qp .i64) (by decide) rfl Tryz.underlying22 tf3 rfl rfl rfl rfl rfl (by decide) (fun a1 c1=>?_)
 refine au [0] ?_
 refine zd (.cons 0 rfl .nil) (qt 0 rfl (qmg 1 rfl (qgX (qp .i64) e0 h0) qw)) ?_
 refine au [20,15] ?_
 refine zY 1 (qp .i64) rfl Tryz.underlying22 tf3 rfl rfl rfl rfl rfl (.inl ⟨0,_,rfl⟩) rfl rfl (fun x7 e2 a2 c2=>?_)
 refine au [0] ?_
 refine qbp 15 rfl (by kernel_rfl) (.cons 0 rfl .nil) ?_
 refine au [7,16,24,8] ?_
 refine qx ?_ (by intro c h;cases h)
 refine au [78,4,1,1,23,5,0] ?_
 exact qr ((x7,iadd .i64 x3 x5),(a2,c2))
 intro _
 refine au [87] ?_
 exact qb (x0,(a0,c0))
 rintro ⟨x82,⟨a80,c81⟩⟩
 try dsimp only
 refine au [62,64] ?_
 exact qs (a80,c81)
theorem qgl (F:Nat)(x1:Int)(x2:qyo)(a3:qyp)(c4:Nat)(x5:Int)(r:(Int×qyo×Int))(hm:qcd F x1 x2 x5=some r) :
    Pure Tryz.prog 20 [.agg #[qyq x1,.slice a3 x2.length c4],qyq x5] [Sl (eI .u8) 1 (.slice a3 x2.length c4) x2] (qyp×Nat) (fun g=>.tuple #[.agg #[qyq r.1,.slice g.1 r.2.1.length g.2],qyq r.2.2]) (fun g=>[Ro (eI .i64) 3 1 (.slice g.1 r.2.1.length g.2) r.2.1]) (fun _=>[]):=by
 refine ql Tryz.func20 rfl Tryz.ntmps20 rfl hm (fun w=>?_)
 refine au [94] ?_
 intro g6
 refine au [24,9] ?_
 intro g7
 refine au [60,3,61,25,4,1,35,14] ?_
 intro x10 e10 _
 refine av [75,81] ?_ ?_
 intro _
 refine au [61] ?_
 refine qo (cells:=[qyq 0,.slice none 0 0]) rfl st60 rfl (by kernel_rfl) rfl ?_
 refine au [1,24,3,114] ?_
 exact qF (none,0) (resL (rs:=[.cell 4 60,.tmp 5]) rfl (.cell (i:=0) rfl tf60 rfl rfl (by simp) rfl (.tmp rfl ResOk.nil)) rfl) (fun h=>by subst h;exact (.cons 0 rfl .nil))
 intro _
 refine au [74,62,25,4,1,35,15] ?_
 rintro x11 e11 ⟨a12,c13⟩
 refine qo (cells:=[qyq x5,.slice a12 x11.length c13]) rfl st60 rfl (by kernel_rfl) rfl ?_
 refine au [24,3,64] ?_
 exact qF (a12,c13) (resL (rs:=[.cell 4 60,.tmp 5]) rfl (.cell (i:=0) rfl tf60 rfl rfl (by simp) rfl (.tmp rfl ResOk.nil)) rfl) (fun h=>by subst h;exact (.cons 0 rfl .nil))
set_option maxHeartbeats 4000000 in
theorem qkw {F:Nat}{x1:qyo}{a2:qyp}{c3:Nat}{x4:Int}{r:Int}(hm:qb0 F x1 x4=some r) :
    Pure Tryz.prog 90 [.slice a2 x1.length c3,qyq x4] [Sl (eI .i64) 1 (.slice a2 x1.length c3) x1] Unit (fun _=>qyq r) (fun _=>[]) (fun _=>[]):=by
 refine ql Tryz.func90 rfl Tryz.ntmps90 rfl hm (fun w=>?_)
 refine au [69,60,3,19,62,125] ?_
 refine qk 3 (decide (x4<0)) [(0,.slice a2 x1.length c3),(1,qyq x4),(14,.bool ((decide (x4<0)) || (decide (1048576<x4))))] (fun h8=>?_) (fun h8=>?_) ?_
 refine qa (os:=_) rfl (qf (k:=11) rfl h8 ?_)
 refine au [66,16] ?_
 refine qc (d:=14) (v:=.bool ((decide (x4<0)) || (decide (1048576<x4)))) rfl (by rw[h8];simp only[qv4]) ?_
 exact az [68]
 refine qa (os:=_) rfl (qe (k:=11) rfl h8 ?_)
 refine au [1,92] ?_
 refine qc (d:=14) (v:=.bool ((decide (x4<0)) || (decide (1048576<x4)))) rfl (by rw[h8];simp only[qv2]) ?_
 exact az [68]
 refine qa (os:=_) rfl ?_
 refine av [60,11] ?_ ?_
 intro _
 exact az [61,64,67,18]
 intro _
 refine av [62,24,6,24,15,60,11] ?_ ?_
 intro _
 exact az [61,64,67,18]
 intro _
 refine au [13,78,61,60] ?_
 refine qh (fun ((_,_):(Unit×Unit))=>([],[],[],[],qe0 F)) ?_ ?_
 refine au [124] ?_
 refine qu (fun (((x92,x93),_):((Int×Int)×Unit))=>([(1,qyq x4),(5,qyq x92),(19,.slice a2 x1.length c3),(20,qyq (x1.length:Int)),(21,qyq x93)],[],[],[Sl (eI .i64) 1 (.slice a2 x1.length c3) x1])) (fun k (s:((Int×Int)×Unit))=>y9 F x1 x4 k s.1) ((0,0),()) F ?_
 intro k0
 rintro ⟨⟨x92,x93⟩,_⟩
 try dsimp only
 refine qB (m':=qbu F x1 x4 (y9 F x1 x4 k0) x92 x93) rfl ?_
 refine av [118] ?_ ?_
 intro _
 refine au [74,3,19,61,26,12] ?_
 intro x0 e0 b0 o0
 refine au [25,14,60,3,19,62,125] ?_
 refine qk 4 (decide (x0<0)) [(1,qyq x4),(5,qyq x92),(19,.slice a2 x1.length c3),(20,qyq (x1.length:Int)),(21,qyq x93),(7,qyq x0),(32,.bool ((decide (x0<0)) || (decide (x4<x0))))] (fun h0=>?_) (fun h0=>?_) ?_
 refine qa (os:=_) rfl (qf (k:=28) rfl h0 ?_)
 refine au [66,6,16] ?_
 refine qc (d:=32) (v:=.bool ((decide (x0<0)) || (decide (x4<x0)))) rfl (by rw[h0];simp only[qv4]) ?_
 exact az [68]
 refine qa (os:=_) rfl (qe (k:=28) rfl h0 ?_)
 refine au [1,1,92] ?_
 refine qc (d:=32) (v:=.bool ((decide (x0<0)) || (decide (x4<x0)))) rfl (by rw[h0];simp only[qv2]) ?_
 exact az [68]
 refine qa (os:=_) rfl ?_
 refine av [60,11] ?_ ?_
 intro _
 exact az [61,64,67,129,18]
 intro _
 refine av [62,1,24,5,60,11] ?_ ?_
 intro _
 exact az [61,64,67,129,18]
 intro _
 refine au [13,78,4,1,5,0,78,4,23,1,0] ?_
 exact qr ((x0,iadd .i64 x93 1),())
 intro _
 exact az [87,26,0]
 rintro ⟨_,_⟩
 try dsimp only
 exact az [61,85]
set_option maxHeartbeats 4000000 in
theorem qkx {F:Nat}{x1:Int}{x2:Int}{r:Int}(hm:qb2 F x1 x2=some r) :
    Pure Tryz.prog 175 [qyq x1,qyq x2] [] Unit (fun _=>qyq r) (fun _=>[]) (fun _=>[]):=by
 refine ql Tryz.func175 rfl Tryz.ntmps175 rfl hm (fun w=>?_)
 refine au [69,60] ?_
 refine qh (fun ((x35,_):(Int×Unit))=>([(4,qyq x35)],[],[],[],qe1 F x35)) ?_ ?_
 refine au [19] ?_
 refine qdG (fun ((x46,_):(Int×Unit))=>[(0,qyq x1),(1,qyq x2),(4,qyq x46)]) (fun ((x46,_):(Int×Unit))=>[]) (fun ((x46,_):(Int×Unit))=>[]) (fun ((x46,_):(Int×Unit))=>[]) (fun k (s:(Int×Unit))=>kU F x1 x2 k s.1) (0,()) F ?_
 intro k57
 rintro ⟨x46,_⟩
 try dsimp only
 refine qB (m':=qa4 F x1 x2 (kU F x1 x2 k57) x46) rfl ?_
 refine au [83,24,15,1] ?_
 refine qq 8 (fun ((x65,_):(Bool×Unit))=>([(0,qyq x1),(1,qyq x2),(4,qyq x46),(15,.bool x65)],[],[],[],vR F (kU F x1 x2 k57) x46 x65)) ?_ ?_
 refine qa (os:=_) rfl ?_
 refine av [24,12] ?_ ?_
 intro h63
 refine qf (k:=7) rfl h63 ?_
 refine au [1,1,23,25,13] ?_
 intro h67
 refine qfC rfl rfl rfl rfl h67 ?_
 refine au [1,23,26,15,16,0] ?_
 exact qb ((decide ((ishl .i64 x1 (iadd .i64 x46 1))≤(iadd .i64 x2 1))),())
 intro h63
 refine qe (k:=7) rfl h63 ?_
 refine au [72,66,6,17,0] ?_
 exact qb (false,())
 rintro ⟨x65,_⟩
 try dsimp only
 refine qa (os:=_) rfl ?_
 refine av [63] ?_ ?_
 intro _
 refine au [74,19,4,1,23,5,0,24,10] ?_
 exact qr (iadd .i64 x46 1,())
 intro _
 refine au [87] ?_
 exact qb (x46,())
 rintro ⟨x35,_⟩
 try dsimp only
 exact az [62,85]
theorem qfR {F:Nat}{g1:Nat}{x2:Int}{x3:qyo}{a4:qyp}{c5:Nat}{x6:Int}{x7:Int}{r:(Int×qyo×Int)}(hm:yK F x2 x3 x6 x7=some r) :
    PureM Tryz.prog 176 [.pointer (some ⟨g1,0,none⟩),qyq x7] [⟨g1,241,[qyq x2,.slice a4 x3.length c5,qyq x6]⟩] [Ro (eI .u8) 5 1 (.slice a4 x3.length c5) x3] [] (qyp×Nat) (fun _=>.tuple #[]) (fun g=>[⟨g1,241,[qyq r.1,.slice g.1 r.2.1.length g.2,qyq r.2.2]⟩]) (fun g=>[Ro (eI .u8) 5 1 (.slice g.1 r.2.1.length g.2) r.2.1]):=by
 refine zw Tryz.func176 rfl Tryz.ntmps176 rfl hm (fun w=>?_)
 refine au [24,11,19] ?_
 refine qu (fun (((x16,x19,x20),(a17,c18)):((Int×qyo×Int)×(qyp×Nat)))=>([(0,.pointer (some ⟨g1,0,none⟩)),(1,qyq x7)],[⟨g1,241,[qyq x16,.slice a17 x19.length c18,qyq x20]⟩],[Ro (eI .u8) 5 1 (.slice a17 x19.length c18) x19],[])) (fun k (s:((Int×qyo×Int)×(qyp×Nat)))=>zZ F x7 k s.1) ((x2,x3,x6),(a4,c5)) F ?_
 intro k29
 rintro ⟨⟨x16,x19,x20⟩,⟨a17,c18⟩⟩
 try dsimp only
 refine qB (m':=yT F x7 (zZ F x7 k29) x16 x19 x20) rfl ?_
 refine av [83,25,3,73,1,101] ?_ ?_
 intro _
 refine au [74,3,19,4,1,1,96,24,4,27,11] ?_
 rintro x34 e34 ⟨a35,c36⟩
 refine au [96,102,78,4,1,25,3,73,23,96,102] ?_
 exact qr ((x34.1,x34.2,iadd .i64 x20 1),(a35,c36))
 intro _
 refine au [87] ?_
 exact zy (a17,c18)
set_option maxHeartbeats 4000000 in
theorem qm8 {F:Nat}{x1:qyo}{a2:qyp}{c3:Nat}{x4:Int}{r:(Int×Int×Int×Int×qyo×Int×qyo×Bool)}(hm:qdL F x1 x4=some r) :
    Pure Tryz.prog 91 [.slice a2 x1.length c3,qyq x4] [Sl (eI .i64) 1 (.slice a2 x1.length c3) x1] ((qyp×Nat)×(qyp×Nat)) (fun g=>.tuple #[.agg #[qyq r.1,qyq r.2.1,qyq r.2.2.1,qyq r.2.2.2.1,.slice g.1.1 r.2.2.2.2.1.length g.1.2,qyq r.2.2.2.2.2.1,.slice g.2.1 r.2.2.2.2.2.2.1.length g.2.2],.bool r.2.2.2.2.2.2.2]) (fun g=>[Ro (eI .u8) 5 1 (.slice g.1.1 r.2.2.2.2.1.length g.1.2) r.2.2.2.2.1,Ro (eI .u8) 5 1 (.slice g.2.1 r.2.2.2.2.2.2.1.length g.2.2) r.2.2.2.2.2.2.1]) (fun _=>[]):=by
 refine ql Tryz.func91 rfl Tryz.ntmps91 rfl hm (fun w=>?_)
 refine au [69,24,9] ?_
 intro g5
 refine au [75,89,1,89,36,0] ?_
 intro x6 e6 _
 refine qo (cells:=[qyq (x1.length:Int),qyq x4,qyq x6,qyq 0,.slice none 0 0,qyq 0,.slice none 0 0]) rfl st64 rfl (by kernel_rfl) rfl ?_
 refine au [24,9] ?_
 intro g7
 refine au [97,62,73,25,13] ?_
 intro h8
 refine qgP rfl rfl rfl rfl h8 ?_
 refine au [23,60,3,61,73,73,30,2,24,15,1] ?_
 refine qk 6 (decide (8192<(imul .i64 (x1.length:Int) x6))) [(0,.slice a2 x1.length c3),(4,.pointer (some ⟨g5,0,none⟩)),(6,.pointer (some ⟨g7,0,none⟩)),(7,qyq (iadd .i64 (ishr .i64 x4 x6) 1)),(36,.bool ((decide (8192<(imul .i64 (x1.length:Int) x6))) || (decide (8192<(iadd .i64 (x1.length:Int) (iadd .i64 (ishr .i64 x4 x6) 1))))))] (fun h11=>?_) (fun h11=>?_) ?_
 refine qa (os:=_) rfl (qf (k:=30) rfl h11 ?_)
 refine au [72,6,16] ?_
 refine qc (d:=36) (v:=.bool ((decide (8192<(imul .i64 (x1.length:Int) x6))) || (decide (8192<(iadd .i64 (x1.length:Int) (iadd .i64 (ishr .i64 x4 x6) 1)))))) rfl (by rw[h11];simp only[qv4]) ?_
 exact az [68]
 refine qa (os:=_) rfl (qe (k:=30) rfl h11 ?_)
 refine au [73,1,23,92] ?_
 refine qc (d:=36) (v:=.bool ((decide (8192<(imul .i64 (x1.length:Int) x6))) || (decide (8192<(iadd .i64 (x1.length:Int) (iadd .i64 (ishr .i64 x4 x6) 1)))))) rfl (by rw[h11];simp only[qv2]) ?_
 exact az [68]
 refine qa (os:=_) rfl ?_
 refine av [63] ?_ ?_
 intro _
 refine au [61] ?_
 refine qo (cells:=[qyq 0,qyq 0,qyq 0,qyq 0,.slice none 0 0,qyq 0,.slice none 0 0]) rfl st64 rfl (by kernel_rfl) rfl ?_
 refine au [25,8,77,104] ?_
 exact qF ((none,0),(none,0)) (resL (rs:=[.cell 4 64,.tmp 5]) rfl (.cell (i:=1) rfl tf64 rfl rfl (by simp) rfl (.tmp rfl ResOk.nil)) rfl) (fun h=>by subst h;exact (.cons 0 rfl (.cons 0 rfl .nil)))
 intro _
 refine au [108] ?_
 refine qo (cells:=[qyq 0,.slice none 0 0,qyq 0]) rfl st241 rfl (by kernel_rfl) rfl ?_
 refine au [24,1] ?_
 intro g12
 refine au [60] ?_
 refine qh (fun (((x0,x2,x3,x5,x7),(a0,c0,a1,c1)):((Int×qyo×Int×Int×qyo)×(qyp×Nat×qyp×Nat)))=>([(4,.pointer (some ⟨g5,0,none⟩)),(6,.pointer (some ⟨g7,0,none⟩)),(7,qyq (iadd .i64 (ishr .i64 x4 x6) 1)),(8,.pointer (some ⟨g12,0,none⟩))],[⟨g12,241,[qyq x0,.slice a0 x2.length c0,qyq x3]⟩,⟨g7,64,[qyq (x1.length:Int),qyq x4,qyq x6,qyq x5,.slice a1 x7.length c1,qyq 0,.slice none 0 0]⟩,⟨g5,64,[qyq 0,qyq 0,qyq 0,qyq 0,.slice none 0 0,qyq 0,.slice none 0 0]⟩],[Ro (eI .u8) 5 1 (.slice a0 x2.length c0) x2,Ro (eI .u8) 5 1 (.slice a1 x7.length c1) x7],[],qem F x1 x4 x6 x0 x2 x3 x5 x7)) ?_ ?_
 refine au [124,31,14,31,14] ?_
 refine qu (fun (((x8,x9,x10,x11,x12,x13),(a3,c2,a4,c4)):((Int×Int×qyo×Int×Int×qyo)×(qyp×Nat×qyp×Nat)))=>([(4,.pointer (some ⟨g5,0,none⟩)),(6,.pointer (some ⟨g7,0,none⟩)),(7,qyq (iadd .i64 (ishr .i64 x4 x6) 1)),(8,.pointer (some ⟨g12,0,none⟩)),(40,.slice a2 x1.length c3),(41,qyq (x1.length:Int)),(42,qyq x8)],[⟨g12,241,[qyq x9,.slice a3 x10.length c2,qyq x11]⟩,⟨g7,64,[qyq (x1.length:Int),qyq x4,qyq x6,qyq x12,.slice a4 x13.length c4,qyq 0,.slice none 0 0]⟩,⟨g5,64,[qyq 0,qyq 0,qyq 0,qyq 0,.slice none 0 0,qyq 0,.slice none 0 0]⟩],[Ro (eI .u8) 5 1 (.slice a3 x10.length c2) x10,Ro (eI .u8) 5 1 (.slice a4 x13.length c4) x13],[Sl (eI .i64) 1 (.slice a2 x1.length c3) x1])) (fun k (s:((Int×Int×qyo×Int×Int×qyo)×(qyp×Nat×qyp×Nat)))=>jN F x1 x4 x6 k s.1) ((0,0,([]:qyo),0,0,([]:qyo)),(none,0,none,0)) F ?_
 intro k0
 rintro ⟨⟨x8,x9,x10,x11,x12,x13⟩,⟨a3,c2,a4,c4⟩⟩
 try dsimp only
 refine qB (m':=qc8 F x1 x4 x6 (jN F x1 x4 x6 k0) x8 x9 x10 x11 x12 x13) rfl ?_
 refine av [118] ?_ ?_
 intro _
 refine au [74,3,19,61,26,12] ?_
 intro x14 e0 b0 o0
 refine au [25,14,60,3,27,8] ?_
 intro h0
 refine qy mixed [13] [⟨g12,241,[qyq x9,.slice a3 x10.length c2,qyq x11]⟩,⟨g5,64,[qyq 0,qyq 0,qyq 0,qyq 0,.slice none 0 0,qyq 0,.slice none 0 0]⟩] [qK b0 o0 ((eI .i64) x14),Sl (eI .i64) 1 (.slice a2 x1.length c3) x1,(BlkD.is ⟨g7,64,[qyq (x1.length:Int),qyq x4,qyq x6,qyq x12,.slice a4 x13.length c4,qyq 0,.slice none 0 0]⟩)] (.cons 0 rfl (.cons 1 rfl .nil)) (qt 0 rfl (qt 1 rfl (qgx 1 rfl qw))) 14 rfl ?_
 refine au [24,0,0] ?_
 refine qO 1 (.agg #[qyq x12,.slice a4 x13.length c4]) [[13]] rfl rfl rfl (yS (j:=2) rfl tf25 rfl rfl (by simp) rfl) ?_
 refine au [7,2,24,0,3] ?_
 refine qO 4 (qyq x6) [[13]] rfl rfl rfl (yS (j:=2) rfl tf3 rfl rfl (fun _=>rfl) rfl) (qm 5 (qyq (ishl .i64 1 x6)) rfl rfl rfl (qga rfl rfl h0) ?_)
 refine au [7,6,7,7,33,4,8,24,0,9] ?_
 refine qO 10 (qyq x6) [[13]] rfl rfl rfl (yS (j:=2) rfl tf3 rfl rfl (fun _=>rfl) rfl) ?_
 refine au [20,11,27,11] ?_
 rintro x15 e1 ⟨a5,c5⟩
 refine au [0] ?_
 refine zd (.cons 0 rfl (.cons 1 rfl .nil)) (qt 0 rfl (qt 1 rfl (qgx 1 rfl qw))) ?_
 refine au [24,0,12,20,13,25,8,0] ?_
 refine qbp 13 rfl (by kernel_rfl) (.cons 0 rfl (.cons 1 rfl .nil)) ?_
 refine au [24,8] ?_
 refine qx ?_ (by intro c h;cases h)
 refine au [2,62,1,84,25,13] ?_
 intro h1
 refine qgP rfl rfl rfl rfl h1 ?_
 refine au [36,1] ?_
 rintro x16 e2 ⟨a6,c6⟩
 refine au [59,4,1,1,96,24,4,27,11] ?_
 rintro x17 e3 ⟨a7,c7⟩
 refine au [96,102,78,4,23,1,0] ?_
 exact qr ((iadd .i64 x8 1,x17.1,x17.2,x16.2.2,x15.1,x15.2),(a7,c7,a5,c5))
 intro _
 refine au [87] ?_
 exact qb ((x9,x10,x11,x12,x13),(a3,c2,a4,c4))
 rintro ⟨⟨x0,x2,x3,x5,x7⟩,⟨a0,c0,a1,c1⟩⟩
 try dsimp only
 refine au [62,1,36,1] ?_
 rintro x18 e4 ⟨a8,c8⟩
 refine au [59,62,96,24,4,12,25,8,59,61,25,4,27,0,64] ?_
 exact qF ((a1,c1),(a8,c8)) (resL (rs:=[.cell 4 64,.tmp 5]) rfl (.cell (i:=2) rfl tf64 rfl rfl (by simp) rfl (.tmp rfl ResOk.nil)) rfl) (fun h=>by subst h;exact (.cons 1 rfl (.cons 0 rfl .nil)))
theorem qgd (F:Nat)(x1:qyo)(a2:qyp)(c3:Nat)(x4:Int)(r:(Int×Int×Int×Int×qyo×Int×qyo×Int))(hm:vt F x1 x4=some r) :
    Pure Tryz.prog 21 [.slice a2 x1.length c3,qyq x4] [Sl (eI .i64) 1 (.slice a2 x1.length c3) x1] ((qyp×Nat)×(qyp×Nat)) (fun g=>.tuple #[.agg #[qyq r.1,qyq r.2.1,qyq r.2.2.1,qyq r.2.2.2.1,.slice g.1.1 r.2.2.2.2.1.length g.1.2,qyq r.2.2.2.2.2.1,.slice g.2.1 r.2.2.2.2.2.2.1.length g.2.2],qyq r.2.2.2.2.2.2.2]) (fun g=>[Ro (eI .u8) 5 1 (.slice g.1.1 r.2.2.2.2.1.length g.1.2) r.2.2.2.2.1,Ro (eI .u8) 5 1 (.slice g.2.1 r.2.2.2.2.2.2.1.length g.2.2) r.2.2.2.2.2.2.1]) (fun _=>[]):=by
 refine ql Tryz.func21 rfl Tryz.ntmps21 rfl hm (fun w=>?_)
 refine au [69,24,9] ?_
 intro g5
 refine au [93,1,36,2] ?_
 intro x8 e8 _
 refine av [75,81] ?_ ?_
 intro _
 refine au [61] ?_
 refine qo (cells:=[qyq 0,qyq 0,qyq 0,qyq 0,.slice none 0 0,qyq 0,.slice none 0 0]) rfl st64 rfl (by kernel_rfl) rfl ?_
 refine au [1,24,3,77,104] ?_
 exact qF ((none,0),(none,0)) (resL (rs:=[.cell 4 64,.tmp 5]) rfl (.cell (i:=0) rfl tf64 rfl rfl (by simp) rfl (.tmp rfl ResOk.nil)) rfl) (fun h=>by subst h;exact (.cons 0 rfl (.cons 0 rfl .nil)))
 intro _
 refine au [74,62,1,36,3] ?_
 rintro x9 e9 ⟨⟨a10,c11⟩,⟨a12,c13⟩⟩
 refine au [95] ?_
 intro g14
 refine av [24,3,93,25,1,63] ?_ ?_
 intro _
 refine au [61] ?_
 refine qo (cells:=[qyq 0,qyq 0,qyq 0,qyq 0,.slice none 0 0,qyq 0,.slice none 0 0]) rfl st64 rfl (by kernel_rfl) rfl ?_
 refine au [25,8,77,104] ?_
 exact qF ((none,0),(none,0)) (resL (rs:=[.cell 4 64,.tmp 5]) rfl (.cell (i:=1) rfl tf64 rfl rfl (by simp) rfl (.tmp rfl ResOk.nil)) rfl) (fun h=>by subst h;exact (.cons 0 rfl (.cons 0 rfl .nil)))
 intro _
 refine au [108,24,4,25,8,64] ?_
 exact qF ((a10,c11),(a12,c13)) (resL (rs:=[.cell 4 64,.tmp 5]) rfl (.cell (i:=1) rfl tf64 rfl rfl (by simp) rfl (.tmp rfl ResOk.nil)) rfl) (fun h=>by subst h;exact (.cons 0 rfl (.cons 0 rfl .nil)))
theorem qjq {F:Nat}{x1:Int}{x2:qyo}{a3:qyp}{c4:Nat}{x5:Int}{r:Unit}(hm:qdh F x1 x2 x5=some r) :
    PureM Tryz.prog 234 [.agg #[qyq x1,.slice a3 x2.length c4],.int .u64 x5] [] [] [Sl (eI .u8) 1 (.slice a3 x2.length c4) x2] (Nat×Nat) (fun g=>.func (.func 253) #[] #[.pointer (some ⟨g.1,0,none⟩),.pointer (some ⟨g.2,0,none⟩)]) (fun g=>[⟨g.1,25,[qyq x1,.slice a3 x2.length c4]⟩,⟨g.2,80,[.int .u64 x5]⟩]) (fun _=>[]):=by
 refine zw Tryz.func234 rfl Tryz.ntmps234 rfl hm (fun w=>?_)
 refine au [94] ?_
 intro g6
 refine au [24,1] ?_
 intro g7
 refine au [79,29,8,64] ?_
 exact zy (g6,g7)
set_option maxHeartbeats 4000000 in
theorem qhI (F:Nat){σ τ:Type}{J:Rounds σ τ}{yy:σ→Int→Option (σ ⊕ τ)}{L:Nat}(hY:YieldC Tryz.prog L (fun (p:Int)=>[qyq p]) J yy)(s0:σ)(gs0:J.γ)(g1:Nat)(x2:Int)(x3:qyo)(a4:qyp)(c5:Nat)(g6:Nat)(x7:Int)(r:σ ⊕ τ)(hm:qbF F yy x2 x3 x7 s0=some r) :
    PureM Tryz.prog 253 ([.func (.yield L) #[] #[],.pointer (some ⟨g1,0,none⟩),.pointer (some ⟨g6,0,none⟩)]) ([⟨g1,25,[qyq x2,.slice a4 x3.length c5]⟩,⟨g6,80,[.int .u64 x7]⟩]++J.IB s0 gs0) (J.IR s0 gs0) [J.F,Sl (eI .u8) 1 (.slice a4 x3.length c5) x3] (J.G r) (fun _=>.tuple #[]) (fun g=>[⟨g1,25,[qyq x2,.slice a4 x3.length c5]⟩,⟨g6,80,[.int .u64 x7]⟩]++J.bs r g) (fun g=>J.rs r g):=by
 refine zw Tryz.func253 rfl Tryz.ntmps253 rfl hm (fun w=>?_)
 refine au [25,15,61,73,1,109] ?_
 refine qdG (fun (((x36,x37),g38):((Int×σ)×J.γ))=>[(0,.func (.yield L) #[] #[]),(1,.pointer (some ⟨g1,0,none⟩)),(2,.pointer (some ⟨g6,0,none⟩)),(6,qyq x2),(7,qyq x36)]) (fun (((x36,x37),g38):((Int×σ)×J.γ))=>[⟨g1,25,[qyq x2,.slice a4 x3.length c5]⟩,⟨g6,80,[.int .u64 x7]⟩]++J.IB x37 g38) (fun (((x36,x37),g38):((Int×σ)×J.γ))=>[]++J.IR x37 g38) (fun (((x36,x37),g38):((Int×σ)×J.γ))=>[Sl (eI .u8) 1 (.slice a4 x3.length c5) x3,J.F]) (fun k (s:((Int×σ)×J.γ))=>qS F yy x2 x3 x7 k s.1) ((0,s0),gs0) F ?_ (hB:=(.cons 0 rfl (.cons 0 rfl (qE 0 rfl)))) (hR:=(qE 0 rfl)) (hF:=(qj 1 rfl (qj 0 rfl zA)))
 intro k67
 rintro ⟨⟨x36,x37⟩,g38⟩
 try dsimp only
 refine qB (m':=kV F yy x2 x3 x7 (qS F yy x2 x3 x7 k67) x36 x37) rfl ?_
 refine av [118] ?_ ?_
 intro _
 refine au [74] ?_
 refine qfo (fun ((x81,g82):(σ×J.γ))=>[(0,.func (.yield L) #[] #[]),(1,.pointer (some ⟨g1,0,none⟩)),(2,.pointer (some ⟨g6,0,none⟩)),(6,qyq x2),(7,qyq x36)]) (fun ((x81,g82):(σ×J.γ))=>[⟨g1,25,[qyq x2,.slice a4 x3.length c5]⟩,⟨g6,80,[.int .u64 x7]⟩]++J.IB x81 g82) (fun ((x81,g82):(σ×J.γ))=>[]++J.IR x81 g82) (fun ((x81,g82):(σ×J.γ))=>[Sl (eI .u8) 1 (.slice a4 x3.length c5) x3,J.F]) (fun ((x81,_):(σ×J.γ))=>kg F yy (qS F yy x2 x3 x7 k67) x36 x81) ?_ ?_
 refine au [19,62,60,3] ?_
 refine qy mixed [] [⟨g1,25,[qyq x2,.slice a4 x3.length c5]⟩,⟨g6,80,[.int .u64 x7]⟩] [Sl (eI .u8) 1 (.slice a4 x3.length c5) x3,J.F] (.cons 0 rfl (.cons 0 rfl .nil)) (qt 0 rfl (qt 1 rfl qw)) 11 rfl (q8 0 (.agg #[qyq x2,.slice a4 x3.length c5]) rfl rfl rfl (qQ (i:=0) rfl tf25 rfl rfl (by simp) rfl) ?_)
 refine au [7,1,27,13,3,20,2,27,10] ?_
 intro x89 e89 _
 refine av [0,29,2,115,26,4] ?_ ?_
 intro h90
 refine qi (d:=15) (v:=.bool true) rfl (by rw[h90] <;> rfl) ?_
 refine au [7,6,7,7,20,8] ?_
 refine qhm hY x37 x36 g38 (B1:=[⟨g1,25,[qyq x2,.slice a4 x3.length c5]⟩,⟨g6,80,[.int .u64 x7]⟩]) (R1:=[]) (j:=1) rfl rfl rfl rfl rfl rfl rfl (fun x91 _ g93=>?_) (fun x92 _ g93=>?_)
 refine au [0,29,2,7,9,7,10,24,8] ?_
 refine qx ?_ (by intro c h;cases h)
 refine au [2] ?_
 refine qaS (b:=false) rfl (fun h=>by cases h) (fun _=>?_)
 refine au [13,24,10] ?_
 exact zj (x91,g93) (hB:=(.cons 0 rfl (.cons 0 rfl (qE 0 rfl)))) (hR:=(qE 0 rfl)) (hF:=(qj 0 rfl (qj 1 rfl zA)))
 refine au [0,29,2,7,9,7,10,24,8] ?_
 refine qx ?_ (by intro c h;cases h)
 refine au [2] ?_
 refine qaS (b:=true) rfl (fun _=>?_) (fun h=>by cases h)
 refine au [9,128,24,7] ?_
 exact qdI (B0:=[⟨g1,25,[qyq x2,.slice a4 x3.length c5]⟩,⟨g6,80,[.int .u64 x7]⟩]) (x:=.inr x92) g93 (.inl rfl) (res0 rfl) (.cons 0 rfl (.cons 0 rfl (qE 0 rfl))) (qE 0 rfl)
 intro h90
 refine qi (d:=15) (v:=.bool false) rfl (by rw[h90] <;> rfl) ?_
 refine au [8,6,8,7,8,8,8,9,7,10,24,8] ?_
 refine qx ?_ (by intro c h;cases h)
 refine au [2] ?_
 refine qaS (b:=false) rfl (fun h=>by cases h) (fun _=>?_)
 refine au [13,24,10] ?_
 exact zj (x37,g38) (hB:=(.cons 0 rfl (.cons 0 rfl (qE 0 rfl)))) (hR:=(qE 0 rfl)) (hF:=(qj 0 rfl (qj 1 rfl zA)))
 rintro ⟨x81,g82⟩
 try dsimp only
 refine au [4,23,1,0] ?_
 exact qd4 ((iadd .i64 x36 1,x81),g82) (hB:=(.cons 0 rfl (.cons 0 rfl (qE 0 rfl)))) (hR:=(qE 0 rfl)) (hF:=(qj 0 rfl (qj 1 rfl zA)))
 intro _
 refine au [87] ?_
 exact qdI (B0:=[⟨g1,25,[qyq x2,.slice a4 x3.length c5]⟩,⟨g6,80,[.int .u64 x7]⟩]) (x:=.inl x37) g38 (.inr rfl) (res0 rfl) (.cons 0 rfl (.cons 0 rfl (qE 0 rfl))) (qE 0 rfl)
set_option maxHeartbeats 4000000 in
theorem qkC {F:Nat}{x1:Int}{x2:qyo}{a3:qyp}{c4:Nat}{x5:Int}{x6:Int}{r:Int}(hm:vw F x1 x2 x5 x6=some r) :
    PureM Tryz.prog 177 [.agg #[qyq x1,.slice a3 x2.length c4],.int .u64 x5,qyq x6] [] [] [Sl (eI .u8) 1 (.slice a3 x2.length c4) x2] Unit (fun _=>qyq r) (fun _=>[]) (fun _=>[]):=by
 refine qiA Tryz.func177 rfl Tryz.ntmps177 rfl hm (fun w=>?_)
 refine au [106] ?_
 intro g7
 refine au [24,1] ?_
 intro g8
 refine au [24,9] ?_
 intro g9
 refine au [59,3,61,26,2,1] ?_
 refine qW qjq ?_
 rintro x25 e25 ⟨g26,g27⟩
 refine au [109] ?_
 refine qhj (encs:=(fun (p:Int)=>[qyq p])) (y:=(fun (x31:Int) (x37:Int)=>qT F x31 x37)) (lb:=[.pointer (some ⟨g26,0,none⟩),.pointer (some ⟨g27,0,none⟩)]) (fun (x31:Int) (_:Unit)=>[⟨g9,3,[qyq 0]⟩,⟨g8,3,[qyq x31]⟩,⟨g7,25,[qyq x1,.slice a3 x2.length c4]⟩]) (fun (x31:Int) (_:Unit)=>[]) (fun ((x35,x36):(Int×Int)) (_:Unit)=>[⟨g9,3,[qyq x35]⟩,⟨g8,3,[qyq x36]⟩,⟨g7,25,[qyq x1,.slice a3 x2.length c4]⟩]) (fun ((x35,x36):(Int×Int)) (_:Unit)=>[]) (fun _=>.ret) x6 () rfl ent253 (fun _=>rfl) rfl (.cons 0 rfl (.cons 0 rfl .nil)) (.cons 0 rfl (.cons 0 rfl (.cons 0 rfl .nil))) .nil (.consF 0 rfl .nil) (fun z hz _ _ _ hY=>qhI F hY x6 () g26 x1 x2 a3 c4 g27 x5 z hz) ?_ ?_ ?_
 rintro rc1 L1 D1 x31 _ x37 z w M _
 try dsimp only
 refine qiY [(0,.agg #[qyq x1,.slice a3 x2.length c4]),(1,.int .u64 x5),(2,qyq x6),(3,.pointer (some ⟨g7,0,none⟩)),(5,.pointer (some ⟨g8,0,none⟩)),(6,.pointer (some ⟨g9,0,none⟩)),(8,.agg #[qyq x1,.slice a3 x2.length c4]),(9,.int .u64 x5),(10,.func (.func 253) #[] #[.pointer (some ⟨g26,0,none⟩),.pointer (some ⟨g27,0,none⟩)]),(11,qyq x37)] (zm rfl (zm rfl (zm rfl (zm rfl (zm rfl (zm rfl (zm rfl (zm rfl (zm rfl (zm rfl qf5)))))))))) ?_
 refine au [4,5,0] ?_
 refine qhn (i:=3) rfl ?_
 refine av [19,3,61,25,6,24,2,63] ?_ ?_
 intro _
 refine au [62,97,9,14,24,7] ?_
 exact qeB (rc:=rc1) rfl (.cons 3 rfl .nil) rfl () (.cons 1 rfl (.cons 1 rfl (.cons 1 rfl (.cons 0 rfl (.cons 0 rfl .nil))))) .nil
 intro _
 refine au [74,4,25,6,25,7,25,8,0,24,10] ?_
 exact qeB (rc:=rc1) rfl (.cons 3 rfl .nil) rfl () (.cons 1 rfl (.cons 1 rfl (.cons 1 rfl (.cons 0 rfl (.cons 0 rfl .nil))))) .nil
 rintro x31 _ _ D1
 try dsimp only
 refine au [78,61,33,12,59,9] ?_
 exact qfD [D1] () (.inl rfl) rfl (.cons 0 rfl .nil) (resL (rs:=[.cell 6 3]) rfl (.cell (i:=2) rfl tf3 rfl rfl (fun _=>rfl) rfl ResOk.nil) rfl) (fun h=>by subst h;rfl) (fun h=>by subst h;exact .nil) (fun h=>by subst h;exact .nil)
 rintro ⟨x35,x36⟩ _ _ D1
 try dsimp only
 refine au [9,67] ?_
 exact qfD [D1] () (.inl rfl) rfl (.cons 0 rfl .nil) (resL (rs:=[.cell 6 3]) rfl (.cell (i:=2) rfl tf3 rfl rfl (fun _=>rfl) rfl ResOk.nil) rfl) (fun h=>by subst h;rfl) (fun h=>by subst h;exact .nil) (fun h=>by subst h;exact .nil)
theorem qpA {F:Nat}{x1:Int}{x2:Int}{x3:Int}{x4:Int}{x5:qyo}{a6:qyp}{c7:Nat}{x8:Int}{x9:qyo}{a10:qyp}{c11:Nat}{x12:Int}{r:Int}(hm:qa3 F x1 x2 x3 x4 x5 x8 x9 x12=some r) :
    Pure Tryz.prog 178 [.agg #[qyq x1,qyq x2,qyq x3,qyq x4,.slice a6 x5.length c7,qyq x8,.slice a10 x9.length c11],qyq x12] [Sl (eI .u8) 1 (.slice a6 x5.length c7) x5,Sl (eI .u8) 1 (.slice a10 x9.length c11) x9] Unit (fun _=>qyq r) (fun _=>[]) (fun _=>[]):=by
 refine ql Tryz.func178 rfl Tryz.ntmps178 rfl hm (fun w=>?_)
 refine au [94] ?_
 intro g13
 refine au [79,130,1,32,0] ?_
 intro x14 e14 _
 refine au [1,25,7,79,130,1,73,30,2,73,30,1] ?_
 intro x15 e15 _
 refine au [80,5,75,73,25,13] ?_
 intro h16
 refine qfC rfl rfl rfl rfl h16 ?_
 refine au [1,25,11,34,15,5,26,13] ?_
 intro x17 e17
 refine qc (d:=4) (v:=qyq x17) rfl (by rw[e17] <;> rfl) ?_
 exact az [59,9,18]
theorem qlH {F:Nat}{x1:Int}{x2:qyo}{a3:qyp}{c4:Nat}{x5:Int}{x6:qyo}{a7:qyp}{c8:Nat}{r:Bool}(hm:qdo F x1 x2 x5 x6=some r) :
    Pure Tryz.prog 179 [.agg #[qyq x1,.slice a3 x2.length c4],.agg #[qyq x5,.slice a7 x6.length c8]] [Sl (eI .u8) 1 (.slice a3 x2.length c4) x2,Sl (eI .u8) 1 (.slice a7 x6.length c8) x6] Unit (fun _=>.bool r) (fun _=>[]) (fun _=>[]):=by
 refine ql Tryz.func179 rfl Tryz.ntmps179 rfl hm (fun w=>?_)
 refine au [94] ?_
 intro g9
 refine au [24,1] ?_
 intro g10
 refine au [79,84,73,24,2,1] ?_
 refine qq 6 (fun ((x13,_):(Bool×Unit))=>([(16,.bool x13)],[],[],[],qaD F x13)) ?_ ?_
 refine qa (os:=_) rfl ?_
 refine av [24,12] ?_ ?_
 intro h11
 refine qf (k:=10) rfl h11 ?_
 refine au [84,73,30,3] ?_
 intro x14 e14 _
 refine au [16,0] ?_
 exact qb (x14,())
 intro h11
 refine qe (k:=10) rfl h11 ?_
 refine au [72,6,17,0] ?_
 exact qb (false,())
 rintro ⟨x13,_⟩
 try dsimp only
 refine qa (os:=_) rfl ?_
 exact az [85]
set_option maxHeartbeats 4000000 in
theorem qh0 {F:Nat}{x1:Int}{x2:Int}{x3:Int}{x4:Int}{x5:qyo}{a6:qyp}{c7:Nat}{x8:Int}{x9:qyo}{a10:qyp}{c11:Nat}{r:(qyo×Int)}(hm:kq F x1 x2 x3 x4 x5 x8 x9=some r) :
    Pure Tryz.prog 92 [.agg #[qyq x1,qyq x2,qyq x3,qyq x4,.slice a6 x5.length c7,qyq x8,.slice a10 x9.length c11]] [Sl (eI .u8) 1 (.slice a6 x5.length c7) x5,Sl (eI .u8) 1 (.slice a10 x9.length c11) x9] (qyp×Nat) (fun g=>.tuple #[.slice g.1 r.1.length g.2,qyq r.2]) (fun g=>[Ro (eI .i64) 3 1 (.slice g.1 r.1.length g.2) r.1]) (fun _=>[]):=by
 refine ql Tryz.func92 rfl Tryz.ntmps92 rfl hm (fun w=>?_)
 refine au [25,9,82] ?_
 intro g12
 refine au [5,60,3,61,73,125] ?_
 refine qk 4 (decide (x1<0)) [(1,.pointer (some ⟨g12,0,none⟩)),(15,.bool ((decide (x1<0)) || (decide (300<x1))))] (fun h17=>?_) (fun h17=>?_) ?_
 refine qa (os:=_) rfl (qf (k:=11) rfl h17 ?_)
 refine au [66,6,16] ?_
 refine qc (d:=15) (v:=.bool ((decide (x1<0)) || (decide (300<x1)))) rfl (by rw[h17];simp only[qv4]) ?_
 exact az [68]
 refine qa (os:=_) rfl (qe (k:=11) rfl h17 ?_)
 refine au [73,92] ?_
 refine qc (d:=15) (v:=.bool ((decide (x1<0)) || (decide (300<x1)))) rfl (by rw[h17];simp only[qv2]) ?_
 exact az [68]
 refine qa (os:=_) rfl ?_
 refine au [1] ?_
 refine qk 4 ((decide (x1<0)) || (decide (300<x1))) [(1,.pointer (some ⟨g12,0,none⟩)),(20,.bool (((decide (x1<0)) || (decide (300<x1))) || (decide (x2<0))))] (fun h18=>?_) (fun h18=>?_) ?_
 refine qa (os:=_) rfl (qf (k:=16) rfl h18 ?_)
 refine au [66,6,16] ?_
 refine qc (d:=20) (v:=.bool (((decide (x1<0)) || (decide (300<x1))) || (decide (x2<0)))) rfl (by rw[h18];simp only[qv4]) ?_
 exact az [68]
 refine qa (os:=_) rfl (qe (k:=16) rfl h18 ?_)
 refine au [73,24,5,17] ?_
 refine qc (d:=20) (v:=.bool (((decide (x1<0)) || (decide (300<x1))) || (decide (x2<0)))) rfl (by rw[h18];simp only[qv2]) ?_
 exact az [68]
 refine qa (os:=_) rfl ?_
 refine au [1] ?_
 refine qk 4 (((decide (x1<0)) || (decide (300<x1))) || (decide (x2<0))) [(1,.pointer (some ⟨g12,0,none⟩)),(25,.bool ((((decide (x1<0)) || (decide (300<x1))) || (decide (x2<0))) || (decide (1048576<x2))))] (fun h19=>?_) (fun h19=>?_) ?_
 refine qa (os:=_) rfl (qf (k:=21) rfl h19 ?_)
 refine au [66,6,16] ?_
 refine qc (d:=25) (v:=.bool ((((decide (x1<0)) || (decide (300<x1))) || (decide (x2<0))) || (decide (1048576<x2)))) rfl (by rw[h19];simp only[qv4]) ?_
 exact az [68]
 refine qa (os:=_) rfl (qe (k:=21) rfl h19 ?_)
 refine au [73,92] ?_
 refine qc (d:=25) (v:=.bool ((((decide (x1<0)) || (decide (300<x1))) || (decide (x2<0))) || (decide (1048576<x2)))) rfl (by rw[h19];simp only[qv2]) ?_
 exact az [68]
 refine qa (os:=_) rfl ?_
 refine av [63] ?_ ?_
 intro _
 refine au [61,5,114] ?_
 exact qs (none,0)
 intro _
 refine au [74,3] ?_
 refine qh (fun ((x49,_):(Bool×Unit))=>([(1,.pointer (some ⟨g12,0,none⟩)),(70,.bool x49)],[⟨g12,64,[qyq x1,qyq x2,qyq x3,qyq x4,.slice a6 x5.length c7,qyq x8,.slice a10 x9.length c11]⟩],[],[Sl (eI .u8) 1 (.slice a6 x5.length c7) x5,Sl (eI .u8) 1 (.slice a10 x9.length c11) x9],zz F x1 x2 x3 x4 x5 x8 x9 x49)) ?_ ?_
 refine qy mixed [] [⟨g12,64,[qyq x1,qyq x2,qyq x3,qyq x4,.slice a6 x5.length c7,qyq x8,.slice a10 x9.length c11]⟩] [Sl (eI .u8) 1 (.slice a6 x5.length c7) x5,Sl (eI .u8) 1 (.slice a10 x9.length c11) x9] (.cons 0 rfl .nil) (qt 0 rfl (qt 1 rfl qw)) 45 rfl ?_
 refine au [100,24,0,2,25,2,3,24,0,4,25,2,5,20,6,36,0] ?_
 intro x0 e0 _
 refine av [0,30,4,7,7,7,8,26,4] ?_ ?_
 intro h0
 refine qi (d:=34) (v:=.bool true) rfl (by rw[h0] <;> rfl) ?_
 refine au [8,9,8,10,8,11,8,12,7,13,7,14,8,15,8,16,8,17,8,18,7,19,7,20,8,21,8,22,8,23,8,24,8,25,8,26,8,27,8,28,8,29,7,30,7,31,8,32,8,33,121,120,8,38,8,39,127,8,43,7,44,24,8] ?_
 exact qx (qb (true,())) (by intro c h;cases h)
 intro h0
 refine qi (d:=34) (v:=.bool false) rfl (by rw[h0] <;> rfl) ?_
 refine au [24,0,9] ?_
 refine q8 10 (.agg #[qyq x4,.slice a6 x5.length c7]) rfl rfl rfl (qQ (i:=0) rfl tf25 rfl rfl (by simp) rfl) ?_
 refine au [20,11,28,1] ?_
 intro x6 e1 _
 refine av [0,30,4,112,7,14,26,4] ?_ ?_
 intro h1
 refine qi (d:=40) (v:=.bool true) rfl (by rw[h1] <;> rfl) ?_
 refine au [8,15,8,16,8,17,8,18,7,19,7,20,8,21,8,22,8,23,8,24,8,25,8,26,8,27,8,28,8,29,7,30,7,31,8,32,8,33,121,120,8,38,8,39,127,8,43,7,44,24,8] ?_
 exact qx (qb (true,())) (by intro c h;cases h)
 intro h1
 refine qi (d:=40) (v:=.bool false) rfl (by rw[h1] <;> rfl) ?_
 refine au [24,0,15] ?_
 refine q8 16 (.agg #[qyq x8,.slice a10 x9.length c11]) rfl rfl rfl (qQ (i:=0) rfl tf25 rfl rfl (by simp) rfl) ?_
 refine au [20,17,28,1] ?_
 intro x7 e2 _
 refine av [0,30,4,7,18,7,19,7,20,26,4] ?_ ?_
 intro h2
 refine qi (d:=46) (v:=.bool true) rfl (by rw[h2] <;> rfl) ?_
 refine au [8,21,8,22,8,23,8,24,8,25,8,26,8,27,8,28,8,29,7,30,7,31,8,32,8,33,121,120,8,38,8,39,127,8,43,7,44,24,8] ?_
 exact qx (qb (true,())) (by intro c h;cases h)
 intro h2
 refine qi (d:=46) (v:=.bool false) rfl (by rw[h2] <;> rfl) ?_
 refine av [24,0,21,24,0,22,25,2,23,24,0,24,25,2,25,24,0,26,25,2,27,7,28,7,29,7,30,7,31,26,4] ?_ ?_
 intro h3
 refine qi (d:=57) (v:=.bool true) rfl (by rw[h3] <;> rfl) ?_
 refine au [8,32,8,33,121,120,8,38,8,39,127,8,43,7,44,24,8] ?_
 exact qx (qb (true,())) (by intro c h;cases h)
 intro h3
 refine qi (d:=57) (v:=.bool false) rfl (by rw[h3] <;> rfl) ?_
 refine au [24,0,32] ?_
 refine q8 33 (.agg #[qyq x8,.slice a10 x9.length c11]) rfl rfl rfl (qQ (i:=0) rfl tf25 rfl rfl (by simp) rfl) ?_
 refine au [24,0,34,25,2,35,7,36,20,37,32,0] ?_
 intro x10 e3 _
 refine av [0,30,4,7,38,7,39,26,4] ?_ ?_
 intro h4
 refine qi (d:=65) (v:=.bool true) rfl (by rw[h4] <;> rfl) ?_
 refine au [24,0,40,25,2,41,7,42,123,24,8] ?_
 exact qx (qb ((decide (0<x1)),())) (by intro c h;cases h)
 intro h4
 refine qi (d:=65) (v:=.bool false) rfl (by rw[h4] <;> rfl) ?_
 refine au [127,123,24,8] ?_
 exact qx (qb (false,())) (by intro c h;cases h)
 rintro ⟨x49,_⟩
 try dsimp only
 refine av [11] ?_ ?_
 intro _
 refine au [61,5,114] ?_
 exact qs (none,0)
 intro _
 refine au [108,60] ?_
 refine qh (fun ((x99,(a97,c98)):(qyo×(qyp×Nat)))=>([(1,.pointer (some ⟨g12,0,none⟩)),(4,.slice a97 x99.length c98)],[⟨g12,64,[qyq x1,qyq x2,qyq x3,qyq x4,.slice a6 x5.length c7,qyq x8,.slice a10 x9.length c11]⟩],[Ro (eI .i64) 3 1 (.slice a97 x99.length c98) x99],[Sl (eI .u8) 1 (.slice a6 x5.length c7) x5,Sl (eI .u8) 1 (.slice a10 x9.length c11) x9],yg F x2 x4 x5 x8 x9 x99)) ?_ ?_
 refine au [61,73,1,109,27,4] ?_
 refine qu (fun (((x11,x12),(a0,c0)):((qyo×Int)×(qyp×Nat)))=>([(1,.pointer (some ⟨g12,0,none⟩)),(4,.slice a0 x11.length c0),(72,qyq x1),(73,qyq x12)],[⟨g12,64,[qyq x1,qyq x2,qyq x3,qyq x4,.slice a6 x5.length c7,qyq x8,.slice a10 x9.length c11]⟩],[Ro (eI .i64) 3 1 (.slice a0 x11.length c0) x11],[Sl (eI .u8) 1 (.slice a6 x5.length c7) x5,Sl (eI .u8) 1 (.slice a10 x9.length c11) x9])) (fun k (s:((qyo×Int)×(qyp×Nat)))=>yh F x1 x2 x3 x4 x5 x8 x9 k s.1) ((([]:qyo),0),(none,0)) F ?_
 intro k0
 rintro ⟨⟨x11,x12⟩,⟨a0,c0⟩⟩
 try dsimp only
 refine qB (m':=qad F x1 x2 x3 x4 x5 x8 x9 (yh F x1 x2 x3 x4 x5 x8 x9 k0) x11 x12) rfl ?_
 refine av [118] ?_ ?_
 intro _
 refine au [74,3,19,62,60,4,1,24,4,1,36,4] ?_
 intro x13 e4 _
 refine qn (vs:=[qyq x13]) (ys:=([x13]:qyo)) (qp .i64) (by decide) rfl Tryz.underlying22 tf3 rfl rfl rfl rfl rfl (by decide) (fun a1 c1=>zY 1 (qp .i64) rfl Tryz.underlying22 tf3 rfl rfl rfl rfl rfl (.inl ⟨0,_,rfl⟩) rfl rfl (fun x14 e5 a2 c2=>?_))
 refine au [5,0,78,4,23,1,0] ?_
 exact qr ((x14,iadd .i64 x12 1),(a2,c2))
 intro _
 refine au [87] ?_
 exact qb (x11,(a0,c0))
 rintro ⟨x99,⟨a97,c98⟩⟩
 try dsimp only
 refine au [83,73,36,2] ?_
 intro x15 e6 _
 refine av [81] ?_ ?_
 intro _
 refine au [61,5,114] ?_
 exact qs (none,0)
 intro _
 refine au [74,83,73,36,3] ?_
 rintro x16 e7 ⟨⟨a3,c3⟩,⟨a4,c4⟩⟩
 refine au [95] ?_
 intro g0
 refine au [24,3,75,25,1,1] ?_
 refine qq 7 (fun ((x17,_):(Bool×Unit))=>([(1,.pointer (some ⟨g12,0,none⟩)),(4,.slice a97 x99.length c98),(6,.pointer (some ⟨g0,0,none⟩)),(104,.bool x17)],[⟨g0,64,[qyq x16.1,qyq x16.2.1,qyq x16.2.2.1,qyq x16.2.2.2.1,.slice a3 x16.2.2.2.2.1.length c3,qyq x16.2.2.2.2.2.1,.slice a4 x16.2.2.2.2.2.2.1.length c4]⟩,⟨g12,64,[qyq x1,qyq x2,qyq x3,qyq x4,.slice a6 x5.length c7,qyq x8,.slice a10 x9.length c11]⟩],[Ro (eI .i64) 3 1 (.slice a97 x99.length c98) x99,Ro (eI .u8) 5 1 (.slice a3 x16.2.2.2.2.1.length c3) x16.2.2.2.2.1,Ro (eI .u8) 5 1 (.slice a4 x16.2.2.2.2.2.2.1.length c4) x16.2.2.2.2.2.2.1],[Sl (eI .u8) 1 (.slice a6 x5.length c7) x5,Sl (eI .u8) 1 (.slice a10 x9.length c11) x9],qae F x8 x9 x99 x16 x17)) ?_ ?_
 refine qa (os:=_) rfl ?_
 refine av [24,12] ?_ ?_
 intro h5
 refine qf (k:=97) rfl h5 ?_
 refine au [72,66,16,0] ?_
 exact qb (true,())
 intro h5
 refine qe (k:=97) rfl h5 ?_
 refine au [130,12,25,4,36,5] ?_
 intro x18 e8 _
 refine au [25,1,17,0] ?_
 exact qb ((!x18),())
 rintro ⟨x17,_⟩
 try dsimp only
 refine qa (os:=_) rfl ?_
 refine au [1] ?_
 refine qq 7 (fun ((x19,_):(Bool×Unit))=>([(4,.slice a97 x99.length c98),(112,.bool x19)],[],[Ro (eI .i64) 3 1 (.slice a97 x99.length c98) x99],[],qb1 F x99 x19)) ?_ ?_
 refine qa (os:=_) rfl ?_
 refine av [24,12] ?_ ?_
 intro h6
 refine qf (k:=105) rfl h6 ?_
 refine au [72,66,16,0] ?_
 exact qb (true,())
 intro h6
 refine qe (k:=105) rfl h6 ?_
 refine au [130,12,25,4,36,5] ?_
 intro x20 e9 _
 refine au [25,1,17,0] ?_
 exact qb ((!x20),())
 rintro ⟨x19,_⟩
 try dsimp only
 refine qa (os:=_) rfl ?_
 refine av [63] ?_ ?_
 intro _
 refine au [61,5,114] ?_
 exact qs (none,0)
 intro _
 refine au [74,62,5,64] ?_
 exact qs (a97,c98)
theorem qlG {F:Nat}{x1:Int}{x2:Int}{x3:Int}{x4:Int}{x5:qyo}{a6:qyp}{c7:Nat}{x8:Int}{x9:qyo}{a10:qyp}{c11:Nat}{r:(qyo×Int)}(hm:qdn F x1 x2 x3 x4 x5 x8 x9=some r) :
    Pure Tryz.prog 22 [.agg #[qyq x1,qyq x2,qyq x3,qyq x4,.slice a6 x5.length c7,qyq x8,.slice a10 x9.length c11]] [Sl (eI .u8) 1 (.slice a6 x5.length c7) x5,Sl (eI .u8) 1 (.slice a10 x9.length c11) x9] (qyp×Nat) (fun g=>.tuple #[.slice g.1 r.1.length g.2,qyq r.2]) (fun g=>[Ro (eI .i64) 3 1 (.slice g.1 r.1.length g.2) r.1]) (fun _=>[]):=by
 refine ql Tryz.func22 rfl Tryz.ntmps22 rfl hm (fun w=>?_)
 refine au [25,9,82] ?_
 intro g12
 refine au [5,91,32,1] ?_
 rintro x13 e13 ⟨a14,c15⟩
 refine au [65,5,64] ?_
 exact qs (a14,c15)
set_option maxHeartbeats 4000000 in
theorem qjw {F:Nat}{x1:List (qyo)}{a2:qyp}{c3:Nat}{s3:List (qyp×Nat)}{x4:Int}{x5:Int}{x6:Int}{x7:Int}{x8:Int}{x9:qyo}{a10:qyp}{c11:Nat}{r:(Int×Int×Int×Int×Int×qyo×Int×Int×Int×Int×qyo×Int×qyo×Int)}(hm:jS F x1 x4 x5 x6 x7 x8 x9=some r) :
    PureM Tryz.prog 93 [.agg #[.slice a2 x1.length c3],.agg #[qyq x4,qyq x5,qyq x6,qyq x7,qyq x8,.slice a10 x9.length c11]] [] [Ro (eI .u8) 5 1 (.slice a10 x9.length c11) x9] [SlN eN22 iN22 1 (.slice a2 x1.length c3) x1 s3] ((qyp×Nat)×(qyp×Nat)×(qyp×Nat)) (fun g=>.tuple #[.agg #[qyq r.1,qyq r.2.1,qyq r.2.2.1,qyq r.2.2.2.1,qyq r.2.2.2.2.1,.slice g.1.1 r.2.2.2.2.2.1.length g.1.2,qyq r.2.2.2.2.2.2.1,qyq r.2.2.2.2.2.2.2.1,qyq r.2.2.2.2.2.2.2.2.1,qyq r.2.2.2.2.2.2.2.2.2.1,.slice g.2.1.1 r.2.2.2.2.2.2.2.2.2.2.1.length g.2.1.2,qyq r.2.2.2.2.2.2.2.2.2.2.2.1,.slice g.2.2.1 r.2.2.2.2.2.2.2.2.2.2.2.2.1.length g.2.2.2],qyq r.2.2.2.2.2.2.2.2.2.2.2.2.2]) (fun _=>[]) (fun g=>[Ro (eI .u8) 5 1 (.slice g.1.1 r.2.2.2.2.2.1.length g.1.2) r.2.2.2.2.2.1,Ro (eI .u8) 5 1 (.slice g.2.1.1 r.2.2.2.2.2.2.2.2.2.2.1.length g.2.1.2) r.2.2.2.2.2.2.2.2.2.2.1,Ro (eI .u8) 5 1 (.slice g.2.2.1 r.2.2.2.2.2.2.2.2.2.2.2.2.1.length g.2.2.2) r.2.2.2.2.2.2.2.2.2.2.2.2.1]):=by
 refine zw Tryz.func93 rfl Tryz.ntmps93 rfl hm (fun w=>?_)
 refine au [94] ?_
 intro g12
 refine au [24,1] ?_
 intro g13
 refine au [24,9] ?_
 intro g14
 refine au [79,26,2,12,25,4] ?_
 refine zx ent19 rfl rfl rfl (fun x15 e15=>qd7 F x1 a2 (c3,s3) x5 x6 x7 x15 e15) (.consF 0 rfl .nil) (fun x15 e15=>?_)
 rintro ⟨⟨a16,c17⟩,⟨a18,c19⟩⟩
 refine av [80,10,5,5,93,81] ?_ ?_
 intro _
 refine au [61] ?_
 refine qo (cells:=[qyq 0,qyq 0,qyq 0,qyq 0,qyq 0,.slice none 0 0,qyq 0,qyq 0,qyq 0,qyq 0,.slice none 0 0,qyq 0,.slice none 0 0]) rfl st69 rfl (by kernel_rfl) rfl ?_
 refine au [1,24,3,77,104,25,12] ?_
 exact yI ((none,0),(none,0),(none,0)) (resL (rs:=[.cell 4 69,.tmp 5]) rfl (.cell (i:=0) rfl tf69 rfl rfl (by simp) rfl (.tmp rfl ResOk.nil)) rfl) (hR:=fun h=>by subst h;exact (.cons 0 rfl (.cons 0 rfl (.cons 0 rfl .nil))))
 intro _
 refine au [74,62,12,84,30,5] ?_
 rintro x21 e21 ⟨⟨a22,c23⟩,⟨a24,c25⟩⟩
 refine au [95] ?_
 intro g26
 refine av [24,3,93,81] ?_ ?_
 intro _
 refine au [61] ?_
 refine qo (cells:=[qyq 0,qyq 0,qyq 0,qyq 0,qyq 0,.slice none 0 0,qyq 0,qyq 0,qyq 0,qyq 0,.slice none 0 0,qyq 0,.slice none 0 0]) rfl st69 rfl (by kernel_rfl) rfl ?_
 refine au [1,25,8,77,104,25,12] ?_
 exact yI ((none,0),(none,0),(none,0)) (resL (rs:=[.cell 4 69,.tmp 5]) rfl (.cell (i:=1) rfl tf69 rfl rfl (by simp) rfl (.tmp rfl ResOk.nil)) rfl) (hR:=fun h=>by subst h;exact (.cons 0 rfl (.cons 0 rfl (.cons 0 rfl .nil))))
 intro _
 refine au [108,26,2,24,4] ?_
 refine qo (cells:=[qyq x4,qyq x5,qyq x6,qyq x7,qyq x8,.slice a10 x9.length c11,qyq x21.1,qyq x21.2.1,qyq x21.2.2.1,qyq x21.2.2.2.1,.slice a22 x21.2.2.2.2.1.length c23,qyq x21.2.2.2.2.2.1,.slice a24 x21.2.2.2.2.2.2.1.length c25]) rfl st69 rfl (by kernel_rfl) rfl ?_
 refine au [25,8,64] ?_
 exact yI ((a10,c11),(a22,c23),(a24,c25)) (resL (rs:=[.cell 4 69,.tmp 5]) rfl (.cell (i:=1) rfl tf69 rfl rfl (by simp) rfl (.tmp rfl ResOk.nil)) rfl) (hR:=fun h=>by subst h;exact (.cons 4 rfl (.cons 0 rfl (.cons 0 rfl .nil))))
theorem qfH (F:Nat)(x1:List (qyo))(a2:qyp)(c3:(Nat×List (qyp×Nat)))(x4:Int)(x5:Int)(x6:Int)(r:(Int×Int×Int×Int×Int×qyo×Int×Int×Int×Int×qyo×Int×qyo×Int))(hm:qbj F x1 x4 x5 x6=some r) :
    Pure Tryz.prog 23 [.agg #[.slice a2 x1.length c3.1],.agg #[qyq x4,qyq x5,qyq x6]] [SlN eN22 iN22 1 (.slice a2 x1.length c3.1) x1 c3.2] ((qyp×Nat)×(qyp×Nat)×(qyp×Nat)) (fun g=>.tuple #[.agg #[qyq r.1,qyq r.2.1,qyq r.2.2.1,qyq r.2.2.2.1,qyq r.2.2.2.2.1,.slice g.1.1 r.2.2.2.2.2.1.length g.1.2,qyq r.2.2.2.2.2.2.1,qyq r.2.2.2.2.2.2.2.1,qyq r.2.2.2.2.2.2.2.2.1,qyq r.2.2.2.2.2.2.2.2.2.1,.slice g.2.1.1 r.2.2.2.2.2.2.2.2.2.2.1.length g.2.1.2,qyq r.2.2.2.2.2.2.2.2.2.2.2.1,.slice g.2.2.1 r.2.2.2.2.2.2.2.2.2.2.2.2.1.length g.2.2.2],qyq r.2.2.2.2.2.2.2.2.2.2.2.2.2]) (fun g=>[Ro (eI .u8) 5 1 (.slice g.1.1 r.2.2.2.2.2.1.length g.1.2) r.2.2.2.2.2.1,Ro (eI .u8) 5 1 (.slice g.2.1.1 r.2.2.2.2.2.2.2.2.2.2.1.length g.2.1.2) r.2.2.2.2.2.2.2.2.2.2.1,Ro (eI .u8) 5 1 (.slice g.2.2.1 r.2.2.2.2.2.2.2.2.2.2.2.2.1.length g.2.2.2) r.2.2.2.2.2.2.2.2.2.2.2.2.1]) (fun _=>[]):=by
 refine ql Tryz.func23 rfl Tryz.ntmps23 rfl hm (fun w=>?_)
 refine au [94] ?_
 intro g7
 refine au [24,1] ?_
 intro g8
 refine au [24,9] ?_
 intro g9
 refine au [79,26,2,25,4] ?_
 refine zx ent17 rfl rfl rfl (fun x10 e10=>qaT F x1 a2 c3 x4 x5 x6 x10 e10) (.consF 0 rfl .nil) (fun x10 e10=>?_)
 rintro ⟨a11,c12⟩
 refine au [95] ?_
 intro g13
 refine av [24,3,93,81] ?_ ?_
 intro _
 refine au [61] ?_
 refine qo (cells:=[qyq 0,qyq 0,qyq 0,qyq 0,qyq 0,.slice none 0 0,qyq 0,qyq 0,qyq 0,qyq 0,.slice none 0 0,qyq 0,.slice none 0 0]) rfl st69 rfl (by kernel_rfl) rfl ?_
 refine au [1,25,8,77,104,25,12] ?_
 exact qF ((none,0),(none,0),(none,0)) (resL (rs:=[.cell 4 69,.tmp 5]) rfl (.cell (i:=1) rfl tf69 rfl rfl (by simp) rfl (.tmp rfl ResOk.nil)) rfl) (fun h=>by subst h;exact (.cons 0 rfl (.cons 0 rfl (.cons 0 rfl .nil))))
 intro _
 refine au [108,28,11,24,4] ?_
 refine qW qjw ?_
 rintro x15 e15 ⟨⟨a16,c17⟩,⟨a18,c19⟩,⟨a20,c21⟩⟩
 refine au [65,25,8,64] ?_
 exact qF ((a16,c17),(a18,c19),(a20,c21)) (resL (rs:=[.cell 4 69,.tmp 5]) rfl (.cell (i:=1) rfl tf69 rfl rfl (by simp) rfl (.tmp rfl ResOk.nil)) rfl) (fun h=>by subst h;exact (.cons 0 rfl (.cons 0 rfl (.cons 0 rfl .nil))))
set_option maxHeartbeats 4000000 in
theorem qkI {F:Nat}{x1:Int}{x2:Int}{x3:Int}{x4:Int}{x5:qyo}{a6:qyp}{c7:Nat}{x8:Int}{x9:qyo}{a10:qyp}{c11:Nat}{x12:Int}{x13:Int}{x14:Int}{x15:Int}{x16:qyo}{a17:qyp}{c18:Nat}{x19:Int}{x20:qyo}{a21:qyp}{c22:Nat}{r:Bool}(hm:qdA F x1 x2 x3 x4 x5 x8 x9 x12 x13 x14 x15 x16 x19 x20=some r) :
    Pure Tryz.prog 180 [.agg #[qyq x1,qyq x2,qyq x3,qyq x4,.slice a6 x5.length c7,qyq x8,.slice a10 x9.length c11],.agg #[qyq x12,qyq x13,qyq x14,qyq x15,.slice a17 x16.length c18,qyq x19,.slice a21 x20.length c22]] [Sl (eI .u8) 1 (.slice a6 x5.length c7) x5,Sl (eI .u8) 1 (.slice a10 x9.length c11) x9,Sl (eI .u8) 1 (.slice a17 x16.length c18) x16,Sl (eI .u8) 1 (.slice a21 x20.length c22) x20] Unit (fun _=>.bool r) (fun _=>[]) (fun _=>[]):=by
 refine ql Tryz.func180 rfl Tryz.ntmps180 rfl hm (fun w=>?_)
 refine au [94] ?_
 intro g23
 refine au [24,1] ?_
 intro g24
 refine au [79,84,73,24,2,1] ?_
 refine qk 6 ((x1:Int) == x12) [(2,.pointer (some ⟨g23,0,none⟩)),(3,.pointer (some ⟨g24,0,none⟩)),(16,.bool (((x1:Int) == x12) && ((x2:Int) == x13)))] (fun h25=>?_) (fun h25=>?_) ?_
 refine qa (os:=_) rfl (qf (k:=10) rfl h25 ?_)
 refine au [84,73,76] ?_
 refine qc (d:=16) (v:=.bool (((x1:Int) == x12) && ((x2:Int) == x13))) rfl (by rw[h25];simp only[qvZ]) ?_
 exact az [68]
 refine qa (os:=_) rfl (qe (k:=10) rfl h25 ?_)
 refine au [72,6,17] ?_
 refine qc (d:=16) (v:=.bool (((x1:Int) == x12) && ((x2:Int) == x13))) rfl (by rw[h25];simp only[qvT]) ?_
 exact az [68]
 refine qa (os:=_) rfl ?_
 refine au [1] ?_
 refine qk 6 (((x1:Int) == x12) && ((x2:Int) == x13)) [(2,.pointer (some ⟨g23,0,none⟩)),(3,.pointer (some ⟨g24,0,none⟩)),(23,.bool ((((x1:Int) == x12) && ((x2:Int) == x13)) && ((x3:Int) == x14)))] (fun h26=>?_) (fun h26=>?_) ?_
 refine qa (os:=_) rfl (qf (k:=17) rfl h26 ?_)
 refine au [84,73,76] ?_
 refine qc (d:=23) (v:=.bool ((((x1:Int) == x12) && ((x2:Int) == x13)) && ((x3:Int) == x14))) rfl (by rw[h26];simp only[qvZ]) ?_
 exact az [68]
 refine qa (os:=_) rfl (qe (k:=17) rfl h26 ?_)
 refine au [72,6,17] ?_
 refine qc (d:=23) (v:=.bool ((((x1:Int) == x12) && ((x2:Int) == x13)) && ((x3:Int) == x14))) rfl (by rw[h26];simp only[qvT]) ?_
 exact az [68]
 refine qa (os:=_) rfl ?_
 refine au [1] ?_
 refine qk 8 ((((x1:Int) == x12) && ((x2:Int) == x13)) && ((x3:Int) == x14)) [(2,.pointer (some ⟨g23,0,none⟩)),(3,.pointer (some ⟨g24,0,none⟩)),(32,.bool (((((x1:Int) == x12) && ((x2:Int) == x13)) && ((x3:Int) == x14)) && ((x4:Int) == x15)))] (fun h27=>?_) (fun h27=>?_) ?_
 refine qa (os:=_) rfl (qf (k:=24) rfl h27 ?_)
 refine au [12,84,12,73,76] ?_
 refine qc (d:=32) (v:=.bool (((((x1:Int) == x12) && ((x2:Int) == x13)) && ((x3:Int) == x14)) && ((x4:Int) == x15))) rfl (by rw[h27];simp only[qvZ]) ?_
 exact az [68]
 refine qa (os:=_) rfl (qe (k:=24) rfl h27 ?_)
 refine au [72,66,6,17] ?_
 refine qc (d:=32) (v:=.bool (((((x1:Int) == x12) && ((x2:Int) == x13)) && ((x3:Int) == x14)) && ((x4:Int) == x15))) rfl (by rw[h27];simp only[qvT]) ?_
 exact az [68]
 refine qa (os:=_) rfl ?_
 refine au [1] ?_
 refine qk 8 (((((x1:Int) == x12) && ((x2:Int) == x13)) && ((x3:Int) == x14)) && ((x4:Int) == x15)) [(2,.pointer (some ⟨g23,0,none⟩)),(3,.pointer (some ⟨g24,0,none⟩)),(41,.bool ((((((x1:Int) == x12) && ((x2:Int) == x13)) && ((x3:Int) == x14)) && ((x4:Int) == x15)) && ((x8:Int) == x19)))] (fun h28=>?_) (fun h28=>?_) ?_
 refine qa (os:=_) rfl (qf (k:=33) rfl h28 ?_)
 refine au [12,84,12,73,76] ?_
 refine qc (d:=41) (v:=.bool ((((((x1:Int) == x12) && ((x2:Int) == x13)) && ((x3:Int) == x14)) && ((x4:Int) == x15)) && ((x8:Int) == x19))) rfl (by rw[h28];simp only[qvZ]) ?_
 exact az [68]
 refine qa (os:=_) rfl (qe (k:=33) rfl h28 ?_)
 refine au [72,66,6,17] ?_
 refine qc (d:=41) (v:=.bool ((((((x1:Int) == x12) && ((x2:Int) == x13)) && ((x3:Int) == x14)) && ((x4:Int) == x15)) && ((x8:Int) == x19))) rfl (by rw[h28];simp only[qvT]) ?_
 exact az [68]
 refine qa (os:=_) rfl ?_
 refine au [1] ?_
 refine qq 8 (fun ((x31,_):(Bool×Unit))=>([(2,.pointer (some ⟨g23,0,none⟩)),(3,.pointer (some ⟨g24,0,none⟩)),(50,.bool x31)],[⟨g24,64,[qyq x12,qyq x13,qyq x14,qyq x15,.slice a17 x16.length c18,qyq x19,.slice a21 x20.length c22]⟩,⟨g23,64,[qyq x1,qyq x2,qyq x3,qyq x4,.slice a6 x5.length c7,qyq x8,.slice a10 x9.length c11]⟩],[],[Sl (eI .u8) 1 (.slice a17 x16.length c18) x16,Sl (eI .u8) 1 (.slice a21 x20.length c22) x20,Sl (eI .u8) 1 (.slice a6 x5.length c7) x5,Sl (eI .u8) 1 (.slice a10 x9.length c11) x9],qbG F x9 x20 x31)) ?_ ?_
 refine qa (os:=_) rfl ?_
 refine av [24,12] ?_ ?_
 intro h29
 refine qf (k:=42) rfl h29 ?_
 refine au [12,84,12,73,30,3] ?_
 intro x36 e36 _
 refine au [16,0] ?_
 exact qb (x36,())
 intro h29
 refine qe (k:=42) rfl h29 ?_
 refine au [72,66,6,17,0] ?_
 exact qb (false,())
 rintro ⟨x31,_⟩
 try dsimp only
 refine qa (os:=_) rfl ?_
 refine au [1] ?_
 refine qq 8 (fun ((x34,_):(Bool×Unit))=>([(59,.bool x34)],[],[],[],qbH F x34)) ?_ ?_
 refine qa (os:=_) rfl ?_
 refine av [24,12] ?_ ?_
 intro h32
 refine qf (k:=51) rfl h32 ?_
 refine au [12,84,12,73,30,3] ?_
 intro x35 e35 _
 refine au [16,0] ?_
 exact qb (x35,())
 intro h32
 refine qe (k:=51) rfl h32 ?_
 refine au [72,66,6,17,0] ?_
 exact qb (false,())
 rintro ⟨x34,_⟩
 try dsimp only
 refine qa (os:=_) rfl ?_
 exact az [85]
set_option maxHeartbeats 4000000 in
theorem qhJ {F:Nat}{x1:List (qyo)}{a2:qyp}{c3:Nat}{s3:List (qyp×Nat)}{x4:Int}{x5:Int}{x6:Int}{x7:Int}{x8:Int}{x9:qyo}{a10:qyp}{c11:Nat}{r:(Int×Int×Int×Int×Int×qyo×Int×Int×Int×Int×qyo×Int×qyo×Int)}(hm:qdv F x1 x4 x5 x6 x7 x8 x9=some r) :
    Pure Tryz.prog 93 [.agg #[.slice a2 x1.length c3],.agg #[qyq x4,qyq x5,qyq x6,qyq x7,qyq x8,.slice a10 x9.length c11]] [SlN eN22 iN22 1 (.slice a2 x1.length c3) x1 s3,Sl (eI .u8) 1 (.slice a10 x9.length c11) x9] ((qyp×Nat)×(qyp×Nat)×(qyp×Nat)) (fun g=>.tuple #[.agg #[qyq r.1,qyq r.2.1,qyq r.2.2.1,qyq r.2.2.2.1,qyq r.2.2.2.2.1,.slice g.1.1 r.2.2.2.2.2.1.length g.1.2,qyq r.2.2.2.2.2.2.1,qyq r.2.2.2.2.2.2.2.1,qyq r.2.2.2.2.2.2.2.2.1,qyq r.2.2.2.2.2.2.2.2.2.1,.slice g.2.1.1 r.2.2.2.2.2.2.2.2.2.2.1.length g.2.1.2,qyq r.2.2.2.2.2.2.2.2.2.2.2.1,.slice g.2.2.1 r.2.2.2.2.2.2.2.2.2.2.2.2.1.length g.2.2.2],qyq r.2.2.2.2.2.2.2.2.2.2.2.2.2]) (fun g=>[Ro (eI .u8) 5 1 (.slice g.2.1.1 r.2.2.2.2.2.2.2.2.2.2.1.length g.2.1.2) r.2.2.2.2.2.2.2.2.2.2.1,Ro (eI .u8) 5 1 (.slice g.2.2.1 r.2.2.2.2.2.2.2.2.2.2.2.2.1.length g.2.2.2) r.2.2.2.2.2.2.2.2.2.2.2.2.1]) (fun _=>[]):=by
 refine ql Tryz.func93 rfl Tryz.ntmps93 rfl hm (fun w=>?_)
 refine au [94] ?_
 intro g12
 refine au [24,1] ?_
 intro g13
 refine au [24,9] ?_
 intro g14
 refine au [79,26,2,12,25,4] ?_
 refine zx ent19 rfl rfl rfl (fun x15 e15=>qd7 F x1 a2 (c3,s3) x5 x6 x7 x15 e15) (.consF 0 rfl .nil) (fun x15 e15=>?_)
 rintro ⟨⟨a16,c17⟩,⟨a18,c19⟩⟩
 refine av [80,10,5,5,93,81] ?_ ?_
 intro _
 refine au [61] ?_
 refine qo (cells:=[qyq 0,qyq 0,qyq 0,qyq 0,qyq 0,.slice none 0 0,qyq 0,qyq 0,qyq 0,qyq 0,.slice none 0 0,qyq 0,.slice none 0 0]) rfl st69 rfl (by kernel_rfl) rfl ?_
 refine au [1,24,3,77,104] ?_
 exact qF ((none,0),(none,0),(none,0)) (resL (rs:=[.cell 4 69,.tmp 5]) rfl (.cell (i:=0) rfl tf69 rfl rfl (by simp) rfl (.tmp rfl ResOk.nil)) rfl) (fun h=>by subst h;exact (.cons 0 rfl (.cons 0 rfl .nil)))
 intro _
 refine au [74,62,12,84,30,5] ?_
 rintro x21 e21 ⟨⟨a22,c23⟩,⟨a24,c25⟩⟩
 refine au [95] ?_
 intro g26
 refine av [24,3,93,81] ?_ ?_
 intro _
 refine au [61] ?_
 refine qo (cells:=[qyq 0,qyq 0,qyq 0,qyq 0,qyq 0,.slice none 0 0,qyq 0,qyq 0,qyq 0,qyq 0,.slice none 0 0,qyq 0,.slice none 0 0]) rfl st69 rfl (by kernel_rfl) rfl ?_
 refine au [1,25,8,77,104] ?_
 exact qF ((none,0),(none,0),(none,0)) (resL (rs:=[.cell 4 69,.tmp 5]) rfl (.cell (i:=1) rfl tf69 rfl rfl (by simp) rfl (.tmp rfl ResOk.nil)) rfl) (fun h=>by subst h;exact (.cons 0 rfl (.cons 0 rfl .nil)))
 intro _
 refine au [108,26,2,24,4] ?_
 refine qo (cells:=[qyq x4,qyq x5,qyq x6,qyq x7,qyq x8,.slice a10 x9.length c11,qyq x21.1,qyq x21.2.1,qyq x21.2.2.1,qyq x21.2.2.2.1,.slice a22 x21.2.2.2.2.1.length c23,qyq x21.2.2.2.2.2.1,.slice a24 x21.2.2.2.2.2.2.1.length c25]) rfl st69 rfl (by kernel_rfl) rfl ?_
 refine au [25,8,64] ?_
 exact qF ((a10,c11),(a22,c23),(a24,c25)) (resL (rs:=[.cell 4 69,.tmp 5]) rfl (.cell (i:=1) rfl tf69 rfl rfl (by simp) rfl (.tmp rfl ResOk.nil)) rfl) (fun h=>by subst h;exact (.cons 0 rfl (.cons 0 rfl .nil)))
set_option maxHeartbeats 4000000 in
theorem qju {F:Nat}{x1:Int}{x2:Int}{x3:Int}{x4:Int}{x5:Int}{x6:qyo}{a7:qyp}{c8:Nat}{x9:Int}{x10:Int}{x11:Int}{x12:Int}{x13:qyo}{a14:qyp}{c15:Nat}{x16:Int}{x17:qyo}{a18:qyp}{c19:Nat}{r:Int}(hm:jR F x1 x2 x3 x4 x5 x6 x9 x10 x11 x12 x13 x16 x17=some r) :
    Pure Tryz.prog 94 [.agg #[qyq x1,qyq x2,qyq x3,qyq x4,qyq x5,.slice a7 x6.length c8,qyq x9,qyq x10,qyq x11,qyq x12,.slice a14 x13.length c15,qyq x16,.slice a18 x17.length c19]] [Sl (eI .u8) 1 (.slice a7 x6.length c8) x6,Sl (eI .u8) 1 (.slice a14 x13.length c15) x13,Sl (eI .u8) 1 (.slice a18 x17.length c19) x17] Unit (fun _=>qyq r) (fun _=>[]) (fun _=>[]):=by
 refine ql Tryz.func94 rfl Tryz.ntmps94 rfl hm (fun w=>?_)
 refine au [25,9,82] ?_
 intro g20
 refine au [79,130,32,2] ?_
 rintro x21 e21 ⟨a22,c23⟩
 refine au [95] ?_
 intro g24
 refine av [24,3,93,81] ?_ ?_
 intro _
 exact az [62,99]
 intro _
 refine au [74,3,61,24,4,12,25,4] ?_
 refine qg qhJ ?_
 rintro x39 e39 ⟨⟨a40,c41⟩,⟨a42,c43⟩,⟨a44,c45⟩⟩
 refine au [95] ?_
 intro g46
 refine au [24,3,75,25,0,1] ?_
 refine qq 7 (fun ((x49,_):(Bool×Unit))=>([(32,.bool x49)],[],[],[],vX F x49)) ?_ ?_
 refine qa (os:=_) rfl ?_
 refine av [24,12] ?_ ?_
 intro h47
 refine qf (k:=25) rfl h47 ?_
 refine au [72,66,16,0] ?_
 exact qb (true,())
 intro h47
 refine qe (k:=25) rfl h47 ?_
 refine au [130,12,26,2] ?_
 refine qg qkI ?_
 intro x51 e51 _
 refine au [25,1,17,0] ?_
 exact qb ((!x51),())
 rintro ⟨x49,_⟩
 try dsimp only
 refine qa (os:=_) rfl ?_
 refine av [63] ?_ ?_
 intro _
 exact az [61,99]
 intro _
 exact az [108,85]
theorem qkv {F:Nat}{x1:Int}{x2:Int}{x3:Int}{x4:Int}{x5:qyo}{a6:qyp}{c7:Nat}{x8:Int}{x9:qyo}{a10:qyp}{c11:Nat}{r:Int}(hm:qbZ F x1 x2 x3 x4 x5 x8 x9=some r) :
    Pure Tryz.prog 108 [.agg #[qyq x1,qyq x2,qyq x3,qyq x4,.slice a6 x5.length c7,qyq x8,.slice a10 x9.length c11]] [Sl (eI .u8) 1 (.slice a6 x5.length c7) x5,Sl (eI .u8) 1 (.slice a10 x9.length c11) x9] Unit (fun _=>qyq r) (fun _=>[]) (fun _=>[]):=by
 refine ql Tryz.func108 rfl Tryz.ntmps108 rfl hm (fun w=>?_)
 refine au [25,9,82] ?_
 intro g12
 refine au [91,32,1] ?_
 rintro x13 e13 ⟨a14,c15⟩
 exact az [80,5,75,85]
set_option maxHeartbeats 4000000 in
theorem qhZ {F:Nat}{x1:Int}{x2:Int}{x3:Int}{x4:Int}{x5:qyo}{a6:qyp}{c7:Nat}{x8:Int}{x9:qyo}{a10:qyp}{c11:Nat}{x12:Int}{r:(Int×Int)}(hm:qcG F x1 x2 x3 x4 x5 x8 x9 x12=some r) :
    Pure Tryz.prog 106 [.agg #[qyq x1,qyq x2,qyq x3,qyq x4,.slice a6 x5.length c7,qyq x8,.slice a10 x9.length c11],qyq x12] [Sl (eI .u8) 1 (.slice a6 x5.length c7) x5,Sl (eI .u8) 1 (.slice a10 x9.length c11) x9] Unit (fun _=>.tuple #[qyq r.1,qyq r.2]) (fun _=>[]) (fun _=>[]):=by
 refine ql Tryz.func106 rfl Tryz.ntmps106 rfl hm (fun w=>?_)
 refine au [94] ?_
 intro g13
 refine au [5,91,36,6] ?_
 intro x14 e14 _
 refine au [60] ?_
 refine qh (fun ((x20,_):(Int×Unit))=>([(1,qyq x12),(2,.pointer (some ⟨g13,0,none⟩)),(6,qyq x20)],[⟨g13,64,[qyq x1,qyq x2,qyq x3,qyq x4,.slice a6 x5.length c7,qyq x8,.slice a10 x9.length c11]⟩],[],[Sl (eI .u8) 1 (.slice a6 x5.length c7) x5,Sl (eI .u8) 1 (.slice a10 x9.length c11) x9],qc6 F x1 x2 x3 x4 x5 x8 x9 x12 x20)) ?_ ?_
 refine au [98,1] ?_
 refine qq 9 (fun ((x26,_):(Bool×Unit))=>([(1,qyq x12),(2,.pointer (some ⟨g13,0,none⟩)),(6,qyq x14),(20,.bool x26)],[⟨g13,64,[qyq x1,qyq x2,qyq x3,qyq x4,.slice a6 x5.length c7,qyq x8,.slice a10 x9.length c11]⟩],[],[Sl (eI .u8) 1 (.slice a6 x5.length c7) x5,Sl (eI .u8) 1 (.slice a10 x9.length c11) x9],qc7 F x1 x2 x3 x4 x5 x8 x9 x12 x14 x26)) ?_ ?_
 refine qa (os:=_) rfl ?_
 refine av [24,12] ?_ ?_
 intro h24
 refine qf (k:=11) rfl h24 ?_
 refine au [1,125] ?_
 refine qk 5 (decide (x12<0)) [(1,qyq x12),(2,.pointer (some ⟨g13,0,none⟩)),(6,qyq x14),(11,.bool true),(19,.bool ((decide (x12<0)) || (decide (x1≤x12))))] (fun h28=>?_) (fun h28=>?_) ?_
 refine qa (os:=_) rfl (qf (k:=14) rfl h28 ?_)
 refine au [72,16] ?_
 refine qc (d:=19) (v:=.bool ((decide (x12<0)) || (decide (x1≤x12)))) rfl (by rw[h28];simp only[qv4]) ?_
 exact az [68]
 refine qa (os:=_) rfl (qe (k:=14) rfl h28 ?_)
 refine au [1,73,26,7,17] ?_
 refine qc (d:=19) (v:=.bool ((decide (x12<0)) || (decide (x1≤x12)))) rfl (by rw[h28];simp only[qv2]) ?_
 exact az [68]
 refine qa (os:=_) rfl ?_
 refine au [16,0] ?_
 exact qb (((decide (x12<0)) || (decide (x1≤x12))),())
 intro h24
 refine qe (k:=11) rfl h24 ?_
 refine au [72,72,17,0] ?_
 exact qb (false,())
 rintro ⟨x26,_⟩
 try dsimp only
 refine qa (os:=_) rfl ?_
 refine av [63] ?_ ?_
 intro _
 refine au [4,5,0] ?_
 exact qb ((3:Int),())
 intro _
 refine au [13] ?_
 exact qb (x14,())
 rintro ⟨x20,_⟩
 try dsimp only
 refine av [83,81] ?_ ?_
 intro _
 exact az [62,5,99]
 intro _
 refine au [108,24,4,1,36,4] ?_
 intro x22 e22 _
 exact az [5,85]
theorem qfF:∀ (F:Nat) (g1:Nat) (x2:Int) (x3:Int) (x4:Int) (x5:Int) (x6:Int) (x7:qyo) (a8:qyp) (c9:Nat) (x10:Int) (x11:Int) (x12:Int) (x13:Int) (x14:qyo) (a15:qyp) (c16:Nat) (x17:Int) (x18:qyo) (a19:qyp) (c20:Nat) (x21:Int) (x22:Int) (r:(qyo×Int×Int×Int×Int×Int×Int×Int×Int×Int×Int×Int)),kI F x2 x3 x4 x5 x6 x7 x10 x11 x12 x13 x14 x17 x18 x21 x22=some r→PureM Tryz.prog 95 [.pointer (some ⟨g1,0,none⟩),qyq x22] [⟨g1,148,[qyq x2,qyq x3,qyq x4,qyq x5,qyq x6,.slice a8 x7.length c9,qyq x10,qyq x11,qyq x12,qyq x13,.slice a15 x14.length c16,qyq x17,.slice a19 x18.length c20,qyq x21]⟩] [] [Sl (eI .u8) 1 (.slice a8 x7.length c9) x7,Sl (eI .u8) 1 (.slice a15 x14.length c16) x14,Sl (eI .u8) 1 (.slice a19 x18.length c20) x18] (qyp×Nat) (fun g=>.slice g.1 r.1.length g.2) (fun _=>[⟨g1,148,[qyq r.2.1,qyq r.2.2.1,qyq r.2.2.2.1,qyq r.2.2.2.2.1,qyq r.2.2.2.2.2.1,.slice a8 x7.length c9,qyq r.2.2.2.2.2.2.1,qyq r.2.2.2.2.2.2.2.1,qyq r.2.2.2.2.2.2.2.2.1,qyq r.2.2.2.2.2.2.2.2.2.1,.slice a15 x14.length c16,qyq r.2.2.2.2.2.2.2.2.2.2.1,.slice a19 x18.length c20,qyq r.2.2.2.2.2.2.2.2.2.2.2]⟩]) (fun g=>[Ro (eI .i64) 3 1 (.slice g.1 r.1.length g.2) r.1]):=by
  intro F
  induction F with
  | zero=>intro g1 x2 x3 x4 x5 x6 x7 a8 c9 x10 x11 x12 x13 x14 a15 c16 x17 x18 a19 c20 x21 x22 r hm;exact absurd hm (by simp[kI])
  | succ F ih =>
    intro g1 x2 x3 x4 x5 x6 x7 a8 c9 x10 x11 x12 x13 x14 a15 c16 x17 x18 a19 c20 x21 x22 r hm
    refine zw Tryz.func95 rfl Tryz.ntmps95 rfl hm (fun w=>?_)
    refine qpi (l':=[(0,.pointer (some ⟨g1,0,none⟩)),(1,qyq x22)]) rfl ?_
    refine qaz ?_
    refine kj ?_
    refine vH rfl rfl rfl ?_
    refine vK ?_
    refine vE ?_
    refine qaz ?_
    refine kj ?_
    refine yu rfl rfl rfl ?_
    refine qbb rfl rfl rfl ?_
    refine kd rfl rfl ff148_1 rfl ?_
    refine ka (i:=0) rfl rfl tf3 rfl rfl (fun _=>rfl) rfl rfl ?_
    refine qpk rfl rfl rfl rfl ?_
    refine qbb rfl rfl rfl ?_
    refine kd rfl rfl ff148_1 rfl ?_
    refine yQ (i:=0) rfl rfl rfl tf3 rfl rfl rfl rfl rfl ?_
    refine vK ?_
    refine vE ?_
    refine qaz ?_
    refine kj ?_
    refine yu rfl rfl rfl ?_
    refine qbb rfl rfl rfl ?_
    refine kd rfl rfl ff148_0 rfl ?_
    refine kd rfl rfl ff69_1 rfl ?_
    refine ka (i:=0) rfl rfl tf64 rfl rfl (by simp) rfl rfl ?_
    refine yu rfl rfl rfl ?_
    refine zx ent106 rfl rfl rfl (fun x23 e23=>qhZ e23) (.consF 1 rfl (.consF 2 rfl .nil)) (fun x23 e23=>?_)
    intro _
    refine yu rfl rfl rfl ?_
    refine je rfl rfl rfl rfl ?_
    refine je rfl rfl rfl rfl ?_
    refine vH rfl rfl rfl ?_
    refine vH rfl rfl rfl ?_
    refine vK ?_
    refine vE ?_
    refine qaz ?_
    refine kj ?_
    refine yu rfl rfl rfl ?_
    refine qbb rfl rfl rfl ?_
    refine kd rfl rfl ff148_0 rfl ?_
    refine kd rfl rfl ff69_0 rfl ?_
    refine ka (i:=0) rfl rfl tf53 rfl rfl (by simp) rfl rfl ?_
    refine yu rfl rfl rfl ?_
    refine yu rfl rfl rfl ?_
    refine zx ent173 rfl rfl rfl (fun x24 e24=>qh3 e24) (.consF 0 rfl .nil) (fun x24 e24=>?_)
    intro _
    refine yu rfl rfl rfl ?_
    refine je rfl rfl rfl rfl ?_
    refine je rfl rfl rfl rfl ?_
    refine je rfl rfl rfl rfl ?_
    refine vH rfl rfl rfl ?_
    refine vH rfl rfl rfl ?_
    refine vH rfl rfl rfl ?_
    refine vK ?_
    refine vE ?_
    refine qaz ?_
    refine kj ?_
    refine vH rfl rfl rfl ?_
    refine vK ?_
    refine vE ?_
    refine qfo (fun (((x31,x32,x33,x34,x35,x36,x37,x38,x39,x40,x41,x42),(a29,c30)):((qyo×Int×Int×Int×Int×Int×Int×Int×Int×Int×Int×Int)×(qyp×Nat)))=>[(0,.pointer (some ⟨g1,0,none⟩)),(1,qyq x22),(7,qyq x24.1),(8,qyq x24.2.1),(10,.slice a29 x31.length c30)]) (fun (((x31,x32,x33,x34,x35,x36,x37,x38,x39,x40,x41,x42),(a29,c30)):((qyo×Int×Int×Int×Int×Int×Int×Int×Int×Int×Int×Int)×(qyp×Nat)))=>[⟨g1,148,[qyq x32,qyq x33,qyq x34,qyq x35,qyq x36,.slice a8 x7.length c9,qyq x37,qyq x38,qyq x39,qyq x40,.slice a15 x14.length c16,qyq x41,.slice a19 x18.length c20,qyq x42]⟩]) (fun (((x31,x32,x33,x34,x35,x36,x37,x38,x39,x40,x41,x42),(a29,c30)):((qyo×Int×Int×Int×Int×Int×Int×Int×Int×Int×Int×Int)×(qyp×Nat)))=>[Ro (eI .i64) 3 1 (.slice a29 x31.length c30) x31]) (fun (((x31,x32,x33,x34,x35,x36,x37,x38,x39,x40,x41,x42),(a29,c30)):((qyo×Int×Int×Int×Int×Int×Int×Int×Int×Int×Int×Int)×(qyp×Nat)))=>[Sl (eI .u8) 1 (.slice a8 x7.length c9) x7,Sl (eI .u8) 1 (.slice a15 x14.length c16) x14,Sl (eI .u8) 1 (.slice a19 x18.length c20) x18]) (fun (((x31,x32,x33,x34,x35,x36,x37,x38,x39,x40,x41,x42),_):((qyo×Int×Int×Int×Int×Int×Int×Int×Int×Int×Int×Int)×(qyp×Nat)))=>ky F x7 x22 x24 x31 x32 x33 x34 x35 x36 x37 x38 x39 x40 x41 x42) ?_ ?_
    · refine qaz ?_
      refine kj ?_
      refine yu rfl rfl rfl ?_
      refine qpm rfl rfl rfl rfl ?_
      refine vK ?_
      refine vE ?_
      refine qsj rfl (fun h53=>?_) (fun h53=>?_)
      · refine kj ?_
        refine yu rfl rfl rfl ?_
        refine yu rfl rfl rfl ?_
        refine yu rfl rfl rfl ?_
        refine qpo rfl rfl rfl rfl ?_
        refine qke ent95 rfl rfl rfl (fun x50 e50=>ih g1 x2 x3 x4 x5 x6 x7 a8 c9 x10 x11 x12 x13 x14 a15 c16 x17 x18 a19 c20 (iadd .i64 x21 1) (isub .i64 x22 x24.1) x50 e50) (.cons 0 rfl .nil) .nil (.consF 0 rfl (.consF 1 rfl (.consF 2 rfl .nil))) (fun x50 e50=>?_)
        rintro ⟨a51,c52⟩
        refine vH rfl rfl rfl ?_
        refine vK ?_
        exact zj ((x50.1,x50.2.1,x50.2.2.1,x50.2.2.2.1,x50.2.2.2.2.1,x50.2.2.2.2.2.1,x50.2.2.2.2.2.2.1,x50.2.2.2.2.2.2.2.1,x50.2.2.2.2.2.2.2.2.1,x50.2.2.2.2.2.2.2.2.2.1,x50.2.2.2.2.2.2.2.2.2.2.1,x50.2.2.2.2.2.2.2.2.2.2.2),(a51,c52)) (hB:=(.cons 0 rfl .nil)) (hR:=(.cons 0 rfl .nil)) (hF:=(qj 0 rfl (qj 1 rfl (qj 2 rfl zA))))
      · refine qmR ?_
        refine qd6 Int (eI .i64) 3 1 ?_
        exact zj ((([]:qyo),x2,x3,x4,x5,x6,x10,x11,x12,x13,x17,iadd .i64 x21 1),(none,0)) (hB:=(.cons 0 rfl .nil)) (hR:=(.cons 0 rfl .nil)) (hF:=(qj 0 rfl (qj 1 rfl (qj 2 rfl zA))))
    · rintro ⟨⟨x31,x32,x33,x34,x35,x36,x37,x38,x39,x40,x41,x42⟩,⟨a29,c30⟩⟩
      try dsimp only
      refine qaz ?_
      refine kj ?_
      refine yu rfl rfl rfl ?_
      refine qbb rfl rfl rfl ?_
      refine kd rfl rfl ff148_0 rfl ?_
      refine kd rfl rfl ff69_0 rfl ?_
      refine kd rfl rfl ff53_1 rfl ?_
      refine ka (i:=0) rfl rfl tf27 rfl rfl (by simp) rfl rfl ?_
      refine qhk rfl tf27 rfl (fun g43=>?_)
      refine yQ (i:=0) rfl rfl rfl tf27 rfl rfl rfl rfl rfl ?_
      refine vK ?_
      refine vE ?_
      refine qaz ?_
      refine kj ?_
      refine yu rfl rfl rfl ?_
      refine kd rfl rfl ff27_0 rfl ?_
      refine yQ (i:=0) rfl rfl rfl tf3 rfl rfl rfl rfl rfl ?_
      refine vK ?_
      refine vE ?_
      refine qaz ?_
      refine qy mixed [] [⟨g43,27,[qyq x24.1,qyq x34,qyq x35]⟩,⟨g1,148,[qyq x32,qyq x33,qyq x34,qyq x35,qyq x36,.slice a8 x7.length c9,qyq x37,qyq x38,qyq x39,qyq x40,.slice a15 x14.length c16,qyq x41,.slice a19 x18.length c20,qyq x42]⟩] [Sl (eI .u8) 1 (.slice a8 x7.length c9) x7,Sl (eI .u8) 1 (.slice a15 x14.length c16) x14,Sl (eI .u8) 1 (.slice a19 x18.length c20) x18] (.cons 0 rfl (.cons 0 rfl .nil)) (qt 0 rfl (qt 1 rfl (qt 2 rfl qw))) 18 rfl ?_
      refine qm 0 (.pointer (some ⟨g1,0,none⟩)) rfl rfl rfl (v8 rfl) ?_
      refine qm 1 (.pointer (some ⟨g1,0,none⟩)) rfl rfl rfl (v8 rfl) ?_
      refine qm 2 (.pointer (some ⟨g1,0,none⟩)) rfl rfl rfl (vF rfl ff148_0) ?_
      refine qm 3 (.pointer (some ⟨g1,0,none⟩)) rfl rfl rfl (vF rfl ff69_0) ?_
      refine qm 4 (.pointer (some ⟨g1,4,none⟩)) rfl rfl rfl (vF rfl ff53_2) ?_
      refine q8 5 (.agg #[qyq x36,.slice a8 x7.length c9]) rfl rfl rfl (qQ (i:=1) rfl tf25 rfl rfl (by simp) rfl) ?_
      refine qm 6 (qyq x24.2.1) rfl rfl rfl (v8 rfl) ?_
      refine qm 7 (qyq x22) rfl rfl rfl (v8 rfl) ?_
      refine qm 8 (.slice a29 x31.length c30) rfl rfl rfl (v8 rfl) ?_
      refine q8 9 (.agg #[qyq x24.1,qyq x34,qyq x35]) rfl rfl rfl (qQ (i:=0) rfl tf27 rfl rfl (by simp) rfl) ?_
      refine qmN 10 rfl (by kernel_rfl) rfl ?_
      refine zx ent83 rfl rfl rfl (fun x47 e47=>qhr e47) (.consF 0 rfl (.consR 0 (Ro (eI .i64) 3 1 (.slice a29 x31.length c30) x31) rfl .nil)) (fun x47 e47=>?_)
      rintro ⟨a48,c49⟩
      refine vK ?_
      refine zd (.cons 0 rfl (.cons 0 rfl .nil)) (qt 0 rfl (qt 1 rfl (qt 2 rfl qw))) ?_
      refine qm 11 (.tuple #[.slice a48 x47.1.length c49,qyq x47.2.1,qyq x47.2.2]) rfl rfl rfl (v8 rfl) ?_
      refine qm 12 (.slice a48 x47.1.length c49) rfl rfl rfl (v8 rfl) ?_
      refine qm 13 (qyq x47.2.1) rfl rfl rfl (v8 rfl) ?_
      refine qm 14 (qyq x47.2.2) rfl rfl rfl (v8 rfl) ?_
      refine qm 15 (.slice a48 x47.1.length c49) rfl rfl rfl (v8 rfl) ?_
      refine qm 16 (qyq x47.2.1) rfl rfl rfl (v8 rfl) ?_
      refine qm 17 (qyq x47.2.2) rfl rfl rfl (v8 rfl) ?_
      refine qmM (by kernel_rfl) ?_
      refine qx ?_ (by intro c h;cases h)
      refine vE ?_
      refine qaz ?_
      refine kj ?_
      refine yu rfl rfl rfl ?_
      refine vH rfl rfl rfl ?_
      refine vK ?_
      refine vE ?_
      refine qpj ?_
      exact yI (a48,c49) (res1 rfl rfl) (hB:=fun h=>by subst h;exact (.cons 1 rfl .nil)) (hR:=fun h=>by subst h;exact (.cons 0 rfl .nil))
set_option maxHeartbeats 4000000 in
theorem qkH {F:Nat}{x1:Int}{x2:Int}{x3:Int}{x4:Int}{x5:Int}{x6:qyo}{a7:qyp}{c8:Nat}{x9:Int}{x10:Int}{x11:Int}{x12:Int}{x13:qyo}{a14:qyp}{c15:Nat}{x16:Int}{x17:qyo}{a18:qyp}{c19:Nat}{x20:Int}{r:(qyo×Int×Int)}(hm:ke F x1 x2 x3 x4 x5 x6 x9 x10 x11 x12 x13 x16 x17 x20=some r) :
    Pure Tryz.prog 24 [.agg #[qyq x1,qyq x2,qyq x3,qyq x4,qyq x5,.slice a7 x6.length c8,qyq x9,qyq x10,qyq x11,qyq x12,.slice a14 x13.length c15,qyq x16,.slice a18 x17.length c19],qyq x20] [Sl (eI .u8) 1 (.slice a7 x6.length c8) x6,Sl (eI .u8) 1 (.slice a14 x13.length c15) x13,Sl (eI .u8) 1 (.slice a18 x17.length c19) x17] (qyp×Nat) (fun g=>.tuple #[.slice g.1 r.1.length g.2,qyq r.2.1,qyq r.2.2]) (fun g=>[Ro (eI .i64) 3 1 (.slice g.1 r.1.length g.2) r.1]) (fun _=>[]):=by
 refine ql Tryz.func24 rfl Tryz.ntmps24 rfl hm (fun w=>?_)
 refine au [94] ?_
 intro g21
 refine au [5,5,91,32,3] ?_
 intro x22 e22 _
 refine au [60] ?_
 refine qh (fun ((x28,_):(Int×Unit))=>([(1,qyq x20),(2,.pointer (some ⟨g21,0,none⟩)),(7,qyq x28)],[⟨g21,69,[qyq x1,qyq x2,qyq x3,qyq x4,qyq x5,.slice a7 x6.length c8,qyq x9,qyq x10,qyq x11,qyq x12,.slice a14 x13.length c15,qyq x16,.slice a18 x17.length c19]⟩],[],[Sl (eI .u8) 1 (.slice a7 x6.length c8) x6,Sl (eI .u8) 1 (.slice a14 x13.length c15) x13,Sl (eI .u8) 1 (.slice a18 x17.length c19) x17],ve F x1 x2 x3 x4 x5 x6 x9 x10 x11 x12 x13 x16 x17 x20 x28)) ?_ ?_
 refine au [98,1] ?_
 refine qq 10 (fun ((x37,_):(Bool×Unit))=>([(1,qyq x20),(2,.pointer (some ⟨g21,0,none⟩)),(7,qyq x22),(24,.bool x37)],[⟨g21,69,[qyq x1,qyq x2,qyq x3,qyq x4,qyq x5,.slice a7 x6.length c8,qyq x9,qyq x10,qyq x11,qyq x12,.slice a14 x13.length c15,qyq x16,.slice a18 x17.length c19]⟩],[],[Sl (eI .u8) 1 (.slice a7 x6.length c8) x6,Sl (eI .u8) 1 (.slice a14 x13.length c15) x13,Sl (eI .u8) 1 (.slice a18 x17.length c19) x17],vf F x1 x2 x3 x4 x5 x6 x9 x10 x11 x12 x13 x16 x17 x20 x22 x37)) ?_ ?_
 refine qa (os:=_) rfl ?_
 refine av [24,12] ?_ ?_
 intro h35
 refine qf (k:=14) rfl h35 ?_
 refine au [1,125] ?_
 refine qk 6 (decide (x20<0)) [(1,qyq x20),(2,.pointer (some ⟨g21,0,none⟩)),(7,qyq x22),(14,.bool true),(23,.bool ((decide (x20<0)) || (decide (x1≤x20))))] (fun h39=>?_) (fun h39=>?_) ?_
 refine qa (os:=_) rfl (qf (k:=17) rfl h39 ?_)
 refine au [72,6,16] ?_
 refine qc (d:=23) (v:=.bool ((decide (x20<0)) || (decide (x1≤x20)))) rfl (by rw[h39];simp only[qv4]) ?_
 exact az [68]
 refine qa (os:=_) rfl (qe (k:=17) rfl h39 ?_)
 refine au [1,12,73,26,7,17] ?_
 refine qc (d:=23) (v:=.bool ((decide (x20<0)) || (decide (x1≤x20)))) rfl (by rw[h39];simp only[qv2]) ?_
 exact az [68]
 refine qa (os:=_) rfl ?_
 refine au [16,0] ?_
 exact qb (((decide (x20<0)) || (decide (x1≤x20))),())
 intro h35
 refine qe (k:=14) rfl h35 ?_
 refine au [72,72,6,17,0] ?_
 exact qb (false,())
 rintro ⟨x37,_⟩
 try dsimp only
 refine qa (os:=_) rfl ?_
 refine av [63] ?_ ?_
 intro _
 refine au [4,5,0] ?_
 exact qb ((3:Int),())
 intro _
 refine au [13] ?_
 exact qb (x22,())
 rintro ⟨x28,_⟩
 try dsimp only
 refine av [83,81] ?_ ?_
 intro _
 refine au [62,5,5,114] ?_
 exact qs (none,0)
 intro _
 refine au [108,24,4] ?_
 refine qo (cells:=[qyq x1,qyq x2,qyq x3,qyq x4,qyq x5,.slice a7 x6.length c8,qyq x9,qyq x10,qyq x11,qyq x12,.slice a14 x13.length c15,qyq x16,.slice a18 x17.length c19,qyq 0]) rfl st148 rfl (by kernel_rfl) rfl ?_
 refine au [24,1] ?_
 intro g30
 refine au [75,1] ?_
 refine qW (fun h=>qfF F _ _ _ _ _ _ _ _ _ _ _ _ _ _ _ _ _ _ _ _ _ _ _ h) ?_
 rintro x31 e31 ⟨a32,c33⟩
 refine au [60,3] ?_
 refine qy mixed [] [⟨g30,148,[qyq x31.2.1,qyq x31.2.2.1,qyq x31.2.2.2.1,qyq x31.2.2.2.2.1,qyq x31.2.2.2.2.2.1,.slice a7 x6.length c8,qyq x31.2.2.2.2.2.2.1,qyq x31.2.2.2.2.2.2.2.1,qyq x31.2.2.2.2.2.2.2.2.1,qyq x31.2.2.2.2.2.2.2.2.2.1,.slice a14 x13.length c15,qyq x31.2.2.2.2.2.2.2.2.2.2.1,.slice a18 x17.length c19,qyq x31.2.2.2.2.2.2.2.2.2.2.2]⟩,⟨g21,69,[qyq x1,qyq x2,qyq x3,qyq x4,qyq x5,.slice a7 x6.length c8,qyq x9,qyq x10,qyq x11,qyq x12,.slice a14 x13.length c15,qyq x16,.slice a18 x17.length c19]⟩] [Sl (eI .u8) 1 (.slice a7 x6.length c8) x6,Sl (eI .u8) 1 (.slice a14 x13.length c15) x13,Sl (eI .u8) 1 (.slice a18 x17.length c19) x17] (.cons 0 rfl (.cons 0 rfl .nil)) (qt 0 rfl (qt 1 rfl (qt 2 rfl qw))) 8 rfl ?_
 refine au [88,7,2,24,0,3,25,2,4,7,5,7,6,7,7,24,8] ?_
 refine qx ?_ (by intro c h;cases h)
 refine au [2,9] ?_
 exact qs (a32,c33)
set_option maxHeartbeats 4000000 in
theorem qkr {F:Nat}{x1:qyo}{a2:qyp}{c3:Nat}{x4:qyo}{a5:qyp}{c6:Nat}{r:Bool}(hm:qgp F x1 x4=some r) :
    Pure Tryz.prog 64 [.slice a2 x1.length c3,.slice a5 x4.length c6] [Sl (eI .u64) 1 (.slice a2 x1.length c3) x1,Sl (eI .u64) 1 (.slice a5 x4.length c6) x4] Unit (fun _=>.bool r) (fun _=>[]) (fun _=>[]):=by
 refine ql Tryz.func64 rfl Tryz.ntmps64 rfl hm (fun w=>?_)
 refine av [69,93,89,24,6,81] ?_ ?_
 intro _
 exact az [61,99]
 intro _
 refine au [74] ?_
 refine qh (fun ((_,_):(Unit×Unit))=>([],[],[],[],qeY F)) ?_ ?_
 refine au [61,60,19] ?_
 refine qu (fun ((x0,_):(Int×Unit))=>([(0,.slice a2 x1.length c3),(1,.slice a5 x4.length c6),(5,qyq x0)],[],[],[Sl (eI .u64) 1 (.slice a2 x1.length c3) x1,Sl (eI .u64) 1 (.slice a5 x4.length c6) x4])) (fun k (s:(Int×Unit))=>qbs F x1 x4 k s.1) (0,()) F ?_
 intro k0
 rintro ⟨x0,_⟩
 try dsimp only
 refine qB (m':=qeX F x1 x4 (qbs F x1 x4 k0) x0) rfl ?_
 refine av [83,126,101] ?_ ?_
 intro _
 refine au [74,3,19,3] ?_
 refine qbo (j:=0) (qp .u64) (by decide) rfl ?_
 intro x2 e0 b0 o0 h0
 replace h0:a2=some ⟨b0,o0,none⟩:=h0
 refine qbo (j:=2) (qp .u64) (by decide) rfl ?_
 intro x3 e1 b1 o1 h1
 replace h1:a5=some ⟨b1,o1,none⟩:=h1
 refine qy mixed [] [] [qK b1 (o1+x0.toNat*1) ((eI .u64) x3),qK b0 (o0+x0.toNat*1) ((eI .u64) x2),Sl (eI .u64) 1 (.slice a2 x1.length c3) x1,Sl (eI .u64) 1 (.slice a5 x4.length c6) x4] .nil (qt 0 rfl (qt 1 rfl (qt 2 rfl (qt 3 rfl qw)))) 9 rfl ?_
 refine au [88] ?_
 refine qi (d:=17) (v:=.slice (some ⟨b0,o0,none⟩) x1.length c3) rfl (by rw[h0] <;> rfl) (qm 2 (.pointer (some ⟨b0,(o0+x0.toNat*1),none⟩)) rfl rfl rfl (vI Tryz.underlying33 tf80 rfl rfl (qP e0).1 (yr e0)) (qi (d:=17) (v:=.slice a2 x1.length c3) rfl (by rw[h0] <;> rfl) (qO 3 (.int .u64 x2) [] rfl rfl rfl (zG (j:=1) rfl tf80 rfl rfl (fun _=>rfl) rfl) ?_)))
 refine au [115] ?_
 refine qi (d:=21) (v:=.slice (some ⟨b1,o1,none⟩) x4.length c6) rfl (by rw[h1] <;> rfl) (qm 6 (.pointer (some ⟨b1,(o1+x0.toNat*1),none⟩)) rfl rfl rfl (vI Tryz.underlying33 tf80 rfl rfl (qP e1).1 (yr e1)) (qi (d:=21) (v:=.slice a5 x4.length c6) rfl (by rw[h1] <;> rfl) (qO 7 (.int .u64 x3) [] rfl rfl rfl (zG (j:=0) rfl tf80 rfl rfl (fun _=>rfl) rfl) ?_)))
 refine au [7,8,24,8] ?_
 refine qx ?_ (by intro c h;cases h)
 refine av [2,11] ?_ ?_
 intro _
 exact az [61,64,129,18]
 intro _
 refine au [13,78,4,1,23,5,0] ?_
 exact qr (iadd .i64 x0 1,())
 intro _
 exact az [87,26,0]
 rintro ⟨_,_⟩
 try dsimp only
 exact az [61,85]
set_option maxHeartbeats 4000000 in
theorem qlK {F:Nat}{x1:Int}{x2:qyo}{a3:qyp}{c4:Nat}{x5:Int}{x6:Int}{x7:Int}{x8:Int}{r:(qyo×Int×Int)}(hm:qht F x1 x2 x5 x6 x7 x8=some r) :
    Pure Tryz.prog 96 [.agg #[qyq x1,.slice a3 x2.length c4],qyq x5,qyq x6,qyq x7,qyq x8] [Sl (eI .u8) 1 (.slice a3 x2.length c4) x2] (qyp×Nat) (fun g=>.tuple #[.slice g.1 r.1.length g.2,qyq r.2.1,qyq r.2.2]) (fun g=>[Ro (eI .i64) 3 1 (.slice g.1 r.1.length g.2) r.1]) (fun _=>[]):=by
 refine ql Tryz.func96 rfl Tryz.ntmps96 rfl hm (fun w=>?_)
 refine au [28,14,82] ?_
 intro g9
 refine au [5,5,91,1,31,11] ?_
 intro x10 e10 _
 refine au [60] ?_
 refine qh (fun ((x24,_):(Int×Unit))=>([(1,qyq x5),(2,qyq x6),(3,qyq x7),(4,qyq x8),(5,.pointer (some ⟨g9,0,none⟩)),(13,qyq x24)],[⟨g9,25,[qyq x1,.slice a3 x2.length c4]⟩],[],[Sl (eI .u8) 1 (.slice a3 x2.length c4) x2],qdO F x1 x2 x5 x6 x7 x8 x24)) ?_ ?_
 refine au [98,1] ?_
 refine qq 20 (fun ((x36,_):(Bool×Unit))=>([(1,qyq x5),(2,qyq x6),(3,qyq x7),(4,qyq x8),(5,.pointer (some ⟨g9,0,none⟩)),(13,qyq x10),(39,.bool x36)],[⟨g9,25,[qyq x1,.slice a3 x2.length c4]⟩],[],[Sl (eI .u8) 1 (.slice a3 x2.length c4) x2],qdP F x1 x2 x5 x6 x7 x8 x10 x36)) ?_ ?_
 refine qa (os:=_) rfl ?_
 refine av [24,12] ?_ ?_
 intro h30
 refine qf (k:=19) rfl h30 ?_
 refine au [1,28,9] ?_
 intro x38 e38 _
 refine au [25,1,1] ?_
 refine qk 3 (!x38) [(1,qyq x5),(2,qyq x6),(3,qyq x7),(4,qyq x8),(5,.pointer (some ⟨g9,0,none⟩)),(13,qyq x10),(19,.bool true),(26,.bool ((!x38) || (decide (x7<1))))] (fun h39=>?_) (fun h39=>?_) ?_
 refine qa (os:=_) rfl (qf (k:=23) rfl h39 ?_)
 refine au [66,16] ?_
 refine qc (d:=26) (v:=.bool ((!x38) || (decide (x7<1)))) rfl (by rw[h39];simp only[qv4]) ?_
 exact az [68]
 refine qa (os:=_) rfl (qe (k:=23) rfl h39 ?_)
 refine au [1,24,5,17] ?_
 refine qc (d:=26) (v:=.bool ((!x38) || (decide (x7<1)))) rfl (by rw[h39];simp only[qv2]) ?_
 exact az [68]
 refine qa (os:=_) rfl ?_
 refine au [1] ?_
 refine qk 3 ((!x38) || (decide (x7<1))) [(1,qyq x5),(2,qyq x6),(3,qyq x7),(4,qyq x8),(5,.pointer (some ⟨g9,0,none⟩)),(13,qyq x10),(19,.bool true),(30,.bool (((!x38) || (decide (x7<1))) || (decide (16<x7))))] (fun h40=>?_) (fun h40=>?_) ?_
 refine qa (os:=_) rfl (qf (k:=27) rfl h40 ?_)
 refine au [66,16] ?_
 refine qc (d:=30) (v:=.bool (((!x38) || (decide (x7<1))) || (decide (16<x7)))) rfl (by rw[h40];simp only[qv4]) ?_
 exact az [68]
 refine qa (os:=_) rfl (qe (k:=27) rfl h40 ?_)
 refine au [1,92] ?_
 refine qc (d:=30) (v:=.bool (((!x38) || (decide (x7<1))) || (decide (16<x7)))) rfl (by rw[h40];simp only[qv2]) ?_
 exact az [68]
 refine qa (os:=_) rfl ?_
 refine au [1] ?_
 refine qk 3 (((!x38) || (decide (x7<1))) || (decide (16<x7))) [(1,qyq x5),(2,qyq x6),(3,qyq x7),(4,qyq x8),(5,.pointer (some ⟨g9,0,none⟩)),(13,qyq x10),(19,.bool true),(34,.bool ((((!x38) || (decide (x7<1))) || (decide (16<x7))) || (decide (x8<0))))] (fun h41=>?_) (fun h41=>?_) ?_
 refine qa (os:=_) rfl (qf (k:=31) rfl h41 ?_)
 refine au [66,16] ?_
 refine qc (d:=34) (v:=.bool ((((!x38) || (decide (x7<1))) || (decide (16<x7))) || (decide (x8<0)))) rfl (by rw[h41];simp only[qv4]) ?_
 exact az [68]
 refine qa (os:=_) rfl (qe (k:=31) rfl h41 ?_)
 refine au [1,24,5,17] ?_
 refine qc (d:=34) (v:=.bool ((((!x38) || (decide (x7<1))) || (decide (16<x7))) || (decide (x8<0)))) rfl (by rw[h41];simp only[qv2]) ?_
 exact az [68]
 refine qa (os:=_) rfl ?_
 refine au [1] ?_
 refine qk 3 ((((!x38) || (decide (x7<1))) || (decide (16<x7))) || (decide (x8<0))) [(1,qyq x5),(2,qyq x6),(3,qyq x7),(4,qyq x8),(5,.pointer (some ⟨g9,0,none⟩)),(13,qyq x10),(19,.bool true),(38,.bool (((((!x38) || (decide (x7<1))) || (decide (16<x7))) || (decide (x8<0))) || (decide (300<x8))))] (fun h42=>?_) (fun h42=>?_) ?_
 refine qa (os:=_) rfl (qf (k:=35) rfl h42 ?_)
 refine au [66,16] ?_
 refine qc (d:=38) (v:=.bool (((((!x38) || (decide (x7<1))) || (decide (16<x7))) || (decide (x8<0))) || (decide (300<x8)))) rfl (by rw[h42];simp only[qv4]) ?_
 exact az [68]
 refine qa (os:=_) rfl (qe (k:=35) rfl h42 ?_)
 refine au [1,92] ?_
 refine qc (d:=38) (v:=.bool (((((!x38) || (decide (x7<1))) || (decide (16<x7))) || (decide (x8<0))) || (decide (300<x8)))) rfl (by rw[h42];simp only[qv2]) ?_
 exact az [68]
 refine qa (os:=_) rfl ?_
 refine au [16,0] ?_
 exact qb ((((((!x38) || (decide (x7<1))) || (decide (16<x7))) || (decide (x8<0))) || (decide (300<x8))),())
 intro h30
 refine qe (k:=19) rfl h30 ?_
 refine au [72,72,72,72,66,6,17,0] ?_
 exact qb (false,())
 rintro ⟨x36,_⟩
 try dsimp only
 refine qa (os:=_) rfl ?_
 refine av [63] ?_ ?_
 intro _
 refine au [4,5,0] ?_
 exact qb ((3:Int),())
 intro _
 refine au [13] ?_
 exact qb (x10,())
 rintro ⟨x24,_⟩
 try dsimp only
 refine av [83,81] ?_ ?_
 intro _
 refine au [62,5,5,114] ?_
 exact qs (none,0)
 intro _
 refine au [108,24,4,1,1,1,1,35,2] ?_
 rintro x26 e26 ⟨a27,c28⟩
 refine au [65,10,5,5,64] ?_
 exact qs (a27,c28)
set_option maxHeartbeats 4000000 in
theorem qkq {F:Nat}{x1:qyo}{a2:qyp}{c3:Nat}{x4:qyo}{a5:qyp}{c6:Nat}{r:Bool}(hm:qL F x1 x4=some r) :
    Pure Tryz.prog 97 [.slice a2 x1.length c3,.slice a5 x4.length c6] [Sl (eI .i64) 1 (.slice a2 x1.length c3) x1,Sl (eI .i64) 1 (.slice a5 x4.length c6) x4] Unit (fun _=>.bool r) (fun _=>[]) (fun _=>[]):=by
 refine ql Tryz.func97 rfl Tryz.ntmps97 rfl hm (fun w=>?_)
 refine av [69,93,89,24,6,81] ?_ ?_
 intro _
 exact az [61,99]
 intro _
 refine au [74] ?_
 refine qh (fun ((_,_):(Unit×Unit))=>([],[],[],[],qeW F)) ?_ ?_
 refine au [61,60,19] ?_
 refine qu (fun ((x0,_):(Int×Unit))=>([(0,.slice a2 x1.length c3),(1,.slice a5 x4.length c6),(5,qyq x0)],[],[],[Sl (eI .i64) 1 (.slice a2 x1.length c3) x1,Sl (eI .i64) 1 (.slice a5 x4.length c6) x4])) (fun k (s:(Int×Unit))=>zS F x1 x4 k s.1) (0,()) F ?_
 intro k0
 rintro ⟨x0,_⟩
 try dsimp only
 refine qB (m':=yo F x1 x4 (zS F x1 x4 k0) x0) rfl ?_
 refine av [83,126,101] ?_ ?_
 intro _
 refine au [74,3,19,3,29,12] ?_
 intro x2 e0 b0 o0 h0
 replace h0:a2=some ⟨b0,o0,none⟩:=h0
 refine au [36,7] ?_
 intro x3 e1 b1 o1 h1
 replace h1:a5=some ⟨b1,o1,none⟩:=h1
 refine qy mixed [] [] [qK b1 (o1+x0.toNat*1) ((eI .i64) x3),qK b0 (o0+x0.toNat*1) ((eI .i64) x2),Sl (eI .i64) 1 (.slice a2 x1.length c3) x1,Sl (eI .i64) 1 (.slice a5 x4.length c6) x4] .nil (qt 0 rfl (qt 1 rfl (qt 2 rfl (qt 3 rfl qw)))) 9 rfl ?_
 refine au [88] ?_
 refine qi (d:=17) (v:=.slice (some ⟨b0,o0,none⟩) x1.length c3) rfl (by rw[h0] <;> rfl) (qm 2 (.pointer (some ⟨b0,(o0+x0.toNat*1),none⟩)) rfl rfl rfl (vI Tryz.underlying22 tf3 rfl rfl (qP e0).1 (yr e0)) (qi (d:=17) (v:=.slice a2 x1.length c3) rfl (by rw[h0] <;> rfl) (qO 3 (qyq x2) [] rfl rfl rfl (zG (j:=1) rfl tf3 rfl rfl (fun _=>rfl) rfl) ?_)))
 refine au [115] ?_
 refine qi (d:=21) (v:=.slice (some ⟨b1,o1,none⟩) x4.length c6) rfl (by rw[h1] <;> rfl) (qm 6 (.pointer (some ⟨b1,(o1+x0.toNat*1),none⟩)) rfl rfl rfl (vI Tryz.underlying22 tf3 rfl rfl (qP e1).1 (yr e1)) (qi (d:=21) (v:=.slice a5 x4.length c6) rfl (by rw[h1] <;> rfl) (qO 7 (qyq x3) [] rfl rfl rfl (zG (j:=0) rfl tf3 rfl rfl (fun _=>rfl) rfl) ?_)))
 refine au [7,8,24,8] ?_
 refine qx ?_ (by intro c h;cases h)
 refine av [2,11] ?_ ?_
 intro _
 exact az [61,64,129,18]
 intro _
 refine au [13,78,4,1,23,5,0] ?_
 exact qr (iadd .i64 x0 1,())
 intro _
 exact az [87,26,0]
 rintro ⟨_,_⟩
 try dsimp only
 exact az [61,85]
set_option maxHeartbeats 4000000 in
theorem qi9 {F:Nat}  {r:Bool}(hm:qcW F =some r) :
    Pure Tryz.prog 25 [] [] Unit (fun _=>.bool r) (fun _=>[]) (fun _=>[]):=by
 refine ql Tryz.func25 rfl Tryz.ntmps25 rfl hm (fun w=>?_)
 refine au [27,2,61,79] ?_
 refine qn (vs:=[qyq 3,qyq 4,qyq 9]) (ys:=([3,4,9]:qyo)) (qp .i64) (by decide) rfl Tryz.underlying22 tf3 rfl rfl rfl rfl rfl (by decide) (fun a1 c2=>?_)
 refine au [30,14] ?_
 rintro x3 e3 ⟨a4,c5⟩
 refine au [80,5,75,32,4] ?_
 rintro x6 e6 ⟨a7,c8⟩
 refine au [80,5,79] ?_
 refine qn (vs:=[qyq 3,qyq 4,qyq 9]) (ys:=([3,4,9]:qyo)) (qp .i64) (by decide) rfl Tryz.underlying22 tf3 rfl rfl rfl rfl rfl (by decide) (fun a9 c10=>qg (fun h=>qge F _ _ _ _ _ _ h) ?_)
 rintro x11 e11 ⟨a12,c13⟩
 refine au [95] ?_
 intro g14
 refine au [24,3,91] ?_
 refine qg qlK ?_
 rintro x15 e15 ⟨a16,c17⟩
 refine au [80,10,5,5,79] ?_
 refine qn (vs:=[qyq 3,qyq 3]) (ys:=([3,3]:qyo)) (qp .i64) (by decide) rfl Tryz.underlying22 tf3 rfl rfl rfl rfl rfl (by decide) (fun a18 c19=>?_)
 refine au [30,14] ?_
 rintro x20 e20 ⟨a21,c22⟩
 refine au [80,5,79] ?_
 refine qn (vs:=[.int .u64 1]) (ys:=([1]:qyo)) (qp .u64) (by decide) rfl Tryz.underlying33 tf80 rfl rfl rfl rfl rfl (by decide) (fun a23 c24=>?_)
 refine au [32,4] ?_
 rintro x25 e25 ⟨a26,c27⟩
 refine au [80,5,75] ?_
 refine qn (vs:=[.int .u64 3,.int .u64 0,.int .u64 4]) (ys:=([3,0,4]:qyo)) (qp .u64) (by decide) rfl Tryz.underlying33 tf80 rfl rfl rfl rfl rfl (by decide) (fun a28 c29=>qg qkr ?_)
 intro x30 e30 _
 refine au [1] ?_
 refine qk 3 x30 [(3,.slice a7 x6.1.length c8),(4,qyq x6.2),(5,.pointer (some ⟨g14,0,none⟩)),(6,qyq x11.2.2),(7,.slice a16 x15.1.length c17),(8,qyq x15.2.1),(9,qyq x15.2.2),(11,qyq x20.2),(13,qyq x25.2),(51,.bool (x30 && ((x3.2:Int) == 0)))] (fun h31=>?_) (fun h31=>?_) ?_
 refine qa (os:=_) rfl (qf (k:=48) rfl h31 ?_)
 refine au [1,76] ?_
 refine qc (d:=51) (v:=.bool (x30 && ((x3.2:Int) == 0))) rfl (by rw[h31];simp only[qvZ]) ?_
 exact az [68]
 refine qa (os:=_) rfl (qe (k:=48) rfl h31 ?_)
 refine au [90] ?_
 refine qc (d:=51) (v:=.bool (x30 && ((x3.2:Int) == 0))) rfl (by rw[h31];simp only[qvT]) ?_
 exact az [68]
 refine qa (os:=_) rfl ?_
 refine au [1] ?_
 refine qq 4 (fun ((x36,_):(Bool×Unit))=>([(3,.slice a7 x6.1.length c8),(4,qyq x6.2),(5,.pointer (some ⟨g14,0,none⟩)),(6,qyq x11.2.2),(7,.slice a16 x15.1.length c17),(8,qyq x15.2.1),(9,qyq x15.2.2),(11,qyq x20.2),(13,qyq x25.2),(56,.bool x36)],[⟨g14,25,[qyq x11.1,.slice a12 x11.2.1.length c13]⟩],[Ro (eI .i64) 3 1 (.slice a7 x6.1.length c8) x6.1,Ro (eI .i64) 3 1 (.slice a16 x15.1.length c17) x15.1,Ro (eI .u8) 5 1 (.slice a12 x11.2.1.length c13) x11.2.1],[],qcA F x6 x11 x15 x20 x25 x36)) ?_ ?_
 refine qa (os:=_) rfl ?_
 refine av [24,12] ?_ ?_
 intro h32
 refine qf (k:=52) rfl h32 ?_
 refine au [1] ?_
 refine qn (vs:=[qyq 3,qyq 4,qyq 9]) (ys:=([3,4,9]:qyo)) (qp .i64) (by decide) rfl Tryz.underlying22 tf3 rfl rfl rfl rfl rfl (by decide) (fun a47 c48=>?_)
 refine au [26,5] ?_
 intro x49 e49 _
 refine au [16,0] ?_
 exact qb (x49,())
 intro h32
 refine qe (k:=52) rfl h32 ?_
 refine au [66,6,17,0] ?_
 exact qb (false,())
 rintro ⟨x36,_⟩
 try dsimp only
 refine qa (os:=_) rfl ?_
 refine au [1] ?_
 refine qk 3 x36 [(3,.slice a7 x6.1.length c8),(5,.pointer (some ⟨g14,0,none⟩)),(6,qyq x11.2.2),(7,.slice a16 x15.1.length c17),(8,qyq x15.2.1),(9,qyq x15.2.2),(11,qyq x20.2),(13,qyq x25.2),(60,.bool (x36 && ((x6.2:Int) == 0)))] (fun h37=>?_) (fun h37=>?_) ?_
 refine qa (os:=_) rfl (qf (k:=57) rfl h37 ?_)
 refine au [1,76] ?_
 refine qc (d:=60) (v:=.bool (x36 && ((x6.2:Int) == 0))) rfl (by rw[h37];simp only[qvZ]) ?_
 exact az [68]
 refine qa (os:=_) rfl (qe (k:=57) rfl h37 ?_)
 refine au [90] ?_
 refine qc (d:=60) (v:=.bool (x36 && ((x6.2:Int) == 0))) rfl (by rw[h37];simp only[qvT]) ?_
 exact az [68]
 refine qa (os:=_) rfl ?_
 refine au [1] ?_
 refine qk 3 (x36 && ((x6.2:Int) == 0)) [(3,.slice a7 x6.1.length c8),(5,.pointer (some ⟨g14,0,none⟩)),(7,.slice a16 x15.1.length c17),(8,qyq x15.2.1),(9,qyq x15.2.2),(11,qyq x20.2),(13,qyq x25.2),(64,.bool ((x36 && ((x6.2:Int) == 0)) && ((x11.2.2:Int) == 0)))] (fun h38=>?_) (fun h38=>?_) ?_
 refine qa (os:=_) rfl (qf (k:=61) rfl h38 ?_)
 refine au [1,76] ?_
 refine qc (d:=64) (v:=.bool ((x36 && ((x6.2:Int) == 0)) && ((x11.2.2:Int) == 0))) rfl (by rw[h38];simp only[qvZ]) ?_
 exact az [68]
 refine qa (os:=_) rfl (qe (k:=61) rfl h38 ?_)
 refine au [90] ?_
 refine qc (d:=64) (v:=.bool ((x36 && ((x6.2:Int) == 0)) && ((x11.2.2:Int) == 0))) rfl (by rw[h38];simp only[qvT]) ?_
 exact az [68]
 refine qa (os:=_) rfl ?_
 refine au [1] ?_
 refine qq 4 (fun ((x41,_):(Bool×Unit))=>([(5,.pointer (some ⟨g14,0,none⟩)),(8,qyq x15.2.1),(9,qyq x15.2.2),(11,qyq x20.2),(13,qyq x25.2),(69,.bool x41)],[⟨g14,25,[qyq x11.1,.slice a12 x11.2.1.length c13]⟩],[Ro (eI .u8) 5 1 (.slice a12 x11.2.1.length c13) x11.2.1],[],qcB F x11 x15 x20 x25 x41)) ?_ ?_
 refine qa (os:=_) rfl ?_
 refine av [24,12] ?_ ?_
 intro h39
 refine qf (k:=65) rfl h39 ?_
 refine au [1,1,26,5] ?_
 intro x46 e46 _
 refine au [16,0] ?_
 exact qb (x46,())
 intro h39
 refine qe (k:=65) rfl h39 ?_
 refine au [66,6,17,0] ?_
 exact qb (false,())
 rintro ⟨x41,_⟩
 try dsimp only
 refine qa (os:=_) rfl ?_
 refine au [1] ?_
 refine qk 5 x41 [(9,qyq x15.2.2),(11,qyq x20.2),(13,qyq x25.2),(75,.bool (x41 && ((x15.2.1:Int) == x11.1)))] (fun h42=>?_) (fun h42=>?_) ?_
 refine qa (os:=_) rfl (qf (k:=70) rfl h42 ?_)
 refine au [1,73,76] ?_
 refine qc (d:=75) (v:=.bool (x41 && ((x15.2.1:Int) == x11.1))) rfl (by rw[h42];simp only[qvZ]) ?_
 exact az [68]
 refine qa (os:=_) rfl (qe (k:=70) rfl h42 ?_)
 refine au [72,17] ?_
 refine qc (d:=75) (v:=.bool (x41 && ((x15.2.1:Int) == x11.1))) rfl (by rw[h42];simp only[qvT]) ?_
 exact az [68]
 refine qa (os:=_) rfl ?_
 refine au [1] ?_
 refine qk 3 (x41 && ((x15.2.1:Int) == x11.1)) [(11,qyq x20.2),(13,qyq x25.2),(79,.bool ((x41 && ((x15.2.1:Int) == x11.1)) && ((x15.2.2:Int) == 0)))] (fun h43=>?_) (fun h43=>?_) ?_
 refine qa (os:=_) rfl (qf (k:=76) rfl h43 ?_)
 refine au [1,76] ?_
 refine qc (d:=79) (v:=.bool ((x41 && ((x15.2.1:Int) == x11.1)) && ((x15.2.2:Int) == 0))) rfl (by rw[h43];simp only[qvZ]) ?_
 exact az [68]
 refine qa (os:=_) rfl (qe (k:=76) rfl h43 ?_)
 refine au [90] ?_
 refine qc (d:=79) (v:=.bool ((x41 && ((x15.2.1:Int) == x11.1)) && ((x15.2.2:Int) == 0))) rfl (by rw[h43];simp only[qvT]) ?_
 exact az [68]
 refine qa (os:=_) rfl ?_
 refine au [1] ?_
 refine qk 3 ((x41 && ((x15.2.1:Int) == x11.1)) && ((x15.2.2:Int) == 0)) [(13,qyq x25.2),(83,.bool (((x41 && ((x15.2.1:Int) == x11.1)) && ((x15.2.2:Int) == 0)) && ((x20.2:Int) == 4)))] (fun h44=>?_) (fun h44=>?_) ?_
 refine qa (os:=_) rfl (qf (k:=80) rfl h44 ?_)
 refine au [1,76] ?_
 refine qc (d:=83) (v:=.bool (((x41 && ((x15.2.1:Int) == x11.1)) && ((x15.2.2:Int) == 0)) && ((x20.2:Int) == 4))) rfl (by rw[h44];simp only[qvZ]) ?_
 exact az [68]
 refine qa (os:=_) rfl (qe (k:=80) rfl h44 ?_)
 refine au [90] ?_
 refine qc (d:=83) (v:=.bool (((x41 && ((x15.2.1:Int) == x11.1)) && ((x15.2.2:Int) == 0)) && ((x20.2:Int) == 4))) rfl (by rw[h44];simp only[qvT]) ?_
 exact az [68]
 refine qa (os:=_) rfl ?_
 refine au [1] ?_
 refine qk 3 (((x41 && ((x15.2.1:Int) == x11.1)) && ((x15.2.2:Int) == 0)) && ((x20.2:Int) == 4)) [(87,.bool ((((x41 && ((x15.2.1:Int) == x11.1)) && ((x15.2.2:Int) == 0)) && ((x20.2:Int) == 4)) && ((x25.2:Int) == 3)))] (fun h45=>?_) (fun h45=>?_) ?_
 refine qa (os:=_) rfl (qf (k:=84) rfl h45 ?_)
 refine au [1,76] ?_
 refine qc (d:=87) (v:=.bool ((((x41 && ((x15.2.1:Int) == x11.1)) && ((x15.2.2:Int) == 0)) && ((x20.2:Int) == 4)) && ((x25.2:Int) == 3))) rfl (by rw[h45];simp only[qvZ]) ?_
 exact az [68]
 refine qa (os:=_) rfl (qe (k:=84) rfl h45 ?_)
 refine au [90] ?_
 refine qc (d:=87) (v:=.bool ((((x41 && ((x15.2.1:Int) == x11.1)) && ((x15.2.2:Int) == 0)) && ((x20.2:Int) == 4)) && ((x25.2:Int) == 3))) rfl (by rw[h45];simp only[qvT]) ?_
 exact az [68]
 refine qa (os:=_) rfl ?_
 exact az [85]
theorem qkF {F:Nat}{x1:List (Int×Int)}{a2:qyp}{c3:Nat}{r:(Int×Int)}(hm:qdz F x1=some r) :
    Pure Tryz.prog 98 [.slice a2 x1.length c3] [Sl eS154 2 (.slice a2 x1.length c3) x1] Unit (fun _=>.tuple #[qyq r.1,qyq r.2]) (fun _=>[]) (fun _=>[]):=by
 refine ql Tryz.func98 rfl Tryz.ntmps98 rfl hm (fun w=>?_)
 refine au [116,5,75,26,3,28,2] ?_
 rintro x4 e4 ⟨a5,c6⟩
 exact az [80,5,75,89,5,85]
end Go.Proofs.YtmoikolponkmpaaGreat
