/- Each Go function of this seat computes what its model says, part 3. -/
import Derived.Test.YtlioijpkhffbnaaGreatWalks2
open Bool renaming false_and→qyj, true_and→qyt
open List renaming length_set→qzI
namespace Go.Proofs.YtlioijpkhffbnaaGreat
open Go SX
set_option maxHeartbeats 4000000 in
theorem qh6 (F:Nat)(g1:Nat)(x2:qAE)(a3:qAF)(c4:Nat)(x5:Int)(x6:Int)(x7:Bool)(r:(List (qAE)×Bool×Int×Int×Bool))(hm:qaI F x2 x5 x6 x7=some r) :
    PureM Tryz.prog 36 [.pointer (some ⟨g1,0,none⟩)] [⟨g1,80,[.slice a3 x2.length c4,qAG x5,qAG x6,.bool x7]⟩] [] [Sl (eI .u8) 1 (.slice a3 x2.length c4) x2] (qAF×(Nat×List (qAF×Nat))) (fun g=>.tuple #[.agg #[.slice g.1 r.1.length g.2.1],.bool r.2.1]) (fun _=>[⟨g1,80,[.slice a3 x2.length c4,qAG r.2.2.1,qAG r.2.2.2.1,.bool r.2.2.2.2]⟩]) (fun g=>[RoN eN59 rN59 59 1 (.slice g.1 r.1.length g.2.1) r.1 g.2.2 []]):=by
 refine zZ Tryz.func36 rfl Tryz.ntmps36 rfl hm (fun w=>?_)
 refine au [25,5,128] ?_
 intro g8
 refine au [58,60,28,1] ?_
 intro x9 e9 _
 refine au [58,59] ?_
 refine qq (cells:=[.slice none 0 0]) rfl st24 rfl (by kernel_rfl) rfl ?_
 refine au [24,12] ?_
 intro g10
 refine au [84] ?_
 refine qc (fun (((x76,x77,x78,x79),(a74,c75)):((List (qAE)×Int×Int×Bool)×(qAF×(Nat×List (qAF×Nat)))))=>([(0,.pointer (some ⟨g1,0,none⟩)),(2,.pointer (some ⟨g8,0,none⟩)),(5,.pointer (some ⟨g10,0,none⟩))],[⟨g10,24,[.slice a74 x76.length c75.1]⟩,⟨g1,80,[.slice a3 x2.length c4,qAG x77,qAG x78,.bool x79]⟩,⟨g8,24,[.slice none 0 0]⟩],[RoN eN59 rN59 59 1 (.slice a74 x76.length c75.1) x76 c75.2 []],[Sl (eI .u8) 1 (.slice a3 x2.length c4) x2],zE F x2 x76 x77 x78 x79)) ?_ ?_
 refine au [69,162,30,1] ?_
 refine qi (fun (((x0,x1,x3,x4,x8),(a0,c0)):((Int×List (qAE)×Int×Int×Bool)×(qAF×(Nat×List (qAF×Nat)))))=>([(0,.pointer (some ⟨g1,0,none⟩)),(2,.pointer (some ⟨g8,0,none⟩)),(4,qAG x9.1),(5,.pointer (some ⟨g10,0,none⟩)),(10,qAG x9.1),(11,qAG x0)],[⟨g10,24,[.slice a0 x1.length c0.1]⟩,⟨g1,80,[.slice a3 x2.length c4,qAG x3,qAG x4,.bool x8]⟩,⟨g8,24,[.slice none 0 0]⟩],[RoN eN59 rN59 59 1 (.slice a0 x1.length c0.1) x1 c0.2 []],[Sl (eI .u8) 1 (.slice a3 x2.length c4) x2])) (fun k (s:((Int×List (qAE)×Int×Int×Bool)×(qAF×(Nat×List (qAF×Nat)))))=>q9 F x2 x9 k s.1) ((0,([]:List (qAE)),x9.2.1,x9.2.2.1,x9.2.2.2),(none,(0,([]:List (qAF×Nat))))) F ?_
 intro k0
 rintro ⟨⟨x0,x1,x3,x4,x8⟩,⟨a0,c0⟩⟩
 try dsimp only
 refine qm (m':=kD F x2 x9 (q9 F x2 x9 k0) x0 x1 x3 x4 x8) rfl ?_
 refine av [140] ?_ ?_
 intro _
 refine au [91,60,58] ?_
 refine qu mixed [9] [⟨g8,24,[.slice none 0 0]⟩] [Sl (eI .u8) 1 (.slice a3 x2.length c4) x2,(BlkD.is ⟨g10,24,[.slice a0 x1.length c0.1]⟩)] (.cons 2 rfl .nil) (qx 0 rfl (qjO 0 rfl qr)) 10 rfl ?_
 refine au [24,2,0] ?_
 refine qI 1 (.slice a0 x1.length c0.1) [[9]] rfl rfl rfl (qa7 (j:=1) rfl tf22 rfl rfl (fun _=>rfl) rfl) ?_
 refine au [6,2,6,3,6,4,21,5] ?_
 refine zr qh7 ?_
 rintro x10 e0 ⟨a1,c1⟩
 refine au [0,31,5,21,6] ?_
 refine qt (vs:=[.slice a1 x10.1.length c1]) (ys:=([(x10.1,(a1,c1))]:List (qAE×(qAF×Nat)))) kL (by decide) rfl Tryz.underlying22 tf59 rfl rfl rfl rfl rfl (by decide) (fun a2 c2=>qdt (rin:=rN59) (i:=0) ([x10.1]:List (qAE)) ([(a1,c1)]:List (qAF×Nat)) rfl rfl (.cons 0 rfl .nil) ?_)
 refine au [0,31,5,21,7,30,2] ?_
 intro x11 e1 a4 c3
 refine au [0,31,5,24,2,8,21,9,25,7,0] ?_
 refine qeU 9 rfl (by kernel_rfl) (.cons 2 rfl .nil) ?_
 refine au [24,3] ?_
 refine qy ?_ (by intro c h;cases h)
 refine au [22,2,4,16,1,0] ?_
 exact qh ((iadd .i64 x0 1,x11,x10.2.1,x10.2.2.1,x10.2.2.2),(a4,(c3,(c0.2++([(a1,c1)]:List (qAF×Nat))))))
 intro _
 refine au [73] ?_
 exact qa ((x1,x3,x4,x8),(a0,c0))
 rintro ⟨⟨x76,x77,x78,x79⟩,⟨a74,c75⟩⟩
 try dsimp only
 refine qc (fun ((x83,_):(Bool×Unit))=>([(2,.pointer (some ⟨g8,0,none⟩)),(3,.bool x83)],[⟨g1,80,[.slice a3 x2.length c4,qAG x77,qAG x78,.bool x79]⟩,⟨g8,24,[.slice a74 x76.length c75.1]⟩],[RoN eN59 rN59 59 1 (.slice a74 x76.length c75.1) x76 c75.2 []],[Sl (eI .u8) 1 (.slice a3 x2.length c4) x2],kE F x76 x77 x78 x79 x83)) ?_ ?_
 refine av [26,15] ?_ ?_
 intro h84
 refine av [26,15] ?_ ?_
 intro h85
 refine qu mixed [] [⟨g10,24,[.slice a74 x76.length c75.1]⟩,⟨g1,80,[.slice a3 x2.length c4,qAG x77,qAG x78,.bool x79]⟩] [Sl (eI .u8) 1 (.slice a3 x2.length c4) x2] (.cons 0 rfl (.cons 0 rfl .nil)) (qx 0 rfl qr) 25 rfl (qK 0 (.agg #[.slice a74 x76.length c75.1]) rfl rfl rfl (qH (i:=0) rfl tf24 rfl rfl (by simp) rfl) ?_)
 refine au [6,1,6,2,166,6,5,6,6] ?_
 refine qf (d:=30) (v:=.bool true) rfl (by rw[h84] <;> rfl) ?_
 refine au [6,7,6,8,24,2,9,26,11,10,6,11,6,12,24,2,13,26,11,14,26,9,15,6,16,153] ?_
 refine qf (d:=42) (v:=.bool true) rfl (by rw[h85] <;> rfl) (qK 19 (.agg #[.slice a74 x76.length c75.1]) rfl rfl rfl (qH (i:=0) rfl tf24 rfl rfl (by simp) rfl) ?_)
 refine au [21,20,31,4] ?_
 intro x86 e86 _
 refine au [159,152,21,23,170,6,24,24,3] ?_
 exact qy (qa (((x86:Int) == 0),())) (by intro c h;cases h)
 intro h85
 refine qu mixed [] [⟨g10,24,[.slice a74 x76.length c75.1]⟩,⟨g1,80,[.slice a3 x2.length c4,qAG x77,qAG x78,.bool x79]⟩] [Sl (eI .u8) 1 (.slice a3 x2.length c4) x2] (.cons 0 rfl (.cons 0 rfl .nil)) (qx 0 rfl qr) 25 rfl (qK 0 (.agg #[.slice a74 x76.length c75.1]) rfl rfl rfl (qH (i:=0) rfl tf24 rfl rfl (by simp) rfl) ?_)
 refine au [6,1,6,2,166,6,5,6,6] ?_
 refine qf (d:=30) (v:=.bool true) rfl (by rw[h84] <;> rfl) ?_
 refine au [6,7,6,8,24,2,9,26,11,10,6,11,6,12,24,2,13,26,11,14,26,9,15,6,16,153] ?_
 refine qf (d:=42) (v:=.bool false) rfl (by rw[h85] <;> rfl) ?_
 refine au [111,11,21,6,22,21,23,170,6,24,24,3] ?_
 exact qy (qa (false,())) (by intro c h;cases h)
 intro h84
 refine qu mixed [] [⟨g10,24,[.slice a74 x76.length c75.1]⟩,⟨g1,80,[.slice a3 x2.length c4,qAG x77,qAG x78,.bool x79]⟩] [Sl (eI .u8) 1 (.slice a3 x2.length c4) x2] (.cons 0 rfl (.cons 0 rfl .nil)) (qx 0 rfl qr) 25 rfl (qK 0 (.agg #[.slice a74 x76.length c75.1]) rfl rfl rfl (qH (i:=0) rfl tf24 rfl rfl (by simp) rfl) ?_)
 refine au [6,1,6,2,166,6,5,6,6] ?_
 refine qf (d:=30) (v:=.bool false) rfl (by rw[h84] <;> rfl) ?_
 refine au [11,7,141,112,156,146,153,111,11,21,6,22,21,23,170,6,24,24,3] ?_
 exact qy (qa (false,())) (by intro c h;cases h)
 rintro ⟨x83,_⟩
 try dsimp only
 refine au [12] ?_
 exact vI (a74,c75) (resL (rs:=[.cell 2 24,.tmp 3]) rfl (.cell (i:=1) rfl tf24 rfl rfl (by simp) rfl (.tmp rfl ResOk.nil)) rfl) (hB:=fun h=>by subst h;exact (.cons 0 rfl .nil)) (hR:=fun h=>by subst h;exact (.cons 0 rfl .nil))
set_option maxHeartbeats 4000000 in
theorem qm8 {F:Nat}{x1:Int}{x2:qAE}{a3:qAF}{c4:Nat}{r:Int}(hm:qdI F x1 x2=some r) :
    Pure Tryz.prog 50 [.agg #[qAG x1,.slice a3 x2.length c4]] [Sl (eI .u8) 1 (.slice a3 x2.length c4) x2] Unit (fun _=>qAG r) (fun _=>[]) (fun _=>[]):=by
 refine qk Tryz.func50 rfl Tryz.ntmps50 rfl hm (fun w=>?_)
 refine au [133] ?_
 intro g5
 refine au [58,3,14,116,23,1] ?_
 refine qC 4 (decide (x1<0)) [(1,.pointer (some ⟨g5,0,none⟩)),(11,.bool ((decide (x1<0)) || (decide (8192<x1))))] (fun h27=>?_) (fun h27=>?_) ?_
 refine qb (os:=_) rfl (qp (k:=7) rfl h27 ?_)
 refine au [71,174] ?_
 refine qd (d:=11) (v:=.bool ((decide (x1<0)) || (decide (8192<x1)))) rfl (by rw[h27];simp only[Bool.true_or]) ?_
 exact az [67]
 refine qb (os:=_) rfl (qo (k:=7) rfl h27 ?_)
 refine au [62,80] ?_
 refine qd (d:=11) (v:=.bool ((decide (x1<0)) || (decide (8192<x1)))) rfl (by rw[h27];simp only[Bool.false_or]) ?_
 exact az [67]
 refine qb (os:=_) rfl ?_
 refine av [58,8] ?_ ?_
 intro _
 exact az [59,61,160]
 intro _
 refine av [116,18,62,16,27,12,25,1,58,8] ?_ ?_
 intro _
 exact az [59,61,160]
 intro _
 refine qc (fun ((x36,_):(Bool×Unit))=>([(21,.bool x36)],[],[],[],qaZ F x36)) ?_ ?_
 refine av [26,15] ?_ ?_
 intro h38
 refine au [30,3] ?_
 intro x39 e39 b40 o41 h42
 replace h42:a3=some ⟨b40,o41,none⟩:=h42
 refine au [28,5] ?_
 intro h43
 refine qu mixed [] [⟨g5,65,[qAG x1,.slice a3 x2.length c4]⟩] [qz b40 (o41+(isub .i64 (x2.length:Int) 1).toNat*1) ((eI .u8) x39),Sl (eI .u8) 1 (.slice a3 x2.length c4) x2] (.cons 0 rfl .nil) (qx 0 rfl (qx 1 rfl qr)) 20 rfl ?_
 refine au [24,2,0,25,8,1] ?_
 refine qn 2 (qAG (irem x1 8)) rfl rfl rfl (qoi rfl rfl rfl) ?_
 refine au [6,3,6,4] ?_
 refine qf (d:=26) (v:=.bool true) rfl (by rw[h38] <;> rfl) ?_
 refine au [24,2,5,25,8,6,24,2,7,25,8,8,26,9,9,6,10] ?_
 refine qf (d:=28) (v:=.slice (some ⟨b40,o41,none⟩) x2.length c4) rfl (by rw[h42] <;> rfl) (qn 11 (.pointer (some ⟨b40,(o41+(isub .i64 (x2.length:Int) 1).toNat*1),none⟩)) rfl rfl rfl (yJ Tryz.underlying27 tf5 rfl rfl (qF e39).1 (zX e39)) (qf (d:=28) (v:=.slice a3 x2.length c4) rfl (by rw[h42] <;> rfl) (qI 12 (.int .u8 x39) [] rfl rfl rfl (zi (j:=0) rfl tf5 rfl rfl (fun _=>rfl) rfl) ?_)))
 refine au [24,2,13,25,8,14] ?_
 refine qn 15 (qAG (irem x1 8)) rfl rfl rfl (qoi rfl rfl rfl) (qn 16 (.int .u8 (ishl .u8 x39 (irem x1 8))) rfl rfl rfl (qit rfl rfl h43) ?_)
 refine au [153,6,19,24,3] ?_
 exact qy (qa ((((ishl .u8 x39 (irem x1 8)):Int) != 0),())) (by intro c h;cases h)
 intro h38
 refine qu mixed [] [⟨g5,65,[qAG x1,.slice a3 x2.length c4]⟩] [Sl (eI .u8) 1 (.slice a3 x2.length c4) x2] (.cons 0 rfl .nil) (qx 0 rfl qr) 20 rfl ?_
 refine au [24,2,0,25,8,1] ?_
 refine qn 2 (qAG (irem x1 8)) rfl rfl rfl (qoi rfl rfl rfl) ?_
 refine au [6,3,6,4] ?_
 refine qf (d:=26) (v:=.bool false) rfl (by rw[h38] <;> rfl) ?_
 refine au [11,5,11,6,11,7,141,112,156,146,11,17,6,18,6,19,24,3] ?_
 exact qy (qa (false,())) (by intro c h;cases h)
 rintro ⟨x36,_⟩
 try dsimp only
 refine av [8] ?_ ?_
 intro _
 exact az [59,61,160]
 intro _
 exact az [157,2,59,95]
set_option maxHeartbeats 4000000 in
theorem qnb {F:Nat}{x1:Int}{x2:Int}{x3:Int}{x4:Int}{x5:Int}{x6:qAE}{a7:qAF}{c8:Nat}{r:Int}(hm:qfb F x1 x2 x3 x4 x5 x6=some r) :
    Pure Tryz.prog 64 [.agg #[qAG x1,qAG x2,qAG x3,qAG x4,qAG x5,.slice a7 x6.length c8]] [Sl (eI .u8) 1 (.slice a7 x6.length c8) x6] Unit (fun _=>qAG r) (fun _=>[]) (fun _=>[]):=by
 refine qk Tryz.func64 rfl Tryz.ntmps64 rfl hm (fun w=>?_)
 refine au [133] ?_
 intro g9
 refine au [58,3,116,23,1] ?_
 refine qC 4 (decide (x1<0)) [(1,.pointer (some ⟨g9,0,none⟩)),(11,.bool ((decide (x1<0)) || (decide (100<x1))))] (fun h12=>?_) (fun h12=>?_) ?_
 refine qb (os:=_) rfl (qp (k:=7) rfl h12 ?_)
 refine au [71,174] ?_
 refine qd (d:=11) (v:=.bool ((decide (x1<0)) || (decide (100<x1)))) rfl (by rw[h12];simp only[Bool.true_or]) ?_
 exact az [67]
 refine qb (os:=_) rfl (qo (k:=7) rfl h12 ?_)
 refine au [62,80] ?_
 refine qd (d:=11) (v:=.bool ((decide (x1<0)) || (decide (100<x1)))) rfl (by rw[h12];simp only[Bool.false_or]) ?_
 exact az [67]
 refine qb (os:=_) rfl ?_
 refine av [63] ?_ ?_
 intro _
 exact az [59,96]
 intro _
 refine au [90,59,13,25,4,31,2] ?_
 intro x15 e15 _
 refine av [58,60,85] ?_ ?_
 intro _
 exact az [60,96]
 intro _
 refine au [64,59,13,25,4,34,5] ?_
 intro x16 e16 _
 exact az [95]
set_option maxHeartbeats 4000000 in
theorem qnj {F:Nat}{x1:Int}{x2:qAE}{a3:qAF}{c4:Nat}{x5:Int}{r:(Int×Int×Bool)}(hm:qdW F x1 x2 x5=some r) :
    Pure Tryz.prog 119 [.agg #[qAG x1,.slice a3 x2.length c4],qAG x5] [Sl (eI .u8) 1 (.slice a3 x2.length c4) x2] Unit (fun _=>.tuple #[.int .u64 r.1,qAG r.2.1,.bool r.2.2]) (fun _=>[]) (fun _=>[]):=by
 refine qk Tryz.func119 rfl Tryz.ntmps119 rfl hm (fun w=>?_)
 refine au [155] ?_
 intro g6
 refine au [5,79] ?_
 refine qc (fun ((_,_):(Unit×Unit))=>([],[],[],[],qg1 F)) ?_ ?_
 refine au [60,58,14] ?_
 refine qi (fun ((x33,_):(Int×Unit))=>([(1,qAG x5),(2,.pointer (some ⟨g6,0,none⟩)),(7,qAG x33)],[⟨g6,65,[qAG x1,.slice a3 x2.length c4]⟩],[],[Sl (eI .u8) 1 (.slice a3 x2.length c4) x2])) (fun k (s:(Int×Unit))=>jk F x1 x2 x5 k s.1) (x5,()) F ?_
 intro k40
 rintro ⟨x33,_⟩
 try dsimp only
 refine qm (m':=qdh F x1 x2 x5 (jk F x1 x2 x5 k40) x33) rfl ?_
 refine av [75,62,83] ?_ ?_
 intro _
 refine au [91,124,1,29,5] ?_
 intro x44 e44 _
 refine av [82] ?_ ?_
 intro _
 exact az [69,24,13,24,11,1,86,5,61,78,9,160]
 intro _
 refine au [157,2,89,0] ?_
 exact qh (iadd .i64 x33 1,())
 intro _
 exact az [149]
 rintro ⟨_,_⟩
 try dsimp only
 exact az [94,5,95]
theorem qhU (F:Nat)(x1:Int)(x2:qAE)(a3:qAF)(c4:Nat)(x5:Int)(r:(Int×Int×Int))(hm:qcF F x1 x2 x5=some r) :
    Pure Tryz.prog 105 [.agg #[qAG x1,.slice a3 x2.length c4],qAG x5] [Sl (eI .u8) 1 (.slice a3 x2.length c4) x2] Unit (fun _=>.tuple #[.int .u64 r.1,qAG r.2.1,qAG r.2.2]) (fun _=>[]) (fun _=>[]):=by
 refine qk Tryz.func105 rfl Tryz.ntmps105 rfl hm (fun w=>?_)
 refine au [155] ?_
 intro g6
 refine au [5,79,124,1,34,6] ?_
 intro x7 e7 _
 refine av [148,5,114,101] ?_ ?_
 intro _
 exact az [94,5,96]
 intro _
 exact az [64,69,5,5,95]
set_option maxHeartbeats 4000000 in
theorem qor {F:Nat}{x1:Int}{x2:qAE}{a3:qAF}{c4:Nat}{x5:Int}{x6:Int}{r:(Int×Bool)}(hm:qau F x1 x2 x5 x6=some r) :
    Pure Tryz.prog 120 [.agg #[qAG x1,.slice a3 x2.length c4],qAG x5,qAG x6] [Sl (eI .u8) 1 (.slice a3 x2.length c4) x2] Unit (fun _=>.tuple #[.int .u64 r.1,.bool r.2]) (fun _=>[]) (fun _=>[]):=by
 refine qk Tryz.func120 rfl Tryz.ntmps120 rfl hm (fun w=>?_)
 refine au [120] ?_
 intro g7
 refine av [79,3,116,103,1,83] ?_ ?_
 intro _
 exact az [94,96]
 intro _
 refine au [64] ?_
 refine qc (fun ((x24,_):(Int×Unit))=>([(6,.int .u64 x24)],[],[],[],qfs F x24)) ?_ ?_
 refine au [69,162] ?_
 refine qi (fun (((x29,x30),_):((Int×Int)×Unit))=>([(1,qAG x5),(3,.pointer (some ⟨g7,0,none⟩)),(6,.int .u64 x29),(15,qAG x6),(16,qAG x30)],[⟨g7,65,[qAG x1,.slice a3 x2.length c4]⟩],[],[Sl (eI .u8) 1 (.slice a3 x2.length c4) x2])) (fun k (s:((Int×Int)×Unit))=>qae F x1 x2 x5 x6 k s.1) ((0,0),()) F ?_
 intro k35
 rintro ⟨⟨x29,x30⟩,_⟩
 try dsimp only
 refine qm (m':=qdJ F x1 x2 x5 x6 (qae F x1 x2 x5 x6 k35) x29 x30) rfl ?_
 refine av [140] ?_ ?_
 intro _
 refine au [91,60,58,88,32,9,25,4,1,1,16,29,5] ?_
 intro x38 e38 _
 refine au [30,6,173,4,16,1,0] ?_
 exact qh ((ior .u64 (ishl .u64 x29 1) x38,iadd .i64 x30 1),())
 intro _
 refine au [73] ?_
 exact qa (x29,())
 rintro ⟨x24,_⟩
 try dsimp only
 exact az [60,5,95]
set_option maxHeartbeats 4000000 in
theorem qbO {F:Nat}{x1:Int}{x2:qAE}{a3:qAF}{c4:Nat}{x5:Int}{r:(Int×Int×Int)}(hm:ka F x1 x2 x5=some r) :
    Pure Tryz.prog 106 [.func (.func 105) #[] #[],.agg #[qAG x1,.slice a3 x2.length c4],qAG x5] [Sl (eI .u8) 1 (.slice a3 x2.length c4) x2] Unit (fun _=>.tuple #[.int .u64 r.1,qAG r.2.1,qAG r.2.2]) (fun _=>[]) (fun _=>[]):=by
 refine qk Tryz.func106 rfl Tryz.ntmps106 rfl hm (fun w=>?_)
 refine au [120] ?_
 intro g6
 refine au [5,79,60,25,4,1] ?_
 refine qsQ ent105 rfl rfl rfl rfl (fun x7 e7=>qhU F x1 x2 a3 c4 x5 x7 e7) (.consF 0 rfl .nil) (fun x7 e7 _=>?_)
 refine av [148,5,114,85] ?_ ?_
 intro _
 exact az [60,5,5,96]
 intro _
 refine av [64,75,26,3,63] ?_ ?_
 intro _
 exact az [94,5,96]
 intro _
 refine au [64,124,1,135,31,6] ?_
 intro x10 e10 _
 refine av [92,114,101] ?_ ?_
 intro _
 exact az [94,5,96]
 intro _
 refine au [90,69,26,6] ?_
 intro h15
 refine qcB rfl rfl rfl rfl h15 ?_
 refine au [24,13,86,26,1] ?_
 intro x16 e16
 refine qd (d:=12) (v:=.int .u64 x16) rfl (by rw[e16] <;> rfl) ?_
 refine av [57,60,77] ?_ ?_
 intro _
 exact az [94,5,96]
 intro _
 exact az [64,69,135,86,5,95]
theorem qiv {F:Nat}{x1:Int}{x2:qAE}{a3:qAF}{c4:Nat}{x5:Int}{r:(Int×Int×Int)}(hm:jA F x1 x2 x5=some r) :
    Pure Tryz.prog 95 [.agg #[qAG x1,.slice a3 x2.length c4],qAG x5] [Sl (eI .u8) 1 (.slice a3 x2.length c4) x2] Unit (fun _=>.tuple #[.int .u64 r.1,qAG r.2.1,qAG r.2.2]) (fun _=>[]) (fun _=>[]):=by
 refine qk Tryz.func95 rfl Tryz.ntmps95 rfl hm (fun w=>?_)
 refine au [155] ?_
 intro g6
 refine au [5,79,124,1] ?_
 refine qg qbO ?_
 intro x7 e7 _
 exact az [70,15,5,5,95]
set_option maxHeartbeats 4000000 in
theorem qp5 {F:Nat}{x1:Int}{x2:Int}{x3:Int}{x4:Int}{x5:Int}{x6:qAE}{a7:qAF}{c8:Nat}{x9:Int}{x10:Int}{r:(Int×Int×Bool)}(hm:qgH F x1 x2 x3 x4 x5 x6 x9 x10=some r) :
    Pure Tryz.prog 82 [.agg #[qAG x1,qAG x2,qAG x3,qAG x4,qAG x5,.slice a7 x6.length c8],qAG x9,qAG x10] [Sl (eI .u8) 1 (.slice a7 x6.length c8) x6] Unit (fun _=>.tuple #[qAG r.1,qAG r.2.1,.bool r.2.2]) (fun _=>[]) (fun _=>[]):=by
 refine qk Tryz.func82 rfl Tryz.ntmps82 rfl hm (fun w=>?_)
 refine au [120] ?_
 intro g11
 refine av [5,79,3,59,13,62,82] ?_ ?_
 intro _
 exact az [60,5,5,96]
 intro _
 refine au [64,59,13,25,4,1,34,7] ?_
 intro x13 e13 _
 refine au [148,5,114,25,1,1] ?_
 refine qU 9 (fun ((x18,_):(Bool×Unit))=>([(7,qAG x13.2.1),(9,.int .u64 x13.1),(35,.bool x18)],[],[],[],qeF F x13 x18)) ?_ ?_
 refine qb (os:=_) rfl ?_
 refine av [25,10] ?_ ?_
 intro h17
 refine qp (k:=26) rfl h17 ?_
 refine au [76,76,97] ?_
 exact qa (true,())
 intro h17
 refine qo (k:=26) rfl h17 ?_
 refine au [1,13,62,1,28,14,24,11,80,0] ?_
 exact qa ((decide ((iconv .u64 (imin x2 x10))<x13.1)),())
 rintro ⟨x18,_⟩
 try dsimp only
 refine qb (os:=_) rfl ?_
 refine av [63] ?_ ?_
 intro _
 exact az [94,5,96]
 intro _
 exact az [64,60,24,11,1,5,5,95]
theorem qar (F:Nat)(x1:Bool)(r:(Unit ⊕ Unit))(hm:ym F x1=some r) :
    PureL Tryz.prog 109 [.bool x1] [] [] [] lostCh Unit (fun (_:Unit) (_:Unit)=>.tuple #[]) (fun (_:Unit) (_:Unit)=>[]) (fun (_:Unit) (_:Unit)=>[]) (fun (_:Unit)=>[]) r:=by
 refine qhi Tryz.func109 rfl Tryz.ntmps109 rfl hm (fun w=>?_)
 refine av [25,5,60,101] ?_ ?_
 intro _
 refine au [4] ?_
 exact qq (cells:=[]) rfl inferInstance rfl (by kernel_rfl) rfl (qsW rfl rfl (qvE _) rfl (qsY rfl rfl (qmL .nil)))
 intro _
 refine au [10] ?_
 exact qel () (.inr rfl) (res0 rfl) rfl .nil .nil
theorem yh (F:Nat)(g1:Nat)(x2:Int)(x3:qAE)(a4:qAF)(c5:Nat)(x6:Int)(x7:Int)(r:((Int×Int×Int) ⊕ (Int×Int)))(hm:zJ F x2 x3 x6 x7=some r) :
    PureL Tryz.prog 121 [.pointer (some ⟨g1,0,none⟩),qAG x7] [⟨g1,166,[qAG x2,.slice a4 x3.length c5,qAG x6]⟩] [] [Sl (eI .u8) 1 (.slice a4 x3.length c5) x3] lostCh Unit (fun (r:(Int×Int×Int)) (_:Unit)=>qAG r.1) (fun (r:(Int×Int×Int)) (_:Unit)=>[⟨g1,166,[qAG r.2.1,.slice a4 x3.length c5,qAG r.2.2]⟩]) (fun (_:(Int×Int×Int)) (_:Unit)=>[]) (fun (z:(Int×Int))=>[⟨g1,166,[qAG z.1,.slice a4 x3.length c5,qAG z.2]⟩]) r:=by
 refine qhi Tryz.func121 rfl Tryz.ntmps121 rfl hm (fun w=>?_)
 refine au [102,3] ?_
 refine qu mixed [] [⟨g1,166,[qAG x2,.slice a4 x3.length c5,qAG x6]⟩] [Sl (eI .u8) 1 (.slice a4 x3.length c5) x3] (.cons 0 rfl .nil) (qx 0 rfl qr) 16 rfl ?_
 refine au [81,24,2,2] ?_
 refine qK 3 (.agg #[qAG x2,.slice a4 x3.length c5]) rfl rfl rfl (qH (i:=0) rfl tf65 rfl rfl (by simp) rfl) ?_
 refine au [118,24,2,6,25,8,7,21,8,34,7] ?_
 intro x9 e9 _
 refine au [0,26,7,6,9,154,123,6,14,6,15,24,3] ?_
 refine qy ?_ (by intro c h;cases h)
 refine au [2,60,144] ?_
 refine qC 5 ((x9.2.2:Int) == 0) [(0,.pointer (some ⟨g1,0,none⟩)),(5,.int .u64 x9.1),(6,qAG x9.2.1),(28,.bool (((x9.2.2:Int) == 0) && (decide (x9.1≤(iconv .u64 x7)))))] (fun h10=>?_) (fun h10=>?_) ?_
 refine qb (os:=_) rfl (qp (k:=23) rfl h10 ?_)
 refine au [1,135,27,6,24,7] ?_
 refine qd (d:=28) (v:=.bool (((x9.2.2:Int) == 0) && (decide (x9.1≤(iconv .u64 x7))))) rfl (by rw[h10];simp only[qyt]) ?_
 exact az [67]
 refine qb (os:=_) rfl (qo (k:=23) rfl h10 ?_)
 refine au [76,24,8] ?_
 refine qd (d:=28) (v:=.bool (((x9.2.2:Int) == 0) && (decide (x9.1≤(iconv .u64 x7))))) rfl (by rw[h10];simp only[qyj]) ?_
 exact az [67]
 refine qb (os:=_) rfl (kS ent109 rfl rfl rfl (fun x11 e11=>qar F (((x9.2.2:Int) == 0) && (decide (x9.1≤(iconv .u64 x7)))) x11 e11) .nil .nil .nil (fun x12 _=>?_) (fun x11 e11=>?_))
 exact az [107]
 intro _
 refine au [57,69,98,84,60,24,11,61] ?_
 exact qel () (.inl rfl) (res1 rfl rfl) rfl (.cons 0 rfl .nil) .nil
set_option maxHeartbeats 4000000 in
theorem qlC {F:Nat}{x1:qAE}{a2:qAF}{c3:Nat}{x4:Int}{r:Int}(hm:qeH F x1 x4=some r) :
    Pure Tryz.prog 138 [.slice a2 x1.length c3,qAG x4] [Sl (eI .i64) 1 (.slice a2 x1.length c3) x1] Unit (fun _=>qAG r) (fun _=>[]) (fun _=>[]):=by
 refine qk Tryz.func138 rfl Tryz.ntmps138 rfl hm (fun w=>?_)
 refine av [102,75,18,1,16,77] ?_ ?_
 intro _
 exact az [59,96]
 intro _
 refine au [64,68] ?_
 refine qc (fun ((x99,_):(Int×Unit))=>([(1,qAG x4),(5,qAG x99)],[],[],[],qdU F x4 x99)) ?_ ?_
 refine au [169,1,162] ?_
 refine qi (fun (((x0,x2),_):((Int×Int)×Unit))=>([(1,qAG x4),(5,qAG x0),(13,.slice a2 x1.length c3),(14,qAG (x1.length:Int)),(15,qAG x2)],[],[],[Sl (eI .i64) 1 (.slice a2 x1.length c3) x1])) (fun k (s:((Int×Int)×Unit))=>k9 F x1 x4 k s.1) ((0,0),()) F ?_
 intro k0
 rintro ⟨⟨x0,x2⟩,_⟩
 try dsimp only
 refine qm (m':=qbB F x1 x4 (k9 F x1 x4 k0) x0 x2) rfl ?_
 refine av [140] ?_ ?_
 intro _
 refine au [91,60,26,2] ?_
 intro x3 e0 b0 o0
 refine au [24,14,114,23,1] ?_
 refine qU 7 (fun ((x5,_):(Bool×Unit))=>([(1,qAG x4),(5,qAG x0),(7,qAG x3),(13,.slice a2 x1.length c3),(14,qAG (x1.length:Int)),(15,qAG x2),(29,.bool x5)],[],[],[Sl (eI .i64) 1 (.slice a2 x1.length c3) x1],qbC F (k9 F x1 x4 k0) x4 x0 x2 x3 x5)) ?_ ?_
 refine qb (os:=_) rfl ?_
 refine av [25,10] ?_ ?_
 intro h0
 refine qp (k:=22) rfl h0 ?_
 refine au [76,71,97] ?_
 exact qa (true,())
 intro h0
 refine qo (k:=22) rfl h0 ?_
 refine au [1,23,1] ?_
 refine qC 3 (decide (x3<1)) [(1,qAG x4),(5,qAG x0),(13,.slice a2 x1.length c3),(14,qAG (x1.length:Int)),(15,qAG x2),(7,qAG x3),(22,.bool false),(23,qAG x3),(24,.bool (decide (x3<1))),(25,.bool (decide (x3<1))),(28,.bool ((decide (x3<1)) && (decide (0<x2))))] (fun h1=>?_) (fun h1=>?_) ?_
 refine qb (os:=_) rfl (qp (k:=25) rfl h1 ?_)
 refine au [1,24,4,24,7] ?_
 refine qd (d:=28) (v:=.bool ((decide (x3<1)) && (decide (0<x2)))) rfl (by rw[h1];simp only[qyt]) (qd (d:=25) (v:=.bool (decide (x3<1))) rfl (by rw[h1] <;> rfl) ?_)
 exact az [67]
 refine qb (os:=_) rfl (qo (k:=25) rfl h1 ?_)
 refine au [71,24,8] ?_
 refine qd (d:=28) (v:=.bool ((decide (x3<1)) && (decide (0<x2)))) rfl (by rw[h1];simp only[qyj]) (qd (d:=25) (v:=.bool (decide (x3<1))) rfl (by rw[h1] <;> rfl) ?_)
 exact az [67]
 refine qb (os:=_) rfl ?_
 refine au [117] ?_
 exact qa (((decide (x3<1)) && (decide (0<x2))),())
 rintro ⟨x5,_⟩
 try dsimp only
 refine qb (os:=_) rfl ?_
 refine av [63] ?_ ?_
 intro _
 exact az [59,158,160]
 intro _
 refine au [64,99,1,16,28,14,16,1,16,28,14,5,26,1] ?_
 intro x6 e1
 refine qd (d:=5) (v:=qAG x6) rfl (by rw[e1] <;> rfl) ?_
 refine au [87,2,4,16,1,0] ?_
 exact qh ((x6,iadd .i64 x2 1),())
 intro _
 refine au [73] ?_
 exact qa (x0,())
 rintro ⟨x99,_⟩
 try dsimp only
 refine av [3,69,77] ?_ ?_
 intro _
 exact az [59,96]
 intro _
 exact az [64,59,95]
set_option maxHeartbeats 4000000 in
theorem qka {F:Nat}{x1:qAE}{a2:qAF}{c3:Nat}{x4:qAE}{a5:qAF}{c6:Nat}{r:qAE}(hm:qfA F x1 x4=some r) :
    Pure Tryz.prog 139 [.slice a2 x1.length c3,.slice a5 x4.length c6] [Sl (eI .i64) 1 (.slice a2 x1.length c3) x1,Sl (eI .i64) 1 (.slice a5 x4.length c6) x4] (qAF×Nat) (fun g=>.slice g.1 r.length g.2) (fun g=>[Ro (eI .i64) 3 1 (.slice g.1 r.length g.2) r]) (fun _=>[]):=by
 refine qk Tryz.func139 rfl Tryz.ntmps139 rfl hm (fun w=>?_)
 refine au [102,68,68] ?_
 refine qc (fun (((x0,x2,x3),(a0,c0,a1,c1)):((qAE×qAE×Bool)×(qAF×Nat×qAF×Nat)))=>([(0,.slice a0 x0.length c0),(5,.slice a1 x2.length c1),(6,.bool x3)],[],[Ro (eI .i64) 3 1 (.slice a1 x2.length c1) x2],[Sl (eI .i64) 1 (.slice a0 x0.length c0) x0],qdV F x0 x2 x3)) ?_ ?_
 refine au [169,1,57,108] ?_
 refine qi (fun (((x5,x6,x7,x8),(a3,c2,a4,c4)):((qAE×qAE×Bool×Int)×(qAF×Nat×qAF×Nat)))=>([(0,.slice a3 x5.length c2),(5,.slice a4 x6.length c4),(6,.bool x7),(9,.slice a5 x4.length c6),(10,qAG (x4.length:Int)),(11,qAG x8)],[],[Ro (eI .i64) 3 1 (.slice a4 x6.length c4) x6],[Sl (eI .i64) 1 (.slice a3 x5.length c2) x5,Sl (eI .i64) 1 (.slice a5 x4.length c6) x4])) (fun k (s:((qAE×qAE×Bool×Int)×(qAF×Nat×qAF×Nat)))=>kP F x4 k s.1) ((x1,([]:qAE),true,0),(a2,c3,none,0)) F ?_
 intro k0
 rintro ⟨⟨x5,x6,x7,x8⟩,⟨a3,c2,a4,c4⟩⟩
 try dsimp only
 refine qm (m':=qaK F x4 (kP F x4 k0) x5 x6 x7 x8) rfl ?_
 refine av [140] ?_ ?_
 intro _
 refine au [91,59,27,8] ?_
 intro x9 e0 b0 o0
 refine au [143] ?_
 refine qc (fun ((x10,(a6,c5)):(qAE×(qAF×Nat)))=>([(0,.slice a3 x5.length c2),(5,.slice a6 x10.length c5),(6,.bool x7),(8,qAG x9),(9,.slice a5 x4.length c6),(10,qAG (x4.length:Int)),(11,qAG x8)],[],[Ro (eI .i64) 3 1 (.slice a6 x10.length c5) x10],[Sl (eI .i64) 1 (.slice a3 x5.length c2) x5,Sl (eI .i64) 1 (.slice a5 x4.length c6) x4],qaL F (kP F x4 k0) x5 x7 x8 x9 x10)) ?_ ?_
 refine av [60,63] ?_ ?_
 intro _
 refine au [99,1] ?_
 refine qj2 (j:=1) (ql .i64) rfl UnF.u inferInstance rfl rfl rfl rfl rfl ?_
 intro x11 e1 a7 c7
 refine au [28,10] ?_
 intro x12 e2 a8 c8
 refine au [5,0] ?_
 exact qa (x12,(a8,c8))
 intro _
 refine au [10] ?_
 exact qa (x6,(a4,c4))
 rintro ⟨x10,⟨a6,c5⟩⟩
 try dsimp only
 refine au [99,31,7] ?_
 intro x13 e3 a9 c9
 refine au [1,25,3,5,173,4,16,1,0] ?_
 exact qh ((x13,x10,(!x7),iadd .i64 x8 1),(a9,c9,a6,c5))
 intro _
 refine au [73] ?_
 exact qa ((x5,x6,x7),(a3,c2,a4,c4))
 rintro ⟨⟨x0,x2,x3⟩,⟨a0,c0,a1,c1⟩⟩
 try dsimp only
 refine qc (fun ((x14,(a10,c10)):(qAE×(qAF×Nat)))=>([(5,.slice a10 x14.length c10)],[],[Ro (eI .i64) 3 1 (.slice a10 x14.length c10) x14],[],qbD F x14)) ?_ ?_
 refine av [60,63] ?_ ?_
 intro _
 refine au [99,28,10] ?_
 intro x15 e4 a11 c11
 refine au [5,0] ?_
 exact qa (x15,(a11,c11))
 intro _
 refine au [10] ?_
 exact qa (x2,(a1,c1))
 rintro ⟨x14,⟨a10,c10⟩⟩
 try dsimp only
 refine au [60,61] ?_
 exact qj (a10,c10)
set_option maxHeartbeats 4000000 in
theorem qne {F:Nat}{x1:qAE}{a2:qAF}{c3:Nat}{x4:qAE}{a5:qAF}{c6:Nat}{r:(qAE×Int)}(hm:qfc F x1 x4=some r) :
    Pure Tryz.prog 122 [.slice a2 x1.length c3,.slice a5 x4.length c6] [Sl (eI .i64) 1 (.slice a2 x1.length c3) x1,Sl (eI .i64) 1 (.slice a5 x4.length c6) x4] (qAF×Nat) (fun g=>.tuple #[.slice g.1 r.1.length g.2,qAG r.2]) (fun g=>[Ro (eI .i64) 3 1 (.slice g.1 r.1.length g.2) r.1]) (fun _=>[]):=by
 refine qk Tryz.func122 rfl Tryz.ntmps122 rfl hm (fun w=>?_)
 refine au [25,0,59,79,60,29,9] ?_
 intro x7 e7 _
 refine au [58] ?_
 refine qc (fun ((x10,_):(Int×Unit))=>([(0,.slice a2 x1.length c3),(1,.slice a5 x4.length c6),(6,qAG x10)],[],[],[Sl (eI .i64) 1 (.slice a2 x1.length c3) x1,Sl (eI .i64) 1 (.slice a5 x4.length c6) x4],qa1 F x1 x4 x10)) ?_ ?_
 refine av [60,82] ?_ ?_
 intro _
 refine au [99,18] ?_
 refine qg qlC ?_
 intro x16 e16 _
 refine au [5,0] ?_
 exact qa (x16,())
 intro _
 refine au [10] ?_
 exact qa (x7,())
 rintro ⟨x10,_⟩
 try dsimp only
 refine av [75,85] ?_ ?_
 intro _
 refine au [60,5,109] ?_
 exact qj (none,0)
 intro _
 refine au [64,69] ?_
 refine qg qka ?_
 rintro x12 e12 ⟨a13,c14⟩
 refine au [5,61] ?_
 exact qj (a13,c14)
set_option maxHeartbeats 4000000 in
theorem qg6 (F:Nat)(g1:Nat)(x2:Int)(x3:qAE)(a4:qAF)(c5:Nat)(x6:Int)(x7:Int)(r:((qAE×Int×Int) ⊕ (Int×Int)))(hm:jD F x2 x3 x6 x7=some r) :
    PureL Tryz.prog 123 [.pointer (some ⟨g1,0,none⟩),qAG x7] [⟨g1,166,[qAG x2,.slice a4 x3.length c5,qAG x6]⟩] [] [Sl (eI .u8) 1 (.slice a4 x3.length c5) x3] lostCh (qAF×Nat) (fun (r:(qAE×Int×Int)) (g:(qAF×Nat))=>.slice g.1 r.1.length g.2) (fun (r:(qAE×Int×Int)) (_:(qAF×Nat))=>[⟨g1,166,[qAG r.2.1,.slice a4 x3.length c5,qAG r.2.2]⟩]) (fun (r:(qAE×Int×Int)) (g:(qAF×Nat))=>[Ro (eI .i64) 3 1 (.slice g.1 r.1.length g.2) r.1]) (fun (z:(Int×Int))=>[⟨g1,166,[qAG z.1,.slice a4 x3.length c5,qAG z.2]⟩]) r:=by
 refine qhi Tryz.func123 rfl Tryz.ntmps123 rfl hm (fun w=>?_)
 refine au [102,69,16] ?_
 refine kS ent121 rfl rfl rfl (fun x8 e8=>yh F g1 x2 x3 a4 c5 x6 (iadd .i64 x7 1) x8 e8) (.cons 0 rfl .nil) .nil (.consF 0 rfl .nil) (fun x9 _=>?_) (fun x8 e8=>?_)
 exact az [107]
 intro _
 refine au [34,8] ?_
 intro x10 e10 a11 c12
 refine au [58] ?_
 refine qc (fun (((x72,x73,x74),_):((qAE×Int×Int)×Unit))=>([(5,.slice a11 x72.length c12)],[⟨g1,166,[qAG x73,.slice a4 x3.length c5,qAG x74]⟩],[Ro (eI .i64) 3 1 (.slice a11 x72.length c12) x72],[Sl (eI .u8) 1 (.slice a4 x3.length c5) x3],qak F x72 x73 x74)) ?_ ?_
 refine au [169,1,162] ?_
 refine qi (fun (((x93,x94,x95,x96),_):((qAE×Int×Int×Int)×Unit))=>([(0,.pointer (some ⟨g1,0,none⟩)),(1,qAG x7),(5,.slice a11 x93.length c12),(13,qAG (x10.length:Int)),(14,qAG x94)],[⟨g1,166,[qAG x95,.slice a4 x3.length c5,qAG x96]⟩],[Ro (eI .i64) 3 1 (.slice a11 x93.length c12) x93],[Sl (eI .u8) 1 (.slice a4 x3.length c5) x3])) (fun k (s:((qAE×Int×Int×Int)×Unit))=>ke F x3 x7 x10 k s.1) ((x10,0,x8.2.1,x8.2.2),()) F ?_
 intro k0
 rintro ⟨⟨x93,x94,x95,x96⟩,_⟩
 try dsimp only
 refine qm (m':=yY F x3 x7 x10 (ke F x3 x7 x10 k0) x93 x94 x95 x96) rfl ?_
 refine av [140] ?_ ?_
 intro _
 refine au [91,60,58,99,1,1] ?_
 refine kS ent121 rfl rfl rfl (fun x0 e0=>yh F g1 x95 x3 a4 c5 x96 x7 x0 e0) (.cons 0 rfl .nil) .nil (.consF 0 rfl .nil) (fun x1 _=>?_) (fun x0 e0=>?_)
 exact az [28,2,25,11,25,11,28,2,107]
 intro _
 refine au [1,28,14,16,27,9] ?_
 intro x4 e1 g0 h0
 refine qgW (j:=0) (y':=iadd .i64 x0.1 (imin x94 1)) (ql .i64) rfl rfl rfl tf3 rfl h0 (qF e1).2.1 rfl (fun x5 e2 h1=>?_)
 have h2:x5.length=x93.length:=by rw[← e2,qzI]
 refine qd (d:=5) (v:=.slice a11 x5.length c12) rfl h1 (qd (d:=17) (v:=.slice a11 x5.length c12) rfl h1 ?_)
 refine au [87,2,4,16,1,0] ?_
 exact qh ((x5,iadd .i64 x94 1,x0.2.1,x0.2.2),())
 intro _
 refine au [73] ?_
 exact qa ((x93,x95,x96),())
 rintro ⟨⟨x72,x73,x74⟩,_⟩
 try dsimp only
 refine au [60,61] ?_
 exact qel (a11,c12) (.inl rfl) (res1 rfl rfl) rfl (.cons 0 rfl .nil) (.cons 0 rfl .nil)
set_option maxHeartbeats 4000000 in
theorem qid (F:Nat)(g1:Nat)(x2:Int)(x3:qAE)(a4:qAF)(c5:Nat)(x6:Int)(x7:Int)(x8:Int)(x9:Int)(r:((List (Int×Int)×Int×Int) ⊕ (Int×Int)))(hm:qaO F x2 x3 x6 x7 x8 x9=some r) :
    PureL Tryz.prog 124 [.pointer (some ⟨g1,0,none⟩),qAG x7,qAG x8,qAG x9] [⟨g1,166,[qAG x2,.slice a4 x3.length c5,qAG x6]⟩] [] [Sl (eI .u8) 1 (.slice a4 x3.length c5) x3] lostCh (qAF×Nat) (fun (r:(List (Int×Int)×Int×Int)) (g:(qAF×Nat))=>.slice g.1 r.1.length g.2) (fun (r:(List (Int×Int)×Int×Int)) (_:(qAF×Nat))=>[⟨g1,166,[qAG r.2.1,.slice a4 x3.length c5,qAG r.2.2]⟩]) (fun (r:(List (Int×Int)×Int×Int)) (g:(qAF×Nat))=>[Ro eS129 129 2 (.slice g.1 r.1.length g.2) r.1]) (fun (z:(Int×Int))=>[⟨g1,166,[qAG z.1,.slice a4 x3.length c5,qAG z.2]⟩]) r:=by
 refine qhi Tryz.func124 rfl Tryz.ntmps124 rfl hm (fun w=>?_)
 refine au [28,0,68,69,1,26,6] ?_
 intro h10
 refine qj3 rfl rfl rfl rfl h10 (kS ent121 rfl rfl rfl (fun x11 e11=>yh F g1 x2 x3 a4 c5 x6 (iquo .i64 x9 x8) x11 e11) (.cons 0 rfl .nil) .nil (.consF 0 rfl .nil) (fun x12 _=>?_) (fun x11 e11=>?_))
 exact az [107]
 intro _
 refine qwh kJ (by decide) rfl UnF.u inferInstance rfl rfl rfl rfl rfl rfl ?_
 intro x13 e13 a14 c15
 refine au [58,60,58] ?_
 refine qc (fun (((x0,x1,x4),_):((List (Int×Int)×Int×Int)×Unit))=>([(9,.slice a14 x0.length c15)],[⟨g1,166,[qAG x1,.slice a4 x3.length c5,qAG x4]⟩],[Ro eS129 129 2 (.slice a14 x0.length c15) x0],[Sl (eI .u8) 1 (.slice a4 x3.length c5) x3],qbh F x0 x1 x4)) ?_ ?_
 refine au [169,1,162] ?_
 refine qi (fun (((x5,x10,x14,x15,x16),_):((List (Int×Int)×Int×Int×Int×Int)×Unit))=>([(0,.pointer (some ⟨g1,0,none⟩)),(2,qAG x8),(3,qAG x9),(9,.slice a14 x5.length c15),(10,qAG x10),(21,qAG (x13.length:Int)),(22,qAG x14)],[⟨g1,166,[qAG x15,.slice a4 x3.length c5,qAG x16]⟩],[Ro eS129 129 2 (.slice a14 x5.length c15) x5],[Sl (eI .u8) 1 (.slice a4 x3.length c5) x3])) (fun k (s:((List (Int×Int)×Int×Int×Int×Int)×Unit))=>zx F x3 x8 x9 x13 k s.1) ((x13,x7,0,x11.2.1,x11.2.2),()) F ?_
 intro k0
 rintro ⟨⟨x5,x10,x14,x15,x16⟩,_⟩
 try dsimp only
 refine qm (m':=vm F x3 x8 x9 x13 (zx F x3 x8 x9 x13 k0) x5 x10 x14 x15 x16) rfl ?_
 refine av [140] ?_ ?_
 intro _
 refine au [91,60,58,60] ?_
 refine kS ent121 rfl rfl rfl (fun x17 e0=>yh F g1 x15 x3 a4 c5 x16 2097152 x17 e0) (.cons 0 rfl .nil) .nil (.consF 0 rfl .nil) (fun x18 _=>?_) (fun x17 e0=>?_)
 exact az [25,11,28,2,25,11,25,11,28,2,107]
 intro _
 refine au [58] ?_
 refine qc (fun ((x19,_):(Int×Unit))=>([(0,.pointer (some ⟨g1,0,none⟩)),(2,qAG x8),(3,qAG x9),(9,.slice a14 x5.length c15),(10,qAG x19),(11,qAG x14),(21,qAG (x13.length:Int)),(22,qAG x14)],[⟨g1,166,[qAG x17.2.1,.slice a4 x3.length c5,qAG x17.2.2]⟩],[Ro eS129 129 2 (.slice a14 x5.length c15) x5],[Sl (eI .u8) 1 (.slice a4 x3.length c5) x3],yg F (zx F x3 x8 x9 x13 k0) x3 x8 x9 x5 x14 x17 x19)) ?_ ?_
 refine av [60,82] ?_ ?_
 intro _
 refine au [99,24,11,34,3] ?_
 intro x20 e1 _
 refine au [86,0] ?_
 exact qa (iadd .i64 x10 x20,())
 intro _
 refine au [99,16,86,0] ?_
 exact qa (iadd .i64 x10 (iadd .i64 x17.1 2),())
 rintro ⟨x19,_⟩
 try dsimp only
 refine au [69,1,1,1] ?_
 refine kS ent121 rfl rfl rfl (fun x21 e2=>yh F g1 x17.2.1 x3 a4 c5 x17.2.2 x9 x21 e2) (.cons 0 rfl .nil) .nil (.consF 0 rfl .nil) (fun x22 _=>?_) (fun x21 e2=>?_)
 exact az [25,11,28,2,25,11,25,11,28,2,107]
 intro _
 refine au [1,16] ?_
 refine qq (cells:=[qAG x19,qAG (iadd .i64 x21.1 x8)]) rfl st129 rfl (by kernel_rfl) rfl ?_
 refine au [27,9] ?_
 intro x23 e3 g0 h0
 refine qgW (j:=0) (y':=(x19,iadd .i64 x21.1 x8)) kJ rfl rfl rfl tf129 rfl h0 (qF e3).2.1 rfl (fun x24 e4 h1=>?_)
 have h2:x24.length=x5.length:=by rw[← e4,qzI]
 refine qd (d:=9) (v:=.slice a14 x24.length c15) rfl h1 (qd (d:=38) (v:=.slice a14 x24.length c15) rfl h1 ?_)
 refine au [57,99,1,27,9] ?_
 intro x25 e5 g2 h3
 refine au [13] ?_
 refine qk6 (j:=0) (y:=x25) (off:=1) kJ rfl rfl tf3 rfl h3 (qF e5).2.2 rfl (fun _=>rfl) rfl rfl ?_
 refine au [24,13,86,87,2,4,16,1,0] ?_
 exact qh ((x24,iadd .i64 x19 (isub .i64 x25.2 1),iadd .i64 x14 1,x21.2.1,x21.2.2),())
 intro _
 refine au [73] ?_
 exact qa ((x5,x15,x16),())
 rintro ⟨⟨x0,x1,x4⟩,_⟩
 try dsimp only
 refine au [60,61] ?_
 exact qel (a14,c15) (.inl rfl) (res1 rfl rfl) rfl (.cons 0 rfl .nil) (.cons 0 rfl .nil)
set_option maxHeartbeats 4000000 in
theorem qg2 {F:Nat}{x1:qAE}{a2:qAF}{c3:Nat}{x4:Int}{r:qAE}(hm:vT F x1 c3 x4=some r) :
    PureM Tryz.prog 144 [.slice a2 x1.length c3,qAG x4] [] [Ro (eI .i64) 3 1 (.slice a2 x1.length c3) x1] [] (qAF×Nat) (fun g=>.slice g.1 r.length g.2) (fun _=>[]) (fun g=>[Ro (eI .i64) 3 1 (.slice g.1 r.length g.2) r]):=by
 refine zZ Tryz.func144 rfl Tryz.ntmps144 rfl hm (fun w=>?_)
 refine av [102,75,83] ?_ ?_
 intro _
 exact az [34,9]
 intro _
 refine au [64] ?_
 refine qc (fun ((x15,(a13,c14)):(qAE×(qAF×Nat)))=>([(0,.slice a13 x15.length c14)],[],[Ro (eI .i64) 3 1 (.slice a13 x15.length c14) x15],[],jM F x15)) ?_ ?_
 refine au [69,34,10,1,18,24,13,24,13,5,26,1] ?_
 intro x16 e16
 refine qd (d:=1) (v:=qAG x16) rfl (by rw[e16] <;> rfl) ?_
 refine av [57,60,77] ?_ ?_
 intro _
 refine au [99,34,10,34,11] ?_
 intro x17 e17
 refine au [1] ?_
 refine quU (y:=(0:Int)) 0 (ql .i64) rfl UnF.u UnF.u inferInstance rfl rfl rfl rfl rfl rfl rfl rfl rfl ?_
 intro x18 e18 a19 c20
 refine au [1,18,34,11] ?_
 intro x21 e21
 refine au [5,0] ?_
 exact qa (x21,(a19,c20))
 intro _
 refine au [10] ?_
 exact qa (x1,(a2,c3))
 rintro ⟨x15,⟨a13,c14⟩⟩
 try dsimp only
 refine au [60,61] ?_
 exact zU (a13,c14)
set_option maxHeartbeats 4000000 in
theorem qgl {F:Nat}{x1:List (qAE)}{a2:qAF}{c3:Nat}{s3:List (qAF×Nat)}{r:qAE}(hm:zN F x1=some r) :
    Pure Tryz.prog 127 [.slice a2 x1.length c3] [SlN eN59 iN59 1 (.slice a2 x1.length c3) x1 s3] (qAF×Nat) (fun g=>.slice g.1 r.length g.2) (fun g=>[Ro (eI .i64) 3 1 (.slice g.1 r.length g.2) r]) (fun _=>[]):=by
 refine qk Tryz.func127 rfl Tryz.ntmps127 rfl hm (fun w=>?_)
 refine au [126,68] ?_
 refine qc (fun ((x43,_):(Int×Unit))=>([(0,.slice a2 x1.length c3),(3,qAG x43)],[],[],[SlN eN59 iN59 1 (.slice a2 x1.length c3) x1 s3],km F x1 x43)) ?_ ?_
 refine au [169,1,162] ?_
 refine qi (fun (((x0,x2),_):((Int×Int)×Unit))=>([(0,.slice a2 x1.length c3),(3,qAG x0),(9,.slice a2 x1.length c3),(10,qAG (x1.length:Int)),(11,qAG x2)],[],[],[SlN eN59 iN59 1 (.slice a2 x1.length c3) x1 s3])) (fun k (s:((Int×Int)×Unit))=>qT F x1 k s.1) ((0,0),()) F ?_
 intro k0
 rintro ⟨⟨x0,x2⟩,_⟩
 try dsimp only
 refine qm (m':=qN F x1 (qT F x1 k0) x0 x2) rfl ?_
 refine av [140] ?_ ?_
 intro _
 refine au [91,59,27,5] ?_
 intro x3 e0 g0 b0 o0
 refine av [143,121,16,58,60,83] ?_ ?_
 intro _
 exact az [34,9]
 intro _
 refine au [157,2,4,16,1,0] ?_
 exact qh ((iadd .i64 x0 (x3.length:Int),iadd .i64 x2 1),())
 intro _
 refine au [73] ?_
 exact qa (x0,())
 rintro ⟨x43,_⟩
 try dsimp only
 refine au [60,27,14] ?_
 refine zr qg2 ?_
 rintro x44 e44 ⟨a45,c46⟩
 refine au [58] ?_
 refine qc (fun ((x4,(a0,c0)):(qAE×(qAF×Nat)))=>([(6,.slice a0 x4.length c0)],[],[Ro (eI .i64) 3 1 (.slice a0 x4.length c0) x4],[],vN F x4)) ?_ ?_
 refine au [169,1,162] ?_
 refine qi (fun (((x5,x6),(a1,c1)):((qAE×Int)×(qAF×Nat)))=>([(6,.slice a1 x5.length c1),(25,.slice a2 x1.length c3),(26,qAG (x1.length:Int)),(27,qAG x6)],[],[Ro (eI .i64) 3 1 (.slice a1 x5.length c1) x5],[SlN eN59 iN59 1 (.slice a2 x1.length c3) x1 s3])) (fun k (s:((qAE×Int)×(qAF×Nat)))=>qS F x1 k s.1) ((x44,0),(a45,c46)) F ?_
 intro k1
 rintro ⟨⟨x5,x6⟩,⟨a1,c1⟩⟩
 try dsimp only
 refine qm (m':=qM F x1 (qS F x1 k1) x5 x6) rfl ?_
 refine av [140] ?_ ?_
 intro _
 refine au [91,59,27,5] ?_
 intro x7 e1 g1 b1 o1
 refine au [143,99] ?_
 refine qB 0 (ql .i64) rfl UnF.u inferInstance rfl rfl rfl rfl rfl (.inr ⟨1,rfl⟩) rfl rfl ?_
 intro x8 e2 a3 c2
 refine au [173,4,16,1,0] ?_
 exact qh ((x8,iadd .i64 x6 1),(a3,c2))
 intro _
 refine au [73] ?_
 exact qa (x5,(a1,c1))
 rintro ⟨x4,⟨a0,c0⟩⟩
 try dsimp only
 refine au [60,61] ?_
 exact qj (a0,c0)
theorem qg3 {F:Nat}{x1:qAE}{a2:qAF}{c3:Nat}{r:qAE}(hm:zF F x1=some r) :
    PureM Tryz.prog 128 [.slice a2 x1.length c3] [] [Ro (eI .i64) 3 1 (.slice a2 x1.length c3) x1] [] Unit (fun _=>.tuple #[]) (fun _=>[]) (fun _=>[Ro (eI .i64) 3 1 (.slice a2 r.length c3) r]):=by
  unfold zF at hm
  split at hm
  · cases hm
    exact qqE Tryz.slices_Sort_int Tryz.slices_Sort_int_none (by assumption)
  · simp at hm
theorem qlF {F:Nat}{x1:Int}{x2:Int}{x3:Int}{r:Bool}(hm:qcP F x1 x2 x3=some r) :
    Pure Tryz.prog 151 [qAG x1,qAG x2,qAG x3] [] Unit (fun _=>.bool r) (fun _=>[]) (fun _=>[]):=by
 refine qk Tryz.func151 rfl Tryz.ntmps151 rfl hm (fun w=>?_)
 refine au [25,15,68,69,26,3,1] ?_
 refine qC 4 (decide (x2≤x1)) [(14,.bool ((decide (x2≤x1)) && (decide (x1≤x3))))] (fun h4=>?_) (fun h4=>?_) ?_
 refine qb (os:=_) rfl (qp (k:=10) rfl h4 ?_)
 refine au [1,1,27,6,24,7] ?_
 refine qd (d:=14) (v:=.bool ((decide (x2≤x1)) && (decide (x1≤x3)))) rfl (by rw[h4];simp only[qyt]) ?_
 exact az [67]
 refine qb (os:=_) rfl (qo (k:=10) rfl h4 ?_)
 refine au [71,7,24,8] ?_
 refine qd (d:=14) (v:=.bool ((decide (x2≤x1)) && (decide (x1≤x3)))) rfl (by rw[h4];simp only[qyj]) ?_
 exact az [67]
 refine qb (os:=_) rfl ?_
 exact az [95]
set_option maxHeartbeats 4000000 in
theorem qlE {F:Nat}{x1:List (Int×Int)}{a2:qAF}{c3:Nat}{r:(qAE×Int)}(hm:qeJ F x1=some r) :
    Pure Tryz.prog 140 [.slice a2 x1.length c3] [Sl eS129 2 (.slice a2 x1.length c3) x1] (qAF×Nat) (fun g=>.tuple #[.slice g.1 r.1.length g.2,qAG r.2]) (fun g=>[Ro (eI .i64) 3 1 (.slice g.1 r.1.length g.2) r.1]) (fun _=>[]):=by
 refine qk Tryz.func140 rfl Tryz.ntmps140 rfl hm (fun w=>?_)
 refine av [25,5,59,114,18,77] ?_ ?_
 intro _
 refine au [94,109] ?_
 exact qj (none,0)
 intro _
 refine au [64,68] ?_
 refine qc (fun ((_,_):(Unit×Unit))=>([(0,.slice a2 x1.length c3)],[],[],[Sl eS129 2 (.slice a2 x1.length c3) x1],qbL F x1)) ?_ ?_
 refine au [169,1,162] ?_
 refine qi (fun (((x0,x2),_):((Int×Int)×Unit))=>([(0,.slice a2 x1.length c3),(4,qAG x0),(14,.slice a2 x1.length c3),(15,qAG (x1.length:Int)),(16,qAG x2)],[],[],[Sl eS129 2 (.slice a2 x1.length c3) x1])) (fun k (s:((Int×Int)×Unit))=>yb F x1 k s.1) ((-2,0),()) F ?_
 intro k0
 rintro ⟨⟨x0,x2⟩,_⟩
 try dsimp only
 refine qm (m':=qbK F x1 (yb F x1 k0) x0 x2) rfl ?_
 refine av [140] ?_ ?_
 intro _
 refine au [91,59,30,15] ?_
 intro x3 e0 b0 o0
 refine au [31,0,24,12] ?_
 intro g0
 refine au [84,3,14] ?_
 refine qc (fun ((x4,_):(Bool×Unit))=>([(0,.slice a2 x1.length c3),(4,qAG x0),(6,.pointer (some ⟨g0,0,none⟩)),(14,.slice a2 x1.length c3),(15,qAG (x1.length:Int)),(16,qAG x2),(20,.bool x4)],[⟨g0,129,[qAG x3.1,qAG x3.2]⟩],[],[Sl eS129 2 (.slice a2 x1.length c3) x1],jC F (yb F x1 k0) x0 x2 x3 x4)) ?_ ?_
 refine au [116,34,12] ?_
 intro x5 e1 _
 refine av [25,3,58,8] ?_ ?_
 intro _
 refine au [10] ?_
 exact qa ((!x5),())
 intro _
 refine au [116,34,12] ?_
 intro x6 e2 _
 refine av [25,3,58,8] ?_ ?_
 intro _
 refine au [10] ?_
 exact qa ((!x6),())
 intro _
 refine au [4,62,62,16,24,13,24,4,5,0] ?_
 exact qa ((decide (1048576<(isub .i64 (iadd .i64 x3.1 x3.2) 1))),())
 rintro ⟨x4,_⟩
 try dsimp only
 refine av [8] ?_ ?_
 intro _
 refine au [94,61,78,78,9,131] ?_
 exact qj (none,0)
 intro _
 refine av [116,1,16,23,58,8] ?_ ?_
 intro _
 refine au [94,61,78,78,9,131] ?_
 exact qj (none,0)
 intro _
 refine au [157,2,4,62,62,16,24,13,173,4,16,1,0] ?_
 exact qh ((isub .i64 (iadd .i64 x3.1 x3.2) 1,iadd .i64 x2 1),())
 intro _
 exact az [149]
 rintro ⟨_,_⟩
 try dsimp only
 refine au [68] ?_
 refine qc (fun ((x7,(a0,c0)):(qAE×(qAF×Nat)))=>([(7,.slice a0 x7.length c0)],[],[Ro (eI .i64) 3 1 (.slice a0 x7.length c0) x7],[],qfZ F x7)) ?_ ?_
 refine au [169,1,57,108] ?_
 refine qi (fun (((x8,x9),(a1,c1)):((qAE×Int)×(qAF×Nat)))=>([(7,.slice a1 x8.length c1),(49,.slice a2 x1.length c3),(50,qAG (x1.length:Int)),(51,qAG x9)],[],[Ro (eI .i64) 3 1 (.slice a1 x8.length c1) x8],[Sl eS129 2 (.slice a2 x1.length c3) x1])) (fun k (s:((qAE×Int)×(qAF×Nat)))=>zw F x1 k s.1) ((([]:qAE),0),(none,0)) F ?_
 intro k1
 rintro ⟨⟨x8,x9⟩,⟨a1,c1⟩⟩
 try dsimp only
 refine qm (m':=qbI F x1 (zw F x1 k1) x8 x9) rfl ?_
 refine av [140] ?_ ?_
 intro _
 refine au [64] ?_
 refine qc (fun ((x10,(a3,c2)):(qAE×(qAF×Nat)))=>([(7,.slice a3 x10.length c2),(49,.slice a2 x1.length c3),(50,qAG (x1.length:Int)),(51,qAG x9)],[],[Ro (eI .i64) 3 1 (.slice a3 x10.length c2) x10],[Sl eS129 2 (.slice a2 x1.length c3) x1],qbM F (zw F x1 k1) x9 x10)) ?_ ?_
 refine au [14,59,30,15] ?_
 intro x11 e3 b1 o1
 refine au [31,0,24,12] ?_
 intro g1
 refine au [84,116,1,162] ?_
 refine qi (fun (((x12,x13),(a4,c4)):((qAE×Int)×(qAF×Nat)))=>([(7,.slice a4 x12.length c4),(9,.pointer (some ⟨g1,0,none⟩)),(49,.slice a2 x1.length c3),(50,qAG (x1.length:Int)),(51,qAG x9),(56,qAG x11.2),(57,qAG x13)],[⟨g1,129,[qAG x11.1,qAG x11.2]⟩],[Ro (eI .i64) 3 1 (.slice a4 x12.length c4) x12],[Sl eS129 2 (.slice a2 x1.length c3) x1])) (fun k (s:((qAE×Int)×(qAF×Nat)))=>yX F (zw F x1 k1) x9 x11 k s.1) ((x8,0),(a1,c1)) F ?_
 intro k2
 rintro ⟨⟨x12,x13⟩,⟨a4,c4⟩⟩
 try dsimp only
 refine qm (m':=qbJ F (zw F x1 k1) x9 x11 (yX F (zw F x1 k1) x9 x11 k2) x12 x13) rfl ?_
 refine av [140] ?_ ?_
 intro _
 refine au [91,60,58,88,62,1,16] ?_
 refine qt (vs:=[qAG (iadd .i64 x11.1 x13)]) (ys:=([iadd .i64 x11.1 x13]:qAE)) (ql .i64) (by decide) rfl Tryz.underlying59 tf3 rfl rfl rfl rfl rfl (by decide) (fun a5 c5=>qB 1 (ql .i64) rfl Tryz.underlying59 tf3 rfl rfl rfl rfl rfl (.inl ⟨0,_,rfl⟩) rfl rfl (fun x14 e4 a6 c6=>?_))
 refine au [173,4,16,1,0] ?_
 exact qh ((x14,iadd .i64 x13 1),(a6,c6))
 intro _
 refine au [73,22] ?_
 exact qa (x12,(a4,c4))
 rintro ⟨x10,⟨a3,c2⟩⟩
 try dsimp only
 refine au [4,16,1,0] ?_
 exact qh ((x10,iadd .i64 x9 1),(a3,c2))
 intro _
 refine au [73] ?_
 exact qa (x8,(a1,c1))
 rintro ⟨x7,⟨a0,c0⟩⟩
 try dsimp only
 refine au [60,5,61] ?_
 exact qj (a0,c0)
theorem qf7 {F:Nat}{x1:qAE}{a2:qAF}{c3:Nat}{r:qAE}(hm:kI F x1=some r) :
    PureM Tryz.prog 141 [.slice a2 x1.length c3] [] [Ro (eI .i64) 3 1 (.slice a2 x1.length c3) x1] [] (qAF×Nat) (fun g=>.slice g.1 r.length g.2) (fun _=>[]) (fun g=>[Ro (eI .i64) 3 1 (.slice g.1 r.length g.2) r]):=by
  unfold kI at hm
  split at hm
  · cases hm
    exact qlI Tryz.slices_Compact_int Tryz.slices_Compact_int_empty (by assumption)
  · simp at hm
theorem qgA {F:Nat}{x1:qAE}{a2:qAF}{c3:Nat}{r:qAE}(hm:vl F x1=some r) :
    Pure Tryz.prog 142 [.slice a2 x1.length c3] [Sl (eI .i64) 1 (.slice a2 x1.length c3) x1] (qAF×Nat) (fun g=>.slice g.1 r.length g.2) (fun g=>[Ro (eI .i64) 3 1 (.slice g.1 r.length g.2) r]) (fun _=>[]):=by
 refine qk Tryz.func142 rfl Tryz.ntmps142 rfl hm (fun w=>?_)
 refine av [126,75,32,12,57,32,13] ?_ ?_
 intro h11
 refine qpF 0 (ql .i64) (by decide) rfl h11 (fun h12=>?_)
 subst h12
 refine qm (m':=some ([]:qAE)) rfl ?_
 refine au [59,109] ?_
 exact qj (none,0)
 intro _
 refine au [64,59,31,8] ?_
 intro a6 c7
 refine au [1,28,10] ?_
 intro x8 e8 a9 c10
 refine au [61] ?_
 exact qj (a9,c10)
set_option maxHeartbeats 4000000 in
theorem qnf {F:Nat}{x1:List (Int×Int)}{a2:qAF}{c3:Nat}{x4:qAE}{a5:qAF}{c6:Nat}{r:(qAE×Int)}(hm:qfd F x1 x4=some r) :
    Pure Tryz.prog 125 [.slice a2 x1.length c3,.slice a5 x4.length c6] [Sl eS129 2 (.slice a2 x1.length c3) x1,Sl (eI .i64) 1 (.slice a5 x4.length c6) x4] (qAF×Nat) (fun g=>.tuple #[.slice g.1 r.1.length g.2,qAG r.2]) (fun g=>[Ro (eI .i64) 3 1 (.slice g.1 r.1.length g.2) r.1]) (fun _=>[]):=by
 refine qk Tryz.func125 rfl Tryz.ntmps125 rfl hm (fun w=>?_)
 refine au [25,0,59,79,60] ?_
 refine qg qlE ?_
 rintro x7 e7 ⟨a8,c9⟩
 refine au [92,79] ?_
 refine qc (fun ((x12,_):(Int×Unit))=>([(1,.slice a5 x4.length c6),(6,.slice a8 x7.1.length c9),(7,qAG x12)],[],[Ro (eI .i64) 3 1 (.slice a8 x7.1.length c9) x7.1],[Sl (eI .i64) 1 (.slice a5 x4.length c6) x4],qa2 F x4 x7 x12)) ?_ ?_
 refine av [60,82] ?_ ?_
 intro _
 refine au [88,29,9] ?_
 intro x38 e38 _
 refine au [5,0] ?_
 exact qa (x38,())
 intro _
 refine au [10] ?_
 exact qa (x7.2,())
 rintro ⟨x12,_⟩
 try dsimp only
 refine av [75,85] ?_ ?_
 intro _
 refine au [60,5,109] ?_
 exact qj (none,0)
 intro _
 refine au [64,69,29,11] ?_
 refine qt (vs:=[.slice a8 x7.1.length c9,.slice a5 x4.length c6]) (ys:=([(x7.1,(a8,c9)),(x4,(a5,c6))]:List (qAE×(qAF×Nat)))) kL (by decide) rfl Tryz.underlying22 tf59 rfl rfl rfl rfl rfl (by decide) (fun a14 c15=>qhM (inn:=iN59) ([x7.1,x4]:List (qAE)) ([(a8,c9),(a5,c6)]:List (qAF×Nat)) 0 rfl rfl (qV 0 rfl (qV 1 rfl qb1)) ?_)
 refine au [34,13] ?_
 rintro x16 e16 ⟨a17,c18⟩
 refine au [58,60,34,14] ?_
 intro x19 e19 _
 refine au [26,6] ?_
 intro h20
 replace h20:=of_decide_eq_true h20
 refine qd (d:=8) (v:=.slice a17 x19.length c18) rfl (by rw[h20] <;> rfl) (qd (d:=24) (v:=.slice a17 x19.length c18) rfl (by rw[h20] <;> rfl) (qd (d:=25) (v:=.slice a17 x19.length c18) rfl (by rw[h20] <;> rfl) ?_))
 refine au [57,3,14,60] ?_
 refine qg qgA ?_
 rintro x29 e29 ⟨a30,c31⟩
 refine zr qf7 ?_
 rintro x32 e32 ⟨a33,c34⟩
 refine av [18,1,18,23,58,8] ?_ ?_
 intro _
 refine au [94,61,131] ?_
 exact qj (none,0)
 intro _
 refine av [169,24,4,58,8] ?_ ?_
 intro _
 refine au [94,61,131] ?_
 exact qj (none,0)
 intro _
 refine au [157,2,60,5,61] ?_
 exact qj (a17,c18)
set_option maxHeartbeats 4000000 in
theorem qh4 {F:Nat}{x1:Int}{x2:qAE}{a3:qAF}{c4:Nat}{x5:Int}{x6:Int}{r:(Int×Int×Bool)}(hm:zA F x1 x2 x5 x6=some r) :
    Pure Tryz.prog 152 [.agg #[qAG x1,.slice a3 x2.length c4],qAG x5,.int .u64 x6] [Sl (eI .u8) 1 (.slice a3 x2.length c4) x2] Unit (fun _=>.tuple #[.int .u64 r.1,qAG r.2.1,.bool r.2.2]) (fun _=>[]) (fun _=>[]):=by
 refine qk Tryz.func152 rfl Tryz.ntmps152 rfl hm (fun w=>?_)
 refine au [120] ?_
 intro g7
 refine au [5,79,60,33,11] ?_
 intro x8 e8 _
 refine au [92,79] ?_
 refine qc (fun ((_,_):(Unit×Unit))=>([(1,qAG x5),(3,.pointer (some ⟨g7,0,none⟩)),(9,qAG x8.1),(10,.int .u64 x8.2)],[⟨g7,65,[qAG x1,.slice a3 x2.length c4]⟩],[],[Sl (eI .u8) 1 (.slice a3 x2.length c4) x2],zD F x1 x2 x5 x8)) ?_ ?_
 refine av [60,77] ?_ ?_
 intro _
 refine au [124,1,103,31,6] ?_
 intro x15 e15 _
 refine av [92,114,101] ?_ ?_
 intro _
 exact az [94,5,74,9,19]
 intro _
 refine av [64,69,83] ?_ ?_
 intro _
 exact az [69,1,16,24,13,5,5,96]
 intro _
 exact az [10,26,4]
 intro _
 exact az [10,26,4]
 rintro ⟨_,_⟩
 try dsimp only
 refine au [124,1,1,31,6] ?_
 intro x14 e14 _
 exact az [92,79,69,24,13,1,1,16,1,5,5,95]
theorem qj8 {F:Nat}{x1:Int}{x2:Int}{x3:Bool}{r:(Int×Int×Int)}(hm:qdN F x1 x2 x3=some r) :
    Pure Tryz.prog 153 [.int .u64 x1,qAG x2,.bool x3] [] Unit (fun _=>.tuple #[.int .u64 r.1,qAG r.2.1,qAG r.2.2]) (fun _=>[]) (fun _=>[]):=by
 refine qk Tryz.func153 rfl Tryz.ntmps153 rfl hm (fun w=>?_)
 refine av [25,15,94,79,3,14,60,25,3,58,8] ?_ ?_
 intro _
 exact az [94,5,61,160]
 intro _
 refine av [60,24,4,58,8] ?_ ?_
 intro _
 exact az [94,5,61,160]
 intro _
 exact az [157,2,69,5,5,95]
set_option maxHeartbeats 4000000 in
theorem qix {F:Nat}{x1:Int}{x2:qAE}{a3:qAF}{c4:Nat}{x5:Int}{x6:Int}{r:(Int×Int×Int)}(hm:qbw F x1 x2 x5 x6=some r) :
    Pure Tryz.prog 143 [.agg #[qAG x1,.slice a3 x2.length c4],qAG x5,qAG x6] [Sl (eI .u8) 1 (.slice a3 x2.length c4) x2] Unit (fun _=>.tuple #[.int .u64 r.1,qAG r.2.1,qAG r.2.2]) (fun _=>[]) (fun _=>[]):=by
 refine qk Tryz.func143 rfl Tryz.ntmps143 rfl hm (fun w=>?_)
 refine au [120] ?_
 intro g7
 refine au [5,79,124,1,34,6] ?_
 intro x8 e8 _
 refine av [148,5,114,101] ?_ ?_
 intro _
 exact az [94,5,96]
 intro _
 refine av [90,69,24,11,27,2,26,3,63] ?_ ?_
 intro _
 exact az [94,5,96]
 intro _
 refine au [64,60,24,11,1,27,2,26,6] ?_
 intro h11
 refine qcB rfl rfl rfl rfl h11 ?_
 refine au [5,26,1] ?_
 intro x12 e12
 refine qd (d:=12) (v:=.int .u64 x12) rfl (by rw[e12] <;> rfl) ?_
 refine au [57,3,28,5] ?_
 intro h17
 refine qu mixed [] [⟨g7,65,[qAG x1,.slice a3 x2.length c4]⟩] [Sl (eI .u8) 1 (.slice a3 x2.length c4) x2] (.cons 0 rfl .nil) (qx 0 rfl qr) 15 rfl (qK 0 (.agg #[qAG x1,.slice a3 x2.length c4]) rfl rfl rfl (qH (i:=0) rfl tf65 rfl rfl (by simp) rfl) ?_)
 refine au [6,1,6,2,6,3] ?_
 refine qn 4 (.int .u64 (ishl .u64 x12 x6)) rfl rfl rfl (qit rfl rfl h17) ?_
 refine au [6,5,6,6,21,7] ?_
 refine qg qh4 ?_
 intro x20 e20 _
 refine au [0,26,7,171,154,123,6,14,24,3] ?_
 refine qy ?_ (by intro c h;cases h)
 refine au [2,69,16,24,13,1,1] ?_
 refine qg qj8 ?_
 intro x21 e21 _
 exact az [70,15,5,5,95]
set_option maxHeartbeats 4000000 in
theorem qou {F:Nat}{x1:Int}{x2:qAE}{a3:qAF}{c4:Nat}{x5:Int}{x6:Int}{x7:Int}{x8:Int}{r:(qAE×Int×Int)}(hm:qfT F x1 x2 x5 x6 x7 x8=some r) :
    Pure Tryz.prog 126 [.agg #[qAG x1,.slice a3 x2.length c4],qAG x5,qAG x6,qAG x7,qAG x8] [Sl (eI .u8) 1 (.slice a3 x2.length c4) x2] (qAF×Nat) (fun g=>.tuple #[.slice g.1 r.1.length g.2,qAG r.2.1,qAG r.2.2]) (fun g=>[Ro (eI .i64) 3 1 (.slice g.1 r.1.length g.2) r.1]) (fun _=>[]):=by
 refine qk Tryz.func126 rfl Tryz.ntmps126 rfl hm (fun w=>?_)
 refine au [28,9,72] ?_
 intro g9
 refine au [5,79,60] ?_
 refine qq (cells:=[qAG x6,.bool false]) rfl st101 rfl (by kernel_rfl) rfl ?_
 refine au [24,9] ?_
 intro g10
 refine au [58] ?_
 refine qc (fun (((x0,x3),(a0,c0)):((Int×qAE)×(qAF×Nat)))=>([(1,qAG x0),(10,.slice a0 x3.length c0)],[],[Ro (eI .i64) 3 1 (.slice a0 x3.length c0) x3],[],qfv F x0 x3)) ?_ ?_
 refine au [69,57,108] ?_
 refine qi (fun (((x4,x9,x10,x11,x12),(a1,c1)):((Int×qAE×Int×Int×Bool)×(qAF×Nat)))=>([(1,qAG x4),(3,qAG x7),(5,.pointer (some ⟨g9,0,none⟩)),(10,.slice a1 x9.length c1),(13,.pointer (some ⟨g10,0,none⟩)),(18,qAG x8),(19,qAG x10)],[⟨g10,101,[qAG x11,.bool x12]⟩,⟨g9,65,[qAG x1,.slice a3 x2.length c4]⟩],[Ro (eI .i64) 3 1 (.slice a1 x9.length c1) x9],[Sl (eI .u8) 1 (.slice a3 x2.length c4) x2])) (fun k (s:((Int×qAE×Int×Int×Bool)×(qAF×Nat)))=>qah F x1 x2 x7 x8 k s.1) ((x5,([]:qAE),0,x6,false),(none,0)) F ?_
 intro k0
 rintro ⟨⟨x4,x9,x10,x11,x12⟩,⟨a1,c1⟩⟩
 try dsimp only
 refine qm (m':=qdM F x1 x2 x7 x8 (qah F x1 x2 x7 x8 k0) x4 x9 x10 x11 x12) rfl ?_
 refine av [140] ?_ ?_
 intro _
 refine au [91,68,3,119,1,1] ?_
 refine qg qix ?_
 intro x13 e0 _
 refine av [148,5,79,60,85] ?_ ?_
 intro _
 refine au [60,5,5,158,131] ?_
 exact qj (none,0)
 intro _
 refine au [90,69,34,4] ?_
 intro x14 e1 _
 refine av [101] ?_ ?_
 intro _
 refine au [94,5,158,131] ?_
 exact qj (none,0)
 intro _
 refine au [64,99,125] ?_
 refine qt (vs:=[qAG x14.2.1]) (ys:=([x14.2.1]:qAE)) (ql .i64) (by decide) rfl Tryz.underlying59 tf3 rfl rfl rfl rfl rfl (by decide) (fun a2 c2=>qB 1 (ql .i64) rfl Tryz.underlying59 tf3 rfl rfl rfl rfl rfl (.inl ⟨0,_,rfl⟩) rfl rfl (fun x15 e2 a4 c3=>?_))
 refine au [173,4,16,1,0] ?_
 exact qh ((x13.2.1,x15,iadd .i64 x10 1,x14.2.1,x14.2.2),(a4,c3))
 intro _
 refine au [73] ?_
 exact qa ((x4,x9),(a1,c1))
 rintro ⟨⟨x0,x3⟩,⟨a0,c0⟩⟩
 try dsimp only
 refine au [69,5,5,61] ?_
 exact qj (a0,c0)
set_option maxHeartbeats 4000000 in
theorem qib (F:Nat)(g1:Nat)(x2:Int)(x3:qAE)(a4:qAF)(c5:Nat)(x6:Int)(x7:Int)(x8:qAE)(a9:qAF)(c10:Nat)(x11:Int)(x12:Int)(x13:Int)(r:((qAE×Int×Int) ⊕ (Int×Int)))(hm:vO F x2 x3 x6 x7 x8 x11 x12 x13=some r) :
    PureL Tryz.prog 108 [.pointer (some ⟨g1,0,none⟩),qAG x7,.slice a9 x8.length c10,.agg #[qAG x11,qAG x12,qAG x13]] [⟨g1,166,[qAG x2,.slice a4 x3.length c5,qAG x6]⟩] [] [Sl (eI .u8) 1 (.slice a4 x3.length c5) x3,Sl (eI .i64) 1 (.slice a9 x8.length c10) x8] lostCh (qAF×Nat) (fun (r:(qAE×Int×Int)) (g:(qAF×Nat))=>.slice g.1 r.1.length g.2) (fun (r:(qAE×Int×Int)) (_:(qAF×Nat))=>[⟨g1,166,[qAG r.2.1,.slice a4 x3.length c5,qAG r.2.2]⟩]) (fun (r:(qAE×Int×Int)) (g:(qAF×Nat))=>[Ro (eI .i64) 3 1 (.slice g.1 r.1.length g.2) r.1]) (fun (z:(Int×Int))=>[⟨g1,166,[qAG z.1,.slice a4 x3.length c5,qAG z.2]⟩]) r:=by
 refine qhi Tryz.func108 rfl Tryz.ntmps108 rfl hm (fun w=>?_)
 refine au [28,0,72] ?_
 intro g14
 refine au [58,60] ?_
 refine kS ent121 rfl rfl rfl (fun x15 e15=>yh F g1 x2 x3 a4 c5 x6 300 x15 e15) (.cons 1 rfl .nil) .nil (.consF 0 rfl .nil) (fun x16 _=>?_) (fun x15 e15=>?_)
 exact az [107]
 intro _
 refine av [58,75,82] ?_ ?_
 intro _
 refine au [59,109] ?_
 exact qel (none,0) (.inl rfl) (res1 rfl rfl) rfl (.cons 0 rfl .nil) (.cons 0 rfl .nil)
 intro _
 refine au [64,68] ?_
 refine qc (fun (((x31,x32,x33),(a29,c30)):((qAE×Int×Int)×(qAF×Nat)))=>([(0,.pointer (some ⟨g1,0,none⟩)),(1,qAG x7),(7,.pointer (some ⟨g14,0,none⟩)),(9,qAG x15.1),(10,.slice a29 x31.length c30)],[⟨g1,166,[qAG x32,.slice a4 x3.length c5,qAG x33]⟩,⟨g14,26,[qAG x11,qAG x12,qAG x13]⟩],[Ro (eI .i64) 3 1 (.slice a29 x31.length c30) x31],[Sl (eI .u8) 1 (.slice a4 x3.length c5) x3],yp F x3 x7 x12 x13 x15 x31 x32 x33)) ?_ ?_
 refine av [59,93,77] ?_ ?_
 intro _
 refine au [68,69,1,18] ?_
 refine kS ent123 rfl rfl rfl (fun x72 e72=>qg6 F g1 x15.2.1 x3 a4 c5 x15.2.2 (x8.length:Int) x72 e72) (.cons 0 rfl .nil) .nil (.consF 0 rfl .nil) (fun x73 _=>?_) (fun x72 e72=>?_)
 exact az [25,11,107]
 rintro ⟨a74,c75⟩
 refine qg qne ?_
 rintro x76 e76 ⟨a77,c78⟩
 refine au [92,79,88,144] ?_
 refine qC 5 ((x76.2:Int) == 0) [(0,.pointer (some ⟨g1,0,none⟩)),(1,qAG x7),(7,.pointer (some ⟨g14,0,none⟩)),(9,qAG x15.1),(10,.slice a77 x76.1.length c78),(41,.bool (((x76.2:Int) == 0) && (decide ((x76.1.length:Int)≤x15.1))))] (fun h79=>?_) (fun h79=>?_) ?_
 refine qb (os:=_) rfl (qp (k:=36) rfl h79 ?_)
 refine au [1,18,1,27,6,24,7] ?_
 refine qd (d:=41) (v:=.bool (((x76.2:Int) == 0) && (decide ((x76.1.length:Int)≤x15.1)))) rfl (by rw[h79];simp only[qyt]) ?_
 exact az [67]
 refine qb (os:=_) rfl (qo (k:=36) rfl h79 ?_)
 refine au [76,24,8] ?_
 refine qd (d:=41) (v:=.bool (((x76.2:Int) == 0) && (decide ((x76.1.length:Int)≤x15.1)))) rfl (by rw[h79];simp only[qyj]) ?_
 exact az [67]
 refine qb (os:=_) rfl (kS ent109 rfl rfl rfl (fun x80 e80=>qar F (((x76.2:Int) == 0) && (decide ((x76.1.length:Int)≤x15.1))) x80 e80) .nil .nil .nil (fun x81 _=>?_) (fun x80 e80=>?_))
 exact az [107]
 intro _
 refine au [0] ?_
 exact qa ((x76.1,x72.2.1,x72.2.2),(a77,c78))
 intro _
 refine au [10,25,2] ?_
 exact qa ((([]:qAE),x15.2.1,x15.2.2),(none,0))
 rintro ⟨⟨x31,x32,x33⟩,⟨a29,c30⟩⟩
 try dsimp only
 refine av [121,24,13,58,75,82] ?_ ?_
 intro _
 refine au [60,74] ?_
 exact qel (a29,c30) (.inl rfl) (res1 rfl rfl) rfl (.cons 0 rfl .nil) (.cons 0 rfl .nil)
 intro _
 refine au [64,68] ?_
 refine qc (fun (((x42,x43,x44),(a40,c41)):((List (Int×Int)×Int×Int)×(qAF×Nat)))=>([(0,.pointer (some ⟨g1,0,none⟩)),(1,qAG x7),(7,.pointer (some ⟨g14,0,none⟩)),(10,.slice a29 x31.length c30),(12,qAG (isub .i64 x15.1 (x31.length:Int))),(13,.slice a40 x42.length c41)],[⟨g1,166,[qAG x43,.slice a4 x3.length c5,qAG x44]⟩,⟨g14,26,[qAG x11,qAG x12,qAG x13]⟩],[Ro (eI .i64) 3 1 (.slice a29 x31.length c30) x31,Ro eS129 129 2 (.slice a40 x42.length c41) x42],[Sl (eI .u8) 1 (.slice a4 x3.length c5) x3],yq F x3 x7 x13 x15 x31 x42 x43 x44)) ?_ ?_
 refine av [59,93,77] ?_ ?_
 intro _
 refine au [99,93,1] ?_
 refine kS ent124 rfl rfl rfl (fun x66 e66=>qid F g1 x32 x3 a4 c5 x33 x7 x12 (isub .i64 x15.1 (x31.length:Int)) x66 e66) (.cons 0 rfl .nil) .nil (.consF 0 rfl .nil) (fun x67 _=>?_) (fun x66 e66=>?_)
 exact az [107]
 rintro ⟨a68,c69⟩
 refine au [5,0] ?_
 exact qa ((x66.1,x66.2.1,x66.2.2),(a68,c69))
 intro _
 refine au [10] ?_
 exact qis (Int×Int) eS129 129 2 (qa ((([]:List (Int×Int)),x32,x33),(none,0)))
 rintro ⟨⟨x42,x43,x44⟩,⟨a40,c41⟩⟩
 try dsimp only
 refine au [60,27,14] ?_
 refine qg qnf ?_
 rintro x45 e45 ⟨a46,c47⟩
 refine au [92,79,60,144] ?_
 refine qC 5 ((x45.2:Int) == 0) [(0,.pointer (some ⟨g1,0,none⟩)),(1,qAG x7),(7,.pointer (some ⟨g14,0,none⟩)),(10,.slice a29 x31.length c30),(12,qAG (isub .i64 x15.1 (x31.length:Int))),(14,.slice a46 x45.1.length c47),(71,.bool (((x45.2:Int) == 0) && (decide ((x45.1.length:Int)≤(isub .i64 x15.1 (x31.length:Int))))))] (fun h48=>?_) (fun h48=>?_) ?_
 refine qb (os:=_) rfl (qp (k:=66) rfl h48 ?_)
 refine au [1,18,1,27,6,24,7] ?_
 refine qd (d:=71) (v:=.bool (((x45.2:Int) == 0) && (decide ((x45.1.length:Int)≤(isub .i64 x15.1 (x31.length:Int)))))) rfl (by rw[h48];simp only[qyt]) ?_
 exact az [67]
 refine qb (os:=_) rfl (qo (k:=66) rfl h48 ?_)
 refine au [76,24,8] ?_
 refine qd (d:=71) (v:=.bool (((x45.2:Int) == 0) && (decide ((x45.1.length:Int)≤(isub .i64 x15.1 (x31.length:Int)))))) rfl (by rw[h48];simp only[qyj]) ?_
 exact az [67]
 refine qb (os:=_) rfl (kS ent109 rfl rfl rfl (fun x49 e49=>qar F (((x45.2:Int) == 0) && (decide ((x45.1.length:Int)≤(isub .i64 x15.1 (x31.length:Int))))) x49 e49) .nil .nil .nil (fun x50 _=>?_) (fun x49 e49=>?_))
 exact az [107]
 intro _
 refine au [57,3] ?_
 refine qu mixed [] [⟨g1,166,[qAG x43,.slice a4 x3.length c5,qAG x44]⟩,⟨g14,26,[qAG x11,qAG x12,qAG x13]⟩] [Sl (eI .u8) 1 (.slice a4 x3.length c5) x3] (.cons 0 rfl (.cons 0 rfl .nil)) (qx 0 rfl qr) 23 rfl ?_
 refine au [81,24,2,2] ?_
 refine qK 3 (.agg #[qAG x43,.slice a4 x3.length c5]) rfl rfl rfl (qH (i:=0) rfl tf65 rfl rfl (by simp) rfl) ?_
 refine au [118,24,2,6,25,8,7,6,8,24,2,9,26,11,10,6,11,6,12,26,9,13,6,14,21,15] ?_
 refine qg qou ?_
 rintro x54 e54 ⟨a55,c56⟩
 refine au [159,6,16,153,6,19,6,20,152,24,3] ?_
 refine qy ?_ (by intro c h;cases h)
 refine au [2,60,24,15] ?_
 refine kS ent109 rfl rfl rfl (fun x57 e57=>qar F ((x54.2.2:Int) == 0) x57 e57) .nil .nil .nil (fun x58 _=>?_) (fun x57 e57=>?_)
 exact az [107]
 intro _
 refine au [57,69,98,84,69,1] ?_
 refine qiq 3 rfl ?_
 refine au [34,15,29,11] ?_
 refine qt (vs:=[.slice a29 x31.length c30,.slice a46 x45.1.length c47,.slice a55 x54.1.length c56]) (ys:=([(x31,(a29,c30)),(x45.1,(a46,c47)),(x54.1,(a55,c56))]:List (qAE×(qAF×Nat)))) kL (by decide) rfl Tryz.underlying22 tf59 rfl rfl rfl rfl rfl (by decide) (fun a59 c60=>qhM (inn:=iN59) ([x31,x45.1,x54.1]:List (qAE)) ([(a29,c30),(a46,c47),(a55,c56)]:List (qAF×Nat)) 0 rfl rfl (qV 2 rfl (qV 1 rfl (qV 0 rfl qb1))) ?_)
 refine au [34,13] ?_
 rintro x61 e61 ⟨a62,c63⟩
 refine au [58,60,34,14] ?_
 intro x64 e64 _
 refine au [26,6] ?_
 intro h65
 replace h65:=of_decide_eq_true h65
 refine qd (d:=10) (v:=.slice a62 x64.length c63) rfl (by rw[h65] <;> rfl) (qd (d:=104) (v:=.slice a62 x64.length c63) rfl (by rw[h65] <;> rfl) (qd (d:=105) (v:=.slice a62 x64.length c63) rfl (by rw[h65] <;> rfl) ?_))
 refine au [57,60,61] ?_
 exact qel (a62,c63) (.inl rfl) (res1 rfl rfl) rfl (.cons 0 rfl .nil) (.cons 0 rfl .nil)
set_option maxHeartbeats 4000000 in
theorem qic {F:Nat}{g1:Nat}{x2:Int}{x3:qAE}{a4:qAF}{c5:Nat}{x6:Int}{x7:Int}{x8:qAE}{a9:qAF}{c10:Nat}{x11:Int}{x12:Int}{x13:Int}{r:(qAE×Bool×Int×Int)}(hm:vP F x2 x3 x6 x7 x8 x11 x12 x13=some r) :
    PureM Tryz.prog 96 [.pointer (some ⟨g1,0,none⟩),qAG x7,.slice a9 x8.length c10,.agg #[qAG x11,qAG x12,qAG x13]] [⟨g1,166,[qAG x2,.slice a4 x3.length c5,qAG x6]⟩] [] [Sl (eI .u8) 1 (.slice a4 x3.length c5) x3,Sl (eI .i64) 1 (.slice a9 x8.length c10) x8] (qAF×Nat) (fun g=>.tuple #[.slice g.1 r.1.length g.2,.bool r.2.1]) (fun _=>[⟨g1,166,[qAG r.2.2.1,.slice a4 x3.length c5,qAG r.2.2.2]⟩]) (fun g=>[Ro (eI .i64) 3 1 (.slice g.1 r.1.length g.2) r.1]):=by
 refine qt6 Tryz.func96 rfl Tryz.ntmps96 rfl hm (fun w=>?_)
 refine au [28,0,72] ?_
 intro g14
 refine au [24,12] ?_
 intro g15
 refine au [24,12] ?_
 intro g16
 refine au [57,59,30,10] ?_
 refine qsS rfl rfl ?_
 refine au [57,60,98,29,6,58,69,1,26,13] ?_
 refine kS ent108 rfl rfl rfl (fun x17 e17=>qib F g1 x2 x3 a4 c5 x6 x7 x8 a9 c10 x11 x12 x13 x17 e17) (.cons 3 rfl .nil) .nil (.consF 0 rfl (.consF 1 rfl .nil)) (fun x18 _=>?_) (fun x17 e17=>?_)
 refine au [25,11] ?_
 refine qfL ent107 rfl (.cons 2 rfl (.cons 1 rfl .nil)) (qiJ _ _ _ _) ?_
 refine au [25,2] ?_
 exact vI (none,0) (resL (rs:=[.cell 8 59,.cell 9 4]) rfl (.cell (i:=0) rfl tf59 rfl rfl (fun _=>rfl) rfl (.cell (i:=1) rfl tf4 rfl rfl (fun _=>rfl) rfl ResOk.nil)) rfl) (hB:=fun h=>by subst h;exact (.cons 2 rfl .nil)) (hR:=fun h=>by subst h;exact (.cons 0 rfl .nil))
 rintro ⟨a19,c20⟩
 refine au [25,14,57,59,27,0,29,9] ?_
 intro x21 e21 _
 refine au [24,15] ?_
 refine kS ent109 rfl rfl rfl (fun x22 e22=>qar F ((x21:Int) == 0) x22 e22) .nil .nil .nil (fun x23 _=>?_) (fun x22 e22=>?_)
 refine au [25,11] ?_
 refine qfL ent107 rfl (.cons 2 rfl (.cons 1 rfl .nil)) (qiJ _ _ _ _) ?_
 refine au [25,2] ?_
 exact vI (none,0) (resL (rs:=[.cell 8 59,.cell 9 4]) rfl (.cell (i:=0) rfl tf59 rfl rfl (fun _=>rfl) rfl (.cell (i:=1) rfl tf4 rfl rfl (fun _=>rfl) rfl ResOk.nil)) rfl) (hB:=fun h=>by subst h;exact (.cons 2 rfl .nil)) (hR:=fun h=>by subst h;exact (.cons 0 rfl .nil))
 intro _
 refine au [57,59] ?_
 refine qq (cells:=[qAG 0,.slice none 0 0,.bool false]) rfl st183 rfl (by kernel_rfl) rfl ?_
 refine au [24,9] ?_
 intro g24
 refine au [58,69,29,6,1,31,9,29,1,33,13] ?_
 rintro x25 e25 ⟨a26,c27⟩
 refine au [57] ?_
 refine qc (fun ((_,_):(Unit×Unit))=>([(0,.pointer (some ⟨g1,0,none⟩)),(8,.pointer (some ⟨g15,0,none⟩)),(9,.pointer (some ⟨g16,0,none⟩)),(10,qAG x6),(11,.pointer (some ⟨g24,0,none⟩))],[⟨g24,183,[qAG x25.1,.slice a26 x25.2.1.length c27,.bool x25.2.2]⟩,⟨g1,166,[qAG x17.2.1,.slice a4 x3.length c5,qAG x17.2.2]⟩,⟨g16,4,[.bool false]⟩,⟨g15,59,[.slice a19 x17.1.length c20]⟩],[Ro (eI .u8) 5 1 (.slice a26 x25.2.1.length c27) x25.2.1,Ro (eI .i64) 3 1 (.slice a19 x17.1.length c20) x17.1],[Sl (eI .u8) 1 (.slice a4 x3.length c5) x3],vV F x3 x6 x17 x25)) ?_ ?_
 refine av [26,15] ?_ ?_
 intro h97
 refine qjj mixed [8,9] [] [⟨g24,183,[qAG x25.1,.slice a26 x25.2.1.length c27,.bool x25.2.2]⟩,⟨g1,166,[qAG x17.2.1,.slice a4 x3.length c5,qAG x17.2.2]⟩,⟨g16,4,[.bool false]⟩,⟨g15,59,[.slice a19 x17.1.length c20]⟩,⟨g14,26,[qAG x11,qAG x12,qAG x13]⟩] [Sl (eI .u8) 1 (.slice a4 x3.length c5) x3,Sl (eI .i64) 1 (.slice a9 x8.length c10) x8] (.cons 0 rfl (.cons 0 rfl (.cons 0 rfl (.cons 0 rfl (.cons 0 rfl .nil))))) (qx 0 rfl (qx 1 rfl qr)) 20 rfl ?_
 refine au [31,10,31,11,31,12] ?_
 refine qek 3 (.bool x25.2.2) rfl rfl rfl (qH (i:=0) rfl tf4 rfl rfl (fun _=>rfl) rfl) rfl ?_
 refine au [31,13,35,0] ?_
 refine qf (d:=40) (v:=.bool true) rfl (by rw[h97] <;> rfl) ?_
 refine au [35,1,35,2,35,3] ?_
 refine zY 9 _ rfl rfl rfl (qd2 rfl inferInstance) rfl (qek 10 (qAG x25.1) rfl rfl rfl (qH (i:=0) rfl tf3 rfl rfl (fun _=>rfl) rfl) rfl ?_)
 refine au [35,4,35,5] ?_
 refine zY 13 _ rfl rfl rfl (qd2 rfl inferInstance) rfl (qek 14 (qAG x17.2.2) rfl rfl rfl (qH (i:=1) rfl tf3 rfl rfl (fun _=>rfl) rfl) rfl (zY 15 _ rfl rfl rfl (qfN rfl) rfl (zY 16 _ rfl rfl rfl (qfN rfl) rfl (zY 17 _ rfl rfl rfl (qfN rfl) rfl ?_))))
 refine au [35,6,21,19] ?_
 refine kS ent109 rfl rfl rfl (fun x98 e98=>qar F ((x25.1:Int) == (isub .i64 x17.2.2 x6)) x98 e98) .nil .nil .nil (fun x99 _=>?_) (fun x98 e98=>?_)
 refine au [25,11] ?_
 refine qoa (l':=[(8,.pointer (some ⟨g15,0,none⟩)),(9,.pointer (some ⟨g16,0,none⟩))]) (qhA rfl rfl (qhA rfl rfl qqh)) ?_
 refine au [25,11] ?_
 refine qfL ent107 rfl (.cons 3 rfl (.cons 2 rfl .nil)) (qiJ _ _ _ _) ?_
 refine au [25,2] ?_
 exact vI (none,0) (resL (rs:=[.cell 8 59,.cell 9 4]) rfl (.cell (i:=0) rfl tf59 rfl rfl (fun _=>rfl) rfl (.cell (i:=1) rfl tf4 rfl rfl (fun _=>rfl) rfl ResOk.nil)) rfl) (hB:=fun h=>by subst h;exact (.cons 3 rfl .nil)) (hR:=fun h=>by subst h;exact (.cons 0 rfl .nil))
 intro _
 refine au [0,35,7,24,3] ?_
 refine qqL ?_ (by intro c h;cases h)
 exact az [26,4]
 intro h97
 refine qjj mixed [8,9] [] [⟨g24,183,[qAG x25.1,.slice a26 x25.2.1.length c27,.bool x25.2.2]⟩,⟨g1,166,[qAG x17.2.1,.slice a4 x3.length c5,qAG x17.2.2]⟩,⟨g16,4,[.bool false]⟩,⟨g15,59,[.slice a19 x17.1.length c20]⟩,⟨g14,26,[qAG x11,qAG x12,qAG x13]⟩] [Sl (eI .u8) 1 (.slice a4 x3.length c5) x3,Sl (eI .i64) 1 (.slice a9 x8.length c10) x8] (.cons 0 rfl (.cons 0 rfl (.cons 0 rfl (.cons 0 rfl (.cons 0 rfl .nil))))) (qx 0 rfl (qx 1 rfl qr)) 20 rfl ?_
 refine au [31,10,31,11,31,12] ?_
 refine qek 3 (.bool x25.2.2) rfl rfl rfl (qH (i:=0) rfl tf4 rfl rfl (fun _=>rfl) rfl) rfl ?_
 refine au [31,13,35,0] ?_
 refine qf (d:=40) (v:=.bool false) rfl (by rw[h97] <;> rfl) (jn 6 rfl rfl rfl rfl (jn 7 rfl rfl rfl rfl (jn 8 rfl rfl rfl rfl (jn 9 rfl rfl rfl rfl (jn 10 rfl rfl rfl rfl (jn 11 rfl rfl rfl rfl (jn 12 rfl rfl rfl rfl (jn 13 rfl rfl rfl rfl (jn 14 rfl rfl rfl rfl (jn 15 rfl rfl rfl rfl (jn 16 rfl rfl rfl rfl (jn 17 rfl rfl rfl rfl ?_))))))))))))
 refine au [35,6,21,19] ?_
 refine kS ent109 rfl rfl rfl (fun x0 e0=>qar F false x0 e0) .nil .nil .nil (fun x1 _=>?_) (fun x0 e0=>?_)
 refine au [25,11] ?_
 refine qoa (l':=[(8,.pointer (some ⟨g15,0,none⟩)),(9,.pointer (some ⟨g16,0,none⟩))]) (qhA rfl rfl (qhA rfl rfl qqh)) ?_
 refine au [25,11] ?_
 refine qfL ent107 rfl (.cons 3 rfl (.cons 2 rfl .nil)) (qiJ _ _ _ _) ?_
 refine au [25,2] ?_
 exact vI (none,0) (resL (rs:=[.cell 8 59,.cell 9 4]) rfl (.cell (i:=0) rfl tf59 rfl rfl (fun _=>rfl) rfl (.cell (i:=1) rfl tf4 rfl rfl (fun _=>rfl) rfl ResOk.nil)) rfl) (hB:=fun h=>by subst h;exact (.cons 3 rfl .nil)) (hR:=fun h=>by subst h;exact (.cons 0 rfl .nil))
 intro _
 refine au [0,35,7,24,3] ?_
 refine qqL ?_ (by intro c h;cases h)
 exact az [26,4]
 rintro ⟨_,_⟩
 try dsimp only
 refine qc (fun ((_,_):(Unit×Unit))=>([(8,.pointer (some ⟨g15,0,none⟩)),(9,.pointer (some ⟨g16,0,none⟩))],[⟨g1,166,[qAG x17.2.1,.slice a4 x3.length c5,qAG x17.2.2]⟩,⟨g16,4,[.bool false]⟩,⟨g15,59,[.slice a19 x17.1.length c20]⟩],[Ro (eI .i64) 3 1 (.slice a19 x17.1.length c20) x17.1],[Sl (eI .u8) 1 (.slice a4 x3.length c5) x3],qd3 F x17)) ?_ ?_
 refine au [60,98,62,1,162] ?_
 refine qi (fun ((x75,_):(Int×Unit))=>([(0,.pointer (some ⟨g1,0,none⟩)),(8,.pointer (some ⟨g15,0,none⟩)),(9,.pointer (some ⟨g16,0,none⟩)),(10,qAG x6),(11,.pointer (some ⟨g24,0,none⟩)),(59,qAG x25.1),(60,qAG x75)],[⟨g24,183,[qAG x25.1,.slice a26 x25.2.1.length c27,.bool x25.2.2]⟩,⟨g1,166,[qAG x17.2.1,.slice a4 x3.length c5,qAG x17.2.2]⟩,⟨g16,4,[.bool false]⟩,⟨g15,59,[.slice a19 x17.1.length c20]⟩],[Ro (eI .u8) 5 1 (.slice a26 x25.2.1.length c27) x25.2.1,Ro (eI .i64) 3 1 (.slice a19 x17.1.length c20) x17.1],[Sl (eI .u8) 1 (.slice a4 x3.length c5) x3])) (fun k (s:(Int×Unit))=>zG F x3 x6 x17 x25 k s.1) (0,()) F ?_
 intro k86
 rintro ⟨x75,_⟩
 try dsimp only
 refine qm (m':=vU F x3 x6 x17 x25 (zG F x3 x6 x17 x25 k86) x75) rfl ?_
 refine av [140] ?_ ?_
 intro _
 refine au [91,60,58] ?_
 refine qjj mixed [8,9] [] [⟨g24,183,[qAG x25.1,.slice a26 x25.2.1.length c27,.bool x25.2.2]⟩,⟨g1,166,[qAG x17.2.1,.slice a4 x3.length c5,qAG x17.2.2]⟩,⟨g16,4,[.bool false]⟩,⟨g15,59,[.slice a19 x17.1.length c20]⟩] [Sl (eI .u8) 1 (.slice a4 x3.length c5) x3] (.cons 0 rfl (.cons 0 rfl (.cons 0 rfl (.cons 0 rfl .nil)))) (qx 0 rfl qr) 16 rfl ?_
 refine au [31,10,31,11,31,12] ?_
 refine qek 3 (.agg #[qAG x25.1,.slice a26 x25.2.1.length c27]) rfl rfl rfl (qH (i:=0) rfl tf65 rfl rfl (by simp) rfl) rfl ?_
 refine au [31,13,35,1,35,2,35,3] ?_
 refine qek 9 (.agg #[qAG x17.2.1,.slice a4 x3.length c5]) rfl rfl rfl (qH (i:=1) rfl tf65 rfl rfl (by simp) rfl) rfl (zY 10 _ rfl rfl rfl (qfN rfl) rfl ?_)
 refine au [35,4,35,5,21,5,29,5] ?_
 intro x92 e92 _
 refine au [0,31,14,21,13,29,5] ?_
 intro x93 e93 _
 refine au [0,31,14] ?_
 refine zY 14 _ rfl rfl rfl (qfN rfl) rfl ?_
 refine au [21,15] ?_
 refine kS ent109 rfl rfl rfl (fun x94 e94=>qar F ((x92:Int) == x93) x94 e94) .nil .nil .nil (fun x95 _=>?_) (fun x94 e94=>?_)
 refine au [25,11] ?_
 refine qoa (l':=[(8,.pointer (some ⟨g15,0,none⟩)),(9,.pointer (some ⟨g16,0,none⟩))]) (qhA rfl rfl (qhA rfl rfl qqh)) ?_
 refine au [28,2,25,11,25,11,28,2,25,11] ?_
 refine qfL ent107 rfl (.cons 3 rfl (.cons 2 rfl .nil)) (qiJ _ _ _ _) ?_
 refine au [25,2] ?_
 exact vI (none,0) (resL (rs:=[.cell 8 59,.cell 9 4]) rfl (.cell (i:=0) rfl tf59 rfl rfl (fun _=>rfl) rfl (.cell (i:=1) rfl tf4 rfl rfl (fun _=>rfl) rfl ResOk.nil)) rfl) (hB:=fun h=>by subst h;exact (.cons 3 rfl .nil)) (hR:=fun h=>by subst h;exact (.cons 0 rfl .nil))
 intro _
 refine au [0,31,14,24,3] ?_
 refine qqL ?_ (by intro c h;cases h)
 refine au [22,2,4,16,1,0] ?_
 exact qh (iadd .i64 x75 1,())
 intro _
 exact az [149]
 rintro ⟨_,_⟩
 try dsimp only
 refine au [59,27,0,25,14,25,7,57,12] ?_
 exact qqM (.inl rfl) ent107 rfl (qvy _ _) (vI (a19,c20) (resL (rs:=[.cell 8 59,.cell 9 4]) rfl (.cell (i:=2) rfl tf59 rfl rfl (fun _=>rfl) rfl (.cell (i:=1) rfl tf4 rfl rfl (fun _=>rfl) rfl ResOk.nil)) rfl) (hB:=fun h=>by subst h;exact (.cons 0 rfl .nil)) (hR:=fun h=>by subst h;exact (.cons 0 rfl .nil)))
theorem qoG {F:Nat}{x1:Int}{x2:qAE}{a3:qAF}{c4:Nat}{x5:Int}{x6:Int}{x7:qAE}{a8:qAF}{c9:Nat}{x10:Int}{x11:Int}{x12:Int}{r:(qAE×Int×Int)}(hm:qdw F x1 x2 x5 x6 x7 x10 x11 x12=some r) :
    Pure Tryz.prog 83 [.agg #[qAG x1,.slice a3 x2.length c4],qAG x5,qAG x6,.slice a8 x7.length c9,.agg #[qAG x10,qAG x11,qAG x12]] [Sl (eI .u8) 1 (.slice a3 x2.length c4) x2,Sl (eI .i64) 1 (.slice a8 x7.length c9) x7] (qAF×Nat) (fun g=>.tuple #[.slice g.1 r.1.length g.2,qAG r.2.1,qAG r.2.2]) (fun g=>[Ro (eI .i64) 3 1 (.slice g.1 r.1.length g.2) r.1]) (fun _=>[]):=by
 refine qk Tryz.func83 rfl Tryz.ntmps83 rfl hm (fun w=>?_)
 refine au [28,9,72] ?_
 intro g13
 refine au [24,9] ?_
 intro g14
 refine au [5,79,119,1] ?_
 refine qq (cells:=[qAG x1,.slice a3 x2.length c4,qAG x5]) rfl st166 rfl (by kernel_rfl) rfl ?_
 refine au [24,9] ?_
 intro g15
 refine au [58,69,1,25,9] ?_
 refine zr qic ?_
 rintro x16 e16 ⟨a17,c18⟩
 refine av [92,114,101] ?_ ?_
 intro _
 refine au [94,5,109] ?_
 exact qj (none,0)
 intro _
 refine au [90] ?_
 refine qu mixed [] [⟨g15,166,[qAG x16.2.2.1,.slice a3 x2.length c4,qAG x16.2.2.2]⟩,⟨g14,26,[qAG x10,qAG x11,qAG x12]⟩,⟨g13,65,[qAG x1,.slice a3 x2.length c4]⟩] [Sl (eI .u8) 1 (.slice a3 x2.length c4) x2,Sl (eI .i64) 1 (.slice a8 x7.length c9) x7] (.cons 0 rfl (.cons 0 rfl (.cons 0 rfl .nil))) (qx 0 rfl (qx 1 rfl qr)) 8 rfl ?_
 refine au [113,129,6,5,150,24,3] ?_
 refine qy ?_ (by intro c h;cases h)
 refine au [2,12] ?_
 exact qj (a17,c18)
set_option maxHeartbeats 4000000 in
theorem qnd {F:Nat}{x1:Int}{x2:Int}{x3:Int}{x4:Int}{x5:Int}{x6:qAE}{a7:qAF}{c8:Nat}{r:(List (qAE)×Bool)}(hm:qgI F x1 x2 x3 x4 x5 x6=some r) :
    Pure Tryz.prog 65 [.agg #[qAG x1,qAG x2,qAG x3,qAG x4,qAG x5,.slice a7 x6.length c8]] [Sl (eI .u8) 1 (.slice a7 x6.length c8) x6] (qAF×(Nat×List (qAF×Nat))) (fun g=>.tuple #[.slice g.1 r.1.length g.2.1,.bool r.2]) (fun g=>[RoN eN59 rN59 59 1 (.slice g.1 r.1.length g.2.1) r.1 g.2.2 []]) (fun _=>[]):=by
 refine qk Tryz.func65 rfl Tryz.ntmps65 rfl hm (fun w=>?_)
 refine au [133] ?_
 intro g9
 refine au [79,68] ?_
 refine qc (fun (((x0,x7),(a0,c0)):((List (qAE)×Int)×(qAF×(Nat×List (qAF×Nat)))))=>([(1,.pointer (some ⟨g9,0,none⟩)),(2,.slice a0 x0.length c0.1),(4,qAG x7)],[⟨g9,75,[qAG x1,qAG x2,qAG x3,qAG x4,qAG x5,.slice a7 x6.length c8]⟩],[RoN eN59 rN59 59 1 (.slice a0 x0.length c0.1) x0 c0.2 []],[Sl (eI .u8) 1 (.slice a7 x6.length c8) x6],qe1 F x5 x0 x7)) ?_ ?_
 refine au [116,1,162,30,1] ?_
 refine qi (fun (((x8,x9,x10),(a1,c1)):((List (qAE)×Int×Int)×(qAF×(Nat×List (qAF×Nat)))))=>([(1,.pointer (some ⟨g9,0,none⟩)),(2,.slice a1 x8.length c1.1),(4,qAG x9),(14,qAG x1),(15,qAG x10)],[⟨g9,75,[qAG x1,qAG x2,qAG x3,qAG x4,qAG x5,.slice a7 x6.length c8]⟩],[RoN eN59 rN59 59 1 (.slice a1 x8.length c1.1) x8 c1.2 []],[Sl (eI .u8) 1 (.slice a7 x6.length c8) x6])) (fun k (s:((List (qAE)×Int×Int)×(qAF×(Nat×List (qAF×Nat)))))=>yl F x1 x2 x3 x4 x5 x6 k s.1) ((([]:List (qAE)),0,0),(none,(0,([]:List (qAF×Nat))))) F ?_
 intro k0
 rintro ⟨⟨x8,x9,x10⟩,⟨a1,c1⟩⟩
 try dsimp only
 refine qm (m':=qdd F x1 x2 x3 x4 x5 x6 (yl F x1 x2 x3 x4 x5 x6 k0) x8 x9 x10) rfl ?_
 refine av [140] ?_ ?_
 intro _
 refine au [64] ?_
 refine qc (fun (((x11,x12),(a2,c2)):((List (qAE)×Int)×(qAF×(Nat×List (qAF×Nat)))))=>([(1,.pointer (some ⟨g9,0,none⟩)),(2,.slice a2 x11.length c2.1),(4,qAG x12),(14,qAG x1),(15,qAG x10)],[⟨g9,75,[qAG x1,qAG x2,qAG x3,qAG x4,qAG x5,.slice a7 x6.length c8]⟩],[RoN eN59 rN59 59 1 (.slice a2 x11.length c2.1) x11 c2.2 []],[Sl (eI .u8) 1 (.slice a7 x6.length c8) x6],qa0 F (yl F x1 x2 x3 x4 x5 x6 k0) x10 x11 x12)) ?_ ?_
 refine au [14,60,58,124,1,1] ?_
 refine qg qp5 ?_
 intro x13 e0 _
 refine av [148,5,114,101] ?_ ?_
 intro _
 refine au [94,158,78,25,12] ?_
 exact qj (none,(0,([]:List (qAF×Nat))))
 intro _
 refine av [64,68,75,77] ?_ ?_
 intro _
 refine au [99,103] ?_
 refine qpJ (j:=0) rfl UnF.u inferInstance rfl rfl rfl rfl ?_
 intro x14 e1 g0 h0 g1 h1
 refine qmH (i:=0) rfl h0 (List.not_mem_nil) (qk5 (j:=1) (p:=(x14,g0)) kL rfl rfl tf59 rfl h1 h0 rfl (fun _=>rfl) rfl rfl ?_)
 refine au [58,59,13,25,4,24,12] ?_
 intro g2
 refine au [84,60,13,84,59,13,25,9,1,1,1,25,4,35,8] ?_
 rintro x15 e2 ⟨a3,c3⟩
 refine au [148,5,79,3,3] ?_
 refine qkW (rin:=rN59) (p:=(x14,g0)) (i:=1) (k:=0) (.cons 1 rfl .nil) rfl rfl h0 ?_
 refine av [88,85] ?_ ?_
 intro _
 refine au [94,158,78,25,12] ?_
 exact qj (none,(0,([]:List (qAF×Nat))))
 intro _
 refine au [64,99] ?_
 refine qt (vs:=[.slice a3 x15.1.length c3]) (ys:=([(x15.1,(a3,c3))]:List (qAE×(qAF×Nat)))) kL (by decide) rfl Tryz.underlying22 tf59 rfl rfl rfl rfl rfl (by decide) (fun a4 c4=>qdt (rin:=rN59) (i:=0) ([x15.1]:List (qAE)) ([(a3,c3)]:List (qAF×Nat)) rfl rfl (.cons 1 rfl .nil) ?_)
 refine au [30,2] ?_
 intro x16 e3 a5 c5
 refine au [1,5,172] ?_
 exact qa ((x16,x15.2.1),(a5,(c5,(c1.2++([(a3,c3)]:List (qAF×Nat))))))
 intro _
 refine au [64,59,13,25,4,24,12] ?_
 intro g3
 refine au [84,60,13,84,59,13,25,9,1,1,1,25,4,27,14,35,8] ?_
 rintro x17 e4 ⟨a6,c6⟩
 refine av [148,5,114,85] ?_ ?_
 intro _
 refine au [94,158,78,25,12] ?_
 exact qj (none,(0,([]:List (qAF×Nat))))
 intro _
 refine au [64,99] ?_
 refine qt (vs:=[.slice a6 x17.1.length c6]) (ys:=([(x17.1,(a6,c6))]:List (qAE×(qAF×Nat)))) kL (by decide) rfl Tryz.underlying22 tf59 rfl rfl rfl rfl rfl (by decide) (fun a8 c7=>qdt (rin:=rN59) (i:=0) ([x17.1]:List (qAE)) ([(a6,c6)]:List (qAF×Nat)) rfl rfl (.cons 0 rfl .nil) (qkZ kL rfl UnF.u inferInstance rfl rfl rfl rfl (.cons 2 rfl (.cons 0 rfl .nil)) rfl rfl ?_))
 intro x18 e5 a9 c9
 refine au [1,5,172] ?_
 exact qa ((x18,x17.2.1),(a9,(c9,(c1.2++([(a6,c6)]:List (qAF×Nat))))))
 rintro ⟨⟨x11,x12⟩,⟨a2,c2⟩⟩
 try dsimp only
 refine au [4,16,1,0] ?_
 exact qh ((x11,x12,iadd .i64 x10 1),(a2,c2))
 intro _
 refine au [73] ?_
 exact qa ((x8,x9),(a1,c1))
 rintro ⟨⟨x0,x7⟩,⟨a0,c0⟩⟩
 try dsimp only
 refine au [3] ?_
 refine qu mixed [] [⟨g9,75,[qAG x1,qAG x2,qAG x3,qAG x4,qAG x5,.slice a7 x6.length c8]⟩] [Sl (eI .u8) 1 (.slice a7 x6.length c8) x6] (.cons 0 rfl .nil) (qx 0 rfl qr) 8 rfl ?_
 refine au [81,24,2,2,129,6,5,150,24,3] ?_
 refine qy ?_ (by intro c h;cases h)
 refine au [2,12] ?_
 exact qj (a0,c0)
set_option maxHeartbeats 4000000 in
theorem qf8 {F:Nat}{x1:qAE}{a2:qAF}{c3:Nat}{x4:qAE}{a5:qAF}{c6:Nat}{r:Bool}(hm:yC F x1 x4=some r) :
    Pure Tryz.prog 66 [.slice a2 x1.length c3,.slice a5 x4.length c6] [Sl (eI .u8) 1 (.slice a2 x1.length c3) x1,Sl (eI .u8) 1 (.slice a5 x4.length c6) x4] Unit (fun _=>.bool r) (fun _=>[]) (fun _=>[]):=by
 refine qk Tryz.func66 rfl Tryz.ntmps66 rfl hm (fun w=>?_)
 refine av [102,75,18,1,18,85] ?_ ?_
 intro _
 exact az [59,96]
 intro _
 refine au [64] ?_
 refine qc (fun ((_,_):(Unit×Unit))=>([],[],[],[],qbN F)) ?_ ?_
 refine au [169,1,162] ?_
 refine qi (fun ((x0,_):(Int×Unit))=>([(0,.slice a2 x1.length c3),(1,.slice a5 x4.length c6),(12,qAG (x1.length:Int)),(13,qAG x0)],[],[],[Sl (eI .u8) 1 (.slice a2 x1.length c3) x1,Sl (eI .u8) 1 (.slice a5 x4.length c6) x4])) (fun k (s:(Int×Unit))=>zB F x1 x4 k s.1) (0,()) F ?_
 intro k0
 rintro ⟨x0,_⟩
 try dsimp only
 refine qm (m':=kT F x1 x4 (zB F x1 x4 k0) x0) rfl ?_
 refine av [140] ?_ ?_
 intro _
 refine au [91,60,58,3,30,3] ?_
 intro x2 e0 b0 o0 h0
 replace h0:a2=some ⟨b0,o0,none⟩:=h0
 refine au [35,9] ?_
 intro x3 e1 b1 o1 h1
 replace h1:a5=some ⟨b1,o1,none⟩:=h1
 refine qu mixed [] [] [qz b1 (o1+x0.toNat*1) ((eI .u8) x3),qz b0 (o0+x0.toNat*1) ((eI .u8) x2),Sl (eI .u8) 1 (.slice a2 x1.length c3) x1,Sl (eI .u8) 1 (.slice a5 x4.length c6) x4] .nil (qx 0 rfl (qx 1 rfl (qx 2 rfl (qx 3 rfl qr)))) 9 rfl ?_
 refine au [81] ?_
 refine qf (d:=16) (v:=.slice (some ⟨b0,o0,none⟩) x1.length c3) rfl (by rw[h0] <;> rfl) (qn 2 (.pointer (some ⟨b0,(o0+x0.toNat*1),none⟩)) rfl rfl rfl (yJ Tryz.underlying27 tf5 rfl rfl (qF e0).1 (zX e0)) (qf (d:=16) (v:=.slice a2 x1.length c3) rfl (by rw[h0] <;> rfl) (qI 3 (.int .u8 x2) [] rfl rfl rfl (zi (j:=1) rfl tf5 rfl rfl (fun _=>rfl) rfl) ?_)))
 refine au [118] ?_
 refine qf (d:=20) (v:=.slice (some ⟨b1,o1,none⟩) x4.length c6) rfl (by rw[h1] <;> rfl) (qn 6 (.pointer (some ⟨b1,(o1+x0.toNat*1),none⟩)) rfl rfl rfl (yJ Tryz.underlying27 tf5 rfl rfl (qF e1).1 (zX e1)) (qf (d:=20) (v:=.slice a5 x4.length c6) rfl (by rw[h1] <;> rfl) (qI 7 (.int .u8 x3) [] rfl rfl rfl (zi (j:=0) rfl tf5 rfl rfl (fun _=>rfl) rfl) ?_)))
 refine au [6,8,24,3] ?_
 refine qy ?_ (by intro c h;cases h)
 refine av [2,8] ?_ ?_
 intro _
 exact az [59,61,78,9,160]
 intro _
 refine au [157,2,4,16,1,0] ?_
 exact qh (iadd .i64 x0 1,())
 intro _
 exact az [149]
 rintro ⟨_,_⟩
 try dsimp only
 exact az [59,95]
set_option maxHeartbeats 4000000 in
theorem qoB {F:Nat}{x1:Int}{x2:Int}{x3:Int}{x4:Int}{x5:Int}{x6:qAE}{a7:qAF}{c8:Nat}{r:(List (qAE)×Int)}(hm:qfV F x1 x2 x3 x4 x5 x6=some r) :
    Pure Tryz.prog 51 [.agg #[qAG x1,qAG x2,qAG x3,qAG x4,qAG x5,.slice a7 x6.length c8]] [Sl (eI .u8) 1 (.slice a7 x6.length c8) x6] (qAF×(Nat×List (qAF×Nat))) (fun g=>.tuple #[.agg #[.slice g.1 r.1.length g.2.1],qAG r.2]) (fun g=>[RoN eN59 rN59 59 1 (.slice g.1 r.1.length g.2.1) r.1 g.2.2 []]) (fun _=>[]):=by
 refine qk Tryz.func51 rfl Tryz.ntmps51 rfl hm (fun w=>?_)
 refine au [133] ?_
 intro g9
 refine au [24,12] ?_
 intro g10
 refine au [58,3,119] ?_
 refine qg qnb ?_
 intro x13 e13 _
 refine av [58,60,85] ?_ ?_
 intro _
 refine au [59] ?_
 refine qq (cells:=[.slice none 0 0]) rfl st24 rfl (by kernel_rfl) rfl ?_
 refine au [1,24,10,106] ?_
 exact qv (none,(0,([]:List (qAF×Nat)))) (resL (rs:=[.cell 2 24,.tmp 3]) rfl (.cell (i:=0) rfl tf24 rfl rfl (by simp) rfl (.tmp rfl ResOk.nil)) rfl) (fun h=>by subst h;exact (.cons 0 rfl .nil))
 intro _
 refine au [64,119] ?_
 refine qg qnd ?_
 rintro x14 e14 ⟨a15,c16⟩
 refine av [92,114,101] ?_ ?_
 intro _
 refine au [59] ?_
 refine qq (cells:=[.slice none 0 0]) rfl st24 rfl (by kernel_rfl) rfl ?_
 refine au [24,10,106] ?_
 exact qv (none,(0,([]:List (qAF×Nat)))) (resL (rs:=[.cell 2 24,.tmp 3]) rfl (.cell (i:=0) rfl tf24 rfl rfl (by simp) rfl (.tmp rfl ResOk.nil)) rfl) (fun h=>by subst h;exact (.cons 0 rfl .nil))
 intro _
 refine au [64,60] ?_
 refine qq (cells:=[.slice a15 x14.1.length c16.1]) rfl st24 rfl (by kernel_rfl) rfl ?_
 refine au [24,12] ?_
 intro g18
 refine au [84,3,124,13,26,13,34,1] ?_
 rintro x28 e28 ⟨a29,c30⟩
 refine au [92,24,12] ?_
 intro g31
 refine au [167,60,25,1,1] ?_
 refine qU 9 (fun ((x34,_):(Bool×Unit))=>([(2,.pointer (some ⟨g10,0,none⟩)),(7,.pointer (some ⟨g18,0,none⟩)),(44,.bool x34)],[⟨g18,24,[.slice a15 x14.1.length c16.1]⟩,⟨g10,24,[.slice none 0 0]⟩],[RoN eN59 rN59 59 1 (.slice a15 x14.1.length c16.1) x14.1 c16.2 []],[],qdS F x14 x34)) ?_ ?_
 refine qb (os:=_) rfl ?_
 refine av [25,10] ?_ ?_
 intro h32
 refine qp (k:=35) rfl h32 ?_
 refine au [76,76,97] ?_
 exact qa (true,())
 intro h32
 refine qo (k:=35) rfl h32 ?_
 refine au [13,62,13,13,29,6] ?_
 refine qg qf8 ?_
 intro x36 e36 _
 refine au [25,3,117] ?_
 exact qa ((!x36),())
 rintro ⟨x34,_⟩
 try dsimp only
 refine qb (os:=_) rfl ?_
 refine av [63] ?_ ?_
 intro _
 refine au [59] ?_
 refine qq (cells:=[.slice none 0 0]) rfl st24 rfl (by kernel_rfl) rfl ?_
 refine au [25,7,106] ?_
 exact qv (none,(0,([]:List (qAF×Nat)))) (resL (rs:=[.cell 2 24,.tmp 3]) rfl (.cell (i:=1) rfl tf24 rfl rfl (by simp) rfl (.tmp rfl ResOk.nil)) rfl) (fun h=>by subst h;exact (.cons 0 rfl .nil))
 intro _
 refine au [64,124,25,7,61] ?_
 exact qv (a15,c16) (resL (rs:=[.cell 2 24,.tmp 3]) rfl (.cell (i:=1) rfl tf24 rfl rfl (by simp) rfl (.tmp rfl ResOk.nil)) rfl) (fun h=>by subst h;exact (.cons 0 rfl .nil))
set_option maxHeartbeats 4000000 in
theorem qh5 (F:Nat)(g1:Nat)(x2:qAE)(a3:qAF)(c4:Nat)(x5:Int)(x6:Int)(x7:Bool)(r:(List (qAE)×Bool×Int×Int×Bool))(hm:qaH F x2 x5 x6 x7=some r) :
    PureM Tryz.prog 37 [.pointer (some ⟨g1,0,none⟩)] [⟨g1,80,[.slice a3 x2.length c4,qAG x5,qAG x6,.bool x7]⟩] [] [Sl (eI .u8) 1 (.slice a3 x2.length c4) x2] (qAF×(Nat×List (qAF×Nat))) (fun g=>.tuple #[.agg #[.slice g.1 r.1.length g.2.1],.bool r.2.1]) (fun _=>[⟨g1,80,[.slice a3 x2.length c4,qAG r.2.2.1,qAG r.2.2.2.1,.bool r.2.2.2.2]⟩]) (fun g=>[RoN eN59 rN59 59 1 (.slice g.1 r.1.length g.2.1) r.1 g.2.2 []]):=by
 refine zZ Tryz.func37 rfl Tryz.ntmps37 rfl hm (fun w=>?_)
 refine au [25,5,128] ?_
 intro g8
 refine au [58,60,28,1] ?_
 intro x9 e9 _
 refine qq (cells:=[qAG x9.1,qAG 0,qAG 0,qAG 0,qAG 0,.slice none 0 0]) rfl st75 rfl (by kernel_rfl) rfl ?_
 refine au [24,12] ?_
 intro g10
 refine au [84,60,28,1] ?_
 intro x11 e11 _
 refine au [1,28,1] ?_
 intro x12 e12 _
 refine au [1,28,1] ?_
 intro x13 e13 _
 refine qq (cells:=[qAG x11.1,qAG x12.1,qAG x13.1]) rfl st26 rfl (by kernel_rfl) rfl ?_
 refine au [13,25,7,57,60,28,1] ?_
 intro x14 e14 _
 refine av [13,13,25,7,57,75,125,63] ?_ ?_
 intro _
 refine au [59] ?_
 refine qq (cells:=[.slice none 0 0]) rfl st24 rfl (by kernel_rfl) rfl ?_
 refine au [25,14,106] ?_
 exact vI (none,(0,([]:List (qAF×Nat)))) (resL (rs:=[.cell 2 24,.tmp 3]) rfl (.cell (i:=2) rfl tf24 rfl rfl (by simp) rfl (.tmp rfl ResOk.nil)) rfl) (hB:=fun h=>by subst h;exact (.cons 0 rfl .nil)) (hR:=fun h=>by subst h;exact (.cons 0 rfl .nil))
 intro _
 refine au [90,35,10] ?_
 intro x24 e24 a25 c26 h27 h28
 refine qu mixed [] [⟨g1,80,[.slice a3 x2.length c4,qAG x14.2.1,qAG x14.2.2.1,.bool x14.2.2.2]⟩,⟨g8,24,[.slice none 0 0]⟩] [Sl (eI .u8) 1 (.slice a25 x24.length c26) x24,Sl (eI .u8) 1 (.slice a3 x2.length c4) x2] (.cons 0 rfl (.cons 1 rfl .nil)) (qx 0 rfl (qx 1 rfl qr)) 13 rfl ?_
 refine au [81,24,2,2,25,8,3,118,24,2,6,25,8,7] ?_
 refine qn 8 (.slice a25 x24.length c26) rfl rfl rfl (qk9 Tryz.underlying27 tf5 rfl rfl rfl e24 h28 h27) ?_
 refine au [21,9,32,14] ?_
 rintro x29 e29 ⟨a30,c31⟩
 refine au [0,35,11,24,2,10,24,2,11,21,12,25,7,0,35,11,24,3] ?_
 refine qy ?_ (by intro c h;cases h)
 refine au [2,3,59,13,25,9,34,5] ?_
 intro x34 e34 _
 refine av [85] ?_ ?_
 intro _
 refine au [59] ?_
 refine qq (cells:=[.slice none 0 0]) rfl st24 rfl (by kernel_rfl) rfl ?_
 refine au [25,14,106] ?_
 exact vI (none,(0,([]:List (qAF×Nat)))) (resL (rs:=[.cell 2 24,.tmp 3]) rfl (.cell (i:=2) rfl tf24 rfl rfl (by simp) rfl (.tmp rfl ResOk.nil)) rfl) (hB:=fun h=>by subst h;exact (.cons 0 rfl .nil)) (hR:=fun h=>by subst h;exact (.cons 0 rfl .nil))
 intro _
 refine au [64,60,13,93,98,84,119] ?_
 refine qg qoB ?_
 rintro x35 e35 ⟨a36,c37⟩
 refine au [92,24,12] ?_
 intro g38
 refine au [167,124,1,24,15,26,10,61] ?_
 exact vI (a36,c37) (resL (rs:=[.cell 2 24,.tmp 3]) rfl (.cell (i:=3) rfl tf24 rfl rfl (by simp) rfl (.tmp rfl ResOk.nil)) rfl) (hB:=fun h=>by subst h;exact (.cons 1 rfl .nil)) (hR:=fun h=>by subst h;exact (.cons 0 rfl .nil))
end Go.Proofs.YtlioijpkhffbnaaGreat
