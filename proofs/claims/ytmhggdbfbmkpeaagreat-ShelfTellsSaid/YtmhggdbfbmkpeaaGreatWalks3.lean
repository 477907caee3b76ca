/- Each Go function of this seat computes what its model says, part 3. -/
import Derived.Test.YtmhggdbfbmkpeaaGreatWalks2
open Bool renaming false_and→qxW, true_and→qx3
open List renaming length_set→qzv
namespace Go.Proofs.YtmhggdbfbmkpeaaGreat
open Go SX
set_option maxHeartbeats 4000000 in
theorem qmZ {F:Nat}{x1:Int}{x2:qAq}{a3:qAr}{c4:Nat}{r:Int}(hm:qcu F x1 x2=some r) :
    Pure Tryz.prog 71 [.agg #[qAs x1,.slice a3 x2.length c4]] [Sl (eI .u8) 1 (.slice a3 x2.length c4) x2] Unit (fun _=>qAs r) (fun _=>[]) (fun _=>[]):=by
 refine qi Tryz.func71 rfl Tryz.ntmps71 rfl hm (fun w=>?_)
 refine au [108] ?_
 intro g5
 refine au [46,3,14,94,23,1] ?_
 refine qq 4 (decide (x1<0)) [(1,.pointer (some ⟨g5,0,none⟩)),(11,.bool ((decide (x1<0)) || (decide (8192<x1))))] (fun h27=>?_) (fun h27=>?_) ?_
 refine qb (os:=_) rfl (qk (k:=7) rfl h27 ?_)
 refine au [56,113] ?_
 refine qc (d:=11) (v:=.bool ((decide (x1<0)) || (decide (8192<x1)))) rfl (by rw[h27];simp only[Bool.true_or]) ?_
 exact az [62]
 refine qb (os:=_) rfl (qj (k:=7) rfl h27 ?_)
 refine au [57,70] ?_
 refine qc (d:=11) (v:=.bool ((decide (x1<0)) || (decide (8192<x1)))) rfl (by rw[h27];simp only[Bool.false_or]) ?_
 exact az [62]
 refine qb (os:=_) rfl ?_
 refine av [46,8] ?_ ?_
 intro _
 exact az [47,49,50,18]
 intro _
 refine av [94,21,57,16,26,14,25,2,46,8] ?_ ?_
 intro _
 exact az [47,49,50,18]
 intro _
 refine qd (fun ((x36,_):(Bool×Unit))=>([(21,.bool x36)],[],[],[],qaX F x36)) ?_ ?_
 refine av [27,2] ?_ ?_
 intro h38
 refine au [30,10] ?_
 intro x39 e39 b40 o41 h42
 replace h42:a3=some ⟨b40,o41,none⟩:=h42
 refine au [27,5] ?_
 intro h43
 refine qB mixed [] [⟨g5,29,[qAs x1,.slice a3 x2.length c4]⟩] [qv b40 (o41+(isub .i64 (x2.length:Int) 1).toNat*1) ((eI .u8) x39),Sl (eI .u8) 1 (.slice a3 x2.length c4) x2] (.cons 0 rfl .nil) (qF 0 rfl (qF 1 rfl qA)) 20 rfl ?_
 refine au [134] ?_
 refine qo 2 (qAs (irem x1 8)) rfl rfl rfl (qoe rfl rfl rfl) ?_
 refine au [7,3,7,4] ?_
 refine qh (d:=26) (v:=.bool true) rfl (by rw[h38] <;> rfl) ?_
 refine au [24,4,5,25,12,6,24,4,7,25,12,8,28,12,9,7,10] ?_
 refine qh (d:=28) (v:=.slice (some ⟨b40,o41,none⟩) x2.length c4) rfl (by rw[h42] <;> rfl) (qo 11 (.pointer (some ⟨b40,(o41+(isub .i64 (x2.length:Int) 1).toNat*1),none⟩)) rfl rfl rfl (yV Tryz.underlying27 tf5 rfl rfl (qQ e39).1 (kC e39)) (qh (d:=28) (v:=.slice a3 x2.length c4) rfl (by rw[h42] <;> rfl) (qJ 12 (.int .u8 x39) [] rfl rfl rfl (zJ (j:=0) rfl tf5 rfl rfl (fun _=>rfl) rfl) ?_)))
 refine au [24,4,13,25,12,14] ?_
 refine qo 15 (qAs (irem x1 8)) rfl rfl rfl (qoe rfl rfl rfl) (qo 16 (.int .u8 (ishl .u8 x39 (irem x1 8))) rfl rfl rfl (qhw rfl rfl h43) ?_)
 refine au [7,17,7,18,7,19,24,14] ?_
 exact qM (qa ((((ishl .u8 x39 (irem x1 8)):Int) != 0),())) (by intro c h;cases h)
 intro h38
 refine qB mixed [] [⟨g5,29,[qAs x1,.slice a3 x2.length c4]⟩] [Sl (eI .u8) 1 (.slice a3 x2.length c4) x2] (.cons 0 rfl .nil) (qF 0 rfl qA) 20 rfl ?_
 refine au [134] ?_
 refine qo 2 (qAs (irem x1 8)) rfl rfl rfl (qoe rfl rfl rfl) ?_
 refine au [7,3,7,4] ?_
 refine qh (d:=26) (v:=.bool false) rfl (by rw[h38] <;> rfl) ?_
 refine au [15,5,15,6,15,7,15,8,118,110,15,13,15,14,15,15,15,16,15,17,7,18,7,19,24,14] ?_
 exact qM (qa (false,())) (by intro c h;cases h)
 rintro ⟨x36,_⟩
 try dsimp only
 refine av [8] ?_ ?_
 intro _
 exact az [47,49,50,18]
 intro _
 exact az [9,22,2,47,73]
set_option maxHeartbeats 4000000 in
theorem qm6 {F:Nat}{x1:Int}{x2:Int}{x3:Int}{x4:Int}{x5:Int}{x6:qAq}{a7:qAr}{c8:Nat}{r:Int}(hm:qe3 F x1 x2 x3 x4 x5 x6=some r) :
    Pure Tryz.prog 37 [.agg #[qAs x1,qAs x2,qAs x3,qAs x4,qAs x5,.slice a7 x6.length c8]] [Sl (eI .u8) 1 (.slice a7 x6.length c8) x6] Unit (fun _=>qAs r) (fun _=>[]) (fun _=>[]):=by
 refine qi Tryz.func37 rfl Tryz.ntmps37 rfl hm (fun w=>?_)
 refine au [108] ?_
 intro g9
 refine au [46,3,94,23,1] ?_
 refine qq 4 (decide (x1<0)) [(1,.pointer (some ⟨g9,0,none⟩)),(11,.bool ((decide (x1<0)) || (decide (100<x1))))] (fun h12=>?_) (fun h12=>?_) ?_
 refine qb (os:=_) rfl (qk (k:=7) rfl h12 ?_)
 refine au [56,113] ?_
 refine qc (d:=11) (v:=.bool ((decide (x1<0)) || (decide (100<x1)))) rfl (by rw[h12];simp only[Bool.true_or]) ?_
 exact az [62]
 refine qb (os:=_) rfl (qj (k:=7) rfl h12 ?_)
 refine au [57,70] ?_
 refine qc (d:=11) (v:=.bool ((decide (x1<0)) || (decide (100<x1)))) rfl (by rw[h12];simp only[Bool.false_or]) ?_
 exact az [62]
 refine qb (os:=_) rfl ?_
 refine av [51] ?_ ?_
 intro _
 exact az [47,82]
 intro _
 refine au [89,47,103,30,7] ?_
 intro x15 e15 _
 refine av [46,48,71] ?_ ?_
 intro _
 exact az [48,82]
 intro _
 refine au [66,47,103,30,11] ?_
 intro x16 e16 _
 exact az [73]
set_option maxHeartbeats 4000000 in
theorem qnh {F:Nat}{x1:Int}{x2:qAq}{a3:qAr}{c4:Nat}{x5:Int}{r:(Int×Int×Bool)}(hm:qdT F x1 x2 x5=some r) :
    Pure Tryz.prog 146 [.agg #[qAs x1,.slice a3 x2.length c4],qAs x5] [Sl (eI .u8) 1 (.slice a3 x2.length c4) x2] Unit (fun _=>.tuple #[.int .u64 r.1,qAs r.2.1,.bool r.2.2]) (fun _=>[]) (fun _=>[]):=by
 refine qi Tryz.func146 rfl Tryz.ntmps146 rfl hm (fun w=>?_)
 refine au [77] ?_
 intro g6
 refine au [5,67] ?_
 refine qd (fun ((_,_):(Unit×Unit))=>([],[],[],[],qg4 F)) ?_ ?_
 refine au [48,46,14] ?_
 refine ql (fun ((x33,_):(Int×Unit))=>([(1,qAs x5),(2,.pointer (some ⟨g6,0,none⟩)),(7,qAs x33)],[⟨g6,29,[qAs x1,.slice a3 x2.length c4]⟩],[],[Sl (eI .u8) 1 (.slice a3 x2.length c4) x2])) (fun k (s:(Int×Unit))=>ja F x1 x2 x5 k s.1) (x5,()) F ?_
 intro k40
 rintro ⟨x33,_⟩
 try dsimp only
 refine qp (m':=qdf F x1 x2 x5 (ja F x1 x2 x5 k40) x33) rfl ?_
 refine av [64,57,75] ?_ ?_
 intro _
 refine au [90,80,1,28,2] ?_
 intro x44 e44 _
 refine av [68] ?_ ?_
 intro _
 exact az [60,24,13,24,15,78,5,5,49,92,18]
 intro _
 refine au [9,22,2,4,78,5,0] ?_
 exact qg (iadd .i64 x33 1,())
 intro _
 exact az [119]
 rintro ⟨_,_⟩
 try dsimp only
 exact az [93,5,73]
theorem qhV (F:Nat)(x1:Int)(x2:qAq)(a3:qAr)(c4:Nat)(x5:Int)(r:(Int×Int×Int))(hm:qcE F x1 x2 x5=some r) :
    Pure Tryz.prog 110 [.agg #[qAs x1,.slice a3 x2.length c4],qAs x5] [Sl (eI .u8) 1 (.slice a3 x2.length c4) x2] Unit (fun _=>.tuple #[.int .u64 r.1,qAs r.2.1,qAs r.2.2]) (fun _=>[]) (fun _=>[]):=by
 refine qi Tryz.func110 rfl Tryz.ntmps110 rfl hm (fun w=>?_)
 refine au [77] ?_
 intro g6
 refine au [5,67,80,1,33,14] ?_
 intro x7 e7 _
 refine av [129,5,114,102] ?_ ?_
 intro _
 exact az [93,5,82]
 intro _
 exact az [66,60,5,5,73]
set_option maxHeartbeats 4000000 in
theorem qoo {F:Nat}{x1:Int}{x2:qAq}{a3:qAr}{c4:Nat}{x5:Int}{x6:Int}{r:(Int×Bool)}(hm:jn F x1 x2 x5 x6=some r) :
    Pure Tryz.prog 109 [.agg #[qAs x1,.slice a3 x2.length c4],qAs x5,qAs x6] [Sl (eI .u8) 1 (.slice a3 x2.length c4) x2] Unit (fun _=>.tuple #[.int .u64 r.1,.bool r.2]) (fun _=>[]) (fun _=>[]):=by
 refine qi Tryz.func109 rfl Tryz.ntmps109 rfl hm (fun w=>?_)
 refine au [104] ?_
 intro g7
 refine av [67,3,94,85,1,75] ?_ ?_
 intro _
 exact az [93,82]
 intro _
 refine au [66] ?_
 refine qd (fun ((x24,_):(Int×Unit))=>([(6,.int .u64 x24)],[],[],[],qfm F x24)) ?_ ?_
 refine au [60,45,14] ?_
 refine ql (fun (((x29,x30),_):((Int×Int)×Unit))=>([(1,qAs x5),(3,.pointer (some ⟨g7,0,none⟩)),(6,.int .u64 x29),(15,qAs x6),(16,qAs x30)],[⟨g7,29,[qAs x1,.slice a3 x2.length c4]⟩],[],[Sl (eI .u8) 1 (.slice a3 x2.length c4) x2])) (fun k (s:((Int×Int)×Unit))=>j2 F x1 x2 x5 x6 k s.1) ((0,0),()) F ?_
 intro k35
 rintro ⟨⟨x29,x30⟩,_⟩
 try dsimp only
 refine qp (m':=qdG F x1 x2 x5 x6 (j2 F x1 x2 x5 x6 k35) x29 x30) rfl ?_
 refine av [127] ?_ ?_
 intro _
 refine au [90,48,46,4,1,32,12,24,8,1,78,28,2] ?_
 intro x38 e38 _
 refine au [33,15,95,2,4,16,1,0] ?_
 exact qg ((ior .u64 (ishl .u64 x29 1) x38,iadd .i64 x30 1),())
 intro _
 refine au [63] ?_
 exact qa (x29,())
 rintro ⟨x24,_⟩
 try dsimp only
 exact az [48,5,73]
set_option maxHeartbeats 4000000 in
theorem qbV {F:Nat}{x1:Int}{x2:qAq}{a3:qAr}{c4:Nat}{x5:Int}{r:(Int×Int×Int)}(hm:zT F x1 x2 x5=some r) :
    Pure Tryz.prog 111 [.func (.func 110) #[] #[],.agg #[qAs x1,.slice a3 x2.length c4],qAs x5] [Sl (eI .u8) 1 (.slice a3 x2.length c4) x2] Unit (fun _=>.tuple #[.int .u64 r.1,qAs r.2.1,qAs r.2.2]) (fun _=>[]) (fun _=>[]):=by
 refine qi Tryz.func111 rfl Tryz.ntmps111 rfl hm (fun w=>?_)
 refine au [104] ?_
 intro g6
 refine au [5,67,48,24,8,1] ?_
 refine qsR ent110 rfl rfl rfl rfl (fun x7 e7=>qhV F x1 x2 a3 c4 x5 x7 e7) (.consF 0 rfl .nil) (fun x7 e7 _=>?_)
 refine av [129,5,114,71] ?_ ?_
 intro _
 exact az [48,5,5,82]
 intro _
 refine av [66,64,26,3,51] ?_ ?_
 intro _
 exact az [93,5,82]
 intro _
 refine au [66,80,91,24,15,29,5] ?_
 intro x10 e10 _
 refine av [79,114,102] ?_ ?_
 intro _
 exact az [93,5,82]
 intro _
 refine au [89,60,26,0] ?_
 intro h15
 refine qbU rfl rfl rfl rfl h15 ?_
 refine au [24,13,16,120] ?_
 intro x16 e16
 refine qc (d:=12) (v:=.int .u64 x16) rfl (by rw[e16] <;> rfl) ?_
 refine av [45,48,65] ?_ ?_
 intro _
 exact az [93,5,82]
 intro _
 exact az [66,60,1,135,5,5,73]
theorem qiz {F:Nat}{x1:Int}{x2:qAq}{a3:qAr}{c4:Nat}{x5:Int}{r:(Int×Int×Int)}(hm:jr F x1 x2 x5=some r) :
    Pure Tryz.prog 84 [.agg #[qAs x1,.slice a3 x2.length c4],qAs x5] [Sl (eI .u8) 1 (.slice a3 x2.length c4) x2] Unit (fun _=>.tuple #[.int .u64 r.1,qAs r.2.1,qAs r.2.2]) (fun _=>[]) (fun _=>[]):=by
 refine qi Tryz.func84 rfl Tryz.ntmps84 rfl hm (fun w=>?_)
 refine au [77] ?_
 intro g6
 refine au [5,67,80,1] ?_
 refine qf qbV ?_
 intro x7 e7 _
 exact az [59,13,5,5,73]
set_option maxHeartbeats 4000000 in
theorem qkf {F:Nat}{x1:Int}{x2:Int}{x3:Int}{x4:Int}{x5:Int}{x6:qAq}{a7:qAr}{c8:Nat}{x9:Int}{x10:Int}{r:(Int×Int×Bool)}(hm:qfs F x1 x2 x3 x4 x5 x6 x9 x10=some r) :
    Pure Tryz.prog 55 [.agg #[qAs x1,qAs x2,qAs x3,qAs x4,qAs x5,.slice a7 x6.length c8],qAs x9,qAs x10] [Sl (eI .u8) 1 (.slice a7 x6.length c8) x6] Unit (fun _=>.tuple #[qAs r.1,qAs r.2.1,.bool r.2.2]) (fun _=>[]) (fun _=>[]):=by
 refine qi Tryz.func55 rfl Tryz.ntmps55 rfl hm (fun w=>?_)
 refine au [104] ?_
 intro g11
 refine av [5,67,3,47,12,57,68] ?_ ?_
 intro _
 exact az [48,5,5,82]
 intro _
 refine au [66,47,103,1,34,0] ?_
 intro x13 e13 _
 refine au [129,5,114,25,2,1] ?_
 refine qD 9 (fun ((x18,_):(Bool×Unit))=>([(7,qAs x13.2.1),(9,.int .u64 x13.1),(35,.bool x18)],[],[],[],qeA F x13 x18)) ?_ ?_
 refine qb (os:=_) rfl ?_
 refine av [25,7] ?_ ?_
 intro h17
 refine qk (k:=26) rfl h17 ?_
 refine au [61,61,74] ?_
 exact qa (true,())
 intro h17
 refine qj (k:=26) rfl h17 ?_
 refine au [1,12,57,1,28,4,24,15,70,0] ?_
 exact qa ((decide ((iconv .u64 (imin x2 x10))<x13.1)),())
 rintro ⟨x18,_⟩
 try dsimp only
 refine qb (os:=_) rfl ?_
 refine av [51] ?_ ?_
 intro _
 exact az [93,5,82]
 intro _
 exact az [66,48,24,15,1,5,5,73]
theorem qah (F:Nat)(x1:Bool)(r:(Unit ⊕ Unit))(hm:k9 F x1=some r) :
    PureL Tryz.prog 114 [.bool x1] [] [] [] lostCh Unit (fun (_:Unit) (_:Unit)=>.tuple #[]) (fun (_:Unit) (_:Unit)=>[]) (fun (_:Unit) (_:Unit)=>[]) (fun (_:Unit)=>[]) r:=by
 refine qhl Tryz.func114 rfl Tryz.ntmps114 rfl hm (fun w=>?_)
 refine av [25,8,48,102] ?_ ?_
 intro _
 refine au [4] ?_
 exact qr (cells:=[]) rfl inferInstance rfl (by kernel_rfl) rfl (qsV rfl rfl (qvD _) rfl (qsX rfl rfl (qmF .nil)))
 intro _
 refine au [9] ?_
 exact qec () (.inr rfl) (res0 rfl) rfl .nil .nil
theorem kW (F:Nat)(g1:Nat)(x2:Int)(x3:qAq)(a4:qAr)(c5:Nat)(x6:Int)(x7:Int)(r:((Int×Int×Int) ⊕ (Int×Int)))(hm:zB F x2 x3 x6 x7=some r) :
    PureL Tryz.prog 147 [.pointer (some ⟨g1,0,none⟩),qAs x7] [⟨g1,142,[qAs x2,.slice a4 x3.length c5,qAs x6]⟩] [] [Sl (eI .u8) 1 (.slice a4 x3.length c5) x3] lostCh Unit (fun (r:(Int×Int×Int)) (_:Unit)=>qAs r.1) (fun (r:(Int×Int×Int)) (_:Unit)=>[⟨g1,142,[qAs r.2.1,.slice a4 x3.length c5,qAs r.2.2]⟩]) (fun (_:(Int×Int×Int)) (_:Unit)=>[]) (fun (z:(Int×Int))=>[⟨g1,142,[qAs z.1,.slice a4 x3.length c5,qAs z.2]⟩]) r:=by
 refine qhl Tryz.func147 rfl Tryz.ntmps147 rfl hm (fun w=>?_)
 refine au [87,3] ?_
 refine qB mixed [] [⟨g1,142,[qAs x2,.slice a4 x3.length c5,qAs x6]⟩] [Sl (eI .u8) 1 (.slice a4 x3.length c5) x3] (.cons 0 rfl .nil) (qF 0 rfl qA) 16 rfl ?_
 refine au [72,24,4,2] ?_
 refine kZ 3 (.agg #[qAs x2,.slice a4 x3.length c5]) rfl rfl rfl (zN (i:=0) rfl tf29 rfl rfl (by simp) rfl) ?_
 refine au [7,4,7,5,24,4,6,25,12,7,24,9,8,34,0] ?_
 intro x9 e9 _
 refine au [0,28,1,7,9,7,10,7,11,112,7,14,7,15,24,14] ?_
 refine qM ?_ (by intro c h;cases h)
 refine au [2,48,106] ?_
 refine qq 5 ((x9.2.2:Int) == 0) [(0,.pointer (some ⟨g1,0,none⟩)),(5,.int .u64 x9.1),(6,qAs x9.2.1),(28,.bool (((x9.2.2:Int) == 0) && (decide (x9.1≤(iconv .u64 x7)))))] (fun h10=>?_) (fun h10=>?_) ?_
 refine qb (os:=_) rfl (qk (k:=23) rfl h10 ?_)
 refine au [91,24,15,26,7,24,1] ?_
 refine qc (d:=28) (v:=.bool (((x9.2.2:Int) == 0) && (decide (x9.1≤(iconv .u64 x7))))) rfl (by rw[h10];simp only[qx3]) ?_
 exact az [62]
 refine qb (os:=_) rfl (qj (k:=23) rfl h10 ?_)
 refine au [61,24,2] ?_
 refine qc (d:=28) (v:=.bool (((x9.2.2:Int) == 0) && (decide (x9.1≤(iconv .u64 x7))))) rfl (by rw[h10];simp only[qxW]) ?_
 exact az [62]
 refine qb (os:=_) rfl (kE ent114 rfl rfl rfl (fun x11 e11=>qah F (((x9.2.2:Int) == 0) && (decide (x9.1≤(iconv .u64 x7)))) x11 e11) .nil .nil .nil (fun x12 _=>?_) (fun x11 e11=>?_))
 exact az [100]
 intro _
 refine au [45,60,88,83,48,24,15,49] ?_
 exact qec () (.inl rfl) (res1 rfl rfl) rfl (.cons 0 rfl .nil) .nil
set_option maxHeartbeats 4000000 in
theorem qlF {F:Nat}{x1:qAq}{a2:qAr}{c3:Nat}{x4:Int}{r:Int}(hm:qeB F x1 x4=some r) :
    Pure Tryz.prog 176 [.slice a2 x1.length c3,qAs x4] [Sl (eI .i64) 1 (.slice a2 x1.length c3) x1] Unit (fun _=>qAs r) (fun _=>[]) (fun _=>[]):=by
 refine qi Tryz.func176 rfl Tryz.ntmps176 rfl hm (fun w=>?_)
 refine av [87,64,21,78,65] ?_ ?_
 intro _
 exact az [47,82]
 intro _
 refine au [66,53] ?_
 refine qd (fun ((x99,_):(Int×Unit))=>([(1,qAs x4),(5,qAs x99)],[],[],[],qdR F x4 x99)) ?_ ?_
 refine au [121,1,45,14] ?_
 refine ql (fun (((x0,x2),_):((Int×Int)×Unit))=>([(1,qAs x4),(5,qAs x0),(13,.slice a2 x1.length c3),(14,qAs (x1.length:Int)),(15,qAs x2)],[],[],[Sl (eI .i64) 1 (.slice a2 x1.length c3) x1])) (fun k (s:((Int×Int)×Unit))=>kM F x1 x4 k s.1) ((0,0),()) F ?_
 intro k0
 rintro ⟨⟨x0,x2⟩,_⟩
 try dsimp only
 refine qp (m':=qbF F x1 x4 (kM F x1 x4 k0) x0 x2) rfl ?_
 refine av [127] ?_ ?_
 intro _
 refine au [90,48,25,14] ?_
 intro x3 e0 b0 o0
 refine au [25,3,114,23,1] ?_
 refine qD 7 (fun ((x5,_):(Bool×Unit))=>([(1,qAs x4),(5,qAs x0),(7,qAs x3),(13,.slice a2 x1.length c3),(14,qAs (x1.length:Int)),(15,qAs x2),(29,.bool x5)],[],[],[Sl (eI .i64) 1 (.slice a2 x1.length c3) x1],qbG F (kM F x1 x4 k0) x4 x0 x2 x3 x5)) ?_ ?_
 refine qb (os:=_) rfl ?_
 refine av [25,7] ?_ ?_
 intro h0
 refine qk (k:=22) rfl h0 ?_
 refine au [61,56,74] ?_
 exact qa (true,())
 intro h0
 refine qj (k:=22) rfl h0 ?_
 refine au [1,23,1] ?_
 refine qq 3 (decide (x3<1)) [(1,qAs x4),(5,qAs x0),(13,.slice a2 x1.length c3),(14,qAs (x1.length:Int)),(15,qAs x2),(7,qAs x3),(22,.bool false),(23,qAs x3),(24,.bool (decide (x3<1))),(25,.bool (decide (x3<1))),(28,.bool ((decide (x3<1)) && (decide (0<x2))))] (fun h1=>?_) (fun h1=>?_) ?_
 refine qb (os:=_) rfl (qk (k:=25) rfl h1 ?_)
 refine au [1,24,7,24,1] ?_
 refine qc (d:=28) (v:=.bool ((decide (x3<1)) && (decide (0<x2)))) rfl (by rw[h1];simp only[qx3]) (qc (d:=25) (v:=.bool (decide (x3<1))) rfl (by rw[h1] <;> rfl) ?_)
 exact az [62]
 refine qb (os:=_) rfl (qj (k:=25) rfl h1 ?_)
 refine au [56,24,2] ?_
 refine qc (d:=28) (v:=.bool ((decide (x3<1)) && (decide (0<x2)))) rfl (by rw[h1];simp only[qxW]) (qc (d:=25) (v:=.bool (decide (x3<1))) rfl (by rw[h1] <;> rfl) ?_)
 exact az [62]
 refine qb (os:=_) rfl ?_
 refine au [76] ?_
 exact qa (((decide (x3<1)) && (decide (0<x2))),())
 rintro ⟨x5,_⟩
 try dsimp only
 refine qb (os:=_) rfl ?_
 refine av [51] ?_ ?_
 intro _
 exact az [47,55,92,18]
 intro _
 refine au [66,99,78,28,4,16,78,28,4,120] ?_
 intro x6 e1
 refine qc (d:=5) (v:=qAs x6) rfl (by rw[e1] <;> rfl) ?_
 refine au [84,2,4,16,1,0] ?_
 exact qg ((x6,iadd .i64 x2 1),())
 intro _
 refine au [63] ?_
 exact qa (x0,())
 rintro ⟨x99,_⟩
 try dsimp only
 refine av [3,60,65] ?_ ?_
 intro _
 exact az [47,82]
 intro _
 exact az [66,47,73]
set_option maxHeartbeats 4000000 in
theorem qkg {F:Nat}{x1:qAq}{a2:qAr}{c3:Nat}{x4:qAq}{a5:qAr}{c6:Nat}{r:qAq}(hm:qfw F x1 x4=some r) :
    Pure Tryz.prog 177 [.slice a2 x1.length c3,.slice a5 x4.length c6] [Sl (eI .i64) 1 (.slice a2 x1.length c3) x1,Sl (eI .i64) 1 (.slice a5 x4.length c6) x4] (qAr×Nat) (fun g=>.slice g.1 r.length g.2) (fun g=>[Ro (eI .i64) 3 1 (.slice g.1 r.length g.2) r]) (fun _=>[]):=by
 refine qi Tryz.func177 rfl Tryz.ntmps177 rfl hm (fun w=>?_)
 refine au [87,53,53] ?_
 refine qd (fun (((x0,x2,x3),(a0,c0,a1,c1)):((qAq×qAq×Bool)×(qAr×Nat×qAr×Nat)))=>([(0,.slice a0 x0.length c0),(5,.slice a1 x2.length c1),(6,.bool x3)],[],[Ro (eI .i64) 3 1 (.slice a1 x2.length c1) x2],[Sl (eI .i64) 1 (.slice a0 x0.length c0) x0],qdS F x0 x2 x3)) ?_ ?_
 refine au [121,1,45,98] ?_
 refine ql (fun (((x5,x6,x7,x8),(a3,c2,a4,c4)):((qAq×qAq×Bool×Int)×(qAr×Nat×qAr×Nat)))=>([(0,.slice a3 x5.length c2),(5,.slice a4 x6.length c4),(6,.bool x7),(9,.slice a5 x4.length c6),(10,qAs (x4.length:Int)),(11,qAs x8)],[],[Ro (eI .i64) 3 1 (.slice a4 x6.length c4) x6],[Sl (eI .i64) 1 (.slice a3 x5.length c2) x5,Sl (eI .i64) 1 (.slice a5 x4.length c6) x4])) (fun k (s:((qAq×qAq×Bool×Int)×(qAr×Nat×qAr×Nat)))=>kA F x4 k s.1) ((x1,([]:qAq),true,0),(a2,c3,none,0)) F ?_
 intro k0
 rintro ⟨⟨x5,x6,x7,x8⟩,⟨a3,c2,a4,c4⟩⟩
 try dsimp only
 refine qp (m':=qaG F x4 (kA F x4 k0) x5 x6 x7 x8) rfl ?_
 refine av [127] ?_ ?_
 intro _
 refine au [90,47,26,15] ?_
 intro x9 e0 b0 o0
 refine au [25,3,46] ?_
 refine qd (fun ((x10,(a6,c5)):(qAq×(qAr×Nat)))=>([(0,.slice a3 x5.length c2),(5,.slice a6 x10.length c5),(6,.bool x7),(8,qAs x9),(9,.slice a5 x4.length c6),(10,qAs (x4.length:Int)),(11,qAs x8)],[],[Ro (eI .i64) 3 1 (.slice a6 x10.length c5) x10],[Sl (eI .i64) 1 (.slice a3 x5.length c2) x5,Sl (eI .i64) 1 (.slice a5 x4.length c6) x4],qaH F (kA F x4 k0) x5 x7 x8 x9 x10)) ?_ ?_
 refine av [48,51] ?_ ?_
 intro _
 refine au [99,1] ?_
 refine qrZ (j:=1) (qs .i64) rfl UnF.u inferInstance rfl rfl rfl rfl rfl ?_
 intro x11 e1 a7 c7
 refine au [27,15] ?_
 intro x12 e2 a8 c8
 refine au [5,0] ?_
 exact qa (x12,(a8,c8))
 intro _
 refine au [9] ?_
 exact qa (x6,(a4,c4))
 rintro ⟨x10,⟨a6,c5⟩⟩
 try dsimp only
 refine au [99,30,12] ?_
 intro x13 e3 a9 c9
 refine au [1,25,4,5,95,2,4,16,1,0] ?_
 exact qg ((x13,x10,(!x7),iadd .i64 x8 1),(a9,c9,a6,c5))
 intro _
 refine au [63] ?_
 exact qa ((x5,x6,x7),(a3,c2,a4,c4))
 rintro ⟨⟨x0,x2,x3⟩,⟨a0,c0,a1,c1⟩⟩
 try dsimp only
 refine qd (fun ((x14,(a10,c10)):(qAq×(qAr×Nat)))=>([(5,.slice a10 x14.length c10)],[],[Ro (eI .i64) 3 1 (.slice a10 x14.length c10) x14],[],qbH F x14)) ?_ ?_
 refine av [48,51] ?_ ?_
 intro _
 refine au [99,27,15] ?_
 intro x15 e4 a11 c11
 refine au [5,0] ?_
 exact qa (x15,(a11,c11))
 intro _
 refine au [9] ?_
 exact qa (x2,(a1,c1))
 rintro ⟨x14,⟨a10,c10⟩⟩
 try dsimp only
 refine au [48,49] ?_
 exact qm (a10,c10)
set_option maxHeartbeats 4000000 in
theorem qm9 {F:Nat}{x1:qAq}{a2:qAr}{c3:Nat}{x4:qAq}{a5:qAr}{c6:Nat}{r:(qAq×Int)}(hm:qe4 F x1 x4=some r) :
    Pure Tryz.prog 148 [.slice a2 x1.length c3,.slice a5 x4.length c6] [Sl (eI .i64) 1 (.slice a2 x1.length c3) x1,Sl (eI .i64) 1 (.slice a5 x4.length c6) x4] (qAr×Nat) (fun g=>.tuple #[.slice g.1 r.1.length g.2,qAs r.2]) (fun g=>[Ro (eI .i64) 3 1 (.slice g.1 r.1.length g.2) r.1]) (fun _=>[]):=by
 refine qi Tryz.func148 rfl Tryz.ntmps148 rfl hm (fun w=>?_)
 refine au [124,67,48,28,13] ?_
 intro x7 e7 _
 refine au [46] ?_
 refine qd (fun ((x10,_):(Int×Unit))=>([(0,.slice a2 x1.length c3),(1,.slice a5 x4.length c6),(6,qAs x10)],[],[],[Sl (eI .i64) 1 (.slice a2 x1.length c3) x1,Sl (eI .i64) 1 (.slice a5 x4.length c6) x4],qa0 F x1 x4 x10)) ?_ ?_
 refine av [48,68] ?_ ?_
 intro _
 refine au [99,21] ?_
 refine qf qlF ?_
 intro x16 e16 _
 refine au [5,0] ?_
 exact qa (x16,())
 intro _
 refine au [9] ?_
 exact qa (x7,())
 rintro ⟨x10,_⟩
 try dsimp only
 refine av [64,71] ?_ ?_
 intro _
 refine au [48,5,96] ?_
 exact qm (none,0)
 intro _
 refine au [66,60] ?_
 refine qf qkg ?_
 rintro x12 e12 ⟨a13,c14⟩
 refine au [5,49] ?_
 exact qm (a13,c14)
set_option maxHeartbeats 4000000 in
theorem qg8 (F:Nat)(g1:Nat)(x2:Int)(x3:qAq)(a4:qAr)(c5:Nat)(x6:Int)(x7:Int)(r:((qAq×Int×Int) ⊕ (Int×Int)))(hm:ju F x2 x3 x6 x7=some r) :
    PureL Tryz.prog 149 [.pointer (some ⟨g1,0,none⟩),qAs x7] [⟨g1,142,[qAs x2,.slice a4 x3.length c5,qAs x6]⟩] [] [Sl (eI .u8) 1 (.slice a4 x3.length c5) x3] lostCh (qAr×Nat) (fun (r:(qAq×Int×Int)) (g:(qAr×Nat))=>.slice g.1 r.1.length g.2) (fun (r:(qAq×Int×Int)) (_:(qAr×Nat))=>[⟨g1,142,[qAs r.2.1,.slice a4 x3.length c5,qAs r.2.2]⟩]) (fun (r:(qAq×Int×Int)) (g:(qAr×Nat))=>[Ro (eI .i64) 3 1 (.slice g.1 r.1.length g.2) r.1]) (fun (z:(Int×Int))=>[⟨g1,142,[qAs z.1,.slice a4 x3.length c5,qAs z.2]⟩]) r:=by
 refine qhl Tryz.func149 rfl Tryz.ntmps149 rfl hm (fun w=>?_)
 refine au [87,60,16] ?_
 refine kE ent147 rfl rfl rfl (fun x8 e8=>kW F g1 x2 x3 a4 c5 x6 (iadd .i64 x7 1) x8 e8) (.cons 0 rfl .nil) .nil (.consF 0 rfl .nil) (fun x9 _=>?_) (fun x8 e8=>?_)
 exact az [100]
 intro _
 refine au [34,1] ?_
 intro x10 e10 a11 c12
 refine au [46] ?_
 refine qd (fun (((x72,x73,x74),_):((qAq×Int×Int)×Unit))=>([(5,.slice a11 x72.length c12)],[⟨g1,142,[qAs x73,.slice a4 x3.length c5,qAs x74]⟩],[Ro (eI .i64) 3 1 (.slice a11 x72.length c12) x72],[Sl (eI .u8) 1 (.slice a4 x3.length c5) x3],qaa F x72 x73 x74)) ?_ ?_
 refine au [121,1,45,14] ?_
 refine ql (fun (((x93,x94,x95,x96),_):((qAq×Int×Int×Int)×Unit))=>([(0,.pointer (some ⟨g1,0,none⟩)),(1,qAs x7),(5,.slice a11 x93.length c12),(13,qAs (x10.length:Int)),(14,qAs x94)],[⟨g1,142,[qAs x95,.slice a4 x3.length c5,qAs x96]⟩],[Ro (eI .i64) 3 1 (.slice a11 x93.length c12) x93],[Sl (eI .u8) 1 (.slice a4 x3.length c5) x3])) (fun k (s:((qAq×Int×Int×Int)×Unit))=>zW F x3 x7 x10 k s.1) ((x10,0,x8.2.1,x8.2.2),()) F ?_
 intro k0
 rintro ⟨⟨x93,x94,x95,x96⟩,_⟩
 try dsimp only
 refine qp (m':=yL F x3 x7 x10 (zW F x3 x7 x10 k0) x93 x94 x95 x96) rfl ?_
 refine av [127] ?_ ?_
 intro _
 refine au [90,48,46,99,91] ?_
 refine kE ent147 rfl rfl rfl (fun x0 e0=>kW F g1 x95 x3 a4 c5 x96 x7 x0 e0) (.cons 0 rfl .nil) .nil (.consF 0 rfl .nil) (fun x1 _=>?_) (fun x0 e0=>?_)
 exact az [27,8,25,13,25,13,27,8,100]
 intro _
 refine au [1,28,4,16,28,15] ?_
 intro x4 e1 g0 h0
 refine qgW (j:=0) (y':=iadd .i64 x0.1 (imin x94 1)) (qs .i64) rfl rfl rfl tf3 rfl h0 (qQ e1).2.1 rfl (fun x5 e2 h1=>?_)
 have h2:x5.length=x93.length:=by rw[← e2,qzv]
 refine qc (d:=5) (v:=.slice a11 x5.length c12) rfl h1 (qc (d:=17) (v:=.slice a11 x5.length c12) rfl h1 ?_)
 refine au [84,2,4,16,1,0] ?_
 exact qg ((x5,iadd .i64 x94 1,x0.2.1,x0.2.2),())
 intro _
 refine au [63] ?_
 exact qa ((x93,x95,x96),())
 rintro ⟨⟨x72,x73,x74⟩,_⟩
 try dsimp only
 refine au [48,49] ?_
 exact qec (a11,c12) (.inl rfl) (res1 rfl rfl) rfl (.cons 0 rfl .nil) (.cons 0 rfl .nil)
theorem qjR {F:Nat}{x1:Int}{r:Int}(hm:qa4 F x1=some r) :
    Pure Tryz.prog 178 [.int .u64 x1] [] Unit (fun _=>qAs r) (fun _=>[]) (fun _=>[]):=by
 refine qi Tryz.func178 rfl Tryz.ntmps178 rfl hm (fun w=>?_)
 refine au [109,48,28,3,24,15,1,29,1,24,15,34,2,32,13,120] ?_
 intro x2 e2
 refine qc (d:=2) (v:=qAs x2) rfl (by rw[e2] <;> rfl) ?_
 exact az [45,10,18]
set_option maxHeartbeats 4000000 in
theorem qic (F:Nat)(g1:Nat)(x2:Int)(x3:qAq)(a4:qAr)(c5:Nat)(x6:Int)(x7:Int)(x8:Int)(x9:Int)(r:((List (Int×Int)×Int×Int) ⊕ (Int×Int)))(hm:qaK F x2 x3 x6 x7 x8 x9=some r) :
    PureL Tryz.prog 150 [.pointer (some ⟨g1,0,none⟩),qAs x7,qAs x8,qAs x9] [⟨g1,142,[qAs x2,.slice a4 x3.length c5,qAs x6]⟩] [] [Sl (eI .u8) 1 (.slice a4 x3.length c5) x3] lostCh (qAr×Nat) (fun (r:(List (Int×Int)×Int×Int)) (g:(qAr×Nat))=>.slice g.1 r.1.length g.2) (fun (r:(List (Int×Int)×Int×Int)) (_:(qAr×Nat))=>[⟨g1,142,[qAs r.2.1,.slice a4 x3.length c5,qAs r.2.2]⟩]) (fun (r:(List (Int×Int)×Int×Int)) (g:(qAr×Nat))=>[Ro eS189 189 2 (.slice g.1 r.1.length g.2) r.1]) (fun (z:(Int×Int))=>[⟨g1,142,[qAs z.1,.slice a4 x3.length c5,qAs z.2]⟩]) r:=by
 refine qhl Tryz.func150 rfl Tryz.ntmps150 rfl hm (fun w=>?_)
 refine au [27,6,53,60,1,26,0] ?_
 intro h10
 refine qhO rfl rfl rfl rfl h10 (kE ent147 rfl rfl rfl (fun x11 e11=>kW F g1 x2 x3 a4 c5 x6 (iquo .i64 x9 x8) x11 e11) (.cons 0 rfl .nil) .nil (.consF 0 rfl .nil) (fun x12 _=>?_) (fun x11 e11=>?_))
 exact az [100]
 intro _
 refine qwe ku (by decide) rfl UnF.u inferInstance rfl rfl rfl rfl rfl rfl ?_
 intro x13 e13 a14 c15
 refine au [46,48,46] ?_
 refine qd (fun (((x0,x1,x4),_):((List (Int×Int)×Int×Int)×Unit))=>([(9,.slice a14 x0.length c15)],[⟨g1,142,[qAs x1,.slice a4 x3.length c5,qAs x4]⟩],[Ro eS189 189 2 (.slice a14 x0.length c15) x0],[Sl (eI .u8) 1 (.slice a4 x3.length c5) x3],qbh F x0 x1 x4)) ?_ ?_
 refine au [121,1,45,14] ?_
 refine ql (fun (((x5,x10,x14,x15,x16),_):((List (Int×Int)×Int×Int×Int×Int)×Unit))=>([(0,.pointer (some ⟨g1,0,none⟩)),(2,qAs x8),(3,qAs x9),(9,.slice a14 x5.length c15),(10,qAs x10),(21,qAs (x13.length:Int)),(22,qAs x14)],[⟨g1,142,[qAs x15,.slice a4 x3.length c5,qAs x16]⟩],[Ro eS189 189 2 (.slice a14 x5.length c15) x5],[Sl (eI .u8) 1 (.slice a4 x3.length c5) x3])) (fun k (s:((List (Int×Int)×Int×Int×Int×Int)×Unit))=>zn F x3 x8 x9 x13 k s.1) ((x13,x7,0,x11.2.1,x11.2.2),()) F ?_
 intro k0
 rintro ⟨⟨x5,x10,x14,x15,x16⟩,_⟩
 try dsimp only
 refine qp (m':=ve F x3 x8 x9 x13 (zn F x3 x8 x9 x13 k0) x5 x10 x14 x15 x16) rfl ?_
 refine av [127] ?_ ?_
 intro _
 refine au [90,48,46,48] ?_
 refine kE ent147 rfl rfl rfl (fun x17 e0=>kW F g1 x15 x3 a4 c5 x16 2097152 x17 e0) (.cons 0 rfl .nil) .nil (.consF 0 rfl .nil) (fun x18 _=>?_) (fun x17 e0=>?_)
 exact az [25,13,27,8,25,13,25,13,27,8,100]
 intro _
 refine au [46] ?_
 refine qd (fun ((x19,_):(Int×Unit))=>([(0,.pointer (some ⟨g1,0,none⟩)),(2,qAs x8),(3,qAs x9),(9,.slice a14 x5.length c15),(10,qAs x19),(11,qAs x14),(21,qAs (x13.length:Int)),(22,qAs x14)],[⟨g1,142,[qAs x17.2.1,.slice a4 x3.length c5,qAs x17.2.2]⟩],[Ro eS189 189 2 (.slice a14 x5.length c15) x5],[Sl (eI .u8) 1 (.slice a4 x3.length c5) x3],kU F (zn F x3 x8 x9 x13 k0) x3 x8 x9 x5 x14 x17 x19)) ?_ ?_
 refine av [48,68] ?_ ?_
 intro _
 refine au [99,24,15,34,3] ?_
 intro x20 e1 _
 refine au [16,5,0] ?_
 exact qa (iadd .i64 x10 x20,())
 intro _
 refine au [4,1,78,16,5,0] ?_
 exact qa (iadd .i64 x10 (iadd .i64 x17.1 2),())
 rintro ⟨x19,_⟩
 try dsimp only
 refine au [60,91,1] ?_
 refine kE ent147 rfl rfl rfl (fun x21 e2=>kW F g1 x17.2.1 x3 a4 c5 x17.2.2 x9 x21 e2) (.cons 0 rfl .nil) .nil (.consF 0 rfl .nil) (fun x22 _=>?_) (fun x21 e2=>?_)
 exact az [25,13,27,8,25,13,25,13,27,8,100]
 intro _
 refine au [78] ?_
 refine qr (cells:=[qAs x19,qAs (iadd .i64 x21.1 x8)]) rfl st189 rfl (by kernel_rfl) rfl ?_
 refine au [28,15] ?_
 intro x23 e3 g0 h0
 refine qgW (j:=0) (y':=(x19,iadd .i64 x21.1 x8)) ku rfl rfl rfl tf189 rfl h0 (qQ e3).2.1 rfl (fun x24 e4 h1=>?_)
 have h2:x24.length=x5.length:=by rw[← e4,qzv]
 refine qc (d:=9) (v:=.slice a14 x24.length c15) rfl h1 (qc (d:=38) (v:=.slice a14 x24.length c15) rfl h1 ?_)
 refine au [45,99,1,28,15] ?_
 intro x25 e5 g2 h3
 refine au [12] ?_
 refine qlc (j:=0) (y:=x25) (off:=1) ku rfl rfl tf3 rfl h3 (qQ e5).2.2 rfl (fun _=>rfl) rfl rfl ?_
 refine au [24,13,16,95,2,4,16,1,0] ?_
 exact qg ((x24,iadd .i64 x19 (isub .i64 x25.2 1),iadd .i64 x14 1,x21.2.1,x21.2.2),())
 intro _
 refine au [63] ?_
 exact qa ((x5,x15,x16),())
 rintro ⟨⟨x0,x1,x4⟩,_⟩
 try dsimp only
 refine au [48,49] ?_
 exact qec (a14,c15) (.inl rfl) (res1 rfl rfl) rfl (.cons 0 rfl .nil) (.cons 0 rfl .nil)
set_option maxHeartbeats 4000000 in
theorem qg5 {F:Nat}{x1:qAq}{a2:qAr}{c3:Nat}{x4:Int}{r:qAq}(hm:vK F x1 c3 x4=some r) :
    PureM Tryz.prog 184 [.slice a2 x1.length c3,qAs x4] [] [Ro (eI .i64) 3 1 (.slice a2 x1.length c3) x1] [] (qAr×Nat) (fun g=>.slice g.1 r.length g.2) (fun _=>[]) (fun g=>[Ro (eI .i64) 3 1 (.slice g.1 r.length g.2) r]):=by
 refine zS Tryz.func184 rfl Tryz.ntmps184 rfl hm (fun w=>?_)
 refine av [87,64,75] ?_ ?_
 intro _
 exact az [34,4]
 intro _
 refine au [66] ?_
 refine qd (fun ((x15,(a13,c14)):(qAq×(qAr×Nat)))=>([(0,.slice a13 x15.length c14)],[],[Ro (eI .i64) 3 1 (.slice a13 x15.length c14) x15],[],jE F x15)) ?_ ?_
 refine au [60,34,5,1,21,24,13,24,13,120] ?_
 intro x16 e16
 refine qc (d:=1) (v:=qAs x16) rfl (by rw[e16] <;> rfl) ?_
 refine av [45,48,65] ?_ ?_
 intro _
 refine au [99,34,5,34,6] ?_
 intro x17 e17
 refine au [1] ?_
 refine quR (y:=(0:Int)) 0 (qs .i64) rfl UnF.u UnF.u inferInstance rfl rfl rfl rfl rfl rfl rfl rfl rfl ?_
 intro x18 e18 a19 c20
 refine au [1,21,34,6] ?_
 intro x21 e21
 refine au [5,0] ?_
 exact qa (x21,(a19,c20))
 intro _
 refine au [9] ?_
 exact qa (x1,(a2,c3))
 rintro ⟨x15,⟨a13,c14⟩⟩
 try dsimp only
 refine au [48,49] ?_
 exact zP (a13,c14)
set_option maxHeartbeats 4000000 in
theorem qgc {F:Nat}{x1:List (qAq)}{a2:qAr}{c3:Nat}{s3:List (qAr×Nat)}{r:qAq}(hm:zE F x1=some r) :
    Pure Tryz.prog 153 [.slice a2 x1.length c3] [SlN eN39 iN39 1 (.slice a2 x1.length c3) x1 s3] (qAr×Nat) (fun g=>.slice g.1 r.length g.2) (fun g=>[Ro (eI .i64) 3 1 (.slice g.1 r.length g.2) r]) (fun _=>[]):=by
 refine qi Tryz.func153 rfl Tryz.ntmps153 rfl hm (fun w=>?_)
 refine au [109,53] ?_
 refine qd (fun ((x43,_):(Int×Unit))=>([(0,.slice a2 x1.length c3),(3,qAs x43)],[],[],[SlN eN39 iN39 1 (.slice a2 x1.length c3) x1 s3],ka F x1 x43)) ?_ ?_
 refine au [121,1,45,14] ?_
 refine ql (fun (((x0,x2),_):((Int×Int)×Unit))=>([(0,.slice a2 x1.length c3),(3,qAs x0),(9,.slice a2 x1.length c3),(10,qAs (x1.length:Int)),(11,qAs x2)],[],[],[SlN eN39 iN39 1 (.slice a2 x1.length c3) x1 s3])) (fun k (s:((Int×Int)×Unit))=>qS F x1 k s.1) ((0,0),()) F ?_
 intro k0
 rintro ⟨⟨x0,x2⟩,_⟩
 try dsimp only
 refine qp (m':=qL F x1 (qS F x1 k0) x0 x2) rfl ?_
 refine av [127] ?_ ?_
 intro _
 refine au [90,47,27,0] ?_
 intro x3 e0 g0 b0 o0
 refine av [25,3,46,115,16,46,48,75] ?_ ?_
 intro _
 exact az [34,4]
 intro _
 refine au [9,22,2,4,16,1,0] ?_
 exact qg ((iadd .i64 x0 (x3.length:Int),iadd .i64 x2 1),())
 intro _
 refine au [63] ?_
 exact qa (x0,())
 rintro ⟨x43,_⟩
 try dsimp only
 refine au [48,27,14] ?_
 refine zg qg5 ?_
 rintro x44 e44 ⟨a45,c46⟩
 refine au [46] ?_
 refine qd (fun ((x4,(a0,c0)):(qAq×(qAr×Nat)))=>([(6,.slice a0 x4.length c0)],[],[Ro (eI .i64) 3 1 (.slice a0 x4.length c0) x4],[],vD F x4)) ?_ ?_
 refine au [121,1,45,14] ?_
 refine ql (fun (((x5,x6),(a1,c1)):((qAq×Int)×(qAr×Nat)))=>([(6,.slice a1 x5.length c1),(25,.slice a2 x1.length c3),(26,qAs (x1.length:Int)),(27,qAs x6)],[],[Ro (eI .i64) 3 1 (.slice a1 x5.length c1) x5],[SlN eN39 iN39 1 (.slice a2 x1.length c3) x1 s3])) (fun k (s:((qAq×Int)×(qAr×Nat)))=>qR F x1 k s.1) ((x44,0),(a45,c46)) F ?_
 intro k1
 rintro ⟨⟨x5,x6⟩,⟨a1,c1⟩⟩
 try dsimp only
 refine qp (m':=qK F x1 (qR F x1 k1) x5 x6) rfl ?_
 refine av [127] ?_ ?_
 intro _
 refine au [90,47,27,0] ?_
 intro x7 e1 g1 b1 o1
 refine au [25,3,46,99] ?_
 refine qE 0 (qs .i64) rfl UnF.u inferInstance rfl rfl rfl rfl rfl (.inr ⟨1,rfl⟩) rfl rfl ?_
 intro x8 e2 a3 c2
 refine au [95,2,4,16,1,0] ?_
 exact qg ((x8,iadd .i64 x6 1),(a3,c2))
 intro _
 refine au [63] ?_
 exact qa (x5,(a1,c1))
 rintro ⟨x4,⟨a0,c0⟩⟩
 try dsimp only
 refine au [48,49] ?_
 exact qm (a0,c0)
theorem qg6 {F:Nat}{x1:qAq}{a2:qAr}{c3:Nat}{r:qAq}(hm:zw F x1=some r) :
    PureM Tryz.prog 154 [.slice a2 x1.length c3] [] [Ro (eI .i64) 3 1 (.slice a2 x1.length c3) x1] [] Unit (fun _=>.tuple #[]) (fun _=>[]) (fun _=>[Ro (eI .i64) 3 1 (.slice a2 r.length c3) r]):=by
  unfold zw at hm
  split at hm
  · cases hm
    exact qqA Tryz.slices_Sort_int Tryz.slices_Sort_int_none (by assumption)
  · simp at hm
theorem qlJ {F:Nat}{x1:Int}{x2:Int}{x3:Int}{r:Bool}(hm:qcL F x1 x2 x3=some r) :
    Pure Tryz.prog 200 [qAs x1,qAs x2,qAs x3] [] Unit (fun _=>.bool r) (fun _=>[]) (fun _=>[]):=by
 refine qi Tryz.func200 rfl Tryz.ntmps200 rfl hm (fun w=>?_)
 refine au [25,15,53,60,26,3,1] ?_
 refine qq 4 (decide (x2≤x1)) [(14,.bool ((decide (x2≤x1)) && (decide (x1≤x3))))] (fun h4=>?_) (fun h4=>?_) ?_
 refine qb (os:=_) rfl (qk (k:=10) rfl h4 ?_)
 refine au [91,26,7,24,1] ?_
 refine qc (d:=14) (v:=.bool ((decide (x2≤x1)) && (decide (x1≤x3)))) rfl (by rw[h4];simp only[qx3]) ?_
 exact az [62]
 refine qb (os:=_) rfl (qj (k:=10) rfl h4 ?_)
 refine au [56,6,24,2] ?_
 refine qc (d:=14) (v:=.bool ((decide (x2≤x1)) && (decide (x1≤x3)))) rfl (by rw[h4];simp only[qxW]) ?_
 exact az [62]
 refine qb (os:=_) rfl ?_
 exact az [73]
set_option maxHeartbeats 4000000 in
theorem qlI {F:Nat}{x1:List (Int×Int)}{a2:qAr}{c3:Nat}{r:(qAq×Int)}(hm:qeE F x1=some r) :
    Pure Tryz.prog 179 [.slice a2 x1.length c3] [Sl eS189 2 (.slice a2 x1.length c3) x1] (qAr×Nat) (fun g=>.tuple #[.slice g.1 r.1.length g.2,qAs r.2]) (fun g=>[Ro (eI .i64) 3 1 (.slice g.1 r.1.length g.2) r.1]) (fun _=>[]):=by
 refine qi Tryz.func179 rfl Tryz.ntmps179 rfl hm (fun w=>?_)
 refine av [25,8,47,114,21,65] ?_ ?_
 intro _
 refine au [93,96] ?_
 exact qm (none,0)
 intro _
 refine au [66,53] ?_
 refine qd (fun ((_,_):(Unit×Unit))=>([(0,.slice a2 x1.length c3)],[],[],[Sl eS189 2 (.slice a2 x1.length c3) x1],qbP F x1)) ?_ ?_
 refine au [121,1,45,14] ?_
 refine ql (fun (((x0,x2),_):((Int×Int)×Unit))=>([(0,.slice a2 x1.length c3),(4,qAs x0),(14,.slice a2 x1.length c3),(15,qAs (x1.length:Int)),(16,qAs x2)],[],[],[Sl eS189 2 (.slice a2 x1.length c3) x1])) (fun k (s:((Int×Int)×Unit))=>kO F x1 k s.1) ((-2,0),()) F ?_
 intro k0
 rintro ⟨⟨x0,x2⟩,_⟩
 try dsimp only
 refine qp (m':=qbO F x1 (kO F x1 k0) x0 x2) rfl ?_
 refine av [127] ?_ ?_
 intro _
 refine au [90,47,30,2] ?_
 intro x3 e0 b0 o0
 refine au [30,3,25,0] ?_
 intro g0
 refine au [83,3,14] ?_
 refine qd (fun ((x4,_):(Bool×Unit))=>([(0,.slice a2 x1.length c3),(4,qAs x0),(6,.pointer (some ⟨g0,0,none⟩)),(14,.slice a2 x1.length c3),(15,qAs (x1.length:Int)),(16,qAs x2),(20,.bool x4)],[⟨g0,189,[qAs x3.1,qAs x3.2]⟩],[],[Sl eS189 2 (.slice a2 x1.length c3) x1],jt F (kO F x1 k0) x0 x2 x3 x4)) ?_ ?_
 refine au [94,34,7] ?_
 intro x5 e1 _
 refine av [25,4,46,8] ?_ ?_
 intro _
 refine au [9] ?_
 exact qa ((!x5),())
 intro _
 refine au [94,34,7] ?_
 intro x6 e2 _
 refine av [25,4,46,8] ?_ ?_
 intro _
 refine au [9] ?_
 exact qa ((!x6),())
 intro _
 refine au [4,57,57,16,24,13,24,7,5,0] ?_
 exact qa ((decide (1048576<(isub .i64 (iadd .i64 x3.1 x3.2) 1))),())
 rintro ⟨x4,_⟩
 try dsimp only
 refine av [8] ?_ ?_
 intro _
 refine au [93,49,50,92,25,1] ?_
 exact qm (none,0)
 intro _
 refine av [94,78,23,46,8] ?_ ?_
 intro _
 refine au [93,49,50,92,25,1] ?_
 exact qm (none,0)
 intro _
 refine au [9,22,2,4,57,57,16,24,13,95,2,4,16,1,0] ?_
 exact qg ((isub .i64 (iadd .i64 x3.1 x3.2) 1,iadd .i64 x2 1),())
 intro _
 exact az [119]
 rintro ⟨_,_⟩
 try dsimp only
 refine au [53] ?_
 refine qd (fun ((x7,(a0,c0)):(qAq×(qAr×Nat)))=>([(7,.slice a0 x7.length c0)],[],[Ro (eI .i64) 3 1 (.slice a0 x7.length c0) x7],[],qfT F x7)) ?_ ?_
 refine au [121,1,45,98] ?_
 refine ql (fun (((x8,x9),(a1,c1)):((qAq×Int)×(qAr×Nat)))=>([(7,.slice a1 x8.length c1),(49,.slice a2 x1.length c3),(50,qAs (x1.length:Int)),(51,qAs x9)],[],[Ro (eI .i64) 3 1 (.slice a1 x8.length c1) x8],[Sl eS189 2 (.slice a2 x1.length c3) x1])) (fun k (s:((qAq×Int)×(qAr×Nat)))=>zm F x1 k s.1) ((([]:qAq),0),(none,0)) F ?_
 intro k1
 rintro ⟨⟨x8,x9⟩,⟨a1,c1⟩⟩
 try dsimp only
 refine qp (m':=qbM F x1 (zm F x1 k1) x8 x9) rfl ?_
 refine av [127] ?_ ?_
 intro _
 refine au [66] ?_
 refine qd (fun ((x10,(a3,c2)):(qAq×(qAr×Nat)))=>([(7,.slice a3 x10.length c2),(49,.slice a2 x1.length c3),(50,qAs (x1.length:Int)),(51,qAs x9)],[],[Ro (eI .i64) 3 1 (.slice a3 x10.length c2) x10],[Sl eS189 2 (.slice a2 x1.length c3) x1],qbQ F (zm F x1 k1) x9 x10)) ?_ ?_
 refine au [14,47,30,2] ?_
 intro x11 e3 b1 o1
 refine au [30,3,25,0] ?_
 intro g1
 refine au [83,94,1,45,14] ?_
 refine ql (fun (((x12,x13),(a4,c4)):((qAq×Int)×(qAr×Nat)))=>([(7,.slice a4 x12.length c4),(9,.pointer (some ⟨g1,0,none⟩)),(49,.slice a2 x1.length c3),(50,qAs (x1.length:Int)),(51,qAs x9),(56,qAs x11.2),(57,qAs x13)],[⟨g1,189,[qAs x11.1,qAs x11.2]⟩],[Ro (eI .i64) 3 1 (.slice a4 x12.length c4) x12],[Sl eS189 2 (.slice a2 x1.length c3) x1])) (fun k (s:((qAq×Int)×(qAr×Nat)))=>yK F (zm F x1 k1) x9 x11 k s.1) ((x8,0),(a1,c1)) F ?_
 intro k2
 rintro ⟨⟨x12,x13⟩,⟨a4,c4⟩⟩
 try dsimp only
 refine qp (m':=qbN F (zm F x1 k1) x9 x11 (yK F (zm F x1 k1) x9 x11 k2) x12 x13) rfl ?_
 refine av [127] ?_ ?_
 intro _
 refine au [90,48,46,4,1,57,78] ?_
 refine qx (vs:=[qAs (iadd .i64 x11.1 x13)]) (ys:=([iadd .i64 x11.1 x13]:qAq)) (qs .i64) (by decide) rfl Tryz.underlying39 tf3 rfl rfl rfl rfl rfl (by decide) (fun a5 c5=>qE 1 (qs .i64) rfl Tryz.underlying39 tf3 rfl rfl rfl rfl rfl (.inl ⟨0,_,rfl⟩) rfl rfl (fun x14 e4 a6 c6=>?_))
 refine au [95,2,4,16,1,0] ?_
 exact qg ((x14,iadd .i64 x13 1),(a6,c6))
 intro _
 refine au [63,22] ?_
 exact qa (x12,(a4,c4))
 rintro ⟨x10,⟨a3,c2⟩⟩
 try dsimp only
 refine au [4,16,1,0] ?_
 exact qg ((x10,iadd .i64 x9 1),(a3,c2))
 intro _
 refine au [63] ?_
 exact qa (x8,(a1,c1))
 rintro ⟨x7,⟨a0,c0⟩⟩
 try dsimp only
 refine au [48,5,49] ?_
 exact qm (a0,c0)
theorem qfZ {F:Nat}{x1:qAq}{a2:qAr}{c3:Nat}{r:qAq}(hm:kr F x1=some r) :
    PureM Tryz.prog 180 [.slice a2 x1.length c3] [] [Ro (eI .i64) 3 1 (.slice a2 x1.length c3) x1] [] (qAr×Nat) (fun g=>.slice g.1 r.length g.2) (fun _=>[]) (fun g=>[Ro (eI .i64) 3 1 (.slice g.1 r.length g.2) r]):=by
  unfold kr at hm
  split at hm
  · cases hm
    exact qlP Tryz.slices_Compact_int Tryz.slices_Compact_int_empty (by assumption)
  · simp at hm
theorem qgt {F:Nat}{x1:qAq}{a2:qAr}{c3:Nat}{r:qAq}(hm:vd F x1=some r) :
    Pure Tryz.prog 181 [.slice a2 x1.length c3] [Sl (eI .i64) 1 (.slice a2 x1.length c3) x1] (qAr×Nat) (fun g=>.slice g.1 r.length g.2) (fun g=>[Ro (eI .i64) 3 1 (.slice g.1 r.length g.2) r]) (fun _=>[]):=by
 refine qi Tryz.func181 rfl Tryz.ntmps181 rfl hm (fun w=>?_)
 refine av [109,64,31,12,45,31,13] ?_ ?_
 intro h11
 refine qpy 0 (qs .i64) (by decide) rfl h11 (fun h12=>?_)
 subst h12
 refine qp (m':=some ([]:qAq)) rfl ?_
 refine au [47,96] ?_
 exact qm (none,0)
 intro _
 refine au [66,47,30,13] ?_
 intro a6 c7
 refine au [1,27,15] ?_
 intro x8 e8 a9 c10
 refine au [49] ?_
 exact qm (a9,c10)
set_option maxHeartbeats 4000000 in
theorem qnb {F:Nat}{x1:List (Int×Int)}{a2:qAr}{c3:Nat}{x4:qAq}{a5:qAr}{c6:Nat}{r:(qAq×Int)}(hm:qe5 F x1 x4=some r) :
    Pure Tryz.prog 151 [.slice a2 x1.length c3,.slice a5 x4.length c6] [Sl eS189 2 (.slice a2 x1.length c3) x1,Sl (eI .i64) 1 (.slice a5 x4.length c6) x4] (qAr×Nat) (fun g=>.tuple #[.slice g.1 r.1.length g.2,qAs r.2]) (fun g=>[Ro (eI .i64) 3 1 (.slice g.1 r.1.length g.2) r.1]) (fun _=>[]):=by
 refine qi Tryz.func151 rfl Tryz.ntmps151 rfl hm (fun w=>?_)
 refine au [124,67,48] ?_
 refine qf qlI ?_
 rintro x7 e7 ⟨a8,c9⟩
 refine au [79,67] ?_
 refine qd (fun ((x12,_):(Int×Unit))=>([(1,.slice a5 x4.length c6),(6,.slice a8 x7.1.length c9),(7,qAs x12)],[],[Ro (eI .i64) 3 1 (.slice a8 x7.1.length c9) x7.1],[Sl (eI .i64) 1 (.slice a5 x4.length c6) x4],qa1 F x4 x7 x12)) ?_ ?_
 refine av [48,68] ?_ ?_
 intro _
 refine au [4,1,28,13] ?_
 intro x38 e38 _
 refine au [5,0] ?_
 exact qa (x38,())
 intro _
 refine au [9] ?_
 exact qa (x7.2,())
 rintro ⟨x12,_⟩
 try dsimp only
 refine av [64,71] ?_ ?_
 intro _
 refine au [48,5,96] ?_
 exact qm (none,0)
 intro _
 refine au [66,60,34,8] ?_
 refine qx (vs:=[.slice a8 x7.1.length c9,.slice a5 x4.length c6]) (ys:=([(x7.1,(a8,c9)),(x4,(a5,c6))]:List (qAq×(qAr×Nat)))) vf (by decide) rfl Tryz.underlying22 tf39 rfl rfl rfl rfl rfl (by decide) (fun a14 c15=>qmD (inn:=iN39) ([x7.1,x4]:List (qAq)) ([(a8,c9),(a5,c6)]:List (qAr×Nat)) 0 rfl rfl (qG 0 rfl (qG 1 rfl jF)) ?_)
 refine au [34,9] ?_
 rintro x16 e16 ⟨a17,c18⟩
 refine au [46,48,34,10] ?_
 intro x19 e19 _
 refine au [26,0] ?_
 intro h20
 replace h20:=of_decide_eq_true h20
 refine qc (d:=8) (v:=.slice a17 x19.length c18) rfl (by rw[h20] <;> rfl) (qc (d:=24) (v:=.slice a17 x19.length c18) rfl (by rw[h20] <;> rfl) (qc (d:=25) (v:=.slice a17 x19.length c18) rfl (by rw[h20] <;> rfl) ?_))
 refine au [45,3,14,48] ?_
 refine qf qgt ?_
 rintro x29 e29 ⟨a30,c31⟩
 refine zg qfZ ?_
 rintro x32 e32 ⟨a33,c34⟩
 refine av [21,1,21,23,46,8] ?_ ?_
 intro _
 refine au [93,49,50,25,1] ?_
 exact qm (none,0)
 intro _
 refine av [121,24,7,46,8] ?_ ?_
 intro _
 refine au [93,49,50,25,1] ?_
 exact qm (none,0)
 intro _
 refine au [9,22,2,48,5,49] ?_
 exact qm (a17,c18)
set_option maxHeartbeats 4000000 in
theorem qh6 {F:Nat}{x1:Int}{x2:qAq}{a3:qAr}{c4:Nat}{x5:Int}{x6:Int}{r:(Int×Int×Bool)}(hm:zp F x1 x2 x5 x6=some r) :
    Pure Tryz.prog 201 [.agg #[qAs x1,.slice a3 x2.length c4],qAs x5,.int .u64 x6] [Sl (eI .u8) 1 (.slice a3 x2.length c4) x2] Unit (fun _=>.tuple #[.int .u64 r.1,qAs r.2.1,.bool r.2.2]) (fun _=>[]) (fun _=>[]):=by
 refine qi Tryz.func201 rfl Tryz.ntmps201 rfl hm (fun w=>?_)
 refine au [104] ?_
 intro g7
 refine au [5,67,48,32,15] ?_
 intro x8 e8 _
 refine au [79,67] ?_
 refine qd (fun ((_,_):(Unit×Unit))=>([(1,qAs x5),(3,.pointer (some ⟨g7,0,none⟩)),(9,qAs x8.1),(10,.int .u64 x8.2)],[⟨g7,29,[qAs x1,.slice a3 x2.length c4]⟩],[],[Sl (eI .u8) 1 (.slice a3 x2.length c4) x2],zv F x1 x2 x5 x8)) ?_ ?_
 refine av [48,65] ?_ ?_
 intro _
 refine au [80,1,85,29,5] ?_
 intro x15 e15 _
 refine av [79,114,102] ?_ ?_
 intro _
 exact az [93,5,55,11,18]
 intro _
 refine av [66,60,75] ?_ ?_
 intro _
 exact az [60,78,24,13,5,5,82]
 intro _
 exact az [9,26,5]
 intro _
 exact az [9,26,5]
 rintro ⟨_,_⟩
 try dsimp only
 refine au [80,91,29,5] ?_
 intro x14 e14 _
 exact az [79,67,60,24,13,1,78,1,5,5,73]
theorem qkd {F:Nat}{x1:Int}{x2:Int}{x3:Bool}{r:(Int×Int×Int)}(hm:qdM F x1 x2 x3=some r) :
    Pure Tryz.prog 202 [.int .u64 x1,qAs x2,.bool x3] [] Unit (fun _=>.tuple #[.int .u64 r.1,qAs r.2.1,qAs r.2.2]) (fun _=>[]) (fun _=>[]):=by
 refine qi Tryz.func202 rfl Tryz.ntmps202 rfl hm (fun w=>?_)
 refine av [25,15,93,67,3,14,48,25,4,46,8] ?_ ?_
 intro _
 exact az [93,5,49,50,18]
 intro _
 refine av [48,24,7,46,8] ?_ ?_
 intro _
 exact az [93,5,49,50,18]
 intro _
 exact az [9,22,2,60,5,5,73]
set_option maxHeartbeats 4000000 in
theorem qiB {F:Nat}{x1:Int}{x2:qAq}{a3:qAr}{c4:Nat}{x5:Int}{x6:Int}{r:(Int×Int×Int)}(hm:qbA F x1 x2 x5 x6=some r) :
    Pure Tryz.prog 182 [.agg #[qAs x1,.slice a3 x2.length c4],qAs x5,qAs x6] [Sl (eI .u8) 1 (.slice a3 x2.length c4) x2] Unit (fun _=>.tuple #[.int .u64 r.1,qAs r.2.1,qAs r.2.2]) (fun _=>[]) (fun _=>[]):=by
 refine qi Tryz.func182 rfl Tryz.ntmps182 rfl hm (fun w=>?_)
 refine au [104] ?_
 intro g7
 refine au [5,67,80,1,33,14] ?_
 intro x8 e8 _
 refine av [129,5,114,102] ?_ ?_
 intro _
 exact az [93,5,82]
 intro _
 refine av [89,60,24,15,26,6,26,3,51] ?_ ?_
 intro _
 exact az [93,5,82]
 intro _
 refine au [66,48,24,15,1,26,6,26,0] ?_
 intro h11
 refine qbU rfl rfl rfl rfl h11 ?_
 refine au [120] ?_
 intro x12 e12
 refine qc (d:=12) (v:=.int .u64 x12) rfl (by rw[e12] <;> rfl) ?_
 refine au [45,3,27,5] ?_
 intro h17
 refine qB mixed [] [⟨g7,29,[qAs x1,.slice a3 x2.length c4]⟩] [Sl (eI .u8) 1 (.slice a3 x2.length c4) x2] (.cons 0 rfl .nil) (qF 0 rfl qA) 15 rfl (kZ 0 (.agg #[qAs x1,.slice a3 x2.length c4]) rfl rfl rfl (zN (i:=0) rfl tf29 rfl rfl (by simp) rfl) ?_)
 refine au [7,1,7,2,7,3] ?_
 refine qo 4 (.int .u64 (ishl .u64 x12 x6)) rfl rfl rfl (qhw rfl rfl h17) ?_
 refine au [130,24,9,7] ?_
 refine qf qh6 ?_
 intro x20 e20 _
 refine au [0,28,1,7,8,7,9,7,10,7,11,112,7,14,24,14] ?_
 refine qM ?_ (by intro c h;cases h)
 refine au [2,60,16,24,13,91] ?_
 refine qf qkd ?_
 intro x21 e21 _
 exact az [59,13,5,5,73]
set_option maxHeartbeats 4000000 in
theorem qh5 {F:Nat}{g1:Nat}{x2:Int}{x3:Bool}{x4:Int}{r:(Bool×Int×Bool)}(hm:kz F x2 x3 x4=some r) :
    PureM Tryz.prog 183 [.pointer (some ⟨g1,0,none⟩),.int .u64 x4] [⟨g1,248,[qAs x2,.bool x3]⟩] [] [] Unit (fun _=>.bool r.1) (fun _=>[⟨g1,248,[qAs r.2.1,.bool r.2.2]⟩]) (fun _=>[]):=by
 refine zS Tryz.func183 rfl Tryz.ntmps183 rfl hm (fun w=>?_)
 refine av [87,64,65] ?_ ?_
 intro _
 exact az [47,55,30,4]
 intro _
 refine au [66] ?_
 refine qd (fun ((x8,_):(Int×Unit))=>([(0,.pointer (some ⟨g1,0,none⟩))],[⟨g1,248,[qAs x8,.bool x3]⟩],[],[],ya F x8)) ?_ ?_
 refine av [48,131,51] ?_ ?_
 intro _
 refine au [4,1,131,1,135,16,88,125] ?_
 exact qa (iadd .i64 x2 (iadd .i64 (iconv .i64 x4) 1),())
 intro _
 refine qB mixed [9] [] [(BlkD.is ⟨g1,248,[qAs x2,.bool x3]⟩)] .nil (qjS 0 rfl qA) 10 rfl ?_
 refine au [72,24,4,2] ?_
 refine qJ 3 (qAs x2) [[9]] rfl rfl rfl (jC (j:=0) rfl tf3 rfl rfl (fun _=>rfl) rfl) ?_
 refine au [7,4,24,9,5,34,3] ?_
 intro x10 e10 _
 refine au [0,29,15,7,6,7,7,24,4,8,24,9,9,125] ?_
 refine qeO 9 rfl (by kernel_rfl) .nil ?_
 refine au [24,14] ?_
 exact qM (qa (iadd .i64 x2 x10,())) (by intro c h;cases h)
 rintro ⟨x8,_⟩
 try dsimp only
 refine au [48,88,83,48,131,32,2] ?_
 intro x9 e9 _
 exact az [49,30,4]
set_option maxHeartbeats 4000000 in
theorem qor {F:Nat}{x1:Int}{x2:qAq}{a3:qAr}{c4:Nat}{x5:Int}{x6:Int}{x7:Int}{x8:Int}{r:(qAq×Int×Int)}(hm:qfO F x1 x2 x5 x6 x7 x8=some r) :
    Pure Tryz.prog 152 [.agg #[qAs x1,.slice a3 x2.length c4],qAs x5,qAs x6,qAs x7,qAs x8] [Sl (eI .u8) 1 (.slice a3 x2.length c4) x2] (qAr×Nat) (fun g=>.tuple #[.slice g.1 r.1.length g.2,qAs r.2.1,qAs r.2.2]) (fun g=>[Ro (eI .i64) 3 1 (.slice g.1 r.1.length g.2) r.1]) (fun _=>[]):=by
 refine qi Tryz.func152 rfl Tryz.ntmps152 rfl hm (fun w=>?_)
 refine au [27,13,58] ?_
 intro g9
 refine au [5,67,48] ?_
 refine qr (cells:=[qAs x6,.bool false]) rfl st248 rfl (by kernel_rfl) rfl ?_
 refine au [24,3] ?_
 intro g10
 refine au [46] ?_
 refine qd (fun (((x0,x3),(a0,c0)):((Int×qAq)×(qAr×Nat)))=>([(1,qAs x0),(10,.slice a0 x3.length c0)],[],[Ro (eI .i64) 3 1 (.slice a0 x3.length c0) x3],[],qfq F x0 x3)) ?_ ?_
 refine au [60,45,98] ?_
 refine ql (fun (((x4,x9,x10,x11,x12),(a1,c1)):((Int×qAq×Int×Int×Bool)×(qAr×Nat)))=>([(1,qAs x4),(3,qAs x7),(5,.pointer (some ⟨g9,0,none⟩)),(10,.slice a1 x9.length c1),(13,.pointer (some ⟨g10,0,none⟩)),(18,qAs x8),(19,qAs x10)],[⟨g10,248,[qAs x11,.bool x12]⟩,⟨g9,29,[qAs x1,.slice a3 x2.length c4]⟩],[Ro (eI .i64) 3 1 (.slice a1 x9.length c1) x9],[Sl (eI .u8) 1 (.slice a3 x2.length c4) x2])) (fun k (s:((Int×qAq×Int×Int×Bool)×(qAr×Nat)))=>j7 F x1 x2 x7 x8 k s.1) ((x5,([]:qAq),0,x6,false),(none,0)) F ?_
 intro k0
 rintro ⟨⟨x4,x9,x10,x11,x12⟩,⟨a1,c1⟩⟩
 try dsimp only
 refine qp (m':=qdL F x1 x2 x7 x8 (j7 F x1 x2 x7 x8 k0) x4 x9 x10 x11 x12) rfl ?_
 refine av [127] ?_ ?_
 intro _
 refine au [90,53,3,107,91] ?_
 refine qf qiB ?_
 intro x13 e0 _
 refine av [129,5,67,48,71] ?_ ?_
 intro _
 refine au [48,5,5,55,92,25,1] ?_
 exact qm (none,0)
 intro _
 refine au [89,60] ?_
 refine zg qh5 ?_
 intro x14 e1 _
 refine av [102] ?_ ?_
 intro _
 refine au [93,5,55,92,25,1] ?_
 exact qm (none,0)
 intro _
 refine au [66,99,131] ?_
 refine qx (vs:=[qAs x14.2.1]) (ys:=([x14.2.1]:qAq)) (qs .i64) (by decide) rfl Tryz.underlying39 tf3 rfl rfl rfl rfl rfl (by decide) (fun a2 c2=>qE 1 (qs .i64) rfl Tryz.underlying39 tf3 rfl rfl rfl rfl rfl (.inl ⟨0,_,rfl⟩) rfl rfl (fun x15 e2 a4 c3=>?_))
 refine au [95,2,4,16,1,0] ?_
 exact qg ((x13.2.1,x15,iadd .i64 x10 1,x14.2.1,x14.2.2),(a4,c3))
 intro _
 refine au [63] ?_
 exact qa ((x4,x9),(a1,c1))
 rintro ⟨⟨x0,x3⟩,⟨a0,c0⟩⟩
 try dsimp only
 refine au [60,5,5,49] ?_
 exact qm (a0,c0)
set_option maxHeartbeats 4000000 in
theorem qia (F:Nat)(g1:Nat)(x2:Int)(x3:qAq)(a4:qAr)(c5:Nat)(x6:Int)(x7:Int)(x8:qAq)(a9:qAr)(c10:Nat)(x11:Int)(x12:Int)(x13:Int)(r:((qAq×Int×Int) ⊕ (Int×Int)))(hm:vE F x2 x3 x6 x7 x8 x11 x12 x13=some r) :
    PureL Tryz.prog 113 [.pointer (some ⟨g1,0,none⟩),qAs x7,.slice a9 x8.length c10,.agg #[qAs x11,qAs x12,qAs x13]] [⟨g1,142,[qAs x2,.slice a4 x3.length c5,qAs x6]⟩] [] [Sl (eI .u8) 1 (.slice a4 x3.length c5) x3,Sl (eI .i64) 1 (.slice a9 x8.length c10) x8] lostCh (qAr×Nat) (fun (r:(qAq×Int×Int)) (g:(qAr×Nat))=>.slice g.1 r.1.length g.2) (fun (r:(qAq×Int×Int)) (_:(qAr×Nat))=>[⟨g1,142,[qAs r.2.1,.slice a4 x3.length c5,qAs r.2.2]⟩]) (fun (r:(qAq×Int×Int)) (g:(qAr×Nat))=>[Ro (eI .i64) 3 1 (.slice g.1 r.1.length g.2) r.1]) (fun (z:(Int×Int))=>[⟨g1,142,[qAs z.1,.slice a4 x3.length c5,qAs z.2]⟩]) r:=by
 refine qhl Tryz.func113 rfl Tryz.ntmps113 rfl hm (fun w=>?_)
 refine au [27,6,58] ?_
 intro g14
 refine au [46,48] ?_
 refine kE ent147 rfl rfl rfl (fun x15 e15=>kW F g1 x2 x3 a4 c5 x6 300 x15 e15) (.cons 1 rfl .nil) .nil (.consF 0 rfl .nil) (fun x16 _=>?_) (fun x15 e15=>?_)
 exact az [100]
 intro _
 refine av [46,64,68] ?_ ?_
 intro _
 refine au [47,96] ?_
 exact qec (none,0) (.inl rfl) (res1 rfl rfl) rfl (.cons 0 rfl .nil) (.cons 0 rfl .nil)
 intro _
 refine au [66,53] ?_
 refine qd (fun (((x31,x32,x33),(a29,c30)):((qAq×Int×Int)×(qAr×Nat)))=>([(0,.pointer (some ⟨g1,0,none⟩)),(1,qAs x7),(7,.pointer (some ⟨g14,0,none⟩)),(9,qAs x15.1),(10,.slice a29 x31.length c30)],[⟨g1,142,[qAs x32,.slice a4 x3.length c5,qAs x33]⟩,⟨g14,26,[qAs x11,qAs x12,qAs x13]⟩],[Ro (eI .i64) 3 1 (.slice a29 x31.length c30) x31],[Sl (eI .u8) 1 (.slice a4 x3.length c5) x3],yb F x3 x7 x12 x13 x15 x31 x32 x33)) ?_ ?_
 refine av [47,69,65] ?_ ?_
 intro _
 refine au [53,60,1,21] ?_
 refine kE ent149 rfl rfl rfl (fun x72 e72=>qg8 F g1 x15.2.1 x3 a4 c5 x15.2.2 (x8.length:Int) x72 e72) (.cons 0 rfl .nil) .nil (.consF 0 rfl .nil) (fun x73 _=>?_) (fun x72 e72=>?_)
 exact az [25,13,100]
 rintro ⟨a74,c75⟩
 refine qf qm9 ?_
 rintro x76 e76 ⟨a77,c78⟩
 refine au [79,67,4,1,106] ?_
 refine qq 5 ((x76.2:Int) == 0) [(0,.pointer (some ⟨g1,0,none⟩)),(1,qAs x7),(7,.pointer (some ⟨g14,0,none⟩)),(9,qAs x15.1),(10,.slice a77 x76.1.length c78),(41,.bool (((x76.2:Int) == 0) && (decide ((x76.1.length:Int)≤x15.1))))] (fun h79=>?_) (fun h79=>?_) ?_
 refine qb (os:=_) rfl (qk (k:=36) rfl h79 ?_)
 refine au [1,21,1,26,7,24,1] ?_
 refine qc (d:=41) (v:=.bool (((x76.2:Int) == 0) && (decide ((x76.1.length:Int)≤x15.1)))) rfl (by rw[h79];simp only[qx3]) ?_
 exact az [62]
 refine qb (os:=_) rfl (qj (k:=36) rfl h79 ?_)
 refine au [61,24,2] ?_
 refine qc (d:=41) (v:=.bool (((x76.2:Int) == 0) && (decide ((x76.1.length:Int)≤x15.1)))) rfl (by rw[h79];simp only[qxW]) ?_
 exact az [62]
 refine qb (os:=_) rfl (kE ent114 rfl rfl rfl (fun x80 e80=>qah F (((x76.2:Int) == 0) && (decide ((x76.1.length:Int)≤x15.1))) x80 e80) .nil .nil .nil (fun x81 _=>?_) (fun x80 e80=>?_))
 exact az [100]
 intro _
 refine au [0] ?_
 exact qa ((x76.1,x72.2.1,x72.2.2),(a77,c78))
 intro _
 refine au [9,25,1] ?_
 exact qa ((([]:qAq),x15.2.1,x15.2.2),(none,0))
 rintro ⟨⟨x31,x32,x33⟩,⟨a29,c30⟩⟩
 try dsimp only
 refine av [115,24,13,46,64,68] ?_ ?_
 intro _
 refine au [48,55] ?_
 exact qec (a29,c30) (.inl rfl) (res1 rfl rfl) rfl (.cons 0 rfl .nil) (.cons 0 rfl .nil)
 intro _
 refine au [66,53] ?_
 refine qd (fun (((x42,x43,x44),(a40,c41)):((List (Int×Int)×Int×Int)×(qAr×Nat)))=>([(0,.pointer (some ⟨g1,0,none⟩)),(1,qAs x7),(7,.pointer (some ⟨g14,0,none⟩)),(10,.slice a29 x31.length c30),(12,qAs (isub .i64 x15.1 (x31.length:Int))),(13,.slice a40 x42.length c41)],[⟨g1,142,[qAs x43,.slice a4 x3.length c5,qAs x44]⟩,⟨g14,26,[qAs x11,qAs x12,qAs x13]⟩],[Ro (eI .i64) 3 1 (.slice a29 x31.length c30) x31,Ro eS189 189 2 (.slice a40 x42.length c41) x42],[Sl (eI .u8) 1 (.slice a4 x3.length c5) x3],yc F x3 x7 x13 x15 x31 x42 x43 x44)) ?_ ?_
 refine av [47,69,65] ?_ ?_
 intro _
 refine au [99,69,1] ?_
 refine kE ent150 rfl rfl rfl (fun x66 e66=>qic F g1 x32 x3 a4 c5 x33 x7 x12 (isub .i64 x15.1 (x31.length:Int)) x66 e66) (.cons 0 rfl .nil) .nil (.consF 0 rfl .nil) (fun x67 _=>?_) (fun x66 e66=>?_)
 exact az [100]
 rintro ⟨a68,c69⟩
 refine au [5,0] ?_
 exact qa ((x66.1,x66.2.1,x66.2.2),(a68,c69))
 intro _
 refine au [9] ?_
 exact qgX (Int×Int) eS189 189 2 (qa ((([]:List (Int×Int)),x32,x33),(none,0)))
 rintro ⟨⟨x42,x43,x44⟩,⟨a40,c41⟩⟩
 try dsimp only
 refine au [48,27,14] ?_
 refine qf qnb ?_
 rintro x45 e45 ⟨a46,c47⟩
 refine au [79,67,48,106] ?_
 refine qq 5 ((x45.2:Int) == 0) [(0,.pointer (some ⟨g1,0,none⟩)),(1,qAs x7),(7,.pointer (some ⟨g14,0,none⟩)),(10,.slice a29 x31.length c30),(12,qAs (isub .i64 x15.1 (x31.length:Int))),(14,.slice a46 x45.1.length c47),(71,.bool (((x45.2:Int) == 0) && (decide ((x45.1.length:Int)≤(isub .i64 x15.1 (x31.length:Int))))))] (fun h48=>?_) (fun h48=>?_) ?_
 refine qb (os:=_) rfl (qk (k:=66) rfl h48 ?_)
 refine au [1,21,1,26,7,24,1] ?_
 refine qc (d:=71) (v:=.bool (((x45.2:Int) == 0) && (decide ((x45.1.length:Int)≤(isub .i64 x15.1 (x31.length:Int)))))) rfl (by rw[h48];simp only[qx3]) ?_
 exact az [62]
 refine qb (os:=_) rfl (qj (k:=66) rfl h48 ?_)
 refine au [61,24,2] ?_
 refine qc (d:=71) (v:=.bool (((x45.2:Int) == 0) && (decide ((x45.1.length:Int)≤(isub .i64 x15.1 (x31.length:Int)))))) rfl (by rw[h48];simp only[qxW]) ?_
 exact az [62]
 refine qb (os:=_) rfl (kE ent114 rfl rfl rfl (fun x49 e49=>qah F (((x45.2:Int) == 0) && (decide ((x45.1.length:Int)≤(isub .i64 x15.1 (x31.length:Int))))) x49 e49) .nil .nil .nil (fun x50 _=>?_) (fun x49 e49=>?_))
 exact az [100]
 intro _
 refine au [45,3] ?_
 refine qB mixed [] [⟨g1,142,[qAs x43,.slice a4 x3.length c5,qAs x44]⟩,⟨g14,26,[qAs x11,qAs x12,qAs x13]⟩] [Sl (eI .u8) 1 (.slice a4 x3.length c5) x3] (.cons 0 rfl (.cons 0 rfl .nil)) (qF 0 rfl qA) 23 rfl ?_
 refine au [72,24,4,2] ?_
 refine kZ 3 (.agg #[qAs x43,.slice a4 x3.length c5]) rfl rfl rfl (zN (i:=0) rfl tf29 rfl rfl (by simp) rfl) ?_
 refine au [7,4,7,5,24,4,6,25,12,7,7,8,24,4,9,28,5,10,7,11,7,12,28,12,13,7,14,24,9,15] ?_
 refine qf qor ?_
 rintro x54 e54 ⟨a55,c56⟩
 refine au [0,30,5,7,16,7,17,7,18,7,19,7,20,7,21,7,22,24,14] ?_
 refine qM ?_ (by intro c h;cases h)
 refine au [2,48,24,11] ?_
 refine kE ent114 rfl rfl rfl (fun x57 e57=>qah F ((x54.2.2:Int) == 0) x57 e57) .nil .nil .nil (fun x58 _=>?_) (fun x57 e57=>?_)
 exact az [100]
 intro _
 refine au [45,60,88,83,60,1] ?_
 refine qiw 3 rfl ?_
 refine au [34,11,34,8] ?_
 refine qx (vs:=[.slice a29 x31.length c30,.slice a46 x45.1.length c47,.slice a55 x54.1.length c56]) (ys:=([(x31,(a29,c30)),(x45.1,(a46,c47)),(x54.1,(a55,c56))]:List (qAq×(qAr×Nat)))) vf (by decide) rfl Tryz.underlying22 tf39 rfl rfl rfl rfl rfl (by decide) (fun a59 c60=>qmD (inn:=iN39) ([x31,x45.1,x54.1]:List (qAq)) ([(a29,c30),(a46,c47),(a55,c56)]:List (qAr×Nat)) 0 rfl rfl (qG 2 rfl (qG 1 rfl (qG 0 rfl jF))) ?_)
 refine au [34,9] ?_
 rintro x61 e61 ⟨a62,c63⟩
 refine au [46,48,34,10] ?_
 intro x64 e64 _
 refine au [26,0] ?_
 intro h65
 replace h65:=of_decide_eq_true h65
 refine qc (d:=10) (v:=.slice a62 x64.length c63) rfl (by rw[h65] <;> rfl) (qc (d:=104) (v:=.slice a62 x64.length c63) rfl (by rw[h65] <;> rfl) (qc (d:=105) (v:=.slice a62 x64.length c63) rfl (by rw[h65] <;> rfl) ?_))
 refine au [45,48,49] ?_
 exact qec (a62,c63) (.inl rfl) (res1 rfl rfl) rfl (.cons 0 rfl .nil) (.cons 0 rfl .nil)
set_option maxHeartbeats 4000000 in
theorem qib {F:Nat}{g1:Nat}{x2:Int}{x3:qAq}{a4:qAr}{c5:Nat}{x6:Int}{x7:Int}{x8:qAq}{a9:qAr}{c10:Nat}{x11:Int}{x12:Int}{x13:Int}{r:(qAq×Bool×Int×Int)}(hm:vF F x2 x3 x6 x7 x8 x11 x12 x13=some r) :
    PureM Tryz.prog 85 [.pointer (some ⟨g1,0,none⟩),qAs x7,.slice a9 x8.length c10,.agg #[qAs x11,qAs x12,qAs x13]] [⟨g1,142,[qAs x2,.slice a4 x3.length c5,qAs x6]⟩] [] [Sl (eI .u8) 1 (.slice a4 x3.length c5) x3,Sl (eI .i64) 1 (.slice a9 x8.length c10) x8] (qAr×Nat) (fun g=>.tuple #[.slice g.1 r.1.length g.2,.bool r.2.1]) (fun _=>[⟨g1,142,[qAs r.2.2.1,.slice a4 x3.length c5,qAs r.2.2.2]⟩]) (fun g=>[Ro (eI .i64) 3 1 (.slice g.1 r.1.length g.2) r.1]):=by
 refine qt3 Tryz.func85 rfl Tryz.ntmps85 rfl hm (fun w=>?_)
 refine au [27,6,58] ?_
 intro g14
 refine au [25,0] ?_
 intro g15
 refine au [25,0] ?_
 intro g16
 refine au [45,47,29,0] ?_
 refine qsS rfl rfl ?_
 refine au [45,48,88,28,10,46,60,1,26,1] ?_
 refine kE ent113 rfl rfl rfl (fun x17 e17=>qia F g1 x2 x3 a4 c5 x6 x7 x8 a9 c10 x11 x12 x13 x17 e17) (.cons 3 rfl .nil) .nil (.consF 0 rfl (.consF 1 rfl .nil)) (fun x18 _=>?_) (fun x17 e17=>?_)
 refine au [25,13] ?_
 refine qfI ent112 rfl (.cons 2 rfl (.cons 1 rfl .nil)) (qiO _ _ _ _) ?_
 refine au [25,1] ?_
 exact vx (none,0) (resL (rs:=[.cell 8 39,.cell 9 4]) rfl (.cell (i:=0) rfl tf39 rfl rfl (fun _=>rfl) rfl (.cell (i:=1) rfl tf4 rfl rfl (fun _=>rfl) rfl ResOk.nil)) rfl) (hB:=fun h=>by subst h;exact (.cons 2 rfl .nil)) (hR:=fun h=>by subst h;exact (.cons 0 rfl .nil))
 rintro ⟨a19,c20⟩
 refine au [27,3,45,47,26,10,28,13] ?_
 intro x21 e21 _
 refine au [24,11] ?_
 refine kE ent114 rfl rfl rfl (fun x22 e22=>qah F ((x21:Int) == 0) x22 e22) .nil .nil .nil (fun x23 _=>?_) (fun x22 e22=>?_)
 refine au [25,13] ?_
 refine qfI ent112 rfl (.cons 2 rfl (.cons 1 rfl .nil)) (qiO _ _ _ _) ?_
 refine au [25,1] ?_
 exact vx (none,0) (resL (rs:=[.cell 8 39,.cell 9 4]) rfl (.cell (i:=0) rfl tf39 rfl rfl (fun _=>rfl) rfl (.cell (i:=1) rfl tf4 rfl rfl (fun _=>rfl) rfl ResOk.nil)) rfl) (hB:=fun h=>by subst h;exact (.cons 2 rfl .nil)) (hR:=fun h=>by subst h;exact (.cons 0 rfl .nil))
 intro _
 refine au [45,47] ?_
 refine qr (cells:=[qAs 0,.slice none 0 0,.bool false]) rfl st179 rfl (by kernel_rfl) rfl ?_
 refine au [24,3] ?_
 intro g24
 refine au [46,60,28,10,1] ?_
 refine yq (i:=4) rfl rfl inferInstance rfl rfl (by simp) rfl rfl ?_
 refine au [27,7,33,4] ?_
 rintro x25 e25 ⟨a26,c27⟩
 refine au [45] ?_
 refine qd (fun ((_,_):(Unit×Unit))=>([(0,.pointer (some ⟨g1,0,none⟩)),(8,.pointer (some ⟨g15,0,none⟩)),(9,.pointer (some ⟨g16,0,none⟩)),(10,qAs x6),(11,.pointer (some ⟨g24,0,none⟩))],[⟨g24,179,[qAs x25.1,.slice a26 x25.2.1.length c27,.bool x25.2.2]⟩,⟨g1,142,[qAs x17.2.1,.slice a4 x3.length c5,qAs x17.2.2]⟩,⟨g16,4,[.bool false]⟩,⟨g15,39,[.slice a19 x17.1.length c20]⟩],[Ro (eI .u8) 5 1 (.slice a26 x25.2.1.length c27) x25.2.1,Ro (eI .i64) 3 1 (.slice a19 x17.1.length c20) x17.1],[Sl (eI .u8) 1 (.slice a4 x3.length c5) x3],vM F x3 x6 x17 x25)) ?_ ?_
 refine av [27,2] ?_ ?_
 intro h97
 refine qjq mixed [8,9] [] [⟨g24,179,[qAs x25.1,.slice a26 x25.2.1.length c27,.bool x25.2.2]⟩,⟨g1,142,[qAs x17.2.1,.slice a4 x3.length c5,qAs x17.2.2]⟩,⟨g16,4,[.bool false]⟩,⟨g15,39,[.slice a19 x17.1.length c20]⟩,⟨g14,26,[qAs x11,qAs x12,qAs x13]⟩] [Sl (eI .u8) 1 (.slice a4 x3.length c5) x3,Sl (eI .i64) 1 (.slice a9 x8.length c10) x8] (.cons 0 rfl (.cons 0 rfl (.cons 0 rfl (.cons 0 rfl (.cons 0 rfl .nil))))) (qF 0 rfl (qF 1 rfl qA)) 20 rfl ?_
 refine au [30,14,30,15,31,0] ?_
 refine qeb 3 (.bool x25.2.2) rfl rfl rfl (zN (i:=0) rfl tf4 rfl rfl (fun _=>rfl) rfl) rfl ?_
 refine au [31,1,34,12] ?_
 refine qh (d:=40) (v:=.bool true) rfl (by rw[h97] <;> rfl) ?_
 refine au [34,13,34,14,34,15] ?_
 refine zR 9 _ rfl rfl rfl (jB rfl inferInstance) rfl (qeb 10 (qAs x25.1) rfl rfl rfl (zN (i:=0) rfl tf3 rfl rfl (fun _=>rfl) rfl) rfl ?_)
 refine au [35,0,35,1] ?_
 refine zR 13 _ rfl rfl rfl (jB rfl inferInstance) rfl (qeb 14 (qAs x17.2.2) rfl rfl rfl (zN (i:=1) rfl tf3 rfl rfl (fun _=>rfl) rfl) rfl (zR 15 _ rfl rfl rfl (qag rfl) rfl (zR 16 _ rfl rfl rfl (qag rfl) rfl (zR 17 _ rfl rfl rfl (qag rfl) rfl ?_))))
 refine au [35,2,24,9,19] ?_
 refine kE ent114 rfl rfl rfl (fun x98 e98=>qah F ((x25.1:Int) == (isub .i64 x17.2.2 x6)) x98 e98) .nil .nil .nil (fun x99 _=>?_) (fun x98 e98=>?_)
 refine au [25,13] ?_
 refine qn7 (l':=[(8,.pointer (some ⟨g15,0,none⟩)),(9,.pointer (some ⟨g16,0,none⟩))]) (qhC rfl rfl (qhC rfl rfl qqa)) ?_
 refine au [25,13] ?_
 refine qfI ent112 rfl (.cons 3 rfl (.cons 2 rfl .nil)) (qiO _ _ _ _) ?_
 refine au [25,1] ?_
 exact vx (none,0) (resL (rs:=[.cell 8 39,.cell 9 4]) rfl (.cell (i:=0) rfl tf39 rfl rfl (fun _=>rfl) rfl (.cell (i:=1) rfl tf4 rfl rfl (fun _=>rfl) rfl ResOk.nil)) rfl) (hB:=fun h=>by subst h;exact (.cons 3 rfl .nil)) (hR:=fun h=>by subst h;exact (.cons 0 rfl .nil))
 intro _
 refine au [0,35,3,24,14] ?_
 refine qqH ?_ (by intro c h;cases h)
 exact az [26,5]
 intro h97
 refine qjq mixed [8,9] [] [⟨g24,179,[qAs x25.1,.slice a26 x25.2.1.length c27,.bool x25.2.2]⟩,⟨g1,142,[qAs x17.2.1,.slice a4 x3.length c5,qAs x17.2.2]⟩,⟨g16,4,[.bool false]⟩,⟨g15,39,[.slice a19 x17.1.length c20]⟩,⟨g14,26,[qAs x11,qAs x12,qAs x13]⟩] [Sl (eI .u8) 1 (.slice a4 x3.length c5) x3,Sl (eI .i64) 1 (.slice a9 x8.length c10) x8] (.cons 0 rfl (.cons 0 rfl (.cons 0 rfl (.cons 0 rfl (.cons 0 rfl .nil))))) (qF 0 rfl (qF 1 rfl qA)) 20 rfl ?_
 refine au [30,14,30,15,31,0] ?_
 refine qeb 3 (.bool x25.2.2) rfl rfl rfl (zN (i:=0) rfl tf4 rfl rfl (fun _=>rfl) rfl) rfl ?_
 refine au [31,1,34,12] ?_
 refine qh (d:=40) (v:=.bool false) rfl (by rw[h97] <;> rfl) (jd 6 rfl rfl rfl rfl (jd 7 rfl rfl rfl rfl (jd 8 rfl rfl rfl rfl (jd 9 rfl rfl rfl rfl (jd 10 rfl rfl rfl rfl (jd 11 rfl rfl rfl rfl (jd 12 rfl rfl rfl rfl (jd 13 rfl rfl rfl rfl (jd 14 rfl rfl rfl rfl (jd 15 rfl rfl rfl rfl (jd 16 rfl rfl rfl rfl (jd 17 rfl rfl rfl rfl ?_))))))))))))
 refine au [35,2,24,9,19] ?_
 refine kE ent114 rfl rfl rfl (fun x0 e0=>qah F false x0 e0) .nil .nil .nil (fun x1 _=>?_) (fun x0 e0=>?_)
 refine au [25,13] ?_
 refine qn7 (l':=[(8,.pointer (some ⟨g15,0,none⟩)),(9,.pointer (some ⟨g16,0,none⟩))]) (qhC rfl rfl (qhC rfl rfl qqa)) ?_
 refine au [25,13] ?_
 refine qfI ent112 rfl (.cons 3 rfl (.cons 2 rfl .nil)) (qiO _ _ _ _) ?_
 refine au [25,1] ?_
 exact vx (none,0) (resL (rs:=[.cell 8 39,.cell 9 4]) rfl (.cell (i:=0) rfl tf39 rfl rfl (fun _=>rfl) rfl (.cell (i:=1) rfl tf4 rfl rfl (fun _=>rfl) rfl ResOk.nil)) rfl) (hB:=fun h=>by subst h;exact (.cons 3 rfl .nil)) (hR:=fun h=>by subst h;exact (.cons 0 rfl .nil))
 intro _
 refine au [0,35,3,24,14] ?_
 refine qqH ?_ (by intro c h;cases h)
 exact az [26,5]
 rintro ⟨_,_⟩
 try dsimp only
 refine qd (fun ((_,_):(Unit×Unit))=>([(8,.pointer (some ⟨g15,0,none⟩)),(9,.pointer (some ⟨g16,0,none⟩))],[⟨g1,142,[qAs x17.2.1,.slice a4 x3.length c5,qAs x17.2.2]⟩,⟨g16,4,[.bool false]⟩,⟨g15,39,[.slice a19 x17.1.length c20]⟩],[Ro (eI .i64) 3 1 (.slice a19 x17.1.length c20) x17.1],[Sl (eI .u8) 1 (.slice a4 x3.length c5) x3],qdW F x17)) ?_ ?_
 refine au [48,88,57,1,45,14] ?_
 refine ql (fun ((x75,_):(Int×Unit))=>([(0,.pointer (some ⟨g1,0,none⟩)),(8,.pointer (some ⟨g15,0,none⟩)),(9,.pointer (some ⟨g16,0,none⟩)),(10,qAs x6),(11,.pointer (some ⟨g24,0,none⟩)),(59,qAs x25.1),(60,qAs x75)],[⟨g24,179,[qAs x25.1,.slice a26 x25.2.1.length c27,.bool x25.2.2]⟩,⟨g1,142,[qAs x17.2.1,.slice a4 x3.length c5,qAs x17.2.2]⟩,⟨g16,4,[.bool false]⟩,⟨g15,39,[.slice a19 x17.1.length c20]⟩],[Ro (eI .u8) 5 1 (.slice a26 x25.2.1.length c27) x25.2.1,Ro (eI .i64) 3 1 (.slice a19 x17.1.length c20) x17.1],[Sl (eI .u8) 1 (.slice a4 x3.length c5) x3])) (fun k (s:(Int×Unit))=>zx F x3 x6 x17 x25 k s.1) (0,()) F ?_
 intro k86
 rintro ⟨x75,_⟩
 try dsimp only
 refine qp (m':=vL F x3 x6 x17 x25 (zx F x3 x6 x17 x25 k86) x75) rfl ?_
 refine av [127] ?_ ?_
 intro _
 refine au [90,48,46] ?_
 refine qjq mixed [8,9] [] [⟨g24,179,[qAs x25.1,.slice a26 x25.2.1.length c27,.bool x25.2.2]⟩,⟨g1,142,[qAs x17.2.1,.slice a4 x3.length c5,qAs x17.2.2]⟩,⟨g16,4,[.bool false]⟩,⟨g15,39,[.slice a19 x17.1.length c20]⟩] [Sl (eI .u8) 1 (.slice a4 x3.length c5) x3] (.cons 0 rfl (.cons 0 rfl (.cons 0 rfl (.cons 0 rfl .nil)))) (qF 0 rfl qA) 16 rfl ?_
 refine au [30,14,30,15,31,0] ?_
 refine qeb 3 (.agg #[qAs x25.1,.slice a26 x25.2.1.length c27]) rfl rfl rfl (zN (i:=0) rfl tf29 rfl rfl (by simp) rfl) rfl ?_
 refine au [31,1,34,13,34,14,34,15] ?_
 refine qeb 9 (.agg #[qAs x17.2.1,.slice a4 x3.length c5]) rfl rfl rfl (zN (i:=1) rfl tf29 rfl rfl (by simp) rfl) rfl (zR 10 _ rfl rfl rfl (qag rfl) rfl ?_)
 refine au [35,0,35,1,24,9,5,28,2] ?_
 intro x92 e92 _
 refine au [0,31,2,24,9,13,28,2] ?_
 intro x93 e93 _
 refine au [0,31,2] ?_
 refine zR 14 _ rfl rfl rfl (qag rfl) rfl ?_
 refine au [24,9,15] ?_
 refine kE ent114 rfl rfl rfl (fun x94 e94=>qah F ((x92:Int) == x93) x94 e94) .nil .nil .nil (fun x95 _=>?_) (fun x94 e94=>?_)
 refine au [25,13] ?_
 refine qn7 (l':=[(8,.pointer (some ⟨g15,0,none⟩)),(9,.pointer (some ⟨g16,0,none⟩))]) (qhC rfl rfl (qhC rfl rfl qqa)) ?_
 refine au [27,8,25,13,25,13,27,8,25,13] ?_
 refine qfI ent112 rfl (.cons 3 rfl (.cons 2 rfl .nil)) (qiO _ _ _ _) ?_
 refine au [25,1] ?_
 exact vx (none,0) (resL (rs:=[.cell 8 39,.cell 9 4]) rfl (.cell (i:=0) rfl tf39 rfl rfl (fun _=>rfl) rfl (.cell (i:=1) rfl tf4 rfl rfl (fun _=>rfl) rfl ResOk.nil)) rfl) (hB:=fun h=>by subst h;exact (.cons 3 rfl .nil)) (hR:=fun h=>by subst h;exact (.cons 0 rfl .nil))
 intro _
 refine au [0,31,2,24,14] ?_
 refine qqH ?_ (by intro c h;cases h)
 refine au [22,2,4,16,1,0] ?_
 exact qg (iadd .i64 x75 1,())
 intro _
 exact az [119]
 rintro ⟨_,_⟩
 try dsimp only
 refine au [47,26,10,27,3,25,6,45,10] ?_
 exact qqI (.inl rfl) ent112 rfl (qvx _ _) (vx (a19,c20) (resL (rs:=[.cell 8 39,.cell 9 4]) rfl (.cell (i:=2) rfl tf39 rfl rfl (fun _=>rfl) rfl (.cell (i:=1) rfl tf4 rfl rfl (fun _=>rfl) rfl ResOk.nil)) rfl) (hB:=fun h=>by subst h;exact (.cons 0 rfl .nil)) (hR:=fun h=>by subst h;exact (.cons 0 rfl .nil)))
theorem qjx {F:Nat}{x1:Int}{x2:qAq}{a3:qAr}{c4:Nat}{x5:Int}{x6:Int}{x7:qAq}{a8:qAr}{c9:Nat}{x10:Int}{x11:Int}{x12:Int}{r:(qAq×Int×Int)}(hm:qak F x1 x2 x5 x6 x7 x10 x11 x12=some r) :
    Pure Tryz.prog 56 [.agg #[qAs x1,.slice a3 x2.length c4],qAs x5,qAs x6,.slice a8 x7.length c9,.agg #[qAs x10,qAs x11,qAs x12]] [Sl (eI .u8) 1 (.slice a3 x2.length c4) x2,Sl (eI .i64) 1 (.slice a8 x7.length c9) x7] (qAr×Nat) (fun g=>.tuple #[.slice g.1 r.1.length g.2,qAs r.2.1,qAs r.2.2]) (fun g=>[Ro (eI .i64) 3 1 (.slice g.1 r.1.length g.2) r.1]) (fun _=>[]):=by
 refine qi Tryz.func56 rfl Tryz.ntmps56 rfl hm (fun w=>?_)
 refine au [27,13,58] ?_
 intro g13
 refine au [24,3] ?_
 intro g14
 refine au [5,67,107,1] ?_
 refine qr (cells:=[qAs x1,.slice a3 x2.length c4,qAs x5]) rfl st142 rfl (by kernel_rfl) rfl ?_
 refine au [24,3] ?_
 intro g15
 refine au [46,60,1,25,5] ?_
 refine zg qib ?_
 rintro x16 e16 ⟨a17,c18⟩
 refine av [79,114,102] ?_ ?_
 intro _
 refine au [93,5,96] ?_
 exact qm (none,0)
 intro _
 refine au [89] ?_
 refine qB mixed [] [⟨g15,142,[qAs x16.2.2.1,.slice a3 x2.length c4,qAs x16.2.2.2]⟩,⟨g14,26,[qAs x10,qAs x11,qAs x12]⟩,⟨g13,29,[qAs x1,.slice a3 x2.length c4]⟩] [Sl (eI .u8) 1 (.slice a3 x2.length c4) x2,Sl (eI .i64) 1 (.slice a8 x7.length c9) x7] (.cons 0 rfl (.cons 0 rfl (.cons 0 rfl .nil))) (qF 0 rfl (qF 1 rfl qA)) 8 rfl ?_
 refine au [105,133,130,7,7,24,14] ?_
 refine qM ?_ (by intro c h;cases h)
 refine au [2,10] ?_
 exact qm (a17,c18)
set_option maxHeartbeats 4000000 in
theorem qm8 {F:Nat}{x1:Int}{x2:Int}{x3:Int}{x4:Int}{x5:Int}{x6:qAq}{a7:qAr}{c8:Nat}{r:(List (qAq)×Bool)}(hm:qgB F x1 x2 x3 x4 x5 x6=some r) :
    Pure Tryz.prog 38 [.agg #[qAs x1,qAs x2,qAs x3,qAs x4,qAs x5,.slice a7 x6.length c8]] [Sl (eI .u8) 1 (.slice a7 x6.length c8) x6] (qAr×(Nat×List (qAr×Nat))) (fun g=>.tuple #[.slice g.1 r.1.length g.2.1,.bool r.2]) (fun g=>[RoN eN39 rN39 39 1 (.slice g.1 r.1.length g.2.1) r.1 g.2.2 []]) (fun _=>[]):=by
 refine qi Tryz.func38 rfl Tryz.ntmps38 rfl hm (fun w=>?_)
 refine au [108] ?_
 intro g9
 refine au [67,53] ?_
 refine qd (fun (((x0,x7),(a0,c0)):((List (qAq)×Int)×(qAr×(Nat×List (qAr×Nat)))))=>([(1,.pointer (some ⟨g9,0,none⟩)),(2,.slice a0 x0.length c0.1),(4,qAs x7)],[⟨g9,31,[qAs x1,qAs x2,qAs x3,qAs x4,qAs x5,.slice a7 x6.length c8]⟩],[RoN eN39 rN39 39 1 (.slice a0 x0.length c0.1) x0 c0.2 []],[Sl (eI .u8) 1 (.slice a7 x6.length c8) x6],qeU F x5 x0 x7)) ?_ ?_
 refine au [94,1,45,14,35,4] ?_
 refine ql (fun (((x8,x9,x10),(a1,c1)):((List (qAq)×Int×Int)×(qAr×(Nat×List (qAr×Nat)))))=>([(1,.pointer (some ⟨g9,0,none⟩)),(2,.slice a1 x8.length c1.1),(4,qAs x9),(14,qAs x1),(15,qAs x10)],[⟨g9,31,[qAs x1,qAs x2,qAs x3,qAs x4,qAs x5,.slice a7 x6.length c8]⟩],[RoN eN39 rN39 39 1 (.slice a1 x8.length c1.1) x8 c1.2 []],[Sl (eI .u8) 1 (.slice a7 x6.length c8) x6])) (fun k (s:((List (qAq)×Int×Int)×(qAr×(Nat×List (qAr×Nat)))))=>k8 F x1 x2 x3 x4 x5 x6 k s.1) ((([]:List (qAq)),0,0),(none,(0,([]:List (qAr×Nat))))) F ?_
 intro k0
 rintro ⟨⟨x8,x9,x10⟩,⟨a1,c1⟩⟩
 try dsimp only
 refine qp (m':=qc8 F x1 x2 x3 x4 x5 x6 (k8 F x1 x2 x3 x4 x5 x6 k0) x8 x9 x10) rfl ?_
 refine av [127] ?_ ?_
 intro _
 refine au [66] ?_
 refine qd (fun (((x11,x12),(a2,c2)):((List (qAq)×Int)×(qAr×(Nat×List (qAr×Nat)))))=>([(1,.pointer (some ⟨g9,0,none⟩)),(2,.slice a2 x11.length c2.1),(4,qAs x12),(14,qAs x1),(15,qAs x10)],[⟨g9,31,[qAs x1,qAs x2,qAs x3,qAs x4,qAs x5,.slice a7 x6.length c8]⟩],[RoN eN39 rN39 39 1 (.slice a2 x11.length c2.1) x11 c2.2 []],[Sl (eI .u8) 1 (.slice a7 x6.length c8) x6],qaZ F (k8 F x1 x2 x3 x4 x5 x6 k0) x10 x11 x12)) ?_ ?_
 refine au [14,48,46,80,91] ?_
 refine qf qkf ?_
 intro x13 e0 _
 refine av [129,5,114,102] ?_ ?_
 intro _
 refine au [93,55,92,26,9] ?_
 exact qm (none,(0,([]:List (qAr×Nat))))
 intro _
 refine av [66,53,64,65] ?_ ?_
 intro _
 refine au [99,85] ?_
 refine qpB (j:=0) rfl UnF.u inferInstance rfl rfl rfl rfl ?_
 intro x14 e1 g0 h0 g1 h1
 refine qmE (i:=0) rfl h0 (List.not_mem_nil) (qlb (j:=1) (p:=(x14,g0)) vf rfl rfl tf39 rfl h1 h0 rfl (fun _=>rfl) rfl rfl ?_)
 refine au [46,47,103,25,0] ?_
 intro g2
 refine au [83,48,12,83,47,128,91,1,24,8,35,5] ?_
 rintro x15 e2 ⟨a3,c3⟩
 refine au [129,5,67,3,3] ?_
 refine qk3 (rin:=rN39) (p:=(x14,g0)) (i:=1) (k:=0) (.cons 1 rfl .nil) rfl rfl h0 ?_
 refine av [4,1,71] ?_ ?_
 intro _
 refine au [93,55,92,26,9] ?_
 exact qm (none,(0,([]:List (qAr×Nat))))
 intro _
 refine au [66,99] ?_
 refine qx (vs:=[.slice a3 x15.1.length c3]) (ys:=([(x15.1,(a3,c3))]:List (qAq×(qAr×Nat)))) vf (by decide) rfl Tryz.underlying22 tf39 rfl rfl rfl rfl rfl (by decide) (fun a4 c4=>qfG (rin:=rN39) (i:=0) ([x15.1]:List (qAq)) ([(a3,c3)]:List (qAr×Nat)) rfl rfl (.cons 1 rfl .nil) ?_)
 refine au [35,6] ?_
 intro x16 e3 a5 c5
 refine au [1,5,95] ?_
 exact qa ((x16,x15.2.1),(a5,(c5,(c1.2++([(a3,c3)]:List (qAr×Nat))))))
 intro _
 refine au [66,47,103,25,0] ?_
 intro g3
 refine au [83,48,12,83,47,128,91,1,24,8,27,14,35,5] ?_
 rintro x17 e4 ⟨a6,c6⟩
 refine av [129,5,114,71] ?_ ?_
 intro _
 refine au [93,55,92,26,9] ?_
 exact qm (none,(0,([]:List (qAr×Nat))))
 intro _
 refine au [66,99] ?_
 refine qx (vs:=[.slice a6 x17.1.length c6]) (ys:=([(x17.1,(a6,c6))]:List (qAq×(qAr×Nat)))) vf (by decide) rfl Tryz.underlying22 tf39 rfl rfl rfl rfl rfl (by decide) (fun a8 c7=>qfG (rin:=rN39) (i:=0) ([x17.1]:List (qAq)) ([(a6,c6)]:List (qAr×Nat)) rfl rfl (.cons 0 rfl .nil) (qk7 vf rfl UnF.u inferInstance rfl rfl rfl rfl (.cons 2 rfl (.cons 0 rfl .nil)) rfl rfl ?_))
 intro x18 e5 a9 c9
 refine au [1,5,95] ?_
 exact qa ((x18,x17.2.1),(a9,(c9,(c1.2++([(a6,c6)]:List (qAr×Nat))))))
 rintro ⟨⟨x11,x12⟩,⟨a2,c2⟩⟩
 try dsimp only
 refine au [4,16,1,0] ?_
 exact qg ((x11,x12,iadd .i64 x10 1),(a2,c2))
 intro _
 refine au [63] ?_
 exact qa ((x8,x9),(a1,c1))
 rintro ⟨⟨x0,x7⟩,⟨a0,c0⟩⟩
 try dsimp only
 refine au [3] ?_
 refine qB mixed [] [⟨g9,31,[qAs x1,qAs x2,qAs x3,qAs x4,qAs x5,.slice a7 x6.length c8]⟩] [Sl (eI .u8) 1 (.slice a7 x6.length c8) x6] (.cons 0 rfl .nil) (qF 0 rfl qA) 8 rfl ?_
 refine au [72,24,4,2,133,130,7,7,24,14] ?_
 refine qM ?_ (by intro c h;cases h)
 refine au [2,10] ?_
 exact qm (a0,c0)
set_option maxHeartbeats 4000000 in
theorem qf0 {F:Nat}{x1:qAq}{a2:qAr}{c3:Nat}{x4:qAq}{a5:qAr}{c6:Nat}{r:Bool}(hm:q6 F x1 x4=some r) :
    Pure Tryz.prog 39 [.slice a2 x1.length c3,.slice a5 x4.length c6] [Sl (eI .u8) 1 (.slice a2 x1.length c3) x1,Sl (eI .u8) 1 (.slice a5 x4.length c6) x4] Unit (fun _=>.bool r) (fun _=>[]) (fun _=>[]):=by
 refine qi Tryz.func39 rfl Tryz.ntmps39 rfl hm (fun w=>?_)
 refine av [87,64,21,1,21,71] ?_ ?_
 intro _
 exact az [47,82]
 intro _
 refine au [66] ?_
 refine qd (fun ((_,_):(Unit×Unit))=>([],[],[],[],qbR F)) ?_ ?_
 refine au [121,1,45,14] ?_
 refine ql (fun ((x0,_):(Int×Unit))=>([(0,.slice a2 x1.length c3),(1,.slice a5 x4.length c6),(12,qAs (x1.length:Int)),(13,qAs x0)],[],[],[Sl (eI .u8) 1 (.slice a2 x1.length c3) x1,Sl (eI .u8) 1 (.slice a5 x4.length c6) x4])) (fun k (s:(Int×Unit))=>qU F x1 x4 k s.1) (0,()) F ?_
 intro k0
 rintro ⟨x0,_⟩
 try dsimp only
 refine qp (m':=zr F x1 x4 (qU F x1 x4 k0) x0) rfl ?_
 refine av [127] ?_ ?_
 intro _
 refine au [90,48,46,3,30,10] ?_
 intro x2 e0 b0 o0 h0
 replace h0:a2=some ⟨b0,o0,none⟩:=h0
 refine au [35,7] ?_
 intro x3 e1 b1 o1 h1
 replace h1:a5=some ⟨b1,o1,none⟩:=h1
 refine qB mixed [] [] [qv b1 (o1+x0.toNat*1) ((eI .u8) x3),qv b0 (o0+x0.toNat*1) ((eI .u8) x2),Sl (eI .u8) 1 (.slice a2 x1.length c3) x1,Sl (eI .u8) 1 (.slice a5 x4.length c6) x4] .nil (qF 0 rfl (qF 1 rfl (qF 2 rfl (qF 3 rfl qA)))) 9 rfl ?_
 refine au [72] ?_
 refine qh (d:=16) (v:=.slice (some ⟨b0,o0,none⟩) x1.length c3) rfl (by rw[h0] <;> rfl) (qo 2 (.pointer (some ⟨b0,(o0+x0.toNat*1),none⟩)) rfl rfl rfl (yV Tryz.underlying27 tf5 rfl rfl (qQ e0).1 (kC e0)) (qh (d:=16) (v:=.slice a2 x1.length c3) rfl (by rw[h0] <;> rfl) (qJ 3 (.int .u8 x2) [] rfl rfl rfl (zJ (j:=1) rfl tf5 rfl rfl (fun _=>rfl) rfl) ?_)))
 refine au [7,4,7,5] ?_
 refine qh (d:=20) (v:=.slice (some ⟨b1,o1,none⟩) x4.length c6) rfl (by rw[h1] <;> rfl) (qo 6 (.pointer (some ⟨b1,(o1+x0.toNat*1),none⟩)) rfl rfl rfl (yV Tryz.underlying27 tf5 rfl rfl (qQ e1).1 (kC e1)) (qh (d:=20) (v:=.slice a5 x4.length c6) rfl (by rw[h1] <;> rfl) (qJ 7 (.int .u8 x3) [] rfl rfl rfl (zJ (j:=0) rfl tf5 rfl rfl (fun _=>rfl) rfl) ?_)))
 refine au [7,8,24,14] ?_
 refine qM ?_ (by intro c h;cases h)
 refine av [2,8] ?_ ?_
 intro _
 exact az [47,49,92,18]
 intro _
 refine au [9,22,2,4,16,1,0] ?_
 exact qg (iadd .i64 x0 1,())
 intro _
 exact az [119]
 rintro ⟨_,_⟩
 try dsimp only
 exact az [47,73]
set_option maxHeartbeats 4000000 in
theorem qot {F:Nat}{x1:Int}{x2:Int}{x3:Int}{x4:Int}{x5:Int}{x6:qAq}{a7:qAr}{c8:Nat}{r:(List (qAq)×Int)}(hm:qfP F x1 x2 x3 x4 x5 x6=some r) :
    Pure Tryz.prog 20 [.agg #[qAs x1,qAs x2,qAs x3,qAs x4,qAs x5,.slice a7 x6.length c8]] [Sl (eI .u8) 1 (.slice a7 x6.length c8) x6] (qAr×(Nat×List (qAr×Nat))) (fun g=>.tuple #[.agg #[.slice g.1 r.1.length g.2.1],qAs r.2]) (fun g=>[RoN eN39 rN39 39 1 (.slice g.1 r.1.length g.2.1) r.1 g.2.2 []]) (fun _=>[]):=by
 refine qi Tryz.func20 rfl Tryz.ntmps20 rfl hm (fun w=>?_)
 refine au [108] ?_
 intro g9
 refine au [25,0] ?_
 intro g10
 refine au [46,3,107] ?_
 refine qf qm6 ?_
 intro x13 e13 _
 refine av [46,48,71] ?_ ?_
 intro _
 refine au [47] ?_
 refine qr (cells:=[.slice none 0 0]) rfl st24 rfl (by kernel_rfl) rfl ?_
 refine au [1,24,10,55,26,9] ?_
 exact qu (none,(0,([]:List (qAr×Nat)))) (resL (rs:=[.cell 2 24,.tmp 3]) rfl (.cell (i:=0) rfl tf24 rfl rfl (by simp) rfl (.tmp rfl ResOk.nil)) rfl) (fun h=>by subst h;exact (.cons 0 rfl .nil))
 intro _
 refine au [66,107] ?_
 refine qf qm8 ?_
 rintro x14 e14 ⟨a15,c16⟩
 refine av [79,114,102] ?_ ?_
 intro _
 refine au [47] ?_
 refine qr (cells:=[.slice none 0 0]) rfl st24 rfl (by kernel_rfl) rfl ?_
 refine au [24,10,55,26,9] ?_
 exact qu (none,(0,([]:List (qAr×Nat)))) (resL (rs:=[.cell 2 24,.tmp 3]) rfl (.cell (i:=0) rfl tf24 rfl rfl (by simp) rfl (.tmp rfl ResOk.nil)) rfl) (fun h=>by subst h;exact (.cons 0 rfl .nil))
 intro _
 refine au [66,48] ?_
 refine qr (cells:=[.slice a15 x14.1.length c16.1]) rfl st24 rfl (by kernel_rfl) rfl ?_
 refine au [25,0] ?_
 intro g18
 refine au [83,3,80,12,26,1,33,13] ?_
 rintro x28 e28 ⟨a29,c30⟩
 refine au [111] ?_
 intro g31
 refine au [101,48,25,2,1] ?_
 refine qD 9 (fun ((x34,_):(Bool×Unit))=>([(2,.pointer (some ⟨g10,0,none⟩)),(7,.pointer (some ⟨g18,0,none⟩)),(44,.bool x34)],[⟨g18,24,[.slice a15 x14.1.length c16.1]⟩,⟨g10,24,[.slice none 0 0]⟩],[RoN eN39 rN39 39 1 (.slice a15 x14.1.length c16.1) x14.1 c16.2 []],[],qdP F x14 x34)) ?_ ?_
 refine qb (os:=_) rfl ?_
 refine av [25,7] ?_ ?_
 intro h32
 refine qk (k:=35) rfl h32 ?_
 refine au [61,61,74] ?_
 exact qa (true,())
 intro h32
 refine qj (k:=35) rfl h32 ?_
 refine au [12,57,12,12,28,10,29,6] ?_
 intro x36 e36 _
 refine au [25,4,76] ?_
 exact qa ((!x36),())
 rintro ⟨x34,_⟩
 try dsimp only
 refine qb (os:=_) rfl ?_
 refine av [51] ?_ ?_
 intro _
 refine au [47] ?_
 refine qr (cells:=[.slice none 0 0]) rfl st24 rfl (by kernel_rfl) rfl ?_
 refine au [132,26,9] ?_
 exact qu (none,(0,([]:List (qAr×Nat)))) (resL (rs:=[.cell 2 24,.tmp 3]) rfl (.cell (i:=1) rfl tf24 rfl rfl (by simp) rfl (.tmp rfl ResOk.nil)) rfl) (fun h=>by subst h;exact (.cons 0 rfl .nil))
 intro _
 refine au [66,80,25,6,49] ?_
 exact qu (a15,c16) (resL (rs:=[.cell 2 24,.tmp 3]) rfl (.cell (i:=1) rfl tf24 rfl rfl (by simp) rfl (.tmp rfl ResOk.nil)) rfl) (fun h=>by subst h;exact (.cons 0 rfl .nil))
set_option maxHeartbeats 4000000 in
theorem qnd {F:Nat}{x1:Int}{x2:Int}{x3:Int}{x4:Int}{x5:qAq}{a6:qAr}{c7:Nat}{x8:Int}{x9:qAq}{a10:qAr}{c11:Nat}{x12:Int}{x13:Int}{x14:Int}{x15:Int}{x16:qAq}{a17:qAr}{c18:Nat}{x19:Int}{x20:qAq}{a21:qAr}{c22:Nat}{r:Bool}(hm:qe6 F x1 x2 x3 x4 x5 x8 x9 x12 x13 x14 x15 x16 x19 x20=some r) :
    Pure Tryz.prog 34 [.agg #[qAs x1,qAs x2,qAs x3,qAs x4,.slice a6 x5.length c7,qAs x8,.slice a10 x9.length c11],.agg #[qAs x12,qAs x13,qAs x14,qAs x15,.slice a17 x16.length c18,qAs x19,.slice a21 x20.length c22]] [Sl (eI .u8) 1 (.slice a6 x5.length c7) x5,Sl (eI .u8) 1 (.slice a10 x9.length c11) x9,Sl (eI .u8) 1 (.slice a17 x16.length c18) x16,Sl (eI .u8) 1 (.slice a21 x20.length c22) x20] Unit (fun _=>.bool r) (fun _=>[]) (fun _=>[]):=by
 refine qi Tryz.func34 rfl Tryz.ntmps34 rfl hm (fun w=>?_)
 refine au [77] ?_
 intro g23
 refine au [24,3] ?_
 intro g24
 refine au [46,47,69,57,106] ?_
 refine qq 6 ((x1:Int) == x12) [(2,.pointer (some ⟨g23,0,none⟩)),(3,.pointer (some ⟨g24,0,none⟩)),(16,.bool (((x1:Int) == x12) && ((x2:Int) == x13)))] (fun h25=>?_) (fun h25=>?_) ?_
 refine qb (os:=_) rfl (qk (k:=10) rfl h25 ?_)
 refine au [69,57,97] ?_
 refine qc (d:=16) (v:=.bool (((x1:Int) == x12) && ((x2:Int) == x13))) rfl (by rw[h25];simp only[qx3]) ?_
 exact az [62]
 refine qb (os:=_) rfl (qj (k:=10) rfl h25 ?_)
 refine au [61,6,24,2] ?_
 refine qc (d:=16) (v:=.bool (((x1:Int) == x12) && ((x2:Int) == x13))) rfl (by rw[h25];simp only[qxW]) ?_
 exact az [62]
 refine qb (os:=_) rfl ?_
 refine au [1] ?_
 refine qq 6 (((x1:Int) == x12) && ((x2:Int) == x13)) [(2,.pointer (some ⟨g23,0,none⟩)),(3,.pointer (some ⟨g24,0,none⟩)),(23,.bool ((((x1:Int) == x12) && ((x2:Int) == x13)) && ((x3:Int) == x14)))] (fun h26=>?_) (fun h26=>?_) ?_
 refine qb (os:=_) rfl (qk (k:=17) rfl h26 ?_)
 refine au [69,57,97] ?_
 refine qc (d:=23) (v:=.bool ((((x1:Int) == x12) && ((x2:Int) == x13)) && ((x3:Int) == x14))) rfl (by rw[h26];simp only[qx3]) ?_
 exact az [62]
 refine qb (os:=_) rfl (qj (k:=17) rfl h26 ?_)
 refine au [61,6,24,2] ?_
 refine qc (d:=23) (v:=.bool ((((x1:Int) == x12) && ((x2:Int) == x13)) && ((x3:Int) == x14))) rfl (by rw[h26];simp only[qxW]) ?_
 exact az [62]
 refine qb (os:=_) rfl ?_
 refine au [1] ?_
 refine qq 8 ((((x1:Int) == x12) && ((x2:Int) == x13)) && ((x3:Int) == x14)) [(2,.pointer (some ⟨g23,0,none⟩)),(3,.pointer (some ⟨g24,0,none⟩)),(32,.bool (((((x1:Int) == x12) && ((x2:Int) == x13)) && ((x3:Int) == x14)) && ((x4:Int) == x15)))] (fun h27=>?_) (fun h27=>?_) ?_
 refine qb (os:=_) rfl (qk (k:=24) rfl h27 ?_)
 refine au [12,69,12,57,97] ?_
 refine qc (d:=32) (v:=.bool (((((x1:Int) == x12) && ((x2:Int) == x13)) && ((x3:Int) == x14)) && ((x4:Int) == x15))) rfl (by rw[h27];simp only[qx3]) ?_
 exact az [62]
 refine qb (os:=_) rfl (qj (k:=24) rfl h27 ?_)
 refine au [61,56,6,24,2] ?_
 refine qc (d:=32) (v:=.bool (((((x1:Int) == x12) && ((x2:Int) == x13)) && ((x3:Int) == x14)) && ((x4:Int) == x15))) rfl (by rw[h27];simp only[qxW]) ?_
 exact az [62]
 refine qb (os:=_) rfl ?_
 refine au [1] ?_
 refine qq 8 (((((x1:Int) == x12) && ((x2:Int) == x13)) && ((x3:Int) == x14)) && ((x4:Int) == x15)) [(2,.pointer (some ⟨g23,0,none⟩)),(3,.pointer (some ⟨g24,0,none⟩)),(41,.bool ((((((x1:Int) == x12) && ((x2:Int) == x13)) && ((x3:Int) == x14)) && ((x4:Int) == x15)) && ((x8:Int) == x19)))] (fun h28=>?_) (fun h28=>?_) ?_
 refine qb (os:=_) rfl (qk (k:=33) rfl h28 ?_)
 refine au [12,69,12,57,97] ?_
 refine qc (d:=41) (v:=.bool ((((((x1:Int) == x12) && ((x2:Int) == x13)) && ((x3:Int) == x14)) && ((x4:Int) == x15)) && ((x8:Int) == x19))) rfl (by rw[h28];simp only[qx3]) ?_
 exact az [62]
 refine qb (os:=_) rfl (qj (k:=33) rfl h28 ?_)
 refine au [61,56,6,24,2] ?_
 refine qc (d:=41) (v:=.bool ((((((x1:Int) == x12) && ((x2:Int) == x13)) && ((x3:Int) == x14)) && ((x4:Int) == x15)) && ((x8:Int) == x19))) rfl (by rw[h28];simp only[qxW]) ?_
 exact az [62]
 refine qb (os:=_) rfl ?_
 refine au [1] ?_
 refine qD 8 (fun ((x31,_):(Bool×Unit))=>([(2,.pointer (some ⟨g23,0,none⟩)),(3,.pointer (some ⟨g24,0,none⟩)),(50,.bool x31)],[⟨g24,33,[qAs x12,qAs x13,qAs x14,qAs x15,.slice a17 x16.length c18,qAs x19,.slice a21 x20.length c22]⟩,⟨g23,33,[qAs x1,qAs x2,qAs x3,qAs x4,.slice a6 x5.length c7,qAs x8,.slice a10 x9.length c11]⟩],[],[Sl (eI .u8) 1 (.slice a17 x16.length c18) x16,Sl (eI .u8) 1 (.slice a21 x20.length c22) x20,Sl (eI .u8) 1 (.slice a6 x5.length c7) x5,Sl (eI .u8) 1 (.slice a10 x9.length c11) x9],qdd F x9 x20 x31)) ?_ ?_
 refine qb (os:=_) rfl ?_
 refine av [25,7] ?_ ?_
 intro h29
 refine qk (k:=42) rfl h29 ?_
 refine au [12,69,12,57,29,6] ?_
 intro x36 e36 _
 refine au [74] ?_
 exact qa (x36,())
 intro h29
 refine qj (k:=42) rfl h29 ?_
 refine au [61,56,6,76] ?_
 exact qa (false,())
 rintro ⟨x31,_⟩
 try dsimp only
 refine qb (os:=_) rfl ?_
 refine au [1] ?_
 refine qD 8 (fun ((x34,_):(Bool×Unit))=>([(59,.bool x34)],[],[],[],qde F x34)) ?_ ?_
 refine qb (os:=_) rfl ?_
 refine av [25,7] ?_ ?_
 intro h32
 refine qk (k:=51) rfl h32 ?_
 refine au [12,69,12,57,29,6] ?_
 intro x35 e35 _
 refine au [74] ?_
 exact qa (x35,())
 intro h32
 refine qj (k:=51) rfl h32 ?_
 refine au [61,56,6,76] ?_
 exact qa (false,())
 rintro ⟨x34,_⟩
 try dsimp only
 refine qb (os:=_) rfl ?_
 exact az [73]
set_option maxHeartbeats 4000000 in
theorem qjQ {F:Nat}{x1:List (qAq)}{a2:qAr}{c3:Nat}{s3:List (qAr×Nat)}{x4:Int}{x5:Int}{x6:Int}{x7:Int}{x8:Int}{x9:qAq}{a10:qAr}{c11:Nat}{r:(Int×Int×Int×Int×Int×qAq×Int×Int×Int×Int×qAq×Int×qAq×Int)}(hm:qeV F x1 x4 x5 x6 x7 x8 x9=some r) :
    Pure Tryz.prog 24 [.agg #[.slice a2 x1.length c3],.agg #[qAs x4,qAs x5,qAs x6,qAs x7,qAs x8,.slice a10 x9.length c11]] [SlN eN39 iN39 1 (.slice a2 x1.length c3) x1 s3,Sl (eI .u8) 1 (.slice a10 x9.length c11) x9] ((qAr×Nat)×(qAr×Nat)×(qAr×Nat)) (fun g=>.tuple #[.agg #[qAs r.1,qAs r.2.1,qAs r.2.2.1,qAs r.2.2.2.1,qAs r.2.2.2.2.1,.slice g.1.1 r.2.2.2.2.2.1.length g.1.2,qAs r.2.2.2.2.2.2.1,qAs r.2.2.2.2.2.2.2.1,qAs r.2.2.2.2.2.2.2.2.1,qAs r.2.2.2.2.2.2.2.2.2.1,.slice g.2.1.1 r.2.2.2.2.2.2.2.2.2.2.1.length g.2.1.2,qAs r.2.2.2.2.2.2.2.2.2.2.2.1,.slice g.2.2.1 r.2.2.2.2.2.2.2.2.2.2.2.2.1.length g.2.2.2],qAs r.2.2.2.2.2.2.2.2.2.2.2.2.2]) (fun g=>[Ro (eI .u8) 5 1 (.slice g.2.1.1 r.2.2.2.2.2.2.2.2.2.2.1.length g.2.1.2) r.2.2.2.2.2.2.2.2.2.2.1,Ro (eI .u8) 5 1 (.slice g.2.2.1 r.2.2.2.2.2.2.2.2.2.2.2.2.1.length g.2.2.2) r.2.2.2.2.2.2.2.2.2.2.2.2.1]) (fun _=>[]):=by
 refine qi Tryz.func24 rfl Tryz.ntmps24 rfl hm (fun w=>?_)
 refine au [77] ?_
 intro g12
 refine au [24,3] ?_
 intro g13
 refine au [25,0] ?_
 intro g14
 refine au [46,47,26,1,128,33,11] ?_
 rintro x15 e15 ⟨⟨a16,c17⟩,⟨a18,c19⟩⟩
 refine av [129,5,114,71] ?_ ?_
 intro _
 refine au [47] ?_
 refine qr (cells:=[qAs 0,qAs 0,qAs 0,qAs 0,qAs 0,.slice none 0 0,qAs 0,qAs 0,qAs 0,qAs 0,.slice none 0 0,qAs 0,.slice none 0 0]) rfl st35 rfl (by kernel_rfl) rfl ?_
 refine au [1,24,10,55,81] ?_
 exact qu ((none,0),(none,0),(none,0)) (resL (rs:=[.cell 4 35,.tmp 5]) rfl (.cell (i:=0) rfl tf35 rfl rfl (by simp) rfl (.tmp rfl ResOk.nil)) rfl) (fun h=>by subst h;exact (.cons 0 rfl (.cons 0 rfl .nil)))
 intro _
 refine au [66,48,12,69,33,12] ?_
 rintro x21 e21 ⟨⟨a22,c23⟩,⟨a24,c25⟩⟩
 refine au [111] ?_
 intro g26
 refine av [101,64,71] ?_ ?_
 intro _
 refine au [47] ?_
 refine qr (cells:=[qAs 0,qAs 0,qAs 0,qAs 0,qAs 0,.slice none 0 0,qAs 0,qAs 0,qAs 0,qAs 0,.slice none 0 0,qAs 0,.slice none 0 0]) rfl st35 rfl (by kernel_rfl) rfl ?_
 refine au [1,132,81] ?_
 exact qu ((none,0),(none,0),(none,0)) (resL (rs:=[.cell 4 35,.tmp 5]) rfl (.cell (i:=1) rfl tf35 rfl rfl (by simp) rfl (.tmp rfl ResOk.nil)) rfl) (fun h=>by subst h;exact (.cons 0 rfl (.cons 0 rfl .nil)))
 intro _
 refine au [66,47,26,1,24,8] ?_
 refine qr (cells:=[qAs x4,qAs x5,qAs x6,qAs x7,qAs x8,.slice a10 x9.length c11,qAs x21.1,qAs x21.2.1,qAs x21.2.2.1,qAs x21.2.2.2.1,.slice a22 x21.2.2.2.2.1.length c23,qAs x21.2.2.2.2.2.1,.slice a24 x21.2.2.2.2.2.2.1.length c25]) rfl st35 rfl (by kernel_rfl) rfl ?_
 refine au [25,6,49] ?_
 exact qu ((a10,c11),(a22,c23),(a24,c25)) (resL (rs:=[.cell 4 35,.tmp 5]) rfl (.cell (i:=1) rfl tf35 rfl rfl (by simp) rfl (.tmp rfl ResOk.nil)) rfl) (fun h=>by subst h;exact (.cons 0 rfl (.cons 0 rfl .nil)))
set_option maxHeartbeats 4000000 in
theorem qlL {F:Nat}{x1:Int}{x2:Int}{x3:Int}{x4:Int}{x5:Int}{x6:qAq}{a7:qAr}{c8:Nat}{x9:Int}{x10:Int}{x11:Int}{x12:Int}{x13:qAq}{a14:qAr}{c15:Nat}{x16:Int}{x17:qAq}{a18:qAr}{c19:Nat}{r:Int}(hm:vh F x1 x2 x3 x4 x5 x6 x9 x10 x11 x12 x13 x16 x17=some r) :
    Pure Tryz.prog 16 [.agg #[qAs x1,qAs x2,qAs x3,qAs x4,qAs x5,.slice a7 x6.length c8,qAs x9,qAs x10,qAs x11,qAs x12,.slice a14 x13.length c15,qAs x16,.slice a18 x17.length c19]] [Sl (eI .u8) 1 (.slice a7 x6.length c8) x6,Sl (eI .u8) 1 (.slice a14 x13.length c15) x13,Sl (eI .u8) 1 (.slice a18 x17.length c19) x17] Unit (fun _=>qAs r) (fun _=>[]) (fun _=>[]):=by
 refine qi Tryz.func16 rfl Tryz.ntmps16 rfl hm (fun w=>?_)
 refine au [108] ?_
 intro g20
 refine au [46,47,103] ?_
 refine qf qot ?_
 rintro x21 e21 ⟨a22,c23⟩
 refine au [111] ?_
 intro g24
 refine av [101,64,71] ?_ ?_
 intro _
 exact az [48,82]
 intro _
 refine au [89,80,128] ?_
 refine qf qjQ ?_
 rintro x39 e39 ⟨⟨a40,c41⟩,⟨a42,c43⟩,⟨a44,c45⟩⟩
 refine au [111] ?_
 intro g46
 refine au [101,48,25,2,1] ?_
 refine qD 7 (fun ((x49,_):(Bool×Unit))=>([(32,.bool x49)],[],[],[],j9 F x49)) ?_ ?_
 refine qb (os:=_) rfl ?_
 refine av [25,7] ?_ ?_
 intro h47
 refine qk (k:=25) rfl h47 ?_
 refine au [61,56,74] ?_
 exact qa (true,())
 intro h47
 refine qj (k:=25) rfl h47 ?_
 refine au [103,12,26,1] ?_
 refine qf qnd ?_
 intro x51 e51 _
 refine au [25,4,76] ?_
 exact qa ((!x51),())
 rintro ⟨x49,_⟩
 try dsimp only
 refine qb (os:=_) rfl ?_
 refine av [51] ?_ ?_
 intro _
 exact az [47,82]
 intro _
 exact az [66,47,73]
end Go.Proofs.YtmhggdbfbmkpeaaGreat
