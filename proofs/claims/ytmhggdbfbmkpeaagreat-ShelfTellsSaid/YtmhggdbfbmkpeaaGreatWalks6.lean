/- Each Go function of this seat computes what its model says, part 6. -/
import Derived.Test.YtmhggdbfbmkpeaaGreatWalks5
open Bool renaming false_or→qxU, false_and→qxW, true_or→qx0, true_and→qx3
namespace Go.Proofs.YtmhggdbfbmkpeaaGreat
open Go SX
set_option maxHeartbeats 4000000 in
theorem qpP {F:Nat}{x1:qAq}{a2:qAr}{c3:Nat}{r:qAq}(hm:qgy F x1=some r) :
    Pure Tryz.prog 128 [.slice a2 x1.length c3] [Sl (eI .i64) 1 (.slice a2 x1.length c3) x1] (qAr×Nat) (fun g=>.slice g.1 r.length g.2) (fun g=>[Ro (eI .i64) 3 1 (.slice g.1 r.length g.2) r]) (fun _=>[]):=by
 refine qi Tryz.func128 rfl Tryz.ntmps128 rfl hm (fun w=>?_)
 refine au [109,53] ?_
 refine qd (fun ((x0,(a0,c0)):(qAq×(qAr×Nat)))=>([(3,.slice a0 x0.length c0)],[],[Ro (eI .i64) 3 1 (.slice a0 x0.length c0) x0],[],qfl F x0)) ?_ ?_
 refine au [53,98] ?_
 refine ql (fun (((x2,x3),(a1,c1)):((qAq×Int)×(qAr×Nat)))=>([(0,.slice a2 x1.length c3),(3,.slice a1 x2.length c1),(4,qAs x3)],[],[Ro (eI .i64) 3 1 (.slice a1 x2.length c1) x2],[Sl (eI .i64) 1 (.slice a2 x1.length c3) x1])) (fun k (s:((qAq×Int)×(qAr×Nat)))=>qZ F x1 k s.1) ((([]:qAq),0),(none,0)) F ?_
 intro k0
 rintro ⟨⟨x2,x3⟩,⟨a1,c1⟩⟩
 try dsimp only
 refine qp (m':=qcY F x1 (qZ F x1 k0) x2 x3) rfl ?_
 refine av [3,116] ?_ ?_
 intro _
 refine au [66] ?_
 refine qd (fun ((x4,(a3,c2)):(qAq×(qAr×Nat)))=>([(0,.slice a2 x1.length c3),(3,.slice a3 x4.length c2),(4,qAs x3)],[],[Ro (eI .i64) 3 1 (.slice a3 x4.length c2) x4],[Sl (eI .i64) 1 (.slice a2 x1.length c3) x1],qaT F (qZ F x1 k0) x3 x4)) ?_ ?_
 refine au [14,121,46] ?_
 refine qd (fun ((x5,_):(Int×Unit))=>([(0,.slice a2 x1.length c3),(3,.slice a1 x2.length c1),(4,qAs x3),(5,qAs x5)],[],[Ro (eI .i64) 3 1 (.slice a1 x2.length c1) x2],[Sl (eI .i64) 1 (.slice a2 x1.length c3) x1],qc0 F (qZ F x1 k0) x1 x2 x3 x5)) ?_ ?_
 refine au [14] ?_
 refine ql (fun ((x6,_):(Int×Unit))=>([(0,.slice a2 x1.length c3),(3,.slice a1 x2.length c1),(4,qAs x3),(5,qAs x6)],[],[Ro (eI .i64) 3 1 (.slice a1 x2.length c1) x2],[Sl (eI .i64) 1 (.slice a2 x1.length c3) x1])) (fun k (s:(Int×Unit))=>yR F (qZ F x1 k0) x1 x2 x3 k s.1) ((x2.length:Int),()) F ?_
 intro k1
 rintro ⟨x6,_⟩
 try dsimp only
 refine qp (m':=qcZ F (qZ F x1 k0) x1 x2 x3 (yR F (qZ F x1 k0) x1 x2 x3 k1) x6) rfl ?_
 refine au [3] ?_
 refine qd (fun ((x7,_):(Bool×Unit))=>([(0,.slice a2 x1.length c3),(3,.slice a1 x2.length c1),(4,qAs x3),(5,qAs x6),(27,.bool x7)],[],[Ro (eI .i64) 3 1 (.slice a1 x2.length c1) x2],[Sl (eI .i64) 1 (.slice a2 x1.length c3) x1],qc1 F (qZ F x1 k0) (yR F (qZ F x1 k0) x1 x2 x3 k1) x1 x2 x3 x6 x7)) ?_ ?_
 refine av [27,2] ?_ ?_
 intro h0
 refine au [29,13] ?_
 intro x8 e0 g0 h1
 replace h1:a1=some ⟨g0,0,none⟩:=h1
 have h2:=qhi (k:=x2.length) (c:=c1) h1
 refine au [28,11] ?_
 intro x9 e1 b0 o0 h3
 replace h3:a2=some ⟨b0,o0,none⟩:=h3
 refine qB mixed [] [] [qv b0 (o0+x3.toNat*1) ((eI .i64) x9),Sl (eI .i64) 1 (.slice a2 x1.length c3) x1,qv g0 ((isub .i64 x6 1).toNat*1) ((eI .i64) x8)] .nil (qF 0 rfl (qF 1 rfl (qil 0 rfl (qdm (qs .i64) e0 h1) qA))) 14 rfl ?_
 refine au [105] ?_
 refine qh (d:=16) (v:=.bool true) rfl (by rw[h0] <;> rfl) ?_
 refine au [7,3,7,4,7,5] ?_
 refine qh (d:=17) (v:=.slice (some ⟨g0,0,none⟩) x2.length c1) rfl (by rw[h1] <;> rfl) (qo 6 (.pointer (some ⟨g0,(isub .i64 x6 1).toNat*1,none⟩)) rfl rfl rfl (qgY Tryz.underlying39 tf3 rfl rfl (qQ e0).1 (kC e0)) (qh (d:=17) (v:=.slice a1 x2.length c1) rfl (by rw[h1] <;> rfl) (qJ 7 (qAs x8) [] rfl rfl rfl (zJ (j:=2) rfl tf3 rfl rfl (fun _=>rfl) rfl) ?_)))
 refine au [7,8,7,9] ?_
 refine qh (d:=22) (v:=.slice (some ⟨b0,o0,none⟩) x1.length c3) rfl (by rw[h3] <;> rfl) (qo 10 (.pointer (some ⟨b0,(o0+x3.toNat*1),none⟩)) rfl rfl rfl (yV Tryz.underlying39 tf3 rfl rfl (qQ e1).1 (kC e1)) (qh (d:=22) (v:=.slice a2 x1.length c3) rfl (by rw[h3] <;> rfl) (qJ 11 (qAs x9) [] rfl rfl rfl (zJ (j:=0) rfl tf3 rfl rfl (fun _=>rfl) rfl) ?_)))
 refine au [112,24,14] ?_
 exact qM (qa ((decide (x9<x8)),())) (by intro c h;cases h)
 intro h0
 refine qB mixed [] [] [Sl (eI .i64) 1 (.slice a2 x1.length c3) x1] .nil (qF 0 rfl qA) 14 rfl ?_
 refine au [105] ?_
 refine qh (d:=16) (v:=.bool false) rfl (by rw[h0] <;> rfl) ?_
 refine au [15,3,15,4,15,5,15,6,15,7,15,8,118,110,7,13,24,14] ?_
 exact qM (qa (false,())) (by intro c h;cases h)
 rintro ⟨x7,_⟩
 try dsimp only
 refine av [8] ?_ ?_
 intro _
 refine au [66,14,4,85,95] ?_
 exact qg (isub .i64 x6 1,())
 intro _
 refine au [63] ?_
 exact qa (x6,())
 rintro ⟨x5,_⟩
 try dsimp only
 refine qqC 0 rfl (qk4 0 (qs .i64) rfl ?_)
 intro x10 e2 a4 c4 h4 h5
 refine au [29,11] ?_
 intro x11 e3 b1 o1 h6
 replace h6:a2=some ⟨b1,o1,none⟩:=h6
 refine qk4 2 (qs .i64) rfl ?_
 intro x12 e4 a5 c5 h7 h8
 refine qB mixed [] [] [Sl (eI .i64) 1 (.slice a5 x12.length c5) x12,qv b1 (o1+x3.toNat*1) ((eI .i64) x11),Sl (eI .i64) 1 (.slice a4 x10.length c4) x10,Sl (eI .i64) 1 (.slice a1 x2.length c1) x2,Sl (eI .i64) 1 (.slice a2 x1.length c3) x1] .nil (qF 0 rfl (qF 1 rfl (qF 2 rfl (qF 3 rfl (qF 4 rfl qA))))) 16 rfl ?_
 refine au [7,1,7,2] ?_
 refine qo 3 (.slice a4 x10.length c4) rfl rfl rfl (qqR Tryz.underlying39 tf3 rfl rfl rfl e2 h5 h4) ?_
 refine au [130] ?_
 refine qh (d:=35) (v:=.slice (some ⟨b1,o1,none⟩) x1.length c3) rfl (by rw[h6] <;> rfl) (qo 7 (.pointer (some ⟨b1,(o1+x3.toNat*1),none⟩)) rfl rfl rfl (yV Tryz.underlying39 tf3 rfl rfl (qQ e3).1 (kC e3)) (qh (d:=35) (v:=.slice a2 x1.length c3) rfl (by rw[h6] <;> rfl) (qJ 8 (qAs x11) [] rfl rfl rfl (zJ (j:=1) rfl tf3 rfl rfl (fun _=>rfl) rfl) ?_)))
 refine au [7,11,7,12] ?_
 refine qo 13 (.slice a5 x12.length c5) rfl rfl rfl (qqR Tryz.underlying39 tf3 rfl rfl rfl e4 h8 h7) (qgS 0 9 rfl rfl (by kernel_rfl) rfl rfl ?_ ?_)
 refine au [30,13] ?_
 intro a6 c6
 refine au [0,26,8] ?_
 refine qgS 4 9 rfl rfl (by kernel_rfl) rfl rfl ?_ ?_
 refine au [36,5] ?_
 intro x13 e5 a7 c7
 refine au [0,26,8,24,9,9] ?_
 refine qx (vs:=[qAs x11]) (ys:=([x11]:qAq)) (qs .i64) (by decide) rfl Tryz.underlying39 tf3 rfl rfl rfl rfl rfl (by decide) (fun a8 c8=>?_)
 refine au [0,26,8,24,9,10] ?_
 refine qE 1 (qs .i64) rfl Tryz.underlying39 tf3 rfl rfl rfl rfl rfl (.inl ⟨0,_,rfl⟩) rfl rfl (fun x14 e6 a9 c9=>?_)
 refine au [0,26,8,24,9,14,27,15] ?_
 intro x15 e7 a10 c10
 refine au [0,26,8,7,15,24,14] ?_
 refine qM ?_ (by intro c h;cases h)
 refine au [22] ?_
 exact qa (x15,(a10,c10))
 refine qgV (m':=((app 8796093022208 ([]:qAq) x10).bind fun x16=>((app 8796093022208 x16 ([x11]:qAq)).bind fun x17=>((app 8796093022208 x17 x12).bind fun x18=>qaT F (qZ F x1 k0) x3 x18)))) (rfl) (qx (vs:=[qAs x11]) (ys:=([x11]:qAq)) (qs .i64) (by decide) rfl Tryz.underlying39 tf3 rfl rfl rfl rfl rfl (by decide) (fun a11 c11=>?_))
 refine au [0,26,8,24,9,4] ?_
 refine qE 1 (qs .i64) rfl UnF.u inferInstance rfl rfl rfl rfl rfl (.inr ⟨2,rfl⟩) rfl rfl ?_
 intro x16 e8 a12 c12
 refine au [0,26,8,24,9,10] ?_
 refine qE 0 (qs .i64) rfl Tryz.underlying39 tf3 rfl rfl rfl rfl rfl (.inl ⟨1,_,rfl⟩) rfl rfl (fun x17 e9 a13 c13=>?_)
 refine au [0,26,8,24,9,14,27,15] ?_
 intro x18 e10 a14 c14
 refine au [0,26,8,7,15,24,14] ?_
 refine qM ?_ (by intro c h;cases h)
 refine au [22] ?_
 exact qa (x18,(a14,c14))
 refine qgV (m':=((app 8796093022208 ([]:qAq) x10).bind fun x19=>((app 8796093022208 x19 ([x11]:qAq)).bind fun x20=>((app 8796093022208 x20 x12).bind fun x21=>qaT F (qZ F x1 k0) x3 x21)))) (rfl) (qx (vs:=[qAs x11]) (ys:=([x11]:qAq)) (qs .i64) (by decide) rfl Tryz.underlying39 tf3 rfl rfl rfl rfl rfl (by decide) (fun a15 c15=>?_))
 refine au [0,26,8,24,9,0,30,13] ?_
 intro a16 c16
 refine au [0,26,8,24,9,4,36,5] ?_
 intro x19 e11 a17 c17
 refine au [0,26,8,24,9,10] ?_
 refine qE 0 (qs .i64) rfl Tryz.underlying39 tf3 rfl rfl rfl rfl rfl (.inl ⟨1,_,rfl⟩) rfl rfl (fun x20 e12 a18 c18=>?_)
 refine au [0,26,8,24,9,14,27,15] ?_
 intro x21 e13 a19 c19
 refine au [0,26,8,7,15,24,14] ?_
 refine qM ?_ (by intro c h;cases h)
 refine au [22] ?_
 exact qa (x21,(a19,c19))
 rintro ⟨x4,⟨a3,c2⟩⟩
 try dsimp only
 refine au [4,78,5,0] ?_
 exact qg ((x4,iadd .i64 x3 1),(a3,c2))
 intro _
 refine au [63] ?_
 exact qa (x2,(a1,c1))
 rintro ⟨x0,⟨a0,c0⟩⟩
 try dsimp only
 refine au [48,49] ?_
 exact qm (a0,c0)
set_option maxHeartbeats 4000000 in
theorem qlz {F:Nat}{x1:qAq}{a2:qAr}{c3:Nat}{x4:Int}{x5:Int}{x6:qAq}{a7:qAr}{c8:Nat}{x9:Int}{x10:Int}{x11:Int}{r:(qAq×Bool)}(hm:qer F x1 x4 x5 x6 x9 x10 x11=some r) :
    Pure Tryz.prog 95 [.slice a2 x1.length c3,qAs x4,qAs x5,.slice a7 x6.length c8,.agg #[qAs x9,qAs x10,qAs x11]] [Sl (eI .i64) 1 (.slice a2 x1.length c3) x1,Sl (eI .i64) 1 (.slice a7 x6.length c8) x6] (qAr×Nat) (fun g=>.tuple #[.slice g.1 r.1.length g.2,.bool r.2]) (fun g=>[Ro (eI .i64) 3 1 (.slice g.1 r.1.length g.2) r.1]) (fun _=>[]):=by
 refine qi Tryz.func95 rfl Tryz.ntmps95 rfl hm (fun w=>?_)
 refine au [27,13,58] ?_
 intro g12
 refine au [67,60,28,0] ?_
 intro x13 e13 _
 refine au [129,5,114,25,2,1] ?_
 refine qq 3 ((x13.2.2:Int) != 0) [(0,.slice a2 x1.length c3),(1,qAs x13.2.1),(2,qAs x5),(3,.slice a7 x6.length c8),(9,.pointer (some ⟨g12,0,none⟩)),(12,.int .u64 x13.1),(40,.bool (((x13.2.2:Int) != 0) || (decide (300<x13.1))))] (fun h16=>?_) (fun h16=>?_) ?_
 refine qb (os:=_) rfl (qk (k:=37) rfl h16 ?_)
 refine au [117] ?_
 refine qc (d:=40) (v:=.bool (((x13.2.2:Int) != 0) || (decide (300<x13.1)))) rfl (by rw[h16];simp only[qx0]) ?_
 exact az [62]
 refine qb (os:=_) rfl (qj (k:=37) rfl h16 ?_)
 refine au [1,70] ?_
 refine qc (d:=40) (v:=.bool (((x13.2.2:Int) != 0) || (decide (300<x13.1)))) rfl (by rw[h16];simp only[qxU]) ?_
 exact az [62]
 refine qb (os:=_) rfl ?_
 refine av [51] ?_ ?_
 intro _
 refine au [93,96] ?_
 exact qm (none,0)
 intro _
 refine av [66,64,68] ?_ ?_
 intro _
 refine au [93,96] ?_
 exact qm (none,0)
 intro _
 refine au [66,53] ?_
 refine qd (fun (((x0,x2),(a0,c0)):((Int×qAq)×(qAr×Nat)))=>([(0,.slice a2 x1.length c3),(1,qAs x0),(2,qAs x5),(9,.pointer (some ⟨g12,0,none⟩)),(12,.int .u64 x13.1),(14,.slice a0 x2.length c0)],[⟨g12,26,[qAs x9,qAs x10,qAs x11]⟩],[Ro (eI .i64) 3 1 (.slice a0 x2.length c0) x2],[Sl (eI .i64) 1 (.slice a2 x1.length c3) x1],jg F x1 x5 x10 x11 x13 x0 x2)) ?_ ?_
 refine av [94,65] ?_ ?_
 intro _
 refine au [53,60,28,0] ?_
 intro x3 e0 _
 refine au [129,5,114,25,2,1] ?_
 refine qq 7 ((x3.2.2:Int) != 0) [(0,.slice a2 x1.length c3),(1,qAs x3.2.1),(2,qAs x5),(3,.slice a7 x6.length c8),(9,.pointer (some ⟨g12,0,none⟩)),(12,.int .u64 x13.1),(15,.int .u64 x3.1),(62,.bool (((x3.2.2:Int) != 0) || (decide ((iconv .u64 (iadd .i64 (x6.length:Int) 1))<x3.1))))] (fun h0=>?_) (fun h0=>?_) ?_
 refine qb (os:=_) rfl (qk (k:=55) rfl h0 ?_)
 refine au [61,117] ?_
 refine qc (d:=62) (v:=.bool (((x3.2.2:Int) != 0) || (decide ((iconv .u64 (iadd .i64 (x6.length:Int) 1))<x3.1)))) rfl (by rw[h0];simp only[qx0]) ?_
 exact az [62]
 refine qb (os:=_) rfl (qj (k:=55) rfl h0 ?_)
 refine au [91,21,16,24,15,70] ?_
 refine qc (d:=62) (v:=.bool (((x3.2.2:Int) != 0) || (decide ((iconv .u64 (iadd .i64 (x6.length:Int) 1))<x3.1)))) rfl (by rw[h0];simp only[qxU]) ?_
 exact az [62]
 refine qb (os:=_) rfl ?_
 refine av [51] ?_ ?_
 intro _
 refine au [93,55,11,25,1] ?_
 exact qm (none,0)
 intro _
 refine au [66,53] ?_
 refine qd (fun (((x7,x8),(a1,c1)):((Int×qAq)×(qAr×Nat)))=>([(0,.slice a2 x1.length c3),(1,qAs x7),(2,qAs x5),(3,.slice a7 x6.length c8),(9,.pointer (some ⟨g12,0,none⟩)),(12,.int .u64 x13.1),(16,.slice a1 x8.length c1)],[⟨g12,26,[qAs x9,qAs x10,qAs x11]⟩],[Ro (eI .i64) 3 1 (.slice a1 x8.length c1) x8],[Sl (eI .i64) 1 (.slice a2 x1.length c3) x1,Sl (eI .i64) 1 (.slice a7 x6.length c8) x6],jl F x1 x5 x6 x10 x11 x13 x7 x8)) ?_ ?_
 refine au [53,98] ?_
 refine ql (fun (((x12,x14,x15),(a3,c2)):((Int×qAq×Int)×(qAr×Nat)))=>([(0,.slice a2 x1.length c3),(1,qAs x12),(2,qAs x5),(3,.slice a7 x6.length c8),(9,.pointer (some ⟨g12,0,none⟩)),(12,.int .u64 x13.1),(15,.int .u64 x3.1),(16,.slice a3 x14.length c2),(17,.int .u64 x15)],[⟨g12,26,[qAs x9,qAs x10,qAs x11]⟩],[Ro (eI .i64) 3 1 (.slice a3 x14.length c2) x14],[Sl (eI .i64) 1 (.slice a2 x1.length c3) x1,Sl (eI .i64) 1 (.slice a7 x6.length c8) x6])) (fun k (s:((Int×qAq×Int)×(qAr×Nat)))=>kn F x1 x5 x6 x10 x11 x13 x3 k s.1) ((x3.2.1,([]:qAq),0),(none,0)) F ?_
 intro k0
 rintro ⟨⟨x12,x14,x15⟩,⟨a3,c2⟩⟩
 try dsimp only
 refine qp (m':=qbw F x1 x5 x6 x10 x11 x13 x3 (kn F x1 x5 x6 x10 x11 x13 x3 k0) x12 x14 x15) rfl ?_
 refine av [3,60,75] ?_ ?_
 intro _
 refine au [90,53,60,28,0] ?_
 intro x16 e1 _
 refine au [129,5,114,25,2,1] ?_
 refine qq 3 ((x16.2.2:Int) != 0) [(0,.slice a2 x1.length c3),(1,qAs x16.2.1),(2,qAs x5),(3,.slice a7 x6.length c8),(9,.pointer (some ⟨g12,0,none⟩)),(12,.int .u64 x13.1),(15,.int .u64 x3.1),(16,.slice a3 x14.length c2),(17,.int .u64 x15),(18,.int .u64 x16.1),(80,.bool (((x16.2.2:Int) != 0) || (decide (1000<x16.1))))] (fun h1=>?_) (fun h1=>?_) ?_
 refine qb (os:=_) rfl (qk (k:=77) rfl h1 ?_)
 refine au [117] ?_
 refine qc (d:=80) (v:=.bool (((x16.2.2:Int) != 0) || (decide (1000<x16.1)))) rfl (by rw[h1];simp only[qx0]) ?_
 exact az [62]
 refine qb (os:=_) rfl (qj (k:=77) rfl h1 ?_)
 refine au [1,70] ?_
 refine qc (d:=80) (v:=.bool (((x16.2.2:Int) != 0) || (decide (1000<x16.1)))) rfl (by rw[h1];simp only[qxU]) ?_
 exact az [62]
 refine qb (os:=_) rfl ?_
 refine av [51] ?_ ?_
 intro _
 refine au [93,55,86,86,25,1] ?_
 exact qm (none,0)
 intro _
 refine au [66] ?_
 refine qd (fun ((x17,_):(Int×Unit))=>([(0,.slice a2 x1.length c3),(1,qAs x16.2.1),(2,qAs x5),(3,.slice a7 x6.length c8),(9,.pointer (some ⟨g12,0,none⟩)),(12,.int .u64 x13.1),(15,.int .u64 x3.1),(16,.slice a3 x14.length c2),(17,.int .u64 x15),(18,.int .u64 x17)],[⟨g12,26,[qAs x9,qAs x10,qAs x11]⟩],[Ro (eI .i64) 3 1 (.slice a3 x14.length c2) x14],[Sl (eI .i64) 1 (.slice a2 x1.length c3) x1,Sl (eI .i64) 1 (.slice a7 x6.length c8) x6],jm F (kn F x1 x5 x6 x10 x11 x13 x3 k0) x14 x15 x16 x17)) ?_ ?_
 refine av [48,65] ?_ ?_
 intro _
 refine au [4,78,5,0] ?_
 exact qa (iadd .u64 x16.1 1,())
 intro _
 refine au [9] ?_
 exact qa (x16.1,())
 rintro ⟨x17,_⟩
 try dsimp only
 refine au [99,24,15] ?_
 refine qx (vs:=[qAs (iconv .i64 x17)]) (ys:=([iconv .i64 x17]:qAq)) (qs .i64) (by decide) rfl Tryz.underlying39 tf3 rfl rfl rfl rfl rfl (by decide) (fun a4 c4=>qE 1 (qs .i64) rfl Tryz.underlying39 tf3 rfl rfl rfl rfl rfl (.inl ⟨0,_,rfl⟩) rfl rfl (fun x18 e2 a5 c5=>?_))
 refine au [95,2,4,78,5,0] ?_
 exact qg ((x16.2.1,x18,iadd .u64 x15 1),(a5,c5))
 intro _
 refine au [63] ?_
 exact qa ((x12,x14),(a3,c2))
 rintro ⟨⟨x7,x8⟩,⟨a1,c1⟩⟩
 try dsimp only
 refine au [60] ?_
 refine qf qlr ?_
 rintro x19 e3 ⟨a6,c6⟩
 refine au [79,67,48,25,2,1] ?_
 refine qq 6 ((x19.2:Int) != 0) [(0,.slice a2 x1.length c3),(1,qAs x7),(2,qAs x5),(9,.pointer (some ⟨g12,0,none⟩)),(12,.int .u64 x13.1),(14,.slice a6 x19.1.length c6),(104,.bool (((x19.2:Int) != 0) || (decide ((iconv .i64 x13.1)<(x19.1.length:Int)))))] (fun h2=>?_) (fun h2=>?_) ?_
 refine qb (os:=_) rfl (qk (k:=98) rfl h2 ?_)
 refine au [61,113] ?_
 refine qc (d:=104) (v:=.bool (((x19.2:Int) != 0) || (decide ((iconv .i64 x13.1)<(x19.1.length:Int))))) rfl (by rw[h2];simp only[qx0]) ?_
 exact az [62]
 refine qb (os:=_) rfl (qj (k:=98) rfl h2 ?_)
 refine au [1,21,1,24,15,70] ?_
 refine qc (d:=104) (v:=.bool (((x19.2:Int) != 0) || (decide ((iconv .i64 x13.1)<(x19.1.length:Int))))) rfl (by rw[h2];simp only[qxU]) ?_
 exact az [62]
 refine qb (os:=_) rfl ?_
 refine av [51] ?_ ?_
 intro _
 refine au [93,96] ?_
 exact qm (none,0)
 intro _
 refine au [9] ?_
 exact qa ((x7,x19.1),(a6,c6))
 intro _
 refine au [9,25,1] ?_
 exact qa ((x13.2.1,([]:qAq)),(none,0))
 rintro ⟨⟨x0,x2⟩,⟨a0,c0⟩⟩
 try dsimp only
 refine av [64,21,1,24,15,68] ?_ ?_
 intro _
 refine au [48,5,55] ?_
 exact qm (a0,c0)
 intro _
 refine au [66] ?_
 refine qd (fun (((x20,x21),(a8,c7)):((Int×qAq)×(qAr×Nat)))=>([(0,.slice a2 x1.length c3),(1,qAs x20),(2,qAs x5),(9,.pointer (some ⟨g12,0,none⟩)),(12,.int .u64 x13.1),(14,.slice a8 x21.length c7)],[⟨g12,26,[qAs x9,qAs x10,qAs x11]⟩],[Ro (eI .i64) 3 1 (.slice a8 x21.length c7) x21],[Sl (eI .i64) 1 (.slice a2 x1.length c3) x1],jh F x1 x5 x11 x13 x20 x21)) ?_ ?_
 refine av [94,65] ?_ ?_
 intro _
 refine au [53,60,28,0] ?_
 intro x22 e4 _
 refine au [129,5,114,25,2,1] ?_
 refine qq 3 ((x22.2.2:Int) != 0) [(0,.slice a2 x1.length c3),(1,qAs x22.2.1),(2,qAs x5),(9,.pointer (some ⟨g12,0,none⟩)),(12,.int .u64 x13.1),(14,.slice a0 x2.length c0),(19,.int .u64 x22.1),(126,.bool (((x22.2.2:Int) != 0) || (decide (300<x22.1))))] (fun h3=>?_) (fun h3=>?_) ?_
 refine qb (os:=_) rfl (qk (k:=123) rfl h3 ?_)
 refine au [117] ?_
 refine qc (d:=126) (v:=.bool (((x22.2.2:Int) != 0) || (decide (300<x22.1)))) rfl (by rw[h3];simp only[qx0]) ?_
 exact az [62]
 refine qb (os:=_) rfl (qj (k:=123) rfl h3 ?_)
 refine au [1,70] ?_
 refine qc (d:=126) (v:=.bool (((x22.2.2:Int) != 0) || (decide (300<x22.1)))) rfl (by rw[h3];simp only[qxU]) ?_
 exact az [62]
 refine qb (os:=_) rfl ?_
 refine av [51] ?_ ?_
 intro _
 refine au [93,55,11,25,1] ?_
 exact qm (none,0)
 intro _
 refine au [66,48,46,53,14] ?_
 refine ql (fun (((x23,x24,x25,x26),(a9,c9)):((Int×qAq×Int×Int)×(qAr×Nat)))=>([(0,.slice a2 x1.length c3),(1,qAs x23),(2,qAs x5),(9,.pointer (some ⟨g12,0,none⟩)),(12,.int .u64 x13.1),(14,.slice a9 x24.length c9),(19,.int .u64 x22.1),(20,qAs x25),(21,.int .u64 x26)],[⟨g12,26,[qAs x9,qAs x10,qAs x11]⟩],[Ro (eI .i64) 3 1 (.slice a9 x24.length c9) x24],[Sl (eI .i64) 1 (.slice a2 x1.length c3) x1])) (fun k (s:((Int×qAq×Int×Int)×(qAr×Nat)))=>qP F x1 x5 x10 x11 x13 x22 k s.1) ((x22.2.1,x2,x5,0),(a0,c0)) F ?_
 intro k1
 rintro ⟨⟨x23,x24,x25,x26⟩,⟨a9,c9⟩⟩
 try dsimp only
 refine qp (m':=qbu F x1 x5 x10 x11 x13 x22 (qP F x1 x5 x10 x11 x13 x22 k1) x23 x24 x25 x26) rfl ?_
 refine av [3,60,75] ?_ ?_
 intro _
 refine au [66] ?_
 refine qd (fun (((x27,x28,x29),(a10,c10)):((Int×qAq×Int)×(qAr×Nat)))=>([(0,.slice a2 x1.length c3),(1,qAs x27),(2,qAs x5),(9,.pointer (some ⟨g12,0,none⟩)),(12,.int .u64 x13.1),(14,.slice a10 x28.length c10),(19,.int .u64 x22.1),(20,qAs x29),(21,.int .u64 x26)],[⟨g12,26,[qAs x9,qAs x10,qAs x11]⟩],[Ro (eI .i64) 3 1 (.slice a10 x28.length c10) x28],[Sl (eI .i64) 1 (.slice a2 x1.length c3) x1],qdF F (qP F x1 x5 x10 x11 x13 x22 k1) x26 x27 x28 x29)) ?_ ?_
 refine au [14,47,67,60,28,0] ?_
 intro x30 e5 _
 refine au [129,5,114,25,2,1] ?_
 refine qq 3 ((x30.2.2:Int) != 0) [(0,.slice a2 x1.length c3),(1,qAs x30.2.1),(2,qAs x5),(9,.pointer (some ⟨g12,0,none⟩)),(12,.int .u64 x13.1),(14,.slice a9 x24.length c9),(19,.int .u64 x22.1),(20,qAs x25),(21,.int .u64 x26),(22,.int .u64 x30.1),(145,.bool (((x30.2.2:Int) != 0) || (decide (4194304<x30.1))))] (fun h4=>?_) (fun h4=>?_) ?_
 refine qb (os:=_) rfl (qk (k:=142) rfl h4 ?_)
 refine au [117] ?_
 refine qc (d:=145) (v:=.bool (((x30.2.2:Int) != 0) || (decide (4194304<x30.1)))) rfl (by rw[h4];simp only[qx0]) ?_
 exact az [62]
 refine qb (os:=_) rfl (qj (k:=142) rfl h4 ?_)
 refine au [1,70] ?_
 refine qc (d:=145) (v:=.bool (((x30.2.2:Int) != 0) || (decide (4194304<x30.1)))) rfl (by rw[h4];simp only[qxU]) ?_
 exact az [62]
 refine qb (os:=_) rfl ?_
 refine av [51] ?_ ?_
 intro _
 refine au [93,55,92,25,1] ?_
 exact qm (none,0)
 intro _
 refine au [66,60,28,0] ?_
 intro x31 e6 _
 refine au [129,5,114,25,2,1] ?_
 refine qq 3 ((x31.2.2:Int) != 0) [(0,.slice a2 x1.length c3),(1,qAs x31.2.1),(2,qAs x5),(9,.pointer (some ⟨g12,0,none⟩)),(12,.int .u64 x13.1),(14,.slice a9 x24.length c9),(19,.int .u64 x22.1),(20,qAs x25),(21,.int .u64 x26),(22,.int .u64 x30.1),(23,.int .u64 x31.1),(158,.bool (((x31.2.2:Int) != 0) || (decide (1000<x31.1))))] (fun h5=>?_) (fun h5=>?_) ?_
 refine qb (os:=_) rfl (qk (k:=155) rfl h5 ?_)
 refine au [117] ?_
 refine qc (d:=158) (v:=.bool (((x31.2.2:Int) != 0) || (decide (1000<x31.1)))) rfl (by rw[h5];simp only[qx0]) ?_
 exact az [62]
 refine qb (os:=_) rfl (qj (k:=155) rfl h5 ?_)
 refine au [1,70] ?_
 refine qc (d:=158) (v:=.bool (((x31.2.2:Int) != 0) || (decide (1000<x31.1)))) rfl (by rw[h5];simp only[qxU]) ?_
 exact az [62]
 refine qb (os:=_) rfl ?_
 refine av [51] ?_ ?_
 intro _
 refine au [93,55,92,25,1] ?_
 exact qm (none,0)
 intro _
 refine au [66,60,135,16,120] ?_
 intro x32 e7
 refine qc (d:=24) (v:=qAs x32) rfl (by rw[e7] <;> rfl) ?_
 refine au [45] ?_
 refine qd (fun ((x33,_):(Int×Unit))=>([(0,.slice a2 x1.length c3),(1,qAs x31.2.1),(2,qAs x5),(9,.pointer (some ⟨g12,0,none⟩)),(12,.int .u64 x13.1),(14,.slice a9 x24.length c9),(19,.int .u64 x22.1),(21,.int .u64 x26),(23,.int .u64 x31.1),(24,qAs x33)],[⟨g12,26,[qAs x9,qAs x10,qAs x11]⟩],[Ro (eI .i64) 3 1 (.slice a9 x24.length c9) x24],[Sl (eI .i64) 1 (.slice a2 x1.length c3) x1],ji F (qP F x1 x5 x10 x11 x13 x22 k1) x10 x13 x24 x26 x31 x33)) ?_ ?_
 refine av [48,68] ?_ ?_
 intro _
 refine au [99,36,4] ?_
 intro x34 e8 _
 refine au [5,0] ?_
 exact qa (x34,())
 intro _
 refine au [9] ?_
 exact qa (x32,())
 rintro ⟨x33,_⟩
 try dsimp only
 refine au [64,23,1] ?_
 refine qq 3 (decide (x33<0)) [(0,.slice a2 x1.length c3),(1,qAs x31.2.1),(2,qAs x5),(9,.pointer (some ⟨g12,0,none⟩)),(12,.int .u64 x13.1),(14,.slice a9 x24.length c9),(19,.int .u64 x22.1),(21,.int .u64 x26),(23,.int .u64 x31.1),(24,qAs x33),(174,.bool ((decide (x33<0)) || (decide (1048576<x33))))] (fun h6=>?_) (fun h6=>?_) ?_
 refine qb (os:=_) rfl (qk (k:=171) rfl h6 ?_)
 refine au [117] ?_
 refine qc (d:=174) (v:=.bool ((decide (x33<0)) || (decide (1048576<x33)))) rfl (by rw[h6];simp only[qx0]) ?_
 exact az [62]
 refine qb (os:=_) rfl (qj (k:=171) rfl h6 ?_)
 refine au [1,70] ?_
 refine qc (d:=174) (v:=.bool ((decide (x33<0)) || (decide (1048576<x33)))) rfl (by rw[h6];simp only[qxU]) ?_
 exact az [62]
 refine qb (os:=_) rfl ?_
 refine av [51] ?_ ?_
 intro _
 refine au [93,55,92,25,1] ?_
 exact qm (none,0)
 intro _
 refine au [66] ?_
 refine qd (fun ((x35,(a11,c11)):(qAq×(qAr×Nat)))=>([(0,.slice a2 x1.length c3),(1,qAs x31.2.1),(2,qAs x5),(9,.pointer (some ⟨g12,0,none⟩)),(12,.int .u64 x13.1),(14,.slice a11 x35.length c11),(19,.int .u64 x22.1),(21,.int .u64 x26),(23,.int .u64 x31.1),(24,qAs x33)],[⟨g12,26,[qAs x9,qAs x10,qAs x11]⟩],[Ro (eI .i64) 3 1 (.slice a11 x35.length c11) x35],[Sl (eI .i64) 1 (.slice a2 x1.length c3) x1],jk F (qP F x1 x5 x10 x11 x13 x22 k1) x10 x13 x26 x31 x33 x35)) ?_ ?_
 refine au [53,14] ?_
 refine ql (fun (((x36,x37),(a12,c12)):((qAq×Int)×(qAr×Nat)))=>([(0,.slice a2 x1.length c3),(1,qAs x31.2.1),(2,qAs x5),(9,.pointer (some ⟨g12,0,none⟩)),(12,.int .u64 x13.1),(14,.slice a12 x36.length c12),(19,.int .u64 x22.1),(21,.int .u64 x26),(23,.int .u64 x31.1),(24,qAs x33),(25,qAs x37)],[⟨g12,26,[qAs x9,qAs x10,qAs x11]⟩],[Ro (eI .i64) 3 1 (.slice a12 x36.length c12) x36],[Sl (eI .i64) 1 (.slice a2 x1.length c3) x1])) (fun k (s:((qAq×Int)×(qAr×Nat)))=>kJ F (qP F x1 x5 x10 x11 x13 x22 k1) x10 x13 x26 x31 x33 k s.1) ((x24,0),(a9,c9)) F ?_
 intro k2
 rintro ⟨⟨x36,x37⟩,⟨a12,c12⟩⟩
 try dsimp only
 refine qp (m':=qbv F (qP F x1 x5 x10 x11 x13 x22 k1) x10 x13 x26 x31 x33 (kJ F (qP F x1 x5 x10 x11 x13 x22 k1) x10 x13 x26 x31 x33 k2) x36 x37) rfl ?_
 refine av [3,60,24,15,57,16,75] ?_ ?_
 intro _
 refine au [90,99,78] ?_
 refine qx (vs:=[qAs (iadd .i64 x33 x37)]) (ys:=([iadd .i64 x33 x37]:qAq)) (qs .i64) (by decide) rfl Tryz.underlying39 tf3 rfl rfl rfl rfl rfl (by decide) (fun a13 c13=>qE 1 (qs .i64) rfl Tryz.underlying39 tf3 rfl rfl rfl rfl rfl (.inl ⟨0,_,rfl⟩) rfl rfl (fun x38 e9 a14 c14=>?_))
 refine au [95,2,4,78,5,0] ?_
 exact qg ((x38,iadd .i64 x37 1),(a14,c14))
 intro _
 refine au [63] ?_
 exact qa (x36,(a12,c12))
 rintro ⟨x35,⟨a11,c11⟩⟩
 try dsimp only
 refine au [60,135,57,16,24,13,120] ?_
 intro x39 e10
 refine qc (d:=20) (v:=qAs x39) rfl (by rw[e10] <;> rfl) ?_
 refine av [45,121,1,24,15,65] ?_ ?_
 intro _
 refine au [93,49,92,25,1] ?_
 exact qm (none,0)
 intro _
 refine au [9,22] ?_
 exact qa ((x31.2.1,x35,x39),(a11,c11))
 rintro ⟨⟨x27,x28,x29⟩,⟨a10,c10⟩⟩
 try dsimp only
 refine au [4,78,5,0] ?_
 exact qg ((x27,x28,x29,iadd .u64 x26 1),(a10,c10))
 intro _
 refine au [63] ?_
 exact qa ((x23,x24),(a9,c9))
 intro _
 refine au [9] ?_
 exact qa ((x0,x2),(a0,c0))
 rintro ⟨⟨x20,x21⟩,⟨a8,c7⟩⟩
 try dsimp only
 refine au [60,1,57,1,24,15,1,21,24,13] ?_
 refine qf qmL ?_
 rintro x40 e11 ⟨a15,c15⟩
 refine av [129,5,114,71] ?_ ?_
 intro _
 refine au [93,96] ?_
 exact qm (none,0)
 intro _
 refine au [66,60] ?_
 refine qE 1 (qs .i64) rfl Tryz.underlying39 tf3 rfl rfl rfl rfl rfl (.inl ⟨0,_,rfl⟩) rfl rfl (fun x41 e12 a16 c16=>qf qpP ?_)
 rintro x42 e14 ⟨a17,c17⟩
 refine au [5,49] ?_
 exact qm (a17,c17)
set_option maxHeartbeats 4000000 in
theorem qmU {F:Nat}{x1:Int}{x2:qAq}{a3:qAr}{c4:Nat}{x5:Int}{x6:Int}{x7:qAq}{a8:qAr}{c9:Nat}{x10:Int}{x11:Int}{x12:Int}{r:(qAq×Int×Int)}(hm:qcq F x1 x2 x5 x6 x7 x10 x11 x12=some r) :
    Pure Tryz.prog 68 [.agg #[qAs x1,.slice a3 x2.length c4],qAs x5,qAs x6,.slice a8 x7.length c9,.agg #[qAs x10,qAs x11,qAs x12]] [Sl (eI .u8) 1 (.slice a3 x2.length c4) x2,Sl (eI .i64) 1 (.slice a8 x7.length c9) x7] (qAr×Nat) (fun g=>.tuple #[.slice g.1 r.1.length g.2,qAs r.2.1,qAs r.2.2]) (fun g=>[Ro (eI .i64) 3 1 (.slice g.1 r.1.length g.2) r.1]) (fun _=>[]):=by
 refine qi Tryz.func68 rfl Tryz.ntmps68 rfl hm (fun w=>?_)
 refine au [27,13,58] ?_
 intro g13
 refine au [24,3] ?_
 intro g14
 refine au [5,67,80,31,5] ?_
 intro x15 e15 _
 refine au [46] ?_
 refine qd (fun ((x18,_):(Int×Unit))=>([(1,qAs x5),(2,qAs x6),(3,.slice a8 x7.length c9),(5,.pointer (some ⟨g13,0,none⟩)),(9,.pointer (some ⟨g14,0,none⟩)),(13,qAs x18)],[⟨g14,26,[qAs x10,qAs x11,qAs x12]⟩,⟨g13,29,[qAs x1,.slice a3 x2.length c4]⟩],[],[Sl (eI .i64) 1 (.slice a8 x7.length c9) x7,Sl (eI .u8) 1 (.slice a3 x2.length c4) x2],qaU F x1 x2 x5 x6 x7 x10 x11 x12 x18)) ?_ ?_
 refine av [48,68] ?_ ?_
 intro _
 refine au [4,25,5,1] ?_
 refine qf qok ?_
 intro x67 e67 _
 refine au [5,0] ?_
 exact qa (x67,())
 intro _
 refine au [9] ?_
 exact qa (x15,())
 rintro ⟨x18,_⟩
 try dsimp only
 refine qd (fun ((x21,_):(Int×Unit))=>([(1,qAs x5),(2,qAs x6),(3,.slice a8 x7.length c9),(5,.pointer (some ⟨g13,0,none⟩)),(9,.pointer (some ⟨g14,0,none⟩)),(13,qAs x21)],[⟨g14,26,[qAs x10,qAs x11,qAs x12]⟩,⟨g13,29,[qAs x1,.slice a3 x2.length c4]⟩],[],[Sl (eI .i64) 1 (.slice a8 x7.length c9) x7,Sl (eI .u8) 1 (.slice a3 x2.length c4) x2],qaV F x1 x2 x5 x6 x7 x10 x11 x12 x21)) ?_ ?_
 refine av [48,68] ?_ ?_
 intro _
 refine au [99,24,8] ?_
 refine qf qol ?_
 intro x65 e65 _
 refine au [5,0] ?_
 exact qa (x65,())
 intro _
 refine au [9] ?_
 exact qa (x18,())
 rintro ⟨x21,_⟩
 try dsimp only
 refine av [64,71] ?_ ?_
 intro _
 refine au [48,5,5,96] ?_
 exact qm (none,0)
 intro _
 refine au [66,107,31,8] ?_
 rintro x23 e23 ⟨a24,c25⟩
 refine au [46,60,91,24,8] ?_
 refine qf qlz ?_
 rintro x26 e26 ⟨a27,c28⟩
 refine au [79,114,25,4,1] ?_
 refine qD 4 (fun ((x36,_):(Bool×Unit))=>([(1,qAs x5),(2,qAs x6),(3,.slice a8 x7.length c9),(9,.pointer (some ⟨g14,0,none⟩)),(14,.slice a24 x23.length c25),(15,.slice a27 x26.1.length c28),(51,.bool x36)],[⟨g14,26,[qAs x10,qAs x11,qAs x12]⟩],[Ro (eI .i64) 3 1 (.slice a24 x23.length c25) x23,Ro (eI .i64) 3 1 (.slice a27 x26.1.length c28) x26.1],[Sl (eI .i64) 1 (.slice a8 x7.length c9) x7],vT F x5 x6 x7 x10 x11 x12 x23 x26 x36)) ?_ ?_
 refine qb (os:=_) rfl ?_
 refine av [25,7] ?_ ?_
 intro h34
 refine qk (k:=47) rfl h34 ?_
 refine au [56,6,74] ?_
 exact qa (true,())
 intro h34
 refine qj (k:=47) rfl h34 ?_
 refine au [1,31,9] ?_
 intro x63 e63 _
 refine au [25,2,76] ?_
 exact qa (((x63:Int) != 0),())
 rintro ⟨x36,_⟩
 try dsimp only
 refine qb (os:=_) rfl ?_
 refine av [51] ?_ ?_
 intro _
 refine au [93,5,96] ?_
 exact qm (none,0)
 intro _
 refine au [66,60,1,24,8,36,0] ?_
 rintro x37 e37 ⟨a38,c39⟩
 refine au [46,64,21,1,21,85,24,7,1] ?_
 refine qD 11 (fun ((x56,_):(Bool×Unit))=>([(1,qAs x5),(15,.slice a27 x26.1.length c28),(17,.slice a38 x37.length c39),(75,.bool x56)],[],[Ro (eI .i64) 3 1 (.slice a27 x26.1.length c28) x26.1,Ro (eI .i64) 3 1 (.slice a38 x37.length c39) x37],[],qaW F x5 x26 x37 x56)) ?_ ?_
 refine qb (os:=_) rfl ?_
 refine av [25,7] ?_ ?_
 intro h51
 refine qk (k:=64) rfl h51 ?_
 refine au [61,61,56,74] ?_
 exact qa (true,())
 intro h51
 refine qj (k:=64) rfl h51 ?_
 refine au [91,91,21,16,34,11,30,12] ?_
 intro x58 e58 a59 c60
 refine au [1,29,12] ?_
 intro x61 e61 _
 refine au [25,4,76] ?_
 exact qa ((!x61),())
 rintro ⟨x56,_⟩
 try dsimp only
 refine qb (os:=_) rfl ?_
 refine av [51] ?_ ?_
 intro _
 refine au [93,5,96] ?_
 exact qm (none,0)
 intro _
 refine au [66,60,1,21,16,5,5,49] ?_
 exact qm (a27,c28)
set_option maxHeartbeats 4000000 in
theorem qmP {F:Nat}{x1:Int}{x2:Int}{x3:Int}{x4:Int}{x5:Int}{x6:qAq}{a7:qAr}{c8:Nat}{r:(List (qAq)×Int)}(hm:qeX F x1 x2 x3 x4 x5 x6=some r) :
    Pure Tryz.prog 30 [.agg #[qAs x1,qAs x2,qAs x3,qAs x4,qAs x5,.slice a7 x6.length c8]] [Sl (eI .u8) 1 (.slice a7 x6.length c8) x6] (qAr×(Nat×List (qAr×Nat))) (fun g=>.tuple #[.agg #[.slice g.1 r.1.length g.2.1],qAs r.2]) (fun g=>[RoN eN39 rN39 39 1 (.slice g.1 r.1.length g.2.1) r.1 g.2.2 []]) (fun _=>[]):=by
 refine qi Tryz.func30 rfl Tryz.ntmps30 rfl hm (fun w=>?_)
 refine au [108] ?_
 intro g9
 refine au [25,0] ?_
 intro g10
 refine au [46,107] ?_
 refine qf qlq ?_
 intro x11 e11 _
 refine av [46,64,71] ?_ ?_
 intro _
 refine au [47] ?_
 refine qr (cells:=[.slice none 0 0]) rfl st24 rfl (by kernel_rfl) rfl ?_
 refine au [1,24,10,55,26,9] ?_
 exact qu (none,(0,([]:List (qAr×Nat)))) (resL (rs:=[.cell 2 24,.tmp 3]) rfl (.cell (i:=0) rfl tf24 rfl rfl (by simp) rfl (.tmp rfl ResOk.nil)) rfl) (fun h=>by subst h;exact (.cons 0 rfl .nil))
 intro _
 refine au [66,47,128,31,8] ?_
 rintro x13 e13 ⟨a14,c15⟩
 refine au [46,53,47,25,0] ?_
 intro g16
 refine au [45] ?_
 refine qd (fun ((x0,(a0,c0)):(List (qAq)×(qAr×(Nat×List (qAr×Nat)))))=>([(1,.pointer (some ⟨g9,0,none⟩)),(2,.pointer (some ⟨g10,0,none⟩)),(5,.slice a14 x13.length c15),(7,.pointer (some ⟨g16,0,none⟩))],[⟨g16,24,[.slice a0 x0.length c0.1]⟩,⟨g10,24,[.slice none 0 0]⟩,⟨g9,31,[qAs x1,qAs x2,qAs x3,qAs x4,qAs x5,.slice a7 x6.length c8]⟩],[Ro (eI .i64) 3 1 (.slice a14 x13.length c15) x13,RoN eN39 rN39 39 1 (.slice a0 x0.length c0.1) x0 c0.2 []],[Sl (eI .u8) 1 (.slice a7 x6.length c8) x6],vo F x2 x3 x4 x13 x0)) ?_ ?_
 refine au [53,14,35,4] ?_
 refine ql (fun (((x7,x8,x9),(a1,c1)):((Int×Int×List (qAq))×(qAr×(Nat×List (qAr×Nat)))))=>([(1,.pointer (some ⟨g9,0,none⟩)),(2,.pointer (some ⟨g10,0,none⟩)),(5,.slice a14 x13.length c15),(6,qAs x7),(7,.pointer (some ⟨g16,0,none⟩)),(8,qAs x8)],[⟨g16,24,[.slice a1 x9.length c1.1]⟩,⟨g10,24,[.slice none 0 0]⟩,⟨g9,31,[qAs x1,qAs x2,qAs x3,qAs x4,qAs x5,.slice a7 x6.length c8]⟩],[Ro (eI .i64) 3 1 (.slice a14 x13.length c15) x13,RoN eN39 rN39 39 1 (.slice a1 x9.length c1.1) x9 c1.2 []],[Sl (eI .u8) 1 (.slice a7 x6.length c8) x6])) (fun k (s:((Int×Int×List (qAq))×(qAr×(Nat×List (qAr×Nat)))))=>zD F x1 x2 x3 x4 x5 x6 x13 k s.1) ((0,0,([]:List (qAq))),(none,(0,([]:List (qAr×Nat))))) F ?_
 intro k0
 rintro ⟨⟨x7,x8,x9⟩,⟨a1,c1⟩⟩
 try dsimp only
 refine qp (m':=qci F x1 x2 x3 x4 x5 x6 x13 (zD F x1 x2 x3 x4 x5 x6 x13 k0) x7 x8 x9) rfl ?_
 refine av [64,12,26,10,75] ?_ ?_
 intro _
 refine au [66] ?_
 refine qd (fun (((x10,x12),(a2,c2)):((Int×List (qAq))×(qAr×(Nat×List (qAr×Nat)))))=>([(1,.pointer (some ⟨g9,0,none⟩)),(2,.pointer (some ⟨g10,0,none⟩)),(5,.slice a14 x13.length c15),(6,qAs x10),(7,.pointer (some ⟨g16,0,none⟩)),(8,qAs x8)],[⟨g16,24,[.slice a2 x12.length c2.1]⟩,⟨g10,24,[.slice none 0 0]⟩,⟨g9,31,[qAs x1,qAs x2,qAs x3,qAs x4,qAs x5,.slice a7 x6.length c8]⟩],[Ro (eI .i64) 3 1 (.slice a14 x13.length c15) x13,RoN eN39 rN39 39 1 (.slice a2 x12.length c2.1) x12 c2.2 []],[Sl (eI .u8) 1 (.slice a7 x6.length c8) x6],jV F (zD F x1 x2 x3 x4 x5 x6 x13 k0) x8 x10 x12)) ?_ ?_
 refine au [14,53] ?_
 refine qd (fun (((x14,x15),_):((Int×Int)×Unit))=>([(1,.pointer (some ⟨g9,0,none⟩)),(2,.pointer (some ⟨g10,0,none⟩)),(5,.slice a14 x13.length c15),(6,qAs x14),(7,.pointer (some ⟨g16,0,none⟩)),(8,qAs x8),(9,.int .u64 x15)],[⟨g16,24,[.slice a1 x9.length c1.1]⟩,⟨g10,24,[.slice none 0 0]⟩,⟨g9,31,[qAs x1,qAs x2,qAs x3,qAs x4,qAs x5,.slice a7 x6.length c8]⟩],[Ro (eI .i64) 3 1 (.slice a14 x13.length c15) x13,RoN eN39 rN39 39 1 (.slice a1 x9.length c1.1) x9 c1.2 []],[Sl (eI .u8) 1 (.slice a7 x6.length c8) x6],jW F (zD F x1 x2 x3 x4 x5 x6 x13 k0) x3 x4 x5 x6 x8 x9 x14 x15)) ?_ ?_
 refine av [47,12,12,26,10,65] ?_ ?_
 intro _
 refine au [60,28,0] ?_
 intro x16 e0 _
 refine au [129,5,67,48,25,2,1] ?_
 refine qq 7 ((x16.2.2:Int) != 0) [(1,.pointer (some ⟨g9,0,none⟩)),(2,.pointer (some ⟨g10,0,none⟩)),(5,.slice a14 x13.length c15),(6,qAs x16.2.1),(7,.pointer (some ⟨g16,0,none⟩)),(8,qAs x8),(9,.int .u64 x16.1),(52,.bool (((x16.2.2:Int) != 0) || (decide ((iconv .u64 x2)<x16.1))))] (fun h0=>?_) (fun h0=>?_) ?_
 refine qb (os:=_) rfl (qk (k:=45) rfl h0 ?_)
 refine au [61,117] ?_
 refine qc (d:=52) (v:=.bool (((x16.2.2:Int) != 0) || (decide ((iconv .u64 x2)<x16.1)))) rfl (by rw[h0];simp only[qx0]) ?_
 exact az [62]
 refine qb (os:=_) rfl (qj (k:=45) rfl h0 ?_)
 refine au [1,12,12,26,10,24,15,70] ?_
 refine qc (d:=52) (v:=.bool (((x16.2.2:Int) != 0) || (decide ((iconv .u64 x2)<x16.1)))) rfl (by rw[h0];simp only[qxU]) ?_
 exact az [62]
 refine qb (os:=_) rfl ?_
 refine au [1] ?_
 refine qq 5 (((x16.2.2:Int) != 0) || (decide ((iconv .u64 x2)<x16.1))) [(1,.pointer (some ⟨g9,0,none⟩)),(2,.pointer (some ⟨g10,0,none⟩)),(5,.slice a14 x13.length c15),(6,qAs x16.2.1),(7,.pointer (some ⟨g16,0,none⟩)),(8,qAs x8),(9,.int .u64 x16.1),(58,.bool ((((x16.2.2:Int) != 0) || (decide ((iconv .u64 x2)<x16.1))) || (decide (x8<(iconv .i64 x16.1)))))] (fun h1=>?_) (fun h1=>?_) ?_
 refine qb (os:=_) rfl (qk (k:=53) rfl h1 ?_)
 refine au [61,24,1] ?_
 refine qc (d:=58) (v:=.bool ((((x16.2.2:Int) != 0) || (decide ((iconv .u64 x2)<x16.1))) || (decide (x8<(iconv .i64 x16.1))))) rfl (by rw[h1];simp only[qx0]) ?_
 exact az [62]
 refine qb (os:=_) rfl (qj (k:=53) rfl h1 ?_)
 refine au [1,24,15,1,70] ?_
 refine qc (d:=58) (v:=.bool ((((x16.2.2:Int) != 0) || (decide ((iconv .u64 x2)<x16.1))) || (decide (x8<(iconv .i64 x16.1))))) rfl (by rw[h1];simp only[qxU]) ?_
 exact az [62]
 refine qb (os:=_) rfl ?_
 refine av [51] ?_ ?_
 intro _
 refine au [47] ?_
 refine qr (cells:=[.slice none 0 0]) rfl st24 rfl (by kernel_rfl) rfl ?_
 refine au [132,92,26,9] ?_
 exact qu (none,(0,([]:List (qAr×Nat)))) (resL (rs:=[.cell 2 24,.tmp 3]) rfl (.cell (i:=1) rfl tf24 rfl rfl (by simp) rfl (.tmp rfl ResOk.nil)) rfl) (fun h=>by subst h;exact (.cons 0 rfl .nil))
 intro _
 refine au [9] ?_
 exact qa ((x16.2.1,x16.1),())
 intro _
 refine au [9] ?_
 exact qa ((x7,(0:Int)),())
 rintro ⟨⟨x14,x15⟩,_⟩
 try dsimp only
 refine av [53,64,65] ?_ ?_
 intro _
 refine au [4,57,91,24,15,24,13] ?_
 refine qpB (j:=1) rfl UnF.u inferInstance rfl rfl rfl rfl ?_
 intro x17 e1 g0 h2 g1 h3
 refine qmE (i:=1) rfl h2 (List.not_mem_nil) (qlb (j:=1) (p:=(x17,g0)) vf rfl rfl tf39 rfl h3 h2 rfl (fun _=>rfl) rfl rfl ?_)
 refine au [46,47,12,26,1,91,91,24,15,12,12,26,10,12,12,26,10] ?_
 refine qr (cells:=[qAs (iconv .i64 x15),qAs x3,qAs x4]) rfl st26 rfl (by kernel_rfl) rfl ?_
 refine au [36,6] ?_
 rintro x18 e2 ⟨a3,c3⟩
 refine au [129,5,67,3,3] ?_
 refine qk3 (rin:=rN39) (p:=(x17,g0)) (i:=1) (k:=0) (.cons 1 rfl .nil) rfl rfl h2 ?_
 refine av [4,1,71] ?_ ?_
 intro _
 refine au [47] ?_
 refine qr (cells:=[.slice none 0 0]) rfl st24 rfl (by kernel_rfl) rfl ?_
 refine au [132,92,26,9] ?_
 exact qu (none,(0,([]:List (qAr×Nat)))) (resL (rs:=[.cell 2 24,.tmp 3]) rfl (.cell (i:=1) rfl tf24 rfl rfl (by simp) rfl (.tmp rfl ResOk.nil)) rfl) (fun h=>by subst h;exact (.cons 0 rfl .nil))
 intro _
 refine au [66,94,1] ?_
 refine qx (vs:=[.slice a3 x18.1.length c3]) (ys:=([(x18.1,(a3,c3))]:List (qAq×(qAr×Nat)))) vf (by decide) rfl Tryz.underlying22 tf39 rfl rfl rfl rfl rfl (by decide) (fun a4 c4=>qfG (rin:=rN39) (i:=0) ([x18.1]:List (qAq)) ([(a3,c3)]:List (qAr×Nat)) rfl rfl (.cons 1 rfl .nil) ?_)
 refine au [35,6] ?_
 intro x19 e3 a5 c5
 refine au [12,83,4,1,95] ?_
 exact qa ((x18.2.1,x19),(a5,(c5,(c1.2++([(a3,c3)]:List (qAr×Nat))))))
 intro _
 refine au [66,47,12,26,1,91,91,24,15,12,12,26,10,12,12,26,10] ?_
 refine qr (cells:=[qAs (iconv .i64 x15),qAs x3,qAs x4]) rfl st26 rfl (by kernel_rfl) rfl ?_
 refine au [27,14,36,6] ?_
 rintro x20 e4 ⟨a6,c6⟩
 refine av [129,5,114,71] ?_ ?_
 intro _
 refine au [47] ?_
 refine qr (cells:=[.slice none 0 0]) rfl st24 rfl (by kernel_rfl) rfl ?_
 refine au [132,92,26,9] ?_
 exact qu (none,(0,([]:List (qAr×Nat)))) (resL (rs:=[.cell 2 24,.tmp 3]) rfl (.cell (i:=1) rfl tf24 rfl rfl (by simp) rfl (.tmp rfl ResOk.nil)) rfl) (fun h=>by subst h;exact (.cons 0 rfl .nil))
 intro _
 refine au [66,94,1] ?_
 refine qx (vs:=[.slice a6 x20.1.length c6]) (ys:=([(x20.1,(a6,c6))]:List (qAq×(qAr×Nat)))) vf (by decide) rfl Tryz.underlying22 tf39 rfl rfl rfl rfl rfl (by decide) (fun a8 c7=>qfG (rin:=rN39) (i:=0) ([x20.1]:List (qAq)) ([(a6,c6)]:List (qAr×Nat)) rfl rfl (.cons 0 rfl .nil) (qk7 vf rfl UnF.u inferInstance rfl rfl rfl rfl (.cons 3 rfl (.cons 0 rfl .nil)) rfl rfl ?_))
 intro x21 e5 a9 c9
 refine au [12,83,4,1,95] ?_
 exact qa ((x20.2.1,x21),(a9,(c9,(c1.2++([(a6,c6)]:List (qAr×Nat))))))
 rintro ⟨⟨x10,x12⟩,⟨a2,c2⟩⟩
 try dsimp only
 refine au [4,78,5,0] ?_
 exact qg ((x10,iadd .i64 x8 1,x12),(a2,c2))
 intro _
 refine au [63] ?_
 exact qa (x9,(a1,c1))
 rintro ⟨x0,⟨a0,c0⟩⟩
 try dsimp only
 refine au [80,12,26,1,31,7] ?_
 rintro x22 e6 ⟨⟨a10,c10⟩,⟨a11,c11⟩,⟨a12,c12⟩⟩
 refine au [79,59,5,5,114,25,2,1] ?_
 refine qD 5 (fun ((x23,_):(Bool×Unit))=>([(2,.pointer (some ⟨g10,0,none⟩)),(7,.pointer (some ⟨g16,0,none⟩)),(115,.bool x23)],[⟨g16,24,[.slice a0 x0.length c0.1]⟩,⟨g10,24,[.slice none 0 0]⟩],[RoN eN39 rN39 39 1 (.slice a0 x0.length c0.1) x0 c0.2 []],[],qcj F x0 x23)) ?_ ?_
 refine qb (os:=_) rfl ?_
 refine av [25,7] ?_ ?_
 intro h4
 refine qk (k:=110) rfl h4 ?_
 refine au [61,74] ?_
 exact qa (true,())
 intro h4
 refine qj (k:=110) rfl h4 ?_
 refine au [91,29,12] ?_
 intro x24 e7 _
 refine au [25,4,76] ?_
 exact qa ((!x24),())
 rintro ⟨x23,_⟩
 try dsimp only
 refine qb (os:=_) rfl ?_
 refine av [51] ?_ ?_
 intro _
 refine au [47] ?_
 refine qr (cells:=[.slice none 0 0]) rfl st24 rfl (by kernel_rfl) rfl ?_
 refine au [132,26,9] ?_
 exact qu (none,(0,([]:List (qAr×Nat)))) (resL (rs:=[.cell 2 24,.tmp 3]) rfl (.cell (i:=1) rfl tf24 rfl rfl (by simp) rfl (.tmp rfl ResOk.nil)) rfl) (fun h=>by subst h;exact (.cons 0 rfl .nil))
 intro _
 refine au [66,80,25,6,49] ?_
 exact qu (a0,c0) (resL (rs:=[.cell 2 24,.tmp 3]) rfl (.cell (i:=1) rfl tf24 rfl rfl (by simp) rfl (.tmp rfl ResOk.nil)) rfl) (fun h=>by subst h;exact (.cons 0 rfl .nil))
set_option maxHeartbeats 4000000 in
theorem qlt {F:Nat}{x1:qAq}{a2:qAr}{c3:Nat}{x4:qAq}{a5:qAr}{c6:Nat}{r:Bool}(hm:qeo F x1 x4=some r) :
    Pure Tryz.prog 97 [.slice a2 x1.length c3,.slice a5 x4.length c6] [Sl (eI .u8) 1 (.slice a2 x1.length c3) x1,Sl (eI .u8) 1 (.slice a5 x4.length c6) x4] Unit (fun _=>.bool r) (fun _=>[]) (fun _=>[]):=by
 refine qi Tryz.func97 rfl Tryz.ntmps97 rfl hm (fun w=>?_)
 refine av [87,64,21,1,21,71] ?_ ?_
 intro _
 exact az [47,82]
 intro _
 refine au [66] ?_
 refine qd (fun ((_,_):(Unit×Unit))=>([],[],[],[],qgh F)) ?_ ?_
 refine au [53,14] ?_
 refine ql (fun ((x0,_):(Int×Unit))=>([(0,.slice a2 x1.length c3),(1,.slice a5 x4.length c6),(5,qAs x0)],[],[],[Sl (eI .u8) 1 (.slice a2 x1.length c3) x1,Sl (eI .u8) 1 (.slice a5 x4.length c6) x4])) (fun k (s:(Int×Unit))=>vp F x1 x4 k s.1) (0,()) F ?_
 intro k0
 rintro ⟨x0,_⟩
 try dsimp only
 refine qp (m':=qcn F x1 x4 (vp F x1 x4 k0) x0) rfl ?_
 refine av [3,116] ?_ ?_
 intro _
 refine au [90,3,30,10] ?_
 intro x2 e0 b0 o0 h0
 replace h0:a2=some ⟨b0,o0,none⟩:=h0
 refine au [35,7] ?_
 intro x3 e1 b1 o1 h1
 replace h1:a5=some ⟨b1,o1,none⟩:=h1
 refine qB mixed [] [] [qv b1 (o1+x0.toNat*1) ((eI .u8) x3),qv b0 (o0+x0.toNat*1) ((eI .u8) x2),Sl (eI .u8) 1 (.slice a2 x1.length c3) x1,Sl (eI .u8) 1 (.slice a5 x4.length c6) x4] .nil (qF 0 rfl (qF 1 rfl (qF 2 rfl (qF 3 rfl qA)))) 9 rfl ?_
 refine au [72] ?_
 refine qh (d:=17) (v:=.slice (some ⟨b0,o0,none⟩) x1.length c3) rfl (by rw[h0] <;> rfl) (qo 2 (.pointer (some ⟨b0,(o0+x0.toNat*1),none⟩)) rfl rfl rfl (yV Tryz.underlying27 tf5 rfl rfl (qQ e0).1 (kC e0)) (qh (d:=17) (v:=.slice a2 x1.length c3) rfl (by rw[h0] <;> rfl) (qJ 3 (.int .u8 x2) [] rfl rfl rfl (zJ (j:=1) rfl tf5 rfl rfl (fun _=>rfl) rfl) ?_)))
 refine au [7,4,7,5] ?_
 refine qh (d:=21) (v:=.slice (some ⟨b1,o1,none⟩) x4.length c6) rfl (by rw[h1] <;> rfl) (qo 6 (.pointer (some ⟨b1,(o1+x0.toNat*1),none⟩)) rfl rfl rfl (yV Tryz.underlying27 tf5 rfl rfl (qQ e1).1 (kC e1)) (qh (d:=21) (v:=.slice a5 x4.length c6) rfl (by rw[h1] <;> rfl) (qJ 7 (.int .u8 x3) [] rfl rfl rfl (zJ (j:=0) rfl tf5 rfl rfl (fun _=>rfl) rfl) ?_)))
 refine au [7,8,24,14] ?_
 refine qM ?_ (by intro c h;cases h)
 refine av [2,8] ?_ ?_
 intro _
 exact az [47,49,92,18]
 intro _
 refine au [9,22,2,4,78,5,0] ?_
 exact qg (iadd .i64 x0 1,())
 intro _
 exact az [119]
 rintro ⟨_,_⟩
 try dsimp only
 exact az [47,73]
theorem qmQ {F:Nat}{x1:Int}{x2:qAq}{a3:qAr}{c4:Nat}{x5:Int}{x6:qAq}{a7:qAr}{c8:Nat}{r:Bool}(hm:qaD F x1 x2 x5 x6=some r) :
    Pure Tryz.prog 69 [.agg #[qAs x1,.slice a3 x2.length c4],.agg #[qAs x5,.slice a7 x6.length c8]] [Sl (eI .u8) 1 (.slice a3 x2.length c4) x2,Sl (eI .u8) 1 (.slice a7 x6.length c8) x6] Unit (fun _=>.bool r) (fun _=>[]) (fun _=>[]):=by
 refine qi Tryz.func69 rfl Tryz.ntmps69 rfl hm (fun w=>?_)
 refine au [77] ?_
 intro g9
 refine au [24,3] ?_
 intro g10
 refine au [46,47,69,57,106] ?_
 refine qD 6 (fun ((x13,_):(Bool×Unit))=>([(16,.bool x13)],[],[],[],qaR F x13)) ?_ ?_
 refine qb (os:=_) rfl ?_
 refine av [25,7] ?_ ?_
 intro h11
 refine qk (k:=10) rfl h11 ?_
 refine au [69,57] ?_
 refine qf qlt ?_
 intro x14 e14 _
 refine au [74] ?_
 exact qa (x14,())
 intro h11
 refine qj (k:=10) rfl h11 ?_
 refine au [61,6,76] ?_
 exact qa (false,())
 rintro ⟨x13,_⟩
 try dsimp only
 refine qb (os:=_) rfl ?_
 exact az [73]
set_option maxHeartbeats 4000000 in
theorem qmR {F:Nat}{x1:Int}{x2:Int}{x3:Int}{x4:Int}{x5:qAq}{a6:qAr}{c7:Nat}{x8:Int}{x9:qAq}{a10:qAr}{c11:Nat}{x12:Int}{x13:Int}{x14:Int}{x15:Int}{x16:qAq}{a17:qAr}{c18:Nat}{x19:Int}{x20:qAq}{a21:qAr}{c22:Nat}{r:Bool}(hm:qdD F x1 x2 x3 x4 x5 x8 x9 x12 x13 x14 x15 x16 x19 x20=some r) :
    Pure Tryz.prog 31 [.agg #[qAs x1,qAs x2,qAs x3,qAs x4,.slice a6 x5.length c7,qAs x8,.slice a10 x9.length c11],.agg #[qAs x12,qAs x13,qAs x14,qAs x15,.slice a17 x16.length c18,qAs x19,.slice a21 x20.length c22]] [Sl (eI .u8) 1 (.slice a6 x5.length c7) x5,Sl (eI .u8) 1 (.slice a10 x9.length c11) x9,Sl (eI .u8) 1 (.slice a17 x16.length c18) x16,Sl (eI .u8) 1 (.slice a21 x20.length c22) x20] Unit (fun _=>.bool r) (fun _=>[]) (fun _=>[]):=by
 refine qi Tryz.func31 rfl Tryz.ntmps31 rfl hm (fun w=>?_)
 refine au [77] ?_
 intro g23
 refine au [24,3] ?_
 intro g24
 refine au [46,47,69,57,106] ?_
 refine qq 6 ((x1:Int) == x12) [(2,.pointer (some ⟨g23,0,none⟩)),(3,.pointer (some ⟨g24,0,none⟩)),(16,.bool (((x1:Int) == x12) && ((x2:Int) == x13)))] (fun h25=>?_) (fun h25=>?_) ?_
 refine qb (os:=_) rfl (qk (k:=10) rfl h25 ?_)
 refine au [69,57,97] ?_
 refine qc (d:=16) (v:=.bool (((x1:Int) == x12) && ((x2:Int) == x13))) rfl (by rw[h25];simp only[qx3]) ?_
 exact az [62]
 refine qb (os:=_) rfl (qj (k:=10) rfl h25 ?_)
 refine au [61,6,24,2] ?_
 refine qc (d:=16) (v:=.bool (((x1:Int) == x12) && ((x2:Int) == x13))) rfl (by rw[h25];simp only[qxW]) ?_
 exact az [62]
 refine qb (os:=_) rfl ?_
 refine au [1] ?_
 refine qq 6 (((x1:Int) == x12) && ((x2:Int) == x13)) [(2,.pointer (some ⟨g23,0,none⟩)),(3,.pointer (some ⟨g24,0,none⟩)),(23,.bool ((((x1:Int) == x12) && ((x2:Int) == x13)) && ((x3:Int) == x14)))] (fun h26=>?_) (fun h26=>?_) ?_
 refine qb (os:=_) rfl (qk (k:=17) rfl h26 ?_)
 refine au [69,57,97] ?_
 refine qc (d:=23) (v:=.bool ((((x1:Int) == x12) && ((x2:Int) == x13)) && ((x3:Int) == x14))) rfl (by rw[h26];simp only[qx3]) ?_
 exact az [62]
 refine qb (os:=_) rfl (qj (k:=17) rfl h26 ?_)
 refine au [61,6,24,2] ?_
 refine qc (d:=23) (v:=.bool ((((x1:Int) == x12) && ((x2:Int) == x13)) && ((x3:Int) == x14))) rfl (by rw[h26];simp only[qxW]) ?_
 exact az [62]
 refine qb (os:=_) rfl ?_
 refine au [1] ?_
 refine qD 6 (fun ((x29,_):(Bool×Unit))=>([(2,.pointer (some ⟨g23,0,none⟩)),(3,.pointer (some ⟨g24,0,none⟩)),(30,.bool x29)],[⟨g24,33,[qAs x12,qAs x13,qAs x14,qAs x15,.slice a17 x16.length c18,qAs x19,.slice a21 x20.length c22]⟩,⟨g23,33,[qAs x1,qAs x2,qAs x3,qAs x4,.slice a6 x5.length c7,qAs x8,.slice a10 x9.length c11]⟩],[],[Sl (eI .u8) 1 (.slice a17 x16.length c18) x16,Sl (eI .u8) 1 (.slice a21 x20.length c22) x20,Sl (eI .u8) 1 (.slice a6 x5.length c7) x5,Sl (eI .u8) 1 (.slice a10 x9.length c11) x9],qaS F x8 x9 x19 x20 x29)) ?_ ?_
 refine qb (os:=_) rfl ?_
 refine av [25,7] ?_ ?_
 intro h27
 refine qk (k:=24) rfl h27 ?_
 refine au [128,103,31,10] ?_
 intro x34 e34 _
 refine au [74] ?_
 exact qa (x34,())
 intro h27
 refine qj (k:=24) rfl h27 ?_
 refine au [61,6,76] ?_
 exact qa (false,())
 rintro ⟨x29,_⟩
 try dsimp only
 refine qb (os:=_) rfl ?_
 refine au [1] ?_
 refine qD 6 (fun ((x32,_):(Bool×Unit))=>([(37,.bool x32)],[],[],[],qcX F x32)) ?_ ?_
 refine qb (os:=_) rfl ?_
 refine av [25,7] ?_ ?_
 intro h30
 refine qk (k:=31) rfl h30 ?_
 refine au [128,103,31,10] ?_
 intro x33 e33 _
 refine au [74] ?_
 exact qa (x33,())
 intro h30
 refine qj (k:=31) rfl h30 ?_
 refine au [61,6,76] ?_
 exact qa (false,())
 rintro ⟨x32,_⟩
 try dsimp only
 refine qb (os:=_) rfl ?_
 exact az [73]
set_option maxHeartbeats 4000000 in
theorem qlv {F:Nat}{x1:Int}{x2:Int}{x3:Int}{x4:Int}{x5:Int}{x6:qAq}{a7:qAr}{c8:Nat}{x9:Int}{x10:Int}{x11:Int}{x12:Int}{x13:qAq}{a14:qAr}{c15:Nat}{x16:Int}{x17:qAq}{a18:qAr}{c19:Nat}{r:(List (qAq)×qAq×Int)}(hm:qa9 F x1 x2 x3 x4 x5 x6 x9 x10 x11 x12 x13 x16 x17=some r) :
    Pure Tryz.prog 12 [.agg #[qAs x1,qAs x2,qAs x3,qAs x4,qAs x5,.slice a7 x6.length c8,qAs x9,qAs x10,qAs x11,qAs x12,.slice a14 x13.length c15,qAs x16,.slice a18 x17.length c19]] [Sl (eI .u8) 1 (.slice a7 x6.length c8) x6,Sl (eI .u8) 1 (.slice a14 x13.length c15) x13,Sl (eI .u8) 1 (.slice a18 x17.length c19) x17] ((qAr×(Nat×List (qAr×Nat)))×(qAr×Nat)) (fun g=>.tuple #[.agg #[.slice g.1.1 r.1.length g.1.2.1],.slice g.2.1 r.2.1.length g.2.2,qAs r.2.2]) (fun g=>[RoN eN39 rN39 39 1 (.slice g.1.1 r.1.length g.1.2.1) r.1 g.1.2.2 [],Ro (eI .i64) 3 1 (.slice g.2.1 r.2.1.length g.2.2) r.2.1]) (fun _=>[]):=by
 refine qi Tryz.func12 rfl Tryz.ntmps12 rfl hm (fun w=>?_)
 refine au [108] ?_
 intro g20
 refine au [25,0] ?_
 intro g21
 refine au [67,47,128] ?_
 refine qf qmP ?_
 rintro x22 e22 ⟨a23,c24⟩
 refine au [111] ?_
 intro g25
 refine av [101,64,71] ?_ ?_
 intro _
 refine au [47] ?_
 refine qr (cells:=[.slice none 0 0]) rfl st24 rfl (by kernel_rfl) rfl ?_
 refine au [1,25,6,5,55,26,9,25,1] ?_
 exact qu ((none,(0,([]:List (qAr×Nat)))),(none,0)) (resL (rs:=[.cell 2 24,.tmp 3,.tmp 4]) rfl (.cell (i:=1) rfl tf24 rfl rfl (by simp) rfl (.tmp rfl (.tmp rfl ResOk.nil))) rfl) (fun h=>by subst h;exact (.cons 1 rfl (.cons 0 rfl .nil)))
 intro _
 refine au [66,80,12,12,26,1,36,7] ?_
 rintro x27 e27 ⟨⟨a28,c29⟩,⟨a30,c31⟩,⟨a32,c33⟩⟩
 refine au [111] ?_
 intro g34
 refine au [101,64,25,2,1] ?_
 refine qD 7 (fun ((x42,_):(Bool×Unit))=>([(1,.pointer (some ⟨g20,0,none⟩)),(2,.pointer (some ⟨g21,0,none⟩)),(5,.pointer (some ⟨g25,0,none⟩)),(39,.bool x42)],[⟨g25,24,[.slice a23 x22.1.length c24.1]⟩,⟨g21,24,[.slice none 0 0]⟩,⟨g20,35,[qAs x1,qAs x2,qAs x3,qAs x4,qAs x5,.slice a7 x6.length c8,qAs x9,qAs x10,qAs x11,qAs x12,.slice a14 x13.length c15,qAs x16,.slice a18 x17.length c19]⟩],[RoN eN39 rN39 39 1 (.slice a23 x22.1.length c24.1) x22.1 c24.2 []],[Sl (eI .u8) 1 (.slice a7 x6.length c8) x6,Sl (eI .u8) 1 (.slice a14 x13.length c15) x13,Sl (eI .u8) 1 (.slice a18 x17.length c19) x17],jX F x2 x3 x4 x22 x42)) ?_ ?_
 refine qb (os:=_) rfl ?_
 refine av [25,7] ?_ ?_
 intro h40
 refine qk (k:=32) rfl h40 ?_
 refine au [61,56,74] ?_
 exact qa (true,())
 intro h40
 refine qj (k:=32) rfl h40 ?_
 refine au [103,12,29,2,36,8] ?_
 intro x51 e51 _
 refine au [25,4,76] ?_
 exact qa ((!x51),())
 rintro ⟨x42,_⟩
 try dsimp only
 refine qb (os:=_) rfl ?_
 refine av [51] ?_ ?_
 intro _
 refine au [47] ?_
 refine qr (cells:=[.slice none 0 0]) rfl st24 rfl (by kernel_rfl) rfl ?_
 refine au [25,6,5,55,26,9,25,1] ?_
 exact qu ((none,(0,([]:List (qAr×Nat)))),(none,0)) (resL (rs:=[.cell 2 24,.tmp 3,.tmp 4]) rfl (.cell (i:=1) rfl tf24 rfl rfl (by simp) rfl (.tmp rfl (.tmp rfl ResOk.nil))) rfl) (fun h=>by subst h;exact (.cons 1 rfl (.cons 0 rfl .nil)))
 intro _
 refine au [66,80,12,12,26,1,31,7] ?_
 rintro x43 e43 ⟨⟨a44,c45⟩,⟨a46,c47⟩,⟨a48,c49⟩⟩
 refine au [79,59,5,5,67,80,1,25,6,5,49] ?_
 exact qu ((a23,c24),(a46,c47)) (resL (rs:=[.cell 2 24,.tmp 3,.tmp 4]) rfl (.cell (i:=1) rfl tf24 rfl rfl (by simp) rfl (.tmp rfl (.tmp rfl ResOk.nil))) rfl) (fun h=>by subst h;exact (.cons 3 rfl (.cons 1 rfl .nil)))
theorem qsc {F:Nat}{x1:List (qAq)}{a2:qAr}{c3:Nat}{s3:List (qAr×Nat)}{x4:Int}{x5:Int}{r:Bool}(hm:qhx F x1 x4 x5=some r) :
    Pure Tryz.prog 13 [.agg #[.slice a2 x1.length c3],qAs x4,qAs x5] [SlN eN39 iN39 1 (.slice a2 x1.length c3) x1 s3] Unit (fun _=>.bool r) (fun _=>[]) (fun _=>[]):=by
 refine qi Tryz.func13 rfl Tryz.ntmps13 rfl hm (fun w=>?_)
 refine au [104] ?_
 intro g6
 refine au [46,94,1,27,0] ?_
 intro x7 e7 g10 b8 o9
 refine au [25,3,1,28,8] ?_
 intro x11 e11 _
 exact az [73]
theorem qlh (F:Nat)  (r:List (qAq))(hm:qf1 F =some r) :
    Pure Tryz.prog 32 [] [] (qAr×(Nat×List (qAr×Nat))) (fun g=>.agg #[.slice g.1 r.length g.2.1]) (fun g=>[RoN eN39 rN39 39 1 (.slice g.1 r.length g.2.1) r g.2.2 []]) (fun _=>[]):=by
 refine qi Tryz.func32 rfl Tryz.ntmps32 rfl hm (fun w=>?_)
 refine au [36,9,47,25,0] ?_
 intro g1
 refine au [45,47] ?_
 refine qx (vs:=[qAs 1,qAs 2,qAs 3,qAs 5]) (ys:=([1,2,3,5]:qAq)) (qs .i64) (by decide) rfl Tryz.underlying39 tf3 rfl rfl rfl rfl rfl (by decide) (fun a2 c3=>qx (vs:=[qAs 1,qAs 2,qAs 3,qAs 5]) (ys:=([1,2,3,5]:qAq)) (qs .i64) (by decide) rfl Tryz.underlying39 tf3 rfl rfl rfl rfl rfl (by decide) (fun a4 c5=>qx (vs:=[qAs 0,qAs 1,qAs 2,qAs 3,qAs 5]) (ys:=([0,1,2,3,5]:qAq)) (qs .i64) (by decide) rfl Tryz.underlying39 tf3 rfl rfl rfl rfl rfl (by decide) (fun a6 c7=>qx (vs:=[qAs 4]) (ys:=([4]:qAq)) (qs .i64) (by decide) rfl Tryz.underlying39 tf3 rfl rfl rfl rfl rfl (by decide) (fun a8 c9=>qx (vs:=[qAs 1,qAs 2,qAs 3]) (ys:=([1,2,3]:qAq)) (qs .i64) (by decide) rfl Tryz.underlying39 tf3 rfl rfl rfl rfl rfl (by decide) (fun a10 c11=>?_)))))
 refine au [27,14] ?_
 refine qx (vs:=[.slice a2 ([1,2,3,5]:qAq).length c3,.slice a4 ([1,2,3,5]:qAq).length c5,.slice a6 ([0,1,2,3,5]:qAq).length c7,.slice none ([]:qAq).length 0,.slice a8 ([4]:qAq).length c9,.slice a10 ([1,2,3]:qAq).length c11]) (ys:=([(([1,2,3,5]:qAq),(a2,c3)),(([1,2,3,5]:qAq),(a4,c5)),(([0,1,2,3,5]:qAq),(a6,c7)),(([]:qAq),(none,0)),(([4]:qAq),(a8,c9)),(([1,2,3]:qAq),(a10,c11))]:List (qAq×(qAr×Nat)))) vf (by decide) rfl Tryz.underlying22 tf39 rfl rfl rfl rfl rfl (by decide) (fun a12 c13=>qfG (rin:=rN39) (i:=0) ([([1,2,3,5]:qAq),([1,2,3,5]:qAq),([0,1,2,3,5]:qAq),([]:qAq),([4]:qAq),([1,2,3]:qAq)]:List (qAq)) ([(a2,c3),(a4,c5),(a6,c7),(none,0),(a8,c9),(a10,c11)]:List (qAr×Nat)) rfl rfl (.cons 5 rfl (.cons 4 rfl (.cons 3 rfl (.cons 0 rfl (.cons 1 rfl (.cons 0 rfl .nil)))))) (qr (cells:=[.slice a12 ([([1,2,3,5]:qAq),([1,2,3,5]:qAq),([0,1,2,3,5]:qAq),([]:qAq),([4]:qAq),([1,2,3]:qAq)]:List (qAq)).length c13]) rfl st24 rfl (by kernel_rfl) rfl ?_))
 refine au [83,10] ?_
 exact qu (a12,(c13,([(a2,c3),(a4,c5),(a6,c7),(none,0),(a8,c9),(a10,c11)]:List (qAr×Nat)))) (resL (rs:=[.cell 0 24]) rfl (.cell (i:=0) rfl tf24 rfl rfl (by simp) rfl ResOk.nil) rfl) (fun h=>by subst h;exact (.cons 0 rfl .nil))
set_option maxHeartbeats 4000000 in
theorem qj7 (F:Nat)  (r:Bool)(hm:qdu F =some r) :
    Pure Tryz.prog 14 [] [] Unit (fun _=>.bool r) (fun _=>[]) (fun _=>[]):=by
 refine qi Tryz.func14 rfl Tryz.ntmps14 rfl hm (fun w=>?_)
 refine au [36,9,53,47] ?_
 refine qf (fun h=>qlh F _ h) ?_
 rintro x1 e1 ⟨a2,c3⟩
 refine qr (cells:=[qAs 3,qAs 3,qAs 2]) rfl st26 rfl (by kernel_rfl) rfl ?_
 refine au [36,10] ?_
 rintro x4 e4 ⟨⟨a5,c6⟩,⟨a7,c8⟩,⟨a9,c10⟩⟩
 refine au [111] ?_
 intro g11
 refine au [101,80,29,9] ?_
 rintro x12 e12 ⟨a13,c14⟩
 refine au [129,5,67,80,31,11] ?_
 intro x15 e15 _
 refine au [79,67,80,31,11] ?_
 intro x16 e16 _
 refine au [79,67,80,29,9] ?_
 rintro x17 e17 ⟨a18,c19⟩
 refine au [129,5,67,48,106] ?_
 refine qD 4 (fun ((x24,_):(Bool×Unit))=>([(1,.pointer (some ⟨g11,0,none⟩)),(4,qAs x12.2.1),(5,qAs x12.2.2),(6,.bool x15.1),(7,qAs x15.2),(8,.bool x16.1),(9,qAs x16.2),(12,qAs x17.2.2),(47,.bool x24)],[⟨g11,35,[qAs x4.1,qAs x4.2.1,qAs x4.2.2.1,qAs x4.2.2.2.1,qAs x4.2.2.2.2.1,.slice a5 x4.2.2.2.2.2.1.length c6,qAs x4.2.2.2.2.2.2.1,qAs x4.2.2.2.2.2.2.2.1,qAs x4.2.2.2.2.2.2.2.2.1,qAs x4.2.2.2.2.2.2.2.2.2.1,.slice a7 x4.2.2.2.2.2.2.2.2.2.2.1.length c8,qAs x4.2.2.2.2.2.2.2.2.2.2.2.1,.slice a9 x4.2.2.2.2.2.2.2.2.2.2.2.2.1.length c10]⟩],[Ro (eI .u8) 5 1 (.slice a5 x4.2.2.2.2.2.1.length c6) x4.2.2.2.2.2.1,Ro (eI .u8) 5 1 (.slice a7 x4.2.2.2.2.2.2.2.2.2.2.1.length c8) x4.2.2.2.2.2.2.2.2.2.2.1,Ro (eI .u8) 5 1 (.slice a9 x4.2.2.2.2.2.2.2.2.2.2.2.2.1.length c10) x4.2.2.2.2.2.2.2.2.2.2.2.2.1],[],qbn F x4 x12 x15 x16 x17 x24)) ?_ ?_
 refine qb (os:=_) rfl ?_
 refine av [25,7] ?_ ?_
 intro h20
 refine qk (k:=43) rfl h20 ?_
 refine au [1] ?_
 refine qx (vs:=[qAs 1,qAs 2,qAs 3,qAs 5]) (ys:=([1,2,3,5]:qAq)) (qs .i64) (by decide) rfl Tryz.underlying39 tf3 rfl rfl rfl rfl rfl (by decide) (fun a40 c41=>?_)
 refine au [29,12] ?_
 intro x42 e42 _
 refine au [74] ?_
 exact qa (x42,())
 intro h20
 refine qj (k:=43) rfl h20 ?_
 refine au [56,6,76] ?_
 exact qa (false,())
 rintro ⟨x24,_⟩
 try dsimp only
 refine qb (os:=_) rfl ?_
 refine au [1] ?_
 refine qq 3 x24 [(1,.pointer (some ⟨g11,0,none⟩)),(5,qAs x12.2.2),(6,.bool x15.1),(7,qAs x15.2),(8,.bool x16.1),(9,qAs x16.2),(12,qAs x17.2.2),(51,.bool (x24 && ((x12.2.1:Int) == 2)))] (fun h25=>?_) (fun h25=>?_) ?_
 refine qb (os:=_) rfl (qk (k:=48) rfl h25 ?_)
 refine au [1,97] ?_
 refine qc (d:=51) (v:=.bool (x24 && ((x12.2.1:Int) == 2))) rfl (by rw[h25];simp only[qx3]) ?_
 exact az [62]
 refine qb (os:=_) rfl (qj (k:=48) rfl h25 ?_)
 refine au [56,24,2] ?_
 refine qc (d:=51) (v:=.bool (x24 && ((x12.2.1:Int) == 2))) rfl (by rw[h25];simp only[qxW]) ?_
 exact az [62]
 refine qb (os:=_) rfl ?_
 refine au [1] ?_
 refine qq 3 (x24 && ((x12.2.1:Int) == 2)) [(1,.pointer (some ⟨g11,0,none⟩)),(6,.bool x15.1),(7,qAs x15.2),(8,.bool x16.1),(9,qAs x16.2),(12,qAs x17.2.2),(55,.bool ((x24 && ((x12.2.1:Int) == 2)) && ((x12.2.2:Int) == 0)))] (fun h26=>?_) (fun h26=>?_) ?_
 refine qb (os:=_) rfl (qk (k:=52) rfl h26 ?_)
 refine au [1,97] ?_
 refine qc (d:=55) (v:=.bool ((x24 && ((x12.2.1:Int) == 2)) && ((x12.2.2:Int) == 0))) rfl (by rw[h26];simp only[qx3]) ?_
 exact az [62]
 refine qb (os:=_) rfl (qj (k:=52) rfl h26 ?_)
 refine au [56,24,2] ?_
 refine qc (d:=55) (v:=.bool ((x24 && ((x12.2.1:Int) == 2)) && ((x12.2.2:Int) == 0))) rfl (by rw[h26];simp only[qxW]) ?_
 exact az [62]
 refine qb (os:=_) rfl ?_
 refine au [1] ?_
 refine qq 2 ((x24 && ((x12.2.1:Int) == 2)) && ((x12.2.2:Int) == 0)) [(1,.pointer (some ⟨g11,0,none⟩)),(7,qAs x15.2),(8,.bool x16.1),(9,qAs x16.2),(12,qAs x17.2.2),(58,.bool (((x24 && ((x12.2.1:Int) == 2)) && ((x12.2.2:Int) == 0)) && x15.1))] (fun h27=>?_) (fun h27=>?_) ?_
 refine qb (os:=_) rfl (qk (k:=56) rfl h27 ?_)
 refine au [1,24,1] ?_
 refine qc (d:=58) (v:=.bool (((x24 && ((x12.2.1:Int) == 2)) && ((x12.2.2:Int) == 0)) && x15.1)) rfl (by rw[h27];simp only[qx3]) ?_
 exact az [62]
 refine qb (os:=_) rfl (qj (k:=56) rfl h27 ?_)
 refine au [6,24,2] ?_
 refine qc (d:=58) (v:=.bool (((x24 && ((x12.2.1:Int) == 2)) && ((x12.2.2:Int) == 0)) && x15.1)) rfl (by rw[h27];simp only[qxW]) ?_
 exact az [62]
 refine qb (os:=_) rfl ?_
 refine au [1] ?_
 refine qq 3 (((x24 && ((x12.2.1:Int) == 2)) && ((x12.2.2:Int) == 0)) && x15.1) [(1,.pointer (some ⟨g11,0,none⟩)),(8,.bool x16.1),(9,qAs x16.2),(12,qAs x17.2.2),(62,.bool ((((x24 && ((x12.2.1:Int) == 2)) && ((x12.2.2:Int) == 0)) && x15.1) && ((x15.2:Int) == 0)))] (fun h28=>?_) (fun h28=>?_) ?_
 refine qb (os:=_) rfl (qk (k:=59) rfl h28 ?_)
 refine au [1,97] ?_
 refine qc (d:=62) (v:=.bool ((((x24 && ((x12.2.1:Int) == 2)) && ((x12.2.2:Int) == 0)) && x15.1) && ((x15.2:Int) == 0))) rfl (by rw[h28];simp only[qx3]) ?_
 exact az [62]
 refine qb (os:=_) rfl (qj (k:=59) rfl h28 ?_)
 refine au [56,24,2] ?_
 refine qc (d:=62) (v:=.bool ((((x24 && ((x12.2.1:Int) == 2)) && ((x12.2.2:Int) == 0)) && x15.1) && ((x15.2:Int) == 0))) rfl (by rw[h28];simp only[qxW]) ?_
 exact az [62]
 refine qb (os:=_) rfl ?_
 refine au [1] ?_
 refine qq 3 ((((x24 && ((x12.2.1:Int) == 2)) && ((x12.2.2:Int) == 0)) && x15.1) && ((x15.2:Int) == 0)) [(1,.pointer (some ⟨g11,0,none⟩)),(9,qAs x16.2),(12,qAs x17.2.2),(66,.bool (((((x24 && ((x12.2.1:Int) == 2)) && ((x12.2.2:Int) == 0)) && x15.1) && ((x15.2:Int) == 0)) && (!x16.1)))] (fun h29=>?_) (fun h29=>?_) ?_
 refine qb (os:=_) rfl (qk (k:=63) rfl h29 ?_)
 refine au [1,25,4,24,1] ?_
 refine qc (d:=66) (v:=.bool (((((x24 && ((x12.2.1:Int) == 2)) && ((x12.2.2:Int) == 0)) && x15.1) && ((x15.2:Int) == 0)) && (!x16.1))) rfl (by rw[h29];simp only[qx3]) ?_
 exact az [62]
 refine qb (os:=_) rfl (qj (k:=63) rfl h29 ?_)
 refine au [56,24,2] ?_
 refine qc (d:=66) (v:=.bool (((((x24 && ((x12.2.1:Int) == 2)) && ((x12.2.2:Int) == 0)) && x15.1) && ((x15.2:Int) == 0)) && (!x16.1))) rfl (by rw[h29];simp only[qxW]) ?_
 exact az [62]
 refine qb (os:=_) rfl ?_
 refine au [1] ?_
 refine qq 3 (((((x24 && ((x12.2.1:Int) == 2)) && ((x12.2.2:Int) == 0)) && x15.1) && ((x15.2:Int) == 0)) && (!x16.1)) [(1,.pointer (some ⟨g11,0,none⟩)),(12,qAs x17.2.2),(70,.bool ((((((x24 && ((x12.2.1:Int) == 2)) && ((x12.2.2:Int) == 0)) && x15.1) && ((x15.2:Int) == 0)) && (!x16.1)) && ((x16.2:Int) == 0)))] (fun h30=>?_) (fun h30=>?_) ?_
 refine qb (os:=_) rfl (qk (k:=67) rfl h30 ?_)
 refine au [1,97] ?_
 refine qc (d:=70) (v:=.bool ((((((x24 && ((x12.2.1:Int) == 2)) && ((x12.2.2:Int) == 0)) && x15.1) && ((x15.2:Int) == 0)) && (!x16.1)) && ((x16.2:Int) == 0))) rfl (by rw[h30];simp only[qx3]) ?_
 exact az [62]
 refine qb (os:=_) rfl (qj (k:=67) rfl h30 ?_)
 refine au [56,24,2] ?_
 refine qc (d:=70) (v:=.bool ((((((x24 && ((x12.2.1:Int) == 2)) && ((x12.2.2:Int) == 0)) && x15.1) && ((x15.2:Int) == 0)) && (!x16.1)) && ((x16.2:Int) == 0))) rfl (by rw[h30];simp only[qxW]) ?_
 exact az [62]
 refine qb (os:=_) rfl ?_
 refine au [1] ?_
 refine qq 3 ((((((x24 && ((x12.2.1:Int) == 2)) && ((x12.2.2:Int) == 0)) && x15.1) && ((x15.2:Int) == 0)) && (!x16.1)) && ((x16.2:Int) == 0)) [(1,.pointer (some ⟨g11,0,none⟩)),(74,.bool (((((((x24 && ((x12.2.1:Int) == 2)) && ((x12.2.2:Int) == 0)) && x15.1) && ((x15.2:Int) == 0)) && (!x16.1)) && ((x16.2:Int) == 0)) && ((x17.2.2:Int) == 3)))] (fun h31=>?_) (fun h31=>?_) ?_
 refine qb (os:=_) rfl (qk (k:=71) rfl h31 ?_)
 refine au [1,97] ?_
 refine qc (d:=74) (v:=.bool (((((((x24 && ((x12.2.1:Int) == 2)) && ((x12.2.2:Int) == 0)) && x15.1) && ((x15.2:Int) == 0)) && (!x16.1)) && ((x16.2:Int) == 0)) && ((x17.2.2:Int) == 3))) rfl (by rw[h31];simp only[qx3]) ?_
 exact az [62]
 refine qb (os:=_) rfl (qj (k:=71) rfl h31 ?_)
 refine au [56,24,2] ?_
 refine qc (d:=74) (v:=.bool (((((((x24 && ((x12.2.1:Int) == 2)) && ((x12.2.2:Int) == 0)) && x15.1) && ((x15.2:Int) == 0)) && (!x16.1)) && ((x16.2:Int) == 0)) && ((x17.2.2:Int) == 3))) rfl (by rw[h31];simp only[qxW]) ?_
 exact az [62]
 refine qb (os:=_) rfl ?_
 refine au [1] ?_
 refine qD 4 (fun ((x34,_):(Bool×Unit))=>([(1,.pointer (some ⟨g11,0,none⟩)),(79,.bool x34)],[⟨g11,35,[qAs x4.1,qAs x4.2.1,qAs x4.2.2.1,qAs x4.2.2.2.1,qAs x4.2.2.2.2.1,.slice a5 x4.2.2.2.2.2.1.length c6,qAs x4.2.2.2.2.2.2.1,qAs x4.2.2.2.2.2.2.2.1,qAs x4.2.2.2.2.2.2.2.2.1,qAs x4.2.2.2.2.2.2.2.2.2.1,.slice a7 x4.2.2.2.2.2.2.2.2.2.2.1.length c8,qAs x4.2.2.2.2.2.2.2.2.2.2.2.1,.slice a9 x4.2.2.2.2.2.2.2.2.2.2.2.2.1.length c10]⟩],[Ro (eI .u8) 5 1 (.slice a5 x4.2.2.2.2.2.1.length c6) x4.2.2.2.2.2.1,Ro (eI .u8) 5 1 (.slice a7 x4.2.2.2.2.2.2.2.2.2.2.1.length c8) x4.2.2.2.2.2.2.2.2.2.2.1,Ro (eI .u8) 5 1 (.slice a9 x4.2.2.2.2.2.2.2.2.2.2.2.2.1.length c10) x4.2.2.2.2.2.2.2.2.2.2.2.2.1],[],qbo F x4 x34)) ?_ ?_
 refine qb (os:=_) rfl ?_
 refine av [25,7] ?_ ?_
 intro h32
 refine qk (k:=75) rfl h32 ?_
 refine au [24,8,29,8] ?_
 intro x39 e39 _
 refine au [24,11,74] ?_
 exact qa (((x39:Int) == 0),())
 intro h32
 refine qj (k:=75) rfl h32 ?_
 refine au [56,6,76] ?_
 exact qa (false,())
 rintro ⟨x34,_⟩
 try dsimp only
 refine qb (os:=_) rfl ?_
 refine au [1] ?_
 refine qD 6 (fun ((x37,_):(Bool×Unit))=>([(86,.bool x37)],[],[],[],qdv F x37)) ?_ ?_
 refine qb (os:=_) rfl ?_
 refine av [25,7] ?_ ?_
 intro h35
 refine qk (k:=80) rfl h35 ?_
 refine au [103] ?_
 refine qr (cells:=[qAs x4.1,qAs x4.2.1,qAs x4.2.2.1,qAs x4.2.2.2.1,qAs x4.2.2.2.2.1,.slice a5 x4.2.2.2.2.2.1.length c6,qAs 0,qAs 0,qAs 0,qAs 0,.slice none 0 0,qAs 0,.slice none 0 0]) rfl st35 rfl (by kernel_rfl) rfl ?_
 refine au [27,7,27,7,29,8] ?_
 intro x38 e38 _
 refine au [24,11,74] ?_
 exact qa (((x38:Int) == 4),())
 intro h35
 refine qj (k:=80) rfl h35 ?_
 refine au [61,6,76] ?_
 exact qa (false,())
 rintro ⟨x37,_⟩
 try dsimp only
 refine qb (os:=_) rfl ?_
 exact az [73]
set_option maxHeartbeats 4000000 in
theorem qj9 {F:Nat}{x1:Int}{x2:Int}{x3:Int}{x4:Int}{x5:Int}{x6:qAq}{a7:qAr}{c8:Nat}{x9:Int}{x10:Int}{x11:Int}{x12:Int}{x13:Int}{x14:qAq}{a15:qAr}{c16:Nat}{r:Bool}(hm:qfk F x1 x2 x3 x4 x5 x6 x9 x10 x11 x12 x13 x14=some r) :
    Pure Tryz.prog 33 [.agg #[qAs x1,qAs x2,qAs x3,qAs x4,qAs x5,.slice a7 x6.length c8],.agg #[qAs x9,qAs x10,qAs x11,qAs x12,qAs x13,.slice a15 x14.length c16]] [Sl (eI .u8) 1 (.slice a7 x6.length c8) x6,Sl (eI .u8) 1 (.slice a15 x14.length c16) x14] Unit (fun _=>.bool r) (fun _=>[]) (fun _=>[]):=by
 refine qi Tryz.func33 rfl Tryz.ntmps33 rfl hm (fun w=>?_)
 refine au [77] ?_
 intro g17
 refine au [24,3] ?_
 intro g18
 refine au [46,47,69,57,106] ?_
 refine qq 6 ((x1:Int) == x9) [(2,.pointer (some ⟨g17,0,none⟩)),(3,.pointer (some ⟨g18,0,none⟩)),(16,.bool (((x1:Int) == x9) && (((x2:Int) == x10) && (((x3:Int) == x11) && ((x4:Int) == x12)))))] (fun h19=>?_) (fun h19=>?_) ?_
 refine qb (os:=_) rfl (qk (k:=10) rfl h19 ?_)
 refine au [128,103] ?_
 refine quV rfl rfl rfl inferInstance rfl ?_
 refine au [24,1] ?_
 refine qc (d:=16) (v:=.bool (((x1:Int) == x9) && (((x2:Int) == x10) && (((x3:Int) == x11) && ((x4:Int) == x12))))) rfl (by rw[h19];simp only[qx3]) ?_
 exact az [62]
 refine qb (os:=_) rfl (qj (k:=10) rfl h19 ?_)
 refine au [61,6,24,2] ?_
 refine qc (d:=16) (v:=.bool (((x1:Int) == x9) && (((x2:Int) == x10) && (((x3:Int) == x11) && ((x4:Int) == x12))))) rfl (by rw[h19];simp only[qxW]) ?_
 exact az [62]
 refine qb (os:=_) rfl ?_
 refine au [1] ?_
 refine qD 6 (fun ((x22,_):(Bool×Unit))=>([(23,.bool x22)],[],[],[],qbt F x22)) ?_ ?_
 refine qb (os:=_) rfl ?_
 refine av [25,7] ?_ ?_
 intro h20
 refine qk (k:=17) rfl h20 ?_
 refine au [128,103,31,10] ?_
 intro x23 e23 _
 refine au [74] ?_
 exact qa (x23,())
 intro h20
 refine qj (k:=17) rfl h20 ?_
 refine au [61,6,76] ?_
 exact qa (false,())
 rintro ⟨x22,_⟩
 try dsimp only
 refine qb (os:=_) rfl ?_
 exact az [73]
set_option maxHeartbeats 4000000 in
theorem qlu {F:Nat}{x1:Int}{x2:Int}{x3:Int}{x4:Int}{x5:Int}{x6:qAq}{a7:qAr}{c8:Nat}{x9:Int}{x10:Int}{x11:Int}{x12:Int}{x13:qAq}{a14:qAr}{c15:Nat}{x16:Int}{x17:qAq}{a18:qAr}{c19:Nat}{x20:Int}{x21:Int}{x22:Int}{x23:Int}{x24:Int}{x25:qAq}{a26:qAr}{c27:Nat}{x28:Int}{x29:Int}{x30:Int}{x31:Int}{x32:qAq}{a33:qAr}{c34:Nat}{x35:Int}{x36:qAq}{a37:qAr}{c38:Nat}{r:Bool}(hm:qa8 F x1 x2 x3 x4 x5 x6 x9 x10 x11 x12 x13 x16 x17 x20 x21 x22 x23 x24 x25 x28 x29 x30 x31 x32 x35 x36=some r) :
    Pure Tryz.prog 15 [.agg #[qAs x1,qAs x2,qAs x3,qAs x4,qAs x5,.slice a7 x6.length c8,qAs x9,qAs x10,qAs x11,qAs x12,.slice a14 x13.length c15,qAs x16,.slice a18 x17.length c19],.agg #[qAs x20,qAs x21,qAs x22,qAs x23,qAs x24,.slice a26 x25.length c27,qAs x28,qAs x29,qAs x30,qAs x31,.slice a33 x32.length c34,qAs x35,.slice a37 x36.length c38]] [Sl (eI .u8) 1 (.slice a7 x6.length c8) x6,Sl (eI .u8) 1 (.slice a14 x13.length c15) x13,Sl (eI .u8) 1 (.slice a18 x17.length c19) x17,Sl (eI .u8) 1 (.slice a26 x25.length c27) x25,Sl (eI .u8) 1 (.slice a33 x32.length c34) x32,Sl (eI .u8) 1 (.slice a37 x36.length c38) x36] Unit (fun _=>.bool r) (fun _=>[]) (fun _=>[]):=by
 refine qi Tryz.func15 rfl Tryz.ntmps15 rfl hm (fun w=>?_)
 refine au [77] ?_
 intro g39
 refine au [24,3] ?_
 intro g40
 refine au [46,47,128,103] ?_
 refine qf qj9 ?_
 intro x41 e41 _
 refine au [1] ?_
 refine qD 6 (fun ((x44,_):(Bool×Unit))=>([(16,.bool x44)],[],[],[],qd3 F x44)) ?_ ?_
 refine qb (os:=_) rfl ?_
 refine av [25,7] ?_ ?_
 intro h42
 refine qk (k:=10) rfl h42 ?_
 refine au [128,103,36,8] ?_
 intro x45 e45 _
 refine au [74] ?_
 exact qa (x45,())
 intro h42
 refine qj (k:=10) rfl h42 ?_
 refine au [61,6,76] ?_
 exact qa (false,())
 rintro ⟨x44,_⟩
 try dsimp only
 refine qb (os:=_) rfl ?_
 exact az [73]
end Go.Proofs.YtmhggdbfbmkpeaaGreat
