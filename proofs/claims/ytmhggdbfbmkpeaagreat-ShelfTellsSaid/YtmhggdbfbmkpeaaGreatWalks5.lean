/- Each Go function of this seat computes what its model says, part 5. -/
import Derived.Test.YtmhggdbfbmkpeaaGreatWalks4
open Bool renaming false_and→qxW, true_and→qx3
namespace Go.Proofs.YtmhggdbfbmkpeaaGreat
open Go SX
set_option maxHeartbeats 4000000 in
theorem qmT {F:Nat}{x1:Int}{x2:qAq}{a3:qAr}{c4:Nat}{x5:qAq}{a6:qAr}{c7:Nat}{x8:Int}{x9:Int}{x10:Int}{r:qAq}(hm:qdE F x1 x2 x5 x8 x9 x10=some r) :
    Pure Tryz.prog 89 [qAs x1,.slice a3 x2.length c4,.slice a6 x5.length c7,.agg #[qAs x8,qAs x9,qAs x10]] [Sl (eI .i64) 1 (.slice a3 x2.length c4) x2,Sl (eI .i64) 1 (.slice a6 x5.length c7) x5] (qAr×Nat) (fun g=>.slice g.1 r.length g.2) (fun g=>[Ro (eI .i64) 3 1 (.slice g.1 r.length g.2) r]) (fun _=>[]):=by
 refine qi Tryz.func89 rfl Tryz.ntmps89 rfl hm (fun w=>?_)
 refine au [27,6,58] ?_
 intro g11
 refine au [46,121,24,15,27,9] ?_
 rintro x12 e12 ⟨a13,c14⟩
 refine av [46,64,21,68] ?_ ?_
 intro _
 refine au [48,55] ?_
 exact qm (a13,c14)
 intro _
 refine au [66,48,46] ?_
 refine qd (fun (((x0,x3),(a0,c0,a1,c1)):((qAq×qAq)×(qAr×Nat×qAr×Nat)))=>([(0,qAs x1),(7,.pointer (some ⟨g11,0,none⟩)),(9,.slice a0 x0.length c0),(10,.slice a1 x3.length c1)],[⟨g11,26,[qAs x8,qAs x9,qAs x10]⟩],[Ro (eI .i64) 3 1 (.slice a0 x0.length c0) x0],[Sl (eI .i64) 1 (.slice a1 x3.length c1) x3],yS F x1 x9 x10 x0 x3)) ?_ ?_
 refine av [94,65] ?_ ?_
 intro _
 refine au [53,60] ?_
 refine qf qjL ?_
 rintro x4 e0 ⟨⟨a2,c2⟩,⟨a4,c3⟩⟩
 refine au [79,67,115,24,15,27,9] ?_
 rintro x6 e1 ⟨a5,c5⟩
 refine qE 3 (qs .i64) rfl Tryz.underlying39 tf3 rfl rfl rfl rfl rfl (.inl ⟨0,_,rfl⟩) rfl rfl (fun x7 e2 a7 c6=>?_)
 refine au [46,53,14] ?_
 refine ql (fun (((x11,x13),(a8,c8)):((qAq×Int)×(qAr×Nat)))=>([(0,qAs x1),(7,.pointer (some ⟨g11,0,none⟩)),(9,.slice a8 x11.length c8),(10,.slice a4 x4.2.length c3),(11,.slice a2 x4.1.length c2),(12,qAs x13)],[⟨g11,26,[qAs x8,qAs x9,qAs x10]⟩],[Ro (eI .i64) 3 1 (.slice a8 x11.length c8) x11,Ro (eI .i64) 3 1 (.slice a4 x4.2.length c3) x4.2,Ro (eI .i64) 3 1 (.slice a2 x4.1.length c2) x4.1],[])) (fun k (s:((qAq×Int)×(qAr×Nat)))=>kg F x1 x9 x10 x4 k s.1) ((x7,0),(a7,c6)) F ?_
 intro k0
 rintro ⟨⟨x11,x13⟩,⟨a8,c8⟩⟩
 try dsimp only
 refine qp (m':=qcp F x1 x9 x10 x4 (kg F x1 x9 x10 x4 k0) x11 x13) rfl ?_
 refine av [3,116] ?_ ?_
 intro _
 refine au [90,60,35,14] ?_
 intro x14 e3 g0 h0
 refine qhN (j:=2) (y:=x14) (qs .i64) rfl rfl tf3 rfl h0 (qQ e3).2.2 (fun _=>rfl) rfl rfl ?_
 refine au [46] ?_
 refine qd (fun ((x15,_):(Int×Unit))=>([(0,qAs x1),(7,.pointer (some ⟨g11,0,none⟩)),(9,.slice a8 x11.length c8),(10,.slice a4 x4.2.length c3),(11,.slice a2 x4.1.length c2),(12,qAs x13),(13,qAs x15)],[⟨g11,26,[qAs x8,qAs x9,qAs x10]⟩],[Ro (eI .i64) 3 1 (.slice a8 x11.length c8) x11,Ro (eI .i64) 3 1 (.slice a4 x4.2.length c3) x4.2,Ro (eI .i64) 3 1 (.slice a2 x4.1.length c2) x4.1],[],j1 F (kg F x1 x9 x10 x4 k0) x11 x13 x15)) ?_ ?_
 refine av [48,65] ?_ ?_
 intro _
 refine au [4,85,5,0] ?_
 exact qa (isub .i64 x14 1,())
 intro _
 refine au [9] ?_
 exact qa (x14,())
 rintro ⟨x15,_⟩
 try dsimp only
 refine au [99,24,15,27,9] ?_
 rintro x16 e4 ⟨a9,c9⟩
 refine qE 1 (qs .i64) rfl Tryz.underlying39 tf3 rfl rfl rfl rfl rfl (.inl ⟨0,_,rfl⟩) rfl rfl (fun x17 e5 a10 c10=>?_)
 refine au [95,2,4,78,5,0] ?_
 exact qg ((x17,iadd .i64 x13 1),(a10,c10))
 intro _
 refine au [63,35,15] ?_
 exact qa ((x11,x4.2),(a8,c8,a4,c3))
 intro _
 refine au [9] ?_
 exact qa ((x12,x2),(a13,c14,a3,c4))
 rintro ⟨⟨x0,x3⟩,⟨a0,c0,a1,c1⟩⟩
 try dsimp only
 refine av [64,21,68] ?_ ?_
 intro _
 refine au [48,55] ?_
 exact qm (a0,c0)
 intro _
 refine au [66] ?_
 refine qd (fun (((x18,x19),(a11,c11,a12,c12)):((qAq×qAq)×(qAr×Nat×qAr×Nat)))=>([(0,qAs x1),(7,.pointer (some ⟨g11,0,none⟩)),(9,.slice a11 x18.length c11),(10,.slice a12 x19.length c12)],[⟨g11,26,[qAs x8,qAs x9,qAs x10]⟩],[Ro (eI .i64) 3 1 (.slice a11 x18.length c11) x18],[Sl (eI .i64) 1 (.slice a12 x19.length c12) x19],jY F x1 x10 x18 x19)) ?_ ?_
 refine av [94,65] ?_ ?_
 intro _
 refine au [53,48,57] ?_
 refine qf qls ?_
 rintro x20 e6 ⟨⟨a14,c13⟩,⟨a15,c15⟩⟩
 refine au [79,67,115,24,15,27,9] ?_
 rintro x21 e7 ⟨a16,c16⟩
 refine qE 3 (qs .i64) rfl Tryz.underlying39 tf3 rfl rfl rfl rfl rfl (.inl ⟨0,_,rfl⟩) rfl rfl (fun x22 e8 a17 c17=>?_)
 refine au [46,53,14] ?_
 refine ql (fun (((x23,x24),(a18,c18)):((qAq×Int)×(qAr×Nat)))=>([(0,qAs x1),(7,.pointer (some ⟨g11,0,none⟩)),(9,.slice a18 x23.length c18),(10,.slice a15 x20.2.length c15),(14,.slice a14 x20.1.length c13),(15,qAs x24)],[⟨g11,26,[qAs x8,qAs x9,qAs x10]⟩],[Ro (eI .i64) 3 1 (.slice a18 x23.length c18) x23,Ro (eI .i64) 3 1 (.slice a15 x20.2.length c15) x20.2,Ro eS189 189 2 (.slice a14 x20.1.length c13) x20.1],[])) (fun k (s:((qAq×Int)×(qAr×Nat)))=>kf F x1 x9 x10 x20 k s.1) ((x22,0),(a17,c17)) F ?_
 intro k1
 rintro ⟨⟨x23,x24⟩,⟨a18,c18⟩⟩
 try dsimp only
 refine qp (m':=qco F x1 x9 x10 x20 (kf F x1 x9 x10 x20 k1) x23 x24) rfl ?_
 refine av [3,116] ?_ ?_
 intro _
 refine au [90] ?_
 refine qd (fun ((x25,(a19,c19)):(qAq×(qAr×Nat)))=>([(0,qAs x1),(7,.pointer (some ⟨g11,0,none⟩)),(9,.slice a19 x25.length c19),(10,.slice a15 x20.2.length c15),(14,.slice a14 x20.1.length c13),(15,qAs x24)],[⟨g11,26,[qAs x8,qAs x9,qAs x10]⟩],[Ro (eI .i64) 3 1 (.slice a19 x25.length c19) x25,Ro (eI .i64) 3 1 (.slice a15 x20.2.length c15) x20.2,Ro eS189 189 2 (.slice a14 x20.1.length c13) x20.1],[],jZ F (kf F x1 x9 x10 x20 k1) x9 x20 x24 x25)) ?_ ?_
 refine av [48,68] ?_ ?_
 intro _
 refine au [99,35,14] ?_
 intro x26 e9 g1 h1
 refine au [12] ?_
 refine qlc (j:=2) (y:=x26) (off:=0) ku rfl rfl tf3 rfl h1 (qQ e9).2.2 rfl (fun _=>rfl) rfl rfl ?_
 refine au [85,35,12] ?_
 intro x27 e10 _
 refine au [27,9] ?_
 rintro x28 e11 ⟨a20,c20⟩
 refine qE 1 (qs .i64) rfl Tryz.underlying39 tf3 rfl rfl rfl rfl rfl (.inl ⟨0,_,rfl⟩) rfl rfl (fun x29 e13 a21 c21=>?_)
 refine au [5,0] ?_
 exact qa (x29,(a21,c21))
 intro _
 refine au [29,10] ?_
 intro x30 e14 g2 h2
 replace h2:a14=some ⟨g2,0,none⟩:=h2
 have h3:=qhi (k:=x20.1.length) (c:=c13) h2
 refine au [29,10] ?_
 intro x31 e15 g3 h4
 replace h4:a14=some ⟨g3,0,none⟩:=h4
 have h5:=qhi (k:=x20.1.length) (c:=c13) h4
 refine au [29,10] ?_
 intro x32 e16 g4 h6
 replace h6:a14=some ⟨g4,0,none⟩:=h6
 have h7:=qhi (k:=x20.1.length) (c:=c13) h6
 refine qB mixed [] [⟨g11,26,[qAs x8,qAs x9,qAs x10]⟩] [qv g2 (x24.toNat*2) (eS189 x30),qv g3 ((isub .i64 x24 1).toNat*2) (eS189 x31),qv g4 ((isub .i64 x24 1).toNat*2) (eS189 x32)] (.cons 0 rfl .nil) (qil 2 rfl (qdm ku e14 h2) (qil 2 rfl (qdm ku e15 h4) (qil 2 rfl (qdm ku e16 h6) qA))) 26 rfl ?_
 refine au [105] ?_
 refine qh (d:=98) (v:=.slice (some ⟨g2,0,none⟩) x20.1.length c13) rfl (by rw[h2] <;> rfl) (qo 3 (.pointer (some ⟨g2,x24.toNat*2,none⟩)) rfl rfl rfl (qgY Tryz.underlying184 tf189 rfl rfl (qQ e14).1 (kC e14)) (qh (d:=98) (v:=.slice a14 x20.1.length c13) rfl (by rw[h2] <;> rfl) ?_))
 refine au [24,4,4] ?_
 refine qJ 5 (qAs x30.1) [] rfl rfl rfl (qhU (j:=0) (off:=0) rfl tf3 rfl rfl (fun _=>rfl) rfl) ?_
 refine au [7,6,7,7,7,8] ?_
 refine qh (d:=103) (v:=.slice (some ⟨g3,0,none⟩) x20.1.length c13) rfl (by rw[h4] <;> rfl) (qo 9 (.pointer (some ⟨g3,(isub .i64 x24 1).toNat*2,none⟩)) rfl rfl rfl (qgY Tryz.underlying184 tf189 rfl rfl (qQ e15).1 (kC e15)) (qh (d:=103) (v:=.slice a14 x20.1.length c13) rfl (by rw[h4] <;> rfl) ?_))
 refine au [24,4,10] ?_
 refine qJ 11 (qAs x31.1) [] rfl rfl rfl (qhU (j:=1) (off:=0) rfl tf3 rfl rfl (fun _=>rfl) rfl) ?_
 refine au [112,7,14] ?_
 refine qh (d:=109) (v:=.slice (some ⟨g4,0,none⟩) x20.1.length c13) rfl (by rw[h6] <;> rfl) (qo 15 (.pointer (some ⟨g4,(isub .i64 x24 1).toNat*2,none⟩)) rfl rfl rfl (qgY Tryz.underlying184 tf189 rfl rfl (qQ e16).1 (kC e16)) (qh (d:=109) (v:=.slice a14 x20.1.length c13) rfl (by rw[h6] <;> rfl) ?_))
 refine au [24,4,16] ?_
 refine qJ 17 (qAs x32.2) [] rfl rfl rfl (qhU (j:=2) (off:=1) rfl tf3 rfl rfl (fun _=>rfl) rfl) ?_
 refine au [7,18,7,19,7,20,7,21,28,9,22,24,9,23,27,9] ?_
 rintro x33 e17 ⟨a22,c22⟩
 refine au [0] ?_
 refine kb (.cons 0 rfl .nil) (qil 3 rfl (qdm ku e14 h2) (qil 3 rfl (qdm ku e15 h4) (qil 3 rfl (qdm ku e16 h6) qA))) ?_
 refine au [24,9,24] ?_
 refine qE 1 (qs .i64) rfl Tryz.underlying39 tf3 rfl rfl rfl rfl rfl (.inl ⟨0,_,rfl⟩) rfl rfl (fun x34 e18 a23 c23=>?_)
 refine au [0] ?_
 refine kb (.cons 0 rfl .nil) (qil 3 rfl (qdm ku e14 h2) (qil 3 rfl (qdm ku e15 h4) (qil 3 rfl (qdm ku e16 h6) qA))) ?_
 refine au [7,25,24,14] ?_
 exact qM (qa (x34,(a23,c23))) (by intro c h;cases h)
 rintro ⟨x25,⟨a19,c19⟩⟩
 try dsimp only
 refine au [29,10] ?_
 intro x35 e19 g5 h8
 replace h8:a14=some ⟨g5,0,none⟩:=h8
 have h9:=qhi (k:=x20.1.length) (c:=c13) h8
 refine qB mixed [] [⟨g11,26,[qAs x8,qAs x9,qAs x10]⟩] [qv g5 (x24.toNat*2) (eS189 x35)] (.cons 0 rfl .nil) (qil 2 rfl (qdm ku e19 h8) qA) 13 rfl ?_
 refine au [105] ?_
 refine qh (d:=123) (v:=.slice (some ⟨g5,0,none⟩) x20.1.length c13) rfl (by rw[h8] <;> rfl) (qo 3 (.pointer (some ⟨g5,x24.toNat*2,none⟩)) rfl rfl rfl (qgY Tryz.underlying184 tf189 rfl rfl (qQ e19).1 (kC e19)) (qh (d:=123) (v:=.slice a14 x20.1.length c13) rfl (by rw[h8] <;> rfl) ?_))
 refine au [24,4,4] ?_
 refine qJ 5 (qAs x35.2) [] rfl rfl rfl (qhU (j:=0) (off:=1) rfl tf3 rfl rfl (fun _=>rfl) rfl) ?_
 refine au [24,4,6,25,12,7,7,8,28,9,9,24,9,10,27,9] ?_
 rintro x36 e20 ⟨a24,c24⟩
 refine au [0] ?_
 refine kb (.cons 0 rfl .nil) (qil 3 rfl (qdm ku e19 h8) qA) ?_
 refine au [24,9,11] ?_
 refine qE 1 (qs .i64) rfl Tryz.underlying39 tf3 rfl rfl rfl rfl rfl (.inl ⟨0,_,rfl⟩) rfl rfl (fun x37 e21 a25 c25=>?_)
 refine au [0] ?_
 refine kb (.cons 0 rfl .nil) (qil 3 rfl (qdm ku e19 h8) qA) ?_
 refine au [7,12,24,14] ?_
 refine qM ?_ (by intro c h;cases h)
 refine au [22,2,4,78,5,0] ?_
 exact qg ((x37,iadd .i64 x24 1),(a25,c25))
 intro _
 refine au [63,35,15] ?_
 exact qa ((x23,x20.2),(a18,c18,a15,c15))
 intro _
 refine au [9] ?_
 exact qa ((x0,x3),(a0,c0,a1,c1))
 rintro ⟨⟨x18,x19⟩,⟨a11,c11,a12,c12⟩⟩
 try dsimp only
 refine au [3] ?_
 refine qB mixed [] [⟨g11,26,[qAs x8,qAs x9,qAs x10]⟩] [Sl (eI .i64) 1 (.slice a12 x19.length c12) x19] (.cons 0 rfl .nil) (qF 0 rfl qA) 9 rfl ?_
 refine au [105,24,4,4,25,12,5,24,9,3] ?_
 refine qf qpN ?_
 rintro x38 e22 ⟨a26,c26⟩
 refine au [0,28,1,24,9,6] ?_
 refine qf qly ?_
 rintro x39 e23 ⟨a27,c27⟩
 refine au [0,28,1,24,9,7] ?_
 refine qE 2 (qs .i64) rfl Tryz.underlying39 tf3 rfl rfl rfl rfl rfl (.inl ⟨0,_,rfl⟩) rfl rfl (fun x40 e24 a28 c28=>?_)
 refine au [0,28,1,7,8,24,14] ?_
 refine qM ?_ (by intro c h;cases h)
 refine au [2,10] ?_
 exact qm (a28,c28)
set_option maxHeartbeats 4000000 in
theorem qmO {F:Nat}{x1:List (qAq)}{a2:qAr}{c3:Nat}{s3:List (qAr×Nat)}{x4:Int}{x5:Int}{x6:Int}{x7:Int}{r:(Int×qAq)}(hm:qgx F x1 x4 x5 x6 x7=some r) :
    Pure Tryz.prog 61 [.agg #[.slice a2 x1.length c3],qAs x4,.agg #[qAs x5,qAs x6,qAs x7]] [SlN eN39 iN39 1 (.slice a2 x1.length c3) x1 s3] (qAr×Nat) (fun g=>.tuple #[qAs r.1,.slice g.1 r.2.length g.2]) (fun g=>[Ro (eI .i64) 3 1 (.slice g.1 r.2.length g.2) r.2]) (fun _=>[]):=by
 refine qi Tryz.func61 rfl Tryz.ntmps61 rfl hm (fun w=>?_)
 refine au [104] ?_
 intro g8
 refine au [24,3] ?_
 intro g9
 refine au [67,53,53] ?_
 refine qd (fun (((x0,x2),(a0,c0)):((Int×qAq)×(qAr×Nat)))=>([(8,qAs x0),(9,.slice a0 x2.length c0)],[],[Ro (eI .i64) 3 1 (.slice a0 x2.length c0) x2],[],qd1 F x0 x2)) ?_ ?_
 refine au [53,98] ?_
 refine ql (fun (((x3,x8,x9),(a1,c1)):((Int×qAq×Int)×(qAr×Nat)))=>([(1,qAs x4),(3,.pointer (some ⟨g8,0,none⟩)),(5,.pointer (some ⟨g9,0,none⟩)),(8,qAs x3),(9,.slice a1 x8.length c1),(10,qAs x9)],[⟨g9,26,[qAs x5,qAs x6,qAs x7]⟩,⟨g8,24,[.slice a2 x1.length c3]⟩],[Ro (eI .i64) 3 1 (.slice a1 x8.length c1) x8],[SlN eN39 iN39 1 (.slice a2 x1.length c3) x1 s3])) (fun k (s:((Int×qAq×Int)×(qAr×Nat)))=>zC F x1 x4 x5 x6 x7 k s.1) ((-1,([]:qAq),0),(none,0)) F ?_
 intro k0
 rintro ⟨⟨x3,x8,x9⟩,⟨a1,c1⟩⟩
 try dsimp only
 refine qp (m':=qcg F x1 x4 x5 x6 x7 (zC F x1 x4 x5 x6 x7 k0) x3 x8 x9) rfl ?_
 refine au [64,57,26,7,1] ?_
 refine qq 4 (decide (x9≤x5)) [(1,qAs x4),(3,.pointer (some ⟨g8,0,none⟩)),(5,.pointer (some ⟨g9,0,none⟩)),(8,qAs x3),(9,.slice a1 x8.length c1),(10,qAs x9),(21,.bool ((decide (x9≤x5)) && (decide (x9≤x4))))] (fun h0=>?_) (fun h0=>?_) ?_
 refine qb (os:=_) rfl (qk (k:=17) rfl h0 ?_)
 refine au [91,26,7,24,1] ?_
 refine qc (d:=21) (v:=.bool ((decide (x9≤x5)) && (decide (x9≤x4)))) rfl (by rw[h0];simp only[qx3]) ?_
 exact az [62]
 refine qb (os:=_) rfl (qj (k:=17) rfl h0 ?_)
 refine au [56,6,24,2] ?_
 refine qc (d:=21) (v:=.bool ((decide (x9≤x5)) && (decide (x9≤x4)))) rfl (by rw[h0];simp only[qxW]) ?_
 exact az [62]
 refine qb (os:=_) rfl ?_
 refine av [51] ?_ ?_
 intro _
 refine au [66] ?_
 refine qd (fun (((x10,x11),(a3,c2)):((Int×qAq)×(qAr×Nat)))=>([(1,qAs x4),(3,.pointer (some ⟨g8,0,none⟩)),(5,.pointer (some ⟨g9,0,none⟩)),(8,qAs x10),(9,.slice a3 x11.length c2),(10,qAs x9)],[⟨g9,26,[qAs x5,qAs x6,qAs x7]⟩,⟨g8,24,[.slice a2 x1.length c3]⟩],[Ro (eI .i64) 3 1 (.slice a3 x11.length c2) x11],[SlN eN39 iN39 1 (.slice a2 x1.length c3) x1 s3],qch F (zC F x1 x4 x5 x6 x7 k0) x9 x10 x11)) ?_ ?_
 refine au [14,53] ?_
 refine qd (fun ((x12,(a4,c4)):(qAq×(qAr×Nat)))=>([(1,qAs x4),(3,.pointer (some ⟨g8,0,none⟩)),(5,.pointer (some ⟨g9,0,none⟩)),(8,qAs x3),(9,.slice a1 x8.length c1),(10,qAs x9),(11,.slice a4 x12.length c4)],[⟨g9,26,[qAs x5,qAs x6,qAs x7]⟩,⟨g8,24,[.slice a2 x1.length c3]⟩],[Ro (eI .i64) 3 1 (.slice a1 x8.length c1) x8,Ro (eI .i64) 3 1 (.slice a4 x12.length c4) x12],[SlN eN39 iN39 1 (.slice a2 x1.length c3) x1 s3],jT F (zC F x1 x4 x5 x6 x7 k0) x1 x4 x6 x7 x3 x8 x9 x12)) ?_ ?_
 refine av [94,65] ?_ ?_
 intro _
 refine au [4,1,24,15,27,9] ?_
 rintro x13 e0 ⟨a5,c5⟩
 refine au [5,0] ?_
 exact qa (x13,(a5,c5))
 intro _
 refine au [9,25,1] ?_
 exact qa (([]:qAq),(none,0))
 rintro ⟨x12,⟨a4,c4⟩⟩
 try dsimp only
 refine au [53] ?_
 refine qd (fun ((x14,(a6,c6)):(qAq×(qAr×Nat)))=>([(1,qAs x4),(3,.pointer (some ⟨g8,0,none⟩)),(5,.pointer (some ⟨g9,0,none⟩)),(8,qAs x3),(9,.slice a1 x8.length c1),(10,qAs x9),(11,.slice a4 x12.length c4),(12,.slice a6 x14.length c6)],[⟨g9,26,[qAs x5,qAs x6,qAs x7]⟩,⟨g8,24,[.slice a2 x1.length c3]⟩],[Ro (eI .i64) 3 1 (.slice a1 x8.length c1) x8,Ro (eI .i64) 3 1 (.slice a4 x12.length c4) x12],[Sl (eI .i64) 1 (.slice a6 x14.length c6) x14,SlN eN39 iN39 1 (.slice a2 x1.length c3) x1 s3],jU F (zC F x1 x4 x5 x6 x7 k0) x1 x4 x6 x7 x3 x8 x9 x12 x14)) ?_ ?_
 refine av [48,65] ?_ ?_
 intro _
 refine au [4,69,1,85,27,0] ?_
 intro x15 e1 g0 b0 o0
 refine au [25,3,5,0] ?_
 exact qa (x15,(g0.1,g0.2))
 intro _
 refine au [9,25,1,30,8] ?_
 exact qa (([]:qAq),(none,0))
 rintro ⟨x14,⟨a6,c6⟩⟩
 try dsimp only
 refine au [3] ?_
 refine qk5 (j:=1) vf (by decide) rfl ?_
 intro x16 e2 g1 b1 o1 h1
 replace h1:a2=some ⟨b1,o1,none⟩:=h1
 refine qB mixed [] [⟨g9,26,[qAs x5,qAs x6,qAs x7]⟩,⟨g8,24,[.slice a2 x1.length c3]⟩] [qv b1 (o1+x4.toNat*1) (eN39 (x16,g1)),Sl (eI .i64) 1 (.slice g1.1 x16.length g1.2) x16,Sl (eI .i64) 1 (.slice a6 x14.length c6) x14,SlN eN39 iN39 1 (.slice a2 x1.length c3) x1 s3] (.cons 0 rfl (.cons 0 rfl .nil)) (qF 0 rfl (qF 1 rfl (qF 2 rfl (qF 3 rfl qA)))) 17 rfl ?_
 refine au [72,24,4,2,28,5,3,7,4] ?_
 refine qh (d:=42) (v:=.slice (some ⟨b1,o1,none⟩) x1.length c3) rfl (by rw[h1] <;> rfl) (qo 5 (.pointer (some ⟨b1,(o1+x4.toNat*1),none⟩)) rfl rfl rfl (yV Tryz.underlying22 tf39 rfl rfl (qQ e2).1 (kC e2)) (qh (d:=42) (v:=.slice a2 x1.length c3) rfl (by rw[h1] <;> rfl) (qJ 6 (.slice g1.1 x16.length g1.2) [] rfl rfl rfl (zJ (j:=0) rfl tf39 rfl rfl (fun _=>rfl) rfl) ?_)))
 refine au [7,7,7,8,24,4,9,25,12,10,24,4,11,25,12,12] ?_
 refine qo 13 (.agg #[qAs x9,qAs x6,qAs x7]) rfl rfl rfl (qgr (cells:=[qAs x9,qAs x6,qAs x7]) st26 rfl (by kernel_rfl)) ?_
 refine au [24,9,14,36,0] ?_
 rintro x17 e3 ⟨a7,c7⟩
 refine au [0,30,9,24,9,15] ?_
 refine qE 2 (qs .i64) rfl Tryz.underlying39 tf3 rfl rfl rfl rfl rfl (.inl ⟨0,_,rfl⟩) rfl rfl (fun x18 e4 a8 c8=>?_)
 refine au [0,30,9,7,16,24,14] ?_
 refine qM ?_ (by intro c h;cases h)
 refine au [2,48,23,1] ?_
 refine qq 6 (decide (x3<0)) [(1,qAs x4),(3,.pointer (some ⟨g8,0,none⟩)),(5,.pointer (some ⟨g9,0,none⟩)),(8,qAs x3),(9,.slice a1 x8.length c1),(10,qAs x9),(11,.slice a8 x18.length c8),(63,.bool ((decide (x3<0)) || (decide ((x18.length:Int)<(x8.length:Int)))))] (fun h2=>?_) (fun h2=>?_) ?_
 refine qb (os:=_) rfl (qk (k:=57) rfl h2 ?_)
 refine au [61,113] ?_
 refine qc (d:=63) (v:=.bool ((decide (x3<0)) || (decide ((x18.length:Int)<(x8.length:Int))))) rfl (by rw[h2];simp only[Bool.true_or]) ?_
 exact az [62]
 refine qb (os:=_) rfl (qj (k:=57) rfl h2 ?_)
 refine au [1,21,1,21,23,24,2] ?_
 refine qc (d:=63) (v:=.bool ((decide (x3<0)) || (decide ((x18.length:Int)<(x8.length:Int))))) rfl (by rw[h2];simp only[Bool.false_or]) ?_
 exact az [62]
 refine qb (os:=_) rfl ?_
 refine av [51] ?_ ?_
 intro _
 refine au [99,5,95] ?_
 exact qa ((x9,x18),(a8,c8))
 intro _
 refine au [9,22] ?_
 exact qa ((x3,x8),(a1,c1))
 rintro ⟨⟨x10,x11⟩,⟨a3,c2⟩⟩
 try dsimp only
 refine au [4,78,5,0] ?_
 exact qg ((x10,x11,iadd .i64 x9 1),(a3,c2))
 intro _
 refine au [63] ?_
 exact qa ((x3,x8),(a1,c1))
 rintro ⟨⟨x0,x2⟩,⟨a0,c0⟩⟩
 try dsimp only
 refine au [60,5,49] ?_
 exact qm (a0,c0)
set_option maxHeartbeats 4000000 in
theorem qlp {F:Nat}{x1:List (qAq)}{a2:qAr}{c3:Nat}{s3:List (qAr×Nat)}{x4:Int}{x5:Int}{x6:Int}{r:(qAq×qAq×qAq×Int)}(hm:qa7 F x1 x4 x5 x6=some r) :
    Pure Tryz.prog 27 [.agg #[.slice a2 x1.length c3],.agg #[qAs x4,qAs x5,qAs x6]] [SlN eN39 iN39 1 (.slice a2 x1.length c3) x1 s3] ((qAr×Nat)×(qAr×Nat)×(qAr×Nat)) (fun g=>.tuple #[.slice g.1.1 r.1.length g.1.2,.slice g.2.1.1 r.2.1.length g.2.1.2,.slice g.2.2.1 r.2.2.1.length g.2.2.2,qAs r.2.2.2]) (fun g=>[Ro (eI .i64) 3 1 (.slice g.1.1 r.1.length g.1.2) r.1,Ro (eI .i64) 3 1 (.slice g.2.1.1 r.2.1.length g.2.1.2) r.2.1,Ro (eI .i64) 3 1 (.slice g.2.2.1 r.2.2.1.length g.2.2.2) r.2.2.1]) (fun _=>[]):=by
 refine qi Tryz.func27 rfl Tryz.ntmps27 rfl hm (fun w=>?_)
 refine au [77] ?_
 intro g7
 refine au [24,3] ?_
 intro g8
 refine au [5,5,67,107] ?_
 refine qf qj8 ?_
 intro x9 e9 _
 refine au [46] ?_
 refine qd (fun ((x12,_):(Int×Unit))=>([(2,.pointer (some ⟨g7,0,none⟩)),(3,.pointer (some ⟨g8,0,none⟩)),(8,qAs x12)],[⟨g8,26,[qAs x4,qAs x5,qAs x6]⟩,⟨g7,24,[.slice a2 x1.length c3]⟩],[],[SlN eN39 iN39 1 (.slice a2 x1.length c3) x1 s3],qcl F x1 x4 x5 x6 x12)) ?_ ?_
 refine av [48,68] ?_ ?_
 intro _
 refine au [4,24,8,31,5] ?_
 intro x0 e0 _
 refine au [5,0] ?_
 exact qa (x0,())
 intro _
 refine au [9] ?_
 exact qa (x9,())
 rintro ⟨x12,_⟩
 try dsimp only
 refine av [64,71] ?_ ?_
 intro _
 refine au [48,5,5,5,96,25,1,25,1] ?_
 exact qu ((none,0),(none,0),(none,0)) (resL (rs:=[.tmp 4,.tmp 5,.tmp 6,.tmp 7]) rfl (.tmp rfl (.tmp rfl (.tmp rfl (.tmp rfl ResOk.nil)))) rfl) (fun h=>by subst h;exact (.cons 0 rfl (.cons 0 rfl (.cons 0 rfl .nil))))
 intro _
 refine au [66,93,67] ?_
 refine qd (fun (((x2,x3,x7),(a0,c0,a1,c1,a3,c2)):((qAq×qAq×qAq)×(qAr×Nat×qAr×Nat×qAr×Nat)))=>([(9,.slice a0 x2.length c0),(10,.slice a1 x3.length c1),(11,.slice a3 x7.length c2)],[],[Ro (eI .i64) 3 1 (.slice a0 x2.length c0) x2,Ro (eI .i64) 3 1 (.slice a1 x3.length c1) x3,Ro (eI .i64) 3 1 (.slice a3 x7.length c2) x7],[],qd2 F x2 x3 x7)) ?_ ?_
 refine au [53,98,26,2,26,2] ?_
 refine ql (fun (((x8,x10,x11,x13),(a4,c4,a5,c5,a6,c6)):((qAq×qAq×qAq×Int)×(qAr×Nat×qAr×Nat×qAr×Nat)))=>([(2,.pointer (some ⟨g7,0,none⟩)),(3,.pointer (some ⟨g8,0,none⟩)),(9,.slice a4 x8.length c4),(10,.slice a5 x10.length c5),(11,.slice a6 x11.length c6),(12,qAs x13)],[⟨g8,26,[qAs x4,qAs x5,qAs x6]⟩,⟨g7,24,[.slice a2 x1.length c3]⟩],[Ro (eI .i64) 3 1 (.slice a4 x8.length c4) x8,Ro (eI .i64) 3 1 (.slice a5 x10.length c5) x10,Ro (eI .i64) 3 1 (.slice a6 x11.length c6) x11],[SlN eN39 iN39 1 (.slice a2 x1.length c3) x1 s3])) (fun k (s:((qAq×qAq×qAq×Int)×(qAr×Nat×qAr×Nat×qAr×Nat)))=>yl F x1 x4 x5 x6 k s.1) ((([]:qAq),([]:qAq),([]:qAq),0),(none,0,none,0,none,0)) F ?_
 intro k0
 rintro ⟨⟨x8,x10,x11,x13⟩,⟨a4,c4,a5,c5,a6,c6⟩⟩
 try dsimp only
 refine qp (m':=qck F x1 x4 x5 x6 (yl F x1 x4 x5 x6 k0) x8 x10 x11 x13) rfl ?_
 refine av [64,69,21,75] ?_ ?_
 intro _
 refine au [90,107,1,24,8] ?_
 refine qf qmO ?_
 rintro x14 e1 ⟨a7,c7⟩
 refine au [79,67,60] ?_
 refine qx (vs:=[qAs x14.1]) (ys:=([x14.1]:qAq)) (qs .i64) (by decide) rfl Tryz.underlying39 tf3 rfl rfl rfl rfl rfl (by decide) (fun a8 c8=>qE 3 (qs .i64) rfl Tryz.underlying39 tf3 rfl rfl rfl rfl rfl (.inl ⟨0,_,rfl⟩) rfl rfl (fun x15 e2 a9 c9=>?_))
 refine au [91,21] ?_
 refine qx (vs:=[qAs (x8.length:Int)]) (ys:=([(x8.length:Int)]:qAq)) (qs .i64) (by decide) rfl Tryz.underlying39 tf3 rfl rfl rfl rfl rfl (by decide) (fun a10 c10=>qE 5 (qs .i64) rfl Tryz.underlying39 tf3 rfl rfl rfl rfl rfl (.inl ⟨0,_,rfl⟩) rfl rfl (fun x16 e3 a11 c11=>?_))
 refine au [67,99] ?_
 refine qE 5 (qs .i64) rfl Tryz.underlying39 tf3 rfl rfl rfl rfl rfl (.inl ⟨4,_,rfl⟩) rfl rfl (fun x17 e4 a12 c12=>?_)
 refine au [95,2,4,78,5,0] ?_
 exact qg ((x17,x15,x16,iadd .i64 x13 1),(a12,c12,a9,c9,a11,c11))
 intro _
 refine au [63] ?_
 exact qa ((x8,x10,x11),(a4,c4,a5,c5,a6,c6))
 rintro ⟨⟨x2,x3,x7⟩,⟨a0,c0,a1,c1,a3,c2⟩⟩
 try dsimp only
 refine av [64,21,65] ?_ ?_
 intro _
 refine au [93,5,5,96,25,1,25,1] ?_
 exact qu ((none,0),(none,0),(none,0)) (resL (rs:=[.tmp 4,.tmp 5,.tmp 6,.tmp 7]) rfl (.tmp rfl (.tmp rfl (.tmp rfl (.tmp rfl ResOk.nil)))) rfl) (fun h=>by subst h;exact (.cons 0 rfl (.cons 0 rfl (.cons 0 rfl .nil))))
 intro _
 refine au [66,60,1,5,5,5,49] ?_
 exact qu ((a0,c0),(a1,c1),(a3,c2)) (resL (rs:=[.tmp 4,.tmp 5,.tmp 6,.tmp 7]) rfl (.tmp rfl (.tmp rfl (.tmp rfl (.tmp rfl ResOk.nil)))) rfl) (fun h=>by subst h;exact (.cons 0 rfl (.cons 0 rfl (.cons 0 rfl .nil))))
set_option maxHeartbeats 4000000 in
theorem qmN {F:Nat}{x1:qAq}{a2:qAr}{c3:Nat}{r:(Int×qAq)}(hm:qce F x1=some r) :
    Pure Tryz.prog 29 [.slice a2 x1.length c3] [Sl (eI .i64) 1 (.slice a2 x1.length c3) x1] (qAr×Nat) (fun g=>.agg #[qAs r.1,.slice g.1 r.2.length g.2]) (fun g=>[Ro (eI .u8) 5 1 (.slice g.1 r.2.length g.2) r.2]) (fun _=>[]):=by
 refine qi Tryz.func29 rfl Tryz.ntmps29 rfl hm (fun w=>?_)
 refine au [25,8,47,25,0] ?_
 intro g4
 refine au [45,121] ?_
 refine qr (cells:=[qAs (x1.length:Int),.slice none 0 0]) rfl st29 rfl (by kernel_rfl) rfl ?_
 refine au [25,0] ?_
 intro g5
 refine au [83] ?_
 refine qd (fun ((x0,(a0,c0)):(qAq×(qAr×Nat)))=>([(2,.pointer (some ⟨g4,0,none⟩)),(3,.pointer (some ⟨g5,0,none⟩))],[⟨g5,29,[qAs (x1.length:Int),.slice a0 x0.length c0]⟩,⟨g4,29,[qAs 0,.slice none 0 0]⟩],[Ro (eI .u8) 5 1 (.slice a0 x0.length c0) x0],[],qgg F x1 x0)) ?_ ?_
 refine au [53,14,29,4] ?_
 refine ql (fun (((x2,x3),(a1,c1)):((Int×qAq)×(qAr×Nat)))=>([(0,.slice a2 x1.length c3),(2,.pointer (some ⟨g4,0,none⟩)),(3,.pointer (some ⟨g5,0,none⟩)),(4,qAs x2)],[⟨g5,29,[qAs (x1.length:Int),.slice a1 x3.length c1]⟩,⟨g4,29,[qAs 0,.slice none 0 0]⟩],[Ro (eI .u8) 5 1 (.slice a1 x3.length c1) x3],[Sl (eI .i64) 1 (.slice a2 x1.length c3) x1])) (fun k (s:((Int×qAq)×(qAr×Nat)))=>zd F x1 k s.1) ((0,([]:qAq)),(none,0)) F ?_
 intro k0
 rintro ⟨⟨x2,x3⟩,⟨a1,c1⟩⟩
 try dsimp only
 refine qp (m':=qcf F x1 (zd F x1 k0) x2 x3) rfl ?_
 refine av [3,116] ?_ ?_
 intro _
 refine au [66] ?_
 refine qd (fun ((x4,(a3,c2)):(qAq×(qAr×Nat)))=>([(0,.slice a2 x1.length c3),(2,.pointer (some ⟨g4,0,none⟩)),(3,.pointer (some ⟨g5,0,none⟩)),(4,qAs x2)],[⟨g5,29,[qAs (x1.length:Int),.slice a3 x4.length c2]⟩,⟨g4,29,[qAs 0,.slice none 0 0]⟩],[Ro (eI .u8) 5 1 (.slice a3 x4.length c2) x4],[Sl (eI .i64) 1 (.slice a2 x1.length c3) x1],qdy F (zd F x1 k0) x2 x4)) ?_ ?_
 refine au [14,53] ?_
 refine qd (fun ((x5,_):(Int×Unit))=>([(0,.slice a2 x1.length c3),(2,.pointer (some ⟨g4,0,none⟩)),(3,.pointer (some ⟨g5,0,none⟩)),(4,qAs x2),(5,qAs x5)],[⟨g5,29,[qAs (x1.length:Int),.slice a1 x3.length c1]⟩,⟨g4,29,[qAs 0,.slice none 0 0]⟩],[Ro (eI .u8) 5 1 (.slice a1 x3.length c1) x3],[Sl (eI .i64) 1 (.slice a2 x1.length c3) x1],qbq F (zd F x1 k0) x2 x3 x5)) ?_ ?_
 refine au [53,14] ?_
 refine ql (fun (((x6,x7),_):((Int×Int)×Unit))=>([(0,.slice a2 x1.length c3),(2,.pointer (some ⟨g4,0,none⟩)),(3,.pointer (some ⟨g5,0,none⟩)),(4,qAs x2),(5,qAs x6),(6,qAs x7)],[⟨g5,29,[qAs (x1.length:Int),.slice a1 x3.length c1]⟩,⟨g4,29,[qAs 0,.slice none 0 0]⟩],[Ro (eI .u8) 5 1 (.slice a1 x3.length c1) x3],[Sl (eI .i64) 1 (.slice a2 x1.length c3) x1])) (fun k (s:((Int×Int)×Unit))=>kG F (zd F x1 k0) x1 x2 x3 k s.1) ((0,0),()) F ?_
 intro k1
 rintro ⟨⟨x6,x7⟩,_⟩
 try dsimp only
 refine qp (m':=qbp F (zd F x1 k0) x1 x2 x3 (kG F (zd F x1 k0) x1 x2 x3 k1) x6 x7) rfl ?_
 refine av [64,75] ?_ ?_
 intro _
 refine au [66] ?_
 refine qd (fun ((x8,_):(Int×Unit))=>([(0,.slice a2 x1.length c3),(2,.pointer (some ⟨g4,0,none⟩)),(3,.pointer (some ⟨g5,0,none⟩)),(4,qAs x2),(5,qAs x8),(6,qAs x7)],[⟨g5,29,[qAs (x1.length:Int),.slice a1 x3.length c1]⟩,⟨g4,29,[qAs 0,.slice none 0 0]⟩],[Ro (eI .u8) 5 1 (.slice a1 x3.length c1) x3],[Sl (eI .i64) 1 (.slice a2 x1.length c3) x1],je F (kG F (zd F x1 k0) x1 x2 x3 k1) x7 x8)) ?_ ?_
 refine av [14,48,26,6,46,60,16,1,21,75] ?_ ?_
 intro _
 refine au [99,1,78,25,14] ?_
 intro x9 e0 b0 o0
 refine au [25,3,16,95] ?_
 exact qa (iadd .i64 (imul .i64 2 x6) x9,())
 intro _
 refine au [9,22] ?_
 exact qa (imul .i64 2 x6,())
 rintro ⟨x8,_⟩
 try dsimp only
 refine au [4,78,5,0] ?_
 exact qg ((x8,iadd .i64 x7 1),())
 intro _
 refine au [63] ?_
 exact qa (x6,())
 rintro ⟨x5,_⟩
 try dsimp only
 refine au [4,57,1,24,15] ?_
 refine qx (vs:=[.int .u8 (iconv .u8 x5)]) (ys:=([iconv .u8 x5]:qAq)) (qs .u8) (by decide) rfl Tryz.underlying27 tf5 rfl rfl rfl rfl rfl (by decide) (fun a4 c4=>qE 1 (qs .u8) rfl Tryz.underlying27 tf5 rfl rfl rfl rfl rfl (.inl ⟨0,_,rfl⟩) rfl rfl (fun x10 e1 a5 c5=>?_))
 refine au [12,24,10,84] ?_
 exact qa (x10,(a5,c5))
 rintro ⟨x4,⟨a3,c2⟩⟩
 try dsimp only
 refine au [4,78,5,0] ?_
 exact qg ((iadd .i64 x2 8,x4),(a3,c2))
 intro _
 refine au [63] ?_
 exact qa (x3,(a1,c1))
 rintro ⟨x0,⟨a0,c0⟩⟩
 try dsimp only
 refine au [80,25,6,45,10] ?_
 exact qu (a0,c0) (resL (rs:=[.cell 2 29]) rfl (.cell (i:=1) rfl tf29 rfl rfl (by simp) rfl ResOk.nil) rfl) (fun h=>by subst h;exact (.cons 0 rfl .nil))
set_option maxHeartbeats 4000000 in
theorem qoh {F:Nat}{x1:qAq}{a2:qAr}{c3:Nat}{x4:Int}{r:Int}(hm:qfK F x1 x4=some r) :
    Pure Tryz.prog 62 [.slice a2 x1.length c3,qAs x4] [Sl (eI .i64) 1 (.slice a2 x1.length c3) x1] Unit (fun _=>qAs r) (fun _=>[]) (fun _=>[]):=by
 refine qi Tryz.func62 rfl Tryz.ntmps62 rfl hm (fun w=>?_)
 refine au [87,64,26,13] ?_
 intro x7 e7 _
 refine av [102] ?_ ?_
 intro _
 exact az [47,82]
 intro _
 refine av [66,64,21,65] ?_ ?_
 intro _
 exact az [47,82]
 intro _
 refine au [66] ?_
 refine qd (fun ((_,_):(Unit×Unit))=>([],[],[],[],qha F)) ?_ ?_
 refine au [53,14] ?_
 refine ql (fun ((x0,_):(Int×Unit))=>([(0,.slice a2 x1.length c3),(1,qAs x4),(5,qAs x0)],[],[],[Sl (eI .i64) 1 (.slice a2 x1.length c3) x1])) (fun k (s:(Int×Unit))=>k6 F x1 x4 k s.1) (0,()) F ?_
 intro k0
 rintro ⟨x0,_⟩
 try dsimp only
 refine qp (m':=qcS F x1 x4 (k6 F x1 x4 k0) x0) rfl ?_
 refine av [3,116] ?_ ?_
 intro _
 refine au [90,3,60,25,14] ?_
 intro x2 e0 b0 o0
 refine au [25,3,1,26,13] ?_
 intro x3 e1 _
 refine av [102] ?_ ?_
 intro _
 exact az [47,55,92,18]
 intro _
 refine au [66] ?_
 refine qd (fun ((x5,_):(Bool×Unit))=>([(0,.slice a2 x1.length c3),(1,qAs x4),(5,qAs x0),(38,.bool x5)],[],[],[Sl (eI .i64) 1 (.slice a2 x1.length c3) x1],qaP F (k6 F x1 x4 k0) x0 x5)) ?_ ?_
 refine av [27,2] ?_ ?_
 intro h0
 refine au [27,12] ?_
 intro x6 e2 b1 o1 h1
 replace h1:a2=some ⟨b1,o1,none⟩:=h1
 refine au [29,11] ?_
 intro x8 e3 b2 o2 h2
 replace h2:a2=some ⟨b2,o2,none⟩:=h2
 refine qB mixed [] [] [qv b2 (o2+(isub .i64 x0 1).toNat*1) ((eI .i64) x8),qv b1 (o1+x0.toNat*1) ((eI .i64) x6),qv b0 o0 ((eI .i64) x2),Sl (eI .i64) 1 (.slice a2 x1.length c3) x1] .nil (qF 0 rfl (qF 1 rfl (qF 2 rfl (qF 3 rfl qA)))) 14 rfl ?_
 refine au [105] ?_
 refine qh (d:=27) (v:=.bool true) rfl (by rw[h0] <;> rfl) ?_
 refine au [7,3,7,4] ?_
 refine qh (d:=28) (v:=.slice (some ⟨b1,o1,none⟩) x1.length c3) rfl (by rw[h1] <;> rfl) (qo 5 (.pointer (some ⟨b1,(o1+x0.toNat*1),none⟩)) rfl rfl rfl (yV Tryz.underlying39 tf3 rfl rfl (qQ e2).1 (kC e2)) (qh (d:=28) (v:=.slice a2 x1.length c3) rfl (by rw[h1] <;> rfl) (qJ 6 (qAs x6) [] rfl rfl rfl (zJ (j:=1) rfl tf3 rfl rfl (fun _=>rfl) rfl) ?_)))
 refine au [7,7,7,8,7,9] ?_
 refine qh (d:=32) (v:=.slice (some ⟨b2,o2,none⟩) x1.length c3) rfl (by rw[h2] <;> rfl) (qo 10 (.pointer (some ⟨b2,(o2+(isub .i64 x0 1).toNat*1),none⟩)) rfl rfl rfl (yV Tryz.underlying39 tf3 rfl rfl (qQ e3).1 (kC e3)) (qh (d:=32) (v:=.slice a2 x1.length c3) rfl (by rw[h2] <;> rfl) (qJ 11 (qAs x8) [] rfl rfl rfl (zJ (j:=0) rfl tf3 rfl rfl (fun _=>rfl) rfl) ?_)))
 refine au [112,24,14] ?_
 exact qM (qa ((decide (x6<x8)),())) (by intro c h;cases h)
 intro h0
 refine qB mixed [] [] [qv b0 o0 ((eI .i64) x2),Sl (eI .i64) 1 (.slice a2 x1.length c3) x1] .nil (qF 0 rfl (qF 1 rfl qA)) 14 rfl ?_
 refine au [105] ?_
 refine qh (d:=27) (v:=.bool false) rfl (by rw[h0] <;> rfl) ?_
 refine au [15,3,15,4,15,5,15,6,15,7,15,8,118,110,7,13,24,14] ?_
 exact qM (qa (false,())) (by intro c h;cases h)
 rintro ⟨x5,_⟩
 try dsimp only
 refine av [8] ?_ ?_
 intro _
 exact az [47,49,92,18]
 intro _
 refine au [9,22,2,4,78,5,0] ?_
 exact qg (iadd .i64 x0 1,())
 intro _
 exact az [119]
 rintro ⟨_,_⟩
 try dsimp only
 exact az [47,73]
theorem qlj {F:Nat}{x1:Int}{x2:Int}{r:Int}(hm:qef F x1 x2=some r) :
    Pure Tryz.prog 63 [qAs x1,qAs x2] [] Unit (fun _=>qAs r) (fun _=>[]) (fun _=>[]):=by
 refine qi Tryz.func63 rfl Tryz.ntmps63 rfl hm (fun w=>?_)
 refine av [87,64,68] ?_ ?_
 intro _
 exact az [47,82]
 intro _
 refine au [66,53,53] ?_
 refine qd (fun ((x13,_):(Int×Unit))=>([(5,qAs x13)],[],[],[],qge F x13)) ?_ ?_
 refine au [14] ?_
 refine qcz (fun (((x16,x17),_):((Int×Int)×Unit))=>[(0,qAs x1),(1,qAs x2),(5,qAs x16),(6,qAs x17)]) (fun (((x16,x17),_):((Int×Int)×Unit))=>[]) (fun (((x16,x17),_):((Int×Int)×Unit))=>[]) (fun (((x16,x17),_):((Int×Int)×Unit))=>[]) (fun k (s:((Int×Int)×Unit))=>vj F x1 x2 k s.1) ((0,2),()) F ?_
 intro k20
 rintro ⟨⟨x16,x17⟩,_⟩
 try dsimp only
 refine qp (m':=qb5 F x1 x2 (vj F x1 x2 k20) x16 x17) rfl ?_
 refine av [3,60,26,6,78,26,7,51] ?_ ?_
 intro _
 refine au [66,14,48,16,46,4,1,26,6,95] ?_
 exact qg ((iadd .i64 x16 1,imul .i64 2 x17),())
 intro _
 refine au [63] ?_
 exact qa (x16,())
 rintro ⟨x13,_⟩
 try dsimp only
 exact az [48,73]
set_option maxHeartbeats 4000000 in
theorem qlk {F:Nat}{x1:qAq}{a2:qAr}{c3:Nat}{x4:Int}{r:(Int×Int×Int×Int×qAq×Int×qAq×Int)}(hm:qeg F x1 x4=some r) :
    Pure Tryz.prog 28 [.slice a2 x1.length c3,qAs x4] [Sl (eI .i64) 1 (.slice a2 x1.length c3) x1] ((qAr×Nat)×(qAr×Nat)) (fun g=>.tuple #[.agg #[qAs r.1,qAs r.2.1,qAs r.2.2.1,qAs r.2.2.2.1,.slice g.1.1 r.2.2.2.2.1.length g.1.2,qAs r.2.2.2.2.2.1,.slice g.2.1 r.2.2.2.2.2.2.1.length g.2.2],qAs r.2.2.2.2.2.2.2]) (fun g=>[Ro (eI .u8) 5 1 (.slice g.1.1 r.2.2.2.2.1.length g.1.2) r.2.2.2.2.1,Ro (eI .u8) 5 1 (.slice g.2.1 r.2.2.2.2.2.2.1.length g.2.2) r.2.2.2.2.2.2.1]) (fun _=>[]):=by
 refine qi Tryz.func28 rfl Tryz.ntmps28 rfl hm (fun w=>?_)
 refine au [124,25,0] ?_
 intro g5
 refine au [46,60] ?_
 refine qf qoh ?_
 intro x6 e6 _
 refine av [46,64,71] ?_ ?_
 intro _
 refine au [47] ?_
 refine qr (cells:=[qAs 0,qAs 0,qAs 0,qAs 0,.slice none 0 0,qAs 0,.slice none 0 0]) rfl st33 rfl (by kernel_rfl) rfl ?_
 refine au [1,24,10,55,81] ?_
 exact qu ((none,0),(none,0)) (resL (rs:=[.cell 4 33,.tmp 5]) rfl (.cell (i:=0) rfl tf33 rfl rfl (by simp) rfl (.tmp rfl ResOk.nil)) rfl) (fun h=>by subst h;exact (.cons 0 rfl (.cons 0 rfl .nil)))
 intro _
 refine au [66,121,1] ?_
 refine qf qlj ?_
 intro x8 e8 _
 refine au [46,53] ?_
 refine qd (fun ((x18,_):(Int×Unit))=>([(0,.slice a2 x1.length c3),(1,qAs x4),(4,.pointer (some ⟨g5,0,none⟩)),(7,qAs x8),(8,qAs x18)],[⟨g5,33,[qAs 0,qAs 0,qAs 0,qAs 0,.slice none 0 0,qAs 0,.slice none 0 0]⟩],[],[Sl (eI .i64) 1 (.slice a2 x1.length c3) x1],qb6 F x1 x4 x8 x18)) ?_ ?_
 refine au [53,14] ?_
 refine ql (fun (((x0,x2),_):((Int×Int)×Unit))=>([(0,.slice a2 x1.length c3),(1,qAs x4),(4,.pointer (some ⟨g5,0,none⟩)),(7,qAs x8),(8,qAs x0),(9,qAs x2)],[⟨g5,33,[qAs 0,qAs 0,qAs 0,qAs 0,.slice none 0 0,qAs 0,.slice none 0 0]⟩],[],[Sl (eI .i64) 1 (.slice a2 x1.length c3) x1])) (fun k (s:((Int×Int)×Unit))=>yk F x1 x4 x8 k s.1) ((1,0),()) F ?_
 intro k0
 rintro ⟨⟨x0,x2⟩,_⟩
 try dsimp only
 refine qp (m':=qas F x1 x4 x8 (yk F x1 x4 x8 k0) x0 x2) rfl ?_
 refine av [3,60,75] ?_ ?_
 intro _
 refine au [90,4,1,26,6,95,2,4,78,5,0] ?_
 exact qg ((imul .i64 2 x0,iadd .i64 x2 1),())
 intro _
 refine au [63] ?_
 exact qa (x0,())
 rintro ⟨x18,_⟩
 try dsimp only
 refine au [64,21,1,26,6,24,7,1] ?_
 refine qD 9 (fun ((x26,_):(Bool×Unit))=>([(0,.slice a2 x1.length c3),(1,qAs x4),(4,.pointer (some ⟨g5,0,none⟩)),(7,qAs x8),(8,qAs x18),(47,.bool x26)],[⟨g5,33,[qAs 0,qAs 0,qAs 0,qAs 0,.slice none 0 0,qAs 0,.slice none 0 0]⟩],[],[Sl (eI .i64) 1 (.slice a2 x1.length c3) x1],qb7 F x1 x4 x8 x18 x26)) ?_ ?_
 refine qb (os:=_) rfl ?_
 refine av [25,7] ?_ ?_
 intro h24
 refine qk (k:=38) rfl h24 ?_
 refine au [61,61,74] ?_
 exact qa (true,())
 intro h24
 refine qj (k:=38) rfl h24 ?_
 refine au [1,21,91,26,0] ?_
 intro h0
 refine qhO rfl rfl rfl rfl h0 ?_
 refine au [16,16,70,0] ?_
 exact qa ((decide (8192<(iadd .i64 (iadd .i64 (x1.length:Int) (iquo .i64 x4 x18)) 1))),())
 rintro ⟨x26,_⟩
 try dsimp only
 refine qb (os:=_) rfl ?_
 refine av [51] ?_ ?_
 intro _
 refine au [47] ?_
 refine qr (cells:=[qAs 0,qAs 0,qAs 0,qAs 0,.slice none 0 0,qAs 0,.slice none 0 0]) rfl st33 rfl (by kernel_rfl) rfl ?_
 refine au [24,10,55,81] ?_
 exact qu ((none,0),(none,0)) (resL (rs:=[.cell 4 33,.tmp 5]) rfl (.cell (i:=0) rfl tf33 rfl rfl (by simp) rfl (.tmp rfl ResOk.nil)) rfl) (fun h=>by subst h;exact (.cons 0 rfl (.cons 0 rfl .nil)))
 intro _
 refine au [66,47,67] ?_
 refine qd (fun ((x3,(a98,c99)):(qAq×(qAr×Nat)))=>([(0,.slice a2 x1.length c3),(1,qAs x4),(4,.pointer (some ⟨g5,0,none⟩)),(7,qAs x8),(8,qAs x18),(10,.slice a98 x3.length c99),(11,.slice none 0 0)],[⟨g5,33,[qAs 0,qAs 0,qAs 0,qAs 0,.slice none 0 0,qAs 0,.slice none 0 0]⟩],[Ro (eI .i64) 3 1 (.slice a98 x3.length c99) x3],[Sl (eI .i64) 1 (.slice a2 x1.length c3) x1],qb8 F x1 x4 x8 x18 x3)) ?_ ?_
 refine au [53,98] ?_
 refine ql (fun (((x5,x7),(a0,c0)):((qAq×Int)×(qAr×Nat)))=>([(0,.slice a2 x1.length c3),(1,qAs x4),(4,.pointer (some ⟨g5,0,none⟩)),(7,qAs x8),(8,qAs x18),(10,.slice a0 x5.length c0),(11,.slice none 0 0),(12,qAs x7)],[⟨g5,33,[qAs 0,qAs 0,qAs 0,qAs 0,.slice none 0 0,qAs 0,.slice none 0 0]⟩],[Ro (eI .i64) 3 1 (.slice a0 x5.length c0) x5],[Sl (eI .i64) 1 (.slice a2 x1.length c3) x1])) (fun k (s:((qAq×Int)×(qAr×Nat)))=>yj F x1 x4 x8 x18 k s.1) ((([]:qAq),0),(none,0)) F ?_
 intro k1
 rintro ⟨⟨x5,x7⟩,⟨a0,c0⟩⟩
 try dsimp only
 refine qp (m':=qar F x1 x4 x8 x18 (yj F x1 x4 x8 x18 k1) x5 x7) rfl ?_
 refine av [3,116] ?_ ?_
 intro _
 refine au [90,99,1,25,14] ?_
 intro x9 e0 b0 o0
 refine au [25,3,1,26,0] ?_
 intro h1
 refine qr1 rfl rfl rfl rfl h1 ?_
 refine au [24,15,1,31,4] ?_
 rintro x10 e1 ⟨a1,c1⟩
 refine qE 1 (qs .i64) rfl Tryz.underlying39 tf3 rfl rfl rfl rfl rfl (.inl ⟨0,_,rfl⟩) rfl rfl (fun x11 e2 a3 c2=>?_)
 refine au [95,2,4,78,5,0] ?_
 exact qg ((x11,iadd .i64 x7 1),(a3,c2))
 intro _
 refine au [63] ?_
 exact qa (x5,(a0,c0))
 rintro ⟨x3,⟨a98,c99⟩⟩
 try dsimp only
 refine qd (fun ((x12,(a4,c4)):(qAq×(qAr×Nat)))=>([(0,.slice a2 x1.length c3),(1,qAs x4),(4,.pointer (some ⟨g5,0,none⟩)),(7,qAs x8),(10,.slice a98 x3.length c99),(11,.slice a4 x12.length c4)],[⟨g5,33,[qAs 0,qAs 0,qAs 0,qAs 0,.slice none 0 0,qAs 0,.slice none 0 0]⟩],[Ro (eI .i64) 3 1 (.slice a98 x3.length c99) x3,Ro (eI .i64) 3 1 (.slice a4 x12.length c4) x12],[Sl (eI .i64) 1 (.slice a2 x1.length c3) x1],qdw F x1 x4 x8 x3 x12)) ?_ ?_
 refine au [53,98] ?_
 refine ql (fun (((x13,x14),(a5,c5)):((qAq×Int)×(qAr×Nat)))=>([(0,.slice a2 x1.length c3),(1,qAs x4),(4,.pointer (some ⟨g5,0,none⟩)),(7,qAs x8),(8,qAs x18),(10,.slice a98 x3.length c99),(11,.slice a5 x13.length c5),(13,qAs x14)],[⟨g5,33,[qAs 0,qAs 0,qAs 0,qAs 0,.slice none 0 0,qAs 0,.slice none 0 0]⟩],[Ro (eI .i64) 3 1 (.slice a98 x3.length c99) x3,Ro (eI .i64) 3 1 (.slice a5 x13.length c5) x13],[Sl (eI .i64) 1 (.slice a2 x1.length c3) x1])) (fun k (s:((qAq×Int)×(qAr×Nat)))=>qV F x1 x4 x8 x18 x3 k s.1) ((([]:qAq),0),(none,0)) F ?_
 intro k2
 rintro ⟨⟨x13,x14⟩,⟨a5,c5⟩⟩
 try dsimp only
 refine qp (m':=qap F x1 x4 x8 x18 x3 (qV F x1 x4 x8 x18 x3 k2) x13 x14) rfl ?_
 refine au [3,60,1,26,0] ?_
 intro h2
 refine qhO rfl rfl rfl rfl h2 ?_
 refine av [26,7,51] ?_ ?_
 intro _
 refine au [66] ?_
 refine qd (fun ((x15,(a6,c6)):(qAq×(qAr×Nat)))=>([(0,.slice a2 x1.length c3),(1,qAs x4),(4,.pointer (some ⟨g5,0,none⟩)),(7,qAs x8),(8,qAs x18),(10,.slice a98 x3.length c99),(11,.slice a6 x15.length c6),(13,qAs x14)],[⟨g5,33,[qAs 0,qAs 0,qAs 0,qAs 0,.slice none 0 0,qAs 0,.slice none 0 0]⟩],[Ro (eI .i64) 3 1 (.slice a98 x3.length c99) x3,Ro (eI .i64) 3 1 (.slice a6 x15.length c6) x15],[Sl (eI .i64) 1 (.slice a2 x1.length c3) x1],qdg F (qV F x1 x4 x8 x18 x3 k2) x14 x15)) ?_ ?_
 refine au [14] ?_
 refine qd (fun ((x16,(a7,c7)):(qAq×(qAr×Nat)))=>([(0,.slice a2 x1.length c3),(1,qAs x4),(4,.pointer (some ⟨g5,0,none⟩)),(7,qAs x8),(8,qAs x18),(10,.slice a98 x3.length c99),(11,.slice a7 x16.length c7),(13,qAs x14)],[⟨g5,33,[qAs 0,qAs 0,qAs 0,qAs 0,.slice none 0 0,qAs 0,.slice none 0 0]⟩],[Ro (eI .i64) 3 1 (.slice a98 x3.length c99) x3,Ro (eI .i64) 3 1 (.slice a7 x16.length c7) x16],[Sl (eI .i64) 1 (.slice a2 x1.length c3) x1],qat F (qV F x1 x4 x8 x18 x3 k2) x14 x16)) ?_ ?_
 refine au [53,14] ?_
 refine ql (fun (((x17,x19),(a8,c8)):((qAq×Int)×(qAr×Nat)))=>([(0,.slice a2 x1.length c3),(1,qAs x4),(4,.pointer (some ⟨g5,0,none⟩)),(7,qAs x8),(8,qAs x18),(10,.slice a98 x3.length c99),(11,.slice a8 x17.length c8),(13,qAs x14),(14,qAs x19)],[⟨g5,33,[qAs 0,qAs 0,qAs 0,qAs 0,.slice none 0 0,qAs 0,.slice none 0 0]⟩],[Ro (eI .i64) 3 1 (.slice a98 x3.length c99) x3,Ro (eI .i64) 3 1 (.slice a8 x17.length c8) x17],[Sl (eI .i64) 1 (.slice a2 x1.length c3) x1])) (fun k (s:((qAq×Int)×(qAr×Nat)))=>kx F (qV F x1 x4 x8 x18 x3 k2) x1 x18 x14 k s.1) ((x13,0),(a5,c5)) F ?_
 intro k3
 rintro ⟨⟨x17,x19⟩,⟨a8,c8⟩⟩
 try dsimp only
 refine qp (m':=qaq F (qV F x1 x4 x8 x18 x3 k2) x1 x18 x14 (kx F (qV F x1 x4 x8 x18 x3 k2) x1 x18 x14 k3) x17 x19) rfl ?_
 refine av [3,116] ?_ ?_
 intro _
 refine au [66] ?_
 refine qd (fun ((x20,(a9,c9)):(qAq×(qAr×Nat)))=>([(0,.slice a2 x1.length c3),(1,qAs x4),(4,.pointer (some ⟨g5,0,none⟩)),(7,qAs x8),(8,qAs x18),(10,.slice a98 x3.length c99),(11,.slice a9 x20.length c9),(13,qAs x14),(14,qAs x19)],[⟨g5,33,[qAs 0,qAs 0,qAs 0,qAs 0,.slice none 0 0,qAs 0,.slice none 0 0]⟩],[Ro (eI .i64) 3 1 (.slice a98 x3.length c99) x3,Ro (eI .i64) 3 1 (.slice a9 x20.length c9) x20],[Sl (eI .i64) 1 (.slice a2 x1.length c3) x1],vy F (kx F (qV F x1 x4 x8 x18 x3 k2) x1 x18 x14 k3) x19 x20)) ?_ ?_
 refine au [14,60,25,14] ?_
 intro x21 e3 b1 o1
 refine au [25,3,1,26,0] ?_
 intro h3
 refine qhO rfl rfl rfl rfl h3 ?_
 refine av [1,68] ?_ ?_
 intro _
 refine au [4,1] ?_
 refine qx (vs:=[qAs 1]) (ys:=([1]:qAq)) (qs .i64) (by decide) rfl Tryz.underlying39 tf3 rfl rfl rfl rfl rfl (by decide) (fun a10 c10=>qE 2 (qs .i64) rfl Tryz.underlying39 tf3 rfl rfl rfl rfl rfl (.inl ⟨0,_,rfl⟩) rfl rfl (fun x22 e4 a11 c11=>?_))
 refine au [95] ?_
 exact qa (x22,(a11,c11))
 intro _
 refine au [9,22] ?_
 exact qa (x17,(a8,c8))
 rintro ⟨x20,⟨a9,c9⟩⟩
 try dsimp only
 refine au [4,78,5,0] ?_
 exact qg ((x20,iadd .i64 x19 1),(a9,c9))
 intro _
 refine au [63] ?_
 exact qa (x17,(a8,c8))
 rintro ⟨x16,⟨a7,c7⟩⟩
 try dsimp only
 refine au [4,1] ?_
 refine qx (vs:=[qAs 0]) (ys:=([0]:qAq)) (qs .i64) (by decide) rfl Tryz.underlying39 tf3 rfl rfl rfl rfl rfl (by decide) (fun a12 c12=>qE 2 (qs .i64) rfl Tryz.underlying39 tf3 rfl rfl rfl rfl rfl (.inl ⟨0,_,rfl⟩) rfl rfl (fun x23 e5 a13 c13=>?_))
 refine au [95] ?_
 exact qa (x23,(a13,c13))
 rintro ⟨x15,⟨a6,c6⟩⟩
 try dsimp only
 refine au [4,78,5,0] ?_
 exact qg ((x15,iadd .i64 x14 1),(a6,c6))
 intro _
 refine au [63] ?_
 exact qa (x13,(a5,c5))
 rintro ⟨x12,⟨a4,c4⟩⟩
 try dsimp only
 refine au [121,91,1,31,6] ?_
 rintro x24 e7 ⟨a14,c14⟩
 refine au [1,31,6] ?_
 rintro x25 e9 ⟨a15,c15⟩
 refine qr (cells:=[qAs (x1.length:Int),qAs x4,qAs x8,qAs x24.1,.slice a14 x24.2.length c14,qAs x25.1,.slice a15 x25.2.length c15]) rfl st33 rfl (by kernel_rfl) rfl ?_
 refine au [24,10,49] ?_
 exact qu ((a14,c14),(a15,c15)) (resL (rs:=[.cell 4 33,.tmp 5]) rfl (.cell (i:=0) rfl tf33 rfl rfl (by simp) rfl (.tmp rfl ResOk.nil)) rfl) (fun h=>by subst h;exact (.cons 1 rfl (.cons 0 rfl .nil)))
set_option maxHeartbeats 4000000 in
theorem qka {F:Nat}{x1:List (qAq)}{a2:qAr}{c3:Nat}{s3:List (qAr×Nat)}{x4:Int}{x5:Int}{x6:Int}{r:(Int×Int×Int×Int×Int×qAq×Int×Int×Int×Int×qAq×Int×qAq×Int)}(hm:qbW F x1 x4 x5 x6=some r) :
    Pure Tryz.prog 11 [.agg #[.slice a2 x1.length c3],.agg #[qAs x4,qAs x5,qAs x6]] [SlN eN39 iN39 1 (.slice a2 x1.length c3) x1 s3] ((qAr×Nat)×(qAr×Nat)×(qAr×Nat)) (fun g=>.tuple #[.agg #[qAs r.1,qAs r.2.1,qAs r.2.2.1,qAs r.2.2.2.1,qAs r.2.2.2.2.1,.slice g.1.1 r.2.2.2.2.2.1.length g.1.2,qAs r.2.2.2.2.2.2.1,qAs r.2.2.2.2.2.2.2.1,qAs r.2.2.2.2.2.2.2.2.1,qAs r.2.2.2.2.2.2.2.2.2.1,.slice g.2.1.1 r.2.2.2.2.2.2.2.2.2.2.1.length g.2.1.2,qAs r.2.2.2.2.2.2.2.2.2.2.2.1,.slice g.2.2.1 r.2.2.2.2.2.2.2.2.2.2.2.2.1.length g.2.2.2],qAs r.2.2.2.2.2.2.2.2.2.2.2.2.2]) (fun g=>[Ro (eI .u8) 5 1 (.slice g.1.1 r.2.2.2.2.2.1.length g.1.2) r.2.2.2.2.2.1,Ro (eI .u8) 5 1 (.slice g.2.1.1 r.2.2.2.2.2.2.2.2.2.2.1.length g.2.1.2) r.2.2.2.2.2.2.2.2.2.2.1,Ro (eI .u8) 5 1 (.slice g.2.2.1 r.2.2.2.2.2.2.2.2.2.2.2.2.1.length g.2.2.2) r.2.2.2.2.2.2.2.2.2.2.2.2.1]) (fun _=>[]):=by
 refine qi Tryz.func11 rfl Tryz.ntmps11 rfl hm (fun w=>?_)
 refine au [77] ?_
 intro g7
 refine au [24,3] ?_
 intro g8
 refine au [25,0] ?_
 intro g9
 refine au [46,47,26,1,25,5,31,7] ?_
 rintro x10 e10 ⟨⟨a11,c12⟩,⟨a13,c14⟩,⟨a15,c16⟩⟩
 refine av [79,59,5,5,114,71] ?_ ?_
 intro _
 refine au [47] ?_
 refine qr (cells:=[qAs 0,qAs 0,qAs 0,qAs 0,qAs 0,.slice none 0 0,qAs 0,qAs 0,qAs 0,qAs 0,.slice none 0 0,qAs 0,.slice none 0 0]) rfl st35 rfl (by kernel_rfl) rfl ?_
 refine au [1,24,10,55,81,25,11] ?_
 exact qu ((none,0),(none,0),(none,0)) (resL (rs:=[.cell 4 35,.tmp 5]) rfl (.cell (i:=0) rfl tf35 rfl rfl (by simp) rfl (.tmp rfl ResOk.nil)) rfl) (fun h=>by subst h;exact (.cons 0 rfl (.cons 0 rfl (.cons 0 rfl .nil))))
 intro _
 refine au [66,115] ?_
 refine qf qlk ?_
 rintro x18 e18 ⟨⟨a19,c20⟩,⟨a21,c22⟩⟩
 refine au [111] ?_
 intro g23
 refine av [101,64,71] ?_ ?_
 intro _
 refine au [47] ?_
 refine qr (cells:=[qAs 0,qAs 0,qAs 0,qAs 0,qAs 0,.slice none 0 0,qAs 0,qAs 0,qAs 0,qAs 0,.slice none 0 0,qAs 0,.slice none 0 0]) rfl st35 rfl (by kernel_rfl) rfl ?_
 refine au [1,132,81,25,11] ?_
 exact qu ((none,0),(none,0),(none,0)) (resL (rs:=[.cell 4 35,.tmp 5]) rfl (.cell (i:=1) rfl tf35 rfl rfl (by simp) rfl (.tmp rfl ResOk.nil)) rfl) (fun h=>by subst h;exact (.cons 0 rfl (.cons 0 rfl (.cons 0 rfl .nil))))
 intro _
 refine au [89] ?_
 refine qB mixed [] [⟨g23,33,[qAs x18.1,qAs x18.2.1,qAs x18.2.2.1,qAs x18.2.2.2.1,.slice a19 x18.2.2.2.2.1.length c20,qAs x18.2.2.2.2.2.1,.slice a21 x18.2.2.2.2.2.2.1.length c22]⟩,⟨g8,26,[qAs x4,qAs x5,qAs x6]⟩,⟨g7,24,[.slice a2 x1.length c3]⟩] [SlN eN39 iN39 1 (.slice a2 x1.length c3) x1 s3] (.cons 0 rfl (.cons 1 rfl (.cons 1 rfl .nil))) (qF 0 rfl qA) 11 rfl ?_
 refine au [24,4,0,30,1,1,28,12,2] ?_
 refine kZ 3 (.agg #[qAs x4,qAs x5,qAs x6]) rfl rfl rfl (zN (i:=1) rfl tf26 rfl rfl (by simp) rfl) ?_
 refine au [7,4] ?_
 refine kZ 7 (.agg #[qAs x18.1,qAs x18.2.1,qAs x18.2.2.1,qAs x18.2.2.2.1,.slice a19 x18.2.2.2.2.1.length c20,qAs x18.2.2.2.2.2.1,.slice a21 x18.2.2.2.2.2.2.1.length c22]) rfl rfl rfl (zN (i:=0) rfl tf33 rfl rfl (by simp) rfl) ?_
 refine au [24,9,5,31,6] ?_
 rintro x28 e28 ⟨a29,c30⟩
 refine au [0,36,1] ?_
 refine qo 6 (.agg #[qAs (x1.length:Int),qAs x4,qAs x5,qAs x6,qAs x28.1,.slice a29 x28.2.length c30]) rfl rfl rfl (qgr (cells:=[qAs (x1.length:Int),qAs x4,qAs x5,qAs x6,qAs x28.1,.slice a29 x28.2.length c30]) st31 rfl (by kernel_rfl)) (qo 8 (.agg #[qAs (x1.length:Int),qAs x4,qAs x5,qAs x6,qAs x28.1,.slice a29 x28.2.length c30,qAs x18.1,qAs x18.2.1,qAs x18.2.2.1,qAs x18.2.2.2.1,.slice a19 x18.2.2.2.2.1.length c20,qAs x18.2.2.2.2.2.1,.slice a21 x18.2.2.2.2.2.2.1.length c22]) rfl rfl rfl (qgr (cells:=[qAs (x1.length:Int),qAs x4,qAs x5,qAs x6,qAs x28.1,.slice a29 x28.2.length c30,qAs x18.1,qAs x18.2.1,qAs x18.2.2.1,qAs x18.2.2.2.1,.slice a19 x18.2.2.2.2.1.length c20,qAs x18.2.2.2.2.2.1,.slice a21 x18.2.2.2.2.2.2.1.length c22]) st35 rfl (by kernel_rfl)) ?_)
 refine au [24,9,9,25,6,0,36,1,7,10,24,14] ?_
 refine qM ?_ (by intro c h;cases h)
 refine au [2,10] ?_
 exact qu ((a29,c30),(a19,c20),(a21,c22)) (resL (rs:=[.cell 4 35,.tmp 5]) rfl (.cell (i:=1) rfl tf35 rfl rfl (by simp) rfl (.tmp rfl ResOk.nil)) rfl) (fun h=>by subst h;exact (.cons 0 rfl (.cons 0 rfl (.cons 0 rfl .nil))))
set_option maxHeartbeats 4000000 in
theorem qmS {F:Nat}{x1:qAq}{a2:qAr}{c3:Nat}{x4:qAq}{a5:qAr}{c6:Nat}{r:Bool}(hm:yZ F x1 x4=some r) :
    Pure Tryz.prog 17 [.slice a2 x1.length c3,.slice a5 x4.length c6] [Sl (eI .i64) 1 (.slice a2 x1.length c3) x1,Sl (eI .i64) 1 (.slice a5 x4.length c6) x4] Unit (fun _=>.bool r) (fun _=>[]) (fun _=>[]):=by
 refine qi Tryz.func17 rfl Tryz.ntmps17 rfl hm (fun w=>?_)
 refine av [87,64,21,1,21,71] ?_ ?_
 intro _
 exact az [47,82]
 intro _
 refine au [66] ?_
 refine qd (fun ((_,_):(Unit×Unit))=>([],[],[],[],qg0 F)) ?_ ?_
 refine au [53,14] ?_
 refine ql (fun ((x0,_):(Int×Unit))=>([(0,.slice a2 x1.length c3),(1,.slice a5 x4.length c6),(5,qAs x0)],[],[],[Sl (eI .i64) 1 (.slice a2 x1.length c3) x1,Sl (eI .i64) 1 (.slice a5 x4.length c6) x4])) (fun k (s:(Int×Unit))=>k7 F x1 x4 k s.1) (0,()) F ?_
 intro k0
 rintro ⟨x0,_⟩
 try dsimp only
 refine qp (m':=vS F x1 x4 (k7 F x1 x4 k0) x0) rfl ?_
 refine av [3,116] ?_ ?_
 intro _
 refine au [90,3,28,11] ?_
 intro x2 e0 b0 o0 h0
 replace h0:a2=some ⟨b0,o0,none⟩:=h0
 refine au [29,11] ?_
 intro x3 e1 b1 o1 h1
 replace h1:a5=some ⟨b1,o1,none⟩:=h1
 refine qB mixed [] [] [qv b1 (o1+x0.toNat*1) ((eI .i64) x3),qv b0 (o0+x0.toNat*1) ((eI .i64) x2),Sl (eI .i64) 1 (.slice a2 x1.length c3) x1,Sl (eI .i64) 1 (.slice a5 x4.length c6) x4] .nil (qF 0 rfl (qF 1 rfl (qF 2 rfl (qF 3 rfl qA)))) 9 rfl ?_
 refine au [72] ?_
 refine qh (d:=17) (v:=.slice (some ⟨b0,o0,none⟩) x1.length c3) rfl (by rw[h0] <;> rfl) (qo 2 (.pointer (some ⟨b0,(o0+x0.toNat*1),none⟩)) rfl rfl rfl (yV Tryz.underlying39 tf3 rfl rfl (qQ e0).1 (kC e0)) (qh (d:=17) (v:=.slice a2 x1.length c3) rfl (by rw[h0] <;> rfl) (qJ 3 (qAs x2) [] rfl rfl rfl (zJ (j:=1) rfl tf3 rfl rfl (fun _=>rfl) rfl) ?_)))
 refine au [7,4,7,5] ?_
 refine qh (d:=21) (v:=.slice (some ⟨b1,o1,none⟩) x4.length c6) rfl (by rw[h1] <;> rfl) (qo 6 (.pointer (some ⟨b1,(o1+x0.toNat*1),none⟩)) rfl rfl rfl (yV Tryz.underlying39 tf3 rfl rfl (qQ e1).1 (kC e1)) (qh (d:=21) (v:=.slice a5 x4.length c6) rfl (by rw[h1] <;> rfl) (qJ 7 (qAs x3) [] rfl rfl rfl (zJ (j:=0) rfl tf3 rfl rfl (fun _=>rfl) rfl) ?_)))
 refine au [7,8,24,14] ?_
 refine qM ?_ (by intro c h;cases h)
 refine av [2,8] ?_ ?_
 intro _
 exact az [47,49,92,18]
 intro _
 refine au [9,22,2,4,78,5,0] ?_
 exact qg (iadd .i64 x0 1,())
 intro _
 exact az [119]
 rintro ⟨_,_⟩
 try dsimp only
 exact az [47,73]
set_option maxHeartbeats 4000000 in
theorem qog {F:Nat}{x1:Int}{x2:qAq}{a3:qAr}{c4:Nat}{r:qAq}(hm:qai F x1 x2=some r) :
    Pure Tryz.prog 66 [.agg #[qAs x1,.slice a3 x2.length c4]] [Sl (eI .u8) 1 (.slice a3 x2.length c4) x2] (qAr×Nat) (fun g=>.slice g.1 r.length g.2) (fun g=>[Ro (eI .i64) 3 1 (.slice g.1 r.length g.2) r]) (fun _=>[]):=by
 refine qi Tryz.func66 rfl Tryz.ntmps66 rfl hm (fun w=>?_)
 refine au [108] ?_
 intro g5
 refine au [46,53] ?_
 refine qd (fun ((x0,(a0,c0)):(qAq×(qAr×Nat)))=>([(3,.slice a0 x0.length c0)],[],[Ro (eI .i64) 3 1 (.slice a0 x0.length c0) x0],[],qgZ F x0)) ?_ ?_
 refine au [53,98] ?_
 refine ql (fun (((x3,x4),(a1,c1)):((qAq×Int)×(qAr×Nat)))=>([(1,.pointer (some ⟨g5,0,none⟩)),(3,.slice a1 x3.length c1),(4,qAs x4)],[⟨g5,29,[qAs x1,.slice a3 x2.length c4]⟩],[Ro (eI .i64) 3 1 (.slice a1 x3.length c1) x3],[Sl (eI .u8) 1 (.slice a3 x2.length c4) x2])) (fun k (s:((qAq×Int)×(qAr×Nat)))=>zM F x1 x2 k s.1) ((([]:qAq),0),(none,0)) F ?_
 intro k0
 rintro ⟨⟨x3,x4⟩,⟨a1,c1⟩⟩
 try dsimp only
 refine qp (m':=qcP F x1 x2 (zM F x1 x2 k0) x3 x4) rfl ?_
 refine av [64,57,75] ?_ ?_
 intro _
 refine au [66] ?_
 refine qd (fun ((x5,(a2,c2)):(qAq×(qAr×Nat)))=>([(1,.pointer (some ⟨g5,0,none⟩)),(3,.slice a2 x5.length c2),(4,qAs x4)],[⟨g5,29,[qAs x1,.slice a3 x2.length c4]⟩],[Ro (eI .i64) 3 1 (.slice a2 x5.length c2) x5],[Sl (eI .u8) 1 (.slice a3 x2.length c4) x2],qeP F (zM F x1 x2 k0) x4 x5)) ?_ ?_
 refine au [14,94,1,26,14,31,14] ?_
 intro x6 e0 b0 o0
 refine au [25,3,24,15,46] ?_
 refine qd (fun ((x7,_):(Int×Unit))=>([(1,.pointer (some ⟨g5,0,none⟩)),(3,.slice a1 x3.length c1),(4,qAs x4),(5,qAs x7)],[⟨g5,29,[qAs x1,.slice a3 x2.length c4]⟩],[Ro (eI .i64) 3 1 (.slice a1 x3.length c1) x3],[Sl (eI .u8) 1 (.slice a3 x2.length c4) x2],qcR F (zM F x1 x2 k0) x3 x4 x7)) ?_ ?_
 refine au [53,14] ?_
 refine ql (fun (((x8,x9),_):((Int×Int)×Unit))=>([(1,.pointer (some ⟨g5,0,none⟩)),(3,.slice a1 x3.length c1),(4,qAs x4),(5,qAs x8),(6,qAs x9)],[⟨g5,29,[qAs x1,.slice a3 x2.length c4]⟩],[Ro (eI .i64) 3 1 (.slice a1 x3.length c1) x3],[Sl (eI .u8) 1 (.slice a3 x2.length c4) x2])) (fun k (s:((Int×Int)×Unit))=>vP F (zM F x1 x2 k0) x3 x4 k s.1) ((iconv .i64 x6,0),()) F ?_
 intro k1
 rintro ⟨⟨x8,x9⟩,_⟩
 try dsimp only
 refine qp (m':=qcQ F (zM F x1 x2 k0) x3 x4 (vP F (zM F x1 x2 k0) x3 x4 k1) x8 x9) rfl ?_
 refine av [3,60,27,1,24,13,75] ?_ ?_
 intro _
 refine au [90,4,1,26,14,95,2,4,78,5,0] ?_
 exact qg ((iquo .i64 x8 2,iadd .i64 x9 1),())
 intro _
 refine au [63] ?_
 exact qa (x8,())
 rintro ⟨x7,_⟩
 try dsimp only
 refine au [99,27,1] ?_
 refine qx (vs:=[qAs (irem x7 2)]) (ys:=([irem x7 2]:qAq)) (qs .i64) (by decide) rfl Tryz.underlying39 tf3 rfl rfl rfl rfl rfl (by decide) (fun a4 c3=>qE 1 (qs .i64) rfl Tryz.underlying39 tf3 rfl rfl rfl rfl rfl (.inl ⟨0,_,rfl⟩) rfl rfl (fun x10 e1 a5 c5=>?_))
 refine au [95] ?_
 exact qa (x10,(a5,c5))
 rintro ⟨x5,⟨a2,c2⟩⟩
 try dsimp only
 refine au [4,78,5,0] ?_
 exact qg ((x5,iadd .i64 x4 1),(a2,c2))
 intro _
 refine au [63] ?_
 exact qa (x3,(a1,c1))
 rintro ⟨x0,⟨a0,c0⟩⟩
 try dsimp only
 refine au [48,49] ?_
 exact qm (a0,c0)
set_option maxHeartbeats 4000000 in
theorem qli {F:Nat}{x1:Int}{x2:qAq}{a3:qAr}{c4:Nat}{r:Int}(hm:qcF F x1 x2=some r) :
    Pure Tryz.prog 90 [.agg #[qAs x1,.slice a3 x2.length c4]] [Sl (eI .u8) 1 (.slice a3 x2.length c4) x2] Unit (fun _=>qAs r) (fun _=>[]) (fun _=>[]):=by
 refine qi Tryz.func90 rfl Tryz.ntmps90 rfl hm (fun w=>?_)
 refine au [108] ?_
 intro g5
 refine au [46,3,94,26,13] ?_
 intro x8 e8 _
 refine av [102] ?_ ?_
 intro _
 exact az [47,82]
 intro _
 refine au [66,94,26,14,46] ?_
 refine qd (fun ((x10,_):(Int×Unit))=>([(1,.pointer (some ⟨g5,0,none⟩)),(3,qAs x10)],[⟨g5,29,[qAs x1,.slice a3 x2.length c4]⟩],[],[Sl (eI .u8) 1 (.slice a3 x2.length c4) x2],jQ F x1 x2 x10)) ?_ ?_
 refine av [94,27,1,65] ?_ ?_
 intro _
 refine au [4,78,5,0] ?_
 exact qa (iadd .i64 (iquo .i64 x1 8) 1,())
 intro _
 refine au [9] ?_
 exact qa (iquo .i64 x1 8,())
 rintro ⟨x10,_⟩
 try dsimp only
 refine av [3,94,21,1,71] ?_ ?_
 intro _
 exact az [47,82]
 intro _
 refine au [66,48,26,6,57] ?_
 refine qr (cells:=[qAs (imul .i64 8 x10),.slice a3 x2.length c4]) rfl st29 rfl (by kernel_rfl) rfl ?_
 refine au [31,8] ?_
 rintro x12 e12 ⟨a13,c14⟩
 refine au [46] ?_
 refine qd (fun ((_,_):(Unit×Unit))=>([],[],[],[],qgd F)) ?_ ?_
 refine au [94,46,14] ?_
 refine ql (fun ((x57,_):(Int×Unit))=>([(4,.slice a13 x12.length c14),(5,qAs x57)],[],[Ro (eI .i64) 3 1 (.slice a13 x12.length c14) x12],[])) (fun k (s:(Int×Unit))=>vi F x12 k s.1) (x1,()) F ?_
 intro k68
 rintro ⟨x57,_⟩
 try dsimp only
 refine qp (m':=qb4 F x12 (vi F x12 k68) x57) rfl ?_
 refine av [3,116] ?_ ?_
 intro _
 refine au [90,60,28,15] ?_
 intro x74 e74 g75 h76
 refine qhN (j:=0) (y:=x74) (qs .i64) rfl rfl tf3 rfl h76 (qQ e74).2.2 (fun _=>rfl) rfl rfl ?_
 refine av [71] ?_ ?_
 intro _
 exact az [47,49,92,18]
 intro _
 refine au [9,22,2,4,78,5,0] ?_
 exact qg (iadd .i64 x57 1,())
 intro _
 exact az [119]
 rintro ⟨_,_⟩
 try dsimp only
 exact az [47,73]
theorem qlq {F:Nat}{x1:Int}{x2:Int}{x3:Int}{x4:Int}{x5:Int}{x6:qAq}{a7:qAr}{c8:Nat}{r:Int}(hm:qel F x1 x2 x3 x4 x5 x6=some r) :
    Pure Tryz.prog 65 [.agg #[qAs x1,qAs x2,qAs x3,qAs x4,qAs x5,.slice a7 x6.length c8]] [Sl (eI .u8) 1 (.slice a7 x6.length c8) x6] Unit (fun _=>qAs r) (fun _=>[]) (fun _=>[]):=by
 refine qi Tryz.func65 rfl Tryz.ntmps65 rfl hm (fun w=>?_)
 refine au [108] ?_
 intro g9
 refine au [46,3,94,26,13] ?_
 intro x12 e12 _
 refine av [102] ?_ ?_
 intro _
 exact az [47,82]
 intro _
 refine au [66,47,103,31,5] ?_
 intro x13 e13 _
 refine au [46] ?_
 refine qd (fun ((x16,_):(Int×Unit))=>([(3,qAs x16)],[],[],[],qcm F x16)) ?_ ?_
 refine av [48,68] ?_ ?_
 intro _
 refine au [4,103,36,2] ?_
 intro x17 e17 _
 refine au [5,0] ?_
 exact qa (x17,())
 intro _
 refine au [9] ?_
 exact qa (x13,())
 rintro ⟨x16,_⟩
 try dsimp only
 exact az [48,73]
theorem qlx {F:Nat}{x1:qAq}{a2:qAr}{c3:Nat}{x4:Int}{r:(Int×Int)}(hm:qcH F x1 x4=some r) :
    Pure Tryz.prog 91 [.slice a2 x1.length c3,qAs x4] [Sl (eI .i64) 1 (.slice a2 x1.length c3) x1] Unit (fun _=>.tuple #[.int .u64 r.1,qAs r.2]) (fun _=>[]) (fun _=>[]):=by
 refine qi Tryz.func91 rfl Tryz.ntmps91 rfl hm (fun w=>?_)
 refine au [124,67,53] ?_
 refine qd (fun ((_,_):(Unit×Unit))=>([],[],[],[],qgi F)) ?_ ?_
 refine au [48,46,14] ?_
 refine ql (fun (((x80,x81),_):((Int×Int)×Unit))=>([(0,.slice a2 x1.length c3),(6,.int .u64 x80),(7,qAs x81)],[],[],[Sl (eI .i64) 1 (.slice a2 x1.length c3) x1])) (fun k (s:((Int×Int)×Unit))=>vr F x1 k s.1) ((0,x4),()) F ?_
 intro k0
 rintro ⟨⟨x80,x81⟩,_⟩
 try dsimp only
 refine qp (m':=qcs F x1 (vr F x1 k0) x80 x81) rfl ?_
 refine av [3,116] ?_ ?_
 intro _
 refine au [90,3,60,25,14] ?_
 intro x0 e0 b0 o0
 refine av [25,3,68] ?_ ?_
 intro _
 exact az [60,16,5,55,92,18]
 intro _
 refine au [66,4,78,95,2,4,78,5,0] ?_
 exact qg ((iadd .u64 x80 1,iadd .i64 x81 1),())
 intro _
 exact az [119]
 rintro ⟨_,_⟩
 try dsimp only
 exact az [93,73]
theorem qpL {F:Nat}{x1:qAq}{a2:qAr}{c3:Nat}{r:Int}(hm:qgu F x1=some r) :
    Pure Tryz.prog 124 [.slice a2 x1.length c3] [Sl (eI .i64) 1 (.slice a2 x1.length c3) x1] Unit (fun _=>.int .u64 r) (fun _=>[]) (fun _=>[]):=by
 refine qi Tryz.func124 rfl Tryz.ntmps124 rfl hm (fun w=>?_)
 refine au [109,53] ?_
 refine qd (fun ((x37,_):(Int×Unit))=>([(3,.int .u64 x37)],[],[],[],qhY F x37)) ?_ ?_
 refine au [53,14] ?_
 refine ql (fun (((x48,x49),_):((Int×Int)×Unit))=>([(0,.slice a2 x1.length c3),(3,.int .u64 x48),(4,qAs x49)],[],[],[Sl (eI .i64) 1 (.slice a2 x1.length c3) x1])) (fun k (s:((Int×Int)×Unit))=>qa5 F x1 k s.1) ((0,0),()) F ?_
 intro k60
 rintro ⟨⟨x48,x49⟩,_⟩
 try dsimp only
 refine qp (m':=qee F x1 (qa5 F x1 k60) x48 x49) rfl ?_
 refine av [3,116] ?_ ?_
 intro _
 refine au [90,4,1,26,6,91,25,14] ?_
 intro x66 e66 b67 o68
 refine au [25,3,135,120] ?_
 intro x69 e69
 refine qc (d:=3) (v:=.int .u64 x69) rfl (by rw[e69] <;> rfl) ?_
 refine au [84,2,4,78,5,0] ?_
 exact qg ((x69,iadd .i64 x49 1),())
 intro _
 refine au [63] ?_
 exact qa (x48,())
 rintro ⟨x37,_⟩
 try dsimp only
 exact az [48,73]
theorem qmX {F:Nat}{x1:qAq}{a2:qAr}{c3:Nat}{x4:Int}{x5:Int}{r:(Int×Int×Int)}(hm:qe0 F x1 x4 x5=some r) :
    Pure Tryz.prog 92 [.slice a2 x1.length c3,qAs x4,.int .u64 x5] [Sl (eI .i64) 1 (.slice a2 x1.length c3) x1] Unit (fun _=>.tuple #[.int .u64 r.1,qAs r.2.1,qAs r.2.2]) (fun _=>[]) (fun _=>[]):=by
 refine qi Tryz.func92 rfl Tryz.ntmps92 rfl hm (fun w=>?_)
 refine av [25,15,93,114,65] ?_ ?_
 intro _
 exact az [93,5,82]
 intro _
 refine av [89,60,135,1,21,65] ?_ ?_
 intro _
 exact az [93,5,82]
 intro _
 refine au [66,47] ?_
 refine qx (vs:=[qAs 1]) (ys:=([1]:qAq)) (qs .i64) (by decide) rfl Tryz.underlying39 tf3 rfl rfl rfl rfl rfl (by decide) (fun a8 c9=>?_)
 refine au [91,91,135,30,12] ?_
 intro x10 e10 a11 c12
 refine au [27,15] ?_
 intro x13 e13 a14 c15
 refine qf qpL ?_
 intro x16 e16 _
 refine av [24,13,46,64,65] ?_ ?_
 intro _
 exact az [93,5,82]
 intro _
 exact az [66,60,1,135,5,5,73]
theorem qlm {F:Nat}{x1:qAq}{a2:qAr}{c3:Nat}{x4:Int}{r:(Int×Int×Int)}(hm:kq F x1 x4=some r) :
    Pure Tryz.prog 67 [.slice a2 x1.length c3,qAs x4] [Sl (eI .i64) 1 (.slice a2 x1.length c3) x1] Unit (fun _=>.tuple #[.int .u64 r.1,qAs r.2.1,qAs r.2.2]) (fun _=>[]) (fun _=>[]):=by
 refine qi Tryz.func67 rfl Tryz.ntmps67 rfl hm (fun w=>?_)
 refine au [24,12,93,67,60,36,3] ?_
 intro x5 e5 _
 refine av [79,114,75] ?_ ?_
 intro _
 exact az [93,5,82]
 intro _
 refine au [66,60,1] ?_
 refine qf qmX ?_
 intro x7 e7 _
 exact az [59,13,5,5,73]
set_option maxHeartbeats 4000000 in
theorem qok {F:Nat}{x1:Int}{x2:qAq}{a3:qAr}{c4:Nat}{x5:Int}{r:Int}(hm:qfL F x1 x2 x5=some r) :
    Pure Tryz.prog 93 [.agg #[qAs x1,.slice a3 x2.length c4],qAs x5] [Sl (eI .u8) 1 (.slice a3 x2.length c4) x2] Unit (fun _=>qAs r) (fun _=>[]) (fun _=>[]):=by
 refine qi Tryz.func93 rfl Tryz.ntmps93 rfl hm (fun w=>?_)
 refine au [77] ?_
 intro g6
 refine au [46,80,36,2] ?_
 intro x7 e7 _
 refine au [46] ?_
 refine qd (fun ((x13,_):(Int×Unit))=>([(5,qAs x13)],[],[],[],qdA F x13)) ?_ ?_
 refine au [48,106] ?_
 refine qD 6 (fun ((x16,_):(Bool×Unit))=>([(5,qAs x7),(16,.bool x16)],[],[],[],qdB F x7 x16)) ?_ ?_
 refine qb (os:=_) rfl ?_
 refine av [25,7] ?_ ?_
 intro h14
 refine qk (k:=10) rfl h14 ?_
 refine au [1,57,26,13] ?_
 intro x18 e18 _
 refine au [25,4,74] ?_
 exact qa ((!x18),())
 intro h14
 refine qj (k:=10) rfl h14 ?_
 refine au [61,6,76] ?_
 exact qa (false,())
 rintro ⟨x16,_⟩
 try dsimp only
 refine qb (os:=_) rfl ?_
 refine av [51] ?_ ?_
 intro _
 refine au [4,5,0] ?_
 exact qa ((3:Int),())
 intro _
 refine au [9] ?_
 exact qa (x7,())
 rintro ⟨x13,_⟩
 try dsimp only
 exact az [48,73]
set_option maxHeartbeats 4000000 in
theorem qjM {F:Nat}{x1:qAq}{a2:qAr}{c3:Nat}{r:Int}(hm:vR F x1=some r) :
    Pure Tryz.prog 96 [.slice a2 x1.length c3] [Sl (eI .i64) 1 (.slice a2 x1.length c3) x1] Unit (fun _=>qAs r) (fun _=>[]) (fun _=>[]):=by
 refine qi Tryz.func96 rfl Tryz.ntmps96 rfl hm (fun w=>?_)
 refine av [109,64,21,65] ?_ ?_
 intro _
 exact az [47,82]
 intro _
 refine au [66] ?_
 refine qd (fun ((_,_):(Unit×Unit))=>([],[],[],[],qfj F)) ?_ ?_
 refine au [53,14] ?_
 refine ql (fun ((x0,_):(Int×Unit))=>([(0,.slice a2 x1.length c3),(3,qAs x0)],[],[],[Sl (eI .i64) 1 (.slice a2 x1.length c3) x1])) (fun k (s:(Int×Unit))=>zQ F x1 k s.1) (0,()) F ?_
 intro k0
 rintro ⟨x0,_⟩
 try dsimp only
 refine qp (m':=jO F x1 (zQ F x1 k0) x0) rfl ?_
 refine av [3,116] ?_ ?_
 intro _
 refine au [90,3,60,25,14] ?_
 intro x2 e0 b0 o0
 refine au [25,3,26,13] ?_
 intro x3 e1 _
 refine av [102] ?_ ?_
 intro _
 exact az [47,55,92,18]
 intro _
 refine au [66] ?_
 refine qd (fun ((x4,_):(Bool×Unit))=>([(0,.slice a2 x1.length c3),(3,qAs x0),(32,.bool x4)],[],[],[Sl (eI .i64) 1 (.slice a2 x1.length c3) x1],yX F (zQ F x1 k0) x0 x4)) ?_ ?_
 refine av [27,2] ?_ ?_
 intro h0
 refine au [27,12] ?_
 intro x5 e2 b1 o1 h1
 replace h1:a2=some ⟨b1,o1,none⟩:=h1
 refine au [29,11] ?_
 intro x6 e3 b2 o2 h2
 replace h2:a2=some ⟨b2,o2,none⟩:=h2
 refine qB mixed [] [] [qv b2 (o2+(isub .i64 x0 1).toNat*1) ((eI .i64) x6),qv b1 (o1+x0.toNat*1) ((eI .i64) x5),qv b0 o0 ((eI .i64) x2),Sl (eI .i64) 1 (.slice a2 x1.length c3) x1] .nil (qF 0 rfl (qF 1 rfl (qF 2 rfl (qF 3 rfl qA)))) 14 rfl ?_
 refine au [105] ?_
 refine qh (d:=21) (v:=.bool true) rfl (by rw[h0] <;> rfl) ?_
 refine au [7,3,7,4] ?_
 refine qh (d:=22) (v:=.slice (some ⟨b1,o1,none⟩) x1.length c3) rfl (by rw[h1] <;> rfl) (qo 5 (.pointer (some ⟨b1,(o1+x0.toNat*1),none⟩)) rfl rfl rfl (yV Tryz.underlying39 tf3 rfl rfl (qQ e2).1 (kC e2)) (qh (d:=22) (v:=.slice a2 x1.length c3) rfl (by rw[h1] <;> rfl) (qJ 6 (qAs x5) [] rfl rfl rfl (zJ (j:=1) rfl tf3 rfl rfl (fun _=>rfl) rfl) ?_)))
 refine au [7,7,7,8,7,9] ?_
 refine qh (d:=26) (v:=.slice (some ⟨b2,o2,none⟩) x1.length c3) rfl (by rw[h2] <;> rfl) (qo 10 (.pointer (some ⟨b2,(o2+(isub .i64 x0 1).toNat*1),none⟩)) rfl rfl rfl (yV Tryz.underlying39 tf3 rfl rfl (qQ e3).1 (kC e3)) (qh (d:=26) (v:=.slice a2 x1.length c3) rfl (by rw[h2] <;> rfl) (qJ 11 (qAs x6) [] rfl rfl rfl (zJ (j:=0) rfl tf3 rfl rfl (fun _=>rfl) rfl) ?_)))
 refine au [112,24,14] ?_
 exact qM (qa ((decide (x5≤x6)),())) (by intro c h;cases h)
 intro h0
 refine qB mixed [] [] [qv b0 o0 ((eI .i64) x2),Sl (eI .i64) 1 (.slice a2 x1.length c3) x1] .nil (qF 0 rfl (qF 1 rfl qA)) 14 rfl ?_
 refine au [105] ?_
 refine qh (d:=21) (v:=.bool false) rfl (by rw[h0] <;> rfl) ?_
 refine au [15,3,15,4,15,5,15,6,15,7,15,8,118,110,7,13,24,14] ?_
 exact qM (qa (false,())) (by intro c h;cases h)
 rintro ⟨x4,_⟩
 try dsimp only
 refine av [8] ?_ ?_
 intro _
 exact az [47,49,92,18]
 intro _
 refine au [9,22,2,4,78,5,0] ?_
 exact qg (iadd .i64 x0 1,())
 intro _
 exact az [119]
 rintro ⟨_,_⟩
 try dsimp only
 exact az [47,73]
theorem qol {F:Nat}{x1:Int}{x2:qAq}{a3:qAr}{c4:Nat}{x5:Int}{x6:Int}{x7:Int}{r:Int}(hm:qfM F x1 x2 x5 x6 x7=some r) :
    Pure Tryz.prog 94 [qAs x1,.slice a3 x2.length c4,.agg #[qAs x5,qAs x6,qAs x7]] [Sl (eI .i64) 1 (.slice a3 x2.length c4) x2] Unit (fun _=>qAs r) (fun _=>[]) (fun _=>[]):=by
 refine qi Tryz.func94 rfl Tryz.ntmps94 rfl hm (fun w=>?_)
 refine au [104] ?_
 intro g8
 refine au [46,64,26,13] ?_
 intro x11 e11 _
 refine av [102] ?_ ?_
 intro _
 exact az [47,82]
 intro _
 refine av [89,94,65] ?_ ?_
 intro _
 refine au [48,31,9] ?_
 intro x14 e14 _
 exact az [82]
 intro _
 exact az [66,47,73]
set_option maxHeartbeats 4000000 in
theorem qlr {F:Nat}{x1:qAq}{a2:qAr}{c3:Nat}{x4:qAq}{a5:qAr}{c6:Nat}{r:(qAq×Int)}(hm:qem F x1 x4=some r) :
    Pure Tryz.prog 125 [.slice a2 x1.length c3,.slice a5 x4.length c6] [Sl (eI .i64) 1 (.slice a2 x1.length c3) x1,Sl (eI .i64) 1 (.slice a5 x4.length c6) x4] (qAr×Nat) (fun g=>.tuple #[.slice g.1 r.1.length g.2,qAs r.2]) (fun g=>[Ro (eI .i64) 3 1 (.slice g.1 r.1.length g.2) r.1]) (fun _=>[]):=by
 refine qi Tryz.func125 rfl Tryz.ntmps125 rfl hm (fun w=>?_)
 refine au [124,67,48,31,9] ?_
 intro x7 e7 _
 refine av [46,64,71] ?_ ?_
 intro _
 refine au [48,5,96] ?_
 exact qm (none,0)
 intro _
 refine av [66,64,21,1,21,16,65] ?_ ?_
 intro _
 refine au [93,96] ?_
 exact qm (none,0)
 intro _
 refine au [66,53] ?_
 refine qd (fun ((x0,_):(Int×Unit))=>([(0,.slice a2 x1.length c3),(1,.slice a5 x4.length c6),(7,qAs x0)],[],[],[Sl (eI .i64) 1 (.slice a2 x1.length c3) x1,Sl (eI .i64) 1 (.slice a5 x4.length c6) x4],qdz F x1 x4 x0)) ?_ ?_
 refine au [53,14] ?_
 refine ql (fun (((x2,x3),_):((Int×Int)×Unit))=>([(0,.slice a2 x1.length c3),(1,.slice a5 x4.length c6),(7,qAs x2),(8,qAs x3)],[],[],[Sl (eI .i64) 1 (.slice a2 x1.length c3) x1,Sl (eI .i64) 1 (.slice a5 x4.length c6) x4])) (fun k (s:((Int×Int)×Unit))=>zK F x1 x4 k s.1) ((0,0),()) F ?_
 intro k0
 rintro ⟨⟨x2,x3⟩,_⟩
 try dsimp only
 refine qp (m':=qax F x1 x4 (zK F x1 x4 k0) x2 x3) rfl ?_
 refine av [3,116] ?_ ?_
 intro _
 refine au [66] ?_
 refine qd (fun ((x5,_):(Int×Unit))=>([(0,.slice a2 x1.length c3),(1,.slice a5 x4.length c6),(7,qAs x5),(8,qAs x3)],[],[],[Sl (eI .i64) 1 (.slice a2 x1.length c3) x1,Sl (eI .i64) 1 (.slice a5 x4.length c6) x4],qaA F (zK F x1 x4 k0) x3 x5)) ?_ ?_
 refine au [14,3,60,26,15] ?_
 intro x6 e0 b0 o0
 refine au [25,3,23,1] ?_
 refine qD 10 (fun ((x8,_):(Bool×Unit))=>([(0,.slice a2 x1.length c3),(1,.slice a5 x4.length c6),(7,qAs x2),(8,qAs x3),(45,.bool x8)],[],[],[Sl (eI .i64) 1 (.slice a2 x1.length c3) x1,Sl (eI .i64) 1 (.slice a5 x4.length c6) x4],qaB F (zK F x1 x4 k0) x1 x4 x2 x3 x8)) ?_ ?_
 refine qb (os:=_) rfl ?_
 refine av [25,7] ?_ ?_
 intro h0
 refine qk (k:=35) rfl h0 ?_
 refine au [61,61,6,74] ?_
 exact qa (true,())
 intro h0
 refine qj (k:=35) rfl h0 ?_
 refine au [91,35,11] ?_
 intro x9 e1 b1 o1
 refine au [25,3,106] ?_
 refine qq 3 ((x9:Int) == 0) [(0,.slice a2 x1.length c3),(1,.slice a5 x4.length c6),(7,qAs x2),(8,qAs x3),(35,.bool false),(36,.slice a5 x4.length c6),(37,qAs x3),(38,.pointer (some ⟨b1,o1,none⟩)),(39,qAs x9),(40,.bool ((x9:Int) == 0)),(41,.bool ((x9:Int) == 0)),(44,.bool (((x9:Int) == 0) && (decide (0<x3))))] (fun h1=>?_) (fun h1=>?_) ?_
 refine qb (os:=_) rfl (qk (k:=41) rfl h1 ?_)
 refine au [1,24,7,24,1] ?_
 refine qc (d:=44) (v:=.bool (((x9:Int) == 0) && (decide (0<x3)))) rfl (by rw[h1];simp only[qx3]) (qc (d:=41) (v:=.bool ((x9:Int) == 0)) rfl (by rw[h1] <;> rfl) ?_)
 exact az [62]
 refine qb (os:=_) rfl (qj (k:=41) rfl h1 ?_)
 refine au [56,24,2] ?_
 refine qc (d:=44) (v:=.bool (((x9:Int) == 0) && (decide (0<x3)))) rfl (by rw[h1];simp only[qxW]) (qc (d:=41) (v:=.bool ((x9:Int) == 0)) rfl (by rw[h1] <;> rfl) ?_)
 exact az [62]
 refine qb (os:=_) rfl ?_
 refine au [76] ?_
 exact qa ((((x9:Int) == 0) && (decide (0<x3))),())
 rintro ⟨x8,_⟩
 try dsimp only
 refine qb (os:=_) rfl ?_
 refine av [51] ?_ ?_
 intro _
 refine au [93,55,92,25,1] ?_
 exact qm (none,0)
 intro _
 refine au [66] ?_
 refine qd (fun ((x10,_):(Int×Unit))=>([(0,.slice a2 x1.length c3),(1,.slice a5 x4.length c6),(7,qAs x10),(8,qAs x3)],[],[],[Sl (eI .i64) 1 (.slice a2 x1.length c3) x1,Sl (eI .i64) 1 (.slice a5 x4.length c6) x4],qaC F (zK F x1 x4 k0) x4 x3 x10)) ?_ ?_
 refine au [60,26,15] ?_
 intro x11 e2 b2 o2
 refine av [25,3,1,21,65] ?_ ?_
 intro _
 refine au [4,5,0] ?_
 exact qa ((1000:Int),())
 intro _
 refine au [9] ?_
 exact qa (x2,())
 rintro ⟨x10,_⟩
 try dsimp only
 refine av [48,75] ?_ ?_
 intro _
 refine au [99,1,26,15] ?_
 intro x12 e3 b3 o3
 refine au [25,3,16,95] ?_
 exact qa (iadd .i64 x10 x12,())
 intro _
 refine au [9,22] ?_
 exact qa (x10,())
 rintro ⟨x5,_⟩
 try dsimp only
 refine au [4,78,5,0] ?_
 exact qg ((x5,iadd .i64 x3 1),())
 intro _
 refine au [63] ?_
 exact qa (x2,())
 rintro ⟨x0,_⟩
 try dsimp only
 refine av [3,115,65] ?_ ?_
 intro _
 refine au [93,96] ?_
 exact qm (none,0)
 intro _
 refine au [66,53] ?_
 refine qd (fun ((x13,(a0,c0)):(qAq×(qAr×Nat)))=>([(9,.slice a0 x13.length c0)],[],[Ro (eI .i64) 3 1 (.slice a0 x13.length c0) x13],[],qdi F x13)) ?_ ?_
 refine au [53,98] ?_
 refine ql (fun (((x14,x15),(a1,c1)):((qAq×Int)×(qAr×Nat)))=>([(0,.slice a2 x1.length c3),(1,.slice a5 x4.length c6),(9,.slice a1 x14.length c1),(10,qAs x15)],[],[Ro (eI .i64) 3 1 (.slice a1 x14.length c1) x14],[Sl (eI .i64) 1 (.slice a2 x1.length c3) x1,Sl (eI .i64) 1 (.slice a5 x4.length c6) x4])) (fun k (s:((qAq×Int)×(qAr×Nat)))=>qO F x1 x4 k s.1) ((([]:qAq),0),(none,0)) F ?_
 intro k1
 rintro ⟨⟨x14,x15⟩,⟨a1,c1⟩⟩
 try dsimp only
 refine qp (m':=qav F x1 x4 (qO F x1 x4 k1) x14 x15) rfl ?_
 refine av [3,116] ?_ ?_
 intro _
 refine au [66] ?_
 refine qd (fun ((x16,(a3,c2)):(qAq×(qAr×Nat)))=>([(0,.slice a2 x1.length c3),(1,.slice a5 x4.length c6),(9,.slice a3 x16.length c2),(10,qAs x15)],[],[Ro (eI .i64) 3 1 (.slice a3 x16.length c2) x16],[Sl (eI .i64) 1 (.slice a2 x1.length c3) x1,Sl (eI .i64) 1 (.slice a5 x4.length c6) x4],qay F (qO F x1 x4 k1) x15 x16)) ?_ ?_
 refine au [14,47,67] ?_
 refine qd (fun ((x17,_):(Int×Unit))=>([(0,.slice a2 x1.length c3),(1,.slice a5 x4.length c6),(9,.slice a1 x14.length c1),(10,qAs x15),(11,qAs x17)],[],[Ro (eI .i64) 3 1 (.slice a1 x14.length c1) x14],[Sl (eI .i64) 1 (.slice a2 x1.length c3) x1,Sl (eI .i64) 1 (.slice a5 x4.length c6) x4],qaz F (qO F x1 x4 k1) x1 x14 x15 x17)) ?_ ?_
 refine au [14] ?_
 refine ql (fun (((x18,x19),_):((Int×Int)×Unit))=>([(0,.slice a2 x1.length c3),(1,.slice a5 x4.length c6),(9,.slice a1 x14.length c1),(10,qAs x15),(11,qAs x18),(12,qAs x19)],[],[Ro (eI .i64) 3 1 (.slice a1 x14.length c1) x14],[Sl (eI .i64) 1 (.slice a2 x1.length c3) x1,Sl (eI .i64) 1 (.slice a5 x4.length c6) x4])) (fun k (s:((Int×Int)×Unit))=>ky F (qO F x1 x4 k1) x1 x4 x14 x15 k s.1) ((0,0),()) F ?_
 intro k2
 rintro ⟨⟨x18,x19⟩,_⟩
 try dsimp only
 refine qp (m':=qaw F (qO F x1 x4 k1) x1 x4 x14 x15 (ky F (qO F x1 x4 k1) x1 x4 x14 x15 k2) x18 x19) rfl ?_
 refine au [3,115,23,1] ?_
 refine qD 9 (fun ((x20,_):(Bool×Unit))=>([(0,.slice a2 x1.length c3),(1,.slice a5 x4.length c6),(9,.slice a1 x14.length c1),(10,qAs x15),(11,qAs x18),(12,qAs x19),(84,.bool x20)],[],[Ro (eI .i64) 3 1 (.slice a1 x14.length c1) x14],[Sl (eI .i64) 1 (.slice a2 x1.length c3) x1,Sl (eI .i64) 1 (.slice a5 x4.length c6) x4],vA F (qO F x1 x4 k1) (ky F (qO F x1 x4 k1) x1 x4 x14 x15 k2) x1 x4 x14 x15 x18 x19 x20)) ?_ ?_
 refine qb (os:=_) rfl ?_
 refine av [25,7] ?_ ?_
 intro h2
 refine qk (k:=75) rfl h2 ?_
 refine au [91,91,26,15] ?_
 intro x21 e4 b4 o4
 refine au [25,3,16,26,3,74] ?_
 exact qa ((decide ((iadd .i64 x19 x21)≤x15)),())
 intro h2
 refine qj (k:=75) rfl h2 ?_
 refine au [61,61,76] ?_
 exact qa (false,())
 rintro ⟨x20,_⟩
 try dsimp only
 refine qb (os:=_) rfl ?_
 refine av [51] ?_ ?_
 intro _
 refine au [66,14,60,1,26,15] ?_
 intro x22 e5 b5 o5
 refine au [25,3,16,46,4,78,95] ?_
 exact qg ((iadd .i64 x18 1,iadd .i64 x19 x22),())
 intro _
 refine au [63] ?_
 exact qa (x18,())
 rintro ⟨x17,_⟩
 try dsimp only
 refine av [48,27,1,68] ?_ ?_
 intro _
 refine au [99,1,25,14] ?_
 intro x23 e6 b6 o6
 refine au [25,3] ?_
 refine qx (vs:=[qAs x23]) (ys:=([x23]:qAq)) (qs .i64) (by decide) rfl Tryz.underlying39 tf3 rfl rfl rfl rfl rfl (by decide) (fun a4 c4=>qE 1 (qs .i64) rfl Tryz.underlying39 tf3 rfl rfl rfl rfl rfl (.inl ⟨0,_,rfl⟩) rfl rfl (fun x24 e8 a6 c5=>?_))
 refine au [95] ?_
 exact qa (x24,(a6,c5))
 intro _
 refine au [9,22] ?_
 exact qa (x14,(a1,c1))
 rintro ⟨x16,⟨a3,c2⟩⟩
 try dsimp only
 refine au [4,78,5,0] ?_
 exact qg ((x16,iadd .i64 x15 1),(a3,c2))
 intro _
 refine au [63] ?_
 exact qa (x14,(a1,c1))
 rintro ⟨x13,⟨a0,c0⟩⟩
 try dsimp only
 refine au [48,5,49] ?_
 exact qm (a0,c0)
set_option maxHeartbeats 4000000 in
theorem qoi (F:Nat)(x1:Int)(x2:Int)(x3:Bool)(r:Int)(hm:qdq F x1 x2 x3=some r) :
    Pure Tryz.prog 126 [.int .u64 x1,qAs x2,.bool x3] [] Unit (fun _=>qAs r) (fun _=>[]) (fun _=>[]):=by
 refine qi Tryz.func126 rfl Tryz.ntmps126 rfl hm (fun w=>?_)
 refine av [25,15,53,64,65] ?_ ?_
 intro _
 exact az [47,82]
 intro _
 refine au [66,60,135,16,120] ?_
 intro x5 e5
 refine qc (d:=7) (v:=qAs x5) rfl (by rw[e5] <;> rfl) ?_
 refine au [45] ?_
 refine qd (fun ((x10,_):(Int×Unit))=>([(7,qAs x10)],[],[],[],jR F x10)) ?_ ?_
 refine av [48,51] ?_ ?_
 intro _
 refine au [60,24,15,26,14,16,120] ?_
 intro x15 e15
 refine qc (d:=7) (v:=qAs x15) rfl (by rw[e15] <;> rfl) ?_
 refine av [45,48,27,1,68] ?_ ?_
 intro _
 refine au [99,24,15,26,14,24,13,24,13,120] ?_
 intro x16 e16
 refine qc (d:=7) (v:=qAs x16) rfl (by rw[e16] <;> rfl) ?_
 refine au [0] ?_
 exact qa (x16,())
 intro _
 refine au [9] ?_
 exact qa (x15,())
 intro _
 refine au [9] ?_
 exact qa (x5,())
 rintro ⟨x10,_⟩
 try dsimp only
 refine au [64,26,13] ?_
 intro x13 e13 _
 refine av [102] ?_ ?_
 intro _
 exact az [47,82]
 intro _
 exact az [66,48,73]
set_option maxHeartbeats 4000000 in
theorem qlo {F:Nat}{x1:qAq}{a2:qAr}{c3:Nat}{x4:Int}{x5:Int}{r:(Int×Int)}(hm:qek F x1 x4 x5=some r) :
    Pure Tryz.prog 194 [.slice a2 x1.length c3,qAs x4,.int .u64 x5] [Sl (eI .i64) 1 (.slice a2 x1.length c3) x1] Unit (fun _=>.tuple #[.int .u64 r.1,qAs r.2]) (fun _=>[]) (fun _=>[]):=by
 refine qi Tryz.func194 rfl Tryz.ntmps194 rfl hm (fun w=>?_)
 refine au [25,15,47,67,53] ?_
 refine qd (fun ((x18,_):(Int×Unit))=>([(0,.slice a2 x1.length c3),(1,qAs x4),(2,.int .u64 x5),(8,qAs x18)],[],[],[Sl (eI .i64) 1 (.slice a2 x1.length c3) x1],qd0 F x1 x4 x5 x18)) ?_ ?_
 refine au [14] ?_
 refine ql (fun ((x0,_):(Int×Unit))=>([(0,.slice a2 x1.length c3),(1,qAs x4),(2,.int .u64 x5),(8,qAs x0)],[],[],[Sl (eI .i64) 1 (.slice a2 x1.length c3) x1])) (fun k (s:(Int×Unit))=>vn F x1 x4 x5 k s.1) (0,()) F ?_
 intro k0
 rintro ⟨x0,_⟩
 try dsimp only
 refine qp (m':=qcd F x1 x4 x5 (vn F x1 x4 x5 k0) x0) rfl ?_
 refine au [64,26,0] ?_
 intro h0
 refine qbU rfl rfl rfl rfl h0 ?_
 refine av [1,75] ?_ ?_
 intro _
 refine au [66,14,4,78,95] ?_
 exact qg (iadd .i64 x0 1,())
 intro _
 refine au [63] ?_
 exact qa (x0,())
 rintro ⟨x18,_⟩
 try dsimp only
 refine au [48,26,0] ?_
 intro h19
 refine qbU rfl rfl rfl rfl h19 ?_
 refine au [85,46,53] ?_
 refine qd (fun ((_,_):(Unit×Unit))=>([],[],[],[],qgf F)) ?_ ?_
 refine au [53,14] ?_
 refine ql (fun (((x2,x3),_):((Int×Int)×Unit))=>([(0,.slice a2 x1.length c3),(1,qAs x4),(8,qAs x18),(9,.int .u64 (isub .u64 (ishl .u64 1 x18) x5)),(10,.int .u64 x2),(11,qAs x3)],[],[],[Sl (eI .i64) 1 (.slice a2 x1.length c3) x1])) (fun k (s:((Int×Int)×Unit))=>vm F x1 x4 x5 x18 k s.1) ((0,0),()) F ?_
 intro k1
 rintro ⟨⟨x2,x3⟩,_⟩
 try dsimp only
 refine qp (m':=qcc F x1 x4 x5 x18 (vm F x1 x4 x5 x18 k1) x2 x3) rfl ?_
 refine av [3,60,26,7,51] ?_ ?_
 intro _
 refine au [90,3,60,24,13,106] ?_
 refine qq 4 ((x3:Int) == (isub .i64 x18 1)) [(0,.slice a2 x1.length c3),(1,qAs x4),(8,qAs x18),(9,.int .u64 (isub .u64 (ishl .u64 1 x18) x5)),(10,.int .u64 x2),(11,qAs x3),(35,.bool (((x3:Int) == (isub .i64 x18 1)) && (decide (x2<(isub .u64 (ishl .u64 1 x18) x5)))))] (fun h1=>?_) (fun h1=>?_) ?_
 refine qb (os:=_) rfl (qk (k:=31) rfl h1 ?_)
 refine au [91,23,24,1] ?_
 refine qc (d:=35) (v:=.bool (((x3:Int) == (isub .i64 x18 1)) && (decide (x2<(isub .u64 (ishl .u64 1 x18) x5))))) rfl (by rw[h1];simp only[qx3]) ?_
 exact az [62]
 refine qb (os:=_) rfl (qj (k:=31) rfl h1 ?_)
 refine au [56,6,24,2] ?_
 refine qc (d:=35) (v:=.bool (((x3:Int) == (isub .i64 x18 1)) && (decide (x2<(isub .u64 (ishl .u64 1 x18) x5))))) rfl (by rw[h1];simp only[qxW]) ?_
 exact az [62]
 refine qb (os:=_) rfl ?_
 refine av [51] ?_ ?_
 intro _
 exact az [60,78,5,55,92,18]
 intro _
 refine av [89,60,68] ?_ ?_
 intro _
 refine au [60,24,13,1,78,120] ?_
 intro x6 e0
 refine qc (d:=6) (v:=.int .u64 x6) rfl (by rw[e0] <;> rfl) ?_
 exact az [55,92,18]
 intro _
 refine av [89,60,16,1,21,26,3,51] ?_ ?_
 intro _
 exact az [93,55,92,18]
 intro _
 refine au [66,4,1,26,6,91,78,25,14] ?_
 intro x7 e1 b0 o0
 refine au [25,3,135,120] ?_
 intro x8 e2
 refine qc (d:=10) (v:=.int .u64 x8) rfl (by rw[e2] <;> rfl) ?_
 refine au [84,2,4,78,5,0] ?_
 exact qg ((x8,iadd .i64 x3 1),())
 intro _
 exact az [119]
 rintro ⟨_,_⟩
 try dsimp only
 exact az [93,73]
set_option maxHeartbeats 4000000 in
theorem qmW {F:Nat}{x1:qAq}{a2:qAr}{c3:Nat}{x4:Int}{x5:Int}{r:(Int×Int×Int)}(hm:qeZ F x1 x4 x5=some r) :
    Pure Tryz.prog 165 [.slice a2 x1.length c3,qAs x4,qAs x5] [Sl (eI .i64) 1 (.slice a2 x1.length c3) x1] Unit (fun _=>.tuple #[.int .u64 r.1,qAs r.2.1,qAs r.2.2]) (fun _=>[]) (fun _=>[]):=by
 refine qi Tryz.func165 rfl Tryz.ntmps165 rfl hm (fun w=>?_)
 refine au [25,15,93,67,60,36,3] ?_
 intro x6 e6 _
 refine av [79,114,75] ?_ ?_
 intro _
 exact az [93,5,82]
 intro _
 refine au [66,64,26,3,1] ?_
 refine qq 6 (decide (41≤x6.1)) [(0,.slice a2 x1.length c3),(2,qAs x5),(9,.int .u64 x6.1),(10,qAs x6.2),(30,.bool ((decide (41≤x6.1)) || (decide (41≤(imul .i64 (iconv .i64 x6.1) x5)))))] (fun h10=>?_) (fun h10=>?_) ?_
 refine qb (os:=_) rfl (qk (k:=24) rfl h10 ?_)
 refine au [61,113] ?_
 refine qc (d:=30) (v:=.bool ((decide (41≤x6.1)) || (decide (41≤(imul .i64 (iconv .i64 x6.1) x5))))) rfl (by rw[h10];simp only[Bool.true_or]) ?_
 exact az [62]
 refine qb (os:=_) rfl (qj (k:=24) rfl h10 ?_)
 refine au [1,24,15,1,26,6,26,3,24,2] ?_
 refine qc (d:=30) (v:=.bool ((decide (41≤x6.1)) || (decide (41≤(imul .i64 (iconv .i64 x6.1) x5))))) rfl (by rw[h10];simp only[Bool.false_or]) ?_
 exact az [62]
 refine qb (os:=_) rfl ?_
 refine av [51] ?_ ?_
 intro _
 exact az [93,5,82]
 intro _
 refine au [66,53] ?_
 refine qd (fun ((x26,_):(Int×Unit))=>([(0,.slice a2 x1.length c3),(2,qAs x5),(10,qAs x6.2),(11,.int .u64 x26)],[],[],[Sl (eI .i64) 1 (.slice a2 x1.length c3) x1],qeR F x1 x5 x6 x26)) ?_ ?_
 refine au [53,14] ?_
 refine ql (fun (((x37,x38),_):((Int×Int)×Unit))=>([(0,.slice a2 x1.length c3),(2,qAs x5),(9,.int .u64 x6.1),(10,qAs x6.2),(11,.int .u64 x37),(12,.int .u64 x38)],[],[],[Sl (eI .i64) 1 (.slice a2 x1.length c3) x1])) (fun k (s:((Int×Int)×Unit))=>vU F x1 x5 x6 k s.1) ((1,0),()) F ?_
 intro k43
 rintro ⟨⟨x37,x38⟩,_⟩
 try dsimp only
 refine qp (m':=qc2 F x1 x5 x6 (vU F x1 x5 x6 k43) x37 x38) rfl ?_
 refine av [3,60,75] ?_ ?_
 intro _
 refine au [90,99,26,0] ?_
 intro h46
 refine qbU rfl rfl rfl rfl h46 ?_
 refine au [95,2,4,78,5,0] ?_
 exact qg ((ishl .u64 x37 x5,iadd .u64 x38 1),())
 intro _
 refine au [63] ?_
 exact qa (x37,())
 rintro ⟨x26,_⟩
 try dsimp only
 refine au [60,91,26,0] ?_
 intro h27
 refine qbU rfl rfl rfl rfl h27 ?_
 refine au [85] ?_
 refine qf qlo ?_
 intro x28 e28 _
 refine av [79,114,75] ?_ ?_
 intro _
 exact az [93,5,82]
 intro _
 refine av [89,60,16,24,13,65] ?_ ?_
 intro _
 exact az [93,5,82]
 intro _
 exact az [66,60,16,24,13,1,5,5,73]
set_option maxHeartbeats 4000000 in
theorem qmL {F:Nat}{x1:qAq}{a2:qAr}{c3:Nat}{x4:Int}{x5:Int}{x6:Int}{x7:Int}{r:(qAq×Int×Int)}(hm:qgv F x1 x4 x5 x6 x7=some r) :
    Pure Tryz.prog 127 [.slice a2 x1.length c3,qAs x4,qAs x5,qAs x6,qAs x7] [Sl (eI .i64) 1 (.slice a2 x1.length c3) x1] (qAr×Nat) (fun g=>.tuple #[.slice g.1 r.1.length g.2,qAs r.2.1,qAs r.2.2]) (fun g=>[Ro (eI .i64) 3 1 (.slice g.1 r.1.length g.2) r.1]) (fun _=>[]):=by
 refine qi Tryz.func127 rfl Tryz.ntmps127 rfl hm (fun w=>?_)
 refine au [27,13,93,67,53] ?_
 refine qd (fun (((x56,x59),(a57,c58)):((Int×qAq)×(qAr×Nat)))=>([(1,qAs x56),(13,.slice a57 x59.length c58)],[],[Ro (eI .i64) 3 1 (.slice a57 x59.length c58) x59],[],qeQ F x56 x59)) ?_ ?_
 refine au [98] ?_
 refine ql (fun (((x75,x76,x79),(a77,c78)):((Int×Int×qAq)×(qAr×Nat)))=>([(0,.slice a2 x1.length c3),(1,qAs x75),(2,qAs x76),(3,qAs x6),(4,qAs x7),(13,.slice a77 x79.length c78)],[],[Ro (eI .i64) 3 1 (.slice a77 x79.length c78) x79],[Sl (eI .i64) 1 (.slice a2 x1.length c3) x1])) (fun k (s:((Int×Int×qAq)×(qAr×Nat)))=>vQ F x1 x6 x7 k s.1) ((x4,x5,([]:qAq)),(none,0)) F ?_
 intro k93
 rintro ⟨⟨x75,x76,x79⟩,⟨a77,c78⟩⟩
 try dsimp only
 refine qp (m':=qcT F x1 x6 x7 (vQ F x1 x6 x7 k93) x75 x76 x79) rfl ?_
 refine av [64,21,1,75] ?_ ?_
 intro _
 refine au [66,14,60,1] ?_
 refine qf qmW ?_
 intro x95 e95 _
 refine av [129,5,114,71] ?_ ?_
 intro _
 refine au [48,5,5,55,50,50,25,1] ?_
 exact qm (none,0)
 intro _
 refine au [66,60,1,21,24,11,36,4] ?_
 intro x97 e97 _
 refine av [46,64,75] ?_ ?_
 intro _
 refine au [93,5,55,50,50,25,1] ?_
 exact qm (none,0)
 intro _
 refine au [66,60] ?_
 refine qx (vs:=[qAs x97]) (ys:=([x97]:qAq)) (qs .i64) (by decide) rfl Tryz.underlying39 tf3 rfl rfl rfl rfl rfl (by decide) (fun a99 c0=>qE 1 (qs .i64) rfl Tryz.underlying39 tf3 rfl rfl rfl rfl rfl (.inl ⟨0,_,rfl⟩) rfl rfl (fun x0 e0 a0 c1=>?_))
 refine au [46,48,46,4,1,95] ?_
 exact qg ((x95.2.1,x97,x0),(a0,c1))
 intro _
 refine au [63] ?_
 exact qa ((x75,x79),(a77,c78))
 rintro ⟨⟨x56,x59⟩,⟨a57,c58⟩⟩
 try dsimp only
 refine au [60,5,5,49] ?_
 exact qm (a57,c58)
end Go.Proofs.YtmhggdbfbmkpeaaGreat
