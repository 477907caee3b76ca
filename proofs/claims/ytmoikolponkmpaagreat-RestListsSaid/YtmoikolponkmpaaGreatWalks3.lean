/- Each Go function of this seat computes what its model says, part 3. -/
import Derived.Test.YtmoikolponkmpaaGreatWalks2
open Bool renaming false_and→qvT, true_and→qvZ, false_or→qv2, true_or→qv4
open List renaming length_set→qwE
namespace Go.Proofs.YtmoikolponkmpaaGreat
open Go SX
set_option maxHeartbeats 4000000 in
theorem qlJ {F:Nat}{x1:Int}{x2:qyo}{a3:qyp}{c4:Nat}{x5:Int}{x6:Int}{x7:Int}{x8:Int}{r:(qyo×Int×Int)}(hm:qdp F x1 x2 x5 x6 x7 x8=some r) :
    Pure Tryz.prog 181 [.agg #[qyq x1,.slice a3 x2.length c4],qyq x5,qyq x6,qyq x7,qyq x8] [Sl (eI .u8) 1 (.slice a3 x2.length c4) x2] (qyp×Nat) (fun g=>.tuple #[.slice g.1 r.1.length g.2,qyq r.2.1,qyq r.2.2]) (fun g=>[Ro (eI .i64) 3 1 (.slice g.1 r.1.length g.2) r.1]) (fun _=>[]):=by
 refine ql Tryz.func181 rfl Tryz.ntmps181 rfl hm (fun w=>?_)
 refine au [28,14,82] ?_
 intro g9
 refine au [5,5,75] ?_
 refine qo (cells:=[qyq x6,.bool false]) rfl st112 rfl (by kernel_rfl) rfl ?_
 refine au [24,1] ?_
 intro g10
 refine au [60] ?_
 refine qh (fun (((x0,x3),(a0,c0)):((Int×qyo)×(qyp×Nat)))=>([(1,qyq x0),(10,.slice a0 x3.length c0)],[],[Ro (eI .i64) 3 1 (.slice a0 x3.length c0) x3],[],qdN F x0 x3)) ?_ ?_
 refine au [62,1,109,27,4] ?_
 refine qu (fun (((x4,x9,x10,x11,x12),(a1,c1)):((Int×qyo×Int×Int×Bool)×(qyp×Nat)))=>([(1,qyq x4),(3,qyq x7),(5,.pointer (some ⟨g9,0,none⟩)),(10,.slice a1 x9.length c1),(13,.pointer (some ⟨g10,0,none⟩)),(18,qyq x8),(19,qyq x10)],[⟨g10,112,[qyq x11,.bool x12]⟩,⟨g9,25,[qyq x1,.slice a3 x2.length c4]⟩],[Ro (eI .i64) 3 1 (.slice a1 x9.length c1) x9],[Sl (eI .u8) 1 (.slice a3 x2.length c4) x2])) (fun k (s:((Int×qyo×Int×Int×Bool)×(qyp×Nat)))=>vT F x1 x2 x7 x8 k s.1) ((x5,([]:qyo),0,x6,false),(none,0)) F ?_
 intro k0
 rintro ⟨⟨x4,x9,x10,x11,x12⟩,⟨a1,c1⟩⟩
 try dsimp only
 refine qB (m':=qb4 F x1 x2 x7 x8 (vT F x1 x2 x7 x8 k0) x4 x9 x10 x11 x12) rfl ?_
 refine av [118] ?_ ?_
 intro _
 refine au [74,3,19,61,60,3,61,25,4,1,1] ?_
 refine qg qgg ?_
 intro x13 e0 _
 refine av [80,10,5,5,75,81] ?_ ?_
 intro _
 refine au [62,5,5,77,129,25,5] ?_
 exact qs (none,0)
 intro _
 refine au [74,83,1,33,2] ?_
 intro x14 e1 _
 refine av [25,1,63] ?_ ?_
 intro _
 refine au [61,5,5,77,129,25,5] ?_
 exact qs (none,0)
 intro _
 refine au [74,4,1,1,25,3,73] ?_
 refine qn (vs:=[qyq x14.2.1]) (ys:=([x14.2.1]:qyo)) (qp .i64) (by decide) rfl Tryz.underlying22 tf3 rfl rfl rfl rfl rfl (by decide) (fun a2 c2=>zY 1 (qp .i64) rfl Tryz.underlying22 tf3 rfl rfl rfl rfl rfl (.inl ⟨0,_,rfl⟩) rfl rfl (fun x15 e2 a4 c3=>?_))
 refine au [5,0,78,4,23,1,0] ?_
 exact qr ((x13.2.1,x15,iadd .i64 x10 1,x14.2.1,x14.2.2),(a4,c3))
 intro _
 refine au [87] ?_
 exact qb ((x4,x9),(a1,c1))
 rintro ⟨⟨x0,x3⟩,⟨a0,c0⟩⟩
 try dsimp only
 refine au [62,1,5,5,64] ?_
 exact qs (a0,c0)
theorem ja (F:Nat)(x1:Bool)(r:(Unit ⊕ Unit))(hm:kK F x1=some r) :
    PureL Tryz.prog 232 [.bool x1] [] [] [] lostCh Unit (fun (_:Unit) (_:Unit)=>.tuple #[]) (fun (_:Unit) (_:Unit)=>[]) (fun (_:Unit) (_:Unit)=>[]) (fun (_:Unit)=>[]) r:=by
 refine qfl Tryz.func232 rfl Tryz.ntmps232 rfl hm (fun w=>?_)
 refine av [25,9,62,25,1,63] ?_ ?_
 intro _
 refine au [4] ?_
 exact qo (cells:=[]) rfl inferInstance rfl (by kernel_rfl) rfl (qqe rfl rfl (qs9 _) rfl (qqg rfl rfl (qkh .nil)))
 intro _
 refine au [13] ?_
 exact qcT () (.inr rfl) (res0 rfl) rfl .nil .nil
theorem qfE (F:Nat)(x1:Int)(x2:qyo)(a3:qyp)(c4:Nat)(x5:Int)(r:(Int×Int×Int))(hm:qbe F x1 x2 x5=some r) :
    Pure Tryz.prog 241 [.agg #[qyq x1,.slice a3 x2.length c4],qyq x5] [Sl (eI .u8) 1 (.slice a3 x2.length c4) x2] Unit (fun _=>.tuple #[.int .u64 r.1,qyq r.2.1,qyq r.2.2]) (fun _=>[]) (fun _=>[]):=by
 refine ql Tryz.func241 rfl Tryz.ntmps241 rfl hm (fun w=>?_)
 refine au [94] ?_
 intro g6
 refine au [5,5,91,1,35,0] ?_
 intro x7 e7 _
 refine av [80,10,5,5,93,25,1,63] ?_ ?_
 intro _
 exact az [61,5,5,99]
 intro _
 exact az [74,62,1,5,5,85]
set_option maxHeartbeats 4000000 in
theorem qaB {F:Nat}{x1:Int}{x2:qyo}{a3:qyp}{c4:Nat}{x5:Int}{r:(Int×Int×Int)}(hm:zH F x1 x2 x5=some r) :
    Pure Tryz.prog 242 [.func (.func 241) #[] #[],.agg #[qyq x1,.slice a3 x2.length c4],qyq x5] [Sl (eI .u8) 1 (.slice a3 x2.length c4) x2] Unit (fun _=>.tuple #[.int .u64 r.1,qyq r.2.1,qyq r.2.2]) (fun _=>[]) (fun _=>[]):=by
 refine ql Tryz.func242 rfl Tryz.ntmps242 rfl hm (fun w=>?_)
 refine au [106] ?_
 intro g6
 refine au [5,5,75,24,4,1] ?_
 refine qp9 ent241 rfl rfl rfl rfl (fun x7 e7=>qfE F x1 x2 a3 c4 x5 x7 e7) (.consF 0 rfl .nil) (fun x7 e7 _=>?_)
 refine av [80,10,5,5,93,81] ?_ ?_
 intro _
 exact az [62,5,5,99]
 intro _
 refine av [74,83,26,7,63] ?_ ?_
 intro _
 exact az [61,5,5,99]
 intro _
 refine au [108,24,4,1,1,25,11,30,1] ?_
 intro x10 e10 _
 refine av [80,5,93,25,1,63] ?_ ?_
 intro _
 exact az [61,5,5,99]
 intro _
 refine au [74,83,1,25,13] ?_
 intro h15
 refine qfC rfl rfl rfl rfl h15 ?_
 refine au [25,7,23,5,26,13] ?_
 intro x16 e16
 refine qc (d:=12) (v:=.int .u64 x16) rfl (by rw[e16] <;> rfl) ?_
 refine av [59,62,103] ?_ ?_
 intro _
 exact az [61,5,5,99]
 intro _
 exact az [74,62,1,1,25,11,23,5,5,85]
theorem qgc {F:Nat}{x1:Int}{x2:qyo}{a3:qyp}{c4:Nat}{x5:Int}{r:(Int×Int×Int)}(hm:vr F x1 x2 x5=some r) :
    Pure Tryz.prog 209 [.agg #[qyq x1,.slice a3 x2.length c4],qyq x5] [Sl (eI .u8) 1 (.slice a3 x2.length c4) x2] Unit (fun _=>.tuple #[.int .u64 r.1,qyq r.2.1,qyq r.2.2]) (fun _=>[]) (fun _=>[]):=by
 refine ql Tryz.func209 rfl Tryz.ntmps209 rfl hm (fun w=>?_)
 refine au [94] ?_
 intro g6
 refine au [5,5,91,1] ?_
 refine qg qaB ?_
 intro x7 e7 _
 exact az [65,10,5,5,85]
theorem kG (F:Nat)(g1:Nat)(x2:Int)(x3:qyo)(a4:qyp)(c5:Nat)(x6:Int)(x7:Int)(r:((Int×Int×Int) ⊕ (Int×Int)))(hm:zv F x2 x3 x6 x7=some r) :
    PureL Tryz.prog 249 [.pointer (some ⟨g1,0,none⟩),qyq x7] [⟨g1,231,[qyq x2,.slice a4 x3.length c5,qyq x6]⟩] [] [Sl (eI .u8) 1 (.slice a4 x3.length c5) x3] lostCh Unit (fun (r:(Int×Int×Int)) (_:Unit)=>qyq r.1) (fun (r:(Int×Int×Int)) (_:Unit)=>[⟨g1,231,[qyq r.2.1,.slice a4 x3.length c5,qyq r.2.2]⟩]) (fun (_:(Int×Int×Int)) (_:Unit)=>[]) (fun (z:(Int×Int))=>[⟨g1,231,[qyq z.1,.slice a4 x3.length c5,qyq z.2]⟩]) r:=by
 refine qfl Tryz.func249 rfl Tryz.ntmps249 rfl hm (fun w=>?_)
 refine au [69,60,3] ?_
 refine qy mixed [] [⟨g1,231,[qyq x2,.slice a4 x3.length c5,qyq x6]⟩] [Sl (eI .u8) 1 (.slice a4 x3.length c5) x3] (.cons 0 rfl .nil) (qt 0 rfl qw) 16 rfl ?_
 refine au [88,24,0,2] ?_
 refine q8 3 (.agg #[qyq x2,.slice a4 x3.length c5]) rfl rfl rfl (qQ (i:=0) rfl tf25 rfl rfl (by simp) rfl) ?_
 refine au [115,24,0,6,25,2,7,20,8,35,1] ?_
 intro x9 e9 _
 refine au [0,30,11,7,9,7,10,7,11,112,7,14,7,15,24,8] ?_
 refine qx ?_ (by intro c h;cases h)
 refine au [2,98,1] ?_
 refine qk 5 ((x9.2.2:Int) == 0) [(0,.pointer (some ⟨g1,0,none⟩)),(5,.int .u64 x9.1),(6,qyq x9.2.1),(28,.bool (((x9.2.2:Int) == 0) && (decide (x9.1≤(iconv .u64 x7)))))] (fun h10=>?_) (fun h10=>?_) ?_
 refine qa (os:=_) rfl (qf (k:=23) rfl h10 ?_)
 refine au [1,1,25,11,26,15,16] ?_
 refine qc (d:=28) (v:=.bool (((x9.2.2:Int) == 0) && (decide (x9.1≤(iconv .u64 x7))))) rfl (by rw[h10];simp only[qvZ]) ?_
 exact az [68]
 refine qa (os:=_) rfl (qe (k:=23) rfl h10 ?_)
 refine au [72,17] ?_
 refine qc (d:=28) (v:=.bool (((x9.2.2:Int) == 0) && (decide (x9.1≤(iconv .u64 x7))))) rfl (by rw[h10];simp only[qvT]) ?_
 exact az [68]
 refine qa (os:=_) rfl (ko ent232 rfl rfl rfl (fun x11 e11=>ja F (((x9.2.2:Int) == 0) && (decide (x9.1≤(iconv .u64 x7)))) x11 e11) .nil .nil .nil (fun x12 _=>?_) (fun x11 e11=>?_))
 exact az [105]
 intro _
 refine au [59,62,1,96,97,62,25,11,64] ?_
 exact qcT () (.inl rfl) (res1 rfl rfl) rfl (.cons 0 rfl .nil) .nil
set_option maxHeartbeats 4000000 in
theorem qe9 (F:Nat)(g1:Nat)(x2:Int)(x3:qyo)(a4:qyp)(c5:Nat)(x6:Int)(x7:Int)(r:((qyo×Int×Int) ⊕ (Int×Int)))(hm:vA F x2 x3 x6 x7=some r) :
    PureL Tryz.prog 250 [.pointer (some ⟨g1,0,none⟩),qyq x7] [⟨g1,231,[qyq x2,.slice a4 x3.length c5,qyq x6]⟩] [] [Sl (eI .u8) 1 (.slice a4 x3.length c5) x3] lostCh (qyp×Nat) (fun (r:(qyo×Int×Int)) (g:(qyp×Nat))=>.slice g.1 r.1.length g.2) (fun (r:(qyo×Int×Int)) (_:(qyp×Nat))=>[⟨g1,231,[qyq r.2.1,.slice a4 x3.length c5,qyq r.2.2]⟩]) (fun (r:(qyo×Int×Int)) (g:(qyp×Nat))=>[Ro (eI .i64) 3 1 (.slice g.1 r.1.length g.2) r.1]) (fun (z:(Int×Int))=>[⟨g1,231,[qyq z.1,.slice a4 x3.length c5,qyq z.2]⟩]) r:=by
 refine qfl Tryz.func250 rfl Tryz.ntmps250 rfl hm (fun w=>?_)
 refine au [69,75,1,23] ?_
 refine ko ent249 rfl rfl rfl (fun x8 e8=>kG F g1 x2 x3 a4 c5 x6 (iadd .i64 x7 1) x8 e8) (.cons 0 rfl .nil) .nil (.consF 0 rfl .nil) (fun x9 _=>?_) (fun x8 e8=>?_)
 exact az [105]
 intro _
 refine qss (qp .i64) rfl UnF.u inferInstance rfl rfl rfl rfl rfl rfl rfl ?_
 intro x10 e10 a11 c12
 refine au [60] ?_
 refine qh (fun (((x72,x73,x74),_):((qyo×Int×Int)×Unit))=>([(5,.slice a11 x72.length c12)],[⟨g1,231,[qyq x73,.slice a4 x3.length c5,qyq x74]⟩],[Ro (eI .i64) 3 1 (.slice a11 x72.length c12) x72],[Sl (eI .u8) 1 (.slice a4 x3.length c5) x3],vY F x72 x73 x74)) ?_ ?_
 refine au [124] ?_
 refine qu (fun (((x93,x94,x95,x96),_):((qyo×Int×Int×Int)×Unit))=>([(0,.pointer (some ⟨g1,0,none⟩)),(1,qyq x7),(5,.slice a11 x93.length c12),(13,qyq (x10.length:Int)),(14,qyq x94)],[⟨g1,231,[qyq x95,.slice a4 x3.length c5,qyq x96]⟩],[Ro (eI .i64) 3 1 (.slice a11 x93.length c12) x93],[Sl (eI .u8) 1 (.slice a4 x3.length c5) x3])) (fun k (s:((qyo×Int×Int×Int)×Unit))=>zK F x3 x7 x10 k s.1) ((x10,0,x8.2.1,x8.2.2),()) F ?_
 intro k0
 rintro ⟨⟨x93,x94,x95,x96⟩,_⟩
 try dsimp only
 refine qB (m':=yl F x3 x7 x10 (zK F x3 x7 x10 k0) x93 x94 x95 x96) rfl ?_
 refine av [118] ?_ ?_
 intro _
 refine au [74,3,19,62,60,4,1,1,1,1] ?_
 refine ko ent249 rfl rfl rfl (fun x0 e0=>kG F g1 x95 x3 a4 c5 x96 x7 x0 e0) (.cons 0 rfl .nil) .nil (.consF 0 rfl .nil) (fun x1 _=>?_) (fun x0 e0=>?_)
 exact az [27,6,25,10,25,10,27,6,105]
 intro _
 refine au [1,28,0,23,29,0] ?_
 intro x4 e1 g0 h0
 refine qd3 (j:=0) (y':=iadd .i64 x0.1 (imin x94 1)) (qp .i64) rfl rfl rfl tf3 rfl h0 (qP e1).2.1 rfl (fun x5 e2 h1=>?_)
 have h2:x5.length=x93.length:=by rw[← e2,qwE]
 refine qc (d:=5) (v:=.slice a11 x5.length c12) rfl h1 (qc (d:=17) (v:=.slice a11 x5.length c12) rfl h1 ?_)
 refine au [0,78,4,23,1,0] ?_
 exact qr ((x5,iadd .i64 x94 1,x0.2.1,x0.2.2),())
 intro _
 refine au [87] ?_
 exact qb ((x93,x95,x96),())
 rintro ⟨⟨x72,x73,x74⟩,_⟩
 try dsimp only
 refine au [62,64] ?_
 exact qcT (a11,c12) (.inl rfl) (res1 rfl rfl) rfl (.cons 0 rfl .nil) (.cons 0 rfl .nil)
set_option maxHeartbeats 4000000 in
theorem qfZ (F:Nat)(g1:Nat)(x2:Int)(x3:qyo)(a4:qyp)(c5:Nat)(x6:Int)(x7:Int)(x8:Int)(x9:Int)(r:((List (Int×Int)×Int×Int) ⊕ (Int×Int)))(hm:jp F x2 x3 x6 x7 x8 x9=some r) :
    PureL Tryz.prog 251 [.pointer (some ⟨g1,0,none⟩),qyq x7,qyq x8,qyq x9] [⟨g1,231,[qyq x2,.slice a4 x3.length c5,qyq x6]⟩] [] [Sl (eI .u8) 1 (.slice a4 x3.length c5) x3] lostCh (qyp×Nat) (fun (r:(List (Int×Int)×Int×Int)) (g:(qyp×Nat))=>.slice g.1 r.1.length g.2) (fun (r:(List (Int×Int)×Int×Int)) (_:(qyp×Nat))=>[⟨g1,231,[qyq r.2.1,.slice a4 x3.length c5,qyq r.2.2]⟩]) (fun (r:(List (Int×Int)×Int×Int)) (g:(qyp×Nat))=>[Ro eS154 154 2 (.slice g.1 r.1.length g.2) r.1]) (fun (z:(Int×Int))=>[⟨g1,231,[qyq z.1,.slice a4 x3.length c5,qyq z.2]⟩]) r:=by
 refine qfl Tryz.func251 rfl Tryz.ntmps251 rfl hm (fun w=>?_)
 refine au [27,9,61,75,1,1,25,13] ?_
 intro h10
 refine qhR rfl rfl rfl rfl h10 (ko ent249 rfl rfl rfl (fun x11 e11=>kG F g1 x2 x3 a4 c5 x6 (iquo .i64 x9 x8) x11 e11) (.cons 0 rfl .nil) .nil (.consF 0 rfl .nil) (fun x12 _=>?_) (fun x11 e11=>?_))
 exact az [105]
 intro _
 refine qtQ qbn (by decide) rfl UnF.u inferInstance rfl rfl rfl rfl rfl rfl ?_
 intro x13 e13 a14 c15
 refine au [75,60] ?_
 refine qh (fun (((x0,x1,x4),_):((List (Int×Int)×Int×Int)×Unit))=>([(9,.slice a14 x0.length c15)],[⟨g1,231,[qyq x1,.slice a4 x3.length c5,qyq x4]⟩],[Ro eS154 154 2 (.slice a14 x0.length c15) x0],[Sl (eI .u8) 1 (.slice a4 x3.length c5) x3],jU F x0 x1 x4)) ?_ ?_
 refine au [124] ?_
 refine qu (fun (((x5,x10,x14,x15,x16),_):((List (Int×Int)×Int×Int×Int×Int)×Unit))=>([(0,.pointer (some ⟨g1,0,none⟩)),(2,qyq x8),(3,qyq x9),(9,.slice a14 x5.length c15),(10,qyq x10),(21,qyq (x13.length:Int)),(22,qyq x14)],[⟨g1,231,[qyq x15,.slice a4 x3.length c5,qyq x16]⟩],[Ro eS154 154 2 (.slice a14 x5.length c15) x5],[Sl (eI .u8) 1 (.slice a4 x3.length c5) x3])) (fun k (s:((List (Int×Int)×Int×Int×Int×Int)×Unit))=>zl F x3 x8 x9 x13 k s.1) ((x13,x7,0,x11.2.1,x11.2.2),()) F ?_
 intro k0
 rintro ⟨⟨x5,x10,x14,x15,x16⟩,_⟩
 try dsimp only
 refine qB (m':=yC F x3 x8 x9 x13 (zl F x3 x8 x9 x13 k0) x5 x10 x14 x15 x16) rfl ?_
 refine av [118] ?_ ?_
 intro _
 refine au [74,3,19,62,75] ?_
 refine ko ent249 rfl rfl rfl (fun x17 e0=>kG F g1 x15 x3 a4 c5 x16 2097152 x17 e0) (.cons 0 rfl .nil) .nil (.consF 0 rfl .nil) (fun x18 _=>?_) (fun x17 e0=>?_)
 exact az [25,10,27,6,25,10,25,10,27,6,105]
 intro _
 refine au [60] ?_
 refine qh (fun ((x19,_):(Int×Unit))=>([(0,.pointer (some ⟨g1,0,none⟩)),(2,qyq x8),(3,qyq x9),(9,.slice a14 x5.length c15),(10,qyq x19),(11,qyq x14),(21,qyq (x13.length:Int)),(22,qyq x14)],[⟨g1,231,[qyq x17.2.1,.slice a4 x3.length c5,qyq x17.2.2]⟩],[Ro eS154 154 2 (.slice a14 x5.length c15) x5],[Sl (eI .u8) 1 (.slice a4 x3.length c5) x3],kD F (zl F x3 x8 x9 x13 k0) x3 x8 x9 x5 x14 x17 x19)) ?_ ?_
 refine av [98,63] ?_ ?_
 intro _
 refine au [4,1,1,25,11,33,0] ?_
 intro x20 e1 _
 refine au [23,5,0] ?_
 exact qb (iadd .i64 x10 x20,())
 intro _
 refine au [4,1,1,23,23,5,0] ?_
 exact qb (iadd .i64 x10 (iadd .i64 x17.1 2),())
 rintro ⟨x19,_⟩
 try dsimp only
 refine au [62,1,1,1,1] ?_
 refine ko ent249 rfl rfl rfl (fun x21 e2=>kG F g1 x17.2.1 x3 a4 c5 x17.2.2 x9 x21 e2) (.cons 0 rfl .nil) .nil (.consF 0 rfl .nil) (fun x22 _=>?_) (fun x21 e2=>?_)
 exact az [25,10,27,6,25,10,25,10,27,6,105]
 intro _
 refine au [1,23] ?_
 refine qo (cells:=[qyq x19,qyq (iadd .i64 x21.1 x8)]) rfl st154 rfl (by kernel_rfl) rfl ?_
 refine au [29,0] ?_
 intro x23 e3 g0 h0
 refine qd3 (j:=0) (y':=(x19,iadd .i64 x21.1 x8)) qbn rfl rfl rfl tf154 rfl h0 (qP e3).2.1 rfl (fun x24 e4 h1=>?_)
 have h2:x24.length=x5.length:=by rw[← e4,qwE]
 refine qc (d:=9) (v:=.slice a14 x24.length c15) rfl h1 (qc (d:=38) (v:=.slice a14 x24.length c15) rfl h1 ?_)
 refine au [59,4,1,1,1,29,0] ?_
 intro x25 e5 g2 h3
 refine au [12] ?_
 refine qnT (j:=0) (y:=x25) (off:=1) qbn rfl rfl tf3 rfl h3 (qP e5).2.2 rfl (fun _=>rfl) rfl rfl ?_
 refine au [25,7,23,5,0,78,4,23,1,0] ?_
 exact qr ((x24,iadd .i64 x19 (isub .i64 x25.2 1),iadd .i64 x14 1,x21.2.1,x21.2.2),())
 intro _
 refine au [87] ?_
 exact qb ((x5,x15,x16),())
 rintro ⟨⟨x0,x1,x4⟩,_⟩
 try dsimp only
 refine au [62,64] ?_
 exact qcT (a14,c15) (.inl rfl) (res1 rfl rfl) rfl (.cons 0 rfl .nil) (.cons 0 rfl .nil)
set_option maxHeartbeats 4000000 in
theorem qfX (F:Nat)(g1:Nat)(x2:Int)(x3:qyo)(a4:qyp)(c5:Nat)(x6:Int)(x7:Int)(x8:qyo)(a9:qyp)(c10:Nat)(x11:Int)(x12:Int)(x13:Int)(r:((qyo×Int×Int) ⊕ (Int×Int)))(hm:yM F x2 x3 x6 x7 x8 x11 x12 x13=some r) :
    PureL Tryz.prog 231 [.pointer (some ⟨g1,0,none⟩),qyq x7,.slice a9 x8.length c10,.agg #[qyq x11,qyq x12,qyq x13]] [⟨g1,231,[qyq x2,.slice a4 x3.length c5,qyq x6]⟩] [] [Sl (eI .u8) 1 (.slice a4 x3.length c5) x3,Sl (eI .i64) 1 (.slice a9 x8.length c10) x8] lostCh (qyp×Nat) (fun (r:(qyo×Int×Int)) (g:(qyp×Nat))=>.slice g.1 r.1.length g.2) (fun (r:(qyo×Int×Int)) (_:(qyp×Nat))=>[⟨g1,231,[qyq r.2.1,.slice a4 x3.length c5,qyq r.2.2]⟩]) (fun (r:(qyo×Int×Int)) (g:(qyp×Nat))=>[Ro (eI .i64) 3 1 (.slice g.1 r.1.length g.2) r.1]) (fun (z:(Int×Int))=>[⟨g1,231,[qyq z.1,.slice a4 x3.length c5,qyq z.2]⟩]) r:=by
 refine qfl Tryz.func231 rfl Tryz.ntmps231 rfl hm (fun w=>?_)
 refine au [27,9,82] ?_
 intro g14
 refine au [75] ?_
 refine ko ent249 rfl rfl rfl (fun x15 e15=>kG F g1 x2 x3 a4 c5 x6 300 x15 e15) (.cons 1 rfl .nil) .nil (.consF 0 rfl .nil) (fun x16 _=>?_) (fun x15 e15=>?_)
 exact az [105]
 intro _
 refine av [93,24,2,63] ?_ ?_
 intro _
 refine au [61,114] ?_
 exact qcT (none,0) (.inl rfl) (res1 rfl rfl) rfl (.cons 0 rfl .nil) (.cons 0 rfl .nil)
 intro _
 refine au [108,60] ?_
 refine qh (fun (((x31,x32,x33),(a29,c30)):((qyo×Int×Int)×(qyp×Nat)))=>([(0,.pointer (some ⟨g1,0,none⟩)),(1,qyq x7),(7,.pointer (some ⟨g14,0,none⟩)),(9,qyq x15.1),(10,.slice a29 x31.length c30)],[⟨g1,231,[qyq x32,.slice a4 x3.length c5,qyq x33]⟩,⟨g14,27,[qyq x11,qyq x12,qyq x13]⟩],[Ro (eI .i64) 3 1 (.slice a29 x31.length c30) x31],[Sl (eI .u8) 1 (.slice a4 x3.length c5) x3],kO F x3 x7 x12 x13 x15 x31 x32 x33)) ?_ ?_
 refine av [61,84,103] ?_ ?_
 intro _
 refine au [61,75,1,126] ?_
 refine ko ent250 rfl rfl rfl (fun x72 e72=>qe9 F g1 x15.2.1 x3 a4 c5 x15.2.2 (x8.length:Int) x72 e72) (.cons 0 rfl .nil) .nil (.consF 0 rfl .nil) (fun x73 _=>?_) (fun x72 e72=>?_)
 exact az [25,10,105]
 rintro ⟨a74,c75⟩
 refine au [30,0] ?_
 rintro x76 e76 ⟨a77,c78⟩
 refine au [80,5,60,4,1,24,2,1] ?_
 refine qk 5 ((x76.2:Int) == 0) [(0,.pointer (some ⟨g1,0,none⟩)),(1,qyq x7),(7,.pointer (some ⟨g14,0,none⟩)),(9,qyq x15.1),(10,.slice a77 x76.1.length c78),(41,.bool (((x76.2:Int) == 0) && (decide ((x76.1.length:Int)≤x15.1))))] (fun h79=>?_) (fun h79=>?_) ?_
 refine qa (os:=_) rfl (qf (k:=36) rfl h79 ?_)
 refine au [1,89,26,15,16] ?_
 refine qc (d:=41) (v:=.bool (((x76.2:Int) == 0) && (decide ((x76.1.length:Int)≤x15.1)))) rfl (by rw[h79];simp only[qvZ]) ?_
 exact az [68]
 refine qa (os:=_) rfl (qe (k:=36) rfl h79 ?_)
 refine au [72,17] ?_
 refine qc (d:=41) (v:=.bool (((x76.2:Int) == 0) && (decide ((x76.1.length:Int)≤x15.1)))) rfl (by rw[h79];simp only[qvT]) ?_
 exact az [68]
 refine qa (os:=_) rfl (ko ent232 rfl rfl rfl (fun x80 e80=>ja F (((x76.2:Int) == 0) && (decide ((x76.1.length:Int)≤x15.1))) x80 e80) .nil .nil .nil (fun x81 _=>?_) (fun x80 e80=>?_))
 exact az [105]
 intro _
 refine au [0] ?_
 exact qb ((x76.1,x72.2.1,x72.2.2),(a77,c78))
 intro _
 refine au [13,25,5] ?_
 exact qb ((([]:qyo),x15.2.1,x15.2.2),(none,0))
 rintro ⟨⟨x31,x32,x33⟩,⟨a29,c30⟩⟩
 try dsimp only
 refine av [62,126,25,7,93,24,2,63] ?_ ?_
 intro _
 refine au [62,77] ?_
 exact qcT (a29,c30) (.inl rfl) (res1 rfl rfl) rfl (.cons 0 rfl .nil) (.cons 0 rfl .nil)
 intro _
 refine au [108,60] ?_
 refine qh (fun (((x42,x43,x44),(a40,c41)):((List (Int×Int)×Int×Int)×(qyp×Nat)))=>([(0,.pointer (some ⟨g1,0,none⟩)),(1,qyq x7),(7,.pointer (some ⟨g14,0,none⟩)),(10,.slice a29 x31.length c30),(12,qyq (isub .i64 x15.1 (x31.length:Int))),(13,.slice a40 x42.length c41)],[⟨g1,231,[qyq x43,.slice a4 x3.length c5,qyq x44]⟩,⟨g14,27,[qyq x11,qyq x12,qyq x13]⟩],[Ro (eI .i64) 3 1 (.slice a29 x31.length c30) x31,Ro eS154 154 2 (.slice a40 x42.length c41) x42],[Sl (eI .u8) 1 (.slice a4 x3.length c5) x3],kP F x3 x7 x13 x15 x31 x42 x43 x44)) ?_ ?_
 refine av [61,84,103] ?_ ?_
 intro _
 refine au [4,1,1,84,1] ?_
 refine ko ent251 rfl rfl rfl (fun x66 e66=>qfZ F g1 x32 x3 a4 c5 x33 x7 x12 (isub .i64 x15.1 (x31.length:Int)) x66 e66) (.cons 0 rfl .nil) .nil (.consF 0 rfl .nil) (fun x67 _=>?_) (fun x66 e66=>?_)
 exact az [105]
 rintro ⟨a68,c69⟩
 refine au [5,0] ?_
 exact qb ((x66.1,x66.2.1,x66.2.2),(a68,c69))
 intro _
 refine au [13,33,14] ?_
 exact qb ((([]:List (Int×Int)),x32,x33),(none,0))
 rintro ⟨⟨x42,x43,x44⟩,⟨a40,c41⟩⟩
 try dsimp only
 refine au [62,26,3,28,2] ?_
 rintro x45 e45 ⟨a46,c47⟩
 refine au [80,5,75,24,2,1] ?_
 refine qk 5 ((x45.2:Int) == 0) [(0,.pointer (some ⟨g1,0,none⟩)),(1,qyq x7),(7,.pointer (some ⟨g14,0,none⟩)),(10,.slice a29 x31.length c30),(12,qyq (isub .i64 x15.1 (x31.length:Int))),(14,.slice a46 x45.1.length c47),(71,.bool (((x45.2:Int) == 0) && (decide ((x45.1.length:Int)≤(isub .i64 x15.1 (x31.length:Int))))))] (fun h48=>?_) (fun h48=>?_) ?_
 refine qa (os:=_) rfl (qf (k:=66) rfl h48 ?_)
 refine au [1,89,26,15,16] ?_
 refine qc (d:=71) (v:=.bool (((x45.2:Int) == 0) && (decide ((x45.1.length:Int)≤(isub .i64 x15.1 (x31.length:Int)))))) rfl (by rw[h48];simp only[qvZ]) ?_
 exact az [68]
 refine qa (os:=_) rfl (qe (k:=66) rfl h48 ?_)
 refine au [72,17] ?_
 refine qc (d:=71) (v:=.bool (((x45.2:Int) == 0) && (decide ((x45.1.length:Int)≤(isub .i64 x15.1 (x31.length:Int)))))) rfl (by rw[h48];simp only[qvT]) ?_
 exact az [68]
 refine qa (os:=_) rfl (ko ent232 rfl rfl rfl (fun x49 e49=>ja F (((x45.2:Int) == 0) && (decide ((x45.1.length:Int)≤(isub .i64 x15.1 (x31.length:Int))))) x49 e49) .nil .nil .nil (fun x50 _=>?_) (fun x49 e49=>?_))
 exact az [105]
 intro _
 refine au [59,3] ?_
 refine qy mixed [] [⟨g1,231,[qyq x43,.slice a4 x3.length c5,qyq x44]⟩,⟨g14,27,[qyq x11,qyq x12,qyq x13]⟩] [Sl (eI .u8) 1 (.slice a4 x3.length c5) x3] (.cons 0 rfl (.cons 0 rfl .nil)) (qt 0 rfl qw) 23 rfl ?_
 refine au [88,24,0,2] ?_
 refine q8 3 (.agg #[qyq x43,.slice a4 x3.length c5]) rfl rfl rfl (qQ (i:=0) rfl tf25 rfl rfl (by simp) rfl) ?_
 refine au [115,24,0,6,25,2,7,7,8,24,0,9,27,13,10,7,11,7,12,26,11,13,7,14,20,15,35,2] ?_
 rintro x54 e54 ⟨a55,c56⟩
 refine au [0,31,4,7,16,7,17,7,18,7,19,7,20,7,21,7,22,24,8] ?_
 refine qx ?_ (by intro c h;cases h)
 refine au [2,98] ?_
 refine ko ent232 rfl rfl rfl (fun x57 e57=>ja F ((x54.2.2:Int) == 0) x57 e57) .nil .nil .nil (fun x58 _=>?_) (fun x57 e57=>?_)
 exact az [105]
 intro _
 refine au [59,62,1,96,97,62,1,1] ?_
 refine qf8 3 rfl (qf8 1 rfl ?_)
 refine au [31,1] ?_
 refine qn (vs:=[.slice a29 x31.length c30,.slice a46 x45.1.length c47,.slice a55 x54.1.length c56]) (ys:=([(x31,(a29,c30)),(x45.1,(a46,c47)),(x54.1,(a55,c56))]:List (qyo×(qyp×Nat)))) zX (by decide) rfl Tryz.underlying28 tf22 rfl rfl rfl rfl rfl (by decide) (fun a59 c60=>qhl (inn:=iN22) ([x31,x45.1,x54.1]:List (qyo)) ([(a29,c30),(a46,c47),(a55,c56)]:List (qyp×Nat)) 0 rfl rfl (qj 2 rfl (qj 1 rfl (qj 0 rfl zA))) ?_)
 refine au [31,2] ?_
 rintro x61 e61 ⟨a62,c63⟩
 refine au [75,31,3] ?_
 intro x64 e64 _
 refine au [25,13] ?_
 intro h65
 replace h65:=of_decide_eq_true h65
 refine qc (d:=10) (v:=.slice a62 x64.length c63) rfl (by rw[h65] <;> rfl) (qc (d:=104) (v:=.slice a62 x64.length c63) rfl (by rw[h65] <;> rfl) (qc (d:=105) (v:=.slice a62 x64.length c63) rfl (by rw[h65] <;> rfl) ?_))
 refine au [59,62,64] ?_
 exact qcT (a62,c63) (.inl rfl) (res1 rfl rfl) rfl (.cons 0 rfl .nil) (.cons 0 rfl .nil)
set_option maxHeartbeats 4000000 in
theorem qfY {F:Nat}{g1:Nat}{x2:Int}{x3:qyo}{a4:qyp}{c5:Nat}{x6:Int}{x7:Int}{x8:qyo}{a9:qyp}{c10:Nat}{x11:Int}{x12:Int}{x13:Int}{r:(qyo×Bool×Int×Int)}(hm:yN F x2 x3 x6 x7 x8 x11 x12 x13=some r) :
    PureM Tryz.prog 170 [.pointer (some ⟨g1,0,none⟩),qyq x7,.slice a9 x8.length c10,.agg #[qyq x11,qyq x12,qyq x13]] [⟨g1,231,[qyq x2,.slice a4 x3.length c5,qyq x6]⟩] [] [Sl (eI .u8) 1 (.slice a4 x3.length c5) x3,Sl (eI .i64) 1 (.slice a9 x8.length c10) x8] (qyp×Nat) (fun g=>.tuple #[.slice g.1 r.1.length g.2,.bool r.2.1]) (fun _=>[⟨g1,231,[qyq r.2.2.1,.slice a4 x3.length c5,qyq r.2.2.2]⟩]) (fun g=>[Ro (eI .i64) 3 1 (.slice g.1 r.1.length g.2) r.1]):=by
 refine qrw Tryz.func170 rfl Tryz.ntmps170 rfl hm (fun w=>?_)
 refine au [27,9,82] ?_
 intro g14
 refine au [24,9] ?_
 intro g15
 refine au [24,9] ?_
 intro g16
 refine au [59,61,29,8] ?_
 refine qqb rfl rfl ?_
 refine au [59,62,96,28,12,75,1,1,26,2] ?_
 refine ko ent231 rfl rfl rfl (fun x17 e17=>qfX F g1 x2 x3 a4 c5 x6 x7 x8 a9 c10 x11 x12 x13 x17 e17) (.cons 3 rfl .nil) .nil (.consF 0 rfl (.consF 1 rfl .nil)) (fun x18 _=>?_) (fun x17 e17=>?_)
 refine au [25,10] ?_
 refine qd5 ent230 rfl (.cons 2 rfl (.cons 1 rfl .nil)) (qgC _ _ _ _) ?_
 refine au [25,5] ?_
 exact yI (none,0) (resL (rs:=[.cell 8 22,.cell 9 4]) rfl (.cell (i:=0) rfl tf22 rfl rfl (fun _=>rfl) rfl (.cell (i:=1) rfl tf4 rfl rfl (fun _=>rfl) rfl ResOk.nil)) rfl) (hB:=fun h=>by subst h;exact (.cons 2 rfl .nil)) (hR:=fun h=>by subst h;exact (.cons 0 rfl .nil))
 rintro ⟨a19,c20⟩
 refine au [27,0,59,61,27,15,26,14] ?_
 intro x21 e21 _
 refine au [24,2] ?_
 refine ko ent232 rfl rfl rfl (fun x22 e22=>ja F ((x21:Int) == 0) x22 e22) .nil .nil .nil (fun x23 _=>?_) (fun x22 e22=>?_)
 refine au [25,10] ?_
 refine qd5 ent230 rfl (.cons 2 rfl (.cons 1 rfl .nil)) (qgC _ _ _ _) ?_
 refine au [25,5] ?_
 exact yI (none,0) (resL (rs:=[.cell 8 22,.cell 9 4]) rfl (.cell (i:=0) rfl tf22 rfl rfl (fun _=>rfl) rfl (.cell (i:=1) rfl tf4 rfl rfl (fun _=>rfl) rfl ResOk.nil)) rfl) (hB:=fun h=>by subst h;exact (.cons 2 rfl .nil)) (hR:=fun h=>by subst h;exact (.cons 0 rfl .nil))
 intro _
 refine au [59,61] ?_
 refine qo (cells:=[qyq 0,.slice none 0 0,.bool false]) rfl st129 rfl (by kernel_rfl) rfl ?_
 refine au [24,1] ?_
 intro g24
 refine au [75,1,28,12,1,28,3,26,8,34,14] ?_
 rintro x25 e25 ⟨a26,c27⟩
 refine au [59] ?_
 refine qh (fun ((_,_):(Unit×Unit))=>([(0,.pointer (some ⟨g1,0,none⟩)),(8,.pointer (some ⟨g15,0,none⟩)),(9,.pointer (some ⟨g16,0,none⟩)),(10,qyq x6),(11,.pointer (some ⟨g24,0,none⟩))],[⟨g24,129,[qyq x25.1,.slice a26 x25.2.1.length c27,.bool x25.2.2]⟩,⟨g1,231,[qyq x17.2.1,.slice a4 x3.length c5,qyq x17.2.2]⟩,⟨g16,4,[.bool false]⟩,⟨g15,22,[.slice a19 x17.1.length c20]⟩],[Ro (eI .u8) 5 1 (.slice a26 x25.2.1.length c27) x25.2.1,Ro (eI .i64) 3 1 (.slice a19 x17.1.length c20) x17.1],[Sl (eI .u8) 1 (.slice a4 x3.length c5) x3],yX F x3 x6 x17 x25)) ?_ ?_
 refine av [27,5] ?_ ?_
 intro h97
 refine qhi mixed [8,9] [] [⟨g24,129,[qyq x25.1,.slice a26 x25.2.1.length c27,.bool x25.2.2]⟩,⟨g1,231,[qyq x17.2.1,.slice a4 x3.length c5,qyq x17.2.2]⟩,⟨g16,4,[.bool false]⟩,⟨g15,22,[.slice a19 x17.1.length c20]⟩,⟨g14,27,[qyq x11,qyq x12,qyq x13]⟩] [Sl (eI .u8) 1 (.slice a4 x3.length c5) x3,Sl (eI .i64) 1 (.slice a9 x8.length c10) x8] (.cons 0 rfl (.cons 0 rfl (.cons 0 rfl (.cons 0 rfl (.cons 0 rfl .nil))))) (qt 0 rfl (qt 1 rfl qw)) 20 rfl ?_
 refine au [31,6,31,7,31,8] ?_
 refine qcQ 3 (.bool x25.2.2) rfl rfl rfl (qQ (i:=0) rfl tf4 rfl rfl (fun _=>rfl) rfl) rfl ?_
 refine au [31,9,35,3] ?_
 refine qi (d:=40) (v:=.bool true) rfl (by rw[h97] <;> rfl) ?_
 refine au [35,4,35,5,35,6] ?_
 refine zF 9 _ rfl rfl rfl (vF rfl inferInstance) rfl (qcQ 10 (qyq x25.1) rfl rfl rfl (qQ (i:=0) rfl tf3 rfl rfl (fun _=>rfl) rfl) rfl ?_)
 refine au [35,7,35,8] ?_
 refine zF 13 _ rfl rfl rfl (vF rfl inferInstance) rfl (qcQ 14 (qyq x17.2.2) rfl rfl rfl (qQ (i:=1) rfl tf3 rfl rfl (fun _=>rfl) rfl) rfl (zF 15 _ rfl rfl rfl (v8 rfl) rfl (zF 16 _ rfl rfl rfl (v8 rfl) rfl (zF 17 _ rfl rfl rfl (v8 rfl) rfl ?_))))
 refine au [35,9,20,19] ?_
 refine ko ent232 rfl rfl rfl (fun x98 e98=>ja F ((x25.1:Int) == (isub .i64 x17.2.2 x6)) x98 e98) .nil .nil .nil (fun x99 _=>?_) (fun x98 e98=>?_)
 refine au [25,10] ?_
 refine qls (l':=[(8,.pointer (some ⟨g15,0,none⟩)),(9,.pointer (some ⟨g16,0,none⟩))]) (qft rfl rfl (qft rfl rfl qnq)) ?_
 refine au [25,10] ?_
 refine qd5 ent230 rfl (.cons 3 rfl (.cons 2 rfl .nil)) (qgC _ _ _ _) ?_
 refine au [25,5] ?_
 exact yI (none,0) (resL (rs:=[.cell 8 22,.cell 9 4]) rfl (.cell (i:=0) rfl tf22 rfl rfl (fun _=>rfl) rfl (.cell (i:=1) rfl tf4 rfl rfl (fun _=>rfl) rfl ResOk.nil)) rfl) (hB:=fun h=>by subst h;exact (.cons 3 rfl .nil)) (hR:=fun h=>by subst h;exact (.cons 0 rfl .nil))
 intro _
 refine au [0,35,10,24,8] ?_
 refine qnX ?_ (by intro c h;cases h)
 exact az [26,0]
 intro h97
 refine qhi mixed [8,9] [] [⟨g24,129,[qyq x25.1,.slice a26 x25.2.1.length c27,.bool x25.2.2]⟩,⟨g1,231,[qyq x17.2.1,.slice a4 x3.length c5,qyq x17.2.2]⟩,⟨g16,4,[.bool false]⟩,⟨g15,22,[.slice a19 x17.1.length c20]⟩,⟨g14,27,[qyq x11,qyq x12,qyq x13]⟩] [Sl (eI .u8) 1 (.slice a4 x3.length c5) x3,Sl (eI .i64) 1 (.slice a9 x8.length c10) x8] (.cons 0 rfl (.cons 0 rfl (.cons 0 rfl (.cons 0 rfl (.cons 0 rfl .nil))))) (qt 0 rfl (qt 1 rfl qw)) 20 rfl ?_
 refine au [31,6,31,7,31,8] ?_
 refine qcQ 3 (.bool x25.2.2) rfl rfl rfl (qQ (i:=0) rfl tf4 rfl rfl (fun _=>rfl) rfl) rfl ?_
 refine au [31,9,35,3] ?_
 refine qi (d:=40) (v:=.bool false) rfl (by rw[h97] <;> rfl) (vl 6 rfl rfl rfl rfl (vl 7 rfl rfl rfl rfl (vl 8 rfl rfl rfl rfl (vl 9 rfl rfl rfl rfl (vl 10 rfl rfl rfl rfl (vl 11 rfl rfl rfl rfl (vl 12 rfl rfl rfl rfl (vl 13 rfl rfl rfl rfl (vl 14 rfl rfl rfl rfl (vl 15 rfl rfl rfl rfl (vl 16 rfl rfl rfl rfl (vl 17 rfl rfl rfl rfl ?_))))))))))))
 refine au [35,9,20,19] ?_
 refine ko ent232 rfl rfl rfl (fun x0 e0=>ja F false x0 e0) .nil .nil .nil (fun x1 _=>?_) (fun x0 e0=>?_)
 refine au [25,10] ?_
 refine qls (l':=[(8,.pointer (some ⟨g15,0,none⟩)),(9,.pointer (some ⟨g16,0,none⟩))]) (qft rfl rfl (qft rfl rfl qnq)) ?_
 refine au [25,10] ?_
 refine qd5 ent230 rfl (.cons 3 rfl (.cons 2 rfl .nil)) (qgC _ _ _ _) ?_
 refine au [25,5] ?_
 exact yI (none,0) (resL (rs:=[.cell 8 22,.cell 9 4]) rfl (.cell (i:=0) rfl tf22 rfl rfl (fun _=>rfl) rfl (.cell (i:=1) rfl tf4 rfl rfl (fun _=>rfl) rfl ResOk.nil)) rfl) (hB:=fun h=>by subst h;exact (.cons 3 rfl .nil)) (hR:=fun h=>by subst h;exact (.cons 0 rfl .nil))
 intro _
 refine au [0,35,10,24,8] ?_
 refine qnX ?_ (by intro c h;cases h)
 exact az [26,0]
 rintro ⟨_,_⟩
 try dsimp only
 refine qh (fun ((_,_):(Unit×Unit))=>([(8,.pointer (some ⟨g15,0,none⟩)),(9,.pointer (some ⟨g16,0,none⟩))],[⟨g1,231,[qyq x17.2.1,.slice a4 x3.length c5,qyq x17.2.2]⟩,⟨g16,4,[.bool false]⟩,⟨g15,22,[.slice a19 x17.1.length c20]⟩],[Ro (eI .i64) 3 1 (.slice a19 x17.1.length c20) x17.1],[Sl (eI .u8) 1 (.slice a4 x3.length c5) x3],qcv F x17)) ?_ ?_
 refine au [62,96,73,1,109] ?_
 refine qu (fun ((x75,_):(Int×Unit))=>([(0,.pointer (some ⟨g1,0,none⟩)),(8,.pointer (some ⟨g15,0,none⟩)),(9,.pointer (some ⟨g16,0,none⟩)),(10,qyq x6),(11,.pointer (some ⟨g24,0,none⟩)),(59,qyq x25.1),(60,qyq x75)],[⟨g24,129,[qyq x25.1,.slice a26 x25.2.1.length c27,.bool x25.2.2]⟩,⟨g1,231,[qyq x17.2.1,.slice a4 x3.length c5,qyq x17.2.2]⟩,⟨g16,4,[.bool false]⟩,⟨g15,22,[.slice a19 x17.1.length c20]⟩],[Ro (eI .u8) 5 1 (.slice a26 x25.2.1.length c27) x25.2.1,Ro (eI .i64) 3 1 (.slice a19 x17.1.length c20) x17.1],[Sl (eI .u8) 1 (.slice a4 x3.length c5) x3])) (fun k (s:(Int×Unit))=>zr F x3 x6 x17 x25 k s.1) (0,()) F ?_
 intro k86
 rintro ⟨x75,_⟩
 try dsimp only
 refine qB (m':=yW F x3 x6 x17 x25 (zr F x3 x6 x17 x25 k86) x75) rfl ?_
 refine av [118] ?_ ?_
 intro _
 refine au [74,3,19,62,60] ?_
 refine qhi mixed [8,9] [] [⟨g24,129,[qyq x25.1,.slice a26 x25.2.1.length c27,.bool x25.2.2]⟩,⟨g1,231,[qyq x17.2.1,.slice a4 x3.length c5,qyq x17.2.2]⟩,⟨g16,4,[.bool false]⟩,⟨g15,22,[.slice a19 x17.1.length c20]⟩] [Sl (eI .u8) 1 (.slice a4 x3.length c5) x3] (.cons 0 rfl (.cons 0 rfl (.cons 0 rfl (.cons 0 rfl .nil)))) (qt 0 rfl qw) 16 rfl ?_
 refine au [31,6,31,7,31,8] ?_
 refine qcQ 3 (.agg #[qyq x25.1,.slice a26 x25.2.1.length c27]) rfl rfl rfl (qQ (i:=0) rfl tf25 rfl rfl (by simp) rfl) rfl ?_
 refine au [31,9,35,4,35,5,35,6] ?_
 refine qcQ 9 (.agg #[qyq x17.2.1,.slice a4 x3.length c5]) rfl rfl rfl (qQ (i:=1) rfl tf25 rfl rfl (by simp) rfl) rfl (zF 10 _ rfl rfl rfl (v8 rfl) rfl ?_)
 refine au [35,7,35,8,20,5,27,10] ?_
 intro x92 e92 _
 refine au [0,31,10,20,13,27,10] ?_
 intro x93 e93 _
 refine au [0,31,10] ?_
 refine zF 14 _ rfl rfl rfl (v8 rfl) rfl ?_
 refine au [20,15] ?_
 refine ko ent232 rfl rfl rfl (fun x94 e94=>ja F ((x92:Int) == x93) x94 e94) .nil .nil .nil (fun x95 _=>?_) (fun x94 e94=>?_)
 refine au [25,10] ?_
 refine qls (l':=[(8,.pointer (some ⟨g15,0,none⟩)),(9,.pointer (some ⟨g16,0,none⟩))]) (qft rfl rfl (qft rfl rfl qnq)) ?_
 refine au [27,6,25,10,25,10,27,6,25,10] ?_
 refine qd5 ent230 rfl (.cons 3 rfl (.cons 2 rfl .nil)) (qgC _ _ _ _) ?_
 refine au [25,5] ?_
 exact yI (none,0) (resL (rs:=[.cell 8 22,.cell 9 4]) rfl (.cell (i:=0) rfl tf22 rfl rfl (fun _=>rfl) rfl (.cell (i:=1) rfl tf4 rfl rfl (fun _=>rfl) rfl ResOk.nil)) rfl) (hB:=fun h=>by subst h;exact (.cons 3 rfl .nil)) (hR:=fun h=>by subst h;exact (.cons 0 rfl .nil))
 intro _
 refine au [0,31,10,24,8] ?_
 refine qnX ?_ (by intro c h;cases h)
 refine au [78,4,23,1,0] ?_
 exact qr (iadd .i64 x75 1,())
 intro _
 exact az [87,26,0]
 rintro ⟨_,_⟩
 try dsimp only
 refine au [61,27,15,27,0,25,8,59,9] ?_
 exact qnY (.inl rfl) ent230 rfl (qs5 _ _) (yI (a19,c20) (resL (rs:=[.cell 8 22,.cell 9 4]) rfl (.cell (i:=2) rfl tf22 rfl rfl (fun _=>rfl) rfl (.cell (i:=1) rfl tf4 rfl rfl (fun _=>rfl) rfl ResOk.nil)) rfl) (hB:=fun h=>by subst h;exact (.cons 0 rfl .nil)) (hR:=fun h=>by subst h;exact (.cons 0 rfl .nil)))
theorem qhr {F:Nat}{x1:Int}{x2:qyo}{a3:qyp}{c4:Nat}{x5:Int}{x6:Int}{x7:qyo}{a8:qyp}{c9:Nat}{x10:Int}{x11:Int}{x12:Int}{r:(qyo×Int×Int)}(hm:vz F x1 x2 x5 x6 x7 x10 x11 x12=some r) :
    Pure Tryz.prog 83 [.agg #[qyq x1,.slice a3 x2.length c4],qyq x5,qyq x6,.slice a8 x7.length c9,.agg #[qyq x10,qyq x11,qyq x12]] [Sl (eI .u8) 1 (.slice a3 x2.length c4) x2,Sl (eI .i64) 1 (.slice a8 x7.length c9) x7] (qyp×Nat) (fun g=>.tuple #[.slice g.1 r.1.length g.2,qyq r.2.1,qyq r.2.2]) (fun g=>[Ro (eI .i64) 3 1 (.slice g.1 r.1.length g.2) r.1]) (fun _=>[]):=by
 refine ql Tryz.func83 rfl Tryz.ntmps83 rfl hm (fun w=>?_)
 refine au [28,14,82] ?_
 intro g13
 refine au [24,1] ?_
 intro g14
 refine au [5,5,79,25,4,1] ?_
 refine qo (cells:=[qyq x1,.slice a3 x2.length c4,qyq x5]) rfl st231 rfl (by kernel_rfl) rfl ?_
 refine au [24,1] ?_
 intro g15
 refine au [75,1,1,25,4] ?_
 refine qW qfY ?_
 rintro x16 e16 ⟨a17,c18⟩
 refine av [80,5,93,25,1,63] ?_ ?_
 intro _
 refine au [61,5,5,114] ?_
 exact qs (none,0)
 intro _
 refine au [74,3] ?_
 refine qy mixed [] [⟨g15,231,[qyq x16.2.2.1,.slice a3 x2.length c4,qyq x16.2.2.2]⟩,⟨g14,27,[qyq x10,qyq x11,qyq x12]⟩,⟨g13,25,[qyq x1,.slice a3 x2.length c4]⟩] [Sl (eI .u8) 1 (.slice a3 x2.length c4) x2,Sl (eI .i64) 1 (.slice a8 x7.length c9) x7] (.cons 0 rfl (.cons 0 rfl (.cons 0 rfl .nil))) (qt 0 rfl (qt 1 rfl qw)) 8 rfl ?_
 refine au [88,7,2,24,0,3,25,2,4,7,5,7,6,7,7,24,8] ?_
 refine qx ?_ (by intro c h;cases h)
 refine au [2,9] ?_
 exact qs (a17,c18)
set_option maxHeartbeats 4000000 in
theorem qhs (F:Nat)(x1:Int)(x2:qyo)(a3:qyp)(c4:Nat)(x5:Int)(x6:Int)(x7:qyo)(a8:qyp)(c9:Nat)(x10:Int)(x11:Int)(x12:Int)(r:(qyo×Int×Int))(hm:qbP F x1 x2 x5 x6 x7 x10 x11 x12=some r) :
    Pure Tryz.prog 16 [.agg #[qyq x1,.slice a3 x2.length c4],qyq x5,qyq x6,.slice a8 x7.length c9,.agg #[qyq x10,qyq x11,qyq x12]] [Sl (eI .u8) 1 (.slice a3 x2.length c4) x2,Sl (eI .i64) 1 (.slice a8 x7.length c9) x7] (qyp×Nat) (fun g=>.tuple #[.slice g.1 r.1.length g.2,qyq r.2.1,qyq r.2.2]) (fun g=>[Ro (eI .i64) 3 1 (.slice g.1 r.1.length g.2) r.1]) (fun _=>[]):=by
 refine ql Tryz.func16 rfl Tryz.ntmps16 rfl hm (fun w=>?_)
 refine au [28,14,82] ?_
 intro g13
 refine au [24,1] ?_
 intro g14
 refine au [5,5,91,28,15] ?_
 intro x15 e15 _
 refine au [60] ?_
 refine qh (fun ((x18,_):(Int×Unit))=>([(1,qyq x5),(2,qyq x6),(3,.slice a8 x7.length c9),(5,.pointer (some ⟨g13,0,none⟩)),(9,.pointer (some ⟨g14,0,none⟩)),(13,qyq x18)],[⟨g14,27,[qyq x10,qyq x11,qyq x12]⟩,⟨g13,25,[qyq x1,.slice a3 x2.length c4]⟩],[],[Sl (eI .i64) 1 (.slice a8 x7.length c9) x7,Sl (eI .u8) 1 (.slice a3 x2.length c4) x2],qaO F x1 x2 x5 x6 x7 x10 x11 x12 x18)) ?_ ?_
 refine av [98,63] ?_ ?_
 intro _
 refine au [4,25,4,1,31,11] ?_
 intro x29 e29 _
 refine au [5,0] ?_
 exact qb (x29,())
 intro _
 refine au [13] ?_
 exact qb (x15,())
 rintro ⟨x18,_⟩
 try dsimp only
 refine qh (fun ((x21,_):(Int×Unit))=>([(1,qyq x5),(2,qyq x6),(3,.slice a8 x7.length c9),(5,.pointer (some ⟨g13,0,none⟩)),(9,.pointer (some ⟨g14,0,none⟩)),(13,qyq x21)],[⟨g14,27,[qyq x10,qyq x11,qyq x12]⟩,⟨g13,25,[qyq x1,.slice a3 x2.length c4]⟩],[],[Sl (eI .i64) 1 (.slice a8 x7.length c9) x7,Sl (eI .u8) 1 (.slice a3 x2.length c4) x2],qaP F x1 x2 x5 x6 x7 x10 x11 x12 x21)) ?_ ?_
 refine av [98,63] ?_ ?_
 intro _
 refine au [4,1,1,24,4,34,13] ?_
 intro x27 e27 _
 refine au [5,0] ?_
 exact qb (x27,())
 intro _
 refine au [13] ?_
 exact qb (x18,())
 rintro ⟨x21,_⟩
 try dsimp only
 refine av [83,81] ?_ ?_
 intro _
 refine au [62,5,5,114] ?_
 exact qs (none,0)
 intro _
 refine au [108,25,4,1,1,1,24,4,31,12] ?_
 rintro x23 e23 ⟨a24,c25⟩
 refine au [65,10,5,5,64] ?_
 exact qs (a24,c25)
set_option maxHeartbeats 4000000 in
theorem qjm {F:Nat}{x1:List (qyo)}{a2:qyp}{c3:Nat}{s3:List (qyp×Nat)}{r:Int}(hm:qdd F x1=some r) :
    Pure Tryz.prog 171 [.agg #[.slice a2 x1.length c3]] [SlN eN22 iN22 1 (.slice a2 x1.length c3) x1 s3] Unit (fun _=>qyq r) (fun _=>[]) (fun _=>[]):=by
 refine ql Tryz.func171 rfl Tryz.ntmps171 rfl hm (fun w=>?_)
 refine au [25,9,82] ?_
 intro g4
 refine av [79,73,24,6,93,103] ?_ ?_
 intro _
 exact az [61,99]
 intro _
 refine au [108,60] ?_
 refine qh (fun ((x0,_):(Int×Unit))=>([(4,qyq x0)],[],[],[],qb7 F x0)) ?_ ?_
 refine au [61,73,110] ?_
 refine qu (fun (((x2,x3),_):((Int×Int)×Unit))=>([(3,qyq (x1.length:Int)),(4,qyq x2),(16,.slice a2 x1.length c3),(17,qyq (x1.length:Int)),(18,qyq x3)],[],[],[SlN eN22 iN22 1 (.slice a2 x1.length c3) x1 s3])) (fun k (s:((Int×Int)×Unit))=>za F x1 k s.1) ((0,0),()) F ?_
 intro k0
 rintro ⟨⟨x2,x3⟩,_⟩
 try dsimp only
 refine qB (m':=qai F x1 (za F x1 k0) x2 x3) rfl ?_
 refine av [118] ?_ ?_
 intro _
 refine au [74] ?_
 refine qh (fun ((x4,_):(Int×Unit))=>([(3,qyq (x1.length:Int)),(4,qyq x4),(16,.slice a2 x1.length c3),(17,qyq (x1.length:Int)),(18,qyq x3)],[],[],[SlN eN22 iN22 1 (.slice a2 x1.length c3) x1 s3],qb8 F (za F x1 k0) x3 x4)) ?_ ?_
 refine au [19,61,28,13] ?_
 intro x5 e0 g0 b0 o0
 refine au [25,14,79,60] ?_
 refine qh (fun ((_,_):(Unit×Unit))=>([(3,qyq (x1.length:Int)),(4,qyq x2),(6,.slice g0.1 x5.length g0.2),(16,.slice a2 x1.length c3),(17,qyq (x1.length:Int)),(18,qyq x3)],[],[],[Sl (eI .i64) 1 (.slice g0.1 x5.length g0.2) x5,SlN eN22 iN22 1 (.slice a2 x1.length c3) x1 s3],qak F (za F x1 k0) x2 x3 x5)) ?_ ?_
 refine au [124] ?_
 refine qu (fun (((x6,x7),_):((Int×Int)×Unit))=>([(3,qyq (x1.length:Int)),(4,qyq x2),(6,.slice g0.1 x5.length g0.2),(7,qyq x6),(16,.slice a2 x1.length c3),(17,qyq (x1.length:Int)),(18,qyq x3),(22,.slice g0.1 x5.length g0.2),(23,qyq (x5.length:Int)),(24,qyq x7)],[],[],[Sl (eI .i64) 1 (.slice g0.1 x5.length g0.2) x5,SlN eN22 iN22 1 (.slice a2 x1.length c3) x1 s3])) (fun k (s:((Int×Int)×Unit))=>yi F (za F x1 k0) x1 x2 x3 x5 k s.1) ((-1,0),()) F ?_
 intro k1
 rintro ⟨⟨x6,x7⟩,_⟩
 try dsimp only
 refine qB (m':=qaj F (za F x1 k0) x1 x2 x3 x5 (yi F (za F x1 k0) x1 x2 x3 x5 k1) x6 x7) rfl ?_
 refine av [118] ?_ ?_
 intro _
 refine au [74,3,19,61,26,12] ?_
 intro x8 e1 b1 o1
 refine au [25,14,60,3,19,62,125] ?_
 refine qk 4 (decide (x8<0)) [(3,qyq (x1.length:Int)),(4,qyq x2),(6,.slice g0.1 x5.length g0.2),(7,qyq x6),(16,.slice a2 x1.length c3),(17,qyq (x1.length:Int)),(18,qyq x3),(22,.slice g0.1 x5.length g0.2),(23,qyq (x5.length:Int)),(24,qyq x7),(9,qyq x8),(35,.bool ((decide (x8<0)) || (decide ((x1.length:Int)≤x8))))] (fun h0=>?_) (fun h0=>?_) ?_
 refine qa (os:=_) rfl (qf (k:=31) rfl h0 ?_)
 refine au [66,6,16] ?_
 refine qc (d:=35) (v:=.bool ((decide (x8<0)) || (decide ((x1.length:Int)≤x8)))) rfl (by rw[h0];simp only[qv4]) ?_
 exact az [68]
 refine qa (os:=_) rfl (qe (k:=31) rfl h0 ?_)
 refine au [1,1,26,7,17] ?_
 refine qc (d:=35) (v:=.bool ((decide (x8<0)) || (decide ((x1.length:Int)≤x8)))) rfl (by rw[h0];simp only[qv2]) ?_
 exact az [68]
 refine qa (os:=_) rfl ?_
 refine av [60,11] ?_ ?_
 intro _
 exact az [61,64,67,129,129,18]
 intro _
 refine av [62,1,26,15,60,11] ?_ ?_
 intro _
 exact az [61,64,67,129,129,18]
 intro _
 refine au [13,78,4,1,5,0,78,4,23,1,0] ?_
 exact qr ((x8,iadd .i64 x7 1),())
 intro _
 exact az [87,26,0]
 rintro ⟨_,_⟩
 try dsimp only
 refine au [4,1,126,23,5,0,24,10] ?_
 exact qb (iadd .i64 x2 (x5.length:Int),())
 rintro ⟨x4,_⟩
 try dsimp only
 refine au [4,23,1,0] ?_
 exact qr ((x4,iadd .i64 x3 1),())
 intro _
 refine au [87] ?_
 exact qb (x2,())
 rintro ⟨x0,_⟩
 try dsimp only
 refine av [83,103] ?_ ?_
 intro _
 exact az [61,99]
 intro _
 exact az [108,85]
set_option maxHeartbeats 4000000 in
theorem qlN {F:Nat}{x1:List (qyo)}{a2:qyp}{c3:Nat}{s3:List (qyp×Nat)}{x4:qyo}{a5:qyp}{c6:Nat}{x7:Int}{x8:Int}{x9:Int}{x10:Int}{r:(Int×Int×qyo×Bool)}(hm:qec F x1 x4 x7 x8 x9 x10=some r) :
    Pure Tryz.prog 252 [.slice a2 x1.length c3,.slice a5 x4.length c6,qyq x7,.agg #[qyq x8,qyq x9,qyq x10]] [SlN eN22 iN22 1 (.slice a2 x1.length c3) x1 s3,Sl (eI .i64) 1 (.slice a5 x4.length c6) x4] (qyp×Nat) (fun g=>.tuple #[.agg #[qyq r.1,qyq r.2.1,.slice g.1 r.2.2.1.length g.2],.bool r.2.2.2]) (fun g=>[Ro (eI .u8) 5 1 (.slice g.1 r.2.2.1.length g.2) r.2.2.1]) (fun _=>[]):=by
 refine ql Tryz.func252 rfl Tryz.ntmps252 rfl hm (fun w=>?_)
 refine au [27,9,82] ?_
 intro g11
 refine au [24,9] ?_
 intro g12
 refine au [75,24,6,79] ?_
 refine qo (cells:=[qyq 0,.slice none 0 0]) rfl st25 rfl (by kernel_rfl) rfl ?_
 refine au [24,9] ?_
 intro g13
 refine au [97] ?_
 refine qh (fun (((x18,x21),(a19,c20)):((Int×qyo)×(qyp×Nat)))=>([(0,.slice a2 x1.length c3),(1,.slice a5 x4.length c6),(2,qyq x7),(7,.pointer (some ⟨g11,0,none⟩)),(8,.pointer (some ⟨g12,0,none⟩)),(10,qyq (x1.length:Int)),(11,.pointer (some ⟨g13,0,none⟩))],[⟨g13,25,[qyq x18,.slice a19 x21.length c20]⟩,⟨g12,285,[qyq 0,qyq 0,.slice none 0 0]⟩,⟨g11,27,[qyq x8,qyq x9,qyq x10]⟩],[Ro (eI .u8) 5 1 (.slice a19 x21.length c20) x21],[SlN eN22 iN22 1 (.slice a2 x1.length c3) x1 s3,Sl (eI .i64) 1 (.slice a5 x4.length c6) x4],qaM F x1 x4 x7 x9 x10 x18 x21)) ?_ ?_
 refine av [61,12,27,15,103] ?_ ?_
 intro _
 refine au [4,1,25,11,34,10] ?_
 rintro x46 e46 ⟨a47,c48⟩
 refine au [102] ?_
 exact qb ((x46.1,x46.2),(a47,c48))
 intro _
 refine au [13,25,12] ?_
 exact qb (((0:Int),([]:qyo)),(none,0))
 rintro ⟨⟨x18,x21⟩,⟨a19,c20⟩⟩
 try dsimp only
 refine au [61,60] ?_
 refine qh (fun ((x29,(a27,c28)):(qyo×(qyp×Nat)))=>([(1,.slice a5 x4.length c6),(2,qyq x7),(7,.pointer (some ⟨g11,0,none⟩)),(8,.pointer (some ⟨g12,0,none⟩)),(10,qyq (x1.length:Int)),(11,.pointer (some ⟨g13,0,none⟩)),(12,.slice a27 x29.length c28)],[⟨g13,25,[qyq x18,.slice a19 x21.length c20]⟩,⟨g12,285,[qyq 0,qyq 0,.slice none 0 0]⟩,⟨g11,27,[qyq x8,qyq x9,qyq x10]⟩],[Ro (eI .u8) 5 1 (.slice a19 x21.length c20) x21],[Sl (eI .i64) 1 (.slice a5 x4.length c6) x4,Sl (eI .i64) 1 (.slice a27 x29.length c28) x29],qaN F x1 x4 x7 x9 x10 x18 x21 x29)) ?_ ?_
 refine av [62,103] ?_ ?_
 intro _
 refine au [4,1,1,1,25,7,28,13] ?_
 intro x41 e41 g44 b42 o43
 refine au [25,14,5,0] ?_
 exact qb (x41,(g44.1,g44.2))
 intro _
 refine au [13,25,5] ?_
 exact qi5 0 rfl (qb (([]:qyo),(none,0)))
 rintro ⟨x29,⟨a27,c28⟩⟩
 try dsimp only
 refine au [62,12,27,0,59,62,1,1,26,2,31,13] ?_
 rintro x30 e30 ⟨a31,c32⟩
 refine au [95] ?_
 intro g33
 refine au [24,3,93,25,0,1] ?_
 refine qk 7 ((x30.2.2:Int) != 0) [(2,qyq x7),(8,.pointer (some ⟨g12,0,none⟩)),(11,.pointer (some ⟨g13,0,none⟩)),(13,.pointer (some ⟨g33,0,none⟩)),(51,.bool (((x30.2.2:Int) != 0) || (decide (8192<(iadd .i64 x18 x30.1)))))] (fun h36=>?_) (fun h36=>?_) ?_
 refine qa (os:=_) rfl (qf (k:=44) rfl h36 ?_)
 refine au [72,66,16] ?_
 refine qc (d:=51) (v:=.bool (((x30.2.2:Int) != 0) || (decide (8192<(iadd .i64 x18 x30.1))))) rfl (by rw[h36];simp only[qv4]) ?_
 exact az [68]
 refine qa (os:=_) rfl (qe (k:=44) rfl h36 ?_)
 refine au [84,73,23,92] ?_
 refine qc (d:=51) (v:=.bool (((x30.2.2:Int) != 0) || (decide (8192<(iadd .i64 x18 x30.1))))) rfl (by rw[h36];simp only[qv2]) ?_
 exact az [68]
 refine qa (os:=_) rfl ?_
 refine av [63] ?_ ?_
 intro _
 refine au [61] ?_
 refine qo (cells:=[qyq 0,qyq 0,.slice none 0 0]) rfl st285 rfl (by kernel_rfl) rfl ?_
 refine au [27,0,77,25,12] ?_
 exact qF (none,0) (resL (rs:=[.cell 8 285,.tmp 9]) rfl (.cell (i:=2) rfl tf285 rfl rfl (by simp) rfl (.tmp rfl ResOk.nil)) rfl) (fun h=>by subst h;exact (.cons 0 rfl .nil))
 intro _
 refine au [74,62,25,4,24,4,29,10] ?_
 rintro x37 e37 ⟨a38,c39⟩
 refine qo (cells:=[qyq x7,qyq x37.1,.slice a38 x37.2.length c39]) rfl st285 rfl (by kernel_rfl) rfl ?_
 refine au [27,0,64] ?_
 exact qF (a38,c39) (resL (rs:=[.cell 8 285,.tmp 9]) rfl (.cell (i:=2) rfl tf285 rfl rfl (by simp) rfl (.tmp rfl ResOk.nil)) rfl) (fun h=>by subst h;exact (.cons 0 rfl .nil))
set_option maxHeartbeats 4000000 in
theorem qlM {F:Nat}{x1:List (qyo)}{a2:qyp}{c3:Nat}{s3:List (qyp×Nat)}{x4:qyo}{a5:qyp}{c6:Nat}{x7:Int}{x8:Int}{x9:Int}{r:(Int×Int×qyo×Bool)}(hm:qeb F x1 x4 x7 x8 x9=some r) :
    Pure Tryz.prog 233 [.slice a2 x1.length c3,.slice a5 x4.length c6,.agg #[qyq x7,qyq x8,qyq x9]] [SlN eN22 iN22 1 (.slice a2 x1.length c3) x1 s3,Sl (eI .i64) 1 (.slice a5 x4.length c6) x4] (qyp×Nat) (fun g=>.tuple #[.agg #[qyq r.1,qyq r.2.1,.slice g.1 r.2.2.1.length g.2],.bool r.2.2.2]) (fun g=>[Ro (eI .u8) 5 1 (.slice g.1 r.2.2.1.length g.2) r.2.2.1]) (fun _=>[]):=by
 refine ql Tryz.func233 rfl Tryz.ntmps233 rfl hm (fun w=>?_)
 refine au [106] ?_
 intro g10
 refine au [24,9] ?_
 intro g11
 refine au [60] ?_
 refine qh (fun (((x96,x97,x98,x0),(a99,c0)):((Bool×Int×Int×qyo)×(qyp×Nat)))=>([(6,.pointer (some ⟨g11,0,none⟩)),(7,.bool x96)],[⟨g11,285,[qyq x97,qyq x98,.slice a99 x0.length c0]⟩],[Ro (eI .u8) 5 1 (.slice a99 x0.length c0) x0],[],qdR F x96 x97 x98 x0)) ?_ ?_
 refine au [61,84,126,28,0,23,1,109,31,14] ?_
 refine qu (fun (((x2,x3,x5,x6,x10),(a0,c1)):((Bool×Int×Int×Int×qyo)×(qyp×Nat)))=>([(0,.slice a2 x1.length c3),(1,.slice a5 x4.length c6),(5,.pointer (some ⟨g10,0,none⟩)),(6,.pointer (some ⟨g11,0,none⟩)),(7,.bool x2),(16,qyq (iadd .i64 (imin x7 (x1.length:Int)) 1)),(17,qyq x3)],[⟨g11,285,[qyq x5,qyq x6,.slice a0 x10.length c1]⟩,⟨g10,27,[qyq x7,qyq x8,qyq x9]⟩],[Ro (eI .u8) 5 1 (.slice a0 x10.length c1) x10],[SlN eN22 iN22 1 (.slice a2 x1.length c3) x1 s3,Sl (eI .i64) 1 (.slice a5 x4.length c6) x4])) (fun k (s:((Bool×Int×Int×Int×qyo)×(qyp×Nat)))=>zT F x1 x4 x7 x8 x9 k s.1) ((false,0,0,0,([]:qyo)),(none,0)) F ?_
 intro k0
 rintro ⟨⟨x2,x3,x5,x6,x10⟩,⟨a0,c1⟩⟩
 try dsimp only
 refine qB (m':=qbw F x1 x4 x7 x8 x9 (zT F x1 x4 x7 x8 x9 k0) x2 x3 x5 x6 x10) rfl ?_
 refine av [118] ?_ ?_
 intro _
 refine au [74] ?_
 refine qh (fun (((x11,x12,x13,x14),(a1,c2)):((Bool×Int×Int×qyo)×(qyp×Nat)))=>([(0,.slice a2 x1.length c3),(1,.slice a5 x4.length c6),(5,.pointer (some ⟨g10,0,none⟩)),(6,.pointer (some ⟨g11,0,none⟩)),(7,.bool x11),(16,qyq (iadd .i64 (imin x7 (x1.length:Int)) 1)),(17,qyq x3)],[⟨g11,285,[qyq x12,qyq x13,.slice a1 x14.length c2]⟩,⟨g10,27,[qyq x7,qyq x8,qyq x9]⟩],[Ro (eI .u8) 5 1 (.slice a1 x14.length c2) x14],[SlN eN22 iN22 1 (.slice a2 x1.length c3) x1 s3,Sl (eI .i64) 1 (.slice a5 x4.length c6) x4],yp F (zT F x1 x4 x7 x8 x9 k0) x3 x11 x12 x13 x14)) ?_ ?_
 refine au [19,62,75,1,1,25,4] ?_
 refine qg qlN ?_
 rintro x15 e0 ⟨a3,c4⟩
 refine au [95] ?_
 intro g0
 refine au [24,3,75,1] ?_
 refine qq 12 (fun ((x16,_):(Bool×Unit))=>([(0,.slice a2 x1.length c3),(1,.slice a5 x4.length c6),(5,.pointer (some ⟨g10,0,none⟩)),(6,.pointer (some ⟨g11,0,none⟩)),(7,.bool x2),(9,.pointer (some ⟨g0,0,none⟩)),(16,qyq (iadd .i64 (imin x7 (x1.length:Int)) 1)),(17,qyq x3),(41,.bool x16)],[⟨g0,285,[qyq x15.1,qyq x15.2.1,.slice a3 x15.2.2.1.length c4]⟩,⟨g11,285,[qyq x5,qyq x6,.slice a0 x10.length c1]⟩,⟨g10,27,[qyq x7,qyq x8,qyq x9]⟩],[Ro (eI .u8) 5 1 (.slice a3 x15.2.2.1.length c4) x15.2.2.1,Ro (eI .u8) 5 1 (.slice a0 x10.length c1) x10],[SlN eN22 iN22 1 (.slice a2 x1.length c3) x1 s3,Sl (eI .i64) 1 (.slice a5 x4.length c6) x4],qbx F (zT F x1 x4 x7 x8 x9 k0) x2 x3 x5 x6 x10 x15 x16)) ?_ ?_
 refine qa (os:=_) rfl ?_
 refine av [24,12] ?_ ?_
 intro h0
 refine qf (k:=29) rfl h0 ?_
 refine au [1,25,1,1] ?_
 refine qk 8 (!x2) [(0,.slice a2 x1.length c3),(1,.slice a5 x4.length c6),(5,.pointer (some ⟨g10,0,none⟩)),(6,.pointer (some ⟨g11,0,none⟩)),(7,.bool x2),(16,qyq (iadd .i64 (imin x7 (x1.length:Int)) 1)),(17,qyq x3),(9,.pointer (some ⟨g0,0,none⟩)),(29,.bool true),(30,.bool x2),(31,.bool (!x2)),(32,.bool (!x2)),(40,.bool ((!x2) || (decide (x15.2.1<x6))))] (fun h1=>?_) (fun h1=>?_) ?_
 refine qa (os:=_) rfl (qf (k:=32) rfl h1 ?_)
 refine au [72,66,6,16] ?_
 refine qc (d:=40) (v:=.bool ((!x2) || (decide (x15.2.1<x6)))) rfl (by rw[h1];simp only[qv4]) (qc (d:=32) (v:=.bool (!x2)) rfl (by rw[h1] <;> rfl) ?_)
 exact az [68]
 refine qa (os:=_) rfl (qe (k:=32) rfl h1 ?_)
 refine au [12,73,12,84,24,5,17] ?_
 refine qc (d:=40) (v:=.bool ((!x2) || (decide (x15.2.1<x6)))) rfl (by rw[h1];simp only[qv2]) (qc (d:=32) (v:=.bool (!x2)) rfl (by rw[h1] <;> rfl) ?_)
 exact az [68]
 refine qa (os:=_) rfl ?_
 refine au [16,0] ?_
 exact qb (((!x2) || (decide (x15.2.1<x6))),())
 intro h0
 refine qe (k:=29) rfl h0 ?_
 refine au [72,72,66,6,17,0] ?_
 exact qb (false,())
 rintro ⟨x16,_⟩
 try dsimp only
 refine qa (os:=_) rfl ?_
 refine av [63] ?_ ?_
 intro _
 refine au [4,24,4,25,8,5,0,24,10] ?_
 exact qb ((true,x15.1,x15.2.1,x15.2.2.1),(a3,c4))
 intro _
 refine au [13,24,10] ?_
 exact qb ((x2,x5,x6,x10),(a0,c1))
 rintro ⟨⟨x11,x12,x13,x14⟩,⟨a1,c2⟩⟩
 try dsimp only
 refine au [4,23,1,0] ?_
 exact qr ((x11,iadd .i64 x3 1,x12,x13,x14),(a1,c2))
 intro _
 refine au [87] ?_
 exact qb ((x2,x5,x6,x10),(a0,c1))
 rintro ⟨⟨x96,x97,x98,x0⟩,⟨a99,c0⟩⟩
 try dsimp only
 refine au [61,24,4,1,24,3,64] ?_
 exact qF (a99,c0) (resL (rs:=[.cell 6 285,.tmp 7]) rfl (.cell (i:=0) rfl tf285 rfl rfl (by simp) rfl (.tmp rfl ResOk.nil)) rfl) (fun h=>by subst h;exact (.cons 0 rfl .nil))
set_option maxHeartbeats 4000000 in
theorem qfU {F:Nat}{g1:Nat}{x2:Int}{x3:Int}{x4:Int}{x5:Int}{x6:Int}{x7:qyo}{a8:qyp}{c9:Nat}{x10:qyo}{a11:qyp}{c12:Nat}{x13:qyo}{a14:qyp}{c15:Nat}{x16:List (qyo)}{a17:qyp}{c18:Nat}{s18:List (qyp×Nat)}{r:(Bool×Int×Int×Int×Int×Int×qyo×qyo×qyo)}(hm:qbJ F x2 x3 x4 x5 x6 x7 x10 x13 x16=some r) :
    PureM Tryz.prog 172 [.pointer (some ⟨g1,0,none⟩),.agg #[.slice a17 x16.length c18]] [⟨g1,136,[qyq x2,qyq x3,qyq x4,qyq x5,qyq x6,.slice a8 x7.length c9,.slice a11 x10.length c12,.slice a14 x13.length c15]⟩] [Ro (eI .u8) 5 1 (.slice a8 x7.length c9) x7,Ro (eI .i64) 3 1 (.slice a11 x10.length c12) x10,Ro (eI .i64) 3 1 (.slice a14 x13.length c15) x13] [SlN eN22 iN22 1 (.slice a17 x16.length c18) x16 s18] ((qyp×Nat)×(qyp×Nat)×(qyp×Nat)) (fun _=>.bool r.1) (fun g=>[⟨g1,136,[qyq r.2.1,qyq r.2.2.1,qyq r.2.2.2.1,qyq r.2.2.2.2.1,qyq r.2.2.2.2.2.1,.slice g.1.1 r.2.2.2.2.2.2.1.length g.1.2,.slice g.2.1.1 r.2.2.2.2.2.2.2.1.length g.2.1.2,.slice g.2.2.1 r.2.2.2.2.2.2.2.2.length g.2.2.2]⟩]) (fun g=>[Ro (eI .u8) 5 1 (.slice g.1.1 r.2.2.2.2.2.2.1.length g.1.2) r.2.2.2.2.2.2.1,Ro (eI .i64) 3 1 (.slice g.2.1.1 r.2.2.2.2.2.2.2.1.length g.2.1.2) r.2.2.2.2.2.2.2.1,Ro (eI .i64) 3 1 (.slice g.2.2.1 r.2.2.2.2.2.2.2.2.length g.2.2.2) r.2.2.2.2.2.2.2.2]):=by
 refine zw Tryz.func172 rfl Tryz.ntmps172 rfl hm (fun w=>?_)
 refine au [94] ?_
 intro g19
 refine au [60] ?_
 refine qh (fun (((x0,x1,x8,x9),(a0,c0,a1,c1,a2,c2)):((Int×qyo×qyo×qyo)×(qyp×Nat×qyp×Nat×qyp×Nat)))=>([],[⟨g1,136,[qyq x2,qyq x3,qyq x4,qyq x5,qyq x0,.slice a0 x1.length c0,.slice a1 x8.length c1,.slice a2 x9.length c2]⟩],[Ro (eI .u8) 5 1 (.slice a0 x1.length c0) x1,Ro (eI .i64) 3 1 (.slice a1 x8.length c1) x8,Ro (eI .i64) 3 1 (.slice a2 x9.length c2) x9],[],jk F x2 x3 x4 x5 x0 x1 x8 x9)) ?_ ?_
 refine au [61,73,110] ?_
 refine qu (fun (((x11,x12,x14,x15,x17),(a3,c3,a4,c4,a5,c5)):((Int×Int×qyo×qyo×qyo)×(qyp×Nat×qyp×Nat×qyp×Nat)))=>([(0,.pointer (some ⟨g1,0,none⟩)),(3,.pointer (some ⟨g19,0,none⟩)),(10,.slice a17 x16.length c18),(11,qyq (x16.length:Int)),(12,qyq x11)],[⟨g19,30,[.slice a17 x16.length c18]⟩,⟨g1,136,[qyq x2,qyq x3,qyq x4,qyq x5,qyq x12,.slice a3 x14.length c3,.slice a4 x15.length c4,.slice a5 x17.length c5]⟩],[Ro (eI .u8) 5 1 (.slice a3 x14.length c3) x14,Ro (eI .i64) 3 1 (.slice a4 x15.length c4) x15,Ro (eI .i64) 3 1 (.slice a5 x17.length c5) x17],[SlN eN22 iN22 1 (.slice a17 x16.length c18) x16 s18])) (fun k (s:((Int×Int×qyo×qyo×qyo)×(qyp×Nat×qyp×Nat×qyp×Nat)))=>qJ F x2 x3 x4 x5 x16 k s.1) ((0,x6,x7,x10,x13),(a8,c9,a11,c12,a14,c15)) F ?_
 intro k0
 rintro ⟨⟨x11,x12,x14,x15,x17⟩,⟨a3,c3,a4,c4,a5,c5⟩⟩
 try dsimp only
 refine qB (m':=yz F x2 x3 x4 x5 x16 (qJ F x2 x3 x4 x5 x16 k0) x11 x12 x14 x15 x17) rfl ?_
 refine av [118] ?_ ?_
 intro _
 refine au [74,3,19,62,28,13] ?_
 intro x18 e0 g0 b0 o0
 refine au [25,14,5,60] ?_
 refine qh (fun (((x19,x20,x21,x22),(g2,a6,c6)):((Bool×Int×Int×qyo)×(Nat×qyp×Nat)))=>([(0,.pointer (some ⟨g1,0,none⟩)),(3,.pointer (some ⟨g19,0,none⟩)),(7,.pointer (some ⟨g2,0,none⟩)),(8,.bool x19),(10,.slice a17 x16.length c18),(11,qyq (x16.length:Int)),(12,qyq x11)],[⟨g19,30,[.slice a17 x16.length c18]⟩,⟨g1,136,[qyq x2,qyq x3,qyq x4,qyq x5,qyq x12,.slice a3 x14.length c3,.slice a4 x15.length c4,.slice a5 x17.length c5]⟩,⟨g2,285,[qyq x20,qyq x21,.slice a6 x22.length c6]⟩],[Ro (eI .u8) 5 1 (.slice a3 x14.length c3) x14,Ro (eI .i64) 3 1 (.slice a4 x15.length c4) x15,Ro (eI .i64) 3 1 (.slice a5 x17.length c5) x17,Ro (eI .u8) 5 1 (.slice a6 x22.length c6) x22],[SlN eN22 iN22 1 (.slice a17 x16.length c18) x16 s18],yA F (qJ F x2 x3 x4 x5 x16 k0) x2 x3 x4 x5 x11 x12 x14 x15 x17 x19 x20 x21 x22)) ?_ ?_
 refine qp6 2 zX rfl ?_
 intro x23 e1 a7 c7 g3 h0 h1
 refine qy mixed [] [⟨g19,30,[.slice a17 x16.length c18]⟩,⟨g1,136,[qyq x2,qyq x3,qyq x4,qyq x5,qyq x12,.slice a3 x14.length c3,.slice a4 x15.length c4,.slice a5 x17.length c5]⟩] [SlN eN22 iN22 1 (.slice a7 x23.length c7) x23 g3,qK b0 o0 (eN22 (x18,g0)),Sl (eI .i64) 1 (.slice g0.1 x18.length g0.2) x18,SlN eN22 iN22 1 (.slice a17 x16.length c18) x16 s18] (.cons 0 rfl (.cons 0 rfl .nil)) (qt 0 rfl (qt 1 rfl (qt 2 rfl (qt 3 rfl qw)))) 17 rfl ?_
 refine au [100,7,2] ?_
 refine qm 3 (.slice a7 x23.length c7) rfl rfl rfl (qvj Tryz.underlying28 tf22 rfl rfl rfl e1 h1 h0) ?_
 refine au [115,7,6,24,0,7,24,0,8] ?_
 refine q8 9 (.agg #[qyq x3,qyq x4,qyq x5]) rfl rfl rfl (qQ (i:=1) rfl tf27 rfl rfl (by simp) rfl) (qa9 10 14 rfl rfl (by kernel_rfl) rfl rfl ?_ ?_)
 refine au [35,11] ?_
 rintro x24 e2 ⟨a9,c8⟩
 refine au [0] ?_
 refine zd (.cons 0 rfl (.cons 0 rfl .nil)) (qt 0 rfl (qt 1 rfl (qt 2 rfl (qt 3 rfl qw)))) ?_
 refine au [7,11,112,20,14,24,9] ?_
 intro g4
 refine au [0,29,1,20,15,102,29,1,7,16,24,8] ?_
 exact qx (qb ((x24.2.2.2,x24.1,x24.2.1,x24.2.2.1),(g4,a9,c8))) (by intro c h;cases h)
 refine qba (m':=((qeb F x23 x18 x3 x4 x5).bind fun x25=>yA F (qJ F x2 x3 x4 x5 x16 k0) x2 x3 x4 x5 x11 x12 x14 x15 x17 x25.2.2.2 x25.1 x25.2.1 x25.2.2.1)) (rfl) ?_
 refine au [24,9] ?_
 intro g5
 refine au [0,29,1,20,10,35,11] ?_
 rintro x25 e3 ⟨a10,c10⟩
 refine au [0,29,1,7,11,112,20,15,102,29,1,7,16,24,8] ?_
 exact qx (qb ((x25.2.2.2,x25.1,x25.2.1,x25.2.2.1),(g5,a10,c10))) (by intro c h;cases h)
 rintro ⟨⟨x19,x20,x21,x22⟩,⟨g2,a6,c6⟩⟩
 try dsimp only
 refine au [3] ?_
 refine qh (fun ((x26,_):(Bool×Unit))=>([(0,.pointer (some ⟨g1,0,none⟩)),(3,.pointer (some ⟨g19,0,none⟩)),(7,.pointer (some ⟨g2,0,none⟩)),(10,.slice a17 x16.length c18),(11,qyq (x16.length:Int)),(12,qyq x11),(45,.bool x26)],[⟨g19,30,[.slice a17 x16.length c18]⟩,⟨g1,136,[qyq x2,qyq x3,qyq x4,qyq x5,qyq x12,.slice a3 x14.length c3,.slice a4 x15.length c4,.slice a5 x17.length c5]⟩,⟨g2,285,[qyq x20,qyq x21,.slice a6 x22.length c6]⟩],[Ro (eI .u8) 5 1 (.slice a3 x14.length c3) x14,Ro (eI .i64) 3 1 (.slice a4 x15.length c4) x15,Ro (eI .i64) 3 1 (.slice a5 x17.length c5) x17,Ro (eI .u8) 5 1 (.slice a6 x22.length c6) x22],[SlN eN22 iN22 1 (.slice a17 x16.length c18) x16 s18],kr F (qJ F x2 x3 x4 x5 x16 k0) x2 x3 x4 x5 x11 x12 x14 x15 x17 x20 x21 x22 x26)) ?_ ?_
 refine av [27,5] ?_ ?_
 intro h2
 refine qy mixed [] [⟨g19,30,[.slice a17 x16.length c18]⟩,⟨g1,136,[qyq x2,qyq x3,qyq x4,qyq x5,qyq x12,.slice a3 x14.length c3,.slice a4 x15.length c4,.slice a5 x17.length c5]⟩,⟨g2,285,[qyq x20,qyq x21,.slice a6 x22.length c6]⟩] [SlN eN22 iN22 1 (.slice a17 x16.length c18) x16 s18] (.cons 0 rfl (.cons 0 rfl (.cons 0 rfl .nil))) (qt 0 rfl qw) 15 rfl ?_
 refine au [88,7,2] ?_
 refine qi (d:=33) (v:=.bool true) rfl (by rw[h2] <;> rfl) ?_
 refine au [8,3,8,4,8,5,8,6,8,7,8,8,8,9,8,10,8,11,8,12,8,13,7,14,24,8] ?_
 exact qx (qb (true,())) (by intro c h;cases h)
 intro h2
 refine qy mixed [] [⟨g19,30,[.slice a17 x16.length c18]⟩,⟨g1,136,[qyq x2,qyq x3,qyq x4,qyq x5,qyq x12,.slice a3 x14.length c3,.slice a4 x15.length c4,.slice a5 x17.length c5]⟩,⟨g2,285,[qyq x20,qyq x21,.slice a6 x22.length c6]⟩] [SlN eN22 iN22 1 (.slice a17 x16.length c18) x16 s18] (.cons 0 rfl (.cons 0 rfl (.cons 0 rfl .nil))) (qt 0 rfl qw) 15 rfl ?_
 refine au [88,7,2] ?_
 refine qi (d:=33) (v:=.bool false) rfl (by rw[h2] <;> rfl) ?_
 refine au [7,3,7,4,24,0,5,24,0,6,24,0,7,27,13,8,24,0,9,24,0,10,33,11,11,112,7,14,24,8] ?_
 exact qx (qb ((decide (8192<(iadd .i64 x12 x21))),())) (by intro c h;cases h)
 rintro ⟨x26,_⟩
 try dsimp only
 refine av [11] ?_ ?_
 intro _
 refine au [61,77,129] ?_
 exact zy ((a3,c3),(a4,c4),(a5,c5))
 intro _
 refine au [74] ?_
 refine qh (fun (((x27,x28),(a12,c11,a13,c13)):((qyo×qyo)×(qyp×Nat×qyp×Nat)))=>([(0,.pointer (some ⟨g1,0,none⟩)),(3,.pointer (some ⟨g19,0,none⟩)),(7,.pointer (some ⟨g2,0,none⟩)),(10,.slice a17 x16.length c18),(11,qyq (x16.length:Int)),(12,qyq x11)],[⟨g19,30,[.slice a17 x16.length c18]⟩,⟨g1,136,[qyq x2,qyq x3,qyq x4,qyq x5,qyq x12,.slice a3 x14.length c3,.slice a12 x27.length c11,.slice a13 x28.length c13]⟩,⟨g2,285,[qyq x20,qyq x21,.slice a6 x22.length c6]⟩],[Ro (eI .u8) 5 1 (.slice a3 x14.length c3) x14,Ro (eI .i64) 3 1 (.slice a12 x27.length c11) x27,Ro (eI .i64) 3 1 (.slice a13 x28.length c13) x28,Ro (eI .u8) 5 1 (.slice a6 x22.length c6) x22],[SlN eN22 iN22 1 (.slice a17 x16.length c18) x16 s18],ku F (qJ F x2 x3 x4 x5 x16 k0) x11 x12 x14 x21 x22 x27 x28)) ?_ ?_
 refine qy mixed [24,27] [⟨g19,30,[.slice a17 x16.length c18]⟩,⟨g2,285,[qyq x20,qyq x21,.slice a6 x22.length c6]⟩] [SlN eN22 iN22 1 (.slice a17 x16.length c18) x16 s18,(BlkD.is ⟨g1,136,[qyq x2,qyq x3,qyq x4,qyq x5,qyq x12,.slice a3 x14.length c3,.slice a4 x15.length c4,.slice a5 x17.length c5]⟩)] (.cons 0 rfl (.cons 1 rfl .nil)) (qt 0 rfl (qgx 1 rfl qw)) 28 rfl ?_
 refine au [88,7,2,7,3,24,0,4] ?_
 refine qO 5 (.slice a4 x15.length c4) [[24],[27]] rfl rfl rfl (yS (j:=1) rfl tf22 rfl rfl (fun _=>rfl) rfl) ?_
 refine au [24,0,6,27,13,7,7,10,7,11,24,0,12] ?_
 refine qO 13 (.slice a5 x17.length c5) [[24],[27]] rfl rfl rfl (yS (j:=1) rfl tf22 rfl rfl (fun _=>rfl) rfl) ?_
 refine au [7,14,7,15,24,0,16,24,0,17,24,0,18] ?_
 refine qO 19 (qyq x12) [[24],[27]] rfl rfl rfl (yS (j:=1) rfl tf3 rfl rfl (fun _=>rfl) rfl) (qa9 8 20 rfl rfl (by kernel_rfl) rfl rfl ?_ ?_)
 refine qn (vs:=[qyq x20]) (ys:=([x20]:qyo)) (qp .i64) (by decide) rfl Tryz.underlying22 tf3 rfl rfl rfl rfl rfl (by decide) (fun a15 c14=>?_)
 refine au [0,26,10] ?_
 refine qa9 9 20 rfl rfl (by kernel_rfl) rfl rfl ?_ ?_
 refine zY 2 (qp .i64) rfl Tryz.underlying22 tf3 rfl rfl rfl rfl rfl (.inl ⟨0,_,rfl⟩) rfl rfl (fun x29 e4 a16 c16=>?_)
 refine au [0,26,10,20,20] ?_
 refine qn (vs:=[qyq x12]) (ys:=([x12]:qyo)) (qp .i64) (by decide) rfl Tryz.underlying22 tf3 rfl rfl rfl rfl rfl (by decide) (fun a18 c17=>?_)
 refine au [0,26,10,20,21] ?_
 refine zY 4 (qp .i64) rfl Tryz.underlying22 tf3 rfl rfl rfl rfl rfl (.inl ⟨0,_,rfl⟩) rfl rfl (fun x30 e5 a19 c19=>?_)
 refine au [0,26,10,7,22,24,0,23,20,24,25,8,0,28,4,7,25,24,0,26,20,27,25,8,0,28,4,24,8] ?_
 exact qx (qb ((x29,x30),(a16,c16,a19,c19))) (by intro c h;cases h)
 refine qba (m':=((app 8796093022208 x15 ([x20]:qyo)).bind fun x31=>((app 8796093022208 x17 ([x12]:qyo)).bind fun x32=>ku F (qJ F x2 x3 x4 x5 x16 k0) x11 x12 x14 x21 x22 x31 x32))) (rfl) (qn (vs:=[qyq x12]) (ys:=([x12]:qyo)) (qp .i64) (by decide) rfl Tryz.underlying22 tf3 rfl rfl rfl rfl rfl (by decide) (fun a20 c20=>?_))
 refine au [0,26,10,20,9] ?_
 refine zY 3 (qp .i64) rfl Tryz.underlying22 tf3 rfl rfl rfl rfl rfl (.inl ⟨1,_,rfl⟩) rfl rfl (fun x31 e6 a21 c21=>?_)
 refine au [0,26,10,20,21] ?_
 refine zY 4 (qp .i64) rfl Tryz.underlying22 tf3 rfl rfl rfl rfl rfl (.inl ⟨1,_,rfl⟩) rfl rfl (fun x32 e7 a22 c22=>?_)
 refine au [0,26,10,7,22,24,0,23,20,24,25,8,0,28,4,7,25,24,0,26,20,27,25,8,0,28,4,24,8] ?_
 exact qx (qb ((x31,x32),(a21,c21,a22,c22))) (by intro c h;cases h)
 refine qba (m':=((app 8796093022208 x15 ([x20]:qyo)).bind fun x33=>((app 8796093022208 x17 ([x12]:qyo)).bind fun x34=>ku F (qJ F x2 x3 x4 x5 x16 k0) x11 x12 x14 x21 x22 x33 x34))) (rfl) (qn (vs:=[qyq x12]) (ys:=([x12]:qyo)) (qp .i64) (by decide) rfl Tryz.underlying22 tf3 rfl rfl rfl rfl rfl (by decide) (fun a23 c23=>?_))
 refine au [0,26,10,20,8] ?_
 refine qn (vs:=[qyq x20]) (ys:=([x20]:qyo)) (qp .i64) (by decide) rfl Tryz.underlying22 tf3 rfl rfl rfl rfl rfl (by decide) (fun a24 c24=>?_)
 refine au [0,26,10,20,9] ?_
 refine zY 3 (qp .i64) rfl Tryz.underlying22 tf3 rfl rfl rfl rfl rfl (.inl ⟨0,_,rfl⟩) rfl rfl (fun x33 e8 a25 c25=>?_)
 refine au [0,26,10,20,21] ?_
 refine zY 4 (qp .i64) rfl Tryz.underlying22 tf3 rfl rfl rfl rfl rfl (.inl ⟨2,_,rfl⟩) rfl rfl (fun x34 e9 a26 c26=>?_)
 refine au [0,26,10,7,22,24,0,23,20,24,25,8,0,28,4,7,25,24,0,26,20,27,25,8,0,28,4,24,8] ?_
 exact qx (qb ((x33,x34),(a25,c25,a26,c26))) (by intro c h;cases h)
 rintro ⟨⟨x27,x28⟩,⟨a12,c11,a13,c13⟩⟩
 try dsimp only
 refine qy mixed [12] [⟨g19,30,[.slice a17 x16.length c18]⟩,⟨g2,285,[qyq x20,qyq x21,.slice a6 x22.length c6]⟩] [SlN eN22 iN22 1 (.slice a17 x16.length c18) x16 s18,(BlkD.is ⟨g1,136,[qyq x2,qyq x3,qyq x4,qyq x5,qyq x12,.slice a3 x14.length c3,.slice a12 x27.length c11,.slice a13 x28.length c13]⟩)] (.cons 0 rfl (.cons 1 rfl .nil)) (qt 0 rfl (qgx 1 rfl qw)) 13 rfl ?_
 refine au [88,7,2,24,0,3,24,0,4] ?_
 refine qO 5 (.agg #[qyq x12,.slice a3 x14.length c3]) [[12]] rfl rfl rfl (yS (j:=1) rfl tf25 rfl rfl (by simp) rfl) ?_
 refine au [24,0,6] ?_
 refine q8 7 (.agg #[qyq x21,.slice a6 x22.length c6]) rfl rfl rfl (qQ (i:=1) rfl tf25 rfl rfl (by simp) rfl) ?_
 refine au [20,8,29,10] ?_
 rintro x35 e10 ⟨a27,c27⟩
 refine au [0,26,10,7,9,24,0,10,24,0,11,20,12,25,8,0] ?_
 refine qbp 12 rfl (by kernel_rfl) (.cons 0 rfl (.cons 1 rfl .nil)) ?_
 refine au [24,8] ?_
 refine qx ?_ (by intro c h;cases h)
 refine au [78,4,23,1,0] ?_
 exact qr ((iadd .i64 x11 1,x35.1,x35.2,x27,x28),(a27,c27,a12,c11,a13,c13))
 intro _
 refine au [87] ?_
 exact qb ((x12,x14,x15,x17),(a3,c3,a4,c4,a5,c5))
 rintro ⟨⟨x0,x1,x8,x9⟩,⟨a0,c0,a1,c1,a2,c2⟩⟩
 try dsimp only
 refine au [61,64] ?_
 exact zy ((a0,c0),(a1,c1),(a2,c2))
set_option maxHeartbeats 4000000 in
theorem qjn {F:Nat}{x1:List (qyo)}{a2:qyp}{c3:Nat}{s3:List (qyp×Nat)}{x4:Int}{x5:Int}{x6:Int}{r:(Int×Int×Int×Int×Int×qyo×qyo×qyo×Int)}(hm:qbf F x1 x4 x5 x6=some r) :
    PureM Tryz.prog 84 [.agg #[.slice a2 x1.length c3],.agg #[qyq x4,qyq x5,qyq x6]] [] [] [SlN eN22 iN22 1 (.slice a2 x1.length c3) x1 s3] ((qyp×Nat)×(qyp×Nat)×(qyp×Nat)×Nat) (fun g=>.tuple #[.pointer (some ⟨g.2.2.2,0,none⟩),qyq r.2.2.2.2.2.2.2.2]) (fun g=>[⟨g.2.2.2,136,[qyq r.1,qyq r.2.1,qyq r.2.2.1,qyq r.2.2.2.1,qyq r.2.2.2.2.1,.slice g.1.1 r.2.2.2.2.2.1.length g.1.2,.slice g.2.1.1 r.2.2.2.2.2.2.1.length g.2.1.2,.slice g.2.2.1.1 r.2.2.2.2.2.2.2.1.length g.2.2.1.2]⟩]) (fun g=>[Ro (eI .u8) 5 1 (.slice g.1.1 r.2.2.2.2.2.1.length g.1.2) r.2.2.2.2.2.1,Ro (eI .i64) 3 1 (.slice g.2.1.1 r.2.2.2.2.2.2.1.length g.2.1.2) r.2.2.2.2.2.2.1,Ro (eI .i64) 3 1 (.slice g.2.2.1.1 r.2.2.2.2.2.2.2.1.length g.2.2.1.2) r.2.2.2.2.2.2.2.1]):=by
 refine zw Tryz.func84 rfl Tryz.ntmps84 rfl hm (fun w=>?_)
 refine au [94] ?_
 intro g7
 refine au [24,1] ?_
 intro g8
 refine au [5,79,25,4] ?_
 refine qg qjm ?_
 intro x9 e9 _
 refine au [60] ?_
 refine qh (fun ((x12,_):(Int×Unit))=>([(2,.pointer (some ⟨g7,0,none⟩)),(3,.pointer (some ⟨g8,0,none⟩)),(6,qyq x12)],[⟨g8,27,[qyq x4,qyq x5,qyq x6]⟩,⟨g7,30,[.slice a2 x1.length c3]⟩],[],[SlN eN22 iN22 1 (.slice a2 x1.length c3) x1 s3],vU F x1 x4 x5 x6 x12)) ?_ ?_
 refine av [98,63] ?_ ?_
 intro _
 refine au [4,24,4,28,15] ?_
 intro x97 e97 _
 refine au [5,0] ?_
 exact qb (x97,())
 intro _
 refine au [13] ?_
 exact qb (x9,())
 rintro ⟨x12,_⟩
 try dsimp only
 refine au [61,84,24,6,24,4] ?_
 refine qo (cells:=[qyq (x1.length:Int),qyq x4,qyq x5,qyq x6,qyq 0,.slice none 0 0]) rfl st53 rfl (by kernel_rfl) rfl (qo (cells:=[qyq (x1.length:Int),qyq x4,qyq x5,qyq x6,qyq 0,.slice none 0 0,.slice none 0 0,.slice none 0 0]) rfl st136 rfl (by kernel_rfl) rfl ?_)
 refine au [24,1] ?_
 intro g13
 refine au [60] ?_
 refine qh (fun (((x48,x49,x50,x51,x52,x53,x56,x59,x62),(a54,c55,a57,c58,a60,c61)):((Int×Int×Int×Int×Int×Int×qyo×qyo×qyo)×(qyp×Nat×qyp×Nat×qyp×Nat)))=>([(6,qyq x48),(7,.pointer (some ⟨g13,0,none⟩))],[⟨g13,136,[qyq x49,qyq x50,qyq x51,qyq x52,qyq x53,.slice a54 x56.length c55,.slice a57 x59.length c58,.slice a60 x62.length c61]⟩],[Ro (eI .u8) 5 1 (.slice a54 x56.length c55) x56,Ro (eI .i64) 3 1 (.slice a57 x59.length c58) x59,Ro (eI .i64) 3 1 (.slice a60 x62.length c61) x62],[],yG F x48 x49 x50 x51 x52 x53 x56 x59 x62)) ?_ ?_
 refine au [98,1] ?_
 refine qq 5 (fun (((x74,x75,x76,x77,x78,x79,x82,x85,x88),(a80,c81,a83,c84,a86,c87)):((Bool×Int×Int×Int×Int×Int×qyo×qyo×qyo)×(qyp×Nat×qyp×Nat×qyp×Nat)))=>([(6,qyq x12),(7,.pointer (some ⟨g13,0,none⟩)),(28,.bool x74)],[⟨g13,136,[qyq x75,qyq x76,qyq x77,qyq x78,qyq x79,.slice a80 x82.length c81,.slice a83 x85.length c84,.slice a86 x88.length c87]⟩],[Ro (eI .u8) 5 1 (.slice a80 x82.length c81) x82,Ro (eI .i64) 3 1 (.slice a83 x85.length c84) x85,Ro (eI .i64) 3 1 (.slice a86 x88.length c87) x88],[],yH F x12 x74 x75 x76 x77 x78 x79 x82 x85 x88)) ?_ ?_
 refine qa (os:=_) rfl ?_
 refine av [24,12] ?_ ?_
 intro h63
 refine qf (k:=23) rfl h63 ?_
 refine au [1,26,2,26,8,26,3,26,3] ?_
 refine qW qfU ?_
 rintro x90 e90 ⟨⟨a91,c92⟩,⟨a93,c94⟩,⟨a95,c96⟩⟩
 refine au [25,1,16,0] ?_
 exact qb (((!x90.1),x90.2.1,x90.2.2.1,x90.2.2.2.1,x90.2.2.2.2.1,x90.2.2.2.2.2.1,x90.2.2.2.2.2.2.1,x90.2.2.2.2.2.2.2.1,x90.2.2.2.2.2.2.2.2),(a91,c92,a93,c94,a95,c96))
 intro h63
 refine qe (k:=23) rfl h63 ?_
 refine au [72,17,0,25,12,25,5,25,5] ?_
 exact qb ((false,(x1.length:Int),x4,x5,x6,(0:Int),([]:qyo),([]:qyo),([]:qyo)),(none,0,none,0,none,0))
 rintro ⟨⟨x74,x75,x76,x77,x78,x79,x82,x85,x88⟩,⟨a80,c81,a83,c84,a86,c87⟩⟩
 try dsimp only
 refine qa (os:=_) rfl ?_
 refine av [63] ?_ ?_
 intro _
 refine au [4,5,0] ?_
 exact qb (((8:Int),x75,x76,x77,x78,x79,x82,x85,x88),(a80,c81,a83,c84,a86,c87))
 intro _
 refine au [13] ?_
 exact qb ((x12,x75,x76,x77,x78,x79,x82,x85,x88),(a80,c81,a83,c84,a86,c87))
 rintro ⟨⟨x48,x49,x50,x51,x52,x53,x56,x59,x62⟩,⟨a54,c55,a57,c58,a60,c61⟩⟩
 try dsimp only
 refine au [62,1,5,64] ?_
 exact zy ((a54,c55),(a57,c58),(a60,c61),g13)
theorem qaT (F:Nat)(x1:List (qyo))(a2:qyp)(c3:(Nat×List (qyp×Nat)))(x4:Int)(x5:Int)(x6:Int)(r:(Int×Int×Int×Int×Int×qyo×Int))(hm:yx F x1 x4 x5 x6=some r) :
    Pure Tryz.prog 17 [.agg #[.slice a2 x1.length c3.1],.agg #[qyq x4,qyq x5,qyq x6]] [SlN eN22 iN22 1 (.slice a2 x1.length c3.1) x1 c3.2] (qyp×Nat) (fun g=>.tuple #[.agg #[qyq r.1,qyq r.2.1,qyq r.2.2.1,qyq r.2.2.2.1,qyq r.2.2.2.2.1,.slice g.1 r.2.2.2.2.2.1.length g.2],qyq r.2.2.2.2.2.2]) (fun g=>[Ro (eI .u8) 5 1 (.slice g.1 r.2.2.2.2.2.1.length g.2) r.2.2.2.2.2.1]) (fun _=>[]):=by
 refine ql Tryz.func17 rfl Tryz.ntmps17 rfl hm (fun w=>?_)
 refine au [94] ?_
 intro g7
 refine au [24,1] ?_
 intro g8
 refine au [24,9] ?_
 intro g9
 refine au [79,26,2,25,4,35,12] ?_
 rintro x10 e10 ⟨⟨a11,c12⟩,⟨a13,c14⟩,⟨a15,c16⟩,g17⟩
 refine av [80,5,93,81] ?_ ?_
 intro _
 refine au [61] ?_
 refine qo (cells:=[qyq 0,qyq 0,qyq 0,qyq 0,qyq 0,.slice none 0 0]) rfl st53 rfl (by kernel_rfl) rfl ?_
 refine au [1,25,8,77,25,12] ?_
 exact qF (none,0) (resL (rs:=[.cell 4 53,.tmp 5]) rfl (.cell (i:=1) rfl tf53 rfl rfl (by simp) rfl (.tmp rfl ResOk.nil)) rfl) (fun h=>by subst h;exact (.cons 0 rfl .nil))
 intro _
 refine au [74,62,96,24,4,25,8,64] ?_
 exact qF (a11,c12) (resL (rs:=[.cell 4 53,.tmp 5]) rfl (.cell (i:=1) rfl tf53 rfl rfl (by simp) rfl (.tmp rfl ResOk.nil)) rfl) (fun h=>by subst h;exact (.cons 0 rfl .nil))
set_option maxHeartbeats 4000000 in
theorem qkz {F:Nat}{x1:Int}{x2:Int}{x3:Int}{x4:Int}{x5:Int}{x6:qyo}{a7:qyp}{c8:Nat}{r:Int}(hm:qdy F x1 x2 x3 x4 x5 x6=some r) :
    Pure Tryz.prog 85 [.agg #[qyq x1,qyq x2,qyq x3,qyq x4,qyq x5,.slice a7 x6.length c8]] [Sl (eI .u8) 1 (.slice a7 x6.length c8) x6] Unit (fun _=>qyq r) (fun _=>[]) (fun _=>[]):=by
 refine ql Tryz.func85 rfl Tryz.ntmps85 rfl hm (fun w=>?_)
 refine au [25,9,82] ?_
 intro g9
 refine au [60,3,61,73,125] ?_
 refine qk 4 (decide (x1<0)) [(1,.pointer (some ⟨g9,0,none⟩)),(11,.bool ((decide (x1<0)) || (decide (100<x1))))] (fun h12=>?_) (fun h12=>?_) ?_
 refine qa (os:=_) rfl (qf (k:=7) rfl h12 ?_)
 refine au [66,6,16] ?_
 refine qc (d:=11) (v:=.bool ((decide (x1<0)) || (decide (100<x1)))) rfl (by rw[h12];simp only[qv4]) ?_
 exact az [68]
 refine qa (os:=_) rfl (qe (k:=7) rfl h12 ?_)
 refine au [73,92] ?_
 refine qc (d:=11) (v:=.bool ((decide (x1<0)) || (decide (100<x1)))) rfl (by rw[h12];simp only[qv2]) ?_
 exact az [68]
 refine qa (os:=_) rfl ?_
 refine av [63] ?_ ?_
 intro _
 exact az [61,99]
 intro _
 refine au [74,3,61,130,28,15] ?_
 intro x15 e15 _
 refine av [75,81] ?_ ?_
 intro _
 exact az [62,99]
 intro _
 refine au [108,130,28,1] ?_
 intro x16 e16 _
 exact az [85]
set_option maxHeartbeats 4000000 in
theorem qh3 {F:Nat}{x1:Int}{x2:Int}{x3:Int}{x4:Int}{x5:Int}{x6:qyo}{a7:qyp}{c8:Nat}{x9:Int}{x10:Int}{r:(Int×Int×Bool)}(hm:qdQ F x1 x2 x3 x4 x5 x6 x9 x10=some r) :
    Pure Tryz.prog 173 [.agg #[qyq x1,qyq x2,qyq x3,qyq x4,qyq x5,.slice a7 x6.length c8],qyq x9,qyq x10] [Sl (eI .u8) 1 (.slice a7 x6.length c8) x6] Unit (fun _=>.tuple #[qyq r.1,qyq r.2.1,.bool r.2.2]) (fun _=>[]) (fun _=>[]):=by
 refine ql Tryz.func173 rfl Tryz.ntmps173 rfl hm (fun w=>?_)
 refine au [106] ?_
 intro g11
 refine av [5,5,60,3,61,12,73,24,2,63] ?_ ?_
 intro _
 exact az [62,5,5,99]
 intro _
 refine au [108,130,1,35,1] ?_
 intro x13 e13 _
 refine au [80,10,5,5,93,25,0,1] ?_
 refine qq 9 (fun ((x18,_):(Bool×Unit))=>([(7,qyq x13.2.1),(9,.int .u64 x13.1),(35,.bool x18)],[],[],[],qde F x13 x18)) ?_ ?_
 refine qa (os:=_) rfl ?_
 refine av [24,12] ?_ ?_
 intro h17
 refine qf (k:=26) rfl h17 ?_
 refine au [72,72,16,0] ?_
 exact qb (true,())
 intro h17
 refine qe (k:=26) rfl h17 ?_
 refine au [1,12,73,1,28,0,25,11,92,0] ?_
 exact qb ((decide ((iconv .u64 (imin x2 x10))<x13.1)),())
 rintro ⟨x18,_⟩
 try dsimp only
 refine qa (os:=_) rfl ?_
 refine av [63] ?_ ?_
 intro _
 exact az [61,5,5,99]
 intro _
 exact az [74,62,25,11,1,5,5,85]
set_option maxHeartbeats 4000000 in
theorem qkA {F:Nat}{x1:Int}{x2:Int}{x3:Int}{x4:Int}{x5:Int}{x6:qyo}{a7:qyp}{c8:Nat}{r:(List (qyo)×Bool)}(hm:qeE F x1 x2 x3 x4 x5 x6=some r) :
    Pure Tryz.prog 86 [.agg #[qyq x1,qyq x2,qyq x3,qyq x4,qyq x5,.slice a7 x6.length c8]] [Sl (eI .u8) 1 (.slice a7 x6.length c8) x6] (qyp×(Nat×List (qyp×Nat))) (fun g=>.tuple #[.slice g.1 r.1.length g.2.1,.bool r.2]) (fun g=>[RoN eN22 rN22 22 1 (.slice g.1 r.1.length g.2.1) r.1 g.2.2 []]) (fun _=>[]):=by
 refine ql Tryz.func86 rfl Tryz.ntmps86 rfl hm (fun w=>?_)
 refine au [25,9,82] ?_
 intro g9
 refine au [5,79,60] ?_
 refine qh (fun (((x0,x7),(a0,c0)):((List (qyo)×Int)×(qyp×(Nat×List (qyp×Nat)))))=>([(1,.pointer (some ⟨g9,0,none⟩)),(2,.slice a0 x0.length c0.1),(4,qyq x7)],[⟨g9,53,[qyq x1,qyq x2,qyq x3,qyq x4,qyq x5,.slice a7 x6.length c8]⟩],[RoN eN22 rN22 22 1 (.slice a0 x0.length c0.1) x0 c0.2 []],[Sl (eI .u8) 1 (.slice a7 x6.length c8) x6],qdu F x5 x0 x7)) ?_ ?_
 refine au [61,73,1,109] ?_
 refine qmO (qyo) (qyp×Nat) eN22 rN22 22 1 (qu (fun (((x8,x9,x10),(a1,c1)):((List (qyo)×Int×Int)×(qyp×(Nat×List (qyp×Nat)))))=>([(1,.pointer (some ⟨g9,0,none⟩)),(2,.slice a1 x8.length c1.1),(4,qyq x9),(14,qyq x1),(15,qyq x10)],[⟨g9,53,[qyq x1,qyq x2,qyq x3,qyq x4,qyq x5,.slice a7 x6.length c8]⟩],[RoN eN22 rN22 22 1 (.slice a1 x8.length c1.1) x8 c1.2 []],[Sl (eI .u8) 1 (.slice a7 x6.length c8) x6])) (fun k (s:((List (qyo)×Int×Int)×(qyp×(Nat×List (qyp×Nat)))))=>kJ F x1 x2 x3 x4 x5 x6 k s.1) ((([]:List (qyo)),0,0),(none,(0,([]:List (qyp×Nat))))) F ?_)
 intro k0
 rintro ⟨⟨x8,x9,x10⟩,⟨a1,c1⟩⟩
 try dsimp only
 refine qB (m':=qby F x1 x2 x3 x4 x5 x6 (kJ F x1 x2 x3 x4 x5 x6 k0) x8 x9 x10) rfl ?_
 refine av [118] ?_ ?_
 intro _
 refine au [74] ?_
 refine qh (fun (((x11,x12),(a2,c2)):((List (qyo)×Int)×(qyp×(Nat×List (qyp×Nat)))))=>([(1,.pointer (some ⟨g9,0,none⟩)),(2,.slice a2 x11.length c2.1),(4,qyq x12),(14,qyq x1),(15,qyq x10)],[⟨g9,53,[qyq x1,qyq x2,qyq x3,qyq x4,qyq x5,.slice a7 x6.length c8]⟩],[RoN eN22 rN22 22 1 (.slice a2 x11.length c2.1) x11 c2.2 []],[Sl (eI .u8) 1 (.slice a7 x6.length c8) x6],jA F (kJ F x1 x2 x3 x4 x5 x6 k0) x10 x11 x12)) ?_ ?_
 refine au [19,62,91,1,1] ?_
 refine qg qh3 ?_
 intro x13 e0 _
 refine av [80,10,5,5,93,25,1,63] ?_ ?_
 intro _
 refine au [61,5,77,129,28,5] ?_
 exact qs (none,(0,([]:List (qyp×Nat))))
 intro _
 refine av [108,93,103] ?_ ?_
 intro _
 refine au [4,1,1,1,25,7,28,6] ?_
 intro x14 e1 g0 h0 g1 h1
 refine qdH (i:=0) rfl h0 (List.not_mem_nil) (qcS (j:=1) (p:=(x14,g0)) zX rfl rfl tf22 rfl h1 h0 rfl (fun _=>rfl) rfl rfl ?_)
 refine au [79,130,24,9] ?_
 intro g2
 refine au [97,62,12,97,61,12,25,4,1,1,1,24,4,31,12] ?_
 rintro x15 e2 ⟨a3,c3⟩
 refine au [80,10,5,5,60,3,3] ?_
 refine qcR (rin:=rN22) (p:=(x14,g0)) (i:=1) (k:=0) (.cons 1 rfl .nil) rfl rfl h0 ?_
 refine av [4,1,81] ?_ ?_
 intro _
 refine au [61,5,77,129,28,5] ?_
 exact qs (none,(0,([]:List (qyp×Nat))))
 intro _
 refine au [74,4,1,1] ?_
 refine qn (vs:=[.slice a3 x15.1.length c3]) (ys:=([(x15.1,(a3,c3))]:List (qyo×(qyp×Nat)))) zX (by decide) rfl Tryz.underlying28 tf22 rfl rfl rfl rfl rfl (by decide) (fun a4 c4=>qd2 (rin:=rN22) (i:=0) ([x15.1]:List (qyo)) ([(a3,c3)]:List (qyp×Nat)) rfl rfl (.cons 1 rfl .nil) (qiZ zX rfl UnF.u inferInstance rfl rfl rfl rfl (.cons 1 rfl (.cons 0 rfl .nil)) rfl rfl ?_))
 intro x16 e3 a5 c5
 refine au [1,5,5,0,24,10] ?_
 exact qb ((x16,x15.2.1),(a5,(c5,(c1.2++([(a3,c3)]:List (qyp×Nat))))))
 intro _
 refine au [108,130,24,9] ?_
 intro g3
 refine au [97,62,12,97,61,12,25,4,1,1,1,24,4,26,3,31,12] ?_
 rintro x17 e4 ⟨a6,c6⟩
 refine av [80,10,5,5,93,81] ?_ ?_
 intro _
 refine au [61,5,77,129,28,5] ?_
 exact qs (none,(0,([]:List (qyp×Nat))))
 intro _
 refine au [74,4,1,1] ?_
 refine qn (vs:=[.slice a6 x17.1.length c6]) (ys:=([(x17.1,(a6,c6))]:List (qyo×(qyp×Nat)))) zX (by decide) rfl Tryz.underlying28 tf22 rfl rfl rfl rfl rfl (by decide) (fun a8 c7=>qd2 (rin:=rN22) (i:=0) ([x17.1]:List (qyo)) ([(a6,c6)]:List (qyp×Nat)) rfl rfl (.cons 0 rfl .nil) (qiZ zX rfl UnF.u inferInstance rfl rfl rfl rfl (.cons 2 rfl (.cons 0 rfl .nil)) rfl rfl ?_))
 intro x18 e5 a9 c9
 refine au [1,5,5,0,24,10] ?_
 exact qb ((x18,x17.2.1),(a9,(c9,(c1.2++([(a6,c6)]:List (qyp×Nat))))))
 rintro ⟨⟨x11,x12⟩,⟨a2,c2⟩⟩
 try dsimp only
 refine au [4,23,1,0] ?_
 exact qr ((x11,x12,iadd .i64 x10 1),(a2,c2))
 intro _
 refine au [87] ?_
 exact qb ((x8,x9),(a1,c1))
 rintro ⟨⟨x0,x7⟩,⟨a0,c0⟩⟩
 try dsimp only
 refine au [3] ?_
 refine qy mixed [] [⟨g9,53,[qyq x1,qyq x2,qyq x3,qyq x4,qyq x5,.slice a7 x6.length c8]⟩] [Sl (eI .u8) 1 (.slice a7 x6.length c8) x6] (.cons 0 rfl .nil) (qt 0 rfl qw) 8 rfl ?_
 refine au [88,24,0,2,24,0,3,25,2,4,7,5,7,6,7,7,24,8] ?_
 refine qx ?_ (by intro c h;cases h)
 refine au [2,9] ?_
 exact qs (a0,c0)
set_option maxHeartbeats 4000000 in
theorem qei {F:Nat}{x1:qyo}{a2:qyp}{c3:Nat}{x4:qyo}{a5:qyp}{c6:Nat}{r:Bool}(hm:qU F x1 x4=some r) :
    Pure Tryz.prog 87 [.slice a2 x1.length c3,.slice a5 x4.length c6] [Sl (eI .u8) 1 (.slice a2 x1.length c3) x1,Sl (eI .u8) 1 (.slice a5 x4.length c6) x4] Unit (fun _=>.bool r) (fun _=>[]) (fun _=>[]):=by
 refine ql Tryz.func87 rfl Tryz.ntmps87 rfl hm (fun w=>?_)
 refine av [69,93,89,24,6,81] ?_ ?_
 intro _
 exact az [61,99]
 intro _
 refine au [74] ?_
 refine qh (fun ((_,_):(Unit×Unit))=>([],[],[],[],qax F)) ?_ ?_
 refine au [124] ?_
 refine qu (fun ((x0,_):(Int×Unit))=>([(0,.slice a2 x1.length c3),(1,.slice a5 x4.length c6),(12,qyq (x1.length:Int)),(13,qyq x0)],[],[],[Sl (eI .u8) 1 (.slice a2 x1.length c3) x1,Sl (eI .u8) 1 (.slice a5 x4.length c6) x4])) (fun k (s:(Int×Unit))=>qR F x1 x4 k s.1) (0,()) F ?_
 intro k0
 rintro ⟨x0,_⟩
 try dsimp only
 refine qB (m':=zo F x1 x4 (qR F x1 x4 k0) x0) rfl ?_
 refine av [118] ?_ ?_
 intro _
 refine au [74,3,19,62,60,3,31,5] ?_
 intro x2 e0 b0 o0 h0
 replace h0:a2=some ⟨b0,o0,none⟩:=h0
 refine au [35,13] ?_
 intro x3 e1 b1 o1 h1
 replace h1:a5=some ⟨b1,o1,none⟩:=h1
 refine qy mixed [] [] [qK b1 (o1+x0.toNat*1) ((eI .u8) x3),qK b0 (o0+x0.toNat*1) ((eI .u8) x2),Sl (eI .u8) 1 (.slice a2 x1.length c3) x1,Sl (eI .u8) 1 (.slice a5 x4.length c6) x4] .nil (qt 0 rfl (qt 1 rfl (qt 2 rfl (qt 3 rfl qw)))) 9 rfl ?_
 refine au [88] ?_
 refine qi (d:=16) (v:=.slice (some ⟨b0,o0,none⟩) x1.length c3) rfl (by rw[h0] <;> rfl) (qm 2 (.pointer (some ⟨b0,(o0+x0.toNat*1),none⟩)) rfl rfl rfl (vI Tryz.underlying23 tf5 rfl rfl (qP e0).1 (yr e0)) (qi (d:=16) (v:=.slice a2 x1.length c3) rfl (by rw[h0] <;> rfl) (qO 3 (.int .u8 x2) [] rfl rfl rfl (zG (j:=1) rfl tf5 rfl rfl (fun _=>rfl) rfl) ?_)))
 refine au [115] ?_
 refine qi (d:=20) (v:=.slice (some ⟨b1,o1,none⟩) x4.length c6) rfl (by rw[h1] <;> rfl) (qm 6 (.pointer (some ⟨b1,(o1+x0.toNat*1),none⟩)) rfl rfl rfl (vI Tryz.underlying23 tf5 rfl rfl (qP e1).1 (yr e1)) (qi (d:=20) (v:=.slice a5 x4.length c6) rfl (by rw[h1] <;> rfl) (qO 7 (.int .u8 x3) [] rfl rfl rfl (zG (j:=0) rfl tf5 rfl rfl (fun _=>rfl) rfl) ?_)))
 refine au [7,8,24,8] ?_
 refine qx ?_ (by intro c h;cases h)
 refine av [2,11] ?_ ?_
 intro _
 exact az [61,64,129,18]
 intro _
 refine au [13,78,4,23,1,0] ?_
 exact qr (iadd .i64 x0 1,())
 intro _
 exact az [87,26,0]
 rintro ⟨_,_⟩
 try dsimp only
 exact az [61,85]
set_option maxHeartbeats 4000000 in
theorem qhq (F:Nat)(x1:Int)(x2:Int)(x3:Int)(x4:Int)(x5:Int)(x6:qyo)(a7:qyp)(c8:Nat)(r:(List (qyo)×Int))(hm:qaK F x1 x2 x3 x4 x5 x6=some r) :
    Pure Tryz.prog 18 [.agg #[qyq x1,qyq x2,qyq x3,qyq x4,qyq x5,.slice a7 x6.length c8]] [Sl (eI .u8) 1 (.slice a7 x6.length c8) x6] (qyp×(Nat×List (qyp×Nat))) (fun g=>.tuple #[.agg #[.slice g.1 r.1.length g.2.1],qyq r.2]) (fun g=>[RoN eN22 rN22 22 1 (.slice g.1 r.1.length g.2.1) r.1 g.2.2 []]) (fun _=>[]):=by
 refine ql Tryz.func18 rfl Tryz.ntmps18 rfl hm (fun w=>?_)
 refine au [25,9,82] ?_
 intro g9
 refine au [24,9] ?_
 intro g10
 refine au [60,3,61,25,4] ?_
 refine qg qkz ?_
 intro x13 e13 _
 refine av [75,81] ?_ ?_
 intro _
 refine au [61] ?_
 refine qo (cells:=[.slice none 0 0]) rfl st30 rfl (by kernel_rfl) rfl ?_
 refine au [1,24,3,77,28,5] ?_
 exact qF (none,(0,([]:List (qyp×Nat)))) (resL (rs:=[.cell 2 30,.tmp 3]) rfl (.cell (i:=0) rfl tf30 rfl rfl (by simp) rfl (.tmp rfl ResOk.nil)) rfl) (fun h=>by subst h;exact (.cons 0 rfl .nil))
 intro _
 refine au [108,25,4] ?_
 refine qg qkA ?_
 rintro x14 e14 ⟨a15,c16⟩
 refine av [80,5,93,25,1,63] ?_ ?_
 intro _
 refine au [61] ?_
 refine qo (cells:=[.slice none 0 0]) rfl st30 rfl (by kernel_rfl) rfl ?_
 refine au [24,3,77,28,5] ?_
 exact qF (none,(0,([]:List (qyp×Nat)))) (resL (rs:=[.cell 2 30,.tmp 3]) rfl (.cell (i:=0) rfl tf30 rfl rfl (by simp) rfl (.tmp rfl ResOk.nil)) rfl) (fun h=>by subst h;exact (.cons 0 rfl .nil))
 intro _
 refine au [74,62] ?_
 refine qo (cells:=[.slice a15 x14.1.length c16.1]) rfl st30 rfl (by kernel_rfl) rfl ?_
 refine au [24,9] ?_
 intro g18
 refine au [97,3,61,24,4,12,26,2] ?_
 refine zx ent17 rfl rfl rfl (fun x28 e28=>qaT F x14.1 a15 c16 x2 x3 x4 x28 e28) (.consG 0 rfl (zW qfv) .nil) (fun x28 e28=>?_)
 rintro ⟨a29,c30⟩
 refine au [95] ?_
 intro g31
 refine au [24,3,75,25,0,1] ?_
 refine qq 9 (fun ((x34,_):(Bool×Unit))=>([(2,.pointer (some ⟨g10,0,none⟩)),(7,.pointer (some ⟨g18,0,none⟩)),(44,.bool x34)],[⟨g18,30,[.slice a15 x14.1.length c16.1]⟩,⟨g10,30,[.slice none 0 0]⟩],[RoN eN22 rN22 22 1 (.slice a15 x14.1.length c16.1) x14.1 c16.2 []],[],qb9 F x14 x34)) ?_ ?_
 refine qa (os:=_) rfl ?_
 refine av [24,12] ?_ ?_
 intro h32
 refine qf (k:=35) rfl h32 ?_
 refine au [72,72,16,0] ?_
 exact qb (true,())
 intro h32
 refine qe (k:=35) rfl h32 ?_
 refine au [12,73,12,12,28,12,30,3] ?_
 intro x36 e36 _
 refine au [25,1,17,0] ?_
 exact qb ((!x36),())
 rintro ⟨x34,_⟩
 try dsimp only
 refine qa (os:=_) rfl ?_
 refine av [63] ?_ ?_
 intro _
 refine au [61] ?_
 refine qo (cells:=[.slice none 0 0]) rfl st30 rfl (by kernel_rfl) rfl ?_
 refine au [25,8,77,28,5] ?_
 exact qF (none,(0,([]:List (qyp×Nat)))) (resL (rs:=[.cell 2 30,.tmp 3]) rfl (.cell (i:=1) rfl tf30 rfl rfl (by simp) rfl (.tmp rfl ResOk.nil)) rfl) (fun h=>by subst h;exact (.cons 0 rfl .nil))
 intro _
 refine au [108,24,4,25,8,64] ?_
 exact qF (a15,c16) (resL (rs:=[.cell 2 30,.tmp 3]) rfl (.cell (i:=1) rfl tf30 rfl rfl (by simp) rfl (.tmp rfl ResOk.nil)) rfl) (fun h=>by subst h;exact (.cons 0 rfl .nil))
theorem qd7 (F:Nat)(x1:List (qyo))(a2:qyp)(c3:(Nat×List (qyp×Nat)))(x4:Int)(x5:Int)(x6:Int)(r:(qyo×qyo×Int))(hm:qaL F x1 x4 x5 x6=some r) :
    Pure Tryz.prog 19 [.agg #[.slice a2 x1.length c3.1],.agg #[qyq x4,qyq x5,qyq x6]] [SlN eN22 iN22 1 (.slice a2 x1.length c3.1) x1 c3.2] ((qyp×Nat)×(qyp×Nat)) (fun g=>.tuple #[.slice g.1.1 r.1.length g.1.2,.slice g.2.1 r.2.1.length g.2.2,qyq r.2.2]) (fun g=>[Ro (eI .i64) 3 1 (.slice g.1.1 r.1.length g.1.2) r.1,Ro (eI .i64) 3 1 (.slice g.2.1 r.2.1.length g.2.2) r.2.1]) (fun _=>[]):=by
 refine ql Tryz.func19 rfl Tryz.ntmps19 rfl hm (fun w=>?_)
 refine au [94] ?_
 intro g7
 refine au [24,1] ?_
 intro g8
 refine au [5,5,79,25,4,24,4,35,12] ?_
 rintro x9 e9 ⟨⟨a10,c11⟩,⟨a12,c13⟩,⟨a14,c15⟩,g16⟩
 refine av [80,5,93,81] ?_ ?_
 intro _
 refine au [62,5,5,114,25,5] ?_
 exact qs ((none,0),(none,0))
 intro _
 refine au [74,3] ?_
 refine qy mixed [] [⟨g16,136,[qyq x9.1,qyq x9.2.1,qyq x9.2.2.1,qyq x9.2.2.2.1,qyq x9.2.2.2.2.1,.slice a10 x9.2.2.2.2.2.1.length c11,.slice a12 x9.2.2.2.2.2.2.1.length c13,.slice a14 x9.2.2.2.2.2.2.2.1.length c15]⟩,⟨g8,27,[qyq x4,qyq x5,qyq x6]⟩,⟨g7,30,[.slice a2 x1.length c3.1]⟩] [SlN eN22 iN22 1 (.slice a2 x1.length c3.1) x1 c3.2] (.cons 0 rfl (.cons 0 rfl (.cons 0 rfl .nil))) (qt 0 rfl qw) 11 rfl ?_
 refine au [88,24,0,2,25,2,3,115,24,0,6,25,2,7,7,8,7,9,7,10,24,8] ?_
 refine qx ?_ (by intro c h;cases h)
 refine au [2,9] ?_
 exact qs ((a12,c13),(a14,c15))
set_option maxHeartbeats 4000000 in
theorem qkE {F:Nat}{x1:Int}{x2:qyo}{a3:qyp}{c4:Nat}{x5:Int}{r:Int}(hm:qcf F x1 x2 x5=some r) :
    Pure Tryz.prog 88 [.agg #[qyq x1,.slice a3 x2.length c4],qyq x5] [Sl (eI .u8) 1 (.slice a3 x2.length c4) x2] Unit (fun _=>qyq r) (fun _=>[]) (fun _=>[]):=by
 refine ql Tryz.func88 rfl Tryz.ntmps88 rfl hm (fun w=>?_)
 refine au [94] ?_
 intro g6
 refine au [91,28,1] ?_
 intro x7 e7 _
 refine au [60] ?_
 refine qh (fun ((x13,_):(Int×Unit))=>([(5,qyq x13)],[],[],[],qbD F x13)) ?_ ?_
 refine au [98,1] ?_
 refine qq 7 (fun ((x16,_):(Bool×Unit))=>([(5,qyq x7),(17,.bool x16)],[],[],[],qbE F x7 x16)) ?_ ?_
 refine qa (os:=_) rfl ?_
 refine av [24,12] ?_ ?_
 intro h14
 refine qf (k:=10) rfl h14 ?_
 refine au [1,125] ?_
 refine qk 3 (decide (x5<1)) [(5,qyq x7),(10,.bool true),(16,.bool ((decide (x5<1)) || (decide (64<x5))))] (fun h18=>?_) (fun h18=>?_) ?_
 refine qa (os:=_) rfl (qf (k:=13) rfl h18 ?_)
 refine au [66,16] ?_
 refine qc (d:=16) (v:=.bool ((decide (x5<1)) || (decide (64<x5)))) rfl (by rw[h18];simp only[qv4]) ?_
 exact az [68]
 refine qa (os:=_) rfl (qe (k:=13) rfl h18 ?_)
 refine au [1,92] ?_
 refine qc (d:=16) (v:=.bool ((decide (x5<1)) || (decide (64<x5)))) rfl (by rw[h18];simp only[qv2]) ?_
 exact az [68]
 refine qa (os:=_) rfl ?_
 refine au [16,0] ?_
 exact qb (((decide (x5<1)) || (decide (64<x5))),())
 intro h14
 refine qe (k:=10) rfl h14 ?_
 refine au [72,90,0] ?_
 exact qb (false,())
 rintro ⟨x16,_⟩
 try dsimp only
 refine qa (os:=_) rfl ?_
 refine av [63] ?_ ?_
 intro _
 refine au [4,5,0] ?_
 exact qb ((3:Int),())
 intro _
 refine au [13] ?_
 exact qb (x7,())
 rintro ⟨x13,_⟩
 try dsimp only
 exact az [62,85]
theorem qlQ {F:Nat}{x1:Int}{x2:qyo}{a3:qyp}{c4:Nat}{x5:Int}{x6:Int}{r:Int}(hm:qbO F x1 x2 x5 x6=some r) :
    Pure Tryz.prog 174 [.agg #[qyq x1,.slice a3 x2.length c4],qyq x5,qyq x6] [Sl (eI .u8) 1 (.slice a3 x2.length c4) x2] Unit (fun _=>qyq r) (fun _=>[]) (fun _=>[]):=by
 refine ql Tryz.func174 rfl Tryz.ntmps174 rfl hm (fun w=>?_)
 refine au [106] ?_
 intro g7
 refine au [60] ?_
 refine qh (fun ((x23,_):(Int×Unit))=>([(6,qyq x23)],[],[],[],qfc F x23)) ?_ ?_
 refine au [62,60,19] ?_
 refine qu (fun (((x28,x29),_):((Int×Int)×Unit))=>([(2,qyq x6),(3,.pointer (some ⟨g7,0,none⟩)),(6,qyq x28),(7,qyq x29)],[⟨g7,25,[qyq x1,.slice a3 x2.length c4]⟩],[],[Sl (eI .u8) 1 (.slice a3 x2.length c4) x2])) (fun k (s:((Int×Int)×Unit))=>vW F x1 x2 x6 k s.1) ((0,x5),()) F ?_
 intro k34
 rintro ⟨⟨x28,x29⟩,_⟩
 try dsimp only
 refine qB (m':=qcg F x1 x2 x6 (vW F x1 x2 x6 k34) x28 x29) rfl ?_
 refine av [83,1,101] ?_ ?_
 intro _
 refine au [74,3,19,4,1,24,4,1,27,10] ?_
 intro x37 e37 _
 refine au [25,11,23,5,0,78,4,1,23,5,0] ?_
 exact qr ((iadd .i64 x28 (iconv .i64 x37),iadd .i64 x29 1),())
 intro _
 refine au [87] ?_
 exact qb (x28,())
 rintro ⟨x23,_⟩
 try dsimp only
 exact az [62,85]
end Go.Proofs.YtmoikolponkmpaaGreat
