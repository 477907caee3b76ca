/- Each Go function of this seat computes what its model says, part 3. -/
import Derived.Test.YthibchijlpflmaaGreatDoorWalks2
open Bool renaming false_or→qqT, true_or→qqU
open List renaming replicate→qqF, length_set→qqR, not_mem_nil→qq0
namespace Go.Proofs.YthibchijlpflmaaGreatDoor
open Go SX
set_option linter.unusedSimpArgs false
set_option maxHeartbeats 4000000 in
theorem qgv {F:Nat}{g1:Nat}{x2:List (qsO)}{a3:qsP}{c4:Nat}{s4:List (qsP×Nat)}{x5:Int}{x6:Int}{x7:Int}{x8:qsO}{a9:qsP}{c10:Nat}{x11:qsO}{r:Unit}(hm:vI F x2 x5 x6 x7 x8 x11=some r) :
    PureM Tryz.prog 43 [qsS g1] [⟨g1,85,[qsR a3 x2 c4,qsQ x5,qsQ x6,qsQ x7,qsR a9 x8 c10,.string (bstr x11)]⟩] [] [SlN eN56 iN56 1 (qsR a3 x2 c4) x2 s4,qsT a9 x8 c10] (Nat×Nat×Nat×Nat×Nat) (fun g=>.map (some g.1)) (fun g=>[(blkO g.1 (mapT [(([110,111,100,101,115]:qsO),.agg #[qsQ 1,.func (.func 58) #[qsS g1] #[]]),(([97,114,99]:qsO),.agg #[qsQ 2,.func (.func 59) #[qsS g1] #[]]),(([100,114,111,112]:qsO),.agg #[qsQ 2,.func (.func 60) #[qsS g1] #[]]),(([104,111,119]:qsO),.agg #[qsQ 3,.func (.func 61) #[qsS g1] #[]]),(([98,105,116,115]:qsO),.agg #[qsQ 0,.func (.func 62) #[qsS g1] #[]]),(([108,105,115,116]:qsO),.agg #[qsQ 1,.func (.func 63) #[qsS g1] #[]]),(([102,97,114]:qsO),.agg #[qsQ 2,.func (.func 64) #[qsS g1] #[]]),(([119,97,121]:qsO),.agg #[qsQ 2,.func (.func 65) #[qsS g1] #[]]),(([112,97,114,116]:qsO),.agg #[qsQ 1,.func (.func 94) #[] #[qsS g.2.1,qsS g.2.2.1]]),(([111,114,100,101,114]:qsO),.agg #[qsQ 0,.func (.func 68) #[qsS g1] #[]]),(([99,111,114,101]:qsO),.agg #[qsQ 1,.func (.func 94) #[] #[qsS g.2.2.2.1,qsS g.2.2.2.2]]),(([116,104,114,101,101,115]:qsO),.agg #[qsQ 0,.func (.func 70) #[qsS g1] #[]])])),⟨g.2.1,83,[qsS g1]⟩,⟨g.2.2.1,107,[.func (.func 67) #[] #[]]⟩,⟨g.2.2.2.1,83,[qsS g1]⟩,⟨g.2.2.2.2,107,[.func (.func 69) #[] #[]]⟩,⟨g1,85,[qsR a3 x2 c4,qsQ x5,qsQ x6,qsQ x7,qsR a9 x8 c10,.string (bstr x11)]⟩]) (fun _=>[]):=by
 refine qE Tryz.func43 rfl Tryz.ntmps43 rfl hm (fun w=>?_)
 refine au [59,84] ?_
 refine qkY rfl rfl ?_
 intro g12
 refine au [3,27,13] ?_
 refine qq (cells:=[qsQ 1,.func (.func 58) #[qsS g1] #[]]) rfl st88 rfl (by kernel_rfl) rfl (kW (i:=0) (u:=([110,111,100,101,115]:qsO)) rfl Tryz.underlying90 Tryz.underlying9 rfl rfl rfl rfl (by kernel_rfl) ?_)
 refine au [3,27,13] ?_
 refine qq (cells:=[qsQ 2,.func (.func 59) #[qsS g1] #[]]) rfl st88 rfl (by kernel_rfl) rfl (kW (i:=0) (u:=([97,114,99]:qsO)) rfl Tryz.underlying90 Tryz.underlying9 rfl rfl rfl rfl (by kernel_rfl) ?_)
 refine au [3,27,13] ?_
 refine qq (cells:=[qsQ 2,.func (.func 60) #[qsS g1] #[]]) rfl st88 rfl (by kernel_rfl) rfl (kW (i:=0) (u:=([100,114,111,112]:qsO)) rfl Tryz.underlying90 Tryz.underlying9 rfl rfl rfl rfl (by kernel_rfl) ?_)
 refine au [3,27,13] ?_
 refine qq (cells:=[qsQ 3,.func (.func 61) #[qsS g1] #[]]) rfl st88 rfl (by kernel_rfl) rfl (kW (i:=0) (u:=([104,111,119]:qsO)) rfl Tryz.underlying90 Tryz.underlying9 rfl rfl rfl rfl (by kernel_rfl) ?_)
 refine au [3,27,13] ?_
 refine qq (cells:=[qsQ 0,.func (.func 62) #[qsS g1] #[]]) rfl st88 rfl (by kernel_rfl) rfl (kW (i:=0) (u:=([98,105,116,115]:qsO)) rfl Tryz.underlying90 Tryz.underlying9 rfl rfl rfl rfl (by kernel_rfl) ?_)
 refine au [3,27,13] ?_
 refine qq (cells:=[qsQ 1,.func (.func 63) #[qsS g1] #[]]) rfl st88 rfl (by kernel_rfl) rfl (kW (i:=0) (u:=([108,105,115,116]:qsO)) rfl Tryz.underlying90 Tryz.underlying9 rfl rfl rfl rfl (by kernel_rfl) ?_)
 refine au [3,27,13] ?_
 refine qq (cells:=[qsQ 2,.func (.func 64) #[qsS g1] #[]]) rfl st88 rfl (by kernel_rfl) rfl (kW (i:=0) (u:=([102,97,114]:qsO)) rfl Tryz.underlying90 Tryz.underlying9 rfl rfl rfl rfl (by kernel_rfl) ?_)
 refine au [3,27,13] ?_
 refine qq (cells:=[qsQ 2,.func (.func 65) #[qsS g1] #[]]) rfl st88 rfl (by kernel_rfl) rfl (kW (i:=0) (u:=([119,97,121]:qsO)) rfl Tryz.underlying90 Tryz.underlying9 rfl rfl rfl rfl (by kernel_rfl) ?_)
 refine au [3] ?_
 refine qF qb6 ?_
 rintro x13 e13 ⟨g14,g15⟩
 refine qq (cells:=[qsQ 1,.func (.func 94) #[] #[qsS g14,qsS g15]]) rfl st88 rfl (by kernel_rfl) rfl (kW (i:=3) (u:=([112,97,114,116]:qsO)) rfl Tryz.underlying90 Tryz.underlying9 rfl rfl rfl rfl (by kernel_rfl) ?_)
 refine au [3,27,13] ?_
 refine qq (cells:=[qsQ 0,.func (.func 68) #[qsS g1] #[]]) rfl st88 rfl (by kernel_rfl) rfl (kW (i:=3) (u:=([111,114,100,101,114]:qsO)) rfl Tryz.underlying90 Tryz.underlying9 rfl rfl rfl rfl (by kernel_rfl) ?_)
 refine au [3] ?_
 refine qF qb5 ?_
 rintro x16 e16 ⟨g17,g18⟩
 refine qq (cells:=[qsQ 1,.func (.func 94) #[] #[qsS g17,qsS g18]]) rfl st88 rfl (by kernel_rfl) rfl (kW (i:=5) (u:=([99,111,114,101]:qsO)) rfl Tryz.underlying90 Tryz.underlying9 rfl rfl rfl rfl (by kernel_rfl) ?_)
 refine au [3,27,13] ?_
 refine qq (cells:=[qsQ 0,.func (.func 70) #[qsS g1] #[]]) rfl st88 rfl (by kernel_rfl) rfl (kW (i:=5) (u:=([116,104,114,101,101,115]:qsO)) rfl Tryz.underlying90 Tryz.underlying9 rfl rfl rfl rfl (by kernel_rfl) ?_)
 refine au [3,49] ?_
 exact qX (g12,g14,g15,g17,g18)
set_option maxHeartbeats 4000000 in
theorem qg3 {F:Nat}{g1:Nat}{x2:List (qsO)}{a3:qsP}{c4:Nat}{s4:List (qsP×Nat)}{x5:Int}{x6:Int}{x7:Int}{x8:qsO}{a9:qsP}{c10:Nat}{x11:qsO}{x12:Int}{v13:Value}{x14:List (qsO)}{a15:qsP}{c16:Nat}{r:(Bool×qsO)}(hm:q8 F x2 x5 x6 x7 x8 x11 x12 x14=some r) :
    PureM Tryz.prog 44 [qsS g1,.agg #[qsQ x12,v13],qsR a15 x14 c16] [⟨g1,85,[qsR a3 x2 c4,qsQ x5,qsQ x6,qsQ x7,qsR a9 x8 c10,.string (bstr x11)]⟩] [qsU a9 x8 c10] [SlN eN56 iN56 1 (qsR a3 x2 c4) x2 s4,Sl eT 1 (qsR a15 x14 c16) x14,GF] (qsP×Nat) (fun _=>.bool r.1) (fun g=>[⟨g1,85,[qsR a3 x2 c4,qsQ x5,qsQ x6,qsQ x7,qsR g.1 r.2 g.2,.string (bstr x11)]⟩]) (fun g=>[qsU g.1 r.2 g.2]):=by
 refine qE Tryz.func44 rfl Tryz.ntmps44 rfl hm (fun w=>?_)
 refine au [111,22] ?_
 intro g17
 refine au [46] ?_
 refine qj (fun ((x0,(a0,c0)):(qsO×(qsP×Nat)))=>([(2,qsR a15 x14 c16),(4,qsS g17)],[⟨g17,88,[qsQ x12,v13]⟩,⟨g1,85,[qsR a3 x2 c4,qsQ x5,qsQ x6,qsQ x7,qsR a0 x0 c0,.string (bstr x11)]⟩],[qsU a0 x0 c0],[Sl eT 1 (qsR a15 x14 c16) x14,SlN eN56 iN56 1 (qsR a3 x2 c4) x2 s4,GF],qbo F x12 x14 x0)) ?_ ?_
 refine au [72,3,76] ?_
 refine qB (fun (((x1,x3),(a1,c1)):((Int×qsO)×(qsP×Nat)))=>([(0,qsS g1),(2,qsR a15 x14 c16),(4,qsS g17),(11,qsR a15 x14 c16),(12,qsQ (x14.length:Int)),(13,qsQ x1)],[⟨g17,88,[qsQ x12,v13]⟩,⟨g1,85,[qsR a3 x2 c4,qsQ x5,qsQ x6,qsQ x7,qsR a1 x3 c1,.string (bstr x11)]⟩],[qsU a1 x3 c1],[Sl eT 1 (qsR a15 x14 c16) x14,SlN eN56 iN56 1 (qsR a3 x2 c4) x2 s4,GF])) (fun k (s:((Int×qsO)×(qsP×Nat)))=>zk F x12 x14 k s.1) ((0,x8),(a9,c10)) F ?_
 intro k0
 rintro ⟨⟨x1,x3⟩,⟨a1,c1⟩⟩
 try dsimp only
 refine qH (m':=kq F x12 x14 (zk F x12 x14 k0) x1 x3) rfl ?_
 refine av [96] ?_ ?_
 intro _
 refine au [83,47] ?_
 refine yM (j:=0) qU (by decide) rfl UnF.u inferInstance rfl rfl rfl rfl ?_
 intro x4 e0 b0 o0
 refine au [25,2,58] ?_
 refine yj ent71 rfl rfl rfl (fun x9 e1=>qpe x4 x9 e1) (.consF 3 rfl .nil) (fun x9 e1=>?_)
 intro g0
 refine au [93,5,85] ?_
 refine qmS rfl Tryz.underlying50 rfl rfl ?_
 refine au [3] ?_
 refine qO 3 (!x9.2) [(0,qsS g1),(2,qsR a15 x14 c16),(4,qsS g17),(11,qsR a15 x14 c16),(12,qsQ (x14.length:Int)),(13,qsQ x1),(8,.string (bstr x4)),(9,qsQ x9.1),(27,.bool ((!x9.2) || (decide (x9.1<0))))] (fun h0=>?_) (fun h0=>?_) ?_
 refine qc (os:=_) rfl (qA (k:=24) rfl h0 ?_)
 refine au [61,24,7] ?_
 refine qa (d:=27) (v:=.bool ((!x9.2) || (decide (x9.1<0)))) rfl (by rw[h0];simp only[qqU]) ?_
 exact az [51]
 refine qc (os:=_) rfl (qz (k:=24) rfl h0 ?_)
 refine au [3,24,3,24,9] ?_
 refine qa (d:=27) (v:=.bool ((!x9.2) || (decide (x9.1<0)))) rfl (by rw[h0];simp only[qqT]) ?_
 exact az [51]
 refine qc (os:=_) rfl ?_
 refine au [3] ?_
 refine qO 4 ((!x9.2) || (decide (x9.1<0))) [(0,qsS g1),(2,qsR a15 x14 c16),(4,qsS g17),(11,qsR a15 x14 c16),(12,qsQ (x14.length:Int)),(13,qsQ x1),(8,.string (bstr x4)),(9,qsQ x9.1),(32,.bool (((!x9.2) || (decide (x9.1<0))) || (decide (4<(x4.length:Int)))))] (fun h1=>?_) (fun h1=>?_) ?_
 refine qc (os:=_) rfl (qA (k:=28) rfl h1 ?_)
 refine au [61,7,24,7] ?_
 refine qa (d:=32) (v:=.bool (((!x9.2) || (decide (x9.1<0))) || (decide (4<(x4.length:Int))))) rfl (by rw[h1];simp only[qqU]) ?_
 exact az [51]
 refine qc (os:=_) rfl (qz (k:=28) rfl h1 ?_)
 refine au [3] ?_
 refine ql0 (a:=x4) rfl Tryz.underlying9 rfl rfl ?_
 refine au [81] ?_
 refine qa (d:=32) (v:=.bool (((!x9.2) || (decide (x9.1<0))) || (decide (4<(x4.length:Int))))) rfl (by rw[h1];simp only[qqT]) ?_
 exact az [51]
 refine qc (os:=_) rfl ?_
 refine au [3] ?_
 refine zp 5 (fun ((x10,_):(Bool×Unit))=>([(0,qsS g1),(2,qsR a15 x14 c16),(4,qsS g17),(9,qsQ x9.1),(11,qsR a15 x14 c16),(12,qsQ (x14.length:Int)),(13,qsQ x1),(38,.bool x10)],[⟨g17,88,[qsQ x12,v13]⟩,⟨g1,85,[qsR a3 x2 c4,qsQ x5,qsQ x6,qsQ x7,qsR a1 x3 c1,.string (bstr x11)]⟩],[qsU a1 x3 c1],[Sl eT 1 (qsR a15 x14 c16) x14,SlN eN56 iN56 1 (qsR a3 x2 c4) x2 s4,GF],yN F (zk F x12 x14 k0) x1 x3 x9 x10)) ?_ ?_
 refine qc (os:=_) rfl ?_
 refine av [25,14] ?_ ?_
 intro h2
 refine qA (k:=33) rfl h2 ?_
 refine au [65,106] ?_
 exact qb (true,())
 intro h2
 refine qz (k:=33) rfl h2 ?_
 refine au [3] ?_
 refine yj ent24 rfl rfl rfl (fun x13 e2=>qdv x9.1 x13 e2) (.consF 3 rfl .nil) (fun x13 e2 _=>?_)
 refine au [3] ?_
 refine qoZ rfl UnF.u rfl rfl rfl ?_
 refine au [109] ?_
 exact qb ((!(bstr x13 == bstr x4)),())
 rintro ⟨x10,_⟩
 try dsimp only
 refine qc (os:=_) rfl ?_
 refine av [50] ?_ ?_
 intro _
 refine au [47,60,92,52] ?_
 exact qX (a1,c1)
 intro _
 refine au [57,4,3,3,55,25,6,3] ?_
 refine qV (vs:=[qsQ x9.1]) (ys:=([x9.1]:qsO)) (qu .i64) (by decide) rfl Tryz.underlying56 tf3 rfl rfl rfl rfl rfl (by decide) (fun a2 c2=>zu 1 (qu .i64) rfl Tryz.underlying56 tf3 rfl rfl rfl rfl rfl (.inl ⟨0,_,rfl⟩) rfl rfl (fun x15 e3 a4 c3=>?_))
 refine au [55,120,99] ?_
 exact qr ((iadd .i64 x1 1,x15),(a4,c3))
 intro _
 refine au [73] ?_
 exact qb (x3,(a1,c1))
 rintro ⟨x0,⟨a0,c0⟩⟩
 try dsimp only
 refine au [72,78,25,5,49] ?_
 exact qX (a0,c0)
theorem qgx (F:Nat)(g1:Nat)(x2:List (qsO))(a3:qsP)(c4:(Nat×List (qsP×Nat)))(x5:Int)(x6:Int)(x7:Int)(x8:qsO)(a9:qsP)(c10:Nat)(x11:qsO)(r:(Int×List (qsO)))(hm:qcZ F x2 x5 x6 x7 x8 x11=some r) :
    PureM Tryz.prog 58 [qsS g1] [⟨g1,85,[qsR a3 x2 c4.1,qsQ x5,qsQ x6,qsQ x7,qsR a9 x8 c10,.string (bstr x11)]⟩] [RoN eN56 rN56 56 1 (qsR a3 x2 c4.1) x2 c4.2 []] [qsT a9 x8 c10] (qsP×(Nat×List (qsP×Nat))) (fun _=>qsQ r.1) (fun g=>[⟨g1,85,[qsR g.1 r.2 g.2.1,qsQ x5,qsQ x6,qsQ x7,qsR a9 x8 c10,.string (bstr x11)]⟩]) (fun g=>[RoN eN56 rN56 56 1 (qsR g.1 r.2 g.2.1) r.2 g.2.2 []]):=by
 refine qE Tryz.func58 rfl Tryz.ntmps58 rfl hm (fun w=>?_)
 refine au [59,85,114,26,2] ?_
 intro x16 e16 b17 o18
 refine av [25,2,104] ?_ ?_
 intro _
 refine au [47,60] ?_
 exact qX (a3,c4)
 intro _
 refine au [57,87,114,28,9] ?_
 intro x19 e19 b20 o21
 refine au [25,2,29,8] ?_
 intro x22 e22 a23 c24
 refine qq (cells:=[qsR a23 x22 c24]) rfl st24 rfl (by kernel_rfl) rfl ?_
 refine au [55,9,119,47,49] ?_
 exact qX (a23,(c24,(qqF x22.length ((none,0):qsP×Nat))))
theorem vd {F:Nat}{x1:List (Int×Int)}{a2:qsP}{c3:Nat}{g4:Nat}{x5:List (qsO)}{a6:qsP}{c7:Nat}{s7:List (qsP×Nat)}{r:List (Int×Int)}(hm:zA F x1 x5=some r) :
    PureM Tryz.prog 158 [qsR a2 x1 c3,.func (.func 159) #[] #[qsS g4]] [⟨g4,24,[qsR a6 x5 c7]⟩] [Ro eS63 63 2 (qsR a2 x1 c3) x1] [SlN eN56 iN56 1 (qsR a6 x5 c7) x5 s7] (qsP×Nat) (fun g=>qsR g.1 r g.2) (fun _=>[⟨g4,24,[qsR a6 x5 c7]⟩]) (fun g=>[Ro eS63 63 2 (qsR g.1 r g.2) r]):=by
 refine qbf Tryz.func158 rfl Tryz.ntmps158 rfl hm (fun w=>?_)
 refine au [118] ?_
 intro g8
 refine au [85,76] ?_
 refine jW (encs:=(fun (p:(Int×Int))=>[.agg #[qsQ p.1,qsQ p.2]])) (y:=(fun (x46:List (Int×Int)) ((x55,x56):(Int×Int))=>ke F x46 x55 x56)) (lb:=[qsS g4]) (fun (x46:List (Int×Int)) ((a44,c45):(qsP×Nat))=>[⟨g8,58,[qsR a44 x46 c45]⟩]) (fun (x46:List (Int×Int)) ((a44,c45):(qsP×Nat))=>[Ro eS63 63 2 (qsR a44 x46 c45) x46]) (fun (_:Empty) (_:Unit)=>[]) (fun (_:Empty) (_:Unit)=>[]) (fun _=>.skip) x1 (a2,c3) rfl ent159 (fun _=>rfl) rfl (.cons 1 rfl .nil) (.cons 0 rfl .nil) (.cons 0 rfl .nil) (.consF 0 rfl .nil) (fun z hz _ _ _ hY=>qbP F hY x1 (a2,c3) g4 x5 a6 (c7,s7) z hz) ?_ ?_ ?_
 rintro rc1 L1 D1 x46 ⟨a44,c45⟩ ⟨x55,x56⟩ z w M _
 try dsimp only
 refine qbi [(0,qsR a2 x1 c3),(1,.func (.func 159) #[] #[qsS g4]),(2,qsS g8),(4,.slice none 0 0),(6,.func (.func 159) #[] #[qsS g4]),(7,.agg #[qsQ x55,qsQ x56])] (qw rfl (qw rfl (qw rfl (qw rfl (qw rfl (qw rfl qbK)))))) ?_
 refine au [4,24,4] ?_
 intro g57
 refine au [86,33,1,14,4,25,6,24,10] ?_
 refine qV (vs:=[.agg #[qsQ x55,qsQ x56]]) (ys:=([(x55,x56)]:List (Int×Int))) qb2 (by decide) rfl Tryz.underlying58 tf63 rfl rfl rfl rfl rfl (by decide) (fun a58 c59=>zu 1 qb2 rfl Tryz.underlying58 tf63 rfl rfl rfl rfl rfl (.inl ⟨0,_,rfl⟩) rfl rfl (fun x60 e60 a61 c62=>?_))
 refine au [120,24,2] ?_
 exact yw (rc:=rc1) rfl (.cons 2 rfl .nil) rfl (a61,c62) (.cons 2 rfl (.cons 0 rfl (.cons 1 rfl .nil))) (.cons 0 rfl .nil)
 rintro x46 _ ⟨a44,c45⟩ D1
 try dsimp only
 refine au [63,47,26,1,49] ?_
 exact y1 [D1] (a44,c45) (.inl rfl) rfl (.cons 0 rfl .nil) (res1 rfl rfl) (fun h=>by subst h;rfl) (fun h=>by subst h;exact (.cons 0 rfl .nil)) (fun h=>by subst h;exact (.cons 0 rfl .nil))
 intro t;exact t.elim
theorem jY {F:Nat}{g1:Nat}{x2:List (qsO)}{a3:qsP}{c4:Nat}{s4:List (qsP×Nat)}{r:List (Int×Int)}(hm:zG F x2=some r) :
    PureM Tryz.prog 113 [.func (.func 159) #[] #[qsS g1]] [⟨g1,24,[qsR a3 x2 c4]⟩] [] [SlN eN56 iN56 1 (qsR a3 x2 c4) x2 s4] (qsP×Nat) (fun g=>qsR g.1 r g.2) (fun _=>[⟨g1,24,[qsR a3 x2 c4]⟩]) (fun g=>[Ro eS63 63 2 (qsR g.1 r g.2) r]):=by
 refine qE Tryz.func113 rfl Tryz.ntmps113 rfl hm (fun w=>?_)
 refine au [59,58,33,2] ?_
 refine qF vd ?_
 rintro x5 e5 ⟨a6,c7⟩
 refine au [49] ?_
 exact qX (a6,c7)
theorem qki {F:Nat}{x1:List (qsO)}{a2:qsP}{c3:Nat}{s3:List (qsP×Nat)}{r:(List (Int×Int)×Int)}(hm:qcO F x1=some r) :
    Pure Tryz.prog 82 [.agg #[qsR a2 x1 c3]] [SlN eN56 iN56 1 (qsR a2 x1 c3) x1 s3] (qsP×Nat) (fun g=>.tuple #[qsR g.1 r.1 g.2,qsQ r.2]) (fun g=>[Ro eS63 63 2 (qsR g.1 r.1 g.2) r.1]) (fun _=>[]):=by
 refine qs Tryz.func82 rfl Tryz.ntmps82 rfl hm (fun w=>?_)
 refine au [59,22] ?_
 intro g4
 refine au [5,71,74,28,0] ?_
 intro x7 e7 _
 refine av [58,70] ?_ ?_
 intro _
 refine au [48,5,60] ?_
 exact qdu (Int×Int) eS63 63 2 (qI (none,0))
 intro _
 refine au [57,74,30,3] ?_
 intro x8 e8 g9
 refine qF jY ?_
 rintro x10 e10 ⟨a11,c12⟩
 refine au [5,49] ?_
 exact qI (a11,c12)
set_option maxHeartbeats 4000000 in
theorem qjh {F:Nat}{x1:Int}{x2:List (Int×Int)}{a3:qsP}{c4:Nat}{r:List (qsO)}(hm:j1 F x1 x2=some r) :
    Pure Tryz.prog 115 [qsQ x1,qsR a3 x2 c4] [Sl eS63 2 (qsR a3 x2 c4) x2] (qsP×(Nat×List (qsP×Nat))) (fun g=>.agg #[qsR g.1 r g.2.1]) (fun g=>[RoN eN56 rN56 56 1 (qsR g.1 r g.2.1) r g.2.2 []]) (fun _=>[]):=by
 refine qs Tryz.func115 rfl Tryz.ntmps115 rfl hm (fun w=>?_)
 refine au [56,24,4] ?_
 intro g5
 refine au [45,48,29,8] ?_
 intro x6 e6 a7 c8
 refine qq (cells:=[qsR a7 x6 c8]) rfl st24 rfl (by kernel_rfl) rfl ?_
 refine au [24,4] ?_
 intro g9
 refine au [119] ?_
 refine qj (fun ((x0,g0):(List (qsO)×List (qsP×Nat)))=>([(4,qsS g5),(5,qsS g9)],[⟨g9,24,[qsR a7 x0 c8]⟩,⟨g5,24,[.slice none 0 0]⟩],[RoN eN56 rN56 56 1 (qsR a7 x0 c8) x0 g0 []],[],qeq F x0)) ?_ ?_
 refine au [72,3,76] ?_
 refine qB (fun (((x3,x4),g1):((Int×List (qsO))×List (qsP×Nat)))=>([(4,qsS g5),(5,qsS g9),(11,qsR a3 x2 c4),(12,qsQ (x2.length:Int)),(13,qsQ x3)],[⟨g9,24,[qsR a7 x4 c8]⟩,⟨g5,24,[.slice none 0 0]⟩],[RoN eN56 rN56 56 1 (qsR a7 x4 c8) x4 g1 []],[Sl eS63 2 (qsR a3 x2 c4) x2])) (fun k (s:((Int×List (qsO))×List (qsP×Nat)))=>yF F x2 k s.1) ((0,x6),(qqF x6.length ((none,0):qsP×Nat))) F ?_
 intro k0
 rintro ⟨⟨x3,x4⟩,g1⟩
 try dsimp only
 refine qH (m':=jV F x2 (yF F x2 k0) x3 x4) rfl ?_
 refine av [96] ?_ ?_
 intro _
 refine au [83,47,31,6] ?_
 intro x5 e0 b0 o0
 refine au [28,14,24,4] ?_
 intro g2
 refine au [119,29,9] ?_
 intro x7 e1 g3 h0 g4 h1
 replace h1:a7=some ⟨g4,0,none⟩:=h1
 have h2:=zE (k:=x4.length) (c:=c8) h1
 refine qcS (i:=0) rfl h0 (qq0) ?_
 refine au [28,13] ?_
 intro x8 e2 g6 h3 g7 h4
 replace h4:a7=some ⟨g7,0,none⟩:=h4
 have h5:=zE (k:=x4.length) (c:=c8) h4
 refine qt mixed [15] [⟨g2,63,[qsQ x5.1,qsQ x5.2]⟩,⟨g9,24,[qsR a7 x4 c8]⟩,⟨g5,24,[.slice none 0 0]⟩] [qC b0 o0 (eS63 x5),Sl eS63 2 (qsR a3 x2 c4) x2,qC g4 (x5.1.toNat*1) (eN56 (x7,g3)),qC g7 (x5.1.toNat*1) (eN56 (x8,g6))] (.cons 0 rfl (.cons 0 rfl (.cons 0 rfl .nil))) (qf 0 rfl (qf 1 rfl (qP 1 rfl (qW qy h0 h1) (qP 1 rfl (qW qy h3 h4) qh)))) 16 rfl ?_
 refine au [15,0,26,4,1,15,2,24,14,3,15,4,26,4,5,15,6,24,14,7] ?_
 refine qg (d:=22) (v:=qsR (some ⟨g4,0,none⟩) x4 c8) rfl (by simp only[qsR,h1] <;> rfl) (qe 8 (.pointer (some ⟨g4,x5.1.toNat*1,none⟩)) rfl rfl rfl (zU Tryz.underlying22 tf56 rfl rfl (qo e1).1 (zf e1)) (qg (d:=22) (v:=qsR a7 x4 c8) rfl (by simp only[qsR,h1] <;> rfl) (qJ 9 (qsR g3.1 x7 g3.2) [[15]] rfl rfl rfl (q7 (j:=2) rfl tf56 rfl rfl (fun _=>rfl) rfl) ?_)))
 refine au [15,10,24,14,11,13,12] ?_
 refine qV (vs:=[qsQ x5.2]) (ys:=([x5.2]:qsO)) (qu .i64) (by decide) rfl Tryz.underlying56 tf3 rfl rfl rfl rfl rfl (by decide) (fun a0 c0=>?_)
 refine au [0] ?_
 refine qi (.cons 0 rfl (.cons 0 rfl (.cons 0 rfl .nil))) (qf 0 rfl (qf 1 rfl (qP 2 rfl (qW qy h0 h1) (qP 2 rfl (qW qy h3 h4) qh)))) ?_
 refine au [13,13] ?_
 refine zu 1 (qu .i64) rfl Tryz.underlying56 tf3 rfl rfl rfl rfl rfl (.inl ⟨0,_,rfl⟩) rfl rfl (fun x9 e3 a1 c1=>?_)
 refine au [0] ?_
 refine qi (.cons 0 rfl (.cons 0 rfl (.cons 0 rfl .nil))) (qf 0 rfl (qf 1 rfl (qP 2 rfl (qW qy h0 h1) (qP 2 rfl (qW qy h3 h4) qh)))) (qg (d:=18) (v:=qsR (some ⟨g7,0,none⟩) x4 c8) rfl (by simp only[qsR,h4] <;> rfl) (qe 14 (.pointer (some ⟨g7,x5.1.toNat*1,none⟩)) rfl rfl rfl (zU Tryz.underlying22 tf56 rfl rfl (qo e2).1 (zf e2)) (qg (d:=18) (v:=qsR a7 x4 c8) rfl (by simp only[qsR,h4] <;> rfl) ?_)))
 refine au [13,15] ?_
 refine vi (j:=2) (kh:=0) (y':=x9) (q':=(a1,c1)) qy rfl rfl rfl tf56 rfl (zE h4) rfl (qo e2).2.1 rfl (.cons 0 rfl .nil) (fun x10 e4 h6 g8=>?_)
 have h7:x10.length=x4.length:=by rw[← e4,qqR]
 refine qa (d:=18) (v:=qsR a7 x10 c8) rfl (by simp only[qsR,h6] <;> rfl) (qa (d:=22) (v:=qsR a7 x10 c8) rfl (by simp only[qsR,h6] <;> rfl) (ze (i:=1) (cs':=[qsR a7 x10 c8]) rfl (by simp only[qsR,h6] <;> rfl) ?_))
 refine au [0] ?_
 refine kw 15 rfl (by kernel_rfl) (.cons 0 rfl (.cons 0 (by simp only[qsR,h7] <;> rfl) (.cons 0 rfl .nil))) ?_
 refine au [16] ?_
 refine qm ?_ (by intro c h;cases h)
 refine au [99] ?_
 exact qr ((iadd .i64 x3 1,x10),g8)
 intro _
 refine au [73] ?_
 exact qb (x4,g1)
 rintro ⟨x0,g0⟩
 try dsimp only
 refine au [74,25,4,45,8] ?_
 exact qS (a7,(c8,g0)) (resL (rs:=[.cell 4 24]) rfl (.cell (i:=1) rfl tf24 rfl rfl (by simp) rfl ResOk.nil) rfl) (fun h=>by subst h;exact (.cons 0 rfl .nil))
theorem qbm {F:Nat}{x1:List (Int×Int)}{a2:qsP}{c3:Nat}{r:Unit}(hm:z8 F x1=some r) :
    PureM Tryz.prog 117 [qsR a2 x1 c3] [] [] [Sl eS63 2 (qsR a2 x1 c3) x1] Nat (fun g=>.func (.func 161) #[] #[qsS g]) (fun g=>[⟨g,58,[qsR a2 x1 c3]⟩]) (fun _=>[]):=by
 refine qE Tryz.func117 rfl Tryz.ntmps117 rfl hm (fun w=>?_)
 refine au [59,22] ?_
 intro g4
 refine au [84,27,4,49] ?_
 exact qX g4
theorem qka [inst:DM]{F:Nat}{x1:qsO}{a2:qsP}{c3:Nat}{r:Int}(hm:qcN F x1=some r) :
    Pure Tryz.prog 162 [qsR a2 x1 c3] [qsT a2 x1 c3] Unit (fun _=>qsQ r) (fun _=>[]) (fun _=>[]):=by
 refine qs Tryz.func162 rfl Tryz.ntmps162 rfl hm (fun w=>?_)
 refine au [59,84,46] ?_
 refine qj (fun ((_,_):(Unit×Unit))=>([(3,qsQ 0)],[],[],[],qeR F)) ?_ ?_
 refine au [72,3,76] ?_
 refine qB (fun ((x46,_):(Int×Unit))=>([(3,qsQ 0),(6,qsR a2 x1 c3),(7,qsQ (x1.length:Int)),(8,qsQ x46)],[],[],[qsT a2 x1 c3])) (fun k (s:(Int×Unit))=>yx F x1 k s.1) (0,()) F ?_
 intro k57
 rintro ⟨x46,_⟩
 try dsimp only
 refine qH (m':=kV F x1 (yx F x1 k57) x46) rfl ?_
 refine av [96] ?_ ?_
 intro _
 refine au [83,47,26,2] ?_
 intro x63 e63 b64 o65
 refine av [25,2,58,3,70] ?_ ?_
 intro _
 exact az [48,49,92,108]
 intro _
 refine au [11,99] ?_
 exact qr (iadd .i64 x46 1,())
 intro _
 exact az [73,26,8]
 rintro ⟨_,_⟩
 try dsimp only
 exact az [48,68]
theorem qie [inst:DM]{F:Nat}{x1:Int}{r:Bool}(hm:yU F x1=some r) :
    Pure Tryz.prog 190 [qsQ x1] [] Unit (fun _=>.bool r) (fun _=>[]) (fun _=>[]):=by
 refine qs Tryz.func190 rfl Tryz.ntmps190 rfl hm (fun w=>?_)
 exact az [59,58,3,25,1,68]
set_option maxHeartbeats 4000000 in
theorem qgY [inst:DM]{F:Nat}{x1:Int}{x2:Int}{r:Int}(hm:y2 F x1 x2=some r) :
    Pure Tryz.prog 163 [qsQ x1,qsQ x2] [] Unit (fun _=>qsQ r) (fun _=>[]) (fun _=>[]):=by
 refine qs Tryz.func163 rfl Tryz.ntmps163 rfl hm (fun w=>?_)
 refine au [56,58,30,5] ?_
 intro x3 e3 _
 refine au [58,30,5] ?_
 intro x4 e4 _
 refine av [85,50] ?_ ?_
 intro _
 refine av [1,48,50] ?_ ?_
 intro _
 exact az [47,60,12,24,0]
 intro _
 exact az [115,77]
 intro _
 refine av [82,48,50] ?_ ?_
 intro _
 exact az [47,77]
 intro _
 refine av [82,87,91] ?_ ?_
 intro _
 exact az [47,77]
 intro _
 refine av [82,87,104] ?_ ?_
 intro _
 exact az [47,77]
 intro _
 exact az [115,68]
theorem qjj [inst:DM](F:Nat)(x1:Int)(x2:Int)(x3:Int)(x4:Int)(r:Int)(hm:qbZ F x1 x2 x3 x4=some r) :
    Pure Tryz.prog 118 [.agg #[qsQ x1,qsQ x2],.agg #[qsQ x3,qsQ x4]] [] Unit (fun _=>qsQ r) (fun _=>[]) (fun _=>[]):=by
 refine qs Tryz.func118 rfl Tryz.ntmps118 rfl hm (fun w=>?_)
 refine au [118] ?_
 intro g5
 refine au [22] ?_
 intro g6
 refine au [71] ?_
 refine qt mixed [] [⟨g6,63,[qsQ x3,qsQ x4]⟩,⟨g5,63,[qsQ x1,qsQ x2]⟩] [] (.cons 0 rfl (.cons 0 rfl .nil)) qh 13 rfl ?_
 refine au [15,0,26,4,1,15,2,24,14,3,15,5,26,4,6,15,7,24,14,8,13,4,33,3] ?_
 intro x12 e12 _
 refine au [0,30,6,13,9,33,3] ?_
 intro x13 e13 _
 refine au [0,30,6,13,10] ?_
 refine qV (vs:=[qsQ x12,qsQ x13]) (ys:=([x12,x13]:qsO)) (qu .i64) (by decide) rfl Tryz.underlying56 tf3 rfl rfl rfl rfl rfl (by decide) (fun a14 c15=>?_)
 refine au [0,30,6,13,11] ?_
 refine qk qka ?_
 intro x16 e16 _
 refine au [0,30,6,6,12,16] ?_
 refine qm ?_ (by intro c h;cases h)
 exact az [2,8,24,0]
set_option maxHeartbeats 4000000 in
theorem qaQ (F:Nat){σ τ:Type}{J:Rounds σ τ}{yy:σ→(Int×Int)→Option (σ ⊕ τ)}{L:Nat}(hY:YieldC Tryz.prog L (fun (p:(Int×Int))=>[.agg #[qsQ p.1,qsQ p.2]]) J yy)(s0:σ)(gs0:J.γ)(g1:Nat)(x2:List (Int×Int))(a3:qsP)(c4:Nat)(r:σ ⊕ τ)(hm:kI F yy x2 s0=some r) :
    PureM Tryz.prog 161 ([.func (.yield L) #[] #[],qsS g1]) ([⟨g1,58,[qsR a3 x2 c4]⟩]++J.IB s0 gs0) (J.IR s0 gs0) [J.F,Sl eS63 2 (qsR a3 x2 c4) x2] (J.G r) (fun _=>.tuple #[]) (fun g=>[⟨g1,58,[qsR a3 x2 c4]⟩]++J.bs r g) (fun g=>J.rs r g):=by
 refine qE Tryz.func161 rfl Tryz.ntmps161 rfl hm (fun w=>?_)
 refine au [56,21,122,76] ?_
 refine yv (fun (((x23,x24),g25):((Int×σ)×J.γ))=>[(0,.func (.yield L) #[] #[]),(5,qsR a3 x2 c4),(6,qsQ (x2.length:Int)),(7,qsQ x23)]) (fun (((x23,x24),g25):((Int×σ)×J.γ))=>[⟨g1,58,[qsR a3 x2 c4]⟩]++J.IB x24 g25) (fun (((x23,x24),g25):((Int×σ)×J.γ))=>[]++J.IR x24 g25) (fun (((x23,x24),g25):((Int×σ)×J.γ))=>[Sl eS63 2 (qsR a3 x2 c4) x2,J.F]) (fun k (s:((Int×σ)×J.γ))=>za F yy x2 k s.1) ((0,s0),gs0) F ?_ (hB:=(.cons 0 rfl (qn 0 rfl))) (hR:=(qn 0 rfl)) (hF:=(qp 1 rfl (qp 0 rfl zx)))
 intro k44
 rintro ⟨⟨x23,x24⟩,g25⟩
 try dsimp only
 refine qH (m':=zH F yy x2 (za F yy x2 k44) x23 x24) rfl ?_
 refine av [96] ?_ ?_
 intro _
 refine au [83,47,31,6] ?_
 intro x54 e54 b55 o56
 refine au [28,14,24,4] ?_
 intro g57
 refine au [119,48,24,10] ?_
 refine qcT hY x24 (x54.1,x54.2) g25 (B1:=[⟨g57,63,[qsQ x54.1,qsQ x54.2]⟩,⟨g1,58,[qsR a3 x2 c4]⟩]) (R1:=[]) (j:=2) rfl rfl rfl rfl rfl rfl rfl (fun x58 _ g60=>?_) (fun x59 _ g60=>?_)
 refine au [25,8,45] ?_
 refine kD (b:=false) rfl (fun h=>by cases h) (fun _=>?_)
 refine au [11,99] ?_
 exact yz ((iadd .i64 x23 1,x58),g60) (hB:=(.cons 1 rfl (qn 1 rfl))) (hR:=(qn 0 rfl)) (hF:=(qp 1 rfl (qp 2 rfl zx)))
 refine au [25,8,45] ?_
 refine kD (b:=true) rfl (fun _=>?_) (fun h=>by cases h)
 refine au [8,92,24,5] ?_
 exact y0 (B0:=[⟨g1,58,[qsR a3 x2 c4]⟩]) (x:=.inr x59) g60 (.inl rfl) (res0 rfl) (.cons 1 rfl (qn 1 rfl)) (qn 0 rfl)
 intro _
 refine au [73] ?_
 exact y0 (B0:=[⟨g1,58,[qsR a3 x2 c4]⟩]) (x:=.inl x24) g25 (.inr rfl) (res0 rfl) (.cons 0 rfl (qn 0 rfl)) (qn 0 rfl)
theorem kA {F:Nat}{x1:List (Int×Int)}{a2:qsP}{c3:Nat}{g4:Nat}{x5:List (Int×Int)}{a6:qsP}{c7:Nat}{r:List (Int×Int)}(hm:q5 F x1 x5=some r) :
    PureM Tryz.prog 158 [qsR a2 x1 c3,.func (.func 161) #[] #[qsS g4]] [⟨g4,58,[qsR a6 x5 c7]⟩] [Ro eS63 63 2 (qsR a2 x1 c3) x1] [Sl eS63 2 (qsR a6 x5 c7) x5] (qsP×Nat) (fun g=>qsR g.1 r g.2) (fun _=>[⟨g4,58,[qsR a6 x5 c7]⟩]) (fun g=>[Ro eS63 63 2 (qsR g.1 r g.2) r]):=by
 refine qbf Tryz.func158 rfl Tryz.ntmps158 rfl hm (fun w=>?_)
 refine au [118] ?_
 intro g8
 refine au [85,76] ?_
 refine jW (encs:=(fun (p:(Int×Int))=>[.agg #[qsQ p.1,qsQ p.2]])) (y:=(fun (x46:List (Int×Int)) ((x55,x56):(Int×Int))=>zl F x46 x55 x56)) (lb:=[qsS g4]) (fun (x46:List (Int×Int)) ((a44,c45):(qsP×Nat))=>[⟨g8,58,[qsR a44 x46 c45]⟩]) (fun (x46:List (Int×Int)) ((a44,c45):(qsP×Nat))=>[Ro eS63 63 2 (qsR a44 x46 c45) x46]) (fun (_:Empty) (_:Unit)=>[]) (fun (_:Empty) (_:Unit)=>[]) (fun _=>.skip) x1 (a2,c3) rfl ent161 (fun _=>rfl) rfl (.cons 1 rfl .nil) (.cons 0 rfl .nil) (.cons 0 rfl .nil) (.consF 0 rfl .nil) (fun z hz _ _ _ hY=>qaQ F hY x1 (a2,c3) g4 x5 a6 c7 z hz) ?_ ?_ ?_
 rintro rc1 L1 D1 x46 ⟨a44,c45⟩ ⟨x55,x56⟩ z w M _
 try dsimp only
 refine qbi [(0,qsR a2 x1 c3),(1,.func (.func 161) #[] #[qsS g4]),(2,qsS g8),(4,.slice none 0 0),(6,.func (.func 161) #[] #[qsS g4]),(7,.agg #[qsQ x55,qsQ x56])] (qw rfl (qw rfl (qw rfl (qw rfl (qw rfl (qw rfl qbK)))))) ?_
 refine au [4,24,4] ?_
 intro g57
 refine au [86,33,1,14,4,25,6,24,10] ?_
 refine qV (vs:=[.agg #[qsQ x55,qsQ x56]]) (ys:=([(x55,x56)]:List (Int×Int))) qb2 (by decide) rfl Tryz.underlying58 tf63 rfl rfl rfl rfl rfl (by decide) (fun a58 c59=>zu 1 qb2 rfl Tryz.underlying58 tf63 rfl rfl rfl rfl rfl (.inl ⟨0,_,rfl⟩) rfl rfl (fun x60 e60 a61 c62=>?_))
 refine au [120,24,2] ?_
 exact yw (rc:=rc1) rfl (.cons 2 rfl .nil) rfl (a61,c62) (.cons 2 rfl (.cons 0 rfl (.cons 1 rfl .nil))) (.cons 0 rfl .nil)
 rintro x46 _ ⟨a44,c45⟩ D1
 try dsimp only
 refine au [63,47,26,1,49] ?_
 exact y1 [D1] (a44,c45) (.inl rfl) rfl (.cons 0 rfl .nil) (res1 rfl rfl) (fun h=>by subst h;rfl) (fun h=>by subst h;exact (.cons 0 rfl .nil)) (fun h=>by subst h;exact (.cons 0 rfl .nil))
 intro t;exact t.elim
theorem yf {F:Nat}{g1:Nat}{x2:List (Int×Int)}{a3:qsP}{c4:Nat}{r:List (Int×Int)}(hm:qY F x2=some r) :
    PureM Tryz.prog 113 [.func (.func 161) #[] #[qsS g1]] [⟨g1,58,[qsR a3 x2 c4]⟩] [] [Sl eS63 2 (qsR a3 x2 c4) x2] (qsP×Nat) (fun g=>qsR g.1 r g.2) (fun _=>[⟨g1,58,[qsR a3 x2 c4]⟩]) (fun g=>[Ro eS63 63 2 (qsR g.1 r g.2) r]):=by
 refine qE Tryz.func113 rfl Tryz.ntmps113 rfl hm (fun w=>?_)
 refine au [59,58,33,2] ?_
 refine qF kA ?_
 rintro x5 e5 ⟨a6,c7⟩
 refine au [49] ?_
 exact qX (a6,c7)
theorem vm {F:Nat}{x1:List (Int×Int)}{a2:qsP}{c3:Nat}{r:List (Int×Int)}(hm:zD F x1=some r) :
    PureM Tryz.prog 160 [qsR a2 x1 c3,.func (.func 118) #[] #[]] [] [Ro eS63 63 2 (qsR a2 x1 c3) x1] [] Unit (fun _=>.tuple #[]) (fun _=>[]) (fun _=>[Ro eS63 63 2 (qsR a2 r c3) r]) :=
  qlO (cb:=[]) (BC:=[]) (Φ:=[]) qb2 (by decide) (qmD _) (fun p cap w=>Tryz.sortn160 p cap _ w) (fun a b z h=>(toM1 (qjj (inst:=dm1) F a.1 a.2 b.1 b.2 z h))) hm
theorem kf {F:Nat}{g1:Nat}{x2:List (Int×Int)}{a3:qsP}{c4:Nat}{r:List (Int×Int)}(hm:qD F x2=some r) :
    PureM Tryz.prog 116 [.func (.func 161) #[] #[qsS g1],.func (.func 118) #[] #[]] [⟨g1,58,[qsR a3 x2 c4]⟩] [] [Sl eS63 2 (qsR a3 x2 c4) x2] (qsP×Nat) (fun g=>qsR g.1 r g.2) (fun _=>[⟨g1,58,[qsR a3 x2 c4]⟩]) (fun g=>[Ro eS63 63 2 (qsR g.1 r g.2) r]):=by
 refine qE Tryz.func116 rfl Tryz.ntmps116 rfl hm (fun w=>?_)
 refine au [56,58] ?_
 refine qF yf ?_
 rintro x5 e5 ⟨a6,c7⟩
 refine au [58,3] ?_
 refine qF vm ?_
 intro x8 e8 _
 refine au [26,10] ?_
 intro h9
 replace h9:=of_decide_eq_true h9
 refine qa (d:=5) (v:=qsR a6 x8 c7) rfl (by simp only[qsR,h9] <;> rfl) (qa (d:=7) (v:=qsR a6 x8 c7) rfl (by simp only[qsR,h9] <;> rfl) (qa (d:=8) (v:=qsR a6 x8 c7) rfl (by simp only[qsR,h9] <;> rfl) ?_))
 refine au [45,48,49] ?_
 exact qX (a6,c7)
set_option maxHeartbeats 4000000 in
theorem qmg {F:Nat}{x1:Int}{x2:List (Int×Int)}{a3:qsP}{c4:Nat}{r:(List (qsO)×Int)}(hm:qeF F x1 x2=some r) :
    Pure Tryz.prog 83 [qsQ x1,qsR a3 x2 c4] [Sl eS63 2 (qsR a3 x2 c4) x2] (qsP×(Nat×List (qsP×Nat))) (fun g=>.tuple #[.agg #[qsR g.1 r.1 g.2.1],qsQ r.2]) (fun g=>[RoN eN56 rN56 56 1 (qsR g.1 r.1 g.2.1) r.1 g.2.2 []]) (fun _=>[]):=by
 refine qs Tryz.func83 rfl Tryz.ntmps83 rfl hm (fun w=>?_)
 refine au [56,24,4] ?_
 intro g5
 refine au [71,14,48,24,3,3] ?_
 refine qO 3 (decide (x1<0)) [(0,qsQ x1),(1,qsR a3 x2 c4),(4,qsS g5),(17,.bool ((decide (x1<0)) || (decide (100<x1))))] (fun h9=>?_) (fun h9=>?_) ?_
 refine qc (os:=_) rfl (qA (k:=14) rfl h9 ?_)
 refine au [61,24,7] ?_
 refine qa (d:=17) (v:=.bool ((decide (x1<0)) || (decide (100<x1)))) rfl (by rw[h9];simp only[qqU]) ?_
 exact az [51]
 refine qc (os:=_) rfl (qz (k:=14) rfl h9 ?_)
 refine au [3,81] ?_
 refine qa (d:=17) (v:=.bool ((decide (x1<0)) || (decide (100<x1)))) rfl (by rw[h9];simp only[qqT]) ?_
 exact az [51]
 refine qc (os:=_) rfl ?_
 refine av [46,10] ?_ ?_
 intro _
 refine au [47] ?_
 refine qq (cells:=[.slice none 0 0]) rfl st24 rfl (by kernel_rfl) rfl ?_
 refine au [20,49,52,26,15] ?_
 exact qS (none,(0,([]:List (qsP×Nat)))) (resL (rs:=[.cell 4 24,.tmp 5]) rfl (.cell (i:=0) rfl tf24 rfl rfl (by simp) rfl (.tmp rfl ResOk.nil)) rfl) (fun h=>by subst h;exact (.cons 0 rfl .nil))
 intro _
 refine av [72,25,0,46,10] ?_ ?_
 intro _
 refine au [47] ?_
 refine qq (cells:=[.slice none 0 0]) rfl st24 rfl (by kernel_rfl) rfl ?_
 refine au [20,49,52,26,15] ?_
 exact qS (none,(0,([]:List (qsP×Nat)))) (resL (rs:=[.cell 4 24,.tmp 5]) rfl (.cell (i:=0) rfl tf24 rfl rfl (by simp) rfl (.tmp rfl ResOk.nil)) rfl) (fun h=>by subst h;exact (.cons 0 rfl .nil))
 intro _
 refine au [11,63,47] ?_
 refine ql2 (k0:=.i64) (k1:=.i64) rfl rfl (fun g10=>?_)
 refine au [46] ?_
 refine qj (fun ((_,_):(Unit×Unit))=>([(0,qsQ x1),(1,qsR a3 x2 c4),(4,qsS g5)],[⟨g5,24,[.slice none 0 0]⟩],[],[Sl eS63 2 (qsR a3 x2 c4) x2],qd6 F x1 x2)) ?_ ?_
 refine au [72,3,76] ?_
 refine qB (fun (((x0,x3),_):((Int×List (Int×Int))×Unit))=>([(0,qsQ x1),(1,qsR a3 x2 c4),(4,qsS g5),(6,.map (some g10)),(25,qsR a3 x2 c4),(26,qsQ (x2.length:Int)),(27,qsQ x0)],[(blkO g10 (mapO .i64 .i64 x3)),⟨g5,24,[.slice none 0 0]⟩],[],[Sl eS63 2 (qsR a3 x2 c4) x2])) (fun k (s:((Int×List (Int×Int))×Unit))=>vX F x1 x2 k s.1) ((0,([]:List (Int×Int))),()) F ?_
 intro k2
 rintro ⟨⟨x0,x3⟩,_⟩
 try dsimp only
 refine qH (m':=qbY F x1 x2 (vX F x1 x2 k2) x0 x3) rfl ?_
 refine av [96] ?_ ?_
 intro _
 refine au [83,47,31,6] ?_
 intro x4 e0 b0 o0
 refine au [28,14,24,4] ?_
 intro g0
 refine au [119,1,47,78,24,3,3] ?_
 refine qO 5 (decide (x4.1<0)) [(0,qsQ x1),(1,qsR a3 x2 c4),(4,qsS g5),(6,.map (some g10)),(25,qsR a3 x2 c4),(26,qsQ (x2.length:Int)),(27,qsQ x0),(8,qsS g0),(39,.bool ((decide (x4.1<0)) || (decide (x1≤x4.1))))] (fun h0=>?_) (fun h0=>?_) ?_
 refine qc (os:=_) rfl (qA (k:=34) rfl h0 ?_)
 refine au [65,24,7] ?_
 refine qa (d:=39) (v:=.bool ((decide (x4.1<0)) || (decide (x1≤x4.1)))) rfl (by rw[h0];simp only[qqU]) ?_
 exact az [51]
 refine qc (os:=_) rfl (qz (k:=34) rfl h0 ?_)
 refine au [78,3,26,5,24,9] ?_
 refine qa (d:=39) (v:=.bool ((decide (x4.1<0)) || (decide (x1≤x4.1)))) rfl (by rw[h0];simp only[qqT]) ?_
 exact az [51]
 refine qc (os:=_) rfl ?_
 refine au [3] ?_
 refine qO 4 ((decide (x4.1<0)) || (decide (x1≤x4.1))) [(0,qsQ x1),(1,qsR a3 x2 c4),(4,qsS g5),(6,.map (some g10)),(25,qsR a3 x2 c4),(26,qsQ (x2.length:Int)),(27,qsQ x0),(8,qsS g0),(44,.bool (((decide (x4.1<0)) || (decide (x1≤x4.1))) || (decide (x4.2<0))))] (fun h1=>?_) (fun h1=>?_) ?_
 refine qc (os:=_) rfl (qA (k:=40) rfl h1 ?_)
 refine au [61,7,24,7] ?_
 refine qa (d:=44) (v:=.bool (((decide (x4.1<0)) || (decide (x1≤x4.1))) || (decide (x4.2<0)))) rfl (by rw[h1];simp only[qqU]) ?_
 exact az [51]
 refine qc (os:=_) rfl (qz (k:=40) rfl h1 ?_)
 refine au [78,24,3,24,9] ?_
 refine qa (d:=44) (v:=.bool (((decide (x4.1<0)) || (decide (x1≤x4.1))) || (decide (x4.2<0)))) rfl (by rw[h1];simp only[qqT]) ?_
 exact az [51]
 refine qc (os:=_) rfl ?_
 refine au [3] ?_
 refine qO 5 (((decide (x4.1<0)) || (decide (x1≤x4.1))) || (decide (x4.2<0))) [(0,qsQ x1),(1,qsR a3 x2 c4),(4,qsS g5),(6,.map (some g10)),(25,qsR a3 x2 c4),(26,qsQ (x2.length:Int)),(27,qsQ x0),(8,qsS g0),(50,.bool ((((decide (x4.1<0)) || (decide (x1≤x4.1))) || (decide (x4.2<0))) || (decide (x1≤x4.2))))] (fun h2=>?_) (fun h2=>?_) ?_
 refine qc (os:=_) rfl (qA (k:=45) rfl h2 ?_)
 refine au [65,24,7] ?_
 refine qa (d:=50) (v:=.bool ((((decide (x4.1<0)) || (decide (x1≤x4.1))) || (decide (x4.2<0))) || (decide (x1≤x4.2)))) rfl (by rw[h2];simp only[qqU]) ?_
 exact az [51]
 refine qc (os:=_) rfl (qz (k:=45) rfl h2 ?_)
 refine au [78,3,26,5,24,9] ?_
 refine qa (d:=50) (v:=.bool ((((decide (x4.1<0)) || (decide (x1≤x4.1))) || (decide (x4.2<0))) || (decide (x1≤x4.2)))) rfl (by rw[h2];simp only[qqT]) ?_
 exact az [51]
 refine qc (os:=_) rfl ?_
 refine av [50] ?_ ?_
 intro _
 refine au [47] ?_
 refine qq (cells:=[.slice none 0 0]) rfl st24 rfl (by kernel_rfl) rfl ?_
 refine au [27,5,60,92,52,26,15] ?_
 exact qS (none,(0,([]:List (qsP×Nat)))) (resL (rs:=[.cell 4 24,.tmp 5]) rfl (.cell (i:=2) rfl tf24 rfl rfl (by simp) rfl (.tmp rfl ResOk.nil)) rfl) (fun h=>by subst h;exact (.cons 0 rfl .nil))
 intro _
 refine au [82,48,24,10] ?_
 refine ql1 (i:=1) (p:=(x4.1,x4.2)) rfl Tryz.underlying155 se63 tf156 rfl rfl rfl rfl ?_
 refine au [93,24,4] ?_
 intro g1
 refine av [20,58,50] ?_ ?_
 intro _
 refine au [47] ?_
 refine qq (cells:=[.slice none 0 0]) rfl st24 rfl (by kernel_rfl) rfl ?_
 refine au [28,15,60,92,52,26,15] ?_
 exact qS (none,(0,([]:List (qsP×Nat)))) (resL (rs:=[.cell 4 24,.tmp 5]) rfl (.cell (i:=3) rfl tf24 rfl rfl (by simp) rfl (.tmp rfl ResOk.nil)) rfl) (fun h=>by subst h;exact (.cons 0 rfl .nil))
 intro _
 refine au [57,4,3,25,7,33,4] ?_
 refine qmR (i:=2) (p:=(x4.1,x4.2)) rfl Tryz.underlying155 se63 rfl rfl rfl rfl (fun x5 e1=>?_)
 refine au [0,99] ?_
 exact qr ((iadd .i64 x0 1,x5),())
 intro _
 exact az [73,26,8]
 rintro ⟨_,_⟩
 try dsimp only
 refine au [87,33,5] ?_
 intro x6 e2 g2
 refine au [33,6] ?_
 rintro x7 e3 ⟨a0,c0⟩
 refine au [33,7] ?_
 rintro x8 e4 ⟨a1,c1⟩
 refine au [25,4,49] ?_
 exact qS (a1,c1) (resL (rs:=[.cell 4 24,.tmp 5]) rfl (.cell (i:=1) rfl tf24 rfl rfl (by simp) rfl (.tmp rfl ResOk.nil)) rfl) (fun h=>by subst h;exact (.cons 0 rfl .nil))
set_option maxHeartbeats 4000000 in
theorem qhF (F:Nat)(g1:Nat)(x2:List (qsO))(a3:qsP)(c4:(Nat×List (qsP×Nat)))(x5:Int)(x6:Int)(x7:Int)(x8:qsO)(a9:qsP)(c10:Nat)(x11:qsO)(r:(Int×List (qsO)))(hm:qby F x2 x5 x6 x7 x8 x11=some r) :
    PureM Tryz.prog 59 [qsS g1] [⟨g1,85,[qsR a3 x2 c4.1,qsQ x5,qsQ x6,qsQ x7,qsR a9 x8 c10,.string (bstr x11)]⟩] [RoN eN56 rN56 56 1 (qsR a3 x2 c4.1) x2 c4.2 []] [qsT a9 x8 c10] (qsP×(Nat×List (qsP×Nat))) (fun _=>qsQ r.1) (fun g=>[⟨g1,85,[qsR g.1 r.2 g.2.1,qsQ x5,qsQ x6,qsQ x7,qsR a9 x8 c10,.string (bstr x11)]⟩]) (fun g=>[RoN eN56 rN56 56 1 (qsR g.1 r.2 g.2.1) r.2 g.2.2 []]):=by
 refine qE Tryz.func59 rfl Tryz.ntmps59 rfl hm (fun w=>?_)
 refine au [59,58,55,110] ?_
 refine qk qki ?_
 rintro x12 e12 ⟨a13,c14⟩
 refine au [93,5,71,29,11] ?_
 intro x31 e31 b32 o33 h34
 replace h34:a9=some ⟨b32,o33,none⟩:=h34
 refine au [28,2] ?_
 intro x35 e35 b36 o37 h38
 replace h38:a9=some ⟨b36,o37,none⟩:=h38
 refine qt mixed [31] [] [qC b36 (o37+(1:Int).toNat*1) ((eI .i64) x35),qC b32 (o33+(0:Int).toNat*1) ((eI .i64) x31),qsT a9 x8 c10,(BlkD.is ⟨g1,85,[qsR a3 x2 c4.1,qsQ x5,qsQ x6,qsQ x7,qsR a9 x8 c10,.string (bstr x11)]⟩)] .nil (qf 0 rfl (qf 1 rfl (qf 2 rfl (qeK 0 rfl qh)))) 33 rfl ?_
 refine au [97,15,3,15,4,15,5] ?_
 refine qJ 6 (qsR a3 x2 c4.1) [[31]] rfl rfl rfl (kj (j:=3) rfl tf22 rfl rfl (fun _=>rfl) rfl) ?_
 refine au [28,1,7,6,8,6,9,6,10,15,11] ?_
 refine qJ 12 (qsR a9 x8 c10) [[31]] rfl rfl rfl (kj (j:=3) rfl tf56 rfl rfl (fun _=>rfl) rfl) (qg (d:=27) (v:=qsR (some ⟨b32,o33,none⟩) x8 c10) rfl (by simp only[qsR,h34] <;> rfl) (qe 13 (.pointer (some ⟨b32,(o33+(0:Int).toNat*1),none⟩)) rfl rfl rfl (k8 Tryz.underlying56 tf3 rfl rfl (qo e31).1 (zf e31)) (qg (d:=27) (v:=qsR a9 x8 c10) rfl (by simp only[qsR,h34] <;> rfl) (qJ 14 (qsQ x31) [[31]] rfl rfl rfl (q7 (j:=1) rfl tf3 rfl rfl (fun _=>rfl) rfl) ?_))))
 refine au [6,15,6,16,15,17] ?_
 refine qJ 18 (qsR a9 x8 c10) [[31]] rfl rfl rfl (kj (j:=3) rfl tf56 rfl rfl (fun _=>rfl) rfl) (qg (d:=33) (v:=qsR (some ⟨b36,o37,none⟩) x8 c10) rfl (by simp only[qsR,h38] <;> rfl) (qe 19 (.pointer (some ⟨b36,(o37+(1:Int).toNat*1),none⟩)) rfl rfl rfl (k8 Tryz.underlying56 tf3 rfl rfl (qo e35).1 (zf e35)) (qg (d:=33) (v:=qsR a9 x8 c10) rfl (by simp only[qsR,h38] <;> rfl) (qJ 20 (qsQ x35) [[31]] rfl rfl rfl (q7 (j:=0) rfl tf3 rfl rfl (fun _=>rfl) rfl) (qe 21 (.agg #[qsQ x31,qsQ x35]) rfl rfl rfl (qbj (cells:=[qsQ x31,qsQ x35]) st63 rfl (by kernel_rfl)) ?_)))))
 refine au [13,22] ?_
 refine qV (vs:=[.agg #[qsQ x31,qsQ x35]]) (ys:=([(x31,x35)]:List (Int×Int))) qb2 (by decide) rfl Tryz.underlying58 tf63 rfl rfl rfl rfl rfl (by decide) (fun a39 c40=>?_)
 refine au [0,31,7,13,23] ?_
 refine zu 1 qb2 rfl Tryz.underlying58 tf63 rfl rfl rfl rfl rfl (.inl ⟨0,_,rfl⟩) rfl rfl (fun x41 e41 a42 c43=>?_)
 refine au [0,31,7,13,24] ?_
 refine qk qmg ?_
 rintro x44 e44 ⟨a45,c46⟩
 refine au [0,31,7,6,25,6,26,6,27,6,28,15,29,15,30,13,31,86] ?_
 refine kw 31 rfl (by kernel_rfl) .nil ?_
 refine au [6,32,16] ?_
 refine qm ?_ (by intro c h;cases h)
 refine au [2,48,49] ?_
 exact qX (a45,c46)
theorem qfe (F:Nat)(x1:Int)(g2:Nat)(g3:Nat)(x4:List (qsO))(a5:qsP)(c6:(Nat×List (qsP×Nat)))(x7:Int)(x8:Int)(x9:Int)(x10:qsO)(a11:qsP)(c12:Nat)(x13:qsO)(r:Bool)(hm:y3 F x1 x4 x7 x8 x9 x10 x13=some r) :
    PureM Tryz.prog 120 [qsQ x1,qsS g2] [⟨g2,83,[qsS g3]⟩,⟨g3,85,[qsR a5 x4 c6.1,qsQ x7,qsQ x8,qsQ x9,qsR a11 x10 c12,.string (bstr x13)]⟩] [] [SlN eN56 iN56 1 (qsR a5 x4 c6.1) x4 c6.2,qsT a11 x10 c12] Unit (fun _=>.bool r) (fun _=>[⟨g2,83,[qsS g3]⟩,⟨g3,85,[qsR a5 x4 c6.1,qsQ x7,qsQ x8,qsQ x9,qsR a11 x10 c12,.string (bstr x13)]⟩]) (fun _=>[]):=by
 refine qE Tryz.func120 rfl Tryz.ntmps120 rfl hm (fun w=>?_)
 exact az [56,58,21,55,9,89,24,6,26,5,90]
set_option maxHeartbeats 4000000 in
theorem vl {F:Nat}{x1:qsO}{a2:qsP}{c3:Nat}{g4:Nat}{g5:Nat}{x6:List (qsO)}{a7:qsP}{c8:Nat}{s8:List (qsP×Nat)}{x9:Int}{x10:Int}{x11:Int}{x12:qsO}{a13:qsP}{c14:Nat}{x15:qsO}{r:Int}(hm:zC F x1 x6 x9 x10 x11 x12 x15=some r) :
    PureM Tryz.prog 129 [qsR a2 x1 c3,.func (.func 120) #[] #[qsS g4]] [⟨g4,83,[qsS g5]⟩,⟨g5,85,[qsR a7 x6 c8,qsQ x9,qsQ x10,qsQ x11,qsR a13 x12 c14,.string (bstr x15)]⟩] [] [qsT a2 x1 c3,SlN eN56 iN56 1 (qsR a7 x6 c8) x6 s8,qsT a13 x12 c14] Unit (fun _=>qsQ r) (fun _=>[⟨g4,83,[qsS g5]⟩,⟨g5,85,[qsR a7 x6 c8,qsQ x9,qsQ x10,qsQ x11,qsR a13 x12 c14,.string (bstr x15)]⟩]) (fun _=>[]):=by
 refine qE Tryz.func129 rfl Tryz.ntmps129 rfl hm (fun w=>?_)
 refine au [56,46] ?_
 refine qj (fun ((_,_):(Unit×Unit))=>([],[⟨g4,83,[qsS g5]⟩,⟨g5,85,[qsR a7 x6 c8,qsQ x9,qsQ x10,qsQ x11,qsR a13 x12 c14,.string (bstr x15)]⟩],[],[SlN eN56 iN56 1 (qsR a7 x6 c8) x6 s8,qsT a13 x12 c14],kg F)) ?_ ?_
 refine au [72,3,76] ?_
 refine qB (fun ((x66,_):(Int×Unit))=>([(0,qsR a2 x1 c3),(1,.func (.func 120) #[] #[qsS g4]),(7,qsQ (x1.length:Int)),(8,qsQ x66)],[⟨g4,83,[qsS g5]⟩,⟨g5,85,[qsR a7 x6 c8,qsQ x9,qsQ x10,qsQ x11,qsR a13 x12 c14,.string (bstr x15)]⟩],[],[qsT a2 x1 c3,SlN eN56 iN56 1 (qsR a7 x6 c8) x6 s8,qsT a13 x12 c14])) (fun k (s:(Int×Unit))=>qL F x1 x6 x9 x10 x11 x12 x15 k s.1) (0,()) F ?_
 intro k79
 rintro ⟨x66,_⟩
 try dsimp only
 refine qH (m':=qR F x1 x6 x9 x10 x11 x12 x15 (qL F x1 x6 x9 x10 x11 x12 x15 k79) x66) rfl ?_
 refine av [96] ?_ ?_
 intro _
 refine au [83,48,58,3,3,26,2] ?_
 intro x86 e86 b87 o88
 refine au [25,2] ?_
 refine qds ent120 rfl rfl rfl rfl (fun x89 e89=>qfe F x86 g4 g5 x6 a7 (c8,s8) x9 x10 x11 x12 a13 c14 x15 x89 e89) (.cons 0 rfl (.cons 0 rfl .nil)) .nil (.consF 2 rfl (.consF 3 rfl .nil)) (fun x89 e89 _=>?_)
 refine av [50] ?_ ?_
 intro _
 exact az [48,49,92,52,25,13]
 intro _
 refine au [11,99] ?_
 exact qr (iadd .i64 x66 1,())
 intro _
 exact az [73,26,8]
 rintro ⟨_,_⟩
 try dsimp only
 exact az [47,90]
theorem yS {F:Nat}{x1:qsO}{a2:qsP}{c3:Nat}{g4:Nat}{g5:Nat}{x6:List (qsO)}{a7:qsP}{c8:Nat}{s8:List (qsP×Nat)}{x9:Int}{x10:Int}{x11:Int}{x12:qsO}{a13:qsP}{c14:Nat}{x15:qsO}{r:Bool}(hm:zv F x1 x6 x9 x10 x11 x12 x15=some r) :
    PureM Tryz.prog 119 [qsR a2 x1 c3,.func (.func 120) #[] #[qsS g4]] [⟨g4,83,[qsS g5]⟩,⟨g5,85,[qsR a7 x6 c8,qsQ x9,qsQ x10,qsQ x11,qsR a13 x12 c14,.string (bstr x15)]⟩] [] [qsT a2 x1 c3,SlN eN56 iN56 1 (qsR a7 x6 c8) x6 s8,qsT a13 x12 c14] Unit (fun _=>.bool r) (fun _=>[⟨g4,83,[qsS g5]⟩,⟨g5,85,[qsR a7 x6 c8,qsQ x9,qsQ x10,qsQ x11,qsR a13 x12 c14,.string (bstr x15)]⟩]) (fun _=>[]):=by
 refine qE Tryz.func119 rfl Tryz.ntmps119 rfl hm (fun w=>?_)
 refine au [56,58,3] ?_
 refine qF vl ?_
 intro x16 e16 _
 exact az [26,5,90]
theorem qgu {F:Nat}{g1:Nat}{x2:List (qsO)}{a3:qsP}{c4:Nat}{s4:List (qsP×Nat)}{x5:Int}{x6:Int}{x7:Int}{x8:qsO}{a9:qsP}{c10:Nat}{x11:qsO}{x12:qsO}{a13:qsP}{c14:Nat}{r:Bool}(hm:kB F x2 x5 x6 x7 x8 x11 x12=some r) :
    PureM Tryz.prog 84 [qsS g1,qsR a13 x12 c14] [⟨g1,85,[qsR a3 x2 c4,qsQ x5,qsQ x6,qsQ x7,qsR a9 x8 c10,.string (bstr x11)]⟩] [] [SlN eN56 iN56 1 (qsR a3 x2 c4) x2 s4,qsT a9 x8 c10,qsT a13 x12 c14] Unit (fun _=>.bool r) (fun _=>[⟨g1,85,[qsR a3 x2 c4,qsQ x5,qsQ x6,qsQ x7,qsR a9 x8 c10,.string (bstr x11)]⟩]) (fun _=>[]):=by
 refine qE Tryz.func84 rfl Tryz.ntmps84 rfl hm (fun w=>?_)
 refine au [118] ?_
 intro g15
 refine au [58,27,4] ?_
 refine qF yS ?_
 intro x16 e16 _
 exact az [25,8,90]
theorem qei {F:Nat}{x1:qsO}{a2:qsP}{c3:Nat}{x4 x5:Int}{r:qsO}(hm:yn F x1 x4 x5=some r) :
    PureM Tryz.prog 86 [qsR a2 x1 c3,qsQ x4,qsQ x5] [] [qsU a2 x1 c3] [] (qsP×Nat) (fun g=>qsR g.1 r g.2) (fun _=>[]) (fun g=>[qsU g.1 r g.2]):=by
  unfold yn at hm
  split at hm
  · cases hm
    exact qkD Tryz.slices_Delete_int_arr (by assumption)
  · simp at hm
set_option maxHeartbeats 4000000 in
theorem qg0 (F:Nat)(g1:Nat)(x2:List (qsO))(a3:qsP)(c4:(Nat×List (qsP×Nat)))(x5:Int)(x6:Int)(x7:Int)(x8:qsO)(a9:qsP)(c10:Nat)(x11:qsO)(r:(Int×List (qsO)))(hm:ji F x2 x5 x6 x7 x8 x11=some r) :
    PureM Tryz.prog 60 [qsS g1] [⟨g1,85,[qsR a3 x2 c4.1,qsQ x5,qsQ x6,qsQ x7,qsR a9 x8 c10,.string (bstr x11)]⟩] [RoN eN56 rN56 56 1 (qsR a3 x2 c4.1) x2 c4.2 []] [qsT a9 x8 c10] (qsP×(Nat×List (qsP×Nat))) (fun _=>qsQ r.1) (fun g=>[⟨g1,85,[qsR g.1 r.2 g.2.1,qsQ x5,qsQ x6,qsQ x7,qsR a9 x8 c10,.string (bstr x11)]⟩]) (fun g=>[RoN eN56 rN56 56 1 (qsR g.1 r.2 g.2.1) r.2 g.2.2 []]):=by
 refine qE Tryz.func60 rfl Tryz.ntmps60 rfl hm (fun w=>?_)
 refine au [59,85,3,114,30,7] ?_
 intro x14 e14 _
 refine av [25,8,50] ?_ ?_
 intro _
 refine au [47,60] ?_
 exact qX (a3,c4)
 intro _
 refine au [82,29,11] ?_
 intro x25 e25 b26 o27 h28
 replace h28:a9=some ⟨b26,o27,none⟩:=h28
 refine au [29,9] ?_
 intro x29 e29 g30 h31 g32 h33
 replace h33:a3=some ⟨g32,0,none⟩:=h33
 have h34:=zE (k:=x2.length) (c:=c4.1) h33
 refine qcS (i:=0) rfl h31 (qq0) (qt mixed [] [⟨g1,85,[qsR a3 x2 c4.1,qsQ x5,qsQ x6,qsQ x7,qsR a9 x8 c10,.string (bstr x11)]⟩] [qC b26 (o27+(0:Int).toNat*1) ((eI .i64) x25),qsT a9 x8 c10,qC g32 (x25.toNat*1) (eN56 (x29,g30))] (.cons 0 rfl .nil) (qf 0 rfl (qf 1 rfl (qP 1 rfl (qW qy h31 h33) qh))) 15 rfl ?_)
 refine au [69,15,2,15,3,15,4,24,14,5,67,15,8,24,14,9] ?_
 refine qg (d:=21) (v:=qsR (some ⟨b26,o27,none⟩) x8 c10) rfl (by simp only[qsR,h28] <;> rfl) (qe 10 (.pointer (some ⟨b26,(o27+(0:Int).toNat*1),none⟩)) rfl rfl rfl (k8 Tryz.underlying56 tf3 rfl rfl (qo e25).1 (zf e25)) (qg (d:=21) (v:=qsR a9 x8 c10) rfl (by simp only[qsR,h28] <;> rfl) (qJ 11 (qsQ x25) [] rfl rfl rfl (q7 (j:=0) rfl tf3 rfl rfl (fun _=>rfl) rfl) (qg (d:=17) (v:=qsR (some ⟨g32,0,none⟩) x2 c4.1) rfl (by simp only[qsR,h33] <;> rfl) (qe 12 (.pointer (some ⟨g32,x25.toNat*1,none⟩)) rfl rfl rfl (zU Tryz.underlying22 tf56 rfl rfl (qo e29).1 (zf e29)) (qg (d:=17) (v:=qsR a3 x2 c4.1) rfl (by simp only[qsR,h33] <;> rfl) (qJ 13 (qsR g30.1 x29 g30.2) [] rfl rfl rfl (q7 (j:=2) rfl tf56 rfl rfl (fun _=>rfl) rfl) ?_)))))))
 refine au [6,14,16] ?_
 refine qm ?_ (by intro c h;cases h)
 refine au [2,87,114,28,9] ?_
 intro x35 e35 b36 o37
 refine au [25,2,31,3] ?_
 intro x38 e38 _
 refine av [85,91] ?_ ?_
 intro _
 refine au [1] ?_
 refine qgS (rin:=rN56) (p:=(x29,g30)) (i:=0) (k:=0) (.cons 0 rfl .nil) rfl rfl h31 ?_
 refine au [4,60] ?_
 exact qX (a3,c4)
 intro _
 refine au [82] ?_
 refine qnO e25 ?_
 refine au [29,0] ?_
 intro x57 e57 b58 o59 h60
 obtain rfl:x25=x57:=Option.some.inj (e25.symm.trans e57)
 replace h60:a9=some ⟨b58,o59,none⟩:=h60
 refine au [28,13] ?_
 intro x61 e61 g62 h63 g64 h65
 replace h65:a3=some ⟨g64,0,none⟩:=h65
 have h66:=zE (k:=x2.length) (c:=c4.1) h65
 refine qt mixed [] [⟨g1,85,[qsR a3 x2 c4.1,qsQ x5,qsQ x6,qsQ x7,qsR a9 x8 c10,.string (bstr x11)]⟩] [qC b58 (o59+(0:Int).toNat*1) ((eI .i64) x25),qC b36 o37 ((eI .i64) x35),qC b26 (o27+(0:Int).toNat*1) ((eI .i64) x25),qsT a9 x8 c10] (.cons 0 rfl .nil) (qf 0 rfl (qf 1 rfl (qf 2 rfl (qf 3 rfl qh)))) 19 rfl ?_
 refine au [69,15,2,15,3,15,4,24,14,5,67,15,8,24,14,9] ?_
 refine qg (d:=45) (v:=qsR (some ⟨b58,o59,none⟩) x8 c10) rfl (by simp only[qsR,h60] <;> rfl) (qe 10 (.pointer (some ⟨b58,(o59+(0:Int).toNat*1),none⟩)) rfl rfl rfl (k8 Tryz.underlying56 tf3 rfl rfl (qo e25).1 (zf e25)) (qg (d:=45) (v:=qsR a9 x8 c10) rfl (by simp only[qsR,h60] <;> rfl) (qJ 11 (qsQ x25) [] rfl rfl rfl (q7 (j:=0) rfl tf3 rfl rfl (fun _=>rfl) rfl) ?_)))
 refine au [101,6,14,6,15,13,16] ?_
 refine qF qei ?_
 rintro x67 e67 ⟨a68,c69⟩
 refine au [0,33,8] ?_
 refine qg (d:=41) (v:=qsR (some ⟨g64,0,none⟩) x2 c4.1) rfl (by simp only[qsR,h65] <;> rfl) (qe 17 (.pointer (some ⟨g64,x25.toNat*1,none⟩)) rfl rfl rfl (zU Tryz.underlying22 tf56 rfl rfl (qo e61).1 (zf e61)) (qg (d:=41) (v:=qsR a3 x2 c4.1) rfl (by simp only[qsR,h65] <;> rfl) ?_))
 refine au [13,18] ?_
 refine vi (j:=1) (kh:=0) (y':=x67) (q':=(a68,c69)) qy rfl rfl rfl tf56 rfl (zE h65) rfl (qo e61).2.1 rfl (.cons 0 rfl .nil) (fun x70 e70 h71 g73=>?_)
 have h72:x70.length=x2.length:=by rw[← e70,qqR]
 refine qa (d:=17) (v:=qsR a3 x70 c4.1) rfl (by simp only[qsR,h71] <;> rfl) (qa (d:=41) (v:=qsR a3 x70 c4.1) rfl (by simp only[qsR,h71] <;> rfl) (ze (i:=0) (cs':=[qsR a3 x70 c4.1,qsQ x5,qsQ x6,qsQ x7,qsR a9 x8 c10,.string (bstr x11)]) rfl (by simp only[qsR,h71] <;> rfl) ?_))
 refine au [0] ?_
 refine qi (.cons 0 (by simp only[qsR,h72] <;> rfl) .nil) (qf 0 rfl (qf 1 rfl (qf 2 rfl (qf 3 rfl qh)))) ?_
 refine au [16] ?_
 refine qm ?_ (by intro c h;cases h)
 refine au [2,47,49] ?_
 exact qX (a3,(c4.1,g73))
theorem qhH (F:Nat)(g1:Nat)(x2:List (qsO))(a3:qsP)(c4:(Nat×List (qsP×Nat)))(x5:Int)(x6:Int)(x7:Int)(x8:qsO)(a9:qsP)(c10:Nat)(x11:qsO)(r:(Int×Int×Int×Int))(hm:qen F x2 x5 x6 x7 x8 x11=some r) :
    PureM Tryz.prog 61 [qsS g1] [⟨g1,85,[qsR a3 x2 c4.1,qsQ x5,qsQ x6,qsQ x7,qsR a9 x8 c10,.string (bstr x11)]⟩] [] [SlN eN56 iN56 1 (qsR a3 x2 c4.1) x2 c4.2,qsT a9 x8 c10] Unit (fun _=>qsQ r.1) (fun _=>[⟨g1,85,[qsR a3 x2 c4.1,qsQ r.2.1,qsQ r.2.2.1,qsQ r.2.2.2,qsR a9 x8 c10,.string (bstr x11)]⟩]) (fun _=>[]):=by
 refine qE Tryz.func61 rfl Tryz.ntmps61 rfl hm (fun w=>?_)
 refine au [59,71,28,2] ?_
 intro x24 e24 b25 o26 h27
 replace h27:a9=some ⟨b25,o26,none⟩:=h27
 refine au [29,0] ?_
 intro x28 e28 b29 o30 h31
 replace h31:a9=some ⟨b29,o30,none⟩:=h31
 refine qdr (j:=3) (qu .i64) (by decide) rfl ?_
 intro x32 e32 b33 o34 h35
 replace h35:a9=some ⟨b33,o34,none⟩:=h35
 refine qt mixed [23] [] [qC b33 (o34+(2:Int).toNat*1) ((eI .i64) x32),qC b29 (o30+(1:Int).toNat*1) ((eI .i64) x28),qC b25 (o26+(0:Int).toNat*1) ((eI .i64) x24),SlN eN56 iN56 1 (qsR a3 x2 c4.1) x2 c4.2,qsT a9 x8 c10,(BlkD.is ⟨g1,85,[qsR a3 x2 c4.1,qsQ x5,qsQ x6,qsQ x7,qsR a9 x8 c10,.string (bstr x11)]⟩)] .nil (qf 0 rfl (qf 1 rfl (qf 2 rfl (qf 3 rfl (qf 4 rfl (qeK 0 rfl qh)))))) 24 rfl ?_
 refine au [97,15,3] ?_
 refine qJ 4 (qsR a9 x8 c10) [[23]] rfl rfl rfl (kj (j:=5) rfl tf56 rfl rfl (fun _=>rfl) rfl) (qg (d:=7) (v:=qsR (some ⟨b25,o26,none⟩) x8 c10) rfl (by simp only[qsR,h27] <;> rfl) (qe 5 (.pointer (some ⟨b25,(o26+(0:Int).toNat*1),none⟩)) rfl rfl rfl (k8 Tryz.underlying56 tf3 rfl rfl (qo e24).1 (zf e24)) (qg (d:=7) (v:=qsR a9 x8 c10) rfl (by simp only[qsR,h27] <;> rfl) (qJ 6 (qsQ x24) [[23]] rfl rfl rfl (q7 (j:=2) rfl tf3 rfl rfl (fun _=>rfl) rfl) ?_))))
 refine au [6,7,6,8,15,9] ?_
 refine qJ 10 (qsR a9 x8 c10) [[23]] rfl rfl rfl (kj (j:=5) rfl tf56 rfl rfl (fun _=>rfl) rfl) (qg (d:=13) (v:=qsR (some ⟨b29,o30,none⟩) x8 c10) rfl (by simp only[qsR,h31] <;> rfl) (qe 11 (.pointer (some ⟨b29,(o30+(1:Int).toNat*1),none⟩)) rfl rfl rfl (k8 Tryz.underlying56 tf3 rfl rfl (qo e28).1 (zf e28)) (qg (d:=13) (v:=qsR a9 x8 c10) rfl (by simp only[qsR,h31] <;> rfl) (qJ 12 (qsQ x28) [[23]] rfl rfl rfl (q7 (j:=1) rfl tf3 rfl rfl (fun _=>rfl) rfl) ?_))))
 refine au [6,13,6,14,15,15] ?_
 refine qJ 16 (qsR a9 x8 c10) [[23]] rfl rfl rfl (kj (j:=5) rfl tf56 rfl rfl (fun _=>rfl) rfl) (qg (d:=19) (v:=qsR (some ⟨b33,o34,none⟩) x8 c10) rfl (by simp only[qsR,h35] <;> rfl) (qe 17 (.pointer (some ⟨b33,(o34+(2:Int).toNat*1),none⟩)) rfl rfl rfl (k8 Tryz.underlying56 tf3 rfl rfl (qo e32).1 (zf e32)) (qg (d:=19) (v:=qsR a9 x8 c10) rfl (by simp only[qsR,h35] <;> rfl) (qJ 18 (qsQ x32) [[23]] rfl rfl rfl (q7 (j:=0) rfl tf3 rfl rfl (fun _=>rfl) rfl) (qe 19 (.agg #[qsQ x24,qsQ x28,qsQ x32]) rfl rfl rfl (qbj (cells:=[qsQ x24,qsQ x28,qsQ x32]) st26 rfl (by kernel_rfl)) ?_)))))
 refine au [6,20,15,21,15,22,13,23,86] ?_
 refine kw 23 rfl (by kernel_rfl) .nil ?_
 refine au [16] ?_
 refine qm ?_ (by intro c h;cases h)
 refine au [2,48,55,110,29,7] ?_
 intro x36 e36 _
 exact az [90]
theorem qd0 {F:Nat}{x1:qsO}{a2:qsP}{c3:Nat}{r:qsO}(hm:j2 F x1=some r) :
    Pure Tryz.prog 260 [qsR a2 x1 c3] [qsV a2 x1 c3] (qsP×Nat) (fun g=>qsR g.1 r g.2) (fun g=>[qsW g.1 r g.2]) (fun _=>[]):=by
 refine qs Tryz.func260 rfl Tryz.ntmps260 rfl hm (fun w=>?_)
 refine av [59,85,32,10,45,32,11] ?_ ?_
 intro h11
 refine qlV 0 (qu .u8) (by decide) rfl h11 (fun h12=>?_)
 subst h12
 refine qH (m':=some ([]:qsO)) rfl ?_
 refine au [47,60,25,15] ?_
 exact qI (none,0)
 intro _
 refine au [115] ?_
 refine qV (vs:=[]) (ys:=([]:qsO)) (qu .u8) (by decide) rfl UnF.u inferInstance rfl rfl rfl rfl rfl (by decide) ?_
 intro a6 c7
 refine au [3] ?_
 refine zu 0 (qu .u8) rfl UnF.u inferInstance rfl rfl rfl rfl rfl (.inr ⟨0,rfl⟩) rfl rfl ?_
 intro x8 e8 a9 c10
 refine au [49] ?_
 exact qI (a9,c10)
theorem ql9 {F:Nat}{x1:Int}{x2:qsO}{a3:qsP}{c4:Nat}{r:(Int×qsO)}(hm:qgK F x1 x2=some r) :
    PureM Tryz.prog 231 [.agg #[qsQ x1,qsR a3 x2 c4]] [] [] [qsV a3 x2 c4] ((qsP×Nat)×Nat) (fun g=>qsS g.2) (fun g=>[⟨g.2,299,[qsQ r.1,qsR g.1.1 r.2 g.1.2]⟩]) (fun g=>[qsW g.1.1 r.2 g.1.2]):=by
 refine qE Tryz.func231 rfl Tryz.ntmps231 rfl hm (fun w=>?_)
 refine au [59,22] ?_
 intro g5
 refine au [71] ?_
 refine qt mixed [] [⟨g5,65,[qsQ x1,qsR a3 x2 c4]⟩] [qsV a3 x2 c4] (.cons 0 rfl .nil) (qf 0 rfl qh) 9 rfl ?_
 refine au [117,15,2,24,14,3,13,4] ?_
 refine qk qd0 ?_
 rintro x10 e10 ⟨a11,c12⟩
 refine au [75] ?_
 refine qe 5 (.agg #[qsQ x1,qsR a11 x10 c12]) rfl rfl rfl (qbj (cells:=[qsQ x1,qsR a11 x10 c12]) st65 rfl (by kernel_rfl)) (qe 6 (.agg #[qsQ x1,qsR a11 x10 c12]) rfl rfl rfl (qbj (cells:=[qsQ x1,qsR a11 x10 c12]) st299 rfl (by kernel_rfl)) ?_)
 refine au [13,7,22] ?_
 intro g13
 refine au [0,26,12,6,8,16] ?_
 refine qm ?_ (by intro c h;cases h)
 refine au [2,8] ?_
 exact qX ((a11,c12),g13)
theorem qjc {F:Nat}{x1:Int}{x2:qsO}{a3:qsP}{c4:Nat}{x5:Int}{x6:Int}{r:Unit}(hm:qf5 F x1 x2 x5 x6=some r) :
    PureM Tryz.prog 232 [.agg #[qsQ x1,qsR a3 x2 c4],qsQ x5,qsQ x6] [] [] [qsV a3 x2 c4] (Nat×Nat×Nat) (fun g=>.func (.func 261) #[] #[qsS g.1,qsS g.2.1,qsS g.2.2]) (fun g=>[⟨g.1,3,[qsQ x5]⟩,⟨g.2.1,3,[qsQ x6]⟩,⟨g.2.2,65,[qsQ x1,qsR a3 x2 c4]⟩]) (fun _=>[]):=by
 refine qE Tryz.func232 rfl Tryz.ntmps232 rfl hm (fun w=>?_)
 refine au [111,22] ?_
 intro g7
 refine au [22] ?_
 intro g8
 refine au [22] ?_
 intro g9
 refine au [84,27,4,49] ?_
 exact qX (g8,g9,g7)
set_option maxHeartbeats 4000000 in
theorem qgX {F:Nat}{g1:Nat}{x2:Int}{x3:qsO}{a4:qsP}{c5:Nat}{x6:Int}{r:(Int×qsO)}(hm:qaS F x2 x3 x6=some r) :
    PureM Tryz.prog 233 [qsS g1,.int .u64 x6] [⟨g1,299,[qsQ x2,qsR a4 x3 c5]⟩] [qsW a4 x3 c5] [] (qsP×Nat) (fun _=>.tuple #[]) (fun g=>[⟨g1,299,[qsQ r.1,qsR g.1 r.2 g.2]⟩]) (fun g=>[qsW g.1 r.2 g.2]):=by
 refine qE Tryz.func233 rfl Tryz.ntmps233 rfl hm (fun w=>?_)
 refine au [24,8] ?_
 refine qj (fun ((x15,(a13,c14)):(qsO×(qsP×Nat)))=>([(0,qsS g1),(1,.int .u64 x6)],[⟨g1,299,[qsQ x2,qsR a13 x15 c14]⟩],[qsW a13 x15 c14],[],jx F x2 x6 x15)) ?_ ?_
 refine av [48,55,78,31,8,112] ?_ ?_
 intro _
 refine au [4,3,3,55,78] ?_
 refine qV (vs:=[.int .u8 0]) (ys:=([0]:qsO)) (qu .u8) (by decide) rfl Tryz.underlying41 tf5 rfl rfl rfl rfl rfl (by decide) (fun a44 c45=>zu 1 (qu .u8) rfl Tryz.underlying41 tf5 rfl rfl rfl rfl rfl (.inl ⟨0,_,rfl⟩) rfl rfl (fun x46 e46 a47 c48=>?_))
 refine au [55,9,86] ?_
 exact qb (x46,(a47,c48))
 intro _
 refine au [11] ?_
 exact qb (x3,(a4,c5))
 rintro ⟨x15,⟨a13,c14⟩⟩
 try dsimp only
 refine au [1,29,12] ?_
 intro x30 e30 g31 h32
 replace h32:a13=some ⟨g31,0,none⟩:=h32
 have h33:=zE (k:=x15.length) (c:=c14) h32
 refine au [28,4] ?_
 intro h34
 refine au [29,12] ?_
 intro x36 e36 g37 h38
 replace h38:a13=some ⟨g37,0,none⟩:=h38
 have h39:=zE (k:=x15.length) (c:=c14) h38
 refine qt mixed [25] [⟨g1,299,[qsQ x2,qsR a13 x15 c14]⟩] [qC g31 ((iquo .i64 x2 8).toNat*1) ((eI .u8) x30),qC g37 ((iquo .i64 x2 8).toNat*1) ((eI .u8) x36)] (.cons 0 rfl .nil) (qP 0 rfl (qx (qu .u8) e30 h32) (qP 0 rfl (qx (qu .u8) e36 h38) qh)) 26 rfl ?_
 refine au [69,15,2,15,3,24,14,4,6,5,6,6,15,7,15,8,24,14,9] ?_
 refine qe 10 (qsQ (iquo .i64 x2 8)) rfl rfl rfl (qqv rfl rfl rfl) (qg (d:=26) (v:=qsR (some ⟨g31,0,none⟩) x15 c14) rfl (by simp only[qsR,h32] <;> rfl) (qe 11 (.pointer (some ⟨g31,(iquo .i64 x2 8).toNat*1,none⟩)) rfl rfl rfl (zU Tryz.underlying41 tf5 rfl rfl (qo e30).1 (zf e30)) (qg (d:=26) (v:=qsR a13 x15 c14) rfl (by simp only[qsR,h32] <;> rfl) (qJ 12 (.int .u8 x30) [[25]] rfl rfl rfl (q7 (j:=0) rfl tf5 rfl rfl (fun _=>rfl) rfl) ?_))))
 refine au [6,13] ?_
 refine qe 14 (.int .u64 (ishl .u64 x6 7)) rfl rfl rfl (qgW rfl rfl rfl) ?_
 refine au [33,9,15,6,16,6,17,15,18,15,19,24,14,20] ?_
 refine qe 21 (qsQ (irem x2 8)) rfl rfl rfl (qk3 rfl rfl rfl) (qe 22 (.int .u8 (ishr .u8 (iconv .u8 (ishl .u64 x6 7)) (irem x2 8))) rfl rfl rfl (qqw rfl rfl h34) ?_)
 refine au [6,23] ?_
 refine qg (d:=26) (v:=qsR (some ⟨g37,0,none⟩) x15 c14) rfl (by simp only[qsR,h38] <;> rfl) (qe 24 (.pointer (some ⟨g37,(iquo .i64 x2 8).toNat*1,none⟩)) rfl rfl rfl (zU Tryz.underlying41 tf5 rfl rfl (qo e36).1 (zf e36)) (qg (d:=26) (v:=qsR a13 x15 c14) rfl (by simp only[qsR,h38] <;> rfl) ?_))
 refine au [13,25] ?_
 refine zX (j:=0) (y':=ior .u8 x30 (ishr .u8 (iconv .u8 (ishl .u64 x6 7)) (irem x2 8))) (qu .u8) rfl rfl rfl tf5 rfl (zE h38) (qo e36).2.1 rfl (fun x41 e41 h42=>?_)
 have h43:x41.length=x15.length:=by rw[← e41,qqR]
 refine qa (d:=26) (v:=qsR a13 x41 c14) rfl h42 (ze (i:=0) (cs':=[qsQ x2,qsR a13 x41 c14]) rfl (by simp only[qsR,h42] <;> rfl) ?_)
 refine au [0] ?_
 refine kw 25 rfl (by kernel_rfl) (.cons 0 (by simp only[qsR,h43] <;> rfl) .nil) ?_
 refine au [16] ?_
 refine qm ?_ (by intro c h;cases h)
 refine au [2,4,3,55,78,23,55,9,86] ?_
 exact qX (a13,c14)
theorem qnt {F:Nat}{x1:Int}{x2:qsO}{a3:qsP}{c4:Nat}{x5:Int}{r:Int}(hm:qbx F x1 x2 x5=some r) :
    Pure Tryz.prog 248 [.agg #[qsQ x1,qsR a3 x2 c4],qsQ x5] [qsV a3 x2 c4] Unit (fun _=>.int .u64 r) (fun _=>[]) (fun _=>[]):=by
 refine qs Tryz.func248 rfl Tryz.ntmps248 rfl hm (fun w=>?_)
 refine au [118] ?_
 intro g6
 refine au [84,78,3,30,8] ?_
 refine yM (j:=0) (qu .u8) (by decide) rfl UnF.u inferInstance rfl rfl rfl rfl ?_
 intro x7 e7 b8 o9
 refine au [25,2,3,31,8,25,10,26,10] ?_
 intro h10
 refine qhC rfl rfl rfl rfl h10 ?_
 refine au [25,11,28,7,121] ?_
 intro x11 e11
 refine qa (d:=4) (v:=.int .u64 x11) rfl (by simp only[qsR,e11] <;> rfl) ?_
 exact az [45,8,24,0]
theorem qid (F:Nat){σ τ:Type}{J:Rounds σ τ}{yy:σ→Int→Option (σ ⊕ τ)}{L:Nat}(hY:YieldC Tryz.prog L (fun (p:Int)=>[.int .u64 p]) J yy)(s0:σ)(gs0:J.γ)(g1:Nat)(x2:Int)(g3:Nat)(x4:Int)(g5:Nat)(x6:Int)(x7:qsO)(a8:qsP)(c9:Nat)(r:σ ⊕ τ)(hm:qeQ F yy x2 x4 x6 x7 s0=some r) :
    PureM Tryz.prog 261 ([.func (.yield L) #[] #[],qsS g1,qsS g3,qsS g5]) ([⟨g1,3,[qsQ x2]⟩,⟨g3,3,[qsQ x4]⟩,⟨g5,65,[qsQ x6,qsR a8 x7 c9]⟩]++J.IB s0 gs0) (J.IR s0 gs0) [J.F,qsV a8 x7 c9] (J.G r) (fun _=>.tuple #[]) (fun g=>[⟨g1,3,[qsQ x2]⟩,⟨g3,3,[qsQ x4]⟩,⟨g5,65,[qsQ x6,qsR a8 x7 c9]⟩]++J.bs r g) (fun g=>J.rs r g):=by
 refine qE Tryz.func261 rfl Tryz.ntmps261 rfl hm (fun w=>?_)
 refine au [28,5,47,21,46,14] ?_
 refine yv (fun (((x22,x23),g24):((Int×σ)×J.γ))=>[(0,.func (.yield L) #[] #[]),(2,qsS g3),(3,qsS g5),(5,qsQ x22)]) (fun (((x22,x23),g24):((Int×σ)×J.γ))=>[⟨g1,3,[qsQ x2]⟩,⟨g3,3,[qsQ x4]⟩,⟨g5,65,[qsQ x6,qsR a8 x7 c9]⟩]++J.IB x23 g24) (fun (((x22,x23),g24):((Int×σ)×J.γ))=>[]++J.IR x23 g24) (fun (((x22,x23),g24):((Int×σ)×J.γ))=>[qsV a8 x7 c9,J.F]) (fun k (s:((Int×σ)×J.γ))=>vH F yy x4 x6 x7 k s.1) ((x2,s0),gs0) F ?_ (hB:=(.cons 0 rfl (.cons 0 rfl (.cons 0 rfl (qn 0 rfl))))) (hR:=(qn 0 rfl)) (hF:=(qp 1 rfl (qp 0 rfl zx)))
 intro k37
 rintro ⟨⟨x22,x23⟩,g24⟩
 try dsimp only
 refine qH (m':=qcV F yy x4 x6 x7 (vH F yy x4 x6 x7 k37) x22 x23) rfl ?_
 refine av [1,48,25,6,91] ?_ ?_
 intro _
 refine au [83,48,26,6,3,29,1] ?_
 intro x44 e44 _
 refine qcT hY x23 x44 g24 (B1:=[⟨g1,3,[qsQ x2]⟩,⟨g3,3,[qsQ x4]⟩,⟨g5,65,[qsQ x6,qsR a8 x7 c9]⟩]) (R1:=[]) (j:=1) rfl rfl rfl rfl rfl rfl rfl (fun x45 _ g47=>?_) (fun x46 _ g47=>?_)
 refine au [25,8,45] ?_
 refine kD (b:=false) rfl (fun h=>by cases h) (fun _=>?_)
 refine au [11,63,4,3,23,5,0] ?_
 exact yz ((iadd .i64 x22 1,x45),g47) (hB:=(.cons 0 rfl (.cons 0 rfl (.cons 0 rfl (qn 0 rfl))))) (hR:=(qn 0 rfl)) (hF:=(qp 0 rfl (qp 1 rfl zx)))
 refine au [25,8,45] ?_
 refine kD (b:=true) rfl (fun _=>?_) (fun h=>by cases h)
 refine au [8,92,24,5] ?_
 exact y0 (B0:=[⟨g1,3,[qsQ x2]⟩,⟨g3,3,[qsQ x4]⟩,⟨g5,65,[qsQ x6,qsR a8 x7 c9]⟩]) (x:=.inr x46) g47 (.inl rfl) (res0 rfl) (.cons 0 rfl (.cons 0 rfl (.cons 0 rfl (qn 0 rfl)))) (qn 0 rfl)
 intro _
 refine au [73] ?_
 exact y0 (B0:=[⟨g1,3,[qsQ x2]⟩,⟨g3,3,[qsQ x4]⟩,⟨g5,65,[qsQ x6,qsR a8 x7 c9]⟩]) (x:=.inl x23) g24 (.inr rfl) (res0 rfl) (.cons 0 rfl (.cons 0 rfl (.cons 0 rfl (qn 0 rfl)))) (qn 0 rfl)
set_option maxHeartbeats 4000000 in
theorem qk5 {F:Nat}{x1:Int}{x2:qsO}{a3:qsP}{c4:Nat}{x5:Int}{x6:qsO}{a7:qsP}{c8:Nat}{r:(Int×qsO)}(hm:qb9 F x1 x2 x5 x6=some r) :
    PureM Tryz.prog 192 [.agg #[qsQ x1,qsR a3 x2 c4],.agg #[qsQ x5,qsR a7 x6 c8]] [] [] [qsV a3 x2 c4,qsV a7 x6 c8] (qsP×Nat) (fun g=>.agg #[qsQ r.1,qsR g.1 r.2 g.2]) (fun _=>[]) (fun g=>[qsW g.1 r.2 g.2]):=by
 refine qbf Tryz.func192 rfl Tryz.ntmps192 rfl hm (fun w=>?_)
 refine au [118] ?_
 intro g9
 refine au [22] ?_
 intro g10
 refine au [24,4] ?_
 intro g11
 refine au [45,47,26,6,33,10] ?_
 rintro x12 e12 ⟨⟨a13,c14⟩,g15⟩
 refine au [24,4] ?_
 intro g16
 refine au [119,1,47,30,9,9,29,13] ?_
 refine qF qjc ?_
 rintro x37 e37 ⟨g38,g39,g40⟩
 refine au [76] ?_
 refine jW (encs:=(fun (p:Int)=>[.int .u64 p])) (y:=(fun ((x45,x48):(Int×qsO)) (x53:Int)=>qfi F x45 x48 x53)) (lb:=[qsS g38,qsS g39,qsS g40]) (fun ((x45,x48):(Int×qsO)) ((a46,c47):(qsP×Nat))=>[⟨g16,293,[qsS g15]⟩,⟨g15,299,[qsQ x45,qsR a46 x48 c47]⟩,⟨g11,65,[qsQ 0,.slice none 0 0]⟩,⟨g10,65,[qsQ x5,qsR a7 x6 c8]⟩,⟨g9,65,[qsQ x1,qsR a3 x2 c4]⟩]) (fun ((x45,x48):(Int×qsO)) ((a46,c47):(qsP×Nat))=>[qsW a46 x48 c47]) (fun (_:Empty) (_:Unit)=>[]) (fun (_:Empty) (_:Unit)=>[]) (fun _=>.skip) (x12.1,x12.2) (a13,c14) rfl ent261 (fun _=>rfl) rfl (.cons 0 rfl (.cons 0 rfl (.cons 0 rfl .nil))) (.cons 0 rfl (.cons 0 rfl (.cons 0 rfl (.cons 0 rfl (.cons 0 rfl .nil))))) (.cons 0 rfl .nil) (.consF 1 rfl .nil) (fun z hz _ _ _ hY=>qid F hY (x12.1,x12.2) (a13,c14) g38 0 g39 x5 g40 x5 x6 a7 c8 z hz) ?_ ?_ ?_
 rintro rc1 L1 D1 ⟨x45,x48⟩ ⟨a46,c47⟩ x53 z w M _
 try dsimp only
 refine qbi [(0,.agg #[qsQ x1,qsR a3 x2 c4]),(1,.agg #[qsQ x5,qsR a7 x6 c8]),(2,qsS g9),(3,qsS g10),(4,qsS g11),(5,qsS g16),(7,.agg #[qsQ x1,qsR a3 x2 c4]),(8,qsS g15),(9,.agg #[qsQ x5,qsR a7 x6 c8]),(10,qsS g10),(11,qsQ x5),(12,.func (.func 261) #[] #[qsS g38,qsS g39,qsS g40]),(13,.int .u64 x53)] (qw rfl (qw rfl (qw rfl (qw rfl (qw rfl (qw rfl (qw rfl (qw rfl (qw rfl (qw rfl (qw rfl (qw rfl (qw rfl qbK))))))))))))) ?_
 refine au [4,5,0] ?_
 refine qfZ (i:=5) rfl ?_
 refine au [14,4,21,3,33,11] ?_
 rintro x54 e54 ⟨a55,c56⟩
 refine au [0,24,2] ?_
 exact yw (rc:=rc1) rfl (.cons 5 rfl .nil) rfl (a55,c56) (.cons 2 rfl (.cons 1 rfl (.cons 1 rfl (.cons 1 rfl (.cons 1 rfl (.cons 0 rfl (.cons 0 rfl .nil))))))) (.cons 0 rfl .nil)
 rintro ⟨x45,x48⟩ _ ⟨a46,c47⟩ D1
 try dsimp only
 refine au [63,47] ?_
 refine zP (i:=4) rfl rfl inferInstance rfl rfl (fun _=>rfl) rfl rfl ?_
 refine au [55] ?_
 refine zP (i:=5) rfl rfl inferInstance rfl rfl (by simp) rfl rfl ?_
 refine au [27,0,45,8] ?_
 exact y1 [D1] (a46,c47) (.inl rfl) rfl (.cons 0 rfl .nil) (resL (rs:=[.cell 4 65]) rfl (.cell (i:=5) rfl tf65 rfl rfl (by simp) rfl ResOk.nil) rfl) (fun h=>by subst h;rfl) (fun h=>by subst h;exact .nil) (fun h=>by subst h;exact (.cons 0 rfl .nil))
 intro t;exact t.elim
theorem qfd {F:Nat}{g1:Nat}{x2:Int}{x3:qsO}{a4:qsP}{c5:Nat}{x6:Int}{x7:Int}{r:(Int×qsO)}(hm:qcb F x2 x3 x6 x7=some r) :
    PureM Tryz.prog 262 [qsS g1,.int .u64 x6,qsQ x7] [⟨g1,299,[qsQ x2,qsR a4 x3 c5]⟩] [qsW a4 x3 c5] [] (qsP×Nat) (fun _=>.tuple #[]) (fun g=>[⟨g1,299,[qsQ r.1,qsR g.1 r.2 g.2]⟩]) (fun g=>[qsW g.1 r.2 g.2]):=by
 refine qE Tryz.func262 rfl Tryz.ntmps262 rfl hm (fun w=>?_)
 refine au [26,7,48,25,10,46,14] ?_
 refine qB (fun (((x18,x19,x22),(a20,c21)):((Int×Int×qsO)×(qsP×Nat)))=>([(0,qsS g1),(1,.int .u64 x6),(6,qsQ x18)],[⟨g1,299,[qsQ x19,qsR a20 x22 c21]⟩],[qsW a20 x22 c21],[])) (fun k (s:((Int×Int×qsO)×(qsP×Nat)))=>yk F x6 k s.1) ((isub .i64 x7 1,x2,x3),(a4,c5)) F ?_
 intro k33
 rintro ⟨⟨x18,x19,x22⟩,⟨a20,c21⟩⟩
 try dsimp only
 refine qH (m':=qaE F x6 (yk F x6 k33) x18 x19 x22) rfl ?_
 refine av [1,48,26,5,50] ?_ ?_
 intro _
 refine au [83,4,3,3,3,26,10] ?_
 intro h39
 refine qhC rfl rfl rfl rfl h39 ?_
 refine au [28,7,33,11] ?_
 rintro x40 e40 ⟨a41,c42⟩
 refine au [0,63,4,3,25,10,5,0] ?_
 exact qr ((isub .i64 x18 1,x40.1,x40.2),(a41,c42))
 intro _
 refine au [73] ?_
 exact qX (a20,c21)
theorem ql8 {F:Nat}{x1:Int}{x2:qsO}{a3:qsP}{c4:Nat}{x5:Int}{x6:Int}{r:(Int×qsO)}(hm:jw F x1 x2 x5 x6=some r) :
    Pure Tryz.prog 235 [.agg #[qsQ x1,qsR a3 x2 c4],.int .u64 x5,qsQ x6] [qsV a3 x2 c4] (qsP×Nat) (fun g=>.agg #[qsQ r.1,qsR g.1 r.2 g.2]) (fun g=>[qsW g.1 r.2 g.2]) (fun _=>[]):=by
 refine qs Tryz.func235 rfl Tryz.ntmps235 rfl hm (fun w=>?_)
 refine au [111,22] ?_
 intro g7
 refine au [24,4] ?_
 intro g8
 refine au [45,47,25,7,33,10] ?_
 rintro x9 e9 ⟨⟨a10,c11⟩,g12⟩
 refine au [58,3,3] ?_
 refine qF qfd ?_
 rintro x13 e13 ⟨a14,c15⟩
 refine au [45,48,55,24,10,25,4,45,8] ?_
 exact qS (a14,c15) (resL (rs:=[.cell 6 65]) rfl (.cell (i:=1) rfl tf65 rfl rfl (by simp) rfl ResOk.nil) rfl) (fun h=>by subst h;exact (.cons 0 rfl .nil))
set_option maxHeartbeats 4000000 in
theorem qg8 {F:Nat}{x1:Int}{r:Int}(hm:jp F x1=some r) :
    Pure Tryz.prog 148 [.int .u64 x1] [] Unit (fun _=>qsQ r) (fun _=>[]) (fun _=>[]):=by
 refine qs Tryz.func148 rfl Tryz.ntmps148 rfl hm (fun w=>?_)
 refine au [59,46] ?_
 refine qj (fun (((x3,x4),_):((Int×Int)×Unit))=>([(0,.int .u64 x3),(2,qsQ x4)],[],[],[],jC F x3 x4)) ?_ ?_
 refine av [48,26,5,50] ?_ ?_
 intro _
 refine au [48,27,2,46,4,5,0] ?_
 exact qb ((ishr .u64 x1 32,(32:Int)),())
 intro _
 refine au [11] ?_
 exact qb ((x1,(0:Int)),())
 rintro ⟨⟨x3,x4⟩,_⟩
 try dsimp only
 refine qj (fun (((x6,x7),_):((Int×Int)×Unit))=>([(0,.int .u64 x6),(2,qsQ x7)],[],[],[],jD F x6 x7)) ?_ ?_
 refine av [48,26,5,50] ?_ ?_
 intro _
 refine au [48,27,2,46,4,3,23,5,0] ?_
 exact qb ((ishr .u64 x3 16,iadd .i64 x4 16),())
 intro _
 refine au [11] ?_
 exact qb ((x3,x4),())
 rintro ⟨⟨x6,x7⟩,_⟩
 try dsimp only
 refine qj (fun (((x9,x10),_):((Int×Int)×Unit))=>([(0,.int .u64 x9),(2,qsQ x10)],[],[],[],jE F x9 x10)) ?_ ?_
 refine av [48,26,5,50] ?_ ?_
 intro _
 refine au [48,27,2,46,4,3,23,5,0] ?_
 exact qb ((ishr .u64 x6 8,iadd .i64 x7 8),())
 intro _
 refine au [11] ?_
 exact qb ((x6,x7),())
 rintro ⟨⟨x9,x10⟩,_⟩
 try dsimp only
 refine au [87,25,11] ?_
 refine qmN (xs:=([0,1,2,2,3,3,3,3,4,4,4,4,4,4,4,4,5,5,5,5,5,5,5,5,5,5,5,5,5,5,5,5,6,6,6,6,6,6,6,6,6,6,6,6,6,6,6,6,6,6,6,6,6,6,6,6,6,6,6,6,6,6,6,6,7,7,7,7,7,7,7,7,7,7,7,7,7,7,7,7,7,7,7,7,7,7,7,7,7,7,7,7,7,7,7,7,7,7,7,7,7,7,7,7,7,7,7,7,7,7,7,7,7,7,7,7,7,7,7,7,7,7,7,7,7,7,7,7,8,8,8,8,8,8,8,8,8,8,8,8,8,8,8,8,8,8,8,8,8,8,8,8,8,8,8,8,8,8,8,8,8,8,8,8,8,8,8,8,8,8,8,8,8,8,8,8,8,8,8,8,8,8,8,8,8,8,8,8,8,8,8,8,8,8,8,8,8,8,8,8,8,8,8,8,8,8,8,8,8,8,8,8,8,8,8,8,8,8,8,8,8,8,8,8,8,8,8,8,8,8,8,8,8,8,8,8,8,8,8,8,8,8,8,8,8,8,8,8,8,8,8,8,8,8,8,8]:qsO)) rfl UnF.u rfl rfl (by kernel_rfl) rfl ?_
 intro x11 e11
 exact az [25,11,23,68]
theorem qkc {F:Nat}{x1:Int}{r:Int}(hm:qhb F x1=some r) :
    Pure Tryz.prog 284 [.int .u64 x1] [] Unit (fun _=>qsQ r) (fun _=>[]) (fun _=>[]):=by
 refine qs Tryz.func284 rfl Tryz.ntmps284 rfl hm (fun w=>?_)
 refine au [59,58,23,31,9] ?_
 intro x2 e2 _
 exact az [25,10,68]
theorem qll {F:Nat}{x1:Int}{r:(Int×qsO)}(hm:qfJ F x1=some r) :
    Pure Tryz.prog 285 [.int .u64 x1] [] (qsP×Nat) (fun g=>.agg #[qsQ r.1,qsR g.1 r.2 g.2]) (fun g=>[qsW g.1 r.2 g.2]) (fun _=>[]):=by
 refine qs Tryz.func285 rfl Tryz.ntmps285 rfl hm (fun w=>?_)
 refine au [59,24,4] ?_
 intro g2
 refine au [45,48,25,11,3,23,30,8] ?_
 refine qoY (qu .u8) rfl UnF.u inferInstance rfl rfl rfl rfl rfl rfl rfl ?_
 intro x3 e3 a4 c5
 refine qq (cells:=[qsQ (iconv .i64 x1),qsR a4 x3 c5]) rfl st65 rfl (by kernel_rfl) rfl ?_
 refine au [28,10] ?_
 rintro x6 e6 ⟨a7,c8⟩
 refine au [119,8] ?_
 exact qS (a7,c8) (resL (rs:=[.cell 2 65]) rfl (.cell (i:=0) rfl tf65 rfl rfl (by simp) rfl ResOk.nil) rfl) (fun h=>by subst h;exact (.cons 0 rfl .nil))
theorem qla {F:Nat}{x1:Int}{x2:Int}{r:Int}(hm:qh0 F x1 x2=some r) :
    Pure Tryz.prog 286 [.int .u64 x1,qsQ x2] [] Unit (fun _=>.int .u64 r) (fun _=>[]) (fun _=>[]):=by
 refine qs Tryz.func286 rfl Tryz.ntmps286 rfl hm (fun w=>?_)
 refine au [56,58,3,26,10] ?_
 intro h3
 refine qfY rfl rfl rfl rfl h3 ?_
 refine au [25,10,28,7,121] ?_
 intro x4 e4
 refine qa (d:=4) (v:=.int .u64 x4) rfl (by simp only[qsR,e4] <;> rfl) ?_
 exact az [45,8,24,0]
theorem qhJ {F:Nat}{x1:Int}{r:(Int×qsO)}(hm:qbA F x1=some r) :
    Pure Tryz.prog 258 [.int .u64 x1] [] (qsP×Nat) (fun g=>.agg #[qsQ r.1,qsR g.1 r.2 g.2]) (fun g=>[qsW g.1 r.2 g.2]) (fun _=>[]):=by
 refine qs Tryz.func258 rfl Tryz.ntmps258 rfl hm (fun w=>?_)
 refine au [59,24,4] ?_
 intro g2
 refine au [45,48] ?_
 refine qk qkc ?_
 intro x3 e3 _
 refine au [58,25,11,33,12] ?_
 rintro x4 e4 ⟨a5,c6⟩
 refine au [3,88] ?_
 refine qk qla ?_
 intro x7 e7 _
 refine au [3,28,10] ?_
 rintro x8 e8 ⟨a9,c10⟩
 refine au [119,8] ?_
 exact qS (a9,c10) (resL (rs:=[.cell 2 65]) rfl (.cell (i:=0) rfl tf65 rfl rfl (by simp) rfl ResOk.nil) rfl) (fun h=>by subst h;exact (.cons 0 rfl .nil))
theorem qld {F:Nat}{x1:Int}{r:Bool}(hm:qfx F x1=some r) :
    Pure Tryz.prog 273 [qsQ x1] [] Unit (fun _=>.bool r) (fun _=>[]) (fun _=>[]):=by
 refine qs Tryz.func273 rfl Tryz.ntmps273 rfl hm (fun w=>?_)
 refine au [59,58,26,5,3] ?_
 refine qO 3 (decide (0≤x1)) [(8,.bool ((decide (0≤x1)) && (decide (x1≤1048576))))] (fun h2=>?_) (fun h2=>?_) ?_
 refine qc (os:=_) rfl (qA (k:=5) rfl h2 ?_)
 refine au [3,28,3,24,7] ?_
 refine qa (d:=8) (v:=.bool ((decide (0≤x1)) && (decide (x1≤1048576)))) rfl (by rw[h2];simp only[Bool.true_and]) ?_
 exact az [51]
 refine qc (os:=_) rfl (qz (k:=5) rfl h2 ?_)
 refine au [61,24,9] ?_
 refine qa (d:=8) (v:=.bool ((decide (0≤x1)) && (decide (x1≤1048576)))) rfl (by rw[h2];simp only[Bool.false_and]) ?_
 exact az [51]
 refine qc (os:=_) rfl ?_
 exact az [68]
set_option maxHeartbeats 4000000 in
theorem qkh {F:Nat}{x1:qsO}{a2:qsP}{c3:Nat}{r:Int}(hm:jS F x1=some r) :
    Pure Tryz.prog 246 [qsR a2 x1 c3] [qsT a2 x1 c3] Unit (fun _=>qsQ r) (fun _=>[]) (fun _=>[]):=by
 refine qs Tryz.func246 rfl Tryz.ntmps246 rfl hm (fun w=>?_)
 refine av [59,71,72,104] ?_ ?_
 intro _
 exact az [47,77]
 intro _
 refine au [115,46] ?_
 refine qj (fun ((_,_):(Unit×Unit))=>([],[],[],[],qeX F)) ?_ ?_
 refine au [72,3,76] ?_
 refine qB (fun (((x88,x89),_):((Int×Int)×Unit))=>([(3,qsQ x88),(9,qsR a2 x1 c3),(10,qsQ (x1.length:Int)),(11,qsQ x89)],[],[],[qsT a2 x1 c3])) (fun k (s:((Int×Int)×Unit))=>qan F x1 k s.1) ((-1,0),()) F ?_
 intro k0
 rintro ⟨⟨x88,x89⟩,_⟩
 try dsimp only
 refine qH (m':=qeW F x1 (qan F x1 k0) x88 x89) rfl ?_
 refine av [96] ?_ ?_
 intro _
 refine au [83,47,26,2] ?_
 intro x0 e0 b0 o0
 refine au [25,2,71,14,48,33,13] ?_
 intro x2 e1 _
 refine av [25,8,46,10] ?_ ?_
 intro _
 exact az [47,49,52,92,108]
 intro _
 refine av [87,28,3,46,10] ?_ ?_
 intro _
 exact az [47,49,52,92,108]
 intro _
 refine au [11,63,4,3,5,0,99] ?_
 exact qr ((x0,iadd .i64 x89 1),())
 intro _
 exact az [73,26,8]
 rintro ⟨_,_⟩
 try dsimp only
 exact az [47,68]
set_option maxHeartbeats 4000000 in
theorem qha {F:Nat}{g1:Nat}{x2:Int}{x3:qsO}{a4:qsP}{c5:Nat}{x6:Bool}{x7:Int}{x8:qsO}{a9:qsP}{c10:Nat}{r:(Int×qsO×Bool)}(hm:qa9 F x2 x3 x6 x7 x8=some r) :
    PureM Tryz.prog 281 [qsS g1,.agg #[qsQ x7,qsR a9 x8 c10]] [⟨g1,316,[qsQ x2,qsR a4 x3 c5,.bool x6]⟩] [qsW a4 x3 c5] [qsV a9 x8 c10] (qsP×Nat) (fun _=>.tuple #[]) (fun g=>[⟨g1,316,[qsQ r.1,qsR g.1 r.2.1 g.2,.bool r.2.2]⟩]) (fun g=>[qsW g.1 r.2.1 g.2]):=by
 refine qE Tryz.func281 rfl Tryz.ntmps281 rfl hm (fun w=>?_)
 refine au [118] ?_
 intro g11
 refine au [45] ?_
 refine qj (fun ((x13,_):(Bool×Unit))=>([(0,qsS g1),(3,qsS g11)],[⟨g11,65,[qsQ x7,qsR a9 x8 c10]⟩,⟨g1,316,[qsQ x2,qsR a4 x3 c5,.bool x13]⟩],[qsW a4 x3 c5],[qsV a9 x8 c10],jJ F x2 x3 x7 x8 x13)) ?_ ?_
 refine av [29,14] ?_ ?_
 intro h18
 refine qt mixed [18] [⟨g11,65,[qsQ x7,qsR a9 x8 c10]⟩] [qsV a9 x8 c10,(BlkD.is ⟨g1,316,[qsQ x2,qsR a4 x3 c5,.bool x6]⟩)] (.cons 0 rfl .nil) (qf 0 rfl (qeK 1 rfl qh)) 19 rfl ?_
 refine au [97,15,3] ?_
 refine qJ 4 (.bool x6) [[18]] rfl rfl rfl (kj (j:=1) rfl tf4 rfl rfl (fun _=>rfl) rfl) ?_
 refine au [6,5] ?_
 refine qg (d:=9) (v:=.bool true) rfl (by simp only[qsR,h18] <;> rfl) ?_
 refine au [19,6,19,7,19,8,19,9,19,10,19,11,19,12,19,13,19,14,6,15,6,16,15,17,13,18,120,33,14,16] ?_
 exact qm (qb (true,())) (by intro c h;cases h)
 intro h18
 refine qt mixed [18] [⟨g11,65,[qsQ x7,qsR a9 x8 c10]⟩] [qsV a9 x8 c10,(BlkD.is ⟨g1,316,[qsQ x2,qsR a4 x3 c5,.bool x6]⟩)] (.cons 0 rfl .nil) (qf 0 rfl (qeK 1 rfl qh)) 19 rfl ?_
 refine au [97,15,3] ?_
 refine qJ 4 (.bool x6) [[18]] rfl rfl rfl (kj (j:=1) rfl tf4 rfl rfl (fun _=>rfl) rfl) ?_
 refine au [6,5] ?_
 refine qg (d:=9) (v:=.bool false) rfl (by simp only[qsR,h18] <;> rfl) ?_
 refine au [67,15,8,15,9] ?_
 refine qJ 10 (qsQ x2) [[18]] rfl rfl rfl (kj (j:=1) rfl tf3 rfl rfl (fun _=>rfl) rfl) ?_
 refine au [15,11,24,14,12,6,13,6,14,6,15,6,16,15,17,13,18,120,33,14,16] ?_
 exact qm (qb ((decide (8192<(iadd .i64 x2 x7))),())) (by intro c h;cases h)
 rintro ⟨x13,_⟩
 try dsimp only
 refine av [48,55,25,6,25,8,50] ?_ ?_
 intro _
 refine qt mixed [9] [⟨g11,65,[qsQ x7,qsR a9 x8 c10]⟩] [qsV a9 x8 c10,(BlkD.is ⟨g1,316,[qsQ x2,qsR a4 x3 c5,.bool x13]⟩)] (.cons 0 rfl .nil) (qf 0 rfl (qeK 1 rfl qh)) 10 rfl ?_
 refine au [97,15,3] ?_
 refine qJ 4 (.agg #[qsQ x2,.slice a4 x3.length c5]) [[9]] rfl rfl rfl (kj (j:=1) rfl tf65 rfl rfl (by simp) rfl) (qN 5 (.agg #[qsQ x7,.slice a9 x8.length c10]) rfl rfl rfl (qM (i:=0) rfl tf65 rfl rfl (by simp) rfl) ?_)
 refine au [13,6,30,10] ?_
 rintro x14 e14 ⟨a15,c16⟩
 refine au [0] ?_
 refine qi (.cons 0 rfl .nil) (qf 0 rfl (qeK 1 rfl qh)) ?_
 refine au [6,7,15,8,13,9,120] ?_
 refine kw 9 rfl (by kernel_rfl) (.cons 0 rfl .nil) ?_
 refine au [16] ?_
 exact qm (qX (a15,c16)) (by intro c h;cases h)
 intro _
 refine au [11] ?_
 exact qX (a4,c5)
theorem qf4 {F:Nat}{g1:Nat}{x2:Int}{x3:qsO}{a4:qsP}{c5:Nat}{x6:Bool}{x7:Int}{r:(Int×qsO×Bool)}(hm:zV F x2 x3 x6 x7=some r) :
    PureM Tryz.prog 274 [qsS g1,qsQ x7] [⟨g1,316,[qsQ x2,qsR a4 x3 c5,.bool x6]⟩] [qsW a4 x3 c5] [] (qsP×Nat) (fun _=>.tuple #[]) (fun g=>[⟨g1,316,[qsQ r.1,qsR g.1 r.2.1 g.2,.bool r.2.2]⟩]) (fun g=>[qsW g.1 r.2.1 g.2]):=by
 refine qE Tryz.func274 rfl Tryz.ntmps274 rfl hm (fun w=>?_)
 refine au [24,8,4,3,3,25,11,33,15] ?_
 rintro x8 e8 ⟨a9,c10⟩
 refine au [34,0] ?_
 rintro x11 e11 ⟨a12,c13⟩
 refine au [0] ?_
 exact qX (a12,c13)
set_option maxHeartbeats 4000000 in
theorem qit {F:Nat}{x1:Int}{x2:Int}{r:Bool}(hm:qfl F x1 x2=some r) :
    Pure Tryz.prog 212 [qsQ x1,qsQ x2] [] Unit (fun _=>.bool r) (fun _=>[]) (fun _=>[]):=by
 refine qs Tryz.func212 rfl Tryz.ntmps212 rfl hm (fun w=>?_)
 refine au [56,58,30,5] ?_
 intro x3 e3 _
 refine au [3] ?_
 refine zp 4 (fun ((x6,_):(Bool×Unit))=>([(0,qsQ x1),(1,qsQ x2),(11,.bool x6)],[],[],[],qaT F x1 x2 x6)) ?_ ?_
 refine qc (os:=_) rfl ?_
 refine av [25,14] ?_ ?_
 intro h4
 refine qA (k:=7) rfl h4 ?_
 refine au [3,30,5] ?_
 intro x8 e8 _
 refine au [25,8,106] ?_
 exact qb ((!x8),())
 intro h4
 refine qz (k:=7) rfl h4 ?_
 refine au [61,7,109] ?_
 exact qb (false,())
 rintro ⟨x6,_⟩
 try dsimp only
 refine qc (os:=_) rfl ?_
 refine au [3] ?_
 refine qO 4 x6 [(16,.bool (x6 || (decide (x1<x2))))] (fun h7=>?_) (fun h7=>?_) ?_
 refine qc (os:=_) rfl (qA (k:=12) rfl h7 ?_)
 refine au [61,7,24,7] ?_
 refine qa (d:=16) (v:=.bool (x6 || (decide (x1<x2)))) rfl (by rw[h7];simp only[qqU]) ?_
 exact az [51]
 refine qc (os:=_) rfl (qz (k:=12) rfl h7 ?_)
 refine au [3,3,24,3,24,9] ?_
 refine qa (d:=16) (v:=.bool (x6 || (decide (x1<x2)))) rfl (by rw[h7];simp only[qqT]) ?_
 exact az [51]
 refine qc (os:=_) rfl ?_
 exact az [68]
theorem qgE {F:Nat}{x1:Int}{r:Bool}(hm:qax F x1=some r) :
    Pure Tryz.prog 216 [qsQ x1] [] Unit (fun _=>.bool r) (fun _=>[]) (fun _=>[]):=by
 refine qs Tryz.func216 rfl Tryz.ntmps216 rfl hm (fun w=>?_)
 exact az [59,58,3,25,1,68]
set_option maxHeartbeats 4000000 in
theorem qb7 {F:Nat}{x1:qsO}{a2:qsP}{c3:Nat}{x4:Int}{r:(Int×Bool)}(hm:kp F x1 x4=some r) :
    Pure Tryz.prog 180 [qsR a2 x1 c3,qsQ x4] [qsT a2 x1 c3] Unit (fun _=>.tuple #[qsQ r.1,.bool r.2]) (fun _=>[]) (fun _=>[]):=by
 refine qs Tryz.func180 rfl Tryz.ntmps180 rfl hm (fun w=>?_)
 refine au [56,5,58,24,6,58,5,46] ?_
 refine qj (fun ((x32,_):(Int×Unit))=>([(0,qsR a2 x1 c3),(1,qsQ x4),(6,qsQ (x1.length:Int)),(7,qsQ x32)],[],[],[qsT a2 x1 c3],y8 F x1 x4 x32)) ?_ ?_
 refine au [14] ?_
 refine qB (fun (((x85,x86),_):((Int×Int)×Unit))=>([(0,qsR a2 x1 c3),(1,qsQ x4),(6,qsQ (x1.length:Int)),(7,qsQ x85),(8,qsQ x86)],[],[],[qsT a2 x1 c3])) (fun k (s:((Int×Int)×Unit))=>zS F x1 x4 k s.1) ((0,(x1.length:Int)),()) F ?_
 intro k95
 rintro ⟨⟨x85,x86⟩,_⟩
 try dsimp only
 refine qH (m':=yR F x1 x4 (zS F x1 x4 k95) x85 x86) rfl ?_
 refine av [1,87,91] ?_ ?_
 intro _
 refine au [57,14,87,23,25,11,27,2,25,11,121] ?_
 intro x97 e97
 refine qa (d:=9) (v:=qsQ x97) rfl (by simp only[qsR,e97] <;> rfl) ?_
 refine au [45,87,26,2] ?_
 intro x98 e98 b99 o0
 refine au [25,2,3] ?_
 refine qk qit ?_
 intro x0 e0 _
 refine av [50] ?_ ?_
 intro _
 refine au [4,3,23,5,0,24,2] ?_
 exact qr ((iadd .i64 x97 1,x86),())
 intro _
 refine au [4,3,5,0,24,2] ?_
 exact qr ((x85,x97),())
 intro _
 refine au [73] ?_
 exact qb (x85,())
 rintro ⟨x32,_⟩
 try dsimp only
 refine au [87,3,24,3,3] ?_
 refine zp 18 (fun ((x55,_):(Bool×Unit))=>([(31,qsQ x32),(53,.bool x55)],[],[],[],kK F x32 x55)) ?_ ?_
 refine qc (os:=_) rfl ?_
 refine av [25,14] ?_ ?_
 intro h33
 refine qA (k:=35) rfl h33 ?_
 refine au [3,3,26,2] ?_
 intro x56 e56 b57 o58
 refine au [25,2,3,25,5,3] ?_
 refine zp 10 (fun ((x68,_):(Bool×Unit))=>([(31,qsQ x32),(35,.bool true),(52,.bool x68)],[],[],[],kL F x32 x68)) ?_ ?_
 refine qc (os:=_) rfl ?_
 refine av [25,14] ?_ ?_
 intro h59
 refine qA (k:=42) rfl h59 ?_
 refine au [65,65,7,106] ?_
 exact qb (true,())
 intro h59
 refine qz (k:=42) rfl h59 ?_
 refine au [3,3,28,9] ?_
 intro x69 e69 b70 o71
 refine au [25,2,34,1] ?_
 intro x72 e72 _
 refine au [3] ?_
 refine zp 3 (fun ((x75,_):(Bool×Unit))=>([(31,qsQ x32),(35,.bool true),(42,.bool false),(51,.bool x75)],[],[],[],kM F x32 x75)) ?_ ?_
 refine qc (os:=_) rfl ?_
 refine av [25,14] ?_ ?_
 intro h73
 refine qA (k:=48) rfl h73 ?_
 refine au [3,34,1] ?_
 intro x76 e76 _
 refine au [106] ?_
 exact qb (x76,())
 intro h73
 refine qz (k:=48) rfl h73 ?_
 refine au [61,109] ?_
 exact qb (false,())
 rintro ⟨x75,_⟩
 try dsimp only
 refine qc (os:=_) rfl ?_
 refine au [109] ?_
 exact qb (x75,())
 rintro ⟨x68,_⟩
 try dsimp only
 refine qc (os:=_) rfl ?_
 refine au [106] ?_
 exact qb (x68,())
 intro h33
 refine qz (k:=35) rfl h33 ?_
 refine au [65,65,65,65,7,109] ?_
 exact qb (false,())
 rintro ⟨x55,_⟩
 try dsimp only
 refine qc (os:=_) rfl ?_
 exact az [5,68]
set_option maxHeartbeats 4000000 in
theorem qgD {F:Nat}{g1:Nat}{x2:qsO}{a3:qsP}{c4:Nat}{x5:Bool}{x6:Int}{x7:Bool}{r:(qsO×Bool×Int)}(hm:qdc F x2 x5 x6 x7=some r) :
    PureM Tryz.prog 296 [qsS g1,.bool x7] [⟨g1,363,[qsR a3 x2 c4,.bool x5,qsQ x6]⟩] [qsU a3 x2 c4] [] (qsP×Nat) (fun _=>.tuple #[]) (fun g=>[⟨g1,363,[qsR g.1 r.1 g.2,.bool r.2.1,qsQ r.2.2]⟩]) (fun g=>[qsU g.1 r.1 g.2]):=by
 refine qE Tryz.func296 rfl Tryz.ntmps296 rfl hm (fun w=>?_)
 refine au [24,8] ?_
 refine qj (fun (((x21,x22,x23),(a19,c20)):((qsO×Bool×Int)×(qsP×Nat)))=>([(0,qsS g1)],[⟨g1,363,[qsR a19 x21 c20,.bool x22,qsQ x23]⟩],[qsU a19 x21 c20],[],v8 F x21 x22 x23)) ?_ ?_
 refine au [87,114] ?_
 refine qpH rfl UnF.u rfl rfl rfl ?_
 refine av [50] ?_ ?_
 intro _
 refine au [1] ?_
 refine qt mixed [13] [] [(BlkD.is ⟨g1,363,[qsR a3 x2 c4,.bool x5,qsQ x6]⟩)] .nil (qeK 0 rfl qh) 14 rfl ?_
 refine au [97,15,3] ?_
 refine qJ 4 (qsR a3 x2 c4) [[13]] rfl rfl rfl (kj (j:=0) rfl tf56 rfl rfl (fun _=>rfl) rfl) ?_
 refine au [6,5,6,6,15,7] ?_
 refine qJ 8 (qsQ x6) [[13]] rfl rfl rfl (kj (j:=0) rfl tf3 rfl rfl (fun _=>rfl) rfl) ?_
 refine au [13,9] ?_
 refine qV (vs:=[qsQ x6]) (ys:=([x6]:qsO)) (qu .i64) (by decide) rfl Tryz.underlying56 tf3 rfl rfl rfl rfl rfl (by decide) (fun a29 c30=>?_)
 refine au [0,31,10,13,10] ?_
 refine zu 1 (qu .i64) rfl Tryz.underlying56 tf3 rfl rfl rfl rfl rfl (.inl ⟨0,_,rfl⟩) rfl rfl (fun x31 e31 a32 c33=>?_)
 refine au [0,31,10,6,11,15,12,13,13,86] ?_
 refine kw 13 rfl (by kernel_rfl) .nil ?_
 refine au [16] ?_
 refine qm ?_ (by intro c h;cases h)
 refine au [2,4,3,3,3,55,20,55,86] ?_
 exact qb ((x31,x7,(0:Int)),(a32,c33))
 intro _
 refine au [11] ?_
 exact qb ((x2,x5,x6),(a3,c4))
 rintro ⟨⟨x21,x22,x23⟩,⟨a19,c20⟩⟩
 try dsimp only
 refine au [4,3,114,23,55,86] ?_
 exact qX (a19,c20)
end Go.Proofs.YthibchijlpflmaaGreatDoor
