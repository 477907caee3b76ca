/- Each Go function of this seat computes what its model says, part 7. -/
import Derived.Test.YthibchijlpflmaaGreatDoorWalks6
open List renaming replicate→qqF, length_set→qqR, length_replicate→qq9
namespace Go.Proofs.YthibchijlpflmaaGreatDoor
open Go SX
set_option linter.unusedSimpArgs false
set_option maxHeartbeats 4000000 in
theorem qbl (F:Nat)(g1:Nat)(g2:Nat)(x3:List (qsO))(a4:qsP)(c5:(Nat×List (qsP×Nat)))(x6:Int)(x7:Int)(x8:Int)(x9:qsO)(a10:qsP)(c11:Nat)(x12:qsO)(g13:Nat)(r:(Int×qsO))(hm:vk F x3 x6 x7 x8 x9 x12=some r) :
    PureM Tryz.prog 94 [qsS g1,qsS g13] [⟨g1,83,[qsS g2]⟩,⟨g2,85,[qsR a4 x3 c5.1,qsQ x6,qsQ x7,qsQ x8,qsR a10 x9 c11,.string (bstr x12)]⟩,⟨g13,107,[.func (.func 67) #[] #[]]⟩] [] [SlN eN56 iN56 1 (qsR a4 x3 c5.1) x3 c5.2,qsT a10 x9 c11,GF] Unit (fun _=>qsQ r.1) (fun _=>[⟨g2,85,[qsR a4 x3 c5.1,qsQ x6,qsQ x7,qsQ x8,qsR a10 x9 c11,.string (bstr r.2)]⟩,⟨g1,83,[qsS g2]⟩,⟨g13,107,[.func (.func 67) #[] #[]]⟩]) (fun _=>[]):=by
 refine qE Tryz.func94 rfl Tryz.ntmps94 rfl hm (fun w=>?_)
 refine au [56,71,1,28,2] ?_
 intro x36 e36 b37 o38 h39
 replace h39:a10=some ⟨b37,o38,none⟩:=h39
 refine qt mixed [] [⟨g1,83,[qsS g2]⟩,⟨g2,85,[qsR a4 x3 c5.1,qsQ x6,qsQ x7,qsQ x8,qsR a10 x9 c11,.string (bstr x12)]⟩,⟨g13,107,[.func (.func 67) #[] #[]]⟩] [qC b37 (o38+(0:Int).toNat*1) ((eI .i64) x36),SlN eN56 iN56 1 (qsR a4 x3 c5.1) x3 c5.2,qsT a10 x9 c11,GF] (.cons 0 rfl (.cons 0 rfl (.cons 0 rfl .nil))) (qf 0 rfl (qf 1 rfl (qf 2 rfl (qf 3 rfl qh)))) 10 rfl ?_
 refine au [24,14,0,24,14,1,6,2,15,3,26,4,4] ?_
 refine qg (d:=9) (v:=qsR (some ⟨b37,o38,none⟩) x9 c11) rfl (by simp only[qsR,h39] <;> rfl) (qe 5 (.pointer (some ⟨b37,(o38+(0:Int).toNat*1),none⟩)) rfl rfl rfl (k8 Tryz.underlying56 tf3 rfl rfl (qo e36).1 (zf e36)) (qg (d:=9) (v:=qsR a10 x9 c11) rfl (by simp only[qsR,h39] <;> rfl) (qJ 6 (qsQ x36) [] rfl rfl rfl (q7 (j:=0) rfl tf3 rfl rfl (fun _=>rfl) rfl) ?_)))
 refine au [13,7] ?_
 refine qV (vs:=[qsQ x36]) (ys:=([x36]:qsO)) (qu .i64) (by decide) rfl Tryz.underlying56 tf3 rfl rfl rfl rfl rfl (by decide) (fun a40 c41=>?_)
 refine au [0,31,0,13,8,30,7] ?_
 intro x42 e42 _
 refine au [0,37,1,6,9,16] ?_
 refine qm ?_ (by intro c h;cases h)
 refine av [2,10] ?_ ?_
 intro _
 exact az [47,60,25,13]
 intro _
 refine au [82] ?_
 refine qt mixed [] [⟨g2,85,[qsR a4 x3 c5.1,qsQ x6,qsQ x7,qsQ x8,qsR a10 x9 c11,.string (bstr x12)]⟩,⟨g1,83,[qsS g2]⟩,⟨g13,107,[.func (.func 67) #[] #[]]⟩] [qC b37 (o38+(0:Int).toNat*1) ((eI .i64) x36),SlN eN56 iN56 1 (qsR a4 x3 c5.1) x3 c5.2,qsT a10 x9 c11,GF] (.cons 0 rfl (.cons 0 rfl (.cons 0 rfl .nil))) (qf 0 rfl (qf 1 rfl (qf 2 rfl (qf 3 rfl qh)))) 12 rfl ?_
 refine au [29,2,0,26,4,1,6,2,15,3,15,4] ?_
 refine qN 5 (.agg #[.slice a4 x3.length c5.1]) rfl rfl rfl (qM (i:=0) rfl tf24 rfl rfl (by simp) rfl) ?_
 refine au [13,6] ?_
 refine qhV ent67 rfl rfl rfl rfl (fun x46 e46=>qiC F x3 a4 c5 x46 e46) (.consF 1 rfl .nil) (fun x46 e46=>?_)
 rintro ⟨a47,c48⟩
 refine au [0,31,0,6,7,6,8,6,9,6,10,64] ?_
 refine qm ?_ (by intro c h;cases h)
 refine au [2,1,29,0] ?_
 intro x58 e58 b59 o60 h61
 replace h61:a10=some ⟨b59,o60,none⟩:=h61
 refine au [29,12] ?_
 intro x62 e62 g63 h64
 replace h64:a47=some ⟨g63,0,none⟩:=h64
 have h65:=zE (k:=x46.1.length) (c:=c48) h64
 refine qt mixed [13] [⟨g1,83,[qsS g2]⟩,⟨g13,107,[.func (.func 67) #[] #[]]⟩] [qC b59 (o60+(0:Int).toNat*1) ((eI .i64) x58),qC b37 (o38+(0:Int).toNat*1) ((eI .i64) x36),SlN eN56 iN56 1 (qsR a4 x3 c5.1) x3 c5.2,qsT a10 x9 c11,GF,qC g63 (x58.toNat*1) ((eI .i64) x62),(BlkD.is ⟨g2,85,[qsR a4 x3 c5.1,qsQ x6,qsQ x7,qsQ x8,qsR a10 x9 c11,.string (bstr x12)]⟩)] (.cons 1 rfl (.cons 1 rfl .nil)) (qf 0 rfl (qf 1 rfl (qf 2 rfl (qf 3 rfl (qf 4 rfl (qP 0 rfl (qx (qu .i64) e62 h64) (qeK 0 rfl qh))))))) 14 rfl ?_
 refine au [24,14,0,6,1,24,14,2,6,3,15,4] ?_
 refine qJ 5 (qsR a10 x9 c11) [[13]] rfl rfl rfl (kj (j:=6) rfl tf56 rfl rfl (fun _=>rfl) rfl) (qg (d:=30) (v:=qsR (some ⟨b59,o60,none⟩) x9 c11) rfl (by simp only[qsR,h61] <;> rfl) (qe 6 (.pointer (some ⟨b59,(o60+(0:Int).toNat*1),none⟩)) rfl rfl rfl (k8 Tryz.underlying56 tf3 rfl rfl (qo e58).1 (zf e58)) (qg (d:=30) (v:=qsR a10 x9 c11) rfl (by simp only[qsR,h61] <;> rfl) (qJ 7 (qsQ x58) [[13]] rfl rfl rfl (q7 (j:=0) rfl tf3 rfl rfl (fun _=>rfl) rfl) (qg (d:=26) (v:=qsR (some ⟨g63,0,none⟩) x46.1 c48) rfl (by simp only[qsR,h64] <;> rfl) (qe 8 (.pointer (some ⟨g63,x58.toNat*1,none⟩)) rfl rfl rfl (zU Tryz.underlying56 tf3 rfl rfl (qo e62).1 (zf e62)) (qg (d:=26) (v:=qsR a47 x46.1 c48) rfl (by simp only[qsR,h64] <;> rfl) (qJ 9 (qsQ x62) [[13]] rfl rfl rfl (q7 (j:=5) rfl tf3 rfl rfl (fun _=>rfl) rfl) ?_))))))))
 refine au [13,10] ?_
 refine yj ent24 rfl rfl rfl (fun x66 e66=>qdv x62 x66 e66) (.consF 4 rfl .nil) (fun x66 e66 _=>?_)
 refine au [0] ?_
 refine qi (.cons 1 rfl (.cons 1 rfl .nil)) (qf 0 rfl (qf 1 rfl (qf 2 rfl (qf 3 rfl (qf 4 rfl (qP 0 rfl (qx (qu .i64) e62 h64) (qeK 0 rfl qh))))))) ?_
 refine au [6,11,15,12,13,13,86,37,2,16] ?_
 refine qm ?_ (by intro c h;cases h)
 exact az [2,48,90]
set_option maxHeartbeats 4000000 in
theorem qig {F:Nat}{x1:List (qsO)}{a2:qsP}{c3:Nat}{s3:List (qsP×Nat)}{r:(qsO×qsO×Int)}(hm:qeY F x1=some r) :
    PureM Tryz.prog 133 [.agg #[qsR a2 x1 c3]] [] [] [SlN eN56 iN56 1 (qsR a2 x1 c3) x1 s3] ((qsP×Nat)×(qsP×Nat)) (fun g=>.tuple #[qsR g.1.1 r.1 g.1.2,qsR g.2.1 r.2.1 g.2.2,qsQ r.2.2]) (fun _=>[]) (fun g=>[qsU g.1.1 r.1 g.1.2,qsU g.2.1 r.2.1 g.2.2]):=by
 refine qbf Tryz.func133 rfl Tryz.ntmps133 rfl hm (fun w=>?_)
 refine au [59,22] ?_
 intro g4
 refine au [24,4] ?_
 intro g5
 refine au [24,4] ?_
 intro g6
 refine au [71,47,26,6,28,0] ?_
 intro x9 e9 _
 refine av [58,70] ?_ ?_
 intro _
 refine au [48,25,4,20,107,25,9] ?_
 exact y1 [] ((none,0),(none,0)) (.inl rfl) rfl .nil (resL (rs:=[.cell 2 56,.cell 3 56,.tmp 4]) rfl (.cell (i:=1) rfl tf56 rfl rfl (fun _=>rfl) rfl (.cell (i:=0) rfl tf56 rfl rfl (fun _=>rfl) rfl (.tmp rfl ResOk.nil))) rfl) (fun h=>by subst h;rfl) (fun h=>by subst h;exact .nil) (fun h=>by subst h;exact (.cons 0 rfl (.cons 0 rfl .nil)))
 intro _
 refine au [57] ?_
 refine qj (fun (((x27,x30),(a25,c26,a28,c29)):((qsO×qsO)×(qsP×Nat×qsP×Nat)))=>([(1,qsS g4),(2,qsS g5),(3,qsS g6),(4,qsQ 0)],[⟨g6,56,[qsR a25 x27 c26]⟩,⟨g5,56,[qsR a28 x30 c29]⟩,⟨g4,24,[qsR a2 x1 c3]⟩],[qsU a25 x27 c26,qsU a28 x30 c29],[SlN eN56 iN56 1 (qsR a2 x1 c3) x1 s3],yI F x1 x27 x30)) ?_ ?_
 refine qt mixed [] [⟨g4,24,[qsR a2 x1 c3]⟩] [SlN eN56 iN56 1 (qsR a2 x1 c3) x1 s3] (.cons 2 rfl .nil) (qf 0 rfl qh) 10 rfl ?_
 refine au [117,28,1,2,15,4,24,14,5,28,1,6] ?_
 refine ye 3 7 rfl rfl (by kernel_rfl) rfl rfl ?_ ?_
 refine au [26,0] ?_
 intro x0 e0 a0 c0
 refine au [0,26,13] ?_
 refine ye 7 8 rfl rfl (by kernel_rfl) rfl rfl ?_ ?_
 refine au [26,0] ?_
 intro x2 e1 a1 c1
 refine au [0,26,13,13,8,120,26,13,13,9,86,26,13,16] ?_
 exact qm (qb ((x2,x0),(a1,c1,a0,c0))) (by intro c h;cases h)
 refine kz (m':=((mk 17592186044416 (0:Int) (x1.length:Int)).bind fun x3=>yI F x1 x3 x0)) (rfl) ?_
 refine au [120,26,13,13,7,26,0] ?_
 intro x3 e2 a3 c2
 refine au [0,26,13,13,9,86,26,13,16] ?_
 exact qm (qb ((x3,x0),(a3,c2,a0,c0))) (by intro c h;cases h)
 refine kz (m':=((mk 17592186044416 (0:Int) (x1.length:Int)).bind fun x4=>((mk 17592186044416 (0:Int) (x1.length:Int)).bind fun x5=>yI F x1 x4 x5))) (Eq.trans (b:=((mk 17592186044416 (0:Int) (x1.length:Int)).bind fun x0=>((mk 17592186044416 (0:Int) (x1.length:Int)).bind fun x2=>yI F x1 x2 x0))) rfl (by generalize (mk 17592186044416 (0:Int) (x1.length:Int))=q0;cases q0 <;> rfl)) ?_
 refine au [26,0] ?_
 intro x4 e3 a4 c4
 refine au [0,26,13,13,3,26,0] ?_
 intro x5 e4 a5 c5
 refine au [0,26,13,13,8,120,26,13,13,9,86,26,13,16] ?_
 exact qm (qb ((x4,x5),(a4,c4,a5,c5))) (by intro c h;cases h)
 rintro ⟨⟨x27,x30⟩,⟨a25,c26,a28,c29⟩⟩
 try dsimp only
 refine au [1,47,26,6,30,3] ?_
 intro x98 e98 g99
 refine au [76] ?_
 refine jW (encs:=(fun (p:(Int×Int))=>[.agg #[qsQ p.1,qsQ p.2]])) (y:=(fun ((x6,x7):(qsO×qsO)) ((x8,x10):(Int×Int))=>qc6 F x6 x7 x8 x10)) (lb:=[qsS g99]) (fun ((x6,x7):(qsO×qsO)) (_:Unit)=>[⟨g6,56,[qsR a25 x6 c26]⟩,⟨g5,56,[qsR a28 x7 c29]⟩,⟨g4,24,[qsR a2 x1 c3]⟩]) (fun ((x6,x7):(qsO×qsO)) (_:Unit)=>[qsU a25 x6 c26,qsU a28 x7 c29]) (fun (_:Empty) (_:Unit)=>[]) (fun (_:Empty) (_:Unit)=>[]) (fun _=>.skip) (x27,x30) () rfl ent159 (fun _=>rfl) rfl (.cons 0 rfl .nil) (.cons 0 rfl (.cons 0 rfl (.cons 0 rfl .nil))) (.cons 0 rfl (.cons 0 rfl .nil)) (.consF 0 rfl .nil) (fun z hz _ _ _ hY=>qbP F hY (x27,x30) () g99 x1 a2 (c3,s3) z hz) ?_ ?_ ?_
 rintro rc1 L1 D1 ⟨x6,x7⟩ _ ⟨x8,x10⟩ z w M _
 try dsimp only
 refine qbi [(1,qsS g4),(2,qsS g5),(3,qsS g6),(4,qsQ 0),(20,.agg #[qsR a2 x1 c3]),(21,.func (.func 159) #[] #[qsS g99]),(22,.agg #[qsQ x8,qsQ x10])] (qw rfl (qw rfl (qw rfl (qw rfl (qw rfl (qw rfl (qw rfl qbK))))))) ?_
 refine au [4,24,4] ?_
 intro g0
 refine au [86,34,2,14,47,26,1,78,31,1] ?_
 intro x11 e5 g1 h0
 refine z7 (j:=1) (y:=x11) (qu .i64) rfl rfl tf3 rfl h0 (qo e5).2.2 (fun _=>rfl) rfl rfl ?_
 refine au [23,31,1] ?_
 intro x12 e6 g2 h1
 refine zX (j:=1) (y':=iadd .i64 x11 1) (qu .i64) rfl rfl rfl tf3 rfl h1 (qo e6).2.1 rfl (fun x13 e7 h2=>?_)
 have h3:x13.length=x7.length:=by rw[← e7,qqR]
 refine qa (d:=23) (v:=qsR a28 x13 c29) rfl h2 (ze (i:=2) (cs':=[qsR a28 x13 c29]) rfl (by simp only[qsR,h2] <;> rfl) ?_)
 refine au [45,4,25,6,78,31,1] ?_
 intro x14 e8 g3 h4
 refine z7 (j:=1) (y:=x14) (qu .i64) rfl rfl tf3 rfl h4 (qo e8).2.2 (fun _=>rfl) rfl rfl ?_
 refine au [23,31,1] ?_
 intro x15 e10 g7 h5
 refine zX (j:=1) (y':=iadd .i64 x14 1) (qu .i64) rfl rfl rfl tf3 rfl h5 (qo e10).2.1 rfl (fun x16 e11 h6=>?_)
 have h7:x16.length=x6.length:=by rw[← e11,qqR]
 refine qa (d:=30) (v:=qsR a25 x16 c26) rfl h6 (ze (i:=1) (cs':=[qsR a25 x16 c26]) rfl (by simp only[qsR,h6] <;> rfl) ?_)
 refine au [0,24,2] ?_
 exact yw (rc:=rc1) rfl (.cons 4 rfl .nil) rfl () (.cons 2 rfl (.cons 2 rfl (.cons 2 rfl (.cons 0 rfl (.cons 1 rfl .nil))))) (.cons 0 rfl (.cons 0 rfl .nil))
 rintro ⟨x6,x7⟩ _ _ D1
 try dsimp only
 refine au [63,1] ?_
 refine qt mixed [] [(dblk D1),⟨g99,24,[qsR a2 x1 c3]⟩,⟨g6,56,[qsR a25 x6 c26]⟩,⟨g5,56,[qsR a28 x7 c29]⟩,⟨g4,24,[qsR a2 x1 c3]⟩] [SlN eN56 iN56 1 (qsR a2 x1 c3) x1 s3] (.cons 0 rfl (.cons 0 rfl (.cons 0 rfl (.cons 0 rfl (.cons 0 rfl .nil))))) (qf 0 rfl qh) 5 rfl ?_
 refine au [31,12,0,29,2,1,13,2,28,15,0,29,3,13,3,27,5,0,29,3,6,4,16] ?_
 refine qm ?_ (by intro c h;cases h)
 refine au [2,8] ?_
 exact y1 [D1] ((a28,c29),(a25,c26)) (.inl rfl) rfl (.cons 0 rfl .nil) (resL (rs:=[.cell 2 56,.cell 3 56,.tmp 4]) rfl (.cell (i:=2) rfl tf56 rfl rfl (fun _=>rfl) rfl (.cell (i:=1) rfl tf56 rfl rfl (fun _=>rfl) rfl (.tmp rfl ResOk.nil))) rfl) (fun h=>by subst h;rfl) (fun h=>by subst h;exact .nil) (fun h=>by subst h;exact (.cons 1 rfl (.cons 0 rfl .nil)))
 intro t;exact t.elim
set_option maxHeartbeats 4000000 in
theorem qiB {F:Nat}{x1:List (qsO)}{a2:qsP}{c3:Nat}{s3:List (qsP×Nat)}{r:(qsO×Int)}(hm:qfG F x1=some r) :
    Pure Tryz.prog 96 [.agg #[qsR a2 x1 c3]] [SlN eN56 iN56 1 (qsR a2 x1 c3) x1 s3] (qsP×Nat) (fun g=>.tuple #[qsR g.1 r.1 g.2,qsQ r.2]) (fun g=>[qsU g.1 r.1 g.2]) (fun _=>[]):=by
 refine qs Tryz.func96 rfl Tryz.ntmps96 rfl hm (fun w=>?_)
 refine au [59,22] ?_
 intro g4
 refine au [5,46,74] ?_
 refine qF qig ?_
 rintro x5 e5 ⟨⟨a6,c7⟩,⟨a8,c9⟩⟩
 refine av [93,18,5,5,85,70] ?_ ?_
 intro _
 refine au [48,5,107] ?_
 exact qI (none,0)
 intro _
 refine au [115,46] ?_
 refine qj (fun ((x0,(a0,c0)):(qsO×(qsP×Nat)))=>([(7,qsR a0 x0 c0)],[],[qsU a0 x0 c0],[],qdg F x0)) ?_ ?_
 refine au [14,27,12] ?_
 refine qB (fun (((x2,x3),(a1,c1)):((qsO×qsO)×(qsP×Nat)))=>([(1,qsS g4),(5,qsR a8 x2 c9),(7,qsR a1 x3 c1)],[⟨g4,24,[qsR a2 x1 c3]⟩],[qsU a8 x2 c9,qsU a1 x3 c1],[SlN eN56 iN56 1 (qsR a2 x1 c3) x1 s3])) (fun k (s:((qsO×qsO)×(qsP×Nat)))=>ka F x1 k s.1) ((x5.2.1,([]:qsO)),(none,0)) F ?_
 intro k0
 rintro ⟨⟨x2,x3⟩,⟨a1,c1⟩⟩
 try dsimp only
 refine qH (m':=qde F x1 (ka F x1 k0) x2 x3) rfl ?_
 refine av [1,72,3,24,6,91] ?_ ?_
 intro _
 refine au [57,14,48,31,3] ?_
 intro x4 e0 _
 refine av [85,91] ?_ ?_
 intro _
 refine au [47,5,60,52,52,25,9] ?_
 exact qI (none,0)
 intro _
 refine au [57,87,26,3] ?_
 intro x6 e1 g0 h0
 refine zX (j:=0) (y':=-1) (qu .i64) rfl rfl rfl tf3 rfl h0 (qo e1).2.1 rfl (fun x7 e2 h1=>?_)
 have h2:x7.length=x2.length:=by rw[← e2,qqR]
 refine qa (d:=5) (v:=qsR a8 x7 c9) rfl h1 (qa (d:=22) (v:=qsR a8 x7 c9) rfl h1 (qa (d:=25) (v:=qsR a8 x7 c9) rfl h1 (qa (d:=29) (v:=qsR a8 x7 c9) rfl h1 ?_)))
 refine au [45] ?_
 refine qj (fun ((x8,_):(qsO×Unit))=>([(1,qsS g4),(5,qsR a8 x8 c9),(7,qsR a1 x3 c1),(8,qsQ x4)],[⟨g4,24,[qsR a2 x1 c3]⟩],[qsU a8 x8 c9,qsU a1 x3 c1],[SlN eN56 iN56 1 (qsR a2 x1 c3) x1 s3],qdh F (ka F x1 k0) x3 x4 x8)) ?_ ?_
 refine au [47,78,3,27,1] ?_
 intro x9 e3 g1 b0 o0
 refine au [25,2,122,76] ?_
 refine qB (fun (((x10,x11),_):((qsO×Int)×Unit))=>([(1,qsS g4),(5,qsR a8 x10 c9),(7,qsR a1 x3 c1),(8,qsQ x4),(36,qsR g1.1 x9 g1.2),(37,qsQ (x9.length:Int)),(38,qsQ x11)],[⟨g4,24,[qsR a2 x1 c3]⟩],[qsU a8 x10 c9,qsU a1 x3 c1],[qsT g1.1 x9 g1.2,SlN eN56 iN56 1 (qsR a2 x1 c3) x1 s3])) (fun k (s:((qsO×Int)×Unit))=>vM F (ka F x1 k0) x3 x4 x9 k s.1) ((x7,0),()) F ?_
 intro k1
 rintro ⟨⟨x10,x11⟩,_⟩
 try dsimp only
 refine qH (m':=qdf F (ka F x1 k0) x3 x4 x9 (vM F (ka F x1 k0) x3 x4 x9 k1) x10 x11) rfl ?_
 refine av [96] ?_ ?_
 intro _
 refine au [83,47,26,2] ?_
 intro x12 e4 b1 o1
 refine au [25,2,46,4,3,3,26,3] ?_
 intro x13 e6 g2 h3
 refine z7 (j:=0) (y:=x13) (qu .i64) rfl rfl tf3 rfl h3 (qo e6).2.2 (fun _=>rfl) rfl rfl ?_
 refine au [25,10,26,3] ?_
 intro x14 e7 g3 h4
 refine zX (j:=0) (y':=isub .i64 x13 1) (qu .i64) rfl rfl rfl tf3 rfl h4 (qo e7).2.1 rfl (fun x15 e8 h5=>?_)
 have h6:x15.length=x10.length:=by rw[← e8,qqR]
 refine qa (d:=5) (v:=qsR a8 x15 c9) rfl h5 (qa (d:=42) (v:=qsR a8 x15 c9) rfl h5 ?_)
 refine au [0,99] ?_
 exact qr ((x15,iadd .i64 x11 1),())
 intro _
 refine au [73] ?_
 exact qb (x10,())
 rintro ⟨x8,_⟩
 try dsimp only
 refine au [4,3,3] ?_
 refine qV (vs:=[qsQ x4]) (ys:=([x4]:qsO)) (qu .i64) (by decide) rfl Tryz.underlying56 tf3 rfl rfl rfl rfl rfl (by decide) (fun a3 c2=>zu 2 (qu .i64) rfl Tryz.underlying56 tf3 rfl rfl rfl rfl rfl (.inl ⟨0,_,rfl⟩) rfl rfl (fun x16 e9 a4 c4=>?_))
 refine au [5,0,24,2] ?_
 exact qr ((x8,x16),(a4,c4))
 intro _
 refine au [73] ?_
 exact qb (x3,(a1,c1))
 rintro ⟨x0,⟨a0,c0⟩⟩
 try dsimp only
 refine au [48,5,49] ?_
 exact qI (a0,c0)
theorem qgy (F:Nat)(g1:Nat)(x2:List (qsO))(a3:qsP)(c4:(Nat×List (qsP×Nat)))(x5:Int)(x6:Int)(x7:Int)(x8:qsO)(a9:qsP)(c10:Nat)(x11:qsO)(r:(Int×qsO))(hm:qc0 F x2 x5 x6 x7 x8 x11=some r) :
    PureM Tryz.prog 68 [qsS g1] [⟨g1,85,[qsR a3 x2 c4.1,qsQ x5,qsQ x6,qsQ x7,qsR a9 x8 c10,.string (bstr x11)]⟩] [] [SlN eN56 iN56 1 (qsR a3 x2 c4.1) x2 c4.2,qsT a9 x8 c10,GF] Unit (fun _=>qsQ r.1) (fun _=>[⟨g1,85,[qsR a3 x2 c4.1,qsQ x5,qsQ x6,qsQ x7,qsR a9 x8 c10,.string (bstr r.2)]⟩]) (fun _=>[]):=by
 refine qE Tryz.func68 rfl Tryz.ntmps68 rfl hm (fun w=>?_)
 refine au [59,58,55,110] ?_
 refine qk qiB ?_
 rintro x12 e12 ⟨a13,c14⟩
 refine au [93,5,58,3,3,37,0] ?_
 intro x15 e15 _
 exact az [90]
set_option maxHeartbeats 4000000 in
theorem qbk (F:Nat)(g1:Nat)(g2:Nat)(x3:List (qsO))(a4:qsP)(c5:(Nat×List (qsP×Nat)))(x6:Int)(x7:Int)(x8:Int)(x9:qsO)(a10:qsP)(c11:Nat)(x12:qsO)(g13:Nat)(r:(Int×qsO))(hm:vj F x3 x6 x7 x8 x9 x12=some r) :
    PureM Tryz.prog 94 [qsS g1,qsS g13] [⟨g1,83,[qsS g2]⟩,⟨g2,85,[qsR a4 x3 c5.1,qsQ x6,qsQ x7,qsQ x8,qsR a10 x9 c11,.string (bstr x12)]⟩,⟨g13,107,[.func (.func 69) #[] #[]]⟩] [] [SlN eN56 iN56 1 (qsR a4 x3 c5.1) x3 c5.2,qsT a10 x9 c11,GF] Unit (fun _=>qsQ r.1) (fun _=>[⟨g2,85,[qsR a4 x3 c5.1,qsQ x6,qsQ x7,qsQ x8,qsR a10 x9 c11,.string (bstr r.2)]⟩,⟨g1,83,[qsS g2]⟩,⟨g13,107,[.func (.func 69) #[] #[]]⟩]) (fun _=>[]):=by
 refine qE Tryz.func94 rfl Tryz.ntmps94 rfl hm (fun w=>?_)
 refine au [56,71,1,28,2] ?_
 intro x36 e36 b37 o38 h39
 replace h39:a10=some ⟨b37,o38,none⟩:=h39
 refine qt mixed [] [⟨g1,83,[qsS g2]⟩,⟨g2,85,[qsR a4 x3 c5.1,qsQ x6,qsQ x7,qsQ x8,qsR a10 x9 c11,.string (bstr x12)]⟩,⟨g13,107,[.func (.func 69) #[] #[]]⟩] [qC b37 (o38+(0:Int).toNat*1) ((eI .i64) x36),SlN eN56 iN56 1 (qsR a4 x3 c5.1) x3 c5.2,qsT a10 x9 c11,GF] (.cons 0 rfl (.cons 0 rfl (.cons 0 rfl .nil))) (qf 0 rfl (qf 1 rfl (qf 2 rfl (qf 3 rfl qh)))) 10 rfl ?_
 refine au [24,14,0,24,14,1,6,2,15,3,26,4,4] ?_
 refine qg (d:=9) (v:=qsR (some ⟨b37,o38,none⟩) x9 c11) rfl (by simp only[qsR,h39] <;> rfl) (qe 5 (.pointer (some ⟨b37,(o38+(0:Int).toNat*1),none⟩)) rfl rfl rfl (k8 Tryz.underlying56 tf3 rfl rfl (qo e36).1 (zf e36)) (qg (d:=9) (v:=qsR a10 x9 c11) rfl (by simp only[qsR,h39] <;> rfl) (qJ 6 (qsQ x36) [] rfl rfl rfl (q7 (j:=0) rfl tf3 rfl rfl (fun _=>rfl) rfl) ?_)))
 refine au [13,7] ?_
 refine qV (vs:=[qsQ x36]) (ys:=([x36]:qsO)) (qu .i64) (by decide) rfl Tryz.underlying56 tf3 rfl rfl rfl rfl rfl (by decide) (fun a40 c41=>?_)
 refine au [0,31,0,13,8,30,7] ?_
 intro x42 e42 _
 refine au [0,37,1,6,9,16] ?_
 refine qm ?_ (by intro c h;cases h)
 refine av [2,10] ?_ ?_
 intro _
 exact az [47,60,25,13]
 intro _
 refine au [82] ?_
 refine qt mixed [] [⟨g2,85,[qsR a4 x3 c5.1,qsQ x6,qsQ x7,qsQ x8,qsR a10 x9 c11,.string (bstr x12)]⟩,⟨g1,83,[qsS g2]⟩,⟨g13,107,[.func (.func 69) #[] #[]]⟩] [qC b37 (o38+(0:Int).toNat*1) ((eI .i64) x36),SlN eN56 iN56 1 (qsR a4 x3 c5.1) x3 c5.2,qsT a10 x9 c11,GF] (.cons 0 rfl (.cons 0 rfl (.cons 0 rfl .nil))) (qf 0 rfl (qf 1 rfl (qf 2 rfl (qf 3 rfl qh)))) 12 rfl ?_
 refine au [29,2,0,26,4,1,6,2,15,3,15,4] ?_
 refine qN 5 (.agg #[.slice a4 x3.length c5.1]) rfl rfl rfl (qM (i:=0) rfl tf24 rfl rfl (by simp) rfl) ?_
 refine au [13,6] ?_
 refine qhV ent69 rfl rfl rfl rfl (fun x46 e46=>qiu F x3 a4 c5 x46 e46) (.consF 1 rfl .nil) (fun x46 e46=>?_)
 rintro ⟨a47,c48⟩
 refine au [0,31,0,6,7,6,8,6,9,6,10,64] ?_
 refine qm ?_ (by intro c h;cases h)
 refine au [2,1,29,0] ?_
 intro x58 e58 b59 o60 h61
 replace h61:a10=some ⟨b59,o60,none⟩:=h61
 refine au [29,12] ?_
 intro x62 e62 g63 h64
 replace h64:a47=some ⟨g63,0,none⟩:=h64
 have h65:=zE (k:=x46.1.length) (c:=c48) h64
 refine qt mixed [13] [⟨g1,83,[qsS g2]⟩,⟨g13,107,[.func (.func 69) #[] #[]]⟩] [qC b59 (o60+(0:Int).toNat*1) ((eI .i64) x58),qC b37 (o38+(0:Int).toNat*1) ((eI .i64) x36),SlN eN56 iN56 1 (qsR a4 x3 c5.1) x3 c5.2,qsT a10 x9 c11,GF,qC g63 (x58.toNat*1) ((eI .i64) x62),(BlkD.is ⟨g2,85,[qsR a4 x3 c5.1,qsQ x6,qsQ x7,qsQ x8,qsR a10 x9 c11,.string (bstr x12)]⟩)] (.cons 1 rfl (.cons 1 rfl .nil)) (qf 0 rfl (qf 1 rfl (qf 2 rfl (qf 3 rfl (qf 4 rfl (qP 0 rfl (qx (qu .i64) e62 h64) (qeK 0 rfl qh))))))) 14 rfl ?_
 refine au [24,14,0,6,1,24,14,2,6,3,15,4] ?_
 refine qJ 5 (qsR a10 x9 c11) [[13]] rfl rfl rfl (kj (j:=6) rfl tf56 rfl rfl (fun _=>rfl) rfl) (qg (d:=30) (v:=qsR (some ⟨b59,o60,none⟩) x9 c11) rfl (by simp only[qsR,h61] <;> rfl) (qe 6 (.pointer (some ⟨b59,(o60+(0:Int).toNat*1),none⟩)) rfl rfl rfl (k8 Tryz.underlying56 tf3 rfl rfl (qo e58).1 (zf e58)) (qg (d:=30) (v:=qsR a10 x9 c11) rfl (by simp only[qsR,h61] <;> rfl) (qJ 7 (qsQ x58) [[13]] rfl rfl rfl (q7 (j:=0) rfl tf3 rfl rfl (fun _=>rfl) rfl) (qg (d:=26) (v:=qsR (some ⟨g63,0,none⟩) x46.1 c48) rfl (by simp only[qsR,h64] <;> rfl) (qe 8 (.pointer (some ⟨g63,x58.toNat*1,none⟩)) rfl rfl rfl (zU Tryz.underlying56 tf3 rfl rfl (qo e62).1 (zf e62)) (qg (d:=26) (v:=qsR a47 x46.1 c48) rfl (by simp only[qsR,h64] <;> rfl) (qJ 9 (qsQ x62) [[13]] rfl rfl rfl (q7 (j:=5) rfl tf3 rfl rfl (fun _=>rfl) rfl) ?_))))))))
 refine au [13,10] ?_
 refine yj ent24 rfl rfl rfl (fun x66 e66=>qdv x62 x66 e66) (.consF 4 rfl .nil) (fun x66 e66 _=>?_)
 refine au [0] ?_
 refine qi (.cons 1 rfl (.cons 1 rfl .nil)) (qf 0 rfl (qf 1 rfl (qf 2 rfl (qf 3 rfl (qf 4 rfl (qP 0 rfl (qx (qu .i64) e62 h64) (qeK 0 rfl qh))))))) ?_
 refine au [6,11,15,12,13,13,86,37,2,16] ?_
 refine qm ?_ (by intro c h;cases h)
 exact az [2,48,90]
theorem qje {F:Nat}{x1:List (qsO)}{a2:qsP}{c3:Nat}{s3:List (qsP×Nat)}{r:Unit}(hm:qf7 F x1=some r) :
    PureM Tryz.prog 136 [qsR a2 x1 c3] [] [] [SlN eN56 iN56 1 (qsR a2 x1 c3) x1 s3] Nat (fun g=>.func (.func 179) #[] #[qsS g]) (fun g=>[⟨g,22,[qsR a2 x1 c3]⟩]) (fun _=>[]):=by
 refine qE Tryz.func136 rfl Tryz.ntmps136 rfl hm (fun w=>?_)
 refine au [59,22] ?_
 intro g4
 refine au [84,27,4,49] ?_
 exact qX g4
set_option maxHeartbeats 4000000 in
theorem qif (F:Nat){σ τ:Type}{J:Rounds σ τ}{yy:σ→qsO→Option (σ ⊕ τ)}{L:Nat}(hY:YieldC Tryz.prog L (fun (p:qsO)=>[.agg (p.flatMap (eI .i64)).toArray]) J yy)(s0:σ)(gs0:J.γ)(g1:Nat)(x2:List (qsO))(a3:qsP)(c4:(Nat×List (qsP×Nat)))(r:σ ⊕ τ)(hm:qeS F yy x2 s0=some r) :
    PureM Tryz.prog 179 ([.func (.yield L) #[] #[],qsS g1]) ([⟨g1,22,[qsR a3 x2 c4.1]⟩]++J.IB s0 gs0) (J.IR s0 gs0) [J.F,SlN eN56 iN56 1 (qsR a3 x2 c4.1) x2 c4.2] (J.G r) (fun _=>.tuple #[]) (fun g=>[⟨g1,22,[qsR a3 x2 c4.1]⟩]++J.bs r g) (fun g=>J.rs r g):=by
 refine qE Tryz.func179 rfl Tryz.ntmps179 rfl hm (fun w=>?_)
 refine au [56,21,122,76] ?_
 refine yv (fun (((x0,x1),g0):((Int×σ)×J.γ))=>[(0,.func (.yield L) #[] #[]),(1,qsS g1),(11,qsR a3 x2 c4.1),(12,qsQ (x2.length:Int)),(13,qsQ x0)]) (fun (((x0,x1),g0):((Int×σ)×J.γ))=>[⟨g1,22,[qsR a3 x2 c4.1]⟩]++J.IB x1 g0) (fun (((x0,x1),g0):((Int×σ)×J.γ))=>[]++J.IR x1 g0) (fun (((x0,x1),g0):((Int×σ)×J.γ))=>[SlN eN56 iN56 1 (qsR a3 x2 c4.1) x2 c4.2,J.F]) (fun k (s:((Int×σ)×J.γ))=>q6 F yy x2 k s.1) ((0,s0),gs0) F ?_ (hB:=(.cons 0 rfl (qn 0 rfl))) (hR:=(qn 0 rfl)) (hF:=(qp 1 rfl (qp 0 rfl zx)))
 intro k0
 rintro ⟨⟨x0,x1⟩,g0⟩
 try dsimp only
 refine qH (m':=qcc F yy x2 (q6 F yy x2 k0) x0 x1) rfl ?_
 refine av [96] ?_ ?_
 intro _
 refine au [57] ?_
 refine jN (fun ((x3,g2):(σ×J.γ))=>[(0,.func (.yield L) #[] #[]),(1,qsS g1),(11,qsR a3 x2 c4.1),(12,qsQ (x2.length:Int)),(13,qsQ x0)]) (fun ((x3,g2):(σ×J.γ))=>[⟨g1,22,[qsR a3 x2 c4.1]⟩]++J.IB x3 g2) (fun ((x3,g2):(σ×J.γ))=>[]++J.IR x3 g2) (fun ((x3,g2):(σ×J.γ))=>[SlN eN56 iN56 1 (qsR a3 x2 c4.1) x2 c4.2,J.F]) (fun ((x3,_):(σ×J.γ))=>qcf F yy (q6 F yy x2 k0) x0 x3) ?_ ?_
 refine au [14,48,27,1] ?_
 intro x4 e0 g3 b0 o0
 refine au [25,2,5,58,122,76] ?_
 refine yv (fun (((x5,x6),g4):((Int×σ)×J.γ))=>[(0,.func (.yield L) #[] #[]),(1,qsS g1),(3,qsQ x0),(4,qsR g3.1 x4 g3.2),(11,qsR a3 x2 c4.1),(12,qsQ (x2.length:Int)),(13,qsQ x0),(18,qsR g3.1 x4 g3.2),(19,qsQ (x4.length:Int)),(20,qsQ x5)]) (fun (((x5,x6),g4):((Int×σ)×J.γ))=>[⟨g1,22,[qsR a3 x2 c4.1]⟩]++J.IB x6 g4) (fun (((x5,x6),g4):((Int×σ)×J.γ))=>[]++J.IR x6 g4) (fun (((x5,x6),g4):((Int×σ)×J.γ))=>[qsT g3.1 x4 g3.2,SlN eN56 iN56 1 (qsR a3 x2 c4.1) x2 c4.2,J.F]) (fun k (s:((Int×σ)×J.γ))=>zw F yy (q6 F yy x2 k0) x2 x0 x4 k s.1) ((0,x1),g0) F ?_ (hB:=(.cons 0 rfl (qn 0 rfl))) (hR:=(qn 0 rfl)) (hF:=(qp 1 rfl (qp 2 rfl (qp 3 rfl zx))))
 intro k1
 rintro ⟨⟨x5,x6⟩,g4⟩
 try dsimp only
 refine qH (m':=qcd F yy (q6 F yy x2 k0) x2 x0 x4 (zw F yy (q6 F yy x2 k0) x2 x0 x4 k1) x5 x6) rfl ?_
 refine av [96] ?_ ?_
 intro _
 refine au [57] ?_
 refine jN (fun ((x7,g5):(σ×J.γ))=>[(0,.func (.yield L) #[] #[]),(1,qsS g1),(3,qsQ x0),(4,qsR g3.1 x4 g3.2),(11,qsR a3 x2 c4.1),(12,qsQ (x2.length:Int)),(13,qsQ x0),(18,qsR g3.1 x4 g3.2),(19,qsQ (x4.length:Int)),(20,qsQ x5)]) (fun ((x7,g5):(σ×J.γ))=>[⟨g1,22,[qsR a3 x2 c4.1]⟩]++J.IB x7 g5) (fun ((x7,g5):(σ×J.γ))=>[]++J.IR x7 g5) (fun ((x7,g5):(σ×J.γ))=>[qsT g3.1 x4 g3.2,SlN eN56 iN56 1 (qsR a3 x2 c4.1) x2 c4.2,J.F]) (fun ((x7,_):(σ×J.γ))=>qcg F yy (zw F yy (q6 F yy x2 k0) x2 x0 x4 k1) x5 x7) ?_ ?_
 refine au [14,48,26,2] ?_
 intro x8 e1 b1 o1
 refine au [25,2,5,58,3,23,35,8] ?_
 intro x9 e2 a0 c0
 refine au [122,76] ?_
 refine yv (fun (((x10,x11),g6):((Int×σ)×J.γ))=>[(0,.func (.yield L) #[] #[]),(1,qsS g1),(3,qsQ x0),(4,qsR g3.1 x4 g3.2),(6,qsQ x8),(11,qsR a3 x2 c4.1),(12,qsQ (x2.length:Int)),(13,qsQ x0),(18,qsR g3.1 x4 g3.2),(19,qsQ (x4.length:Int)),(20,qsQ x5),(28,qsR a0 x9 c0),(29,qsQ (x9.length:Int)),(30,qsQ x10)]) (fun (((x10,x11),g6):((Int×σ)×J.γ))=>[⟨g1,22,[qsR a3 x2 c4.1]⟩]++J.IB x11 g6) (fun (((x10,x11),g6):((Int×σ)×J.γ))=>[]++J.IR x11 g6) (fun (((x10,x11),g6):((Int×σ)×J.γ))=>[qsT g3.1 x4 g3.2,SlN eN56 iN56 1 (qsR a3 x2 c4.1) x2 c4.2,qsT a0 x9 c0,J.F]) (fun k (s:((Int×σ)×J.γ))=>yg F yy (zw F yy (q6 F yy x2 k0) x2 x0 x4 k1) x2 x0 x5 x8 x9 k s.1) ((0,x6),g4) F ?_ (hB:=(.cons 0 rfl (qn 0 rfl))) (hR:=(qn 0 rfl)) (hF:=(qp 2 rfl (qp 3 rfl (qp 0 rfl (qp 4 rfl zx)))))
 intro k2
 rintro ⟨⟨x10,x11⟩,g6⟩
 try dsimp only
 refine qH (m':=qce F yy (zw F yy (q6 F yy x2 k0) x2 x0 x4 k1) x2 x0 x5 x8 x9 (yg F yy (zw F yy (q6 F yy x2 k0) x2 x0 x4 k1) x2 x0 x5 x8 x9 k2) x10 x11) rfl ?_
 refine av [96] ?_ ?_
 intro _
 refine au [57] ?_
 refine jN (fun ((x12,g7):(σ×J.γ))=>[(0,.func (.yield L) #[] #[]),(1,qsS g1),(3,qsQ x0),(4,qsR g3.1 x4 g3.2),(6,qsQ x8),(11,qsR a3 x2 c4.1),(12,qsQ (x2.length:Int)),(13,qsQ x0),(18,qsR g3.1 x4 g3.2),(19,qsQ (x4.length:Int)),(20,qsQ x5),(28,qsR a0 x9 c0),(29,qsQ (x9.length:Int)),(30,qsQ x10)]) (fun ((x12,g7):(σ×J.γ))=>[⟨g1,22,[qsR a3 x2 c4.1]⟩]++J.IB x12 g7) (fun ((x12,g7):(σ×J.γ))=>[]++J.IR x12 g7) (fun ((x12,g7):(σ×J.γ))=>[qsT g3.1 x4 g3.2,SlN eN56 iN56 1 (qsR a3 x2 c4.1) x2 c4.2,qsT a0 x9 c0,J.F]) (fun ((x12,_):(σ×J.γ))=>jy F yy (yg F yy (zw F yy (q6 F yy x2 k0) x2 x0 x4 k1) x2 x0 x5 x8 x9 k2) x10 x12) ?_ ?_
 refine au [14,47,36,14] ?_
 intro x13 e3 b2 o2
 refine au [25,2,84,21,3,36,15] ?_
 intro x14 e4 g8 b3 o3
 refine au [25,2,3,31,11] ?_
 intro x15 e5 _
 refine au [93,5,58,3] ?_
 refine qO 4 x15.2 [(0,.func (.yield L) #[] #[]),(1,qsS g1),(3,qsQ x0),(4,qsR g3.1 x4 g3.2),(6,qsQ x8),(11,qsR a3 x2 c4.1),(12,qsQ (x2.length:Int)),(13,qsQ x0),(18,qsR g3.1 x4 g3.2),(19,qsQ (x4.length:Int)),(20,qsQ x5),(28,qsR a0 x9 c0),(29,qsQ (x9.length:Int)),(30,qsQ x10),(8,qsQ x13),(48,.bool (x15.2 && (decide (x0<x8))))] (fun h0=>?_) (fun h0=>?_) ?_
 refine qc (os:=_) rfl (qA (k:=44) rfl h0 ?_)
 refine au [3,3,24,3,24,7] ?_
 refine qa (d:=48) (v:=.bool (x15.2 && (decide (x0<x8)))) rfl (by rw[h0];simp only[Bool.true_and]) ?_
 exact az [51]
 refine qc (os:=_) rfl (qz (k:=44) rfl h0 ?_)
 refine au [61,7,24,9] ?_
 refine qa (d:=48) (v:=.bool (x15.2 && (decide (x0<x8)))) rfl (by rw[h0];simp only[Bool.false_and]) ?_
 exact az [51]
 refine qc (os:=_) rfl ?_
 refine av [3,25,14] ?_ ?_
 intro h1
 refine qA (k:=49) rfl h1 ?_
 refine au [3,3,3,3] ?_
 refine qmL (cells:=([x0,x8,x13]:qsO).flatMap (eI .i64)) rfl Tryz.underlying188 tf188 tf3 rfl (by kernel_rfl) rfl (qcT hY x11 ([x0,x8,x13]:qsO) g6 (B1:=[⟨g1,22,[qsR a3 x2 c4.1]⟩]) (R1:=[]) (j:=6) rfl rfl rfl rfl rfl rfl rfl (fun x16 _ g9=>?_) (fun x17 _ g9=>?_))
 refine au [25,8,24,7,45] ?_
 refine kD (b:=false) rfl (fun h=>by cases h) (fun _=>?_)
 refine au [11,24,2] ?_
 exact kF (x16,g9) (hB:=(.cons 0 rfl (qn 0 rfl))) (hR:=(qn 0 rfl)) (hF:=(qp 3 rfl (qp 4 rfl (qp 5 rfl (qp 6 rfl zx)))))
 refine au [25,8,24,7,45] ?_
 refine kD (b:=true) rfl (fun _=>?_) (fun h=>by cases h)
 refine au [8,92,24,5,92,24,5,92,24,5] ?_
 exact y0 (B0:=[⟨g1,22,[qsR a3 x2 c4.1]⟩]) (x:=.inr x17) g9 (.inl rfl) (res0 rfl) (.cons 0 rfl (qn 0 rfl)) (qn 0 rfl)
 intro h1
 refine qz (k:=49) rfl h1 ?_
 refine au [65,61,7,24,9,45] ?_
 refine kD (b:=false) rfl (fun h=>by cases h) (fun _=>?_)
 refine au [11,24,2] ?_
 exact kF (x11,g6) (hB:=(.cons 0 rfl (qn 0 rfl))) (hR:=(qn 0 rfl)) (hF:=(qp 3 rfl (qp 4 rfl (qp 5 rfl (qp 6 rfl zx)))))
 rintro ⟨x12,g7⟩
 try dsimp only
 refine au [98] ?_
 exact yz ((iadd .i64 x10 1,x12),g7) (hB:=(.cons 0 rfl (qn 0 rfl))) (hR:=(qn 0 rfl)) (hF:=(qp 0 rfl (qp 1 rfl (qp 2 rfl (qp 3 rfl zx)))))
 intro _
 refine au [73,24,2] ?_
 exact kF (x11,g6) (hB:=(.cons 0 rfl (qn 0 rfl))) (hR:=(qn 0 rfl)) (hF:=(qp 0 rfl (qp 1 rfl (qp 3 rfl zx))))
 rintro ⟨x7,g5⟩
 try dsimp only
 refine au [98] ?_
 exact yz ((iadd .i64 x5 1,x7),g5) (hB:=(.cons 0 rfl (qn 0 rfl))) (hR:=(qn 0 rfl)) (hF:=(qp 0 rfl (qp 1 rfl (qp 2 rfl zx))))
 intro _
 refine au [73,24,2] ?_
 exact kF (x6,g4) (hB:=(.cons 0 rfl (qn 0 rfl))) (hR:=(qn 0 rfl)) (hF:=(qp 1 rfl (qp 2 rfl zx)))
 rintro ⟨x3,g2⟩
 try dsimp only
 refine au [98] ?_
 exact yz ((iadd .i64 x0 1,x3),g2) (hB:=(.cons 0 rfl (qn 0 rfl))) (hR:=(qn 0 rfl)) (hF:=(qp 0 rfl (qp 1 rfl zx)))
 intro _
 refine au [73] ?_
 exact y0 (B0:=[⟨g1,22,[qsR a3 x2 c4.1]⟩]) (x:=.inl x1) g0 (.inr rfl) (res0 rfl) (.cons 0 rfl (qn 0 rfl)) (qn 0 rfl)
set_option maxHeartbeats 4000000 in
theorem qjd {F:Nat}{x1:List (qsO)}{a2:qsP}{c3:Nat}{s3:List (qsP×Nat)}{r:(qsO×Int×Int)}(hm:qf6 F x1=some r) :
    PureM Tryz.prog 100 [.agg #[qsR a2 x1 c3]] [] [] [SlN eN56 iN56 1 (qsR a2 x1 c3) x1 s3] (qsP×Nat) (fun g=>.tuple #[qsR g.1 r.1 g.2,qsQ r.2.1,qsQ r.2.2]) (fun _=>[]) (fun g=>[qsU g.1 r.1 g.2]):=by
 refine qbf Tryz.func100 rfl Tryz.ntmps100 rfl hm (fun w=>?_)
 refine au [59,22] ?_
 intro g4
 refine au [24,4] ?_
 intro g5
 refine au [24,4] ?_
 intro g6
 refine au [71,47,26,6,28,0] ?_
 intro x9 e9 _
 refine av [58,70] ?_ ?_
 intro _
 refine au [48,25,4,20,107] ?_
 exact y1 [] (none,0) (.inl rfl) rfl .nil (resL (rs:=[.cell 2 56,.cell 3 3,.tmp 4]) rfl (.cell (i:=1) rfl tf56 rfl rfl (fun _=>rfl) rfl (.cell (i:=0) rfl tf3 rfl rfl (fun _=>rfl) rfl (.tmp rfl ResOk.nil))) rfl) (fun h=>by subst h;rfl) (fun h=>by subst h;exact .nil) (fun h=>by subst h;exact (.cons 0 rfl .nil))
 intro _
 refine au [115,9,26,1,24,6,26,0] ?_
 intro x10 e10 a11 c12
 refine au [25,4,45,1,47,26,6,32,15] ?_
 rintro x0 e0 ⟨a0,c0⟩
 refine qF qje ?_
 intro x2 e1 g0
 refine au [76] ?_
 refine jW (encs:=(fun (p:qsO)=>[.agg (p.flatMap (eI .i64)).toArray])) (y:=(fun ((x3,x4):(Int×qsO)) (x5:qsO)=>qem F x3 x4 x5)) (lb:=[qsS g0]) (fun ((x3,x4):(Int×qsO)) (_:Unit)=>[⟨g6,3,[qsQ x3]⟩,⟨g5,56,[qsR a11 x4 c12]⟩,⟨g4,24,[qsR a2 x1 c3]⟩]) (fun ((x3,x4):(Int×qsO)) (_:Unit)=>[qsU a11 x4 c12]) (fun (_:Empty) (_:Unit)=>[]) (fun (_:Empty) (_:Unit)=>[]) (fun _=>.skip) (0,x10) () rfl ent179 (fun _=>rfl) rfl (.cons 0 rfl .nil) (.cons 0 rfl (.cons 0 rfl (.cons 0 rfl .nil))) (.cons 1 rfl .nil) (.consG 0 rfl (zT qb4) .nil) (fun z hz _ _ _ hY=>qif F hY (0,x10) () g0 x0 a0 c0 z hz) ?_ ?_ ?_
 rintro rc1 L1 D1 ⟨x3,x4⟩ _ x5 z w M _
 try dsimp only
 refine qbi [(0,.agg #[qsR a2 x1 c3]),(1,qsS g4),(2,qsS g5),(3,qsS g6),(4,qsQ 0),(5,qsQ x9),(9,.agg #[qsR a2 x1 c3]),(10,qsQ x9),(11,qsQ x9),(12,.bool ((x9:Int) != 0)),(14,qsS g4),(15,qsR a2 x1 c3),(16,qsQ (x1.length:Int)),(17,qsR a11 x10 c12),(18,.agg #[qsR a2 x1 c3]),(19,qsR a0 x0 c0.1),(20,.func (.func 179) #[] #[qsS g0]),(21,.agg (x5.flatMap (eI .i64)).toArray)] (qw rfl (qw rfl (qw rfl (qw rfl (qw rfl (qw rfl (qw rfl (qw rfl (qw rfl (qw rfl (qw rfl (qw rfl (qw rfl (qw rfl (qw rfl (qw rfl (qw rfl (qw rfl qbK)))))))))))))))))) ?_
 refine au [4,24,4] ?_
 intro g1
 refine ze (i:=0) (cs':=(qqF 3 (0:Int)).flatMap (eI .i64)) rfl rfl (qkU (i:=0) (xs:=(qqF 3 (0:Int))) (k:=3) (qu .i64) rfl qq9 rfl ?_)
 refine au [26,10] ?_
 intro h0
 replace h0:=of_decide_eq_true h0
 refine qnm (j:=0) rfl (qq9) (kC (i:=0) rfl rfl rfl tf188 rfl (qp9 h0) (qp6 (qq9) h0) qp7 (qp8 (qeJ (qq9)) h0) (qkU (i:=0) (xs:=x5) (k:=3) (qu .i64) rfl h0 rfl ?_))
 refine au [0,30,4,14,47,21,23,119,47,26,10] ?_
 intro h1
 replace h1:=of_decide_eq_true h1
 refine qnm (j:=0) rfl h1 (zP (i:=0) rfl rfl tf188 rfl (qp5 (qeJ h1)) (by simp) (qp4 (qeJ h1)) rfl (qkU (i:=0) (xs:=x5) (k:=3) (qu .i64) rfl h1 rfl ?_))
 refine au [3,76] ?_
 refine qB (fun (((x6,x7),_):((Int×qsO)×Unit))=>([(1,qsS g4),(2,qsS g5),(3,qsS g6),(14,qsS g4),(24,.agg (x5.flatMap (eI .i64)).toArray),(25,qsQ x6)],[⟨g6,3,[qsQ (iadd .i64 x3 1)]⟩,⟨g5,56,[qsR a11 x7 c12]⟩,⟨g4,24,[qsR a2 x1 c3]⟩,(blkO L1 (.loop (bsy rc1))),(dblk D1)],[qsU a11 x7 c12],[SlN eN56 iN56 1 (qsR a2 x1 c3) x1 s3])) (fun k (s:((Int×qsO)×Unit))=>jR F x3 x5 k s.1) ((0,x4),()) F ?_
 intro k0
 rintro ⟨⟨x6,x7⟩,_⟩
 try dsimp only
 refine qH (m':=qel F x3 x5 (jR F x3 x5 k0) x6 x7) rfl ?_
 refine av [96] ?_ ?_
 intro _
 refine au [83,47,26,10] ?_
 intro h2
 replace h2:=of_decide_eq_true h2
 refine qmO rfl Tryz.underlying188 tf3 rfl rfl h2 rfl (fun x8 e2=>?_)
 refine au [46,4,25,6,3,26,3] ?_
 intro x11 e3 g2 h3
 refine z7 (j:=0) (y:=x11) (qu .i64) rfl rfl tf3 rfl h3 (qo e3).2.2 (fun _=>rfl) rfl rfl ?_
 refine au [23,26,3] ?_
 intro x12 e4 g3 h4
 refine zX (j:=0) (y':=iadd .i64 x11 1) (qu .i64) rfl rfl rfl tf3 rfl h4 (qo e4).2.1 rfl (fun x13 e5 h5=>?_)
 have h6:x13.length=x7.length:=by rw[← e5,qqR]
 refine qa (d:=28) (v:=qsR a11 x13 c12) rfl h5 (ze (i:=1) (cs':=[qsR a11 x13 c12]) rfl (by simp only[qsR,h5] <;> rfl) ?_)
 refine au [0,99] ?_
 exact qr ((iadd .i64 x6 1,x13),())
 intro _
 refine au [73,24,2] ?_
 exact yw (rc:=rc1) rfl (.cons 3 rfl .nil) rfl () (.cons 1 rfl (.cons 1 rfl (.cons 1 rfl (.cons 0 rfl (.cons 0 rfl .nil))))) (.cons 0 rfl .nil)
 rintro ⟨x3,x4⟩ _ _ D1
 try dsimp only
 refine au [63,1] ?_
 refine qt mixed [] [(dblk D1),⟨g0,22,[qsR a0 x0 c0.1]⟩,⟨g6,3,[qsQ x3]⟩,⟨g5,56,[qsR a11 x4 c12]⟩,⟨g4,24,[qsR a2 x1 c3]⟩] [SlN eN56 iN56 1 (qsR a2 x1 c3) x1 s3] (.cons 0 rfl (.cons 0 rfl (.cons 0 rfl (.cons 0 rfl (.cons 0 rfl .nil))))) (qf 0 rfl qh) 5 rfl ?_
 refine au [31,12,0,29,2,1,13,2,28,15,0,29,3,13,3,27,5,0,29,3,6,4,16] ?_
 refine qm ?_ (by intro c h;cases h)
 refine au [2,8] ?_
 exact y1 [D1] (a11,c12) (.inl rfl) rfl (.cons 0 rfl .nil) (resL (rs:=[.cell 2 56,.cell 3 3,.tmp 4]) rfl (.cell (i:=2) rfl tf56 rfl rfl (fun _=>rfl) rfl (.cell (i:=1) rfl tf3 rfl rfl (fun _=>rfl) rfl (.tmp rfl ResOk.nil))) rfl) (fun h=>by subst h;rfl) (fun h=>by subst h;exact .nil) (fun h=>by subst h;exact (.cons 0 rfl .nil))
 intro t;exact t.elim
theorem qf1 (F:Nat)(g1:Nat)(x2:List (qsO))(a3:qsP)(c4:(Nat×List (qsP×Nat)))(x5:Int)(x6:Int)(x7:Int)(x8:qsO)(a9:qsP)(c10:Nat)(x11:qsO)(r:(Int×qsO))(hm:qcJ F x2 x5 x6 x7 x8 x11=some r) :
    PureM Tryz.prog 70 [qsS g1] [⟨g1,85,[qsR a3 x2 c4.1,qsQ x5,qsQ x6,qsQ x7,qsR a9 x8 c10,.string (bstr x11)]⟩] [] [SlN eN56 iN56 1 (qsR a3 x2 c4.1) x2 c4.2,qsT a9 x8 c10,GF] Unit (fun _=>qsQ r.1) (fun _=>[⟨g1,85,[qsR a3 x2 c4.1,qsQ x5,qsQ x6,qsQ x7,qsR a9 x8 c10,.string (bstr r.2)]⟩]) (fun _=>[]):=by
 refine qE Tryz.func70 rfl Tryz.ntmps70 rfl hm (fun w=>?_)
 refine au [59,58,55,110] ?_
 refine qF qjd ?_
 rintro x12 e12 ⟨a13,c14⟩
 refine au [93,18,5,5,58,3] ?_
 refine yj ent24 rfl rfl rfl (fun x15 e15=>qdv x12.2.1 x15 e15) (.consF 2 rfl .nil) (fun x15 e15 _=>?_)
 exact az [55,119,48,90]
set_option maxHeartbeats 4000000 in
theorem qk9 {F:Nat}{x1:List (qsO)}{a2:qsP}{c3:Nat}{s3:List (qsP×Nat)}{x4:Int}{x5:Int}{x6:Int}{x7:qsO}{r:(List (qsO)×Int×Int×Int×qsO×Int)}(hm:yh F x1 x4 x5 x6 x7=some r) :
    Pure Tryz.prog 19 [.agg #[qsR a2 x1 c3,qsQ x4,qsQ x5,qsQ x6],.string (bstr x7)] [SlN eN56 iN56 1 (qsR a2 x1 c3) x1 s3,GF] (qsP×(Nat×List (qsP×Nat))) (fun g=>.tuple #[.agg #[qsR g.1 r.1 g.2.1,qsQ r.2.1,qsQ r.2.2.1,qsQ r.2.2.2.1],.string (bstr r.2.2.2.2.1),qsQ r.2.2.2.2.2]) (fun g=>[RoN eN56 rN56 56 1 (qsR g.1 r.1 g.2.1) r.1 g.2.2 []]) (fun _=>[]):=by
 refine qs Tryz.func19 rfl Tryz.ntmps19 rfl hm (fun w=>?_)
 refine au [118] ?_
 intro g8
 refine au [24,4] ?_
 intro g9
 refine au [5,84,25,7,37,3] ?_
 rintro x10 e10 ⟨a11,c12⟩
 refine qq (cells:=[qsR a11 x10.1 c12.1,qsQ x10.2.1,qsQ x10.2.2.1,qsQ x10.2.2.2,.slice none 0 0,.string (bstr ([111,107]:qsO))]) rfl st85 rfl (by kernel_rfl) rfl ?_
 refine au [22] ?_
 intro g13
 refine au [58] ?_
 refine yj ent22 rfl rfl rfl (fun x14 e14=>qm1 x7 ([32]:qsO) x14 e14) .nil (fun x14 e14=>?_)
 rintro ⟨a15,c16⟩
 refine au [46] ?_
 refine yu 3 (fun (((x0,x2,x3,x8,x9,x11,x12),(a0,c0,a1,c1)):((Int×List (qsO)×Int×Int×Int×qsO×qsO)×(qsP×(Nat×List (qsP×Nat))×qsP×Nat)))=>([(4,qsS g9),(7,qsS g13),(11,qsQ x0)],[⟨g13,85,[qsR a0 x2 c0.1,qsQ x3,qsQ x8,qsQ x9,qsR a1 x11 c1,.string (bstr x12)]⟩,⟨g9,28,[.slice none 0 0,qsQ 0,qsQ 0,qsQ 0]⟩],[RoN eN56 rN56 56 1 (qsR a0 x2 c0.1) x2 c0.2 [],qsU a1 x11 c1],[GF],qK F x0 x2 x3 x8 x9 x11 x12)) ?_ (fun hj=>?_)
 rintro ⟨⟨x0,x2,x3,x8,x9,x11,x12⟩,⟨a0,c0,a1,c1⟩⟩
 try dsimp only
 refine av [1,48,70] ?_ ?_
 intro _
 refine au [47] ?_
 refine qq (cells:=[.slice none 0 0,qsQ 0,qsQ 0,qsQ 0]) rfl st28 rfl (by kernel_rfl) rfl ?_
 refine au [3,25,4,5,60,26,15] ?_
 exact qS (none,(0,([]:List (qsP×Nat)))) (resL (rs:=[.cell 4 28,.tmp 5,.tmp 6]) rfl (.cell (i:=1) rfl tf28 rfl rfl (by simp) rfl (.tmp rfl (.tmp rfl ResOk.nil))) rfl) (fun h=>by subst h;exact (.cons 0 rfl .nil))
 intro _
 refine au [82] ?_
 refine qt mixed [] [⟨g13,85,[qsR a0 x2 c0.1,qsQ x3,qsQ x8,qsQ x9,qsR a1 x11 c1,.string (bstr x12)]⟩] [GF] (.cons 0 rfl .nil) (qf 0 rfl qh) 11 rfl ?_
 refine au [69,15,2] ?_
 refine qN 3 (.agg #[.slice a0 x2.length c0.1,qsQ x3,qsQ x8,qsQ x9]) rfl rfl rfl (qM (i:=0) rfl tf28 rfl rfl (by simp) rfl) ?_
 refine au [6,4,6,5,15,6,24,14,7,13,8,25,4,75,6,9,6,10,16] ?_
 refine qm ?_ (by intro c h;cases h)
 refine au [2,8] ?_
 exact qS (a0,c0) (resL (rs:=[.cell 4 28,.tmp 5,.tmp 6]) rfl (.cell (i:=1) rfl tf28 rfl rfl (by simp) rfl (.tmp rfl (.tmp rfl ResOk.nil))) rfl) (fun h=>by subst h;exact (.cons 0 rfl .nil))
 refine yu 1 (fun ((_,g0):(Unit×Nat))=>([(4,qsS g9),(7,qsS g13),(8,qsR a15 x14 c16),(9,qsS g0),(10,.bool true)],[⟨g13,85,[qsR a11 x10.1 c12.1,qsQ x10.2.1,qsQ x10.2.2.1,qsQ x10.2.2.2,.slice none 0 0,.string (bstr ([111,107]:qsO))]⟩,⟨g9,28,[.slice none 0 0,qsQ 0,qsQ 0,qsQ 0]⟩,⟨g0,88,[qsQ 1,.func (.func 58) #[qsS g13] #[]]⟩],[Ro eT 9 1 (qsR a15 x14 c16) x14,RoN eN56 rN56 56 1 (qsR a11 x10.1 c12.1) x10.1 c12.2 []],[GF],qac F x10 x14)) ?_ (fun hw0=>?_)
 rintro ⟨_,g0⟩
 try dsimp only
 refine au [47,71,1,116] ?_
 intro x13 e0 a3 c2 h0 h1
 refine qt mixed [] [⟨g9,28,[.slice none 0 0,qsQ 0,qsQ 0,qsQ 0]⟩,⟨g0,88,[qsQ 1,.func (.func 58) #[qsS g13] #[]]⟩] [Sl eT 1 (qsR a3 x13 c2) x13,Sl eT 1 (qsR a15 x14 c16) x14,GF] (.cons 1 rfl (.cons 1 rfl .nil)) (qf 0 rfl (qf 1 rfl (qf 2 rfl qh))) 8 rfl ?_
 refine au [97] ?_
 refine qN 3 (.agg #[qsQ 1,.func (.func 58) #[.pointer (some ⟨g13,0,none⟩)] #[]]) rfl rfl rfl (qM (i:=1) rfl tf88 rfl rfl (by simp) rfl) ?_
 refine au [6,4] ?_
 refine qe 5 (qsR a3 x13 c2) rfl rfl rfl (qaD Tryz.underlying39 tf9 rfl rfl rfl e0 h1 h0) ?_
 refine au [13,6,102] ?_
 rintro x15 e1 ⟨a4,c4⟩
 refine au [0,27,15,6,7,16] ?_
 refine qm ?_ (by intro c h;cases h)
 refine av [2,10] ?_ ?_
 intro _
 refine au [4,9,26,1] ?_
 refine vh ent58 rfl rfl rfl rfl (fun x16 e2=>qgx F g13 x10.1 a11 c12 x10.2.1 x10.2.2.1 x10.2.2.2 x15.2 a4 c4 ([111,107]:qsO) x16 e2) (.cons 0 rfl .nil) (.cons 1 rfl .nil) (.consR 0 (qsU a4 x15.2 c4) rfl .nil) (fun x16 e2=>?_)
 rintro ⟨a5,c5⟩
 refine au [5,0] ?_
 exact qG hj ((x16.1,x16.2,x10.2.1,x10.2.2.1,x10.2.2.2,x15.2,([111,107]:qsO)),(a5,c5,a4,c4))
 intro _
 refine au [11] ?_
 exact qG hj (((1:Int),x10.1,x10.2.1,x10.2.2.1,x10.2.2.2,x15.2,([111,107]:qsO)),(a11,c12,a4,c4))
 refine yu 1 (fun ((_,g1):(Unit×Nat))=>([(4,qsS g9),(7,qsS g13),(8,qsR a15 x14 c16),(9,qsS g1),(10,.bool true)],[⟨g13,85,[qsR a11 x10.1 c12.1,qsQ x10.2.1,qsQ x10.2.2.1,qsQ x10.2.2.2,.slice none 0 0,.string (bstr ([111,107]:qsO))]⟩,⟨g9,28,[.slice none 0 0,qsQ 0,qsQ 0,qsQ 0]⟩,⟨g1,88,[qsQ 2,.func (.func 59) #[qsS g13] #[]]⟩],[Ro eT 9 1 (qsR a15 x14 c16) x14,RoN eN56 rN56 56 1 (qsR a11 x10.1 c12.1) x10.1 c12.2 []],[GF],vP F x10 x14)) ?_ (fun hw1=>?_)
 rintro ⟨_,g1⟩
 try dsimp only
 refine au [47,71,1,116] ?_
 intro x17 e3 a6 c6 h2 h3
 refine qt mixed [] [⟨g9,28,[.slice none 0 0,qsQ 0,qsQ 0,qsQ 0]⟩,⟨g1,88,[qsQ 2,.func (.func 59) #[qsS g13] #[]]⟩] [Sl eT 1 (qsR a6 x17 c6) x17,Sl eT 1 (qsR a15 x14 c16) x14,GF] (.cons 1 rfl (.cons 1 rfl .nil)) (qf 0 rfl (qf 1 rfl (qf 2 rfl qh))) 8 rfl ?_
 refine au [97] ?_
 refine qN 3 (.agg #[qsQ 2,.func (.func 59) #[.pointer (some ⟨g13,0,none⟩)] #[]]) rfl rfl rfl (qM (i:=1) rfl tf88 rfl rfl (by simp) rfl) ?_
 refine au [6,4] ?_
 refine qe 5 (qsR a6 x17 c6) rfl rfl rfl (qaD Tryz.underlying39 tf9 rfl rfl rfl e3 h3 h2) ?_
 refine au [13,6,102] ?_
 rintro x18 e4 ⟨a7,c7⟩
 refine au [0,27,15,6,7,16] ?_
 refine qm ?_ (by intro c h;cases h)
 refine av [2,10] ?_ ?_
 intro _
 refine au [4,9,26,1] ?_
 refine vh ent59 rfl rfl rfl rfl (fun x19 e5=>qhF F g13 x10.1 a11 c12 x10.2.1 x10.2.2.1 x10.2.2.2 x18.2 a7 c7 ([111,107]:qsO) x19 e5) (.cons 0 rfl .nil) (.cons 1 rfl .nil) (.consR 0 (qsU a7 x18.2 c7) rfl .nil) (fun x19 e5=>?_)
 rintro ⟨a8,c8⟩
 refine au [5,0] ?_
 exact qG hj ((x19.1,x19.2,x10.2.1,x10.2.2.1,x10.2.2.2,x18.2,([111,107]:qsO)),(a8,c8,a7,c7))
 intro _
 refine au [11] ?_
 exact qG hj (((1:Int),x10.1,x10.2.1,x10.2.2.1,x10.2.2.2,x18.2,([111,107]:qsO)),(a11,c12,a7,c7))
 refine yu 1 (fun ((_,g2):(Unit×Nat))=>([(4,qsS g9),(7,qsS g13),(8,qsR a15 x14 c16),(9,qsS g2),(10,.bool true)],[⟨g13,85,[qsR a11 x10.1 c12.1,qsQ x10.2.1,qsQ x10.2.2.1,qsQ x10.2.2.2,.slice none 0 0,.string (bstr ([111,107]:qsO))]⟩,⟨g9,28,[.slice none 0 0,qsQ 0,qsQ 0,qsQ 0]⟩,⟨g2,88,[qsQ 2,.func (.func 60) #[qsS g13] #[]]⟩],[Ro eT 9 1 (qsR a15 x14 c16) x14,RoN eN56 rN56 56 1 (qsR a11 x10.1 c12.1) x10.1 c12.2 []],[GF],vQ F x10 x14)) ?_ (fun hw2=>?_)
 rintro ⟨_,g2⟩
 try dsimp only
 refine au [47,71,1,116] ?_
 intro x20 e6 a9 c9 h4 h5
 refine qt mixed [] [⟨g9,28,[.slice none 0 0,qsQ 0,qsQ 0,qsQ 0]⟩,⟨g2,88,[qsQ 2,.func (.func 60) #[qsS g13] #[]]⟩] [Sl eT 1 (qsR a9 x20 c9) x20,Sl eT 1 (qsR a15 x14 c16) x14,GF] (.cons 1 rfl (.cons 1 rfl .nil)) (qf 0 rfl (qf 1 rfl (qf 2 rfl qh))) 8 rfl ?_
 refine au [97] ?_
 refine qN 3 (.agg #[qsQ 2,.func (.func 60) #[.pointer (some ⟨g13,0,none⟩)] #[]]) rfl rfl rfl (qM (i:=1) rfl tf88 rfl rfl (by simp) rfl) ?_
 refine au [6,4] ?_
 refine qe 5 (qsR a9 x20 c9) rfl rfl rfl (qaD Tryz.underlying39 tf9 rfl rfl rfl e6 h5 h4) ?_
 refine au [13,6,102] ?_
 rintro x21 e7 ⟨a10,c10⟩
 refine au [0,27,15,6,7,16] ?_
 refine qm ?_ (by intro c h;cases h)
 refine av [2,10] ?_ ?_
 intro _
 refine au [4,9,26,1] ?_
 refine vh ent60 rfl rfl rfl rfl (fun x22 e8=>qg0 F g13 x10.1 a11 c12 x10.2.1 x10.2.2.1 x10.2.2.2 x21.2 a10 c10 ([111,107]:qsO) x22 e8) (.cons 0 rfl .nil) (.cons 1 rfl .nil) (.consR 0 (qsU a10 x21.2 c10) rfl .nil) (fun x22 e8=>?_)
 rintro ⟨a12,c11⟩
 refine au [5,0] ?_
 exact qG hj ((x22.1,x22.2,x10.2.1,x10.2.2.1,x10.2.2.2,x21.2,([111,107]:qsO)),(a12,c11,a10,c10))
 intro _
 refine au [11] ?_
 exact qG hj (((1:Int),x10.1,x10.2.1,x10.2.2.1,x10.2.2.2,x21.2,([111,107]:qsO)),(a11,c12,a10,c10))
 refine yu 1 (fun ((_,g3):(Unit×Nat))=>([(4,qsS g9),(7,qsS g13),(8,qsR a15 x14 c16),(9,qsS g3),(10,.bool true)],[⟨g13,85,[qsR a11 x10.1 c12.1,qsQ x10.2.1,qsQ x10.2.2.1,qsQ x10.2.2.2,.slice none 0 0,.string (bstr ([111,107]:qsO))]⟩,⟨g9,28,[.slice none 0 0,qsQ 0,qsQ 0,qsQ 0]⟩,⟨g3,88,[qsQ 3,.func (.func 61) #[qsS g13] #[]]⟩],[Ro eT 9 1 (qsR a15 x14 c16) x14,RoN eN56 rN56 56 1 (qsR a11 x10.1 c12.1) x10.1 c12.2 []],[GF],qad F x10 x14)) ?_ (fun hw3=>?_)
 rintro ⟨_,g3⟩
 try dsimp only
 refine au [47,71,1,116] ?_
 intro x23 e9 a13 c13 h6 h7
 refine qt mixed [] [⟨g9,28,[.slice none 0 0,qsQ 0,qsQ 0,qsQ 0]⟩,⟨g3,88,[qsQ 3,.func (.func 61) #[qsS g13] #[]]⟩] [Sl eT 1 (qsR a13 x23 c13) x23,Sl eT 1 (qsR a15 x14 c16) x14,GF] (.cons 1 rfl (.cons 1 rfl .nil)) (qf 0 rfl (qf 1 rfl (qf 2 rfl qh))) 8 rfl ?_
 refine au [97] ?_
 refine qN 3 (.agg #[qsQ 3,.func (.func 61) #[.pointer (some ⟨g13,0,none⟩)] #[]]) rfl rfl rfl (qM (i:=1) rfl tf88 rfl rfl (by simp) rfl) ?_
 refine au [6,4] ?_
 refine qe 5 (qsR a13 x23 c13) rfl rfl rfl (qaD Tryz.underlying39 tf9 rfl rfl rfl e9 h7 h6) ?_
 refine au [13,6,102] ?_
 rintro x24 e11 ⟨a14,c14⟩
 refine au [0,27,15,6,7,16] ?_
 refine qm ?_ (by intro c h;cases h)
 refine av [2,10] ?_ ?_
 intro _
 refine au [4,9,26,1] ?_
 refine vh ent61 rfl rfl rfl rfl (fun x25 e12=>qhH F g13 x10.1 a11 c12 x10.2.1 x10.2.2.1 x10.2.2.2 x24.2 a14 c14 ([111,107]:qsO) x25 e12) (.cons 0 rfl .nil) .nil (.consG 1 rfl (zT qb4) (.consR 0 (qsU a14 x24.2 c14) rfl .nil)) (fun x25 e12 _=>?_)
 refine au [5,0] ?_
 exact qG hj ((x25.1,x10.1,x25.2.1,x25.2.2.1,x25.2.2.2,x24.2,([111,107]:qsO)),(a11,c12,a14,c14))
 intro _
 refine au [11] ?_
 exact qG hj (((1:Int),x10.1,x10.2.1,x10.2.2.1,x10.2.2.2,x24.2,([111,107]:qsO)),(a11,c12,a14,c14))
 refine yu 1 (fun ((_,g4):(Unit×Nat))=>([(4,qsS g9),(7,qsS g13),(8,qsR a15 x14 c16),(9,qsS g4),(10,.bool true)],[⟨g13,85,[qsR a11 x10.1 c12.1,qsQ x10.2.1,qsQ x10.2.2.1,qsQ x10.2.2.2,.slice none 0 0,.string (bstr ([111,107]:qsO))]⟩,⟨g9,28,[.slice none 0 0,qsQ 0,qsQ 0,qsQ 0]⟩,⟨g4,88,[qsQ 0,.func (.func 62) #[qsS g13] #[]]⟩],[Ro eT 9 1 (qsR a15 x14 c16) x14,RoN eN56 rN56 56 1 (qsR a11 x10.1 c12.1) x10.1 c12.2 []],[GF],qae F x10 x14)) ?_ (fun hw4=>?_)
 rintro ⟨_,g4⟩
 try dsimp only
 refine au [47,71,1,116] ?_
 intro x26 e13 a16 c15 h8 h9
 refine qt mixed [] [⟨g9,28,[.slice none 0 0,qsQ 0,qsQ 0,qsQ 0]⟩,⟨g4,88,[qsQ 0,.func (.func 62) #[qsS g13] #[]]⟩] [Sl eT 1 (qsR a16 x26 c15) x26,Sl eT 1 (qsR a15 x14 c16) x14,GF] (.cons 1 rfl (.cons 1 rfl .nil)) (qf 0 rfl (qf 1 rfl (qf 2 rfl qh))) 8 rfl ?_
 refine au [97] ?_
 refine qN 3 (.agg #[qsQ 0,.func (.func 62) #[.pointer (some ⟨g13,0,none⟩)] #[]]) rfl rfl rfl (qM (i:=1) rfl tf88 rfl rfl (by simp) rfl) ?_
 refine au [6,4] ?_
 refine qe 5 (qsR a16 x26 c15) rfl rfl rfl (qaD Tryz.underlying39 tf9 rfl rfl rfl e13 h9 h8) ?_
 refine au [13,6,102] ?_
 rintro x27 e15 ⟨a17,c17⟩
 refine au [0,27,15,6,7,16] ?_
 refine qm ?_ (by intro c h;cases h)
 refine av [2,10] ?_ ?_
 intro _
 refine au [4,9,26,1] ?_
 refine vh ent62 rfl rfl rfl rfl (fun x28 e16=>qgZ F g13 x10.1 a11 c12 x10.2.1 x10.2.2.1 x10.2.2.2 x27.2 a17 c17 ([111,107]:qsO) x28 e16) (.cons 0 rfl .nil) .nil (.consG 1 rfl (zT qb4) (.consR 0 (qsU a17 x27.2 c17) rfl (.consF 2 rfl .nil))) (fun x28 e16 _=>?_)
 refine au [5,0] ?_
 exact qG hj ((x28.1,x10.1,x10.2.1,x10.2.2.1,x10.2.2.2,x27.2,x28.2),(a11,c12,a17,c17))
 intro _
 refine au [11] ?_
 exact qG hj (((1:Int),x10.1,x10.2.1,x10.2.2.1,x10.2.2.2,x27.2,([111,107]:qsO)),(a11,c12,a17,c17))
 refine yu 1 (fun ((_,g5):(Unit×Nat))=>([(4,qsS g9),(7,qsS g13),(8,qsR a15 x14 c16),(9,qsS g5),(10,.bool true)],[⟨g13,85,[qsR a11 x10.1 c12.1,qsQ x10.2.1,qsQ x10.2.2.1,qsQ x10.2.2.2,.slice none 0 0,.string (bstr ([111,107]:qsO))]⟩,⟨g9,28,[.slice none 0 0,qsQ 0,qsQ 0,qsQ 0]⟩,⟨g5,88,[qsQ 1,.func (.func 63) #[qsS g13] #[]]⟩],[Ro eT 9 1 (qsR a15 x14 c16) x14,RoN eN56 rN56 56 1 (qsR a11 x10.1 c12.1) x10.1 c12.2 []],[GF],qaf F x10 x14)) ?_ (fun hw5=>?_)
 rintro ⟨_,g5⟩
 try dsimp only
 refine au [47,71,1,116] ?_
 intro x29 e17 a18 c18 h10 h11
 refine qt mixed [] [⟨g9,28,[.slice none 0 0,qsQ 0,qsQ 0,qsQ 0]⟩,⟨g5,88,[qsQ 1,.func (.func 63) #[qsS g13] #[]]⟩] [Sl eT 1 (qsR a18 x29 c18) x29,Sl eT 1 (qsR a15 x14 c16) x14,GF] (.cons 1 rfl (.cons 1 rfl .nil)) (qf 0 rfl (qf 1 rfl (qf 2 rfl qh))) 8 rfl ?_
 refine au [97] ?_
 refine qN 3 (.agg #[qsQ 1,.func (.func 63) #[.pointer (some ⟨g13,0,none⟩)] #[]]) rfl rfl rfl (qM (i:=1) rfl tf88 rfl rfl (by simp) rfl) ?_
 refine au [6,4] ?_
 refine qe 5 (qsR a18 x29 c18) rfl rfl rfl (qaD Tryz.underlying39 tf9 rfl rfl rfl e17 h11 h10) ?_
 refine au [13,6,102] ?_
 rintro x30 e18 ⟨a19,c19⟩
 refine au [0,27,15,6,7,16] ?_
 refine qm ?_ (by intro c h;cases h)
 refine av [2,10] ?_ ?_
 intro _
 refine au [4,9,26,1] ?_
 refine vh ent63 rfl rfl rfl rfl (fun x31 e19=>qg1 F g13 x10.1 a11 c12 x10.2.1 x10.2.2.1 x10.2.2.2 x30.2 a19 c19 ([111,107]:qsO) x31 e19) (.cons 0 rfl .nil) .nil (.consG 1 rfl (zT qb4) (.consR 0 (qsU a19 x30.2 c19) rfl (.consF 2 rfl .nil))) (fun x31 e19 _=>?_)
 refine au [5,0] ?_
 exact qG hj ((x31.1,x10.1,x10.2.1,x10.2.2.1,x10.2.2.2,x30.2,x31.2),(a11,c12,a19,c19))
 intro _
 refine au [11] ?_
 exact qG hj (((1:Int),x10.1,x10.2.1,x10.2.2.1,x10.2.2.2,x30.2,([111,107]:qsO)),(a11,c12,a19,c19))
 refine yu 1 (fun ((_,g6):(Unit×Nat))=>([(4,qsS g9),(7,qsS g13),(8,qsR a15 x14 c16),(9,qsS g6),(10,.bool true)],[⟨g13,85,[qsR a11 x10.1 c12.1,qsQ x10.2.1,qsQ x10.2.2.1,qsQ x10.2.2.2,.slice none 0 0,.string (bstr ([111,107]:qsO))]⟩,⟨g9,28,[.slice none 0 0,qsQ 0,qsQ 0,qsQ 0]⟩,⟨g6,88,[qsQ 2,.func (.func 64) #[qsS g13] #[]]⟩],[Ro eT 9 1 (qsR a15 x14 c16) x14,RoN eN56 rN56 56 1 (qsR a11 x10.1 c12.1) x10.1 c12.2 []],[GF],vR F x10 x14)) ?_ (fun hw6=>?_)
 rintro ⟨_,g6⟩
 try dsimp only
 refine au [47,71,1,116] ?_
 intro x32 e20 a20 c20 h12 h13
 refine qt mixed [] [⟨g9,28,[.slice none 0 0,qsQ 0,qsQ 0,qsQ 0]⟩,⟨g6,88,[qsQ 2,.func (.func 64) #[qsS g13] #[]]⟩] [Sl eT 1 (qsR a20 x32 c20) x32,Sl eT 1 (qsR a15 x14 c16) x14,GF] (.cons 1 rfl (.cons 1 rfl .nil)) (qf 0 rfl (qf 1 rfl (qf 2 rfl qh))) 8 rfl ?_
 refine au [97] ?_
 refine qN 3 (.agg #[qsQ 2,.func (.func 64) #[.pointer (some ⟨g13,0,none⟩)] #[]]) rfl rfl rfl (qM (i:=1) rfl tf88 rfl rfl (by simp) rfl) ?_
 refine au [6,4] ?_
 refine qe 5 (qsR a20 x32 c20) rfl rfl rfl (qaD Tryz.underlying39 tf9 rfl rfl rfl e20 h13 h12) ?_
 refine au [13,6,102] ?_
 rintro x33 e21 ⟨a21,c21⟩
 refine au [0,27,15,6,7,16] ?_
 refine qm ?_ (by intro c h;cases h)
 refine av [2,10] ?_ ?_
 intro _
 refine au [4,9,26,1] ?_
 refine vh ent64 rfl rfl rfl rfl (fun x34 e22=>qhG F g13 x10.1 a11 c12 x10.2.1 x10.2.2.1 x10.2.2.2 x33.2 a21 c21 ([111,107]:qsO) x34 e22) (.cons 0 rfl .nil) .nil (.consG 1 rfl (zT qb4) (.consR 0 (qsU a21 x33.2 c21) rfl (.consF 2 rfl .nil))) (fun x34 e22 _=>?_)
 refine au [5,0] ?_
 exact qG hj ((x34.1,x10.1,x10.2.1,x10.2.2.1,x10.2.2.2,x33.2,x34.2),(a11,c12,a21,c21))
 intro _
 refine au [11] ?_
 exact qG hj (((1:Int),x10.1,x10.2.1,x10.2.2.1,x10.2.2.2,x33.2,([111,107]:qsO)),(a11,c12,a21,c21))
 refine yu 1 (fun ((_,g7):(Unit×Nat))=>([(4,qsS g9),(7,qsS g13),(8,qsR a15 x14 c16),(9,qsS g7),(10,.bool true)],[⟨g13,85,[qsR a11 x10.1 c12.1,qsQ x10.2.1,qsQ x10.2.2.1,qsQ x10.2.2.2,.slice none 0 0,.string (bstr ([111,107]:qsO))]⟩,⟨g9,28,[.slice none 0 0,qsQ 0,qsQ 0,qsQ 0]⟩,⟨g7,88,[qsQ 2,.func (.func 65) #[qsS g13] #[]]⟩],[Ro eT 9 1 (qsR a15 x14 c16) x14,RoN eN56 rN56 56 1 (qsR a11 x10.1 c12.1) x10.1 c12.2 []],[GF],qag F x10 x14)) ?_ (fun hw7=>?_)
 rintro ⟨_,g7⟩
 try dsimp only
 refine au [47,71,1,116] ?_
 intro x35 e23 a22 c22 h14 h15
 refine qt mixed [] [⟨g9,28,[.slice none 0 0,qsQ 0,qsQ 0,qsQ 0]⟩,⟨g7,88,[qsQ 2,.func (.func 65) #[qsS g13] #[]]⟩] [Sl eT 1 (qsR a22 x35 c22) x35,Sl eT 1 (qsR a15 x14 c16) x14,GF] (.cons 1 rfl (.cons 1 rfl .nil)) (qf 0 rfl (qf 1 rfl (qf 2 rfl qh))) 8 rfl ?_
 refine au [97] ?_
 refine qN 3 (.agg #[qsQ 2,.func (.func 65) #[.pointer (some ⟨g13,0,none⟩)] #[]]) rfl rfl rfl (qM (i:=1) rfl tf88 rfl rfl (by simp) rfl) ?_
 refine au [6,4] ?_
 refine qe 5 (qsR a22 x35 c22) rfl rfl rfl (qaD Tryz.underlying39 tf9 rfl rfl rfl e23 h15 h14) ?_
 refine au [13,6,102] ?_
 rintro x36 e24 ⟨a23,c23⟩
 refine au [0,27,15,6,7,16] ?_
 refine qm ?_ (by intro c h;cases h)
 refine av [2,10] ?_ ?_
 intro _
 refine au [4,9,26,1] ?_
 refine vh ent65 rfl rfl rfl rfl (fun x37 e25=>qhI F g13 x10.1 a11 c12 x10.2.1 x10.2.2.1 x10.2.2.2 x36.2 a23 c23 ([111,107]:qsO) x37 e25) (.cons 0 rfl .nil) .nil (.consG 1 rfl (zT qb4) (.consR 0 (qsU a23 x36.2 c23) rfl (.consF 2 rfl .nil))) (fun x37 e25 _=>?_)
 refine au [5,0] ?_
 exact qG hj ((x37.1,x10.1,x10.2.1,x10.2.2.1,x10.2.2.2,x36.2,x37.2),(a11,c12,a23,c23))
 intro _
 refine au [11] ?_
 exact qG hj (((1:Int),x10.1,x10.2.1,x10.2.2.1,x10.2.2.2,x36.2,([111,107]:qsO)),(a11,c12,a23,c23))
 refine yu 1 (fun ((_,(g10,g11,g12)):(Unit×(Nat×Nat×Nat)))=>([(4,qsS g9),(7,qsS g13),(8,qsR a15 x14 c16),(9,qsS g10),(10,.bool true)],[⟨g13,85,[qsR a11 x10.1 c12.1,qsQ x10.2.1,qsQ x10.2.2.1,qsQ x10.2.2.2,.slice none 0 0,.string (bstr ([111,107]:qsO))]⟩,⟨g9,28,[.slice none 0 0,qsQ 0,qsQ 0,qsQ 0]⟩,⟨g10,88,[qsQ 1,.func (.func 94) #[] #[qsS g11,qsS g12]]⟩,⟨g11,83,[qsS g13]⟩,⟨g12,107,[.func (.func 67) #[] #[]]⟩],[Ro eT 9 1 (qsR a15 x14 c16) x14,RoN eN56 rN56 56 1 (qsR a11 x10.1 c12.1) x10.1 c12.2 []],[GF],qah F x10 x14)) ?_ (fun hw8=>?_)
 rintro ⟨_,⟨g10,g11,g12⟩⟩
 try dsimp only
 refine au [47,71,1,116] ?_
 intro x38 e26 a24 c24 h16 h17
 refine qt mixed [] [⟨g9,28,[.slice none 0 0,qsQ 0,qsQ 0,qsQ 0]⟩,⟨g10,88,[qsQ 1,.func (.func 94) #[] #[qsS g11,qsS g12]]⟩,⟨g11,83,[qsS g13]⟩,⟨g12,107,[.func (.func 67) #[] #[]]⟩] [Sl eT 1 (qsR a24 x38 c24) x38,Sl eT 1 (qsR a15 x14 c16) x14,GF] (.cons 1 rfl (.cons 1 rfl (.cons 1 rfl (.cons 1 rfl .nil)))) (qf 0 rfl (qf 1 rfl (qf 2 rfl qh))) 8 rfl ?_
 refine au [97] ?_
 refine qN 3 (.agg #[qsQ 1,.func (.func 94) #[] #[.pointer (some ⟨g11,0,none⟩),.pointer (some ⟨g12,0,none⟩)]]) rfl rfl rfl (qM (i:=1) rfl tf88 rfl rfl (by simp) rfl) ?_
 refine au [6,4] ?_
 refine qe 5 (qsR a24 x38 c24) rfl rfl rfl (qaD Tryz.underlying39 tf9 rfl rfl rfl e26 h17 h16) ?_
 refine au [13,6,102] ?_
 rintro x39 e27 ⟨a25,c25⟩
 refine au [0,37,4,6,7,16] ?_
 refine qm ?_ (by intro c h;cases h)
 refine av [2,10] ?_ ?_
 intro _
 refine au [4,9,26,1] ?_
 refine qds ent94 rfl rfl rfl rfl (fun x40 e28=>qbl F g11 g13 x10.1 a11 c12 x10.2.1 x10.2.2.1 x10.2.2.2 x39.2 a25 c25 ([111,107]:qsO) g12 x40 e28) (.cons 3 rfl (.cons 0 rfl (.cons 2 rfl .nil))) .nil (.consG 1 rfl (zT qb4) (.consR 0 (qsU a25 x39.2 c25) rfl (.consF 2 rfl .nil))) (fun x40 e28 _=>?_)
 refine au [5,0] ?_
 exact qG hj ((x40.1,x10.1,x10.2.1,x10.2.2.1,x10.2.2.2,x39.2,x40.2),(a11,c12,a25,c25))
 intro _
 refine au [11] ?_
 exact qG hj (((1:Int),x10.1,x10.2.1,x10.2.2.1,x10.2.2.2,x39.2,([111,107]:qsO)),(a11,c12,a25,c25))
 refine yu 1 (fun ((_,g14):(Unit×Nat))=>([(4,qsS g9),(7,qsS g13),(8,qsR a15 x14 c16),(9,qsS g14),(10,.bool true)],[⟨g13,85,[qsR a11 x10.1 c12.1,qsQ x10.2.1,qsQ x10.2.2.1,qsQ x10.2.2.2,.slice none 0 0,.string (bstr ([111,107]:qsO))]⟩,⟨g9,28,[.slice none 0 0,qsQ 0,qsQ 0,qsQ 0]⟩,⟨g14,88,[qsQ 0,.func (.func 68) #[qsS g13] #[]]⟩],[Ro eT 9 1 (qsR a15 x14 c16) x14,RoN eN56 rN56 56 1 (qsR a11 x10.1 c12.1) x10.1 c12.2 []],[GF],qai F x10 x14)) ?_ (fun hw9=>?_)
 rintro ⟨_,g14⟩
 try dsimp only
 refine au [47,71,1,116] ?_
 intro x41 e29 a26 c26 h18 h19
 refine qt mixed [] [⟨g9,28,[.slice none 0 0,qsQ 0,qsQ 0,qsQ 0]⟩,⟨g14,88,[qsQ 0,.func (.func 68) #[qsS g13] #[]]⟩] [Sl eT 1 (qsR a26 x41 c26) x41,Sl eT 1 (qsR a15 x14 c16) x14,GF] (.cons 1 rfl (.cons 1 rfl .nil)) (qf 0 rfl (qf 1 rfl (qf 2 rfl qh))) 8 rfl ?_
 refine au [97] ?_
 refine qN 3 (.agg #[qsQ 0,.func (.func 68) #[.pointer (some ⟨g13,0,none⟩)] #[]]) rfl rfl rfl (qM (i:=1) rfl tf88 rfl rfl (by simp) rfl) ?_
 refine au [6,4] ?_
 refine qe 5 (qsR a26 x41 c26) rfl rfl rfl (qaD Tryz.underlying39 tf9 rfl rfl rfl e29 h19 h18) ?_
 refine au [13,6,102] ?_
 rintro x42 e30 ⟨a27,c27⟩
 refine au [0,27,15,6,7,16] ?_
 refine qm ?_ (by intro c h;cases h)
 refine av [2,10] ?_ ?_
 intro _
 refine au [4,9,26,1] ?_
 refine vh ent68 rfl rfl rfl rfl (fun x43 e31=>qgy F g13 x10.1 a11 c12 x10.2.1 x10.2.2.1 x10.2.2.2 x42.2 a27 c27 ([111,107]:qsO) x43 e31) (.cons 0 rfl .nil) .nil (.consG 1 rfl (zT qb4) (.consR 0 (qsU a27 x42.2 c27) rfl (.consF 2 rfl .nil))) (fun x43 e31 _=>?_)
 refine au [5,0] ?_
 exact qG hj ((x43.1,x10.1,x10.2.1,x10.2.2.1,x10.2.2.2,x42.2,x43.2),(a11,c12,a27,c27))
 intro _
 refine au [11] ?_
 exact qG hj (((1:Int),x10.1,x10.2.1,x10.2.2.1,x10.2.2.2,x42.2,([111,107]:qsO)),(a11,c12,a27,c27))
 refine yu 1 (fun ((_,(g15,g16,g17)):(Unit×(Nat×Nat×Nat)))=>([(4,qsS g9),(7,qsS g13),(8,qsR a15 x14 c16),(9,qsS g15),(10,.bool true)],[⟨g13,85,[qsR a11 x10.1 c12.1,qsQ x10.2.1,qsQ x10.2.2.1,qsQ x10.2.2.2,.slice none 0 0,.string (bstr ([111,107]:qsO))]⟩,⟨g9,28,[.slice none 0 0,qsQ 0,qsQ 0,qsQ 0]⟩,⟨g15,88,[qsQ 1,.func (.func 94) #[] #[qsS g16,qsS g17]]⟩,⟨g16,83,[qsS g13]⟩,⟨g17,107,[.func (.func 69) #[] #[]]⟩],[Ro eT 9 1 (qsR a15 x14 c16) x14,RoN eN56 rN56 56 1 (qsR a11 x10.1 c12.1) x10.1 c12.2 []],[GF],qaj F x10 x14)) ?_ (fun hw10=>?_)
 rintro ⟨_,⟨g15,g16,g17⟩⟩
 try dsimp only
 refine au [47,71,1,116] ?_
 intro x44 e32 a28 c28 h20 h21
 refine qt mixed [] [⟨g9,28,[.slice none 0 0,qsQ 0,qsQ 0,qsQ 0]⟩,⟨g15,88,[qsQ 1,.func (.func 94) #[] #[qsS g16,qsS g17]]⟩,⟨g16,83,[qsS g13]⟩,⟨g17,107,[.func (.func 69) #[] #[]]⟩] [Sl eT 1 (qsR a28 x44 c28) x44,Sl eT 1 (qsR a15 x14 c16) x14,GF] (.cons 1 rfl (.cons 1 rfl (.cons 1 rfl (.cons 1 rfl .nil)))) (qf 0 rfl (qf 1 rfl (qf 2 rfl qh))) 8 rfl ?_
 refine au [97] ?_
 refine qN 3 (.agg #[qsQ 1,.func (.func 94) #[] #[.pointer (some ⟨g16,0,none⟩),.pointer (some ⟨g17,0,none⟩)]]) rfl rfl rfl (qM (i:=1) rfl tf88 rfl rfl (by simp) rfl) ?_
 refine au [6,4] ?_
 refine qe 5 (qsR a28 x44 c28) rfl rfl rfl (qaD Tryz.underlying39 tf9 rfl rfl rfl e32 h21 h20) ?_
 refine au [13,6,102] ?_
 rintro x45 e33 ⟨a29,c29⟩
 refine au [0,37,4,6,7,16] ?_
 refine qm ?_ (by intro c h;cases h)
 refine av [2,10] ?_ ?_
 intro _
 refine au [4,9,26,1] ?_
 refine qds ent94 rfl rfl rfl rfl (fun x46 e34=>qbk F g16 g13 x10.1 a11 c12 x10.2.1 x10.2.2.1 x10.2.2.2 x45.2 a29 c29 ([111,107]:qsO) g17 x46 e34) (.cons 3 rfl (.cons 0 rfl (.cons 2 rfl .nil))) .nil (.consG 1 rfl (zT qb4) (.consR 0 (qsU a29 x45.2 c29) rfl (.consF 2 rfl .nil))) (fun x46 e34 _=>?_)
 refine au [5,0] ?_
 exact qG hj ((x46.1,x10.1,x10.2.1,x10.2.2.1,x10.2.2.2,x45.2,x46.2),(a11,c12,a29,c29))
 intro _
 refine au [11] ?_
 exact qG hj (((1:Int),x10.1,x10.2.1,x10.2.2.1,x10.2.2.2,x45.2,([111,107]:qsO)),(a11,c12,a29,c29))
 refine yu 1 (fun ((_,g18):(Unit×Nat))=>([(4,qsS g9),(7,qsS g13),(8,qsR a15 x14 c16),(9,qsS g18),(10,.bool true)],[⟨g13,85,[qsR a11 x10.1 c12.1,qsQ x10.2.1,qsQ x10.2.2.1,qsQ x10.2.2.2,.slice none 0 0,.string (bstr ([111,107]:qsO))]⟩,⟨g9,28,[.slice none 0 0,qsQ 0,qsQ 0,qsQ 0]⟩,⟨g18,88,[qsQ 0,.func (.func 70) #[qsS g13] #[]]⟩],[Ro eT 9 1 (qsR a15 x14 c16) x14,RoN eN56 rN56 56 1 (qsR a11 x10.1 c12.1) x10.1 c12.2 []],[GF],qak F x10 x14)) ?_ (fun hw11=>?_)
 rintro ⟨_,g18⟩
 try dsimp only
 refine au [47,71,1,116] ?_
 intro x47 e35 a30 c30 h22 h23
 refine qt mixed [] [⟨g9,28,[.slice none 0 0,qsQ 0,qsQ 0,qsQ 0]⟩,⟨g18,88,[qsQ 0,.func (.func 70) #[qsS g13] #[]]⟩] [Sl eT 1 (qsR a30 x47 c30) x47,Sl eT 1 (qsR a15 x14 c16) x14,GF] (.cons 1 rfl (.cons 1 rfl .nil)) (qf 0 rfl (qf 1 rfl (qf 2 rfl qh))) 8 rfl ?_
 refine au [97] ?_
 refine qN 3 (.agg #[qsQ 0,.func (.func 70) #[.pointer (some ⟨g13,0,none⟩)] #[]]) rfl rfl rfl (qM (i:=1) rfl tf88 rfl rfl (by simp) rfl) ?_
 refine au [6,4] ?_
 refine qe 5 (qsR a30 x47 c30) rfl rfl rfl (qaD Tryz.underlying39 tf9 rfl rfl rfl e35 h23 h22) ?_
 refine au [13,6,102] ?_
 rintro x48 e36 ⟨a31,c31⟩
 refine au [0,27,15,6,7,16] ?_
 refine qm ?_ (by intro c h;cases h)
 refine av [2,10] ?_ ?_
 intro _
 refine au [4,9,26,1] ?_
 refine vh ent70 rfl rfl rfl rfl (fun x49 e37=>qf1 F g13 x10.1 a11 c12 x10.2.1 x10.2.2.1 x10.2.2.2 x48.2 a31 c31 ([111,107]:qsO) x49 e37) (.cons 0 rfl .nil) .nil (.consG 1 rfl (zT qb4) (.consR 0 (qsU a31 x48.2 c31) rfl (.consF 2 rfl .nil))) (fun x49 e37 _=>?_)
 refine au [5,0] ?_
 exact qG hj ((x49.1,x10.1,x10.2.1,x10.2.2.1,x10.2.2.2,x48.2,x49.2),(a11,c12,a31,c31))
 intro _
 refine au [11] ?_
 exact qG hj (((1:Int),x10.1,x10.2.1,x10.2.2.1,x10.2.2.2,x48.2,([111,107]:qsO)),(a11,c12,a31,c31))
 refine yu 1 (fun ((_,g19):(Unit×Nat))=>([(4,qsS g9),(7,qsS g13),(8,qsR a15 x14 c16),(9,qsS g19),(10,.bool false)],[⟨g13,85,[qsR a11 x10.1 c12.1,qsQ x10.2.1,qsQ x10.2.2.1,qsQ x10.2.2.2,.slice none 0 0,.string (bstr ([111,107]:qsO))]⟩,⟨g9,28,[.slice none 0 0,qsQ 0,qsQ 0,qsQ 0]⟩,⟨g19,88,[qsQ 0,.nilFunc]⟩],[Ro eT 9 1 (qsR a15 x14 c16) x14,RoN eN56 rN56 56 1 (qsR a11 x10.1 c12.1) x10.1 c12.2 []],[GF],qal F x10)) ?_ (fun hw12=>?_)
 rintro ⟨_,g19⟩
 try dsimp only
 refine au [47,71,1] ?_
 refine qt mixed [] [⟨g13,85,[qsR a11 x10.1 c12.1,qsQ x10.2.1,qsQ x10.2.2.1,qsQ x10.2.2.2,.slice none 0 0,.string (bstr ([111,107]:qsO))]⟩,⟨g9,28,[.slice none 0 0,qsQ 0,qsQ 0,qsQ 0]⟩,⟨g19,88,[qsQ 0,.nilFunc]⟩] [GF] (.cons 0 rfl (.cons 0 rfl (.cons 0 rfl .nil))) (qf 0 rfl qh) 8 rfl ?_
 refine au [69,19,2,19,3,19,4,19,5,19,6,6,7,16] ?_
 refine qm ?_ (by intro c h;cases h)
 refine au [2] ?_
 refine kD (b:=false) rfl (fun h=>by cases h) (fun _=>?_)
 refine au [11,25,9] ?_
 exact qG hj (((1:Int),x10.1,x10.2.1,x10.2.2.1,x10.2.2.2,([]:qsO),([111,107]:qsO)),(a11,c12,none,0))
 refine au [1,29,12] ?_
 intro x50 e38 g20 h24
 replace h24:a15=some ⟨g20,0,none⟩:=h24
 have h25:=zE (k:=x14.length) (c:=c16) h24
 refine qt mixed [] [⟨g13,85,[qsR a11 x10.1 c12.1,qsQ x10.2.1,qsQ x10.2.2.1,qsQ x10.2.2.2,.slice none 0 0,.string (bstr ([111,107]:qsO))]⟩,⟨g9,28,[.slice none 0 0,qsQ 0,qsQ 0,qsQ 0]⟩,⟨g8,28,[qsR a2 x1 c3,qsQ x4,qsQ x5,qsQ x6]⟩] [SlN eN56 iN56 1 (qsR a2 x1 c3) x1 s3,GF,qC g20 ((0:Int).toNat*1) (eT x50)] (.cons 0 rfl (.cons 0 rfl (.cons 0 rfl .nil))) (qf 0 rfl (qf 1 rfl (qP 0 rfl (qx qU e38 h24) qh))) 12 rfl ?_
 refine au [6,0,6,2] ?_
 refine qg (d:=21) (v:=qsR (some ⟨g20,0,none⟩) x14 c16) rfl (by simp only[qsR,h24] <;> rfl) (qe 3 (.pointer (some ⟨g20,(0:Int).toNat*1,none⟩)) rfl rfl rfl (zU Tryz.underlying39 tf9 rfl rfl (qo e38).1 (zf e38)) (qg (d:=21) (v:=qsR a15 x14 c16) rfl (by simp only[qsR,h24] <;> rfl) (qJ 4 (.string (bstr x50)) [] rfl rfl rfl (q7 (j:=2) rfl tf9 rfl rfl (fun _=>rfl) rfl) (ye 1 9 rfl rfl (by kernel_rfl) rfl rfl ?_ ?_))))
 refine au [26,9,37,5] ?_
 rintro x51 e39 ⟨g21,g22,g23,g24,g25⟩
 refine au [0] ?_
 refine qi (.cons 5 rfl (.cons 5 rfl (.cons 5 rfl .nil))) (qf 0 rfl (qf 1 rfl (qP 1 rfl (qx qU e38 h24) qh))) (ye 5 9 rfl rfl (by kernel_rfl) rfl rfl ?_ ?_)
 refine qfS (i:=0) (u:=x50) rfl Tryz.underlying90 Tryz.underlying9 tf88 rfl rfl rfl rfl (zh ?_ (zh ?_ (zh ?_ (zh ?_ (zh ?_ (zh ?_ (zh ?_ (zh ?_ (zh ?_ (zh ?_ (zh ?_ (zh ?_ (qkL ?_)))))))))))))
 refine au [0] ?_
 refine qi (.cons 5 rfl (.cons 5 rfl (.cons 5 rfl .nil))) (qf 0 rfl (qf 1 rfl (qP 1 rfl (qx qU e38 h24) qh))) ?_
 refine au [67,6,8,105] ?_
 intro g26
 refine au [0] ?_
 refine qi (.cons 6 rfl (.cons 6 rfl (.cons 6 rfl .nil))) (qf 0 rfl (qf 1 rfl (qP 1 rfl (qx qU e38 h24) qh))) ?_
 refine au [113] ?_
 refine qi (.cons 6 rfl (.cons 6 rfl (.cons 6 rfl .nil))) (qf 0 rfl (qf 1 rfl (qP 1 rfl (qx qU e38 h24) qh))) ?_
 refine au [64] ?_
 exact qm (qG hw0 ((),g26)) (by intro c h;cases h)
 refine au [0] ?_
 refine qi (.cons 5 rfl (.cons 5 rfl (.cons 5 rfl .nil))) (qf 0 rfl (qf 1 rfl (qP 1 rfl (qx qU e38 h24) qh))) ?_
 refine au [67,6,8,105] ?_
 intro g27
 refine au [0] ?_
 refine qi (.cons 6 rfl (.cons 6 rfl (.cons 6 rfl .nil))) (qf 0 rfl (qf 1 rfl (qP 1 rfl (qx qU e38 h24) qh))) ?_
 refine au [113] ?_
 refine qi (.cons 6 rfl (.cons 6 rfl (.cons 6 rfl .nil))) (qf 0 rfl (qf 1 rfl (qP 1 rfl (qx qU e38 h24) qh))) ?_
 refine au [64] ?_
 exact qm (qG hw1 ((),g27)) (by intro c h;cases h)
 refine au [0] ?_
 refine qi (.cons 5 rfl (.cons 5 rfl (.cons 5 rfl .nil))) (qf 0 rfl (qf 1 rfl (qP 1 rfl (qx qU e38 h24) qh))) ?_
 refine au [67,6,8,105] ?_
 intro g28
 refine au [0] ?_
 refine qi (.cons 6 rfl (.cons 6 rfl (.cons 6 rfl .nil))) (qf 0 rfl (qf 1 rfl (qP 1 rfl (qx qU e38 h24) qh))) ?_
 refine au [113] ?_
 refine qi (.cons 6 rfl (.cons 6 rfl (.cons 6 rfl .nil))) (qf 0 rfl (qf 1 rfl (qP 1 rfl (qx qU e38 h24) qh))) ?_
 refine au [64] ?_
 exact qm (qG hw2 ((),g28)) (by intro c h;cases h)
 refine au [0] ?_
 refine qi (.cons 5 rfl (.cons 5 rfl (.cons 5 rfl .nil))) (qf 0 rfl (qf 1 rfl (qP 1 rfl (qx qU e38 h24) qh))) ?_
 refine au [67,6,8,105] ?_
 intro g29
 refine au [0] ?_
 refine qi (.cons 6 rfl (.cons 6 rfl (.cons 6 rfl .nil))) (qf 0 rfl (qf 1 rfl (qP 1 rfl (qx qU e38 h24) qh))) ?_
 refine au [113] ?_
 refine qi (.cons 6 rfl (.cons 6 rfl (.cons 6 rfl .nil))) (qf 0 rfl (qf 1 rfl (qP 1 rfl (qx qU e38 h24) qh))) ?_
 refine au [64] ?_
 exact qm (qG hw3 ((),g29)) (by intro c h;cases h)
 refine au [0] ?_
 refine qi (.cons 5 rfl (.cons 5 rfl (.cons 5 rfl .nil))) (qf 0 rfl (qf 1 rfl (qP 1 rfl (qx qU e38 h24) qh))) ?_
 refine au [67,6,8,105] ?_
 intro g30
 refine au [0] ?_
 refine qi (.cons 6 rfl (.cons 6 rfl (.cons 6 rfl .nil))) (qf 0 rfl (qf 1 rfl (qP 1 rfl (qx qU e38 h24) qh))) ?_
 refine au [113] ?_
 refine qi (.cons 6 rfl (.cons 6 rfl (.cons 6 rfl .nil))) (qf 0 rfl (qf 1 rfl (qP 1 rfl (qx qU e38 h24) qh))) ?_
 refine au [64] ?_
 exact qm (qG hw4 ((),g30)) (by intro c h;cases h)
 refine au [0] ?_
 refine qi (.cons 5 rfl (.cons 5 rfl (.cons 5 rfl .nil))) (qf 0 rfl (qf 1 rfl (qP 1 rfl (qx qU e38 h24) qh))) ?_
 refine au [67,6,8,105] ?_
 intro g31
 refine au [0] ?_
 refine qi (.cons 6 rfl (.cons 6 rfl (.cons 6 rfl .nil))) (qf 0 rfl (qf 1 rfl (qP 1 rfl (qx qU e38 h24) qh))) ?_
 refine au [113] ?_
 refine qi (.cons 6 rfl (.cons 6 rfl (.cons 6 rfl .nil))) (qf 0 rfl (qf 1 rfl (qP 1 rfl (qx qU e38 h24) qh))) ?_
 refine au [64] ?_
 exact qm (qG hw5 ((),g31)) (by intro c h;cases h)
 refine au [0] ?_
 refine qi (.cons 5 rfl (.cons 5 rfl (.cons 5 rfl .nil))) (qf 0 rfl (qf 1 rfl (qP 1 rfl (qx qU e38 h24) qh))) ?_
 refine au [67,6,8,105] ?_
 intro g32
 refine au [0] ?_
 refine qi (.cons 6 rfl (.cons 6 rfl (.cons 6 rfl .nil))) (qf 0 rfl (qf 1 rfl (qP 1 rfl (qx qU e38 h24) qh))) ?_
 refine au [113] ?_
 refine qi (.cons 6 rfl (.cons 6 rfl (.cons 6 rfl .nil))) (qf 0 rfl (qf 1 rfl (qP 1 rfl (qx qU e38 h24) qh))) ?_
 refine au [64] ?_
 exact qm (qG hw6 ((),g32)) (by intro c h;cases h)
 refine au [0] ?_
 refine qi (.cons 5 rfl (.cons 5 rfl (.cons 5 rfl .nil))) (qf 0 rfl (qf 1 rfl (qP 1 rfl (qx qU e38 h24) qh))) ?_
 refine au [67,6,8,105] ?_
 intro g33
 refine au [0] ?_
 refine qi (.cons 6 rfl (.cons 6 rfl (.cons 6 rfl .nil))) (qf 0 rfl (qf 1 rfl (qP 1 rfl (qx qU e38 h24) qh))) ?_
 refine au [113] ?_
 refine qi (.cons 6 rfl (.cons 6 rfl (.cons 6 rfl .nil))) (qf 0 rfl (qf 1 rfl (qP 1 rfl (qx qU e38 h24) qh))) ?_
 refine au [64] ?_
 exact qm (qG hw7 ((),g33)) (by intro c h;cases h)
 refine au [0] ?_
 refine qi (.cons 5 rfl (.cons 5 rfl (.cons 5 rfl .nil))) (qf 0 rfl (qf 1 rfl (qP 1 rfl (qx qU e38 h24) qh))) ?_
 refine au [67,6,8,105] ?_
 intro g34
 refine au [0] ?_
 refine qi (.cons 6 rfl (.cons 6 rfl (.cons 6 rfl .nil))) (qf 0 rfl (qf 1 rfl (qP 1 rfl (qx qU e38 h24) qh))) ?_
 refine au [113] ?_
 refine qi (.cons 6 rfl (.cons 6 rfl (.cons 6 rfl .nil))) (qf 0 rfl (qf 1 rfl (qP 1 rfl (qx qU e38 h24) qh))) ?_
 refine au [64] ?_
 exact qm (qG hw8 ((),(g34,g22,g23))) (by intro c h;cases h)
 refine au [0] ?_
 refine qi (.cons 5 rfl (.cons 5 rfl (.cons 5 rfl .nil))) (qf 0 rfl (qf 1 rfl (qP 1 rfl (qx qU e38 h24) qh))) ?_
 refine au [67,6,8,105] ?_
 intro g35
 refine au [0] ?_
 refine qi (.cons 6 rfl (.cons 6 rfl (.cons 6 rfl .nil))) (qf 0 rfl (qf 1 rfl (qP 1 rfl (qx qU e38 h24) qh))) ?_
 refine au [113] ?_
 refine qi (.cons 6 rfl (.cons 6 rfl (.cons 6 rfl .nil))) (qf 0 rfl (qf 1 rfl (qP 1 rfl (qx qU e38 h24) qh))) ?_
 refine au [64] ?_
 exact qm (qG hw9 ((),g35)) (by intro c h;cases h)
 refine au [0] ?_
 refine qi (.cons 5 rfl (.cons 5 rfl (.cons 5 rfl .nil))) (qf 0 rfl (qf 1 rfl (qP 1 rfl (qx qU e38 h24) qh))) ?_
 refine au [67,6,8,105] ?_
 intro g36
 refine au [0] ?_
 refine qi (.cons 6 rfl (.cons 6 rfl (.cons 6 rfl .nil))) (qf 0 rfl (qf 1 rfl (qP 1 rfl (qx qU e38 h24) qh))) ?_
 refine au [113] ?_
 refine qi (.cons 6 rfl (.cons 6 rfl (.cons 6 rfl .nil))) (qf 0 rfl (qf 1 rfl (qP 1 rfl (qx qU e38 h24) qh))) ?_
 refine au [64] ?_
 exact qm (qG hw10 ((),(g36,g24,g25))) (by intro c h;cases h)
 refine au [0] ?_
 refine qi (.cons 5 rfl (.cons 5 rfl (.cons 5 rfl .nil))) (qf 0 rfl (qf 1 rfl (qP 1 rfl (qx qU e38 h24) qh))) ?_
 refine au [67,6,8,105] ?_
 intro g37
 refine au [0] ?_
 refine qi (.cons 6 rfl (.cons 6 rfl (.cons 6 rfl .nil))) (qf 0 rfl (qf 1 rfl (qP 1 rfl (qx qU e38 h24) qh))) ?_
 refine au [113] ?_
 refine qi (.cons 6 rfl (.cons 6 rfl (.cons 6 rfl .nil))) (qf 0 rfl (qf 1 rfl (qP 1 rfl (qx qU e38 h24) qh))) ?_
 refine au [64] ?_
 exact qm (qG hw11 ((),g37)) (by intro c h;cases h)
 refine au [0] ?_
 refine qi (.cons 5 rfl (.cons 5 rfl (.cons 5 rfl .nil))) (qf 0 rfl (qf 1 rfl (qP 1 rfl (qx qU e38 h24) qh))) ?_
 refine au [67,6,8,105] ?_
 intro g38
 refine au [0] ?_
 refine qi (.cons 6 rfl (.cons 6 rfl (.cons 6 rfl .nil))) (qf 0 rfl (qf 1 rfl (qP 1 rfl (qx qU e38 h24) qh))) ?_
 refine au [113] ?_
 refine qi (.cons 6 rfl (.cons 6 rfl (.cons 6 rfl .nil))) (qf 0 rfl (qf 1 rfl (qP 1 rfl (qx qU e38 h24) qh))) ?_
 refine au [64] ?_
 exact qm (qG hw12 ((),g38)) (by intro c h;cases h)
 refine kz (m':=(if (bstr x50 == bstr ([110,111,100,101,115]:qsO)) then qac F x10 x14 else (if (bstr x50 == bstr ([97,114,99]:qsO)) then vP F x10 x14 else (if (bstr x50 == bstr ([100,114,111,112]:qsO)) then vQ F x10 x14 else (if (bstr x50 == bstr ([104,111,119]:qsO)) then qad F x10 x14 else (if (bstr x50 == bstr ([98,105,116,115]:qsO)) then qae F x10 x14 else (if (bstr x50 == bstr ([108,105,115,116]:qsO)) then qaf F x10 x14 else (if (bstr x50 == bstr ([102,97,114]:qsO)) then vR F x10 x14 else (if (bstr x50 == bstr ([119,97,121]:qsO)) then qag F x10 x14 else (if (bstr x50 == bstr ([112,97,114,116]:qsO)) then qah F x10 x14 else (if (bstr x50 == bstr ([111,114,100,101,114]:qsO)) then qai F x10 x14 else (if (bstr x50 == bstr ([99,111,114,101]:qsO)) then qaj F x10 x14 else (if (bstr x50 == bstr ([116,104,114,101,101,115]:qsO)) then qak F x10 x14 else qal F x10))))))))))))) rfl ?_
 refine au [24,4] ?_
 intro g39
 refine au [0] ?_
 refine qi (.cons 6 rfl (.cons 6 rfl (.cons 6 rfl .nil))) (qf 0 rfl (qf 1 rfl (qP 1 rfl (qx qU e38 h24) qh))) ?_
 refine au [13,5] ?_
 refine qfS (i:=1) (u:=x50) rfl Tryz.underlying90 Tryz.underlying9 tf88 rfl rfl rfl rfl (zh ?_ (zh ?_ (zh ?_ (zh ?_ (zh ?_ (zh ?_ (zh ?_ (zh ?_ (zh ?_ (zh ?_ (zh ?_ (zh ?_ (qkL ?_)))))))))))))
 refine au [0] ?_
 refine qi (.cons 6 rfl (.cons 6 rfl (.cons 6 rfl .nil))) (qf 0 rfl (qf 1 rfl (qP 1 rfl (qx qU e38 h24) qh))) ?_
 refine au [67,79,86] ?_
 refine qi (.cons 6 rfl (.cons 6 rfl (.cons 6 rfl .nil))) (qf 0 rfl (qf 1 rfl (qP 1 rfl (qx qU e38 h24) qh))) ?_
 refine au [64] ?_
 exact qm (qG hw0 ((),g39)) (by intro c h;cases h)
 refine au [0] ?_
 refine qi (.cons 6 rfl (.cons 6 rfl (.cons 6 rfl .nil))) (qf 0 rfl (qf 1 rfl (qP 1 rfl (qx qU e38 h24) qh))) ?_
 refine au [67,79,86] ?_
 refine qi (.cons 6 rfl (.cons 6 rfl (.cons 6 rfl .nil))) (qf 0 rfl (qf 1 rfl (qP 1 rfl (qx qU e38 h24) qh))) ?_
 refine au [64] ?_
 exact qm (qG hw1 ((),g39)) (by intro c h;cases h)
 refine au [0] ?_
 refine qi (.cons 6 rfl (.cons 6 rfl (.cons 6 rfl .nil))) (qf 0 rfl (qf 1 rfl (qP 1 rfl (qx qU e38 h24) qh))) ?_
 refine au [67,79,86] ?_
 refine qi (.cons 6 rfl (.cons 6 rfl (.cons 6 rfl .nil))) (qf 0 rfl (qf 1 rfl (qP 1 rfl (qx qU e38 h24) qh))) ?_
 refine au [64] ?_
 exact qm (qG hw2 ((),g39)) (by intro c h;cases h)
 refine au [0] ?_
 refine qi (.cons 6 rfl (.cons 6 rfl (.cons 6 rfl .nil))) (qf 0 rfl (qf 1 rfl (qP 1 rfl (qx qU e38 h24) qh))) ?_
 refine au [67,79,86] ?_
 refine qi (.cons 6 rfl (.cons 6 rfl (.cons 6 rfl .nil))) (qf 0 rfl (qf 1 rfl (qP 1 rfl (qx qU e38 h24) qh))) ?_
 refine au [64] ?_
 exact qm (qG hw3 ((),g39)) (by intro c h;cases h)
 refine au [0] ?_
 refine qi (.cons 6 rfl (.cons 6 rfl (.cons 6 rfl .nil))) (qf 0 rfl (qf 1 rfl (qP 1 rfl (qx qU e38 h24) qh))) ?_
 refine au [67,79,86] ?_
 refine qi (.cons 6 rfl (.cons 6 rfl (.cons 6 rfl .nil))) (qf 0 rfl (qf 1 rfl (qP 1 rfl (qx qU e38 h24) qh))) ?_
 refine au [64] ?_
 exact qm (qG hw4 ((),g39)) (by intro c h;cases h)
 refine au [0] ?_
 refine qi (.cons 6 rfl (.cons 6 rfl (.cons 6 rfl .nil))) (qf 0 rfl (qf 1 rfl (qP 1 rfl (qx qU e38 h24) qh))) ?_
 refine au [67,79,86] ?_
 refine qi (.cons 6 rfl (.cons 6 rfl (.cons 6 rfl .nil))) (qf 0 rfl (qf 1 rfl (qP 1 rfl (qx qU e38 h24) qh))) ?_
 refine au [64] ?_
 exact qm (qG hw5 ((),g39)) (by intro c h;cases h)
 refine au [0] ?_
 refine qi (.cons 6 rfl (.cons 6 rfl (.cons 6 rfl .nil))) (qf 0 rfl (qf 1 rfl (qP 1 rfl (qx qU e38 h24) qh))) ?_
 refine au [67,79,86] ?_
 refine qi (.cons 6 rfl (.cons 6 rfl (.cons 6 rfl .nil))) (qf 0 rfl (qf 1 rfl (qP 1 rfl (qx qU e38 h24) qh))) ?_
 refine au [64] ?_
 exact qm (qG hw6 ((),g39)) (by intro c h;cases h)
 refine au [0] ?_
 refine qi (.cons 6 rfl (.cons 6 rfl (.cons 6 rfl .nil))) (qf 0 rfl (qf 1 rfl (qP 1 rfl (qx qU e38 h24) qh))) ?_
 refine au [67,79,86] ?_
 refine qi (.cons 6 rfl (.cons 6 rfl (.cons 6 rfl .nil))) (qf 0 rfl (qf 1 rfl (qP 1 rfl (qx qU e38 h24) qh))) ?_
 refine au [64] ?_
 exact qm (qG hw7 ((),g39)) (by intro c h;cases h)
 refine au [0] ?_
 refine qi (.cons 6 rfl (.cons 6 rfl (.cons 6 rfl .nil))) (qf 0 rfl (qf 1 rfl (qP 1 rfl (qx qU e38 h24) qh))) ?_
 refine au [67,79,86] ?_
 refine qi (.cons 6 rfl (.cons 6 rfl (.cons 6 rfl .nil))) (qf 0 rfl (qf 1 rfl (qP 1 rfl (qx qU e38 h24) qh))) ?_
 refine au [64] ?_
 exact qm (qG hw8 ((),(g39,g22,g23))) (by intro c h;cases h)
 refine au [0] ?_
 refine qi (.cons 6 rfl (.cons 6 rfl (.cons 6 rfl .nil))) (qf 0 rfl (qf 1 rfl (qP 1 rfl (qx qU e38 h24) qh))) ?_
 refine au [67,79,86] ?_
 refine qi (.cons 6 rfl (.cons 6 rfl (.cons 6 rfl .nil))) (qf 0 rfl (qf 1 rfl (qP 1 rfl (qx qU e38 h24) qh))) ?_
 refine au [64] ?_
 exact qm (qG hw9 ((),g39)) (by intro c h;cases h)
 refine au [0] ?_
 refine qi (.cons 6 rfl (.cons 6 rfl (.cons 6 rfl .nil))) (qf 0 rfl (qf 1 rfl (qP 1 rfl (qx qU e38 h24) qh))) ?_
 refine au [67,79,86] ?_
 refine qi (.cons 6 rfl (.cons 6 rfl (.cons 6 rfl .nil))) (qf 0 rfl (qf 1 rfl (qP 1 rfl (qx qU e38 h24) qh))) ?_
 refine au [64] ?_
 exact qm (qG hw10 ((),(g39,g24,g25))) (by intro c h;cases h)
 refine au [0] ?_
 refine qi (.cons 6 rfl (.cons 6 rfl (.cons 6 rfl .nil))) (qf 0 rfl (qf 1 rfl (qP 1 rfl (qx qU e38 h24) qh))) ?_
 refine au [67,79,86] ?_
 refine qi (.cons 6 rfl (.cons 6 rfl (.cons 6 rfl .nil))) (qf 0 rfl (qf 1 rfl (qP 1 rfl (qx qU e38 h24) qh))) ?_
 refine au [64] ?_
 exact qm (qG hw11 ((),g39)) (by intro c h;cases h)
 refine au [0] ?_
 refine qi (.cons 6 rfl (.cons 6 rfl (.cons 6 rfl .nil))) (qf 0 rfl (qf 1 rfl (qP 1 rfl (qx qU e38 h24) qh))) ?_
 refine au [67,79,86] ?_
 refine qi (.cons 6 rfl (.cons 6 rfl (.cons 6 rfl .nil))) (qf 0 rfl (qf 1 rfl (qP 1 rfl (qx qU e38 h24) qh))) ?_
 refine au [64] ?_
 exact qm (qG hw12 ((),g39)) (by intro c h;cases h)
 refine kz (m':=((vI F x10.1 x10.2.1 x10.2.2.1 x10.2.2.2 ([]:qsO) ([111,107]:qsO)).bind fun x52=>(if (bstr x50 == bstr ([110,111,100,101,115]:qsO)) then qac F x10 x14 else (if (bstr x50 == bstr ([97,114,99]:qsO)) then vP F x10 x14 else (if (bstr x50 == bstr ([100,114,111,112]:qsO)) then vQ F x10 x14 else (if (bstr x50 == bstr ([104,111,119]:qsO)) then qad F x10 x14 else (if (bstr x50 == bstr ([98,105,116,115]:qsO)) then qae F x10 x14 else (if (bstr x50 == bstr ([108,105,115,116]:qsO)) then qaf F x10 x14 else (if (bstr x50 == bstr ([102,97,114]:qsO)) then vR F x10 x14 else (if (bstr x50 == bstr ([119,97,121]:qsO)) then qag F x10 x14 else (if (bstr x50 == bstr ([112,97,114,116]:qsO)) then qah F x10 x14 else (if (bstr x50 == bstr ([111,114,100,101,114]:qsO)) then qai F x10 x14 else (if (bstr x50 == bstr ([99,111,114,101]:qsO)) then qaj F x10 x14 else (if (bstr x50 == bstr ([116,104,114,101,101,115]:qsO)) then qak F x10 x14 else qal F x10)))))))))))))) (rfl) ?_
 refine au [24,4] ?_
 intro g40
 refine au [0] ?_
 refine qi (.cons 1 rfl (.cons 1 rfl (.cons 1 rfl .nil))) (qf 0 rfl (qf 1 rfl (qP 0 rfl (qx qU e38 h24) qh))) ?_
 refine au [13,1,26,9,37,5] ?_
 rintro x52 e40 ⟨g41,g42,g43,g44,g45⟩
 refine au [0] ?_
 refine qi (.cons 5 rfl (.cons 6 rfl (.cons 6 rfl .nil))) (qf 0 rfl (qf 1 rfl (qP 1 rfl (qx qU e38 h24) qh))) ?_
 refine au [13,5] ?_
 refine qfS (i:=0) (u:=x50) rfl Tryz.underlying90 Tryz.underlying9 tf88 rfl rfl rfl rfl (zh ?_ (zh ?_ (zh ?_ (zh ?_ (zh ?_ (zh ?_ (zh ?_ (zh ?_ (zh ?_ (zh ?_ (zh ?_ (zh ?_ (qkL ?_)))))))))))))
 refine au [0] ?_
 refine qi (.cons 5 rfl (.cons 6 rfl (.cons 6 rfl .nil))) (qf 0 rfl (qf 1 rfl (qP 1 rfl (qx qU e38 h24) qh))) ?_
 refine au [67,79,27,0,0] ?_
 refine qi (.cons 5 rfl (.cons 6 rfl (.cons 6 rfl .nil))) (qf 0 rfl (qf 1 rfl (qP 1 rfl (qx qU e38 h24) qh))) ?_
 refine au [64] ?_
 exact qm (qG hw0 ((),g40)) (by intro c h;cases h)
 refine au [0] ?_
 refine qi (.cons 5 rfl (.cons 6 rfl (.cons 6 rfl .nil))) (qf 0 rfl (qf 1 rfl (qP 1 rfl (qx qU e38 h24) qh))) ?_
 refine au [67,79,27,0,0] ?_
 refine qi (.cons 5 rfl (.cons 6 rfl (.cons 6 rfl .nil))) (qf 0 rfl (qf 1 rfl (qP 1 rfl (qx qU e38 h24) qh))) ?_
 refine au [64] ?_
 exact qm (qG hw1 ((),g40)) (by intro c h;cases h)
 refine au [0] ?_
 refine qi (.cons 5 rfl (.cons 6 rfl (.cons 6 rfl .nil))) (qf 0 rfl (qf 1 rfl (qP 1 rfl (qx qU e38 h24) qh))) ?_
 refine au [67,79,27,0,0] ?_
 refine qi (.cons 5 rfl (.cons 6 rfl (.cons 6 rfl .nil))) (qf 0 rfl (qf 1 rfl (qP 1 rfl (qx qU e38 h24) qh))) ?_
 refine au [64] ?_
 exact qm (qG hw2 ((),g40)) (by intro c h;cases h)
 refine au [0] ?_
 refine qi (.cons 5 rfl (.cons 6 rfl (.cons 6 rfl .nil))) (qf 0 rfl (qf 1 rfl (qP 1 rfl (qx qU e38 h24) qh))) ?_
 refine au [67,79,27,0,0] ?_
 refine qi (.cons 5 rfl (.cons 6 rfl (.cons 6 rfl .nil))) (qf 0 rfl (qf 1 rfl (qP 1 rfl (qx qU e38 h24) qh))) ?_
 refine au [64] ?_
 exact qm (qG hw3 ((),g40)) (by intro c h;cases h)
 refine au [0] ?_
 refine qi (.cons 5 rfl (.cons 6 rfl (.cons 6 rfl .nil))) (qf 0 rfl (qf 1 rfl (qP 1 rfl (qx qU e38 h24) qh))) ?_
 refine au [67,79,27,0,0] ?_
 refine qi (.cons 5 rfl (.cons 6 rfl (.cons 6 rfl .nil))) (qf 0 rfl (qf 1 rfl (qP 1 rfl (qx qU e38 h24) qh))) ?_
 refine au [64] ?_
 exact qm (qG hw4 ((),g40)) (by intro c h;cases h)
 refine au [0] ?_
 refine qi (.cons 5 rfl (.cons 6 rfl (.cons 6 rfl .nil))) (qf 0 rfl (qf 1 rfl (qP 1 rfl (qx qU e38 h24) qh))) ?_
 refine au [67,79,27,0,0] ?_
 refine qi (.cons 5 rfl (.cons 6 rfl (.cons 6 rfl .nil))) (qf 0 rfl (qf 1 rfl (qP 1 rfl (qx qU e38 h24) qh))) ?_
 refine au [64] ?_
 exact qm (qG hw5 ((),g40)) (by intro c h;cases h)
 refine au [0] ?_
 refine qi (.cons 5 rfl (.cons 6 rfl (.cons 6 rfl .nil))) (qf 0 rfl (qf 1 rfl (qP 1 rfl (qx qU e38 h24) qh))) ?_
 refine au [67,79,27,0,0] ?_
 refine qi (.cons 5 rfl (.cons 6 rfl (.cons 6 rfl .nil))) (qf 0 rfl (qf 1 rfl (qP 1 rfl (qx qU e38 h24) qh))) ?_
 refine au [64] ?_
 exact qm (qG hw6 ((),g40)) (by intro c h;cases h)
 refine au [0] ?_
 refine qi (.cons 5 rfl (.cons 6 rfl (.cons 6 rfl .nil))) (qf 0 rfl (qf 1 rfl (qP 1 rfl (qx qU e38 h24) qh))) ?_
 refine au [67,79,27,0,0] ?_
 refine qi (.cons 5 rfl (.cons 6 rfl (.cons 6 rfl .nil))) (qf 0 rfl (qf 1 rfl (qP 1 rfl (qx qU e38 h24) qh))) ?_
 refine au [64] ?_
 exact qm (qG hw7 ((),g40)) (by intro c h;cases h)
 refine au [0] ?_
 refine qi (.cons 5 rfl (.cons 6 rfl (.cons 6 rfl .nil))) (qf 0 rfl (qf 1 rfl (qP 1 rfl (qx qU e38 h24) qh))) ?_
 refine au [67,79,27,0,0] ?_
 refine qi (.cons 5 rfl (.cons 6 rfl (.cons 6 rfl .nil))) (qf 0 rfl (qf 1 rfl (qP 1 rfl (qx qU e38 h24) qh))) ?_
 refine au [64] ?_
 exact qm (qG hw8 ((),(g40,g42,g43))) (by intro c h;cases h)
 refine au [0] ?_
 refine qi (.cons 5 rfl (.cons 6 rfl (.cons 6 rfl .nil))) (qf 0 rfl (qf 1 rfl (qP 1 rfl (qx qU e38 h24) qh))) ?_
 refine au [67,79,27,0,0] ?_
 refine qi (.cons 5 rfl (.cons 6 rfl (.cons 6 rfl .nil))) (qf 0 rfl (qf 1 rfl (qP 1 rfl (qx qU e38 h24) qh))) ?_
 refine au [64] ?_
 exact qm (qG hw9 ((),g40)) (by intro c h;cases h)
 refine au [0] ?_
 refine qi (.cons 5 rfl (.cons 6 rfl (.cons 6 rfl .nil))) (qf 0 rfl (qf 1 rfl (qP 1 rfl (qx qU e38 h24) qh))) ?_
 refine au [67,79,27,0,0] ?_
 refine qi (.cons 5 rfl (.cons 6 rfl (.cons 6 rfl .nil))) (qf 0 rfl (qf 1 rfl (qP 1 rfl (qx qU e38 h24) qh))) ?_
 refine au [64] ?_
 exact qm (qG hw10 ((),(g40,g44,g45))) (by intro c h;cases h)
 refine au [0] ?_
 refine qi (.cons 5 rfl (.cons 6 rfl (.cons 6 rfl .nil))) (qf 0 rfl (qf 1 rfl (qP 1 rfl (qx qU e38 h24) qh))) ?_
 refine au [67,79,27,0,0] ?_
 refine qi (.cons 5 rfl (.cons 6 rfl (.cons 6 rfl .nil))) (qf 0 rfl (qf 1 rfl (qP 1 rfl (qx qU e38 h24) qh))) ?_
 refine au [64] ?_
 exact qm (qG hw11 ((),g40)) (by intro c h;cases h)
 refine au [0] ?_
 refine qi (.cons 5 rfl (.cons 6 rfl (.cons 6 rfl .nil))) (qf 0 rfl (qf 1 rfl (qP 1 rfl (qx qU e38 h24) qh))) ?_
 refine au [67,79,27,0,0] ?_
 refine qi (.cons 5 rfl (.cons 6 rfl (.cons 6 rfl .nil))) (qf 0 rfl (qf 1 rfl (qP 1 rfl (qx qU e38 h24) qh))) ?_
 refine au [64] ?_
 exact qm (qG hw12 ((),g40)) (by intro c h;cases h)
end Go.Proofs.YthibchijlpflmaaGreatDoor
