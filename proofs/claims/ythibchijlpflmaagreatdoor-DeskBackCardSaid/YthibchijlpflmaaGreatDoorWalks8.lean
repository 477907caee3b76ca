/- Each Go function of this seat computes what its model says, part 8. -/
import Derived.Test.YthibchijlpflmaaGreatDoorWalks7
open Bool renaming false_or→qqT, true_or→qqU, false_and→qq7, true_and→qrd
namespace Go.Proofs.YthibchijlpflmaaGreatDoor
open Go SX
set_option linter.unusedSimpArgs false
set_option maxHeartbeats 4000000 in
theorem qma {F:Nat}{x1:List (qsO)}{a2:qsP}{c3:Nat}{s3:List (qsP×Nat)}{x4:Int}{x5:Int}{x6:Int}{x7:qsO}{r:(List (qsO)×Int×Int×Int×qsO×Int)}(hm:qiF F x1 x4 x5 x6 x7=some r) :
    Pure Tryz.prog 14 [.agg #[qsR a2 x1 c3,qsQ x4,qsQ x5,qsQ x6],.string (bstr x7)] [SlN eN56 iN56 1 (qsR a2 x1 c3) x1 s3,GF] (qsP×(Nat×List (qsP×Nat))) (fun g=>.tuple #[.agg #[qsR g.1 r.1 g.2.1,qsQ r.2.1,qsQ r.2.2.1,qsQ r.2.2.2.1],.string (bstr r.2.2.2.2.1),qsQ r.2.2.2.2.2]) (fun g=>[RoN eN56 rN56 56 1 (qsR g.1 r.1 g.2.1) r.1 g.2.2 []]) (fun _=>[]):=by
 refine qs Tryz.func14 rfl Tryz.ntmps14 rfl hm (fun w=>?_)
 refine au [118] ?_
 intro g8
 refine au [24,4] ?_
 intro g9
 refine au [5,84,25,7,32,8] ?_
 intro x10 e10 _
 refine au [58] ?_
 refine yj ent22 rfl rfl rfl (fun x11 e11=>qm1 x7 ([10]:qsO) x11 e11) .nil (fun x11 e11=>?_)
 rintro ⟨a12,c13⟩
 refine au [46] ?_
 refine qj (fun ((x16,_):(Int×Unit))=>([(2,qsS g8),(4,qsS g9),(7,qsQ x16),(8,qsR a12 x11 c13)],[⟨g9,28,[.slice none 0 0,qsQ 0,qsQ 0,qsQ 0]⟩,⟨g8,28,[qsR a2 x1 c3,qsQ x4,qsQ x5,qsQ x6]⟩],[Ro eT 9 1 (qsR a12 x11 c13) x11],[SlN eN56 iN56 1 (qsR a2 x1 c3) x1 s3,GF],qd3 F x1 x4 x5 x6 x11 x16)) ?_ ?_
 refine au [48,25,5,3] ?_
 refine qO 4 ((x10:Int) == 0) [(2,qsS g8),(4,qsS g9),(7,qsQ x10),(8,qsR a12 x11 c13),(25,.bool (((x10:Int) == 0) && (decide (100<(x11.length:Int)))))] (fun h0=>?_) (fun h0=>?_) ?_
 refine qc (os:=_) rfl (qA (k:=21) rfl h0 ?_)
 refine au [3,24,6,25,0,24,7] ?_
 refine qa (d:=25) (v:=.bool (((x10:Int) == 0) && (decide (100<(x11.length:Int))))) rfl (by rw[h0];simp only[qrd]) ?_
 exact az [51]
 refine qc (os:=_) rfl (qz (k:=21) rfl h0 ?_)
 refine au [61,7,24,9] ?_
 refine qa (d:=25) (v:=.bool (((x10:Int) == 0) && (decide (100<(x11.length:Int))))) rfl (by rw[h0];simp only[qq7]) ?_
 exact az [51]
 refine qc (os:=_) rfl ?_
 refine av [50] ?_ ?_
 intro _
 refine au [4,5,0] ?_
 exact qb ((2:Int),())
 intro _
 refine au [11] ?_
 exact qb (x10,())
 rintro ⟨x16,_⟩
 try dsimp only
 refine av [1,48,70] ?_ ?_
 intro _
 refine au [47] ?_
 refine qq (cells:=[.slice none 0 0,qsQ 0,qsQ 0,qsQ 0]) rfl st28 rfl (by kernel_rfl) rfl ?_
 refine au [3,20,5,60,26,15] ?_
 exact qS (none,(0,([]:List (qsP×Nat)))) (resL (rs:=[.cell 4 28,.tmp 5,.tmp 6]) rfl (.cell (i:=0) rfl tf28 rfl rfl (by simp) rfl (.tmp rfl (.tmp rfl ResOk.nil))) rfl) (fun h=>by subst h;exact (.cons 0 rfl .nil))
 intro _
 refine au [115,25,7,37,3] ?_
 rintro x18 e18 ⟨a19,c20⟩
 refine au [25,4,45,47,24,4] ?_
 intro g21
 refine au [45] ?_
 refine qj (fun (((x0,x2,x3,x8,x9),(g0,a0,c0,a1,c1)):((qsO×List (qsO)×Int×Int×Int)×(Bool×qsP×Nat×qsP×(Nat×List (qsP×Nat)))))=>([(2,qsS g8),(4,qsS g9),(9,qsS g21)],[⟨g21,48,[(bself g21 g0),qsR a0 x0 c0]⟩,⟨g9,28,[.slice none 0 0,qsQ 0,qsQ 0,qsQ 0]⟩,⟨g8,28,[qsR a1 x2 c1.1,qsQ x3,qsQ x8,qsQ x9]⟩],[qsW a0 x0 c0,RoN eN56 rN56 56 1 (qsR a1 x2 c1.1) x2 c1.2 []],[GF],qfs F x0 x2 x3 x8 x9)) ?_ ?_
 refine au [72,3,76,30,11] ?_
 refine qB (fun (((x12,x13,x14,x15,x17,x19),(g1,a3,c2,a4,c4)):((Int×qsO×List (qsO)×Int×Int×Int)×(Bool×qsP×Nat×qsP×(Nat×List (qsP×Nat)))))=>([(2,qsS g8),(4,qsS g9),(9,qsS g21),(32,qsR a12 x11 c13),(33,qsQ (x11.length:Int)),(34,qsQ x12)],[⟨g21,48,[(bself g21 g1),qsR a3 x13 c2]⟩,⟨g9,28,[.slice none 0 0,qsQ 0,qsQ 0,qsQ 0]⟩,⟨g8,28,[qsR a4 x14 c4.1,qsQ x15,qsQ x17,qsQ x19]⟩],[Ro eT 9 1 (qsR a12 x11 c13) x11,qsW a3 x13 c2,RoN eN56 rN56 56 1 (qsR a4 x14 c4.1) x14 c4.2 []],[GF])) (fun k (s:((Int×qsO×List (qsO)×Int×Int×Int)×(Bool×qsP×Nat×qsP×(Nat×List (qsP×Nat)))))=>vt F x11 k s.1) ((0,([]:qsO),x18.1,x18.2.1,x18.2.2.1,x18.2.2.2),(false,none,0,a19,c20)) F ?_
 intro k0
 rintro ⟨⟨x12,x13,x14,x15,x17,x19⟩,⟨g1,a3,c2,a4,c4⟩⟩
 try dsimp only
 refine qH (m':=qfr F x11 (vt F x11 k0) x12 x13 x14 x15 x17 x19) rfl ?_
 refine av [96] ?_ ?_
 intro _
 refine au [57] ?_
 refine qj (fun (((x20,x21,x22,x23,x24),(g2,a5,c5,a6,c6)):((qsO×List (qsO)×Int×Int×Int)×(Bool×qsP×Nat×qsP×(Nat×List (qsP×Nat)))))=>([(2,qsS g8),(4,qsS g9),(9,qsS g21),(32,qsR a12 x11 c13),(33,qsQ (x11.length:Int)),(34,qsQ x12)],[⟨g21,48,[(bself g21 g2),qsR a5 x20 c5]⟩,⟨g9,28,[.slice none 0 0,qsQ 0,qsQ 0,qsQ 0]⟩,⟨g8,28,[qsR a6 x21 c6.1,qsQ x22,qsQ x23,qsQ x24]⟩],[Ro eT 9 1 (qsR a12 x11 c13) x11,qsW a5 x20 c5,RoN eN56 rN56 56 1 (qsR a6 x21 c6.1) x21 c6.2 []],[GF],qcX F (vt F x11 k0) x12 x20 x21 x22 x23 x24)) ?_ ?_
 refine au [14,47,26,3] ?_
 intro x25 e0 g3 h1
 refine z7 (j:=0) (y:=x25) qU rfl rfl tf9 rfl h1 (qo e0).2.2 (fun _=>rfl) rfl rfl ?_
 refine av [85,28,12,50] ?_ ?_
 intro _
 refine au [53,24,13] ?_
 exact qb ((x13,x14,x15,x17,x19),(g1,a3,c2,a4,c4))
 intro _
 refine au [115,26,6,3,37,6] ?_
 rintro x26 e1 ⟨a7,c7⟩
 refine au [93,18,24,4] ?_
 intro g4
 refine au [20,5,46] ?_
 refine qj (fun (((x27,x28,x29,x30,x31),(a8,c8)):((qsO×List (qsO)×Int×Int×Int)×(qsP×(Nat×List (qsP×Nat)))))=>([(2,qsS g8),(4,qsS g9),(9,qsS g21),(13,.string (bstr x27)),(32,qsR a12 x11 c13),(33,qsQ (x11.length:Int)),(34,qsQ x12)],[⟨g21,48,[(bself g21 g1),qsR a3 x13 c2]⟩,⟨g9,28,[.slice none 0 0,qsQ 0,qsQ 0,qsQ 0]⟩,⟨g8,28,[qsR a8 x28 c8.1,qsQ x29,qsQ x30,qsQ x31]⟩],[Ro eT 9 1 (qsR a12 x11 c13) x11,qsW a3 x13 c2,RoN eN56 rN56 56 1 (qsR a8 x28 c8.1) x28 c8.2 []],[GF],qcY F (vt F x11 k0) x12 x13 x27 x28 x29 x30 x31)) ?_ ?_
 refine av [48,70] ?_ ?_
 intro _
 refine au [4,3] ?_
 refine yj ent24 rfl rfl rfl (fun x32 e2=>qdv x26.2.2.2.2.2 x32 e2) (.consF 0 rfl .nil) (fun x32 e2 _=>jO (a:=([101,114,114,111,114,32]:qsO)) (b:=x32) rfl Tryz.underlying9 rfl rfl rfl (fun x33 e3=>?_))
 refine au [5,0] ?_
 exact qb ((x33,x14,x15,x17,x19),(a4,c4))
 intro _
 refine au [4,24,10,28,15,0] ?_
 exact qb ((x26.2.2.2.2.1,x26.1,x26.2.1,x26.2.2.1,x26.2.2.2.1),(a7,c7))
 rintro ⟨⟨x27,x28,x29,x30,x31⟩,⟨a8,c8⟩⟩
 try dsimp only
 refine au [4,3] ?_
 refine jO (a:=x27) (b:=([10]:qsO)) rfl Tryz.underlying9 rfl rfl rfl (fun x34 e4=>qaP ent25 rfl rfl rfl (fun x35 e5=>qp1 g21 g1 x13 a3 c2 x34 x35 e5) (.cons 0 rfl .nil) (.cons 1 rfl .nil) .nil (fun x35 e5=>?_))
 rintro ⟨a9,c9⟩
 refine au [0,24,2] ?_
 exact qb ((x35,x28,x29,x30,x31),(true,a9,c9,a8,c8))
 rintro ⟨⟨x20,x21,x22,x23,x24⟩,⟨g2,a5,c5,a6,c6⟩⟩
 try dsimp only
 refine au [98] ?_
 exact qr ((iadd .i64 x12 1,x20,x21,x22,x23,x24),(g2,a5,c5,a6,c6))
 intro _
 refine au [73] ?_
 exact qb ((x13,x14,x15,x17,x19),(g1,a3,c2,a4,c4))
 rintro ⟨⟨x0,x2,x3,x8,x9⟩,⟨g0,a0,c0,a1,c1⟩⟩
 try dsimp only
 refine au [1] ?_
 refine qt mixed [] [⟨g8,28,[.slice a1 x2.length c1.1,qsQ x3,qsQ x8,qsQ x9]⟩] [GF] (.cons 2 rfl .nil) (qf 0 rfl qh) 5 rfl (qN 0 (.agg #[.slice a1 x2.length c1.1,qsQ x3,qsQ x8,qsQ x9]) rfl rfl rfl (qM (i:=0) rfl tf28 rfl rfl (by simp) rfl) ?_)
 refine au [13,1] ?_
 refine qaP ent26 rfl rfl rfl (fun x36 e6=>qpf g21 g0 x0 a0 c0 x36 e6) (.cons 0 rfl .nil) (.cons 0 rfl .nil) .nil (fun x36 e6 _=>?_)
 refine au [0,26,12,13,2,86,26,12,6,3,6,4,16] ?_
 refine qm ?_ (by intro c h;cases h)
 refine au [2,8] ?_
 exact qS (a1,c1) (resL (rs:=[.cell 4 28,.tmp 5,.tmp 6]) rfl (.cell (i:=0) rfl tf28 rfl rfl (by simp) rfl (.tmp rfl (.tmp rfl ResOk.nil))) rfl) (fun h=>by subst h;exact (.cons 0 rfl .nil))
set_option maxHeartbeats 4000000 in
set_option maxRecDepth 100000 in
theorem qi9 {F:Nat}  {r:Bool}(hm:qbQ F =some r) :
    Pure Tryz.prog 10 [] [GF] Unit (fun _=>.bool r) (fun _=>[]) (fun _=>[]):=by
 refine qs Tryz.func10 rfl Tryz.ntmps10 rfl hm (fun w=>qoD ?_)
 refine au [47,84] ?_
 refine qq (cells:=[qsQ 2,qsQ 3,qsQ 1]) rfl st26 rfl (by kernel_rfl) rfl (qq (cells:=[.slice none 0 0,qsQ 2,qsQ 3,qsQ 1]) rfl st28 rfl (by kernel_rfl) rfl ?_)
 refine au [37,7] ?_
 refine qk qma ?_
 rintro x1 e1 ⟨a2,c3⟩
 refine au [93,18,24,4] ?_
 intro g4
 refine au [20,5,58,25,5,3] ?_
 refine qO 3 ((x1.2.2.2.2.2:Int) == 0) [(1,qsS g4),(16,.bool (((x1.2.2.2.2.2:Int) == 0) && (bstr x1.2.2.2.2.1 == bstr ([111,107,10,111,107,10,111,107,10,111,107,10,101,114,114,111,114,32,54,10,49,10,50,10,110,111,110,101,10,49,32,50,32,48,10,48,10,110,111,110,101,10,50,10,49,10,111,107,10,48,32,49,32,50,32,51,10,101,114,114,111,114,32,53,10,101,114,114,111,114,32,51,10,101,114,114,111,114,32,49,10,101,114,114,111,114,32,51,10,50,48,10]:qsO))))] (fun h5=>?_) (fun h5=>?_) ?_
 refine qc (os:=_) rfl (qA (k:=13) rfl h5 ?_)
 refine au [3,28,12,24,7] ?_
 refine qa (d:=16) (v:=.bool (((x1.2.2.2.2.2:Int) == 0) && (bstr x1.2.2.2.2.1 == bstr ([111,107,10,111,107,10,111,107,10,111,107,10,101,114,114,111,114,32,54,10,49,10,50,10,110,111,110,101,10,49,32,50,32,48,10,48,10,110,111,110,101,10,50,10,49,10,111,107,10,48,32,49,32,50,32,51,10,101,114,114,111,114,32,53,10,101,114,114,111,114,32,51,10,101,114,114,111,114,32,49,10,101,114,114,111,114,32,51,10,50,48,10]:qsO)))) rfl (by rw[h5];simp only[qrd] <;> rfl) ?_
 exact az [51]
 refine qc (os:=_) rfl (qz (k:=13) rfl h5 ?_)
 refine au [61,24,9] ?_
 refine qa (d:=16) (v:=.bool (((x1.2.2.2.2.2:Int) == 0) && (bstr x1.2.2.2.2.1 == bstr ([111,107,10,111,107,10,111,107,10,111,107,10,101,114,114,111,114,32,54,10,49,10,50,10,110,111,110,101,10,49,32,50,32,48,10,48,10,110,111,110,101,10,50,10,49,10,111,107,10,48,32,49,32,50,32,51,10,101,114,114,111,114,32,53,10,101,114,114,111,114,32,51,10,101,114,114,111,114,32,49,10,101,114,114,111,114,32,51,10,50,48,10]:qsO)))) rfl (by rw[h5];simp only[qq7] <;> rfl) ?_
 exact az [51]
 refine qc (os:=_) rfl ?_
 refine au [3] ?_
 refine qO 6 (((x1.2.2.2.2.2:Int) == 0) && (bstr x1.2.2.2.2.1 == bstr ([111,107,10,111,107,10,111,107,10,111,107,10,101,114,114,111,114,32,54,10,49,10,50,10,110,111,110,101,10,49,32,50,32,48,10,48,10,110,111,110,101,10,50,10,49,10,111,107,10,48,32,49,32,50,32,51,10,101,114,114,111,114,32,53,10,101,114,114,111,114,32,51,10,101,114,114,111,114,32,49,10,101,114,114,111,114,32,51,10,50,48,10]:qsO))) [(1,qsS g4),(23,.bool ((((x1.2.2.2.2.2:Int) == 0) && (bstr x1.2.2.2.2.1 == bstr ([111,107,10,111,107,10,111,107,10,111,107,10,101,114,114,111,114,32,54,10,49,10,50,10,110,111,110,101,10,49,32,50,32,48,10,48,10,110,111,110,101,10,50,10,49,10,111,107,10,48,32,49,32,50,32,51,10,101,114,114,111,114,32,53,10,101,114,114,111,114,32,51,10,101,114,114,111,114,32,49,10,101,114,114,111,114,32,51,10,50,48,10]:qsO))) && (((x1.1.length:Int):Int) == 4)))] (fun h6=>?_) (fun h6=>?_) ?_
 refine qc (os:=_) rfl (qA (k:=17) rfl h6 ?_)
 refine au [9,78,24,6,25,5,24,7] ?_
 refine qa (d:=23) (v:=.bool ((((x1.2.2.2.2.2:Int) == 0) && (bstr x1.2.2.2.2.1 == bstr ([111,107,10,111,107,10,111,107,10,111,107,10,101,114,114,111,114,32,54,10,49,10,50,10,110,111,110,101,10,49,32,50,32,48,10,48,10,110,111,110,101,10,50,10,49,10,111,107,10,48,32,49,32,50,32,51,10,101,114,114,111,114,32,53,10,101,114,114,111,114,32,51,10,101,114,114,111,114,32,49,10,101,114,114,111,114,32,51,10,50,48,10]:qsO))) && (((x1.1.length:Int):Int) == 4))) rfl (by rw[h6];simp only[qrd] <;> rfl) ?_
 exact az [51]
 refine qc (os:=_) rfl (qz (k:=17) rfl h6 ?_)
 refine au [65,7,24,9] ?_
 refine qa (d:=23) (v:=.bool ((((x1.2.2.2.2.2:Int) == 0) && (bstr x1.2.2.2.2.1 == bstr ([111,107,10,111,107,10,111,107,10,111,107,10,101,114,114,111,114,32,54,10,49,10,50,10,110,111,110,101,10,49,32,50,32,48,10,48,10,110,111,110,101,10,50,10,49,10,111,107,10,48,32,49,32,50,32,51,10,101,114,114,111,114,32,53,10,101,114,114,111,114,32,51,10,101,114,114,111,114,32,49,10,101,114,114,111,114,32,51,10,50,48,10]:qsO))) && (((x1.1.length:Int):Int) == 4))) rfl (by rw[h6];simp only[qq7] <;> rfl) ?_
 exact az [51]
 refine qc (os:=_) rfl ?_
 refine au [3] ?_
 refine zp 4 (fun ((x9,_):(Bool×Unit))=>([(28,.bool x9)],[],[],[GF],qbw F x9)) ?_ ?_
 refine qc (os:=_) rfl ?_
 refine av [25,14] ?_ ?_
 intro h7
 refine qA (k:=24) rfl h7 ?_
 refine au [24,10,32,8] ?_
 intro x10 e10 _
 refine au [25,5,106] ?_
 exact qb (((x10:Int) == 0),())
 intro h7
 refine qz (k:=24) rfl h7 ?_
 refine au [61,7,109] ?_
 exact qb (false,())
 rintro ⟨x9,_⟩
 try dsimp only
 refine qc (os:=_) rfl ?_
 exact az [68]
theorem qnu {F:Nat}{x1:List (qsO)}{a2:qsP}{c3:Nat}{s3:List (qsP×Nat)}{x4:Int}{x5:Int}{x6:Int}{x7:qsO}{r:(List (qsO)×Int×Int×Int×qsO×Int)}(hm:vV F x1 x4 x5 x6 x7=some r) :
    Pure Tryz.prog 11 [.agg #[qsR a2 x1 c3,qsQ x4,qsQ x5,qsQ x6],.string (bstr x7)] [SlN eN56 iN56 1 (qsR a2 x1 c3) x1 s3,GF] (qsP×(Nat×List (qsP×Nat))) (fun g=>.tuple #[.agg #[qsR g.1 r.1 g.2.1,qsQ r.2.1,qsQ r.2.2.1,qsQ r.2.2.2.1],.string (bstr r.2.2.2.2.1),qsQ r.2.2.2.2.2]) (fun g=>[RoN eN56 rN56 56 1 (qsR g.1 r.1 g.2.1) r.1 g.2.2 []]) (fun _=>[]):=by
 refine qs Tryz.func11 rfl Tryz.ntmps11 rfl hm (fun w=>?_)
 refine au [118] ?_
 intro g8
 refine au [24,4] ?_
 intro g9
 refine au [5,71,47,25,7,32,8] ?_
 intro x12 e12 _
 refine av [58,70] ?_ ?_
 intro _
 refine au [47] ?_
 refine qq (cells:=[.slice none 0 0,qsQ 0,qsQ 0,qsQ 0]) rfl st28 rfl (by kernel_rfl) rfl ?_
 refine au [3,20,5,60,26,15] ?_
 exact qS (none,(0,([]:List (qsP×Nat)))) (resL (rs:=[.cell 4 28,.tmp 5,.tmp 6]) rfl (.cell (i:=0) rfl tf28 rfl rfl (by simp) rfl (.tmp rfl (.tmp rfl ResOk.nil))) rfl) (fun h=>by subst h;exact (.cons 0 rfl .nil))
 intro _
 refine au [115,25,7,3,37,6] ?_
 rintro x13 e13 ⟨a14,c15⟩
 refine au [66,18,20,5,49] ?_
 exact qS (a14,c15) (resL (rs:=[.cell 4 28,.tmp 5,.tmp 6]) rfl (.cell (i:=0) rfl tf28 rfl rfl (by simp) rfl (.tmp rfl (.tmp rfl ResOk.nil))) rfl) (fun h=>by subst h;exact (.cons 0 rfl .nil))
theorem qk4 {F:Nat}{x1:Int}{r:qsO}(hm:qb8 F x1=some r) :
    Pure Tryz.prog 12 [qsQ x1] [] Unit (fun _=>.string (bstr r)) (fun _=>[]) (fun _=>[]):=by
 refine qs Tryz.func12 rfl Tryz.ntmps12 rfl hm (fun w=>?_)
 refine au [59,84,46,14] ?_
 refine yv (fun (((x6,x7),_):((Int×qsO)×Unit))=>[(0,qsQ x6),(3,.string (bstr x7))]) (fun (((x6,x7),_):((Int×qsO)×Unit))=>[]) (fun (((x6,x7),_):((Int×qsO)×Unit))=>[]) (fun (((x6,x7),_):((Int×qsO)×Unit))=>[]) (fun k (s:((Int×qsO)×Unit))=>yH F k s.1) ((x1,([]:qsO)),()) F ?_
 intro k12
 rintro ⟨⟨x6,x7⟩,_⟩
 try dsimp only
 refine qH (m':=yG F (yH F k12) x6 x7) rfl ?_
 refine au [14,48,31,8,23,25,11] ?_
 refine qV (vs:=[.int .u8 (iconv .u8 (iadd .i64 48 (irem x6 10)))]) (ys:=([iconv .u8 (iadd .i64 48 (irem x6 10))]:qsO)) (qu .u8) (by decide) rfl Tryz.underlying41 tf5 rfl rfl rfl rfl rfl (by decide) (fun a13 c14=>?_)
 refine au [32,1] ?_
 refine qnQ (j:=0) rfl UnF.u UnF.u UnF.u rfl rfl rfl ?_
 refine au [3] ?_
 refine jO (a:=([iconv .u8 (iadd .i64 48 (irem x6 10))]:qsO)) (b:=x7) rfl Tryz.underlying9 rfl rfl rfl (fun x15 e15=>?_)
 refine av [58,30,8,58,112] ?_ ?_
 intro _
 exact az [48,49,52,24,5,24,0]
 intro _
 refine au [11,24,2] ?_
 exact qr ((iquo .i64 x6 10,x15),())
set_option maxHeartbeats 4000000 in
theorem qj8 {F:Nat}{x1:qsO}{a2:qsP}{c3:Nat}{x4:qsO}{a5:qsP}{c6:Nat}{r:Bool}(hm:qcL F x1 x4=some r) :
    Pure Tryz.prog 77 [qsR a2 x1 c3,qsR a5 x4 c6] [qsT a2 x1 c3,qsT a5 x4 c6] Unit (fun _=>.bool r) (fun _=>[]) (fun _=>[]):=by
 refine qs Tryz.func77 rfl Tryz.ntmps77 rfl hm (fun w=>?_)
 refine av [56,71,72,3,24,6,70] ?_ ?_
 intro _
 exact az [47,77]
 intro _
 refine au [57] ?_
 refine qj (fun ((_,_):(Unit×Unit))=>([],[],[],[],qeP F)) ?_ ?_
 refine au [47,46,14] ?_
 refine qB (fun ((x0,_):(Int×Unit))=>([(0,qsR a2 x1 c3),(1,qsR a5 x4 c6),(5,qsQ x0)],[],[],[qsT a2 x1 c3,qsT a5 x4 c6])) (fun k (s:(Int×Unit))=>yT F x1 x4 k s.1) (0,()) F ?_
 intro k0
 rintro ⟨x0,_⟩
 try dsimp only
 refine qH (m':=qab F x1 x4 (yT F x1 x4 k0) x0) rfl ?_
 refine av [1,87,24,6,91] ?_ ?_
 intro _
 refine au [83,1,29,11] ?_
 intro x2 e0 b0 o0 h0
 replace h0:a2=some ⟨b0,o0,none⟩:=h0
 refine au [29,0] ?_
 intro x3 e1 b1 o1 h1
 replace h1:a5=some ⟨b1,o1,none⟩:=h1
 refine qt mixed [] [] [qC b1 (o1+x0.toNat*1) ((eI .i64) x3),qC b0 (o0+x0.toNat*1) ((eI .i64) x2),qsT a2 x1 c3,qsT a5 x4 c6] .nil (qf 0 rfl (qf 1 rfl (qf 2 rfl (qf 3 rfl qh)))) 9 rfl ?_
 refine au [69] ?_
 refine qg (d:=17) (v:=qsR (some ⟨b0,o0,none⟩) x1 c3) rfl (by simp only[qsR,h0] <;> rfl) (qe 2 (.pointer (some ⟨b0,(o0+x0.toNat*1),none⟩)) rfl rfl rfl (k8 Tryz.underlying56 tf3 rfl rfl (qo e0).1 (zf e0)) (qg (d:=17) (v:=qsR a2 x1 c3) rfl (by simp only[qsR,h0] <;> rfl) (qJ 3 (qsQ x2) [] rfl rfl rfl (q7 (j:=1) rfl tf3 rfl rfl (fun _=>rfl) rfl) ?_)))
 refine au [6,4,6,5] ?_
 refine qg (d:=21) (v:=qsR (some ⟨b1,o1,none⟩) x4 c6) rfl (by simp only[qsR,h1] <;> rfl) (qe 6 (.pointer (some ⟨b1,(o1+x0.toNat*1),none⟩)) rfl rfl rfl (k8 Tryz.underlying56 tf3 rfl rfl (qo e1).1 (zf e1)) (qg (d:=21) (v:=qsR a5 x4 c6) rfl (by simp only[qsR,h1] <;> rfl) (qJ 7 (qsQ x3) [] rfl rfl rfl (q7 (j:=0) rfl tf3 rfl rfl (fun _=>rfl) rfl) ?_)))
 refine au [6,8,16] ?_
 refine qm ?_ (by intro c h;cases h)
 refine av [2,10] ?_ ?_
 intro _
 exact az [47,49,92,108]
 intro _
 refine au [11,63,4,3,23,5,0] ?_
 exact qr (iadd .i64 x0 1,())
 intro _
 exact az [73,26,8]
 rintro ⟨_,_⟩
 try dsimp only
 exact az [47,68]
set_option maxHeartbeats 4000000 in
theorem qjb {F:Nat}{x1:List (qsO)}{a2:qsP}{c3:Nat}{s3:List (qsP×Nat)}{x4:List (qsO)}{a5:qsP}{c6:Nat}{s6:List (qsP×Nat)}{r:Bool}(hm:qbS F x1 x4=some r) :
    Pure Tryz.prog 49 [qsR a2 x1 c3,qsR a5 x4 c6] [SlN eN56 iN56 1 (qsR a2 x1 c3) x1 s3,SlN eN56 iN56 1 (qsR a5 x4 c6) x4 s6] Unit (fun _=>.bool r) (fun _=>[]) (fun _=>[]):=by
 refine qs Tryz.func49 rfl Tryz.ntmps49 rfl hm (fun w=>?_)
 refine av [56,71,72,3,24,6,70] ?_ ?_
 intro _
 exact az [47,77]
 intro _
 refine au [57] ?_
 refine qj (fun ((_,_):(Unit×Unit))=>([],[],[],[],qek F)) ?_ ?_
 refine au [47,46,14] ?_
 refine qB (fun ((x0,_):(Int×Unit))=>([(0,qsR a2 x1 c3),(1,qsR a5 x4 c6),(5,qsQ x0)],[],[],[SlN eN56 iN56 1 (qsR a2 x1 c3) x1 s3,SlN eN56 iN56 1 (qsR a5 x4 c6) x4 s6])) (fun k (s:(Int×Unit))=>yE F x1 x4 k s.1) (0,()) F ?_
 intro k0
 rintro ⟨x0,_⟩
 try dsimp only
 refine qH (m':=jQ F x1 x4 (yE F x1 x4 k0) x0) rfl ?_
 refine av [1,87,24,6,91] ?_ ?_
 intro _
 refine au [83,1] ?_
 refine qlT (j:=0) qy (by decide) rfl ?_
 intro x2 e0 g0 b0 o0 h0
 replace h0:a2=some ⟨b0,o0,none⟩:=h0
 refine qlT (j:=3) qy (by decide) rfl ?_
 intro x3 e1 g1 b1 o1 h1
 replace h1:a5=some ⟨b1,o1,none⟩:=h1
 refine qt mixed [] [] [qC b1 (o1+x0.toNat*1) (eN56 (x3,g1)),qsT g1.1 x3 g1.2,qC b0 (o0+x0.toNat*1) (eN56 (x2,g0)),qsT g0.1 x2 g0.2,SlN eN56 iN56 1 (qsR a2 x1 c3) x1 s3,SlN eN56 iN56 1 (qsR a5 x4 c6) x4 s6] .nil (qf 0 rfl (qf 1 rfl (qf 2 rfl (qf 3 rfl (qf 4 rfl (qf 5 rfl qh)))))) 10 rfl ?_
 refine au [69] ?_
 refine qg (d:=17) (v:=qsR (some ⟨b0,o0,none⟩) x1 c3) rfl (by simp only[qsR,h0] <;> rfl) (qe 2 (.pointer (some ⟨b0,(o0+x0.toNat*1),none⟩)) rfl rfl rfl (k8 Tryz.underlying22 tf56 rfl rfl (qo e0).1 (zf e0)) (qg (d:=17) (v:=qsR a2 x1 c3) rfl (by simp only[qsR,h0] <;> rfl) (qJ 3 (qsR g0.1 x2 g0.2) [] rfl rfl rfl (q7 (j:=2) rfl tf56 rfl rfl (fun _=>rfl) rfl) ?_)))
 refine au [6,4,6,5] ?_
 refine qg (d:=21) (v:=qsR (some ⟨b1,o1,none⟩) x4 c6) rfl (by simp only[qsR,h1] <;> rfl) (qe 6 (.pointer (some ⟨b1,(o1+x0.toNat*1),none⟩)) rfl rfl rfl (k8 Tryz.underlying22 tf56 rfl rfl (qo e1).1 (zf e1)) (qg (d:=21) (v:=qsR a5 x4 c6) rfl (by simp only[qsR,h1] <;> rfl) (qJ 7 (qsR g1.1 x3 g1.2) [] rfl rfl rfl (q7 (j:=0) rfl tf56 rfl rfl (fun _=>rfl) rfl) ?_)))
 refine au [13,8] ?_
 refine qk qj8 ?_
 intro x5 e2 _
 refine au [0] ?_
 refine qi .nil (qf 0 rfl (qf 1 rfl (qf 2 rfl (qf 3 rfl (qf 4 rfl (qf 5 rfl qh)))))) ?_
 refine au [6,9,16] ?_
 refine qm ?_ (by intro c h;cases h)
 refine av [2,10] ?_ ?_
 intro _
 exact az [47,49,92,108]
 intro _
 refine au [11,63,4,3,23,5,0] ?_
 exact qr (iadd .i64 x0 1,())
 intro _
 exact az [73,26,8]
 rintro ⟨_,_⟩
 try dsimp only
 exact az [47,68]
theorem qja {F:Nat}{x1:List (qsO)}{a2:qsP}{c3:Nat}{s3:List (qsP×Nat)}{x4:List (qsO)}{a5:qsP}{c6:Nat}{s6:List (qsP×Nat)}{r:Bool}(hm:qbR F x1 x4=some r) :
    Pure Tryz.prog 28 [.agg #[qsR a2 x1 c3],.agg #[qsR a5 x4 c6]] [SlN eN56 iN56 1 (qsR a2 x1 c3) x1 s3,SlN eN56 iN56 1 (qsR a5 x4 c6) x4 s6] Unit (fun _=>.bool r) (fun _=>[]) (fun _=>[]):=by
 refine qs Tryz.func28 rfl Tryz.ntmps28 rfl hm (fun w=>?_)
 refine au [118] ?_
 intro g7
 refine au [22] ?_
 intro g8
 refine au [84,89,78] ?_
 refine qk qjb ?_
 intro x9 e9 _
 exact az [68]
theorem qj7 {F:Nat}{x1:List (qsO)}{a2:qsP}{c3:Nat}{s3:List (qsP×Nat)}{x4:Int}{x5:Int}{x6:Int}{x7:List (qsO)}{a8:qsP}{c9:Nat}{s9:List (qsP×Nat)}{x10:Int}{x11:Int}{x12:Int}{r:Bool}(hm:vG F x1 x4 x5 x6 x7 x10 x11 x12=some r) :
    Pure Tryz.prog 16 [.agg #[qsR a2 x1 c3,qsQ x4,qsQ x5,qsQ x6],.agg #[qsR a8 x7 c9,qsQ x10,qsQ x11,qsQ x12]] [SlN eN56 iN56 1 (qsR a2 x1 c3) x1 s3,SlN eN56 iN56 1 (qsR a8 x7 c9) x7 s9] Unit (fun _=>.bool r) (fun _=>[]) (fun _=>[]):=by
 refine qs Tryz.func16 rfl Tryz.ntmps16 rfl hm (fun w=>?_)
 refine au [118] ?_
 intro g13
 refine au [22] ?_
 intro g14
 refine au [84,9,25,7,110] ?_
 refine qk qja ?_
 intro x15 e15 _
 refine au [3] ?_
 refine qO 6 x15 [(16,.bool (x15 && (((x4:Int) == x10) && (((x5:Int) == x11) && ((x6:Int) == x12)))))] (fun h16=>?_) (fun h16=>?_) ?_
 refine qc (os:=_) rfl (qA (k:=10) rfl h16 ?_)
 refine au [9,25,7,110] ?_
 refine qoS rfl rfl rfl inferInstance rfl ?_
 refine au [24,7] ?_
 refine qa (d:=16) (v:=.bool (x15 && (((x4:Int) == x10) && (((x5:Int) == x11) && ((x6:Int) == x12))))) rfl (by rw[h16];simp only[qrd]) ?_
 exact az [51]
 refine qc (os:=_) rfl (qz (k:=10) rfl h16 ?_)
 refine au [65,7,24,9] ?_
 refine qa (d:=16) (v:=.bool (x15 && (((x4:Int) == x10) && (((x5:Int) == x11) && ((x6:Int) == x12))))) rfl (by rw[h16];simp only[qq7]) ?_
 exact az [51]
 refine qc (os:=_) rfl ?_
 exact az [68]
set_option maxHeartbeats 4000000 in
theorem qj6 (F:Nat)(x1:List (qsO))(a2:qsP)(c3:(Nat×List (qsP×Nat)))(x4:Int)(x5:Int)(x6:Int)(x7:Int)(x8:Int)(r:Bool)(hm:qeA F x1 x4 x5 x6 x7 x8=some r) :
    Pure Tryz.prog 8 [.agg #[qsR a2 x1 c3.1,qsQ x4,qsQ x5,qsQ x6],qsQ x7,qsQ x8] [SlN eN56 iN56 1 (qsR a2 x1 c3.1) x1 c3.2,GF] Unit (fun _=>.bool r) (fun _=>[]) (fun _=>[]):=by
 refine qs Tryz.func8 rfl Tryz.ntmps8 rfl hm (fun w=>?_)
 refine au [111,22] ?_
 intro g9
 refine au [71,47] ?_
 refine qk qi9 ?_
 intro x12 e12 _
 refine av [25,8,50] ?_ ?_
 intro _
 exact az [47,77]
 intro _
 refine au [82,48,24,3,3] ?_
 refine qO 3 (decide (x7<0)) [(1,qsQ x7),(2,qsQ x8),(3,qsS g9),(30,.bool ((decide (x7<0)) || (decide (200<x7))))] (fun h17=>?_) (fun h17=>?_) ?_
 refine qc (os:=_) rfl (qA (k:=27) rfl h17 ?_)
 refine au [61,24,7] ?_
 refine qa (d:=30) (v:=.bool ((decide (x7<0)) || (decide (200<x7)))) rfl (by rw[h17];simp only[qqU]) ?_
 exact az [51]
 refine qc (os:=_) rfl (qz (k:=27) rfl h17 ?_)
 refine au [3,81] ?_
 refine qa (d:=30) (v:=.bool ((decide (x7<0)) || (decide (200<x7)))) rfl (by rw[h17];simp only[qqT]) ?_
 exact az [51]
 refine qc (os:=_) rfl ?_
 refine au [3] ?_
 refine qO 3 ((decide (x7<0)) || (decide (200<x7))) [(1,qsQ x7),(2,qsQ x8),(3,qsS g9),(34,.bool (((decide (x7<0)) || (decide (200<x7))) || (decide (x8<0))))] (fun h18=>?_) (fun h18=>?_) ?_
 refine qc (os:=_) rfl (qA (k:=31) rfl h18 ?_)
 refine au [61,24,7] ?_
 refine qa (d:=34) (v:=.bool (((decide (x7<0)) || (decide (200<x7))) || (decide (x8<0)))) rfl (by rw[h18];simp only[qqU]) ?_
 exact az [51]
 refine qc (os:=_) rfl (qz (k:=31) rfl h18 ?_)
 refine au [3,24,3,24,9] ?_
 refine qa (d:=34) (v:=.bool (((decide (x7<0)) || (decide (200<x7))) || (decide (x8<0)))) rfl (by rw[h18];simp only[qqT]) ?_
 exact az [51]
 refine qc (os:=_) rfl ?_
 refine au [3] ?_
 refine qO 3 (((decide (x7<0)) || (decide (200<x7))) || (decide (x8<0))) [(1,qsQ x7),(2,qsQ x8),(3,qsS g9),(38,.bool ((((decide (x7<0)) || (decide (200<x7))) || (decide (x8<0))) || (decide (200<x8))))] (fun h19=>?_) (fun h19=>?_) ?_
 refine qc (os:=_) rfl (qA (k:=35) rfl h19 ?_)
 refine au [61,24,7] ?_
 refine qa (d:=38) (v:=.bool ((((decide (x7<0)) || (decide (200<x7))) || (decide (x8<0))) || (decide (200<x8)))) rfl (by rw[h19];simp only[qqU]) ?_
 exact az [51]
 refine qc (os:=_) rfl (qz (k:=35) rfl h19 ?_)
 refine au [3,81] ?_
 refine qa (d:=38) (v:=.bool ((((decide (x7<0)) || (decide (200<x7))) || (decide (x8<0))) || (decide (200<x8)))) rfl (by rw[h19];simp only[qqT]) ?_
 exact az [51]
 refine qc (os:=_) rfl ?_
 refine av [50] ?_ ?_
 intro _
 exact az [47,77]
 intro _
 refine au [57,48,37,8] ?_
 intro x20 e20 _
 refine jO (a:=([32]:qsO)) (b:=x20) rfl Tryz.underlying9 rfl rfl rfl (fun x21 e21=>jO (a:=x21) (b:=([32]:qsO)) rfl Tryz.underlying9 rfl rfl rfl (fun x22 e22=>?_))
 refine au [3,37,8] ?_
 intro x23 e23 _
 refine jO (a:=x22) (b:=x23) rfl Tryz.underlying9 rfl rfl rfl (fun x24 e24=>?_)
 refine au [46,74,3] ?_
 refine jO (a:=([97,114,99]:qsO)) (b:=x24) rfl Tryz.underlying9 rfl rfl rfl (fun x25 e25=>?_)
 refine au [30,1] ?_
 rintro x26 e26 ⟨a27,c28⟩
 refine au [93,18,24,4] ?_
 intro g29
 refine av [20,5,85,70] ?_ ?_
 intro _
 refine av [1,48,70] ?_ ?_
 intro _
 refine au [74] ?_
 refine qq (cells:=[.slice none 0 0,qsQ 0,qsQ 0,qsQ 0]) rfl st28 rfl (by kernel_rfl) rfl ?_
 refine au [37,7,32,9] ?_
 intro x54 e54 _
 exact az [60,12,24,0]
 intro _
 refine au [115,25,7,3] ?_
 refine jO (a:=([100,114,111,112]:qsO)) (b:=x24) rfl Tryz.underlying9 rfl rfl rfl (fun x55 e55=>?_)
 refine au [30,1] ?_
 rintro x56 e56 ⟨a57,c58⟩
 refine au [93,18,24,4] ?_
 intro g59
 refine au [20,5,46,74,3] ?_
 refine jO (a:=([97,114,99]:qsO)) (b:=x24) rfl Tryz.underlying9 rfl rfl rfl (fun x60 e60=>?_)
 refine au [30,1] ?_
 rintro x61 e61 ⟨a62,c63⟩
 refine au [93,18,24,4] ?_
 intro g64
 refine au [20,5,58,25,5,3] ?_
 refine qO 3 ((x56.2.2.2.2.2:Int) == 0) [(3,qsS g9),(14,qsS g64),(15,.string (bstr x61.2.2.2.2.1)),(16,qsQ x61.2.2.2.2.2),(82,.bool (((x56.2.2.2.2.2:Int) == 0) && (bstr x56.2.2.2.2.1 == bstr ([111,107]:qsO))))] (fun h65=>?_) (fun h65=>?_) ?_
 refine qc (os:=_) rfl (qA (k:=79) rfl h65 ?_)
 refine au [3,28,12,24,7] ?_
 refine qa (d:=82) (v:=.bool (((x56.2.2.2.2.2:Int) == 0) && (bstr x56.2.2.2.2.1 == bstr ([111,107]:qsO)))) rfl (by rw[h65];simp only[qrd] <;> rfl) ?_
 exact az [51]
 refine qc (os:=_) rfl (qz (k:=79) rfl h65 ?_)
 refine au [61,24,9] ?_
 refine qa (d:=82) (v:=.bool (((x56.2.2.2.2.2:Int) == 0) && (bstr x56.2.2.2.2.1 == bstr ([111,107]:qsO)))) rfl (by rw[h65];simp only[qq7] <;> rfl) ?_
 exact az [51]
 refine qc (os:=_) rfl ?_
 refine au [3] ?_
 refine qO 3 (((x56.2.2.2.2.2:Int) == 0) && (bstr x56.2.2.2.2.1 == bstr ([111,107]:qsO))) [(3,qsS g9),(14,qsS g64),(15,.string (bstr x61.2.2.2.2.1)),(86,.bool ((((x56.2.2.2.2.2:Int) == 0) && (bstr x56.2.2.2.2.1 == bstr ([111,107]:qsO))) && ((x61.2.2.2.2.2:Int) == 0)))] (fun h66=>?_) (fun h66=>?_) ?_
 refine qc (os:=_) rfl (qA (k:=83) rfl h66 ?_)
 refine au [3,25,5,24,7] ?_
 refine qa (d:=86) (v:=.bool ((((x56.2.2.2.2.2:Int) == 0) && (bstr x56.2.2.2.2.1 == bstr ([111,107]:qsO))) && ((x61.2.2.2.2.2:Int) == 0))) rfl (by rw[h66];simp only[qrd] <;> rfl) ?_
 exact az [51]
 refine qc (os:=_) rfl (qz (k:=83) rfl h66 ?_)
 refine au [61,24,9] ?_
 refine qa (d:=86) (v:=.bool ((((x56.2.2.2.2.2:Int) == 0) && (bstr x56.2.2.2.2.1 == bstr ([111,107]:qsO))) && ((x61.2.2.2.2.2:Int) == 0))) rfl (by rw[h66];simp only[qq7] <;> rfl) ?_
 exact az [51]
 refine qc (os:=_) rfl ?_
 refine au [3] ?_
 refine qO 3 ((((x56.2.2.2.2.2:Int) == 0) && (bstr x56.2.2.2.2.1 == bstr ([111,107]:qsO))) && ((x61.2.2.2.2.2:Int) == 0)) [(3,qsS g9),(14,qsS g64),(90,.bool (((((x56.2.2.2.2.2:Int) == 0) && (bstr x56.2.2.2.2.1 == bstr ([111,107]:qsO))) && ((x61.2.2.2.2.2:Int) == 0)) && (bstr x61.2.2.2.2.1 == bstr ([111,107]:qsO))))] (fun h67=>?_) (fun h67=>?_) ?_
 refine qc (os:=_) rfl (qA (k:=87) rfl h67 ?_)
 refine au [3,28,12,24,7] ?_
 refine qa (d:=90) (v:=.bool (((((x56.2.2.2.2.2:Int) == 0) && (bstr x56.2.2.2.2.1 == bstr ([111,107]:qsO))) && ((x61.2.2.2.2.2:Int) == 0)) && (bstr x61.2.2.2.2.1 == bstr ([111,107]:qsO)))) rfl (by rw[h67];simp only[qrd] <;> rfl) ?_
 exact az [51]
 refine qc (os:=_) rfl (qz (k:=87) rfl h67 ?_)
 refine au [61,24,9] ?_
 refine qa (d:=90) (v:=.bool (((((x56.2.2.2.2.2:Int) == 0) && (bstr x56.2.2.2.2.1 == bstr ([111,107]:qsO))) && ((x61.2.2.2.2.2:Int) == 0)) && (bstr x61.2.2.2.2.1 == bstr ([111,107]:qsO)))) rfl (by rw[h67];simp only[qq7] <;> rfl) ?_
 exact az [51]
 refine qc (os:=_) rfl ?_
 refine au [3] ?_
 refine zp 4 (fun ((x70,_):(Bool×Unit))=>([(95,.bool x70)],[],[],[GF],qcs F x70)) ?_ ?_
 refine qc (os:=_) rfl ?_
 refine av [25,14] ?_ ?_
 intro h68
 refine qA (k:=91) rfl h68 ?_
 refine au [24,10,30,9,32,9] ?_
 intro x71 e71 _
 refine au [106] ?_
 exact qb (x71,())
 intro h68
 refine qz (k:=91) rfl h68 ?_
 refine au [61,7,109] ?_
 exact qb (false,())
 rintro ⟨x70,_⟩
 try dsimp only
 refine qc (os:=_) rfl ?_
 exact az [77]
 intro _
 refine au [57,74,3] ?_
 refine jO (a:=([100,114,111,112]:qsO)) (b:=x24) rfl Tryz.underlying9 rfl rfl rfl (fun x73 e73=>?_)
 refine au [30,1] ?_
 rintro x74 e74 ⟨a75,c76⟩
 refine au [93,18,24,4] ?_
 intro g77
 refine au [20,5,84,25,7,3] ?_
 refine jO (a:=([102,97,114]:qsO)) (b:=x24) rfl Tryz.underlying9 rfl rfl rfl (fun x78 e78=>?_)
 refine au [30,1] ?_
 rintro x79 e79 ⟨a80,c81⟩
 refine au [93,18,24,4] ?_
 intro g82
 refine au [20,5,58,25,5,3] ?_
 refine qO 3 ((x74.2.2.2.2.2:Int) == 0) [(1,qsQ x7),(2,qsQ x8),(3,qsS g9),(17,qsS g77),(21,.string (bstr x79.2.2.2.2.1)),(22,qsQ x79.2.2.2.2.2),(117,.bool (((x74.2.2.2.2.2:Int) == 0) && (bstr x74.2.2.2.2.1 == bstr ([111,107]:qsO))))] (fun h83=>?_) (fun h83=>?_) ?_
 refine qc (os:=_) rfl (qA (k:=114) rfl h83 ?_)
 refine au [3,28,12,24,7] ?_
 refine qa (d:=117) (v:=.bool (((x74.2.2.2.2.2:Int) == 0) && (bstr x74.2.2.2.2.1 == bstr ([111,107]:qsO)))) rfl (by rw[h83];simp only[qrd] <;> rfl) ?_
 exact az [51]
 refine qc (os:=_) rfl (qz (k:=114) rfl h83 ?_)
 refine au [61,24,9] ?_
 refine qa (d:=117) (v:=.bool (((x74.2.2.2.2.2:Int) == 0) && (bstr x74.2.2.2.2.1 == bstr ([111,107]:qsO)))) rfl (by rw[h83];simp only[qq7] <;> rfl) ?_
 exact az [51]
 refine qc (os:=_) rfl ?_
 refine au [3] ?_
 refine zp 4 (fun ((x86,_):(Bool×Unit))=>([(1,qsQ x7),(2,qsQ x8),(21,.string (bstr x79.2.2.2.2.1)),(22,qsQ x79.2.2.2.2.2),(122,.bool x86)],[],[],[GF],j8 F x7 x8 x79 x86)) ?_ ?_
 refine qc (os:=_) rfl ?_
 refine av [25,14] ?_ ?_
 intro h84
 refine qA (k:=118) rfl h84 ?_
 refine au [25,7,30,9,32,9] ?_
 intro x98 e98 _
 refine au [106] ?_
 exact qb (x98,())
 intro h84
 refine qz (k:=118) rfl h84 ?_
 refine au [61,7,109] ?_
 exact qb (false,())
 rintro ⟨x86,_⟩
 try dsimp only
 refine qc (os:=_) rfl ?_
 refine au [3] ?_
 refine qO 3 x86 [(1,qsQ x7),(2,qsQ x8),(21,.string (bstr x79.2.2.2.2.1)),(126,.bool (x86 && ((x79.2.2.2.2.2:Int) == 0)))] (fun h87=>?_) (fun h87=>?_) ?_
 refine qc (os:=_) rfl (qA (k:=123) rfl h87 ?_)
 refine au [3,25,5,24,7] ?_
 refine qa (d:=126) (v:=.bool (x86 && ((x79.2.2.2.2.2:Int) == 0))) rfl (by rw[h87];simp only[qrd]) ?_
 exact az [51]
 refine qc (os:=_) rfl (qz (k:=123) rfl h87 ?_)
 refine au [61,24,9] ?_
 refine qa (d:=126) (v:=.bool (x86 && ((x79.2.2.2.2.2:Int) == 0))) rfl (by rw[h87];simp only[qq7]) ?_
 exact az [51]
 refine qc (os:=_) rfl ?_
 refine au [3] ?_
 refine zp 12 (fun ((x93,_):(Bool×Unit))=>([(139,.bool x93)],[],[],[GF],j9 F x93)) ?_ ?_
 refine qc (os:=_) rfl ?_
 refine av [25,14] ?_ ?_
 intro h88
 refine qA (k:=127) rfl h88 ?_
 refine au [3,28,12,3] ?_
 refine zp 8 (fun ((x96,_):(Bool×Unit))=>([(127,.bool true),(138,.bool x96)],[],[],[GF],qaa F x96)) ?_ ?_
 refine qc (os:=_) rfl ?_
 refine av [25,14] ?_ ?_
 intro h94
 refine qA (k:=130) rfl h94 ?_
 refine au [65,61,7,106] ?_
 exact qb (true,())
 intro h94
 refine qz (k:=130) rfl h94 ?_
 refine au [3,28,12,3] ?_
 refine qO 4 (bstr x79.2.2.2.2.1 == bstr ([48]:qsO)) [(127,.bool true),(130,.bool false),(137,.bool ((bstr x79.2.2.2.2.1 == bstr ([48]:qsO)) && ((x7:Int) == x8)))] (fun h97=>?_) (fun h97=>?_) ?_
 refine qc (os:=_) rfl (qA (k:=133) rfl h97 ?_)
 refine au [3,3,25,5,24,7] ?_
 refine qa (d:=137) (v:=.bool ((bstr x79.2.2.2.2.1 == bstr ([48]:qsO)) && ((x7:Int) == x8))) rfl (by rw[h97];simp only[qrd] <;> rfl) ?_
 exact az [51]
 refine qc (os:=_) rfl (qz (k:=133) rfl h97 ?_)
 refine au [61,7,24,9] ?_
 refine qa (d:=137) (v:=.bool ((bstr x79.2.2.2.2.1 == bstr ([48]:qsO)) && ((x7:Int) == x8))) rfl (by rw[h97];simp only[qq7] <;> rfl) ?_
 exact az [51]
 refine qc (os:=_) rfl ?_
 refine au [109] ?_
 exact qb (((bstr x79.2.2.2.2.1 == bstr ([48]:qsO)) && ((x7:Int) == x8)),())
 rintro ⟨x96,_⟩
 try dsimp only
 refine qc (os:=_) rfl ?_
 refine au [106] ?_
 exact qb (x96,())
 intro h88
 refine qz (k:=127) rfl h88 ?_
 refine au [65,65,61,7,109] ?_
 exact qb (false,())
 rintro ⟨x93,_⟩
 try dsimp only
 refine qc (os:=_) rfl ?_
 exact az [68]
end Go.Proofs.YthibchijlpflmaaGreatDoor
