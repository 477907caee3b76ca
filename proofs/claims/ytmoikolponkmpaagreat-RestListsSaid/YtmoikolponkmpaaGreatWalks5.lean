/- Each Go function of this seat computes what its model says, part 5. -/
import Derived.Test.YtmoikolponkmpaaGreatWalks4
open Bool renaming false_and→qvT, true_and→qvZ, false_or→qv2, true_or→qv4
namespace Go.Proofs.YtmoikolponkmpaaGreat
open Go SX
set_option maxHeartbeats 4000000 in
theorem qks {F:Nat}{x1:List (Int×Int)}{a2:qyp}{c3:Nat}{x4:List (Int×Int)}{a5:qyp}{c6:Nat}{r:Bool}(hm:qdw F x1 x4=some r) :
    Pure Tryz.prog 99 [.slice a2 x1.length c3,.slice a5 x4.length c6] [Sl eS154 2 (.slice a2 x1.length c3) x1,Sl eS154 2 (.slice a5 x4.length c6) x4] Unit (fun _=>.bool r) (fun _=>[]) (fun _=>[]):=by
 refine ql Tryz.func99 rfl Tryz.ntmps99 rfl hm (fun w=>?_)
 refine av [69,93,89,24,6,81] ?_ ?_
 intro _
 exact az [61,99]
 intro _
 refine au [74] ?_
 refine qh (fun ((_,_):(Unit×Unit))=>([],[],[],[],qeZ F)) ?_ ?_
 refine au [61,60,19] ?_
 refine qu (fun ((x0,_):(Int×Unit))=>([(0,.slice a2 x1.length c3),(1,.slice a5 x4.length c6),(5,qyq x0)],[],[],[Sl eS154 2 (.slice a2 x1.length c3) x1,Sl eS154 2 (.slice a5 x4.length c6) x4])) (fun k (s:(Int×Unit))=>y8 F x1 x4 k s.1) (0,()) F ?_
 intro k0
 rintro ⟨x0,_⟩
 try dsimp only
 refine qB (m':=qbt F x1 x4 (y8 F x1 x4 k0) x0) rfl ?_
 refine av [83,126,101] ?_ ?_
 intro _
 refine au [74,3,19,3] ?_
 refine qbo (j:=0) qbn (by decide) rfl ?_
 intro x2 e0 b0 o0 h0
 replace h0:a2=some ⟨b0,o0,none⟩:=h0
 refine qbo (j:=2) qbn (by decide) rfl ?_
 intro x3 e1 b1 o1 h1
 replace h1:a5=some ⟨b1,o1,none⟩:=h1
 refine qy mixed [] [] [qK b1 (o1+x0.toNat*2) (eS154 x3),qK b0 (o0+x0.toNat*2) (eS154 x2),Sl eS154 2 (.slice a2 x1.length c3) x1,Sl eS154 2 (.slice a5 x4.length c6) x4] .nil (qt 0 rfl (qt 1 rfl (qt 2 rfl (qt 3 rfl qw)))) 9 rfl ?_
 refine au [88] ?_
 refine qi (d:=17) (v:=.slice (some ⟨b0,o0,none⟩) x1.length c3) rfl (by rw[h0] <;> rfl) (qm 2 (.pointer (some ⟨b0,(o0+x0.toNat*2),none⟩)) rfl rfl rfl (vI Tryz.underlying41 tf154 rfl rfl (qP e0).1 (yr e0)) (qi (d:=17) (v:=.slice a2 x1.length c3) rfl (by rw[h0] <;> rfl) (qO 3 (.agg #[qyq x2.1,qyq x2.2]) [] rfl rfl rfl (zG (j:=1) rfl tf154 rfl rfl (by simp) rfl) ?_)))
 refine au [115] ?_
 refine qi (d:=21) (v:=.slice (some ⟨b1,o1,none⟩) x4.length c6) rfl (by rw[h1] <;> rfl) (qm 6 (.pointer (some ⟨b1,(o1+x0.toNat*2),none⟩)) rfl rfl rfl (vI Tryz.underlying41 tf154 rfl rfl (qP e1).1 (yr e1)) (qi (d:=21) (v:=.slice a5 x4.length c6) rfl (by rw[h1] <;> rfl) (qO 7 (.agg #[qyq x3.1,qyq x3.2]) [] rfl rfl rfl (zG (j:=0) rfl tf154 rfl rfl (by simp) rfl) (qm 8 (.bool (!(((x2.1:Int) == x3.1) && ((x2.2:Int) == x3.2)))) rfl rfl rfl (qt4 rfl rfl se154) ?_))))
 refine au [24,8] ?_
 refine qx ?_ (by intro c h;cases h)
 refine av [2,11] ?_ ?_
 intro _
 exact az [61,64,129,18]
 intro _
 refine au [13,78,4,1,23,5,0] ?_
 exact qr (iadd .i64 x0 1,())
 intro _
 exact az [87,26,0]
 rintro ⟨_,_⟩
 try dsimp only
 exact az [61,85]
set_option maxHeartbeats 4000000 in
theorem qjc {F:Nat}  {r:Bool}(hm:qcZ F =some r) :
    Pure Tryz.prog 26 [] [] Unit (fun _=>.bool r) (fun _=>[]) (fun _=>[]):=by
 refine ql Tryz.func26 rfl Tryz.ntmps26 rfl hm (fun w=>?_)
 refine au [27,2,61,79] ?_
 refine qn (vs:=[qyq 1,qyq 3,qyq 4,qyq 5,qyq 8,qyq 9]) (ys:=([1,3,4,5,8,9]:qyo)) (qp .i64) (by decide) rfl Tryz.underlying22 tf3 rfl rfl rfl rfl rfl (by decide) (fun a1 c2=>qg (fun h=>qgm F _ _ _ _ _ h) ?_)
 rintro x3 e3 ⟨⟨a4,c5⟩,⟨a6,c7⟩⟩
 refine au [80,10,5,5,75,1,28,2] ?_
 rintro x8 e8 ⟨a9,c10⟩
 refine au [80,5,75] ?_
 refine qg qkF ?_
 intro x11 e11 _
 refine au [80,5,79] ?_
 refine qo (cells:=[qyq 3,qyq 2]) rfl st154 rfl (by kernel_rfl) rfl (qo (cells:=[qyq 5,qyq 1]) rfl st154 rfl (by kernel_rfl) rfl (qn (vs:=[.agg #[qyq 3,qyq 2],.agg #[qyq 5,qyq 1]]) (ys:=([(3,2),(5,1)]:List (Int×Int))) qbn (by decide) rfl Tryz.underlying41 tf154 rfl rfl rfl rfl rfl (by decide) (fun a12 c13=>?_)))
 refine au [26,3,28,2] ?_
 rintro x14 e14 ⟨a15,c16⟩
 refine au [80,5,75] ?_
 refine qn (vs:=[qyq 4]) (ys:=([4]:qyo)) (qp .i64) (by decide) rfl Tryz.underlying22 tf3 rfl rfl rfl rfl rfl (by decide) (fun a17 c18=>?_)
 refine au [28,2] ?_
 rintro x19 e19 ⟨a20,c21⟩
 refine au [80,5,75] ?_
 refine qo (cells:=[qyq 3,qyq 3]) rfl st154 rfl (by kernel_rfl) rfl (qn (vs:=[.agg #[qyq 3,qyq 3]]) (ys:=([(3,3)]:List (Int×Int))) qbn (by decide) rfl Tryz.underlying41 tf154 rfl rfl rfl rfl rfl (by decide) (fun a22 c23=>qg qks ?_))
 intro x24 e24 _
 refine au [1] ?_
 refine qq 4 (fun ((x29,_):(Bool×Unit))=>([(3,qyq x3.2.2),(4,.slice a9 x8.1.length c10),(5,qyq x8.2),(6,qyq x11.1),(7,qyq x11.2),(9,qyq x14.2),(11,qyq x19.2),(50,.bool x29)],[],[Ro (eI .i64) 3 1 (.slice a9 x8.1.length c10) x8.1],[],qaX F x3 x8 x11 x14 x19 x29)) ?_ ?_
 refine qa (os:=_) rfl ?_
 refine av [24,12] ?_ ?_
 intro h25
 refine qf (k:=46) rfl h25 ?_
 refine au [1] ?_
 refine qn (vs:=[qyq 1,qyq 8,qyq 9]) (ys:=([1,8,9]:qyo)) (qp .i64) (by decide) rfl Tryz.underlying22 tf3 rfl rfl rfl rfl rfl (by decide) (fun a44 c45=>?_)
 refine au [26,5] ?_
 intro x46 e46 _
 refine au [16,0] ?_
 exact qb (x46,())
 intro h25
 refine qe (k:=46) rfl h25 ?_
 refine au [66,6,17,0] ?_
 exact qb (false,())
 rintro ⟨x29,_⟩
 try dsimp only
 refine qa (os:=_) rfl ?_
 refine au [1] ?_
 refine qk 3 x29 [(4,.slice a9 x8.1.length c10),(5,qyq x8.2),(6,qyq x11.1),(7,qyq x11.2),(9,qyq x14.2),(11,qyq x19.2),(54,.bool (x29 && ((x3.2.2:Int) == 0)))] (fun h30=>?_) (fun h30=>?_) ?_
 refine qa (os:=_) rfl (qf (k:=51) rfl h30 ?_)
 refine au [1,76] ?_
 refine qc (d:=54) (v:=.bool (x29 && ((x3.2.2:Int) == 0))) rfl (by rw[h30];simp only[qvZ]) ?_
 exact az [68]
 refine qa (os:=_) rfl (qe (k:=51) rfl h30 ?_)
 refine au [90] ?_
 refine qc (d:=54) (v:=.bool (x29 && ((x3.2.2:Int) == 0))) rfl (by rw[h30];simp only[qvT]) ?_
 exact az [68]
 refine qa (os:=_) rfl ?_
 refine au [1] ?_
 refine qq 4 (fun ((x35,_):(Bool×Unit))=>([(5,qyq x8.2),(6,qyq x11.1),(7,qyq x11.2),(9,qyq x14.2),(11,qyq x19.2),(59,.bool x35)],[],[],[],qcE F x8 x11 x14 x19 x35)) ?_ ?_
 refine qa (os:=_) rfl ?_
 refine av [24,12] ?_ ?_
 intro h31
 refine qf (k:=55) rfl h31 ?_
 refine au [1] ?_
 refine qn (vs:=[qyq 1,qyq 3,qyq 4,qyq 5,qyq 8,qyq 9]) (ys:=([1,3,4,5,8,9]:qyo)) (qp .i64) (by decide) rfl Tryz.underlying22 tf3 rfl rfl rfl rfl rfl (by decide) (fun a41 c42=>?_)
 refine au [26,5] ?_
 intro x43 e43 _
 refine au [16,0] ?_
 exact qb (x43,())
 intro h31
 refine qe (k:=55) rfl h31 ?_
 refine au [66,6,17,0] ?_
 exact qb (false,())
 rintro ⟨x35,_⟩
 try dsimp only
 refine qa (os:=_) rfl ?_
 refine au [1] ?_
 refine qk 3 x35 [(6,qyq x11.1),(7,qyq x11.2),(9,qyq x14.2),(11,qyq x19.2),(63,.bool (x35 && ((x8.2:Int) == 0)))] (fun h36=>?_) (fun h36=>?_) ?_
 refine qa (os:=_) rfl (qf (k:=60) rfl h36 ?_)
 refine au [1,76] ?_
 refine qc (d:=63) (v:=.bool (x35 && ((x8.2:Int) == 0))) rfl (by rw[h36];simp only[qvZ]) ?_
 exact az [68]
 refine qa (os:=_) rfl (qe (k:=60) rfl h36 ?_)
 refine au [90] ?_
 refine qc (d:=63) (v:=.bool (x35 && ((x8.2:Int) == 0))) rfl (by rw[h36];simp only[qvT]) ?_
 exact az [68]
 refine qa (os:=_) rfl ?_
 refine au [1] ?_
 refine qk 3 (x35 && ((x8.2:Int) == 0)) [(7,qyq x11.2),(9,qyq x14.2),(11,qyq x19.2),(67,.bool ((x35 && ((x8.2:Int) == 0)) && ((x11.1:Int) == 3)))] (fun h37=>?_) (fun h37=>?_) ?_
 refine qa (os:=_) rfl (qf (k:=64) rfl h37 ?_)
 refine au [1,76] ?_
 refine qc (d:=67) (v:=.bool ((x35 && ((x8.2:Int) == 0)) && ((x11.1:Int) == 3))) rfl (by rw[h37];simp only[qvZ]) ?_
 exact az [68]
 refine qa (os:=_) rfl (qe (k:=64) rfl h37 ?_)
 refine au [90] ?_
 refine qc (d:=67) (v:=.bool ((x35 && ((x8.2:Int) == 0)) && ((x11.1:Int) == 3))) rfl (by rw[h37];simp only[qvT]) ?_
 exact az [68]
 refine qa (os:=_) rfl ?_
 refine au [1] ?_
 refine qk 3 ((x35 && ((x8.2:Int) == 0)) && ((x11.1:Int) == 3)) [(9,qyq x14.2),(11,qyq x19.2),(71,.bool (((x35 && ((x8.2:Int) == 0)) && ((x11.1:Int) == 3)) && ((x11.2:Int) == 0)))] (fun h38=>?_) (fun h38=>?_) ?_
 refine qa (os:=_) rfl (qf (k:=68) rfl h38 ?_)
 refine au [1,76] ?_
 refine qc (d:=71) (v:=.bool (((x35 && ((x8.2:Int) == 0)) && ((x11.1:Int) == 3)) && ((x11.2:Int) == 0))) rfl (by rw[h38];simp only[qvZ]) ?_
 exact az [68]
 refine qa (os:=_) rfl (qe (k:=68) rfl h38 ?_)
 refine au [90] ?_
 refine qc (d:=71) (v:=.bool (((x35 && ((x8.2:Int) == 0)) && ((x11.1:Int) == 3)) && ((x11.2:Int) == 0))) rfl (by rw[h38];simp only[qvT]) ?_
 exact az [68]
 refine qa (os:=_) rfl ?_
 refine au [1] ?_
 refine qk 3 (((x35 && ((x8.2:Int) == 0)) && ((x11.1:Int) == 3)) && ((x11.2:Int) == 0)) [(11,qyq x19.2),(75,.bool ((((x35 && ((x8.2:Int) == 0)) && ((x11.1:Int) == 3)) && ((x11.2:Int) == 0)) && ((x14.2:Int) == 4)))] (fun h39=>?_) (fun h39=>?_) ?_
 refine qa (os:=_) rfl (qf (k:=72) rfl h39 ?_)
 refine au [1,76] ?_
 refine qc (d:=75) (v:=.bool ((((x35 && ((x8.2:Int) == 0)) && ((x11.1:Int) == 3)) && ((x11.2:Int) == 0)) && ((x14.2:Int) == 4))) rfl (by rw[h39];simp only[qvZ]) ?_
 exact az [68]
 refine qa (os:=_) rfl (qe (k:=72) rfl h39 ?_)
 refine au [90] ?_
 refine qc (d:=75) (v:=.bool ((((x35 && ((x8.2:Int) == 0)) && ((x11.1:Int) == 3)) && ((x11.2:Int) == 0)) && ((x14.2:Int) == 4))) rfl (by rw[h39];simp only[qvT]) ?_
 exact az [68]
 refine qa (os:=_) rfl ?_
 refine au [1] ?_
 refine qk 3 ((((x35 && ((x8.2:Int) == 0)) && ((x11.1:Int) == 3)) && ((x11.2:Int) == 0)) && ((x14.2:Int) == 4)) [(79,.bool (((((x35 && ((x8.2:Int) == 0)) && ((x11.1:Int) == 3)) && ((x11.2:Int) == 0)) && ((x14.2:Int) == 4)) && ((x19.2:Int) == 6)))] (fun h40=>?_) (fun h40=>?_) ?_
 refine qa (os:=_) rfl (qf (k:=76) rfl h40 ?_)
 refine au [1,76] ?_
 refine qc (d:=79) (v:=.bool (((((x35 && ((x8.2:Int) == 0)) && ((x11.1:Int) == 3)) && ((x11.2:Int) == 0)) && ((x14.2:Int) == 4)) && ((x19.2:Int) == 6))) rfl (by rw[h40];simp only[qvZ]) ?_
 exact az [68]
 refine qa (os:=_) rfl (qe (k:=76) rfl h40 ?_)
 refine au [90] ?_
 refine qc (d:=79) (v:=.bool (((((x35 && ((x8.2:Int) == 0)) && ((x11.1:Int) == 3)) && ((x11.2:Int) == 0)) && ((x14.2:Int) == 4)) && ((x19.2:Int) == 6))) rfl (by rw[h40];simp only[qvT]) ?_
 exact az [68]
 refine qa (os:=_) rfl ?_
 exact az [85]
set_option maxHeartbeats 4000000 in
theorem qhW {F:Nat}  {r:Bool}(hm:qbS F =some r) :
    Pure Tryz.prog 27 [] [] Unit (fun _=>.bool r) (fun _=>[]) (fun _=>[]):=by
 refine ql Tryz.func27 rfl Tryz.ntmps27 rfl hm (fun w=>?_)
 refine au [27,2,61,79] ?_
 refine qn (vs:=[qyq 1,qyq 2,qyq 5,qyq 7,qyq 9]) (ys:=([1,2,5,7,9]:qyo)) (qp .i64) (by decide) rfl Tryz.underlying22 tf3 rfl rfl rfl rfl rfl (by decide) (fun a1 c2=>qn (vs:=[qyq 1,qyq 2,qyq 3,qyq 9]) (ys:=([1,2,3,9]:qyo)) (qp .i64) (by decide) rfl Tryz.underlying22 tf3 rfl rfl rfl rfl rfl (by decide) (fun a3 c4=>?_))
 refine au [36,8] ?_
 rintro x5 e5 ⟨⟨a6,c7⟩,⟨a8,c9⟩⟩
 refine au [80,10,5,5,79] ?_
 refine qn (vs:=[qyq 1,qyq 2,qyq 5,qyq 7,qyq 9]) (ys:=([1,2,5,7,9]:qyo)) (qp .i64) (by decide) rfl Tryz.underlying22 tf3 rfl rfl rfl rfl rfl (by decide) (fun a10 c11=>?_)
 refine au [1,30,0] ?_
 rintro x12 e12 ⟨a13,c14⟩
 refine au [80,5,79] ?_
 refine qn (vs:=[qyq 1,qyq 2,qyq 5,qyq 7,qyq 9]) (ys:=([1,2,5,7,9]:qyo)) (qp .i64) (by decide) rfl Tryz.underlying22 tf3 rfl rfl rfl rfl rfl (by decide) (fun a15 c16=>?_)
 refine au [1,1] ?_
 refine qg (fun h=>qgk F _ _ _ _ _ _ _ _ _ _ h) ?_
 rintro x17 e17 ⟨a18,c19⟩
 refine au [80,5,79] ?_
 refine qn (vs:=[qyq 4]) (ys:=([4]:qyo)) (qp .i64) (by decide) rfl Tryz.underlying22 tf3 rfl rfl rfl rfl rfl (by decide) (fun a20 c21=>?_)
 refine au [26,3,36,8] ?_
 rintro x22 e22 ⟨⟨a23,c24⟩,⟨a25,c26⟩⟩
 refine au [80,10,5,5,79] ?_
 refine qn (vs:=[qyq 4]) (ys:=([4]:qyo)) (qp .i64) (by decide) rfl Tryz.underlying22 tf3 rfl rfl rfl rfl rfl (by decide) (fun a27 c28=>qn (vs:=[qyq 2]) (ys:=([2]:qyo)) (qp .i64) (by decide) rfl Tryz.underlying22 tf3 rfl rfl rfl rfl rfl (by decide) (fun a29 c30=>?_))
 refine au [30,0] ?_
 rintro x31 e31 ⟨a32,c33⟩
 refine au [80,5,75] ?_
 refine qn (vs:=[qyq 2,qyq 2]) (ys:=([2,2]:qyo)) (qp .i64) (by decide) rfl Tryz.underlying22 tf3 rfl rfl rfl rfl rfl (by decide) (fun a34 c35=>?_)
 refine au [26,5] ?_
 intro x36 e36 _
 refine au [1] ?_
 refine qq 4 (fun ((x41,_):(Bool×Unit))=>([(3,qyq x5.2.2),(4,.slice a13 x12.1.length c14),(5,qyq x12.2),(6,.slice a18 x17.1.length c19),(7,qyq x17.2),(8,.slice a23 x22.1.length c24),(9,.slice a25 x22.2.1.length c26),(10,qyq x22.2.2),(12,qyq x31.2),(52,.bool x41)],[],[Ro (eI .i64) 3 1 (.slice a13 x12.1.length c14) x12.1,Ro (eI .i64) 3 1 (.slice a18 x17.1.length c19) x17.1,Ro (eI .i64) 3 1 (.slice a23 x22.1.length c24) x22.1,Ro (eI .i64) 3 1 (.slice a25 x22.2.1.length c26) x22.2.1],[],j8 F x5 x12 x17 x22 x31 x41)) ?_ ?_
 refine qa (os:=_) rfl ?_
 refine av [24,12] ?_ ?_
 intro h37
 refine qf (k:=48) rfl h37 ?_
 refine au [1] ?_
 refine qn (vs:=[qyq 3]) (ys:=([3]:qyo)) (qp .i64) (by decide) rfl Tryz.underlying22 tf3 rfl rfl rfl rfl rfl (by decide) (fun a72 c73=>?_)
 refine au [26,5] ?_
 intro x74 e74 _
 refine au [16,0] ?_
 exact qb (x74,())
 intro h37
 refine qe (k:=48) rfl h37 ?_
 refine au [66,6,17,0] ?_
 exact qb (false,())
 rintro ⟨x41,_⟩
 try dsimp only
 refine qa (os:=_) rfl ?_
 refine au [1] ?_
 refine qk 3 x41 [(4,.slice a13 x12.1.length c14),(5,qyq x12.2),(6,.slice a18 x17.1.length c19),(7,qyq x17.2),(8,.slice a23 x22.1.length c24),(9,.slice a25 x22.2.1.length c26),(10,qyq x22.2.2),(12,qyq x31.2),(56,.bool (x41 && ((x5.2.2:Int) == 0)))] (fun h42=>?_) (fun h42=>?_) ?_
 refine qa (os:=_) rfl (qf (k:=53) rfl h42 ?_)
 refine au [1,76] ?_
 refine qc (d:=56) (v:=.bool (x41 && ((x5.2.2:Int) == 0))) rfl (by rw[h42];simp only[qvZ]) ?_
 exact az [68]
 refine qa (os:=_) rfl (qe (k:=53) rfl h42 ?_)
 refine au [90] ?_
 refine qc (d:=56) (v:=.bool (x41 && ((x5.2.2:Int) == 0))) rfl (by rw[h42];simp only[qvT]) ?_
 exact az [68]
 refine qa (os:=_) rfl ?_
 refine au [1] ?_
 refine qq 4 (fun ((x47,_):(Bool×Unit))=>([(5,qyq x12.2),(6,.slice a18 x17.1.length c19),(7,qyq x17.2),(8,.slice a23 x22.1.length c24),(9,.slice a25 x22.2.1.length c26),(10,qyq x22.2.2),(12,qyq x31.2),(61,.bool x47)],[],[Ro (eI .i64) 3 1 (.slice a18 x17.1.length c19) x17.1,Ro (eI .i64) 3 1 (.slice a23 x22.1.length c24) x22.1,Ro (eI .i64) 3 1 (.slice a25 x22.2.1.length c26) x22.2.1],[],j9 F x12 x17 x22 x31 x47)) ?_ ?_
 refine qa (os:=_) rfl ?_
 refine av [24,12] ?_ ?_
 intro h43
 refine qf (k:=57) rfl h43 ?_
 refine au [1] ?_
 refine qn (vs:=[qyq 1,qyq 2,qyq 9]) (ys:=([1,2,9]:qyo)) (qp .i64) (by decide) rfl Tryz.underlying22 tf3 rfl rfl rfl rfl rfl (by decide) (fun a69 c70=>?_)
 refine au [26,5] ?_
 intro x71 e71 _
 refine au [16,0] ?_
 exact qb (x71,())
 intro h43
 refine qe (k:=57) rfl h43 ?_
 refine au [66,6,17,0] ?_
 exact qb (false,())
 rintro ⟨x47,_⟩
 try dsimp only
 refine qa (os:=_) rfl ?_
 refine au [1] ?_
 refine qk 3 x47 [(6,.slice a18 x17.1.length c19),(7,qyq x17.2),(8,.slice a23 x22.1.length c24),(9,.slice a25 x22.2.1.length c26),(10,qyq x22.2.2),(12,qyq x31.2),(65,.bool (x47 && ((x12.2:Int) == 0)))] (fun h48=>?_) (fun h48=>?_) ?_
 refine qa (os:=_) rfl (qf (k:=62) rfl h48 ?_)
 refine au [1,76] ?_
 refine qc (d:=65) (v:=.bool (x47 && ((x12.2:Int) == 0))) rfl (by rw[h48];simp only[qvZ]) ?_
 exact az [68]
 refine qa (os:=_) rfl (qe (k:=62) rfl h48 ?_)
 refine au [90] ?_
 refine qc (d:=65) (v:=.bool (x47 && ((x12.2:Int) == 0))) rfl (by rw[h48];simp only[qvT]) ?_
 exact az [68]
 refine qa (os:=_) rfl ?_
 refine au [1] ?_
 refine qq 4 (fun ((x53,_):(Bool×Unit))=>([(7,qyq x17.2),(8,.slice a23 x22.1.length c24),(9,.slice a25 x22.2.1.length c26),(10,qyq x22.2.2),(12,qyq x31.2),(70,.bool x53)],[],[Ro (eI .i64) 3 1 (.slice a23 x22.1.length c24) x22.1,Ro (eI .i64) 3 1 (.slice a25 x22.2.1.length c26) x22.2.1],[],qaa F x17 x22 x31 x53)) ?_ ?_
 refine qa (os:=_) rfl ?_
 refine av [24,12] ?_ ?_
 intro h49
 refine qf (k:=66) rfl h49 ?_
 refine au [1] ?_
 refine qn (vs:=[qyq 1,qyq 2,qyq 3,qyq 9]) (ys:=([1,2,3,9]:qyo)) (qp .i64) (by decide) rfl Tryz.underlying22 tf3 rfl rfl rfl rfl rfl (by decide) (fun a66 c67=>?_)
 refine au [26,5] ?_
 intro x68 e68 _
 refine au [16,0] ?_
 exact qb (x68,())
 intro h49
 refine qe (k:=66) rfl h49 ?_
 refine au [66,6,17,0] ?_
 exact qb (false,())
 rintro ⟨x53,_⟩
 try dsimp only
 refine qa (os:=_) rfl ?_
 refine au [1] ?_
 refine qk 3 x53 [(8,.slice a23 x22.1.length c24),(9,.slice a25 x22.2.1.length c26),(10,qyq x22.2.2),(12,qyq x31.2),(74,.bool (x53 && ((x17.2:Int) == 0)))] (fun h54=>?_) (fun h54=>?_) ?_
 refine qa (os:=_) rfl (qf (k:=71) rfl h54 ?_)
 refine au [1,76] ?_
 refine qc (d:=74) (v:=.bool (x53 && ((x17.2:Int) == 0))) rfl (by rw[h54];simp only[qvZ]) ?_
 exact az [68]
 refine qa (os:=_) rfl (qe (k:=71) rfl h54 ?_)
 refine au [90] ?_
 refine qc (d:=74) (v:=.bool (x53 && ((x17.2:Int) == 0))) rfl (by rw[h54];simp only[qvT]) ?_
 exact az [68]
 refine qa (os:=_) rfl ?_
 refine au [1] ?_
 refine qq 4 (fun ((x59,_):(Bool×Unit))=>([(9,.slice a25 x22.2.1.length c26),(10,qyq x22.2.2),(12,qyq x31.2),(79,.bool x59)],[],[Ro (eI .i64) 3 1 (.slice a25 x22.2.1.length c26) x22.2.1],[],qbT F x22 x31 x59)) ?_ ?_
 refine qa (os:=_) rfl ?_
 refine av [24,12] ?_ ?_
 intro h55
 refine qf (k:=75) rfl h55 ?_
 refine au [1] ?_
 refine qn (vs:=[qyq 0]) (ys:=([0]:qyo)) (qp .i64) (by decide) rfl Tryz.underlying22 tf3 rfl rfl rfl rfl rfl (by decide) (fun a63 c64=>?_)
 refine au [26,5] ?_
 intro x65 e65 _
 refine au [16,0] ?_
 exact qb (x65,())
 intro h55
 refine qe (k:=75) rfl h55 ?_
 refine au [66,6,17,0] ?_
 exact qb (false,())
 rintro ⟨x59,_⟩
 try dsimp only
 refine qa (os:=_) rfl ?_
 refine au [1] ?_
 refine qk 4 x59 [(10,qyq x22.2.2),(12,qyq x31.2),(84,.bool (x59 && (((x22.2.1.length:Int):Int) == 0)))] (fun h60=>?_) (fun h60=>?_) ?_
 refine qa (os:=_) rfl (qf (k:=80) rfl h60 ?_)
 refine au [126,76] ?_
 refine qc (d:=84) (v:=.bool (x59 && (((x22.2.1.length:Int):Int) == 0))) rfl (by rw[h60];simp only[qvZ]) ?_
 exact az [68]
 refine qa (os:=_) rfl (qe (k:=80) rfl h60 ?_)
 refine au [66,6,17] ?_
 refine qc (d:=84) (v:=.bool (x59 && (((x22.2.1.length:Int):Int) == 0))) rfl (by rw[h60];simp only[qvT]) ?_
 exact az [68]
 refine qa (os:=_) rfl ?_
 refine au [1] ?_
 refine qk 3 (x59 && (((x22.2.1.length:Int):Int) == 0)) [(12,qyq x31.2),(88,.bool ((x59 && (((x22.2.1.length:Int):Int) == 0)) && ((x22.2.2:Int) == 0)))] (fun h61=>?_) (fun h61=>?_) ?_
 refine qa (os:=_) rfl (qf (k:=85) rfl h61 ?_)
 refine au [1,76] ?_
 refine qc (d:=88) (v:=.bool ((x59 && (((x22.2.1.length:Int):Int) == 0)) && ((x22.2.2:Int) == 0))) rfl (by rw[h61];simp only[qvZ]) ?_
 exact az [68]
 refine qa (os:=_) rfl (qe (k:=85) rfl h61 ?_)
 refine au [90] ?_
 refine qc (d:=88) (v:=.bool ((x59 && (((x22.2.1.length:Int):Int) == 0)) && ((x22.2.2:Int) == 0))) rfl (by rw[h61];simp only[qvT]) ?_
 exact az [68]
 refine qa (os:=_) rfl ?_
 refine au [1] ?_
 refine qk 3 ((x59 && (((x22.2.1.length:Int):Int) == 0)) && ((x22.2.2:Int) == 0)) [(92,.bool (((x59 && (((x22.2.1.length:Int):Int) == 0)) && ((x22.2.2:Int) == 0)) && ((x31.2:Int) == 8)))] (fun h62=>?_) (fun h62=>?_) ?_
 refine qa (os:=_) rfl (qf (k:=89) rfl h62 ?_)
 refine au [1,76] ?_
 refine qc (d:=92) (v:=.bool (((x59 && (((x22.2.1.length:Int):Int) == 0)) && ((x22.2.2:Int) == 0)) && ((x31.2:Int) == 8))) rfl (by rw[h62];simp only[qvZ]) ?_
 exact az [68]
 refine qa (os:=_) rfl (qe (k:=89) rfl h62 ?_)
 refine au [90] ?_
 refine qc (d:=92) (v:=.bool (((x59 && (((x22.2.1.length:Int):Int) == 0)) && ((x22.2.2:Int) == 0)) && ((x31.2:Int) == 8))) rfl (by rw[h62];simp only[qvT]) ?_
 exact az [68]
 refine qa (os:=_) rfl ?_
 exact az [85]
set_option maxHeartbeats 4000000 in
theorem qjf {F:Nat}{x1:qyo}{a2:qyp}{c3:Nat}{x4:qyo}{a5:qyp}{c6:Nat}{r:Bool}(hm:jL F x1 x4=some r) :
    Pure Tryz.prog 152 [.slice a2 x1.length c3,.slice a5 x4.length c6] [Sl (eI .u8) 1 (.slice a2 x1.length c3) x1,Sl (eI .u8) 1 (.slice a5 x4.length c6) x4] Unit (fun _=>.bool r) (fun _=>[]) (fun _=>[]):=by
 refine ql Tryz.func152 rfl Tryz.ntmps152 rfl hm (fun w=>?_)
 refine av [69,93,89,24,6,81] ?_ ?_
 intro _
 exact az [61,99]
 intro _
 refine au [74] ?_
 refine qh (fun ((_,_):(Unit×Unit))=>([],[],[],[],qet F)) ?_ ?_
 refine au [61,60,19] ?_
 refine qu (fun ((x0,_):(Int×Unit))=>([(0,.slice a2 x1.length c3),(1,.slice a5 x4.length c6),(5,qyq x0)],[],[],[Sl (eI .u8) 1 (.slice a2 x1.length c3) x1,Sl (eI .u8) 1 (.slice a5 x4.length c6) x4])) (fun k (s:(Int×Unit))=>km F x1 x4 k s.1) (0,()) F ?_
 intro k0
 rintro ⟨x0,_⟩
 try dsimp only
 refine qB (m':=vM F x1 x4 (km F x1 x4 k0) x0) rfl ?_
 refine av [83,126,101] ?_ ?_
 intro _
 refine au [74,3,19,3,31,5] ?_
 intro x2 e0 b0 o0 h0
 replace h0:a2=some ⟨b0,o0,none⟩:=h0
 refine au [35,13] ?_
 intro x3 e1 b1 o1 h1
 replace h1:a5=some ⟨b1,o1,none⟩:=h1
 refine qy mixed [] [] [qK b1 (o1+x0.toNat*1) ((eI .u8) x3),qK b0 (o0+x0.toNat*1) ((eI .u8) x2),Sl (eI .u8) 1 (.slice a2 x1.length c3) x1,Sl (eI .u8) 1 (.slice a5 x4.length c6) x4] .nil (qt 0 rfl (qt 1 rfl (qt 2 rfl (qt 3 rfl qw)))) 9 rfl ?_
 refine au [88] ?_
 refine qi (d:=17) (v:=.slice (some ⟨b0,o0,none⟩) x1.length c3) rfl (by rw[h0] <;> rfl) (qm 2 (.pointer (some ⟨b0,(o0+x0.toNat*1),none⟩)) rfl rfl rfl (vI Tryz.underlying23 tf5 rfl rfl (qP e0).1 (yr e0)) (qi (d:=17) (v:=.slice a2 x1.length c3) rfl (by rw[h0] <;> rfl) (qO 3 (.int .u8 x2) [] rfl rfl rfl (zG (j:=1) rfl tf5 rfl rfl (fun _=>rfl) rfl) ?_)))
 refine au [115] ?_
 refine qi (d:=21) (v:=.slice (some ⟨b1,o1,none⟩) x4.length c6) rfl (by rw[h1] <;> rfl) (qm 6 (.pointer (some ⟨b1,(o1+x0.toNat*1),none⟩)) rfl rfl rfl (vI Tryz.underlying23 tf5 rfl rfl (qP e1).1 (yr e1)) (qi (d:=21) (v:=.slice a5 x4.length c6) rfl (by rw[h1] <;> rfl) (qO 7 (.int .u8 x3) [] rfl rfl rfl (zG (j:=0) rfl tf5 rfl rfl (fun _=>rfl) rfl) ?_)))
 refine au [7,8,24,8] ?_
 refine qx ?_ (by intro c h;cases h)
 refine av [2,11] ?_ ?_
 intro _
 exact az [61,64,129,18]
 intro _
 refine au [13,78,4,1,23,5,0] ?_
 exact qr (iadd .i64 x0 1,())
 intro _
 exact az [87,26,0]
 rintro ⟨_,_⟩
 try dsimp only
 exact az [61,85]
theorem qkp {F:Nat}{x1:Int}{x2:qyo}{a3:qyp}{c4:Nat}{x5:Int}{x6:qyo}{a7:qyp}{c8:Nat}{r:Bool}(hm:vm F x1 x2 x5 x6=some r) :
    Pure Tryz.prog 63 [.agg #[qyq x1,.slice a3 x2.length c4],.agg #[qyq x5,.slice a7 x6.length c8]] [Sl (eI .u8) 1 (.slice a3 x2.length c4) x2,Sl (eI .u8) 1 (.slice a7 x6.length c8) x6] Unit (fun _=>.bool r) (fun _=>[]) (fun _=>[]):=by
 refine ql Tryz.func63 rfl Tryz.ntmps63 rfl hm (fun w=>?_)
 refine au [94] ?_
 intro g9
 refine au [24,1] ?_
 intro g10
 refine au [79,84,73,24,2,1] ?_
 refine qq 6 (fun ((x13,_):(Bool×Unit))=>([(16,.bool x13)],[],[],[],jv F x13)) ?_ ?_
 refine qa (os:=_) rfl ?_
 refine av [24,12] ?_ ?_
 intro h11
 refine qf (k:=10) rfl h11 ?_
 refine au [84,73] ?_
 refine qg qjf ?_
 intro x14 e14 _
 refine au [16,0] ?_
 exact qb (x14,())
 intro h11
 refine qe (k:=10) rfl h11 ?_
 refine au [72,6,17,0] ?_
 exact qb (false,())
 rintro ⟨x13,_⟩
 try dsimp only
 refine qa (os:=_) rfl ?_
 exact az [85]
set_option maxHeartbeats 4000000 in
theorem qje {F:Nat}  {r:Bool}(hm:qc0 F =some r) :
    Pure Tryz.prog 28 [] [] Unit (fun _=>.bool r) (fun _=>[]) (fun _=>[]):=by
 refine ql Tryz.func28 rfl Tryz.ntmps28 rfl hm (fun w=>?_)
 refine au [27,2,61,79] ?_
 refine qo (cells:=[qyq 1,qyq 3,qyq 2]) rfl st27 rfl (by kernel_rfl) rfl ?_
 refine au [24,9] ?_
 intro g1
 refine au [97,61] ?_
 refine qn (vs:=[qyq 2,qyq 3,qyq 4,qyq 5,qyq 9,qyq 20]) (ys:=([2,3,4,5,9,20]:qyo)) (qp .i64) (by decide) rfl Tryz.underlying22 tf3 rfl rfl rfl rfl rfl (by decide) (fun a2 c3=>?_)
 refine au [75] ?_
 refine qn (vs:=[qyq 3,qyq 9,qyq 11]) (ys:=([3,9,11]:qyo)) (qp .i64) (by decide) rfl Tryz.underlying22 tf3 rfl rfl rfl rfl rfl (by decide) (fun a4 c5=>?_)
 refine au [24,4,31,13] ?_
 rintro x6 e6 ⟨a7,c8⟩
 refine au [95] ?_
 intro g9
 refine au [24,3,91] ?_
 refine qn (vs:=[qyq 3,qyq 9,qyq 11]) (ys:=([3,9,11]:qyo)) (qp .i64) (by decide) rfl Tryz.underlying22 tf3 rfl rfl rfl rfl rfl (by decide) (fun a10 c11=>?_)
 refine au [25,4,36,9] ?_
 rintro x12 e12 ⟨a13,c14⟩
 refine au [80,10,5,5,79] ?_
 refine qo (cells:=[qyq 0,qyq 0,qyq 1]) rfl st27 rfl (by kernel_rfl) rfl ?_
 refine au [26,3,26,3,31,13] ?_
 rintro x15 e15 ⟨a16,c17⟩
 refine au [95] ?_
 intro g18
 refine au [24,3,79] ?_
 refine qo (cells:=[qyq 0,.slice none 0 0]) rfl st25 rfl (by kernel_rfl) rfl (qo (cells:=[qyq 0,qyq 0,qyq 1]) rfl st27 rfl (by kernel_rfl) rfl ?_)
 refine au [26,8,26,3,36,9] ?_
 rintro x19 e19 ⟨a20,c21⟩
 refine au [80,10,5,5,75,24,2,1] ?_
 refine qq 4 (fun ((x24,_):(Bool×Unit))=>([(3,.pointer (some ⟨g9,0,none⟩)),(6,qyq x12.2.1),(7,qyq x12.2.2),(8,.pointer (some ⟨g18,0,none⟩)),(9,qyq x15.2.2),(12,qyq x19.2.2),(48,.bool x24)],[⟨g18,25,[qyq x15.1,.slice a16 x15.2.1.length c17]⟩,⟨g9,25,[qyq x6.1,.slice a7 x6.2.1.length c8]⟩],[Ro (eI .u8) 5 1 (.slice a16 x15.2.1.length c17) x15.2.1,Ro (eI .u8) 5 1 (.slice a7 x6.2.1.length c8) x6.2.1],[],qaY F x6 x12 x15 x19 x24)) ?_ ?_
 refine qa (os:=_) rfl ?_
 refine av [24,12] ?_ ?_
 intro h22
 refine qf (k:=44) rfl h22 ?_
 refine au [1,1,26,5] ?_
 intro x41 e41 _
 refine au [16,0] ?_
 exact qb (x41,())
 intro h22
 refine qe (k:=44) rfl h22 ?_
 refine au [66,6,17,0] ?_
 exact qb (false,())
 rintro ⟨x24,_⟩
 try dsimp only
 refine qa (os:=_) rfl ?_
 refine au [1] ?_
 refine qk 5 x24 [(7,qyq x12.2.2),(8,.pointer (some ⟨g18,0,none⟩)),(9,qyq x15.2.2),(12,qyq x19.2.2),(54,.bool (x24 && ((x12.2.1:Int) == x6.1)))] (fun h25=>?_) (fun h25=>?_) ?_
 refine qa (os:=_) rfl (qf (k:=49) rfl h25 ?_)
 refine au [1,84,76] ?_
 refine qc (d:=54) (v:=.bool (x24 && ((x12.2.1:Int) == x6.1))) rfl (by rw[h25];simp only[qvZ]) ?_
 exact az [68]
 refine qa (os:=_) rfl (qe (k:=49) rfl h25 ?_)
 refine au [72,17] ?_
 refine qc (d:=54) (v:=.bool (x24 && ((x12.2.1:Int) == x6.1))) rfl (by rw[h25];simp only[qvT]) ?_
 exact az [68]
 refine qa (os:=_) rfl ?_
 refine au [1] ?_
 refine qk 3 (x24 && ((x12.2.1:Int) == x6.1)) [(8,.pointer (some ⟨g18,0,none⟩)),(9,qyq x15.2.2),(12,qyq x19.2.2),(58,.bool ((x24 && ((x12.2.1:Int) == x6.1)) && ((x12.2.2:Int) == 0)))] (fun h26=>?_) (fun h26=>?_) ?_
 refine qa (os:=_) rfl (qf (k:=55) rfl h26 ?_)
 refine au [1,76] ?_
 refine qc (d:=58) (v:=.bool ((x24 && ((x12.2.1:Int) == x6.1)) && ((x12.2.2:Int) == 0))) rfl (by rw[h26];simp only[qvZ]) ?_
 exact az [68]
 refine qa (os:=_) rfl (qe (k:=55) rfl h26 ?_)
 refine au [90] ?_
 refine qc (d:=58) (v:=.bool ((x24 && ((x12.2.1:Int) == x6.1)) && ((x12.2.2:Int) == 0))) rfl (by rw[h26];simp only[qvT]) ?_
 exact az [68]
 refine qa (os:=_) rfl ?_
 refine au [1] ?_
 refine qq 5 (fun ((x31,_):(Bool×Unit))=>([(9,qyq x15.2.2),(12,qyq x19.2.2),(64,.bool x31)],[],[],[],qaZ F x15 x19 x31)) ?_ ?_
 refine qa (os:=_) rfl ?_
 refine av [24,12] ?_ ?_
 intro h27
 refine qf (k:=59) rfl h27 ?_
 refine au [24,4] ?_
 refine qn (vs:=[.int .u8 128]) (ys:=([128]:qyo)) (qp .u8) (by decide) rfl Tryz.underlying23 tf5 rfl rfl rfl rfl rfl (by decide) (fun a38 c39=>qo (cells:=[qyq 1,.slice a38 ([128]:qyo).length c39]) rfl st25 rfl (by kernel_rfl) rfl ?_)
 refine au [30,6] ?_
 intro x40 e40 _
 refine au [16,0] ?_
 exact qb (x40,())
 intro h27
 refine qe (k:=59) rfl h27 ?_
 refine au [72,17,0] ?_
 exact qb (false,())
 rintro ⟨x31,_⟩
 try dsimp only
 refine qa (os:=_) rfl ?_
 refine au [1] ?_
 refine qk 3 x31 [(12,qyq x19.2.2),(68,.bool (x31 && ((x15.2.2:Int) == 0)))] (fun h32=>?_) (fun h32=>?_) ?_
 refine qa (os:=_) rfl (qf (k:=65) rfl h32 ?_)
 refine au [1,76] ?_
 refine qc (d:=68) (v:=.bool (x31 && ((x15.2.2:Int) == 0))) rfl (by rw[h32];simp only[qvZ]) ?_
 exact az [68]
 refine qa (os:=_) rfl (qe (k:=65) rfl h32 ?_)
 refine au [90] ?_
 refine qc (d:=68) (v:=.bool (x31 && ((x15.2.2:Int) == 0))) rfl (by rw[h32];simp only[qvT]) ?_
 exact az [68]
 refine qa (os:=_) rfl ?_
 refine au [1] ?_
 refine qk 3 (x31 && ((x15.2.2:Int) == 0)) [(72,.bool ((x31 && ((x15.2.2:Int) == 0)) && ((x19.2.2:Int) == 1)))] (fun h33=>?_) (fun h33=>?_) ?_
 refine qa (os:=_) rfl (qf (k:=69) rfl h33 ?_)
 refine au [1,76] ?_
 refine qc (d:=72) (v:=.bool ((x31 && ((x15.2.2:Int) == 0)) && ((x19.2.2:Int) == 1))) rfl (by rw[h33];simp only[qvZ]) ?_
 exact az [68]
 refine qa (os:=_) rfl (qe (k:=69) rfl h33 ?_)
 refine au [90] ?_
 refine qc (d:=72) (v:=.bool ((x31 && ((x15.2.2:Int) == 0)) && ((x19.2.2:Int) == 1))) rfl (by rw[h33];simp only[qvT]) ?_
 exact az [68]
 refine qa (os:=_) rfl ?_
 refine au [1] ?_
 refine qq 4 (fun ((x36,_):(Bool×Unit))=>([(77,.bool x36)],[],[],[],qcF F x36)) ?_ ?_
 refine qa (os:=_) rfl ?_
 refine av [24,12] ?_ ?_
 intro h34
 refine qf (k:=73) rfl h34 (qo (cells:=[qyq 0,qyq 1,qyq 1]) rfl st27 rfl (by kernel_rfl) rfl ?_)
 refine au [28,15] ?_
 intro x37 e37 _
 refine au [76,0] ?_
 exact qb (((x37:Int) == 3),())
 intro h34
 refine qe (k:=73) rfl h34 ?_
 refine au [66,6,17,0] ?_
 exact qb (false,())
 rintro ⟨x36,_⟩
 try dsimp only
 refine qa (os:=_) rfl ?_
 exact az [85]
theorem qjd {F:Nat}  {r:List (qyo)}(hm:yD F =some r) :
    Pure Tryz.prog 100 [] [] (qyp×(Nat×List (qyp×Nat))) (fun g=>.agg #[.slice g.1 r.length g.2.1]) (fun g=>[RoN eN22 rN22 22 1 (.slice g.1 r.length g.2.1) r g.2.2 []]) (fun _=>[]):=by
 refine ql Tryz.func100 rfl Tryz.ntmps100 rfl hm (fun w=>?_)
 refine au [27,2,61,24,9] ?_
 intro g1
 refine au [59,61] ?_
 refine qn (vs:=[qyq 1,qyq 2,qyq 3,qyq 5]) (ys:=([1,2,3,5]:qyo)) (qp .i64) (by decide) rfl Tryz.underlying22 tf3 rfl rfl rfl rfl rfl (by decide) (fun a2 c3=>qn (vs:=[qyq 1,qyq 2,qyq 3,qyq 5]) (ys:=([1,2,3,5]:qyo)) (qp .i64) (by decide) rfl Tryz.underlying22 tf3 rfl rfl rfl rfl rfl (by decide) (fun a4 c5=>qn (vs:=[qyq 0,qyq 1,qyq 2,qyq 3,qyq 5]) (ys:=([0,1,2,3,5]:qyo)) (qp .i64) (by decide) rfl Tryz.underlying22 tf3 rfl rfl rfl rfl rfl (by decide) (fun a6 c7=>qn (vs:=[qyq 4]) (ys:=([4]:qyo)) (qp .i64) (by decide) rfl Tryz.underlying22 tf3 rfl rfl rfl rfl rfl (by decide) (fun a8 c9=>qn (vs:=[qyq 1,qyq 2,qyq 3]) (ys:=([1,2,3]:qyo)) (qp .i64) (by decide) rfl Tryz.underlying22 tf3 rfl rfl rfl rfl rfl (by decide) (fun a10 c11=>?_)))))
 refine au [26,3] ?_
 refine qn (vs:=[.slice a2 ([1,2,3,5]:qyo).length c3,.slice a4 ([1,2,3,5]:qyo).length c5,.slice a6 ([0,1,2,3,5]:qyo).length c7,.slice none ([]:qyo).length 0,.slice a8 ([4]:qyo).length c9,.slice a10 ([1,2,3]:qyo).length c11]) (ys:=([(([1,2,3,5]:qyo),(a2,c3)),(([1,2,3,5]:qyo),(a4,c5)),(([0,1,2,3,5]:qyo),(a6,c7)),(([]:qyo),(none,0)),(([4]:qyo),(a8,c9)),(([1,2,3]:qyo),(a10,c11))]:List (qyo×(qyp×Nat)))) zX (by decide) rfl Tryz.underlying28 tf22 rfl rfl rfl rfl rfl (by decide) (fun a12 c13=>qd2 (rin:=rN22) (i:=0) ([([1,2,3,5]:qyo),([1,2,3,5]:qyo),([0,1,2,3,5]:qyo),([]:qyo),([4]:qyo),([1,2,3]:qyo)]:List (qyo)) ([(a2,c3),(a4,c5),(a6,c7),(none,0),(a8,c9),(a10,c11)]:List (qyp×Nat)) rfl rfl (.cons 5 rfl (.cons 4 rfl (.cons 3 rfl (.cons 0 rfl (.cons 1 rfl (.cons 0 rfl .nil)))))) (qo (cells:=[.slice a12 ([([1,2,3,5]:qyo),([1,2,3,5]:qyo),([0,1,2,3,5]:qyo),([]:qyo),([4]:qyo),([1,2,3]:qyo)]:List (qyo)).length c13]) rfl st30 rfl (by kernel_rfl) rfl ?_))
 refine au [97,9] ?_
 exact qF (a12,(c13,([(a2,c3),(a4,c5),(a6,c7),(none,0),(a8,c9),(a10,c11)]:List (qyp×Nat)))) (resL (rs:=[.cell 0 30]) rfl (.cell (i:=0) rfl tf30 rfl rfl (by simp) rfl ResOk.nil) rfl) (fun h=>by subst h;exact (.cons 0 rfl .nil))
set_option maxHeartbeats 4000000 in
theorem qjh {F:Nat}{x1:List (qyo)}{a2:qyp}{c3:Nat}{s3:List (qyp×Nat)}{x4:List (qyo)}{a5:qyp}{c6:Nat}{s6:List (qyp×Nat)}{r:Bool}(hm:qc5 F x1 x4=some r) :
    Pure Tryz.prog 182 [.slice a2 x1.length c3,.slice a5 x4.length c6] [SlN eN22 iN22 1 (.slice a2 x1.length c3) x1 s3,SlN eN22 iN22 1 (.slice a5 x4.length c6) x4 s6] Unit (fun _=>.bool r) (fun _=>[]) (fun _=>[]):=by
 refine ql Tryz.func182 rfl Tryz.ntmps182 rfl hm (fun w=>?_)
 refine av [69,93,89,24,6,81] ?_ ?_
 intro _
 exact az [61,99]
 intro _
 refine au [74] ?_
 refine qh (fun ((_,_):(Unit×Unit))=>([],[],[],[],qeu F)) ?_ ?_
 refine au [61,60,19] ?_
 refine qu (fun ((x0,_):(Int×Unit))=>([(0,.slice a2 x1.length c3),(1,.slice a5 x4.length c6),(5,qyq x0)],[],[],[SlN eN22 iN22 1 (.slice a2 x1.length c3) x1 s3,SlN eN22 iN22 1 (.slice a5 x4.length c6) x4 s6])) (fun k (s:(Int×Unit))=>yF F x1 x4 k s.1) (0,()) F ?_
 intro k0
 rintro ⟨x0,_⟩
 try dsimp only
 refine qB (m':=qa0 F x1 x4 (yF F x1 x4 k0) x0) rfl ?_
 refine av [83,126,101] ?_ ?_
 intro _
 refine au [74,3,19,3] ?_
 refine qiX (j:=0) zX (by decide) rfl ?_
 intro x2 e0 g0 b0 o0 h0
 replace h0:a2=some ⟨b0,o0,none⟩:=h0
 refine qiX (j:=3) zX (by decide) rfl ?_
 intro x3 e1 g1 b1 o1 h1
 replace h1:a5=some ⟨b1,o1,none⟩:=h1
 refine qy mixed [] [] [qK b1 (o1+x0.toNat*1) (eN22 (x3,g1)),Sl (eI .i64) 1 (.slice g1.1 x3.length g1.2) x3,qK b0 (o0+x0.toNat*1) (eN22 (x2,g0)),Sl (eI .i64) 1 (.slice g0.1 x2.length g0.2) x2,SlN eN22 iN22 1 (.slice a2 x1.length c3) x1 s3,SlN eN22 iN22 1 (.slice a5 x4.length c6) x4 s6] .nil (qt 0 rfl (qt 1 rfl (qt 2 rfl (qt 3 rfl (qt 4 rfl (qt 5 rfl qw)))))) 10 rfl ?_
 refine au [88] ?_
 refine qi (d:=17) (v:=.slice (some ⟨b0,o0,none⟩) x1.length c3) rfl (by rw[h0] <;> rfl) (qm 2 (.pointer (some ⟨b0,(o0+x0.toNat*1),none⟩)) rfl rfl rfl (vI Tryz.underlying28 tf22 rfl rfl (qP e0).1 (yr e0)) (qi (d:=17) (v:=.slice a2 x1.length c3) rfl (by rw[h0] <;> rfl) (qO 3 (.slice g0.1 x2.length g0.2) [] rfl rfl rfl (zG (j:=2) rfl tf22 rfl rfl (fun _=>rfl) rfl) ?_)))
 refine au [115] ?_
 refine qi (d:=21) (v:=.slice (some ⟨b1,o1,none⟩) x4.length c6) rfl (by rw[h1] <;> rfl) (qm 6 (.pointer (some ⟨b1,(o1+x0.toNat*1),none⟩)) rfl rfl rfl (vI Tryz.underlying28 tf22 rfl rfl (qP e1).1 (yr e1)) (qi (d:=21) (v:=.slice a5 x4.length c6) rfl (by rw[h1] <;> rfl) (qO 7 (.slice g1.1 x3.length g1.2) [] rfl rfl rfl (zG (j:=0) rfl tf22 rfl rfl (fun _=>rfl) rfl) ?_)))
 refine au [20,8,26,5] ?_
 intro x5 e2 _
 refine au [0] ?_
 refine zd .nil (qt 0 rfl (qt 1 rfl (qt 2 rfl (qt 3 rfl (qt 4 rfl (qt 5 rfl qw)))))) ?_
 refine au [7,9,24,8] ?_
 refine qx ?_ (by intro c h;cases h)
 refine av [2,11] ?_ ?_
 intro _
 exact az [61,64,129,18]
 intro _
 refine au [13,78,4,1,23,5,0] ?_
 exact qr (iadd .i64 x0 1,())
 intro _
 exact az [87,26,0]
 rintro ⟨_,_⟩
 try dsimp only
 exact az [61,85]
theorem qjg {F:Nat}{x1:List (qyo)}{a2:qyp}{c3:Nat}{s3:List (qyp×Nat)}{x4:List (qyo)}{a5:qyp}{c6:Nat}{s6:List (qyp×Nat)}{r:Bool}(hm:qc4 F x1 x4=some r) :
    Pure Tryz.prog 101 [.agg #[.slice a2 x1.length c3],.agg #[.slice a5 x4.length c6]] [SlN eN22 iN22 1 (.slice a2 x1.length c3) x1 s3,SlN eN22 iN22 1 (.slice a5 x4.length c6) x4 s6] Unit (fun _=>.bool r) (fun _=>[]) (fun _=>[]):=by
 refine ql Tryz.func101 rfl Tryz.ntmps101 rfl hm (fun w=>?_)
 refine au [94] ?_
 intro g7
 refine au [24,1] ?_
 intro g8
 refine au [79,84,73] ?_
 refine qg qjh ?_
 intro x9 e9 _
 exact az [85]
set_option maxHeartbeats 4000000 in
theorem qja {F:Nat}  {r:Bool}(hm:qcX F =some r) :
    Pure Tryz.prog 29 [] [] Unit (fun _=>.bool r) (fun _=>[]) (fun _=>[]):=by
 refine ql Tryz.func29 rfl Tryz.ntmps29 rfl hm (fun w=>?_)
 refine au [27,2,61,79] ?_
 refine qo (cells:=[qyq 3,qyq 3,qyq 2]) rfl st27 rfl (by kernel_rfl) rfl ?_
 refine au [24,9] ?_
 intro g1
 refine au [97] ?_
 refine qh (fun (((x21,x22,x23,x24,x25,x26,x29),(g20,a27,c28)):((Int×Int×Int×Int×Int×Int×qyo)×(Nat×qyp×Nat)))=>([(1,.pointer (some ⟨g1,0,none⟩)),(2,.pointer (some ⟨g20,0,none⟩)),(3,qyq x21)],[⟨g1,27,[qyq 3,qyq 3,qyq 2]⟩,⟨g20,53,[qyq x22,qyq x23,qyq x24,qyq x25,qyq x26,.slice a27 x29.length c28]⟩],[Ro (eI .u8) 5 1 (.slice a27 x29.length c28) x29],[],vL F x21 x22 x23 x24 x25 x26 x29)) ?_ ?_
 refine qy mixed [] [⟨g1,27,[qyq 3,qyq 3,qyq 2]⟩] [] (.cons 0 rfl .nil) qw 9 rfl (q8 1 (.agg #[qyq 3,qyq 3,qyq 2]) rfl rfl rfl (qQ (i:=0) rfl tf27 rfl rfl (by simp) rfl) (qa9 0 6 rfl rfl (by kernel_rfl) rfl rfl ?_ ?_))
 refine au [29,3] ?_
 rintro x0 e0 ⟨a0,c0⟩
 refine au [0,36,10] ?_
 refine qa9 2 6 rfl rfl (by kernel_rfl) rfl rfl ?_ ?_
 refine zx ent17 rfl rfl rfl (fun x1 e1=>qaT F x0 a0 c0 3 3 2 x1 e1) (.consG 0 rfl (zW qfv) .nil) (fun x1 e1=>?_)
 rintro ⟨a1,c1⟩
 refine au [0,36,10,7,3,115,20,6,24,9] ?_
 intro g0
 refine au [0,27,3,20,7,102,27,3,7,8,24,8] ?_
 exact qx (qb ((x1.2.2.2.2.2.2,x1.1,x1.2.1,x1.2.2.1,x1.2.2.2.1,x1.2.2.2.2.1,x1.2.2.2.2.2.1),(g0,a1,c1))) (by intro c h;cases h)
 refine qba (m':=((yx F x0 3 3 2).bind fun x2=>vL F x2.2.2.2.2.2.2 x2.1 x2.2.1 x2.2.2.1 x2.2.2.2.1 x2.2.2.2.2.1 x2.2.2.2.2.2.1)) (rfl) ?_
 refine au [24,9] ?_
 intro g2
 refine au [0,27,3,20,2] ?_
 refine zx ent17 rfl rfl rfl (fun x2 e2=>qaT F x0 a0 c0 3 3 2 x2 e2) (.consG 0 rfl (zW qfv) .nil) (fun x2 e2=>?_)
 rintro ⟨a2,c2⟩
 refine au [0,27,3,7,3,115,20,7,102,27,3,7,8,24,8] ?_
 exact qx (qb ((x2.2.2.2.2.2.2,x2.1,x2.2.1,x2.2.2.1,x2.2.2.2.1,x2.2.2.2.2.1,x2.2.2.2.2.2.1),(g2,a2,c2))) (by intro c h;cases h)
 refine qba (m':=((yD F).bind fun x3=>((yx F x3 3 3 2).bind fun x4=>vL F x4.2.2.2.2.2.2 x4.1 x4.2.1 x4.2.2.1 x4.2.2.2.1 x4.2.2.2.2.1 x4.2.2.2.2.2.1))) (rfl) ?_
 refine au [24,9] ?_
 intro g3
 refine au [0,27,3,20,0,29,3] ?_
 rintro x3 e3 ⟨a3,c3⟩
 refine au [0,27,3,20,2] ?_
 refine zx ent17 rfl rfl rfl (fun x4 e4=>qaT F x3 a3 c3 3 3 2 x4 e4) (.consG 0 rfl (zW qfv) .nil) (fun x4 e4=>?_)
 rintro ⟨a4,c4⟩
 refine au [0,27,3,7,3,115,20,7,102,27,3,7,8,24,8] ?_
 exact qx (qb ((x4.2.2.2.2.2.2,x4.1,x4.2.1,x4.2.2.1,x4.2.2.2.1,x4.2.2.2.2.1,x4.2.2.2.2.2.1),(g3,a4,c4))) (by intro c h;cases h)
 rintro ⟨⟨x21,x22,x23,x24,x25,x26,x29⟩,⟨g20,a27,c28⟩⟩
 try dsimp only
 refine au [61,25,4,32,2] ?_
 rintro x30 e30 ⟨a31,c32⟩
 refine au [95] ?_
 intro g33
 refine au [24,3,60,3] ?_
 refine qy mixed [] [⟨g33,30,[.slice a31 x30.1.length c32.1]⟩,⟨g1,27,[qyq 3,qyq 3,qyq 2]⟩,⟨g20,53,[qyq x22,qyq x23,qyq x24,qyq x25,qyq x26,.slice a27 x29.length c28]⟩] [] (.cons 0 rfl (.cons 0 rfl (.cons 0 rfl .nil))) qw 10 rfl (q8 1 (.agg #[qyq 3,qyq 3,qyq 2]) rfl rfl rfl (qQ (i:=1) rfl tf27 rfl rfl (by simp) rfl) ?_)
 refine au [20,0,29,3] ?_
 rintro x42 e42 ⟨a43,c44⟩
 refine au [0,36,11,20,2] ?_
 refine zx ent19 rfl rfl rfl (fun x45 e45=>qd7 F x42 a43 c44 3 3 2 x45 e45) (.consG 0 rfl (zW qfv) .nil) (fun x45 e45=>?_)
 rintro ⟨⟨a46,c47⟩,⟨a48,c49⟩⟩
 refine au [0,36,11,7,3,115,7,6,7,7,7,8,7,9,24,8] ?_
 refine qx ?_ (by intro c h;cases h)
 refine au [2,61,25,4] ?_
 refine qo (cells:=[qyq 1,qyq 3,qyq 3,qyq 2,qyq 0,.slice none 0 0]) rfl st53 rfl (by kernel_rfl) rfl ?_
 refine au [26,8,32,2] ?_
 rintro x50 e50 ⟨a51,c52⟩
 refine au [95] ?_
 intro g53
 refine au [24,3,60] ?_
 refine qh (fun ((x78,_):(Bool×Unit))=>([(0,.bool x78)],[],[],[],q9 F x78)) ?_ ?_
 refine av [27,5] ?_ ?_
 intro h79
 refine av [27,5] ?_ ?_
 intro h80
 refine av [27,5] ?_ ?_
 intro h81
 refine qy mixed [] [⟨g53,30,[.slice a51 x50.1.length c52.1]⟩,⟨g33,30,[.slice a31 x30.1.length c32.1]⟩,⟨g1,27,[qyq 3,qyq 3,qyq 2]⟩,⟨g20,53,[qyq x22,qyq x23,qyq x24,qyq x25,qyq x26,.slice a27 x29.length c28]⟩] [] (.cons 0 rfl (.cons 0 rfl (.cons 0 rfl (.cons 0 rfl .nil)))) qw 59 rfl ?_
 refine au [88,7,2] ?_
 refine qi (d:=38) (v:=.bool true) rfl (by rw[h79] <;> rfl) ?_
 refine au [24,0,3,29,13,4,7,5,7,6,7,7] ?_
 refine qi (d:=43) (v:=.bool true) rfl (by rw[h80] <;> rfl) ?_
 refine au [24,0,8] ?_
 refine q8 9 (.agg #[qyq x23,qyq x24,qyq x25]) rfl rfl rfl (qQ (i:=3) rfl tf27 rfl rfl (by simp) rfl) (q8 10 (.agg #[qyq 3,qyq 3,qyq 2]) rfl rfl rfl (qQ (i:=2) rfl tf27 rfl rfl (by simp) rfl) (qm 11 (.bool (((x23:Int) == 3) && (((x24:Int) == 3) && ((x25:Int) == 2)))) rfl rfl rfl (qpt rfl rfl se27) ?_))
 refine au [112] ?_
 refine qi (d:=49) (v:=.bool true) rfl (by rw[h81] <;> rfl) (q8 14 (.agg #[.slice a31 x30.1.length c32.1]) rfl rfl rfl (qQ (i:=1) rfl tf30 rfl rfl (by simp) rfl) ?_)
 refine au [20,15,29,3] ?_
 rintro x82 e82 ⟨a83,c84⟩
 refine au [0,27,7,20,16] ?_
 refine qg qjg ?_
 intro x85 e85 _
 refine av [0,27,7,7,17,7,18,26,4] ?_ ?_
 intro h86
 refine qi (d:=54) (v:=.bool true) rfl (by rw[h86] <;> rfl) ?_
 refine av [7,19,7,20,7,21,7,22,26,4] ?_ ?_
 intro h87
 refine qi (d:=58) (v:=.bool true) rfl (by rw[h87] <;> rfl) ?_
 refine av [7,23,26,11,24,7,25,7,26,7,27,26,4] ?_ ?_
 intro h88
 refine qi (d:=63) (v:=.bool true) rfl (by rw[h88] <;> rfl) ?_
 refine au [7,28,20,29,36,12] ?_
 intro x89 e89 g90 h91
 refine au [0,27,7,20,30] ?_
 refine qfB (j:=3) (y:=x89) (qp .i64) rfl rfl tf3 rfl h91 (qP e89).2.2 (fun _=>rfl) rfl rfl ?_
 refine av [0,27,7,7,31,7,32,7,33,26,4] ?_ ?_
 intro h92
 refine qi (d:=69) (v:=.bool true) rfl (by rw[h92] <;> rfl) ?_
 refine au [7,34,20,35,36,12] ?_
 intro x93 e93 g94 h95
 refine au [0,27,7,20,36] ?_
 refine qfB (j:=3) (y:=x93) (qp .i64) rfl rfl tf3 rfl h95 (qP e93).2.2 (fun _=>rfl) rfl rfl ?_
 refine av [0,27,7,7,37,7,38,7,39,26,4] ?_ ?_
 intro h96
 refine qi (d:=75) (v:=.bool true) rfl (by rw[h96] <;> rfl) ?_
 refine av [7,40,26,11,41,7,42,123,26,4] ?_ ?_
 intro h97
 refine qi (d:=80) (v:=.bool true) rfl (by rw[h97] <;> rfl) ?_
 refine au [7,45,20,46] ?_
 refine qd1 (j:=4) rfl UnF.u inferInstance rfl rfl rfl rfl ?_
 intro x98 e98 g99 h0
 refine au [0,27,7,20,47] ?_
 refine qfB (j:=4) (y:=x98) (qp .i64) rfl rfl tf3 rfl h0 (qP e98).2.2 (fun _=>rfl) rfl rfl ?_
 refine av [0,27,7,7,48,7,49,7,50,26,4] ?_ ?_
 intro h1
 refine qi (d:=86) (v:=.bool true) rfl (by rw[h1] <;> rfl) ?_
 refine av [7,51,7,52,122,26,4] ?_ ?_
 intro h2
 refine qi (d:=90) (v:=.bool true) rfl (by rw[h2] <;> rfl) ?_
 refine au [7,55,7,56,7,57,111] ?_
 exact qx (qb (((x50.2:Int) == 1),())) (by intro c h;cases h)
 intro h2
 refine qi (d:=90) (v:=.bool false) rfl (by rw[h2] <;> rfl) ?_
 refine au [8,55,119,111] ?_
 exact qx (qb (false,())) (by intro c h;cases h)
 intro h1
 refine qi (d:=86) (v:=.bool false) rfl (by rw[h1] <;> rfl) ?_
 refine au [8,51,8,52,122,8,55,119,111] ?_
 exact qx (qb (false,())) (by intro c h;cases h)
 intro h97
 refine qi (d:=80) (v:=.bool false) rfl (by rw[h97] <;> rfl) ?_
 refine au [8,45,8,46,8,47,8,48,7,49,7,50,8,51,8,52,122,8,55,119,111] ?_
 exact qx (qb (false,())) (by intro c h;cases h)
 intro h96
 refine qi (d:=75) (v:=.bool false) rfl (by rw[h96] <;> rfl) ?_
 refine au [127,123,8,45,8,46,8,47,8,48,7,49,7,50,8,51,8,52,122,8,55,119,111] ?_
 exact qx (qb (false,())) (by intro c h;cases h)
 intro h92
 refine qi (d:=69) (v:=.bool false) rfl (by rw[h92] <;> rfl) ?_
 refine au [121,120,7,38,7,39,127,123,8,45,8,46,8,47,8,48,7,49,7,50,8,51,8,52,122,8,55,119,111] ?_
 exact qx (qb (false,())) (by intro c h;cases h)
 intro h88
 refine qi (d:=63) (v:=.bool false) rfl (by rw[h88] <;> rfl) ?_
 refine au [8,28,8,29,8,30,8,31,7,32,7,33,121,120,7,38,7,39,127,123,8,45,8,46,8,47,8,48,7,49,7,50,8,51,8,52,122,8,55,119,111] ?_
 exact qx (qb (false,())) (by intro c h;cases h)
 intro h87
 refine qi (d:=58) (v:=.bool false) rfl (by rw[h87] <;> rfl) ?_
 refine au [8,23,8,24,8,25,7,26,7,27,8,28,8,29,8,30,8,31,7,32,7,33,121,120,7,38,7,39,127,123,8,45,8,46,8,47,8,48,7,49,7,50,8,51,8,52,122,8,55,119,111] ?_
 exact qx (qb (false,())) (by intro c h;cases h)
 intro h86
 refine qi (d:=54) (v:=.bool false) rfl (by rw[h86] <;> rfl) ?_
 refine au [8,19,8,20,7,21,7,22,8,23,8,24,8,25,7,26,7,27,8,28,8,29,8,30,8,31,7,32,7,33,121,120,7,38,7,39,127,123,8,45,8,46,8,47,8,48,7,49,7,50,8,51,8,52,122,8,55,119,111] ?_
 exact qx (qb (false,())) (by intro c h;cases h)
 intro h81
 refine qy mixed [] [⟨g53,30,[.slice a51 x50.1.length c52.1]⟩,⟨g33,30,[.slice a31 x30.1.length c32.1]⟩,⟨g1,27,[qyq 3,qyq 3,qyq 2]⟩,⟨g20,53,[qyq x22,qyq x23,qyq x24,qyq x25,qyq x26,.slice a27 x29.length c28]⟩] [] (.cons 0 rfl (.cons 0 rfl (.cons 0 rfl (.cons 0 rfl .nil)))) qw 59 rfl ?_
 refine au [88,7,2] ?_
 refine qi (d:=38) (v:=.bool true) rfl (by rw[h79] <;> rfl) ?_
 refine au [24,0,3,29,13,4,7,5,7,6,7,7] ?_
 refine qi (d:=43) (v:=.bool true) rfl (by rw[h80] <;> rfl) ?_
 refine au [24,0,8] ?_
 refine q8 9 (.agg #[qyq x23,qyq x24,qyq x25]) rfl rfl rfl (qQ (i:=3) rfl tf27 rfl rfl (by simp) rfl) (q8 10 (.agg #[qyq 3,qyq 3,qyq 2]) rfl rfl rfl (qQ (i:=2) rfl tf27 rfl rfl (by simp) rfl) (qm 11 (.bool (((x23:Int) == 3) && (((x24:Int) == 3) && ((x25:Int) == 2)))) rfl rfl rfl (qpt rfl rfl se27) ?_))
 refine au [112] ?_
 refine qi (d:=49) (v:=.bool false) rfl (by rw[h81] <;> rfl) ?_
 refine au [8,14,8,15,8,16,7,17,7,18,8,19,8,20,7,21,7,22,8,23,8,24,8,25,7,26,7,27,8,28,8,29,8,30,8,31,7,32,7,33,121,120,7,38,7,39,127,123,8,45,8,46,8,47,8,48,7,49,7,50,8,51,8,52,122,8,55,119,111] ?_
 exact qx (qb (false,())) (by intro c h;cases h)
 intro h80
 refine qy mixed [] [⟨g53,30,[.slice a51 x50.1.length c52.1]⟩,⟨g33,30,[.slice a31 x30.1.length c32.1]⟩,⟨g1,27,[qyq 3,qyq 3,qyq 2]⟩,⟨g20,53,[qyq x22,qyq x23,qyq x24,qyq x25,qyq x26,.slice a27 x29.length c28]⟩] [] (.cons 0 rfl (.cons 0 rfl (.cons 0 rfl (.cons 0 rfl .nil)))) qw 59 rfl ?_
 refine au [88,7,2] ?_
 refine qi (d:=38) (v:=.bool true) rfl (by rw[h79] <;> rfl) ?_
 refine au [24,0,3,29,13,4,7,5,7,6,7,7] ?_
 refine qi (d:=43) (v:=.bool false) rfl (by rw[h80] <;> rfl) ?_
 refine au [8,8,8,9,8,10,8,11,112,8,14,8,15,8,16,7,17,7,18,8,19,8,20,7,21,7,22,8,23,8,24,8,25,7,26,7,27,8,28,8,29,8,30,8,31,7,32,7,33,121,120,7,38,7,39,127,123,8,45,8,46,8,47,8,48,7,49,7,50,8,51,8,52,122,8,55,119,111] ?_
 exact qx (qb (false,())) (by intro c h;cases h)
 intro h79
 refine qy mixed [] [⟨g53,30,[.slice a51 x50.1.length c52.1]⟩,⟨g33,30,[.slice a31 x30.1.length c32.1]⟩,⟨g1,27,[qyq 3,qyq 3,qyq 2]⟩,⟨g20,53,[qyq x22,qyq x23,qyq x24,qyq x25,qyq x26,.slice a27 x29.length c28]⟩] [] (.cons 0 rfl (.cons 0 rfl (.cons 0 rfl (.cons 0 rfl .nil)))) qw 59 rfl ?_
 refine au [88,7,2] ?_
 refine qi (d:=38) (v:=.bool false) rfl (by rw[h79] <;> rfl) ?_
 refine au [8,3,8,4,8,5,7,6,7,7,8,8,8,9,8,10,8,11,112,8,14,8,15,8,16,7,17,7,18,8,19,8,20,7,21,7,22,8,23,8,24,8,25,7,26,7,27,8,28,8,29,8,30,8,31,7,32,7,33,121,120,7,38,7,39,127,123,8,45,8,46,8,47,8,48,7,49,7,50,8,51,8,52,122,8,55,119,111] ?_
 exact qx (qb (false,())) (by intro c h;cases h)
 rintro ⟨x78,_⟩
 try dsimp only
 exact az [9,18]
theorem qlP {F:Nat}{x1:Int}{x2:qyo}{a3:qyp}{c4:Nat}{x5:Int}{r:(Int×Int)}(hm:qhu F x1 x2 x5=some r) :
    Pure Tryz.prog 102 [.agg #[qyq x1,.slice a3 x2.length c4],qyq x5] [Sl (eI .u8) 1 (.slice a3 x2.length c4) x2] Unit (fun _=>.tuple #[qyq r.1,qyq r.2]) (fun _=>[]) (fun _=>[]):=by
 refine ql Tryz.func102 rfl Tryz.ntmps102 rfl hm (fun w=>?_)
 refine au [94] ?_
 intro g6
 refine au [5,60,3,61,24,4,1,31,11] ?_
 intro x9 e9 _
 refine av [75,81] ?_ ?_
 intro _
 exact az [62,5,99]
 intro _
 refine au [108,24,4,1,31,15] ?_
 intro x10 e10 _
 exact az [5,85]
set_option maxHeartbeats 4000000 in
theorem qjp {F:Nat}{x1:Int}{x2:qyo}{a3:qyp}{c4:Nat}{x5:Int}{x6:Int}{r:(Int×Int)}(hm:qdg F x1 x2 x5 x6=some r) :
    Pure Tryz.prog 103 [.agg #[qyq x1,.slice a3 x2.length c4],qyq x5,qyq x6] [Sl (eI .u8) 1 (.slice a3 x2.length c4) x2] Unit (fun _=>.tuple #[qyq r.1,qyq r.2]) (fun _=>[]) (fun _=>[]):=by
 refine ql Tryz.func103 rfl Tryz.ntmps103 rfl hm (fun w=>?_)
 refine au [106] ?_
 intro g7
 refine au [5,91,28,1] ?_
 intro x8 e8 _
 refine au [60] ?_
 refine qh (fun ((x16,_):(Int×Unit))=>([(1,qyq x5),(2,qyq x6),(3,.pointer (some ⟨g7,0,none⟩)),(8,qyq x16)],[⟨g7,25,[qyq x1,.slice a3 x2.length c4]⟩],[],[Sl (eI .u8) 1 (.slice a3 x2.length c4) x2],qcI F x1 x2 x5 x6 x16)) ?_ ?_
 refine au [98,1] ?_
 refine qq 11 (fun ((x25,_):(Bool×Unit))=>([(1,qyq x5),(2,qyq x6),(3,.pointer (some ⟨g7,0,none⟩)),(8,qyq x8),(25,.bool x25)],[⟨g7,25,[qyq x1,.slice a3 x2.length c4]⟩],[],[Sl (eI .u8) 1 (.slice a3 x2.length c4) x2],qcJ F x1 x2 x5 x6 x8 x25)) ?_ ?_
 refine qa (os:=_) rfl ?_
 refine av [24,12] ?_ ?_
 intro h22
 refine qf (k:=14) rfl h22 ?_
 refine au [1,125] ?_
 refine qk 3 (decide (x5<0)) [(1,qyq x5),(2,qyq x6),(3,.pointer (some ⟨g7,0,none⟩)),(8,qyq x8),(14,.bool true),(20,.bool ((decide (x5<0)) || (decide (1<x5))))] (fun h27=>?_) (fun h27=>?_) ?_
 refine qa (os:=_) rfl (qf (k:=17) rfl h27 ?_)
 refine au [66,16] ?_
 refine qc (d:=20) (v:=.bool ((decide (x5<0)) || (decide (1<x5)))) rfl (by rw[h27];simp only[qv4]) ?_
 exact az [68]
 refine qa (os:=_) rfl (qe (k:=17) rfl h27 ?_)
 refine au [1,92] ?_
 refine qc (d:=20) (v:=.bool ((decide (x5<0)) || (decide (1<x5)))) rfl (by rw[h27];simp only[qv2]) ?_
 exact az [68]
 refine qa (os:=_) rfl ?_
 refine au [1] ?_
 refine qk 3 ((decide (x5<0)) || (decide (1<x5))) [(1,qyq x5),(2,qyq x6),(3,.pointer (some ⟨g7,0,none⟩)),(8,qyq x8),(14,.bool true),(24,.bool (((decide (x5<0)) || (decide (1<x5))) || (decide (x6<0))))] (fun h28=>?_) (fun h28=>?_) ?_
 refine qa (os:=_) rfl (qf (k:=21) rfl h28 ?_)
 refine au [66,16] ?_
 refine qc (d:=24) (v:=.bool (((decide (x5<0)) || (decide (1<x5))) || (decide (x6<0)))) rfl (by rw[h28];simp only[qv4]) ?_
 exact az [68]
 refine qa (os:=_) rfl (qe (k:=21) rfl h28 ?_)
 refine au [1,24,5,17] ?_
 refine qc (d:=24) (v:=.bool (((decide (x5<0)) || (decide (1<x5))) || (decide (x6<0)))) rfl (by rw[h28];simp only[qv2]) ?_
 exact az [68]
 refine qa (os:=_) rfl ?_
 refine au [16,0] ?_
 exact qb ((((decide (x5<0)) || (decide (1<x5))) || (decide (x6<0))),())
 intro h22
 refine qe (k:=14) rfl h22 ?_
 refine au [72,72,90,0] ?_
 exact qb (false,())
 rintro ⟨x25,_⟩
 try dsimp only
 refine qa (os:=_) rfl ?_
 refine av [63] ?_ ?_
 intro _
 refine au [4,5,0] ?_
 exact qb ((3:Int),())
 intro _
 refine au [13] ?_
 exact qb (x8,())
 rintro ⟨x16,_⟩
 try dsimp only
 refine av [83,81] ?_ ?_
 intro _
 exact az [62,5,99]
 intro _
 refine au [108,24,4,1,25,11,1,32,0] ?_
 intro x18 e18 _
 refine av [93,101] ?_ ?_
 intro _
 exact az [61,5,99]
 intro _
 exact az [74,62,5,85]
set_option maxHeartbeats 4000000 in
theorem qeD {F:Nat}{x1:qyo}{a2:qyp}{c3:Nat}{x4:qyo}{a5:qyp}{c6:Nat}{r:Bool}(hm:qci F x1 x4=some r) :
    Pure Tryz.prog 183 [.slice a2 x1.length c3,.slice a5 x4.length c6] [Sl (eI .i64) 1 (.slice a2 x1.length c3) x1,Sl (eI .i64) 1 (.slice a5 x4.length c6) x4] Unit (fun _=>.bool r) (fun _=>[]) (fun _=>[]):=by
 refine ql Tryz.func183 rfl Tryz.ntmps183 rfl hm (fun w=>?_)
 refine av [69,93,89,24,6,81] ?_ ?_
 intro _
 exact az [61,99]
 intro _
 refine au [74] ?_
 refine qh (fun ((_,_):(Unit×Unit))=>([],[],[],[],qbd F)) ?_ ?_
 refine au [124] ?_
 refine qu (fun ((x0,_):(Int×Unit))=>([(0,.slice a2 x1.length c3),(1,.slice a5 x4.length c6),(12,qyq (x1.length:Int)),(13,qyq x0)],[],[],[Sl (eI .i64) 1 (.slice a2 x1.length c3) x1,Sl (eI .i64) 1 (.slice a5 x4.length c6) x4])) (fun k (s:(Int×Unit))=>kM F x1 x4 k s.1) (0,()) F ?_
 intro k0
 rintro ⟨x0,_⟩
 try dsimp only
 refine qB (m':=qbc F x1 x4 (kM F x1 x4 k0) x0) rfl ?_
 refine av [118] ?_ ?_
 intro _
 refine au [74,3,19,62,60,3,29,12] ?_
 intro x2 e0 b0 o0 h0
 replace h0:a2=some ⟨b0,o0,none⟩:=h0
 refine au [36,7] ?_
 intro x3 e1 b1 o1 h1
 replace h1:a5=some ⟨b1,o1,none⟩:=h1
 refine qy mixed [] [] [qK b1 (o1+x0.toNat*1) ((eI .i64) x3),qK b0 (o0+x0.toNat*1) ((eI .i64) x2),Sl (eI .i64) 1 (.slice a2 x1.length c3) x1,Sl (eI .i64) 1 (.slice a5 x4.length c6) x4] .nil (qt 0 rfl (qt 1 rfl (qt 2 rfl (qt 3 rfl qw)))) 9 rfl ?_
 refine au [88] ?_
 refine qi (d:=16) (v:=.slice (some ⟨b0,o0,none⟩) x1.length c3) rfl (by rw[h0] <;> rfl) (qm 2 (.pointer (some ⟨b0,(o0+x0.toNat*1),none⟩)) rfl rfl rfl (vI Tryz.underlying22 tf3 rfl rfl (qP e0).1 (yr e0)) (qi (d:=16) (v:=.slice a2 x1.length c3) rfl (by rw[h0] <;> rfl) (qO 3 (qyq x2) [] rfl rfl rfl (zG (j:=1) rfl tf3 rfl rfl (fun _=>rfl) rfl) ?_)))
 refine au [115] ?_
 refine qi (d:=20) (v:=.slice (some ⟨b1,o1,none⟩) x4.length c6) rfl (by rw[h1] <;> rfl) (qm 6 (.pointer (some ⟨b1,(o1+x0.toNat*1),none⟩)) rfl rfl rfl (vI Tryz.underlying22 tf3 rfl rfl (qP e1).1 (yr e1)) (qi (d:=20) (v:=.slice a5 x4.length c6) rfl (by rw[h1] <;> rfl) (qO 7 (qyq x3) [] rfl rfl rfl (zG (j:=0) rfl tf3 rfl rfl (fun _=>rfl) rfl) ?_)))
 refine au [7,8,24,8] ?_
 refine qx ?_ (by intro c h;cases h)
 refine av [2,11] ?_ ?_
 intro _
 exact az [61,64,129,18]
 intro _
 refine au [13,78,4,23,1,0] ?_
 exact qr (iadd .i64 x0 1,())
 intro _
 exact az [87,26,0]
 rintro ⟨_,_⟩
 try dsimp only
 exact az [61,85]
set_option maxHeartbeats 4000000 in
theorem qkB {F:Nat}{x1:Int}{x2:qyo}{a3:qyp}{c4:Nat}{x5:Int}{x6:qyo}{a7:qyp}{c8:Nat}{r:Int}(hm:qeH F x1 x2 x5 x6=some r) :
    Pure Tryz.prog 105 [.agg #[qyq x1,.slice a3 x2.length c4],.agg #[qyq x5,.slice a7 x6.length c8]] [Sl (eI .u8) 1 (.slice a3 x2.length c4) x2,Sl (eI .i64) 1 (.slice a7 x6.length c8) x6] Unit (fun _=>qyq r) (fun _=>[]) (fun _=>[]):=by
 refine ql Tryz.func105 rfl Tryz.ntmps105 rfl hm (fun w=>?_)
 refine au [94] ?_
 intro g9
 refine au [24,1] ?_
 intro g10
 refine au [60,3,61,25,4,73,35,14] ?_
 intro x13 e13 _
 refine av [75,81] ?_ ?_
 intro _
 exact az [62,99]
 intro _
 refine au [74,3,3] ?_
 refine qy mixed [] [⟨g10,60,[qyq x5,.slice a7 x6.length c8]⟩,⟨g9,25,[qyq x1,.slice a3 x2.length c4]⟩] [Sl (eI .u8) 1 (.slice a3 x2.length c4) x2,Sl (eI .i64) 1 (.slice a7 x6.length c8) x6] (.cons 0 rfl (.cons 0 rfl .nil)) (qt 0 rfl (qt 1 rfl qw)) 8 rfl ?_
 refine au [100] ?_
 refine q8 2 (.agg #[qyq x1,.slice a3 x2.length c4]) rfl rfl rfl (qQ (i:=1) rfl tf25 rfl rfl (by simp) rfl) ?_
 refine au [24,0,3,25,2,4,20,5,35,15] ?_
 rintro x27 e27 ⟨a28,c29⟩
 refine au [0,29,2,20,6] ?_
 refine qg qeD ?_
 intro x30 e30 _
 refine au [0,29,2,7,7,24,8] ?_
 refine qx ?_ (by intro c h;cases h)
 refine av [2,11] ?_ ?_
 intro _
 exact az [61,99]
 intro _
 exact az [108,85]
set_option maxHeartbeats 4000000 in
theorem qpB {F:Nat}{x1:Int}{x2:qyo}{a3:qyp}{c4:Nat}{x5:Int}{x6:qyo}{a7:qyp}{c8:Nat}{x9:Int}{r:(Int×Int)}(hm:qjI F x1 x2 x5 x6 x9=some r) :
    Pure Tryz.prog 104 [.agg #[qyq x1,.slice a3 x2.length c4],.agg #[qyq x5,.slice a7 x6.length c8],qyq x9] [Sl (eI .u8) 1 (.slice a3 x2.length c4) x2,Sl (eI .i64) 1 (.slice a7 x6.length c8) x6] Unit (fun _=>.tuple #[qyq r.1,qyq r.2]) (fun _=>[]) (fun _=>[]):=by
 refine ql Tryz.func104 rfl Tryz.ntmps104 rfl hm (fun w=>?_)
 refine au [106] ?_
 intro g10
 refine au [24,1] ?_
 intro g11
 refine au [5,79,25,4,24,4,36,13] ?_
 intro x12 e12 _
 refine au [60] ?_
 refine qh (fun ((x18,_):(Int×Unit))=>([(2,qyq x9),(3,.pointer (some ⟨g10,0,none⟩)),(4,.pointer (some ⟨g11,0,none⟩)),(8,qyq x18)],[⟨g11,60,[qyq x5,.slice a7 x6.length c8]⟩,⟨g10,25,[qyq x1,.slice a3 x2.length c4]⟩],[],[Sl (eI .i64) 1 (.slice a7 x6.length c8) x6,Sl (eI .u8) 1 (.slice a3 x2.length c4) x2],qeF F x1 x2 x5 x6 x9 x18)) ?_ ?_
 refine au [98,1] ?_
 refine qq 9 (fun ((x34,_):(Bool×Unit))=>([(2,qyq x9),(3,.pointer (some ⟨g10,0,none⟩)),(4,.pointer (some ⟨g11,0,none⟩)),(8,qyq x12),(24,.bool x34)],[⟨g11,60,[qyq x5,.slice a7 x6.length c8]⟩,⟨g10,25,[qyq x1,.slice a3 x2.length c4]⟩],[],[Sl (eI .i64) 1 (.slice a7 x6.length c8) x6,Sl (eI .u8) 1 (.slice a3 x2.length c4) x2],qeG F x1 x2 x5 x6 x9 x12 x34)) ?_ ?_
 refine qa (os:=_) rfl ?_
 refine av [24,12] ?_ ?_
 intro h32
 refine qf (k:=15) rfl h32 ?_
 refine au [1,125] ?_
 refine qk 5 (decide (x9<0)) [(2,qyq x9),(3,.pointer (some ⟨g10,0,none⟩)),(4,.pointer (some ⟨g11,0,none⟩)),(8,qyq x12),(15,.bool true),(23,.bool ((decide (x9<0)) || (decide (x1<x9))))] (fun h36=>?_) (fun h36=>?_) ?_
 refine qa (os:=_) rfl (qf (k:=18) rfl h36 ?_)
 refine au [72,16] ?_
 refine qc (d:=23) (v:=.bool ((decide (x9<0)) || (decide (x1<x9)))) rfl (by rw[h36];simp only[qv4]) ?_
 exact az [68]
 refine qa (os:=_) rfl (qe (k:=18) rfl h36 ?_)
 refine au [1,84,92] ?_
 refine qc (d:=23) (v:=.bool ((decide (x9<0)) || (decide (x1<x9)))) rfl (by rw[h36];simp only[qv2]) ?_
 exact az [68]
 refine qa (os:=_) rfl ?_
 refine au [16,0] ?_
 exact qb (((decide (x9<0)) || (decide (x1<x9))),())
 intro h32
 refine qe (k:=15) rfl h32 ?_
 refine au [72,72,17,0] ?_
 exact qb (false,())
 rintro ⟨x34,_⟩
 try dsimp only
 refine qa (os:=_) rfl ?_
 refine av [63] ?_ ?_
 intro _
 refine au [4,5,0] ?_
 exact qb ((3:Int),())
 intro _
 refine au [13] ?_
 exact qb (x12,())
 rintro ⟨x18,_⟩
 try dsimp only
 refine av [83,81] ?_ ?_
 intro _
 exact az [62,5,99]
 intro _
 refine au [74,62,73,25,13] ?_
 intro h20
 refine qhR rfl rfl rfl rfl h20 ?_
 refine au [60,3,29,12] ?_
 intro x26 e26 b27 o28 h29
 replace h29:a7=some ⟨b27,o28,none⟩:=h29
 refine qy mixed [] [⟨g11,60,[qyq x5,.slice a7 x6.length c8]⟩,⟨g10,25,[qyq x1,.slice a3 x2.length c4]⟩] [qK b27 (o28+(iquo .i64 x9 x5).toNat*1) ((eI .i64) x26),Sl (eI .i64) 1 (.slice a7 x6.length c8) x6,Sl (eI .u8) 1 (.slice a3 x2.length c4) x2] (.cons 0 rfl (.cons 0 rfl .nil)) (qt 0 rfl (qt 1 rfl (qt 2 rfl qw))) 15 rfl ?_
 refine au [100,7,2] ?_
 refine qi (d:=33) (v:=.slice (some ⟨b27,o28,none⟩) x6.length c8) rfl (by rw[h29] <;> rfl) (qm 3 (.pointer (some ⟨b27,(o28+(iquo .i64 x9 x5).toNat*1),none⟩)) rfl rfl rfl (vI Tryz.underlying22 tf3 rfl rfl (qP e26).1 (yr e26)) (qi (d:=33) (v:=.slice a7 x6.length c8) rfl (by rw[h29] <;> rfl) (qO 4 (qyq x26) [] rfl rfl rfl (zG (j:=0) rfl tf3 rfl rfl (fun _=>rfl) rfl) (q8 5 (.agg #[qyq x1,.slice a3 x2.length c4]) rfl rfl rfl (qQ (i:=1) rfl tf25 rfl rfl (by simp) rfl) ?_))))
 refine au [7,6,24,0,7,25,2,8,7,9,7,10,20,11,31,15] ?_
 intro x30 e30 _
 refine au [0,32,5,112,7,14,24,8] ?_
 refine qx ?_ (by intro c h;cases h)
 exact az [2,9,18]
set_option maxHeartbeats 4000000 in
theorem qjb {F:Nat}  {r:Bool}(hm:qcY F =some r) :
    Pure Tryz.prog 30 [] [] Unit (fun _=>.bool r) (fun _=>[]) (fun _=>[]):=by
 refine ql Tryz.func30 rfl Tryz.ntmps30 rfl hm (fun w=>?_)
 refine au [27,2,61,79] ?_
 refine qn (vs:=[.int .u8 180,.int .u8 192]) (ys:=([180,192]:qyo)) (qp .u8) (by decide) rfl Tryz.underlying23 tf5 rfl rfl rfl rfl rfl (by decide) (fun a1 c2=>qo (cells:=[qyq 10,.slice a1 ([180,192]:qyo).length c2]) rfl st25 rfl (by kernel_rfl) rfl ?_)
 refine au [24,9] ?_
 intro g3
 refine au [97,61,24,4] ?_
 refine qg qlP ?_
 intro x4 e4 _
 refine au [80,5,91,32,6] ?_
 intro x5 e5 _
 refine au [80,5,91,32,6] ?_
 intro x6 e6 _
 refine au [80,5,91] ?_
 refine qg (fun h=>qgl F _ _ _ _ _ _ h) ?_
 rintro x7 e7 ⟨a8,c9⟩
 refine au [95] ?_
 intro g10
 refine au [24,3,79,25,4,24,4] ?_
 refine qg qpB ?_
 intro x11 e11 _
 refine au [80,5,79,25,4,32,6] ?_
 intro x12 e12 _
 refine au [80,5,75,24,2,1] ?_
 refine qk 3 ((x4.1:Int) == 4) [(1,.pointer (some ⟨g3,0,none⟩)),(4,qyq x5.1),(5,qyq x5.2),(6,qyq x6.1),(7,qyq x6.2),(8,.pointer (some ⟨g10,0,none⟩)),(9,qyq x7.2.2),(10,qyq x11.1),(11,qyq x11.2),(13,qyq x12.2),(52,.bool (((x4.1:Int) == 4) && ((x4.2:Int) == 0)))] (fun h13=>?_) (fun h13=>?_) ?_
 refine qa (os:=_) rfl (qf (k:=49) rfl h13 ?_)
 refine au [1,76] ?_
 refine qc (d:=52) (v:=.bool (((x4.1:Int) == 4) && ((x4.2:Int) == 0))) rfl (by rw[h13];simp only[qvZ]) ?_
 exact az [68]
 refine qa (os:=_) rfl (qe (k:=49) rfl h13 ?_)
 refine au [90] ?_
 refine qc (d:=52) (v:=.bool (((x4.1:Int) == 4) && ((x4.2:Int) == 0))) rfl (by rw[h13];simp only[qvT]) ?_
 exact az [68]
 refine qa (os:=_) rfl ?_
 refine au [1] ?_
 refine qk 3 (((x4.1:Int) == 4) && ((x4.2:Int) == 0)) [(1,.pointer (some ⟨g3,0,none⟩)),(5,qyq x5.2),(6,qyq x6.1),(7,qyq x6.2),(8,.pointer (some ⟨g10,0,none⟩)),(9,qyq x7.2.2),(10,qyq x11.1),(11,qyq x11.2),(13,qyq x12.2),(56,.bool ((((x4.1:Int) == 4) && ((x4.2:Int) == 0)) && ((x5.1:Int) == 8)))] (fun h14=>?_) (fun h14=>?_) ?_
 refine qa (os:=_) rfl (qf (k:=53) rfl h14 ?_)
 refine au [1,76] ?_
 refine qc (d:=56) (v:=.bool ((((x4.1:Int) == 4) && ((x4.2:Int) == 0)) && ((x5.1:Int) == 8))) rfl (by rw[h14];simp only[qvZ]) ?_
 exact az [68]
 refine qa (os:=_) rfl (qe (k:=53) rfl h14 ?_)
 refine au [90] ?_
 refine qc (d:=56) (v:=.bool ((((x4.1:Int) == 4) && ((x4.2:Int) == 0)) && ((x5.1:Int) == 8))) rfl (by rw[h14];simp only[qvT]) ?_
 exact az [68]
 refine qa (os:=_) rfl ?_
 refine au [1] ?_
 refine qk 3 ((((x4.1:Int) == 4) && ((x4.2:Int) == 0)) && ((x5.1:Int) == 8)) [(1,.pointer (some ⟨g3,0,none⟩)),(6,qyq x6.1),(7,qyq x6.2),(8,.pointer (some ⟨g10,0,none⟩)),(9,qyq x7.2.2),(10,qyq x11.1),(11,qyq x11.2),(13,qyq x12.2),(60,.bool (((((x4.1:Int) == 4) && ((x4.2:Int) == 0)) && ((x5.1:Int) == 8)) && ((x5.2:Int) == 0)))] (fun h15=>?_) (fun h15=>?_) ?_
 refine qa (os:=_) rfl (qf (k:=57) rfl h15 ?_)
 refine au [1,76] ?_
 refine qc (d:=60) (v:=.bool (((((x4.1:Int) == 4) && ((x4.2:Int) == 0)) && ((x5.1:Int) == 8)) && ((x5.2:Int) == 0))) rfl (by rw[h15];simp only[qvZ]) ?_
 exact az [68]
 refine qa (os:=_) rfl (qe (k:=57) rfl h15 ?_)
 refine au [90] ?_
 refine qc (d:=60) (v:=.bool (((((x4.1:Int) == 4) && ((x4.2:Int) == 0)) && ((x5.1:Int) == 8)) && ((x5.2:Int) == 0))) rfl (by rw[h15];simp only[qvT]) ?_
 exact az [68]
 refine qa (os:=_) rfl ?_
 refine au [1] ?_
 refine qk 3 (((((x4.1:Int) == 4) && ((x4.2:Int) == 0)) && ((x5.1:Int) == 8)) && ((x5.2:Int) == 0)) [(1,.pointer (some ⟨g3,0,none⟩)),(7,qyq x6.2),(8,.pointer (some ⟨g10,0,none⟩)),(9,qyq x7.2.2),(10,qyq x11.1),(11,qyq x11.2),(13,qyq x12.2),(64,.bool ((((((x4.1:Int) == 4) && ((x4.2:Int) == 0)) && ((x5.1:Int) == 8)) && ((x5.2:Int) == 0)) && ((x6.1:Int) == 1)))] (fun h16=>?_) (fun h16=>?_) ?_
 refine qa (os:=_) rfl (qf (k:=61) rfl h16 ?_)
 refine au [1,76] ?_
 refine qc (d:=64) (v:=.bool ((((((x4.1:Int) == 4) && ((x4.2:Int) == 0)) && ((x5.1:Int) == 8)) && ((x5.2:Int) == 0)) && ((x6.1:Int) == 1))) rfl (by rw[h16];simp only[qvZ]) ?_
 exact az [68]
 refine qa (os:=_) rfl (qe (k:=61) rfl h16 ?_)
 refine au [90] ?_
 refine qc (d:=64) (v:=.bool ((((((x4.1:Int) == 4) && ((x4.2:Int) == 0)) && ((x5.1:Int) == 8)) && ((x5.2:Int) == 0)) && ((x6.1:Int) == 1))) rfl (by rw[h16];simp only[qvT]) ?_
 exact az [68]
 refine qa (os:=_) rfl ?_
 refine au [1] ?_
 refine qk 3 ((((((x4.1:Int) == 4) && ((x4.2:Int) == 0)) && ((x5.1:Int) == 8)) && ((x5.2:Int) == 0)) && ((x6.1:Int) == 1)) [(1,.pointer (some ⟨g3,0,none⟩)),(8,.pointer (some ⟨g10,0,none⟩)),(9,qyq x7.2.2),(10,qyq x11.1),(11,qyq x11.2),(13,qyq x12.2),(68,.bool (((((((x4.1:Int) == 4) && ((x4.2:Int) == 0)) && ((x5.1:Int) == 8)) && ((x5.2:Int) == 0)) && ((x6.1:Int) == 1)) && ((x6.2:Int) == 0)))] (fun h17=>?_) (fun h17=>?_) ?_
 refine qa (os:=_) rfl (qf (k:=65) rfl h17 ?_)
 refine au [1,76] ?_
 refine qc (d:=68) (v:=.bool (((((((x4.1:Int) == 4) && ((x4.2:Int) == 0)) && ((x5.1:Int) == 8)) && ((x5.2:Int) == 0)) && ((x6.1:Int) == 1)) && ((x6.2:Int) == 0))) rfl (by rw[h17];simp only[qvZ]) ?_
 exact az [68]
 refine qa (os:=_) rfl (qe (k:=65) rfl h17 ?_)
 refine au [90] ?_
 refine qc (d:=68) (v:=.bool (((((((x4.1:Int) == 4) && ((x4.2:Int) == 0)) && ((x5.1:Int) == 8)) && ((x5.2:Int) == 0)) && ((x6.1:Int) == 1)) && ((x6.2:Int) == 0))) rfl (by rw[h17];simp only[qvT]) ?_
 exact az [68]
 refine qa (os:=_) rfl ?_
 refine au [1] ?_
 refine qq 5 (fun ((x22,_):(Bool×Unit))=>([(1,.pointer (some ⟨g3,0,none⟩)),(9,qyq x7.2.2),(10,qyq x11.1),(11,qyq x11.2),(13,qyq x12.2),(74,.bool x22)],[⟨g3,25,[qyq 10,.slice a1 ([180,192]:qyo).length c2]⟩],[Ro (eI .u8) 5 1 (.slice a1 ([180,192]:qyo).length c2) ([180,192]:qyo)],[],qcC F x7 x11 x12 x22)) ?_ ?_
 refine qa (os:=_) rfl ?_
 refine av [24,12] ?_ ?_
 intro h18
 refine qf (k:=69) rfl h18 ?_
 refine au [73] ?_
 refine qn (vs:=[qyq 0,qyq 3,qyq 4]) (ys:=([0,3,4]:qyo)) (qp .i64) (by decide) rfl Tryz.underlying22 tf3 rfl rfl rfl rfl rfl (by decide) (fun a31 c32=>?_)
 refine au [26,5] ?_
 intro x33 e33 _
 refine au [16,0] ?_
 exact qb (x33,())
 intro h18
 refine qe (k:=69) rfl h18 ?_
 refine au [72,17,0] ?_
 exact qb (false,())
 rintro ⟨x22,_⟩
 try dsimp only
 refine qa (os:=_) rfl ?_
 refine au [1] ?_
 refine qk 3 x22 [(1,.pointer (some ⟨g3,0,none⟩)),(10,qyq x11.1),(11,qyq x11.2),(13,qyq x12.2),(78,.bool (x22 && ((x7.2.2:Int) == 0)))] (fun h23=>?_) (fun h23=>?_) ?_
 refine qa (os:=_) rfl (qf (k:=75) rfl h23 ?_)
 refine au [1,76] ?_
 refine qc (d:=78) (v:=.bool (x22 && ((x7.2.2:Int) == 0))) rfl (by rw[h23];simp only[qvZ]) ?_
 exact az [68]
 refine qa (os:=_) rfl (qe (k:=75) rfl h23 ?_)
 refine au [90] ?_
 refine qc (d:=78) (v:=.bool (x22 && ((x7.2.2:Int) == 0))) rfl (by rw[h23];simp only[qvT]) ?_
 exact az [68]
 refine qa (os:=_) rfl ?_
 refine au [1] ?_
 refine qk 3 (x22 && ((x7.2.2:Int) == 0)) [(1,.pointer (some ⟨g3,0,none⟩)),(11,qyq x11.2),(13,qyq x12.2),(82,.bool ((x22 && ((x7.2.2:Int) == 0)) && ((x11.1:Int) == 5)))] (fun h24=>?_) (fun h24=>?_) ?_
 refine qa (os:=_) rfl (qf (k:=79) rfl h24 ?_)
 refine au [1,76] ?_
 refine qc (d:=82) (v:=.bool ((x22 && ((x7.2.2:Int) == 0)) && ((x11.1:Int) == 5))) rfl (by rw[h24];simp only[qvZ]) ?_
 exact az [68]
 refine qa (os:=_) rfl (qe (k:=79) rfl h24 ?_)
 refine au [90] ?_
 refine qc (d:=82) (v:=.bool ((x22 && ((x7.2.2:Int) == 0)) && ((x11.1:Int) == 5))) rfl (by rw[h24];simp only[qvT]) ?_
 exact az [68]
 refine qa (os:=_) rfl ?_
 refine au [1] ?_
 refine qk 3 ((x22 && ((x7.2.2:Int) == 0)) && ((x11.1:Int) == 5)) [(1,.pointer (some ⟨g3,0,none⟩)),(13,qyq x12.2),(86,.bool (((x22 && ((x7.2.2:Int) == 0)) && ((x11.1:Int) == 5)) && ((x11.2:Int) == 0)))] (fun h25=>?_) (fun h25=>?_) ?_
 refine qa (os:=_) rfl (qf (k:=83) rfl h25 ?_)
 refine au [1,76] ?_
 refine qc (d:=86) (v:=.bool (((x22 && ((x7.2.2:Int) == 0)) && ((x11.1:Int) == 5)) && ((x11.2:Int) == 0))) rfl (by rw[h25];simp only[qvZ]) ?_
 exact az [68]
 refine qa (os:=_) rfl (qe (k:=83) rfl h25 ?_)
 refine au [90] ?_
 refine qc (d:=86) (v:=.bool (((x22 && ((x7.2.2:Int) == 0)) && ((x11.1:Int) == 5)) && ((x11.2:Int) == 0))) rfl (by rw[h25];simp only[qvT]) ?_
 exact az [68]
 refine qa (os:=_) rfl ?_
 refine au [1] ?_
 refine qk 3 (((x22 && ((x7.2.2:Int) == 0)) && ((x11.1:Int) == 5)) && ((x11.2:Int) == 0)) [(1,.pointer (some ⟨g3,0,none⟩)),(90,.bool ((((x22 && ((x7.2.2:Int) == 0)) && ((x11.1:Int) == 5)) && ((x11.2:Int) == 0)) && ((x12.2:Int) == 5)))] (fun h26=>?_) (fun h26=>?_) ?_
 refine qa (os:=_) rfl (qf (k:=87) rfl h26 ?_)
 refine au [1,76] ?_
 refine qc (d:=90) (v:=.bool ((((x22 && ((x7.2.2:Int) == 0)) && ((x11.1:Int) == 5)) && ((x11.2:Int) == 0)) && ((x12.2:Int) == 5))) rfl (by rw[h26];simp only[qvZ]) ?_
 exact az [68]
 refine qa (os:=_) rfl (qe (k:=87) rfl h26 ?_)
 refine au [90] ?_
 refine qc (d:=90) (v:=.bool ((((x22 && ((x7.2.2:Int) == 0)) && ((x11.1:Int) == 5)) && ((x11.2:Int) == 0)) && ((x12.2:Int) == 5))) rfl (by rw[h26];simp only[qvT]) ?_
 exact az [68]
 refine qa (os:=_) rfl ?_
 refine au [1] ?_
 refine qq 5 (fun ((x29,_):(Bool×Unit))=>([(96,.bool x29)],[],[],[],qcD F x29)) ?_ ?_
 refine qa (os:=_) rfl ?_
 refine av [24,12] ?_ ?_
 intro h27
 refine qf (k:=91) rfl h27 ?_
 refine au [24,4] ?_
 refine qo (cells:=[qyq 4,.slice none 0 0]) rfl st60 rfl (by kernel_rfl) rfl ?_
 refine au [26,3,36,13] ?_
 intro x30 e30 _
 refine au [76,0] ?_
 exact qb (((x30:Int) == 4),())
 intro h27
 refine qe (k:=91) rfl h27 ?_
 refine au [72,17,0] ?_
 exact qb (false,())
 rintro ⟨x29,_⟩
 try dsimp only
 refine qa (os:=_) rfl ?_
 exact az [85]
theorem qlF {F:Nat}{x1:Int}{x2:Int}{x3:Int}{x4:Int}{x5:qyo}{a6:qyp}{c7:Nat}{x8:Int}{x9:qyo}{a10:qyp}{c11:Nat}{x12:Int}{r:(Int×Int×Int)}(hm:qfb F x1 x2 x3 x4 x5 x8 x9 x12=some r) :
    Pure Tryz.prog 107 [.agg #[qyq x1,qyq x2,qyq x3,qyq x4,.slice a6 x5.length c7,qyq x8,.slice a10 x9.length c11],qyq x12] [Sl (eI .u8) 1 (.slice a6 x5.length c7) x5,Sl (eI .u8) 1 (.slice a10 x9.length c11) x9] Unit (fun _=>.tuple #[qyq r.1,qyq r.2.1,qyq r.2.2]) (fun _=>[]) (fun _=>[]):=by
 refine ql Tryz.func107 rfl Tryz.ntmps107 rfl hm (fun w=>?_)
 refine au [94] ?_
 intro g13
 refine au [5,5,91,32,1] ?_
 rintro x14 e14 ⟨a15,c16⟩
 refine av [80,5,93,81] ?_ ?_
 intro _
 exact az [62,5,5,99]
 intro _
 refine au [74,62,1,29,15] ?_
 intro x18 e18 _
 refine av [80,5,93,126,24,2,63] ?_ ?_
 intro _
 exact az [61,5,5,99]
 intro _
 refine au [74,3,29,9] ?_
 intro x24 e24 g25 h26
 replace h26:a15=some ⟨g25,0,none⟩:=h26
 have h27:=qha (k:=x14.1.length) (c:=c16) h26
 refine qy mixed [] [⟨g13,64,[qyq x1,qyq x2,qyq x3,qyq x4,.slice a6 x5.length c7,qyq x8,.slice a10 x9.length c11]⟩] [Sl (eI .u8) 1 (.slice a6 x5.length c7) x5,Sl (eI .u8) 1 (.slice a10 x9.length c11) x9,qK g25 (x18.1.toNat*1) ((eI .i64) x24)] (.cons 0 rfl .nil) (qt 0 rfl (qt 1 rfl (qmg 0 rfl (qgX (qp .i64) e24 h26) qw))) 8 rfl ?_
 refine au [88,7,2] ?_
 refine qi (d:=30) (v:=.slice (some ⟨g25,0,none⟩) x14.1.length c16) rfl (by rw[h26] <;> rfl) (qm 3 (.pointer (some ⟨g25,x18.1.toNat*1,none⟩)) rfl rfl rfl (qgT Tryz.underlying22 tf3 rfl rfl (qP e24).1 (yr e24)) (qi (d:=30) (v:=.slice a15 x14.1.length c16) rfl (by rw[h26] <;> rfl) (qO 4 (qyq x24) [] rfl rfl rfl (zG (j:=2) rfl tf3 rfl rfl (fun _=>rfl) rfl) ?_)))
 refine au [7,5,7,6,7,7,24,8] ?_
 refine qx ?_ (by intro c h;cases h)
 exact az [2,9,18]
set_option maxHeartbeats 4000000 in
theorem qi8 {F:Nat}  {r:Bool}(hm:qcV F =some r) :
    Pure Tryz.prog 31 [] [] Unit (fun _=>.bool r) (fun _=>[]) (fun _=>[]):=by
 refine ql Tryz.func31 rfl Tryz.ntmps31 rfl hm (fun w=>?_)
 refine au [27,2,61,79] ?_
 refine qn (vs:=[qyq 1,qyq 1,qyq 5,qyq 12]) (ys:=([1,1,5,12]:qyo)) (qp .i64) (by decide) rfl Tryz.underlying22 tf3 rfl rfl rfl rfl rfl (by decide) (fun a1 c2=>?_)
 refine au [30,5] ?_
 rintro x3 e3 ⟨⟨a4,c5⟩,⟨a6,c7⟩⟩
 refine au [95] ?_
 intro g8
 refine au [24,3,91,36,14] ?_
 rintro x9 e9 ⟨a10,c11⟩
 refine au [80,5,91] ?_
 refine qg qhZ ?_
 intro x12 e12 _
 refine au [80,5,91,36,15] ?_
 intro x13 e13 _
 refine au [80,10,5,5,91,36,15] ?_
 intro x14 e14 _
 refine au [80,10,5,5,79] ?_
 refine qn (vs:=[qyq 2,qyq 1]) (ys:=([2,1]:qyo)) (qp .i64) (by decide) rfl Tryz.underlying22 tf3 rfl rfl rfl rfl rfl (by decide) (fun a15 c16=>?_)
 refine au [30,5] ?_
 rintro x17 e17 ⟨⟨a18,c19⟩,⟨a20,c21⟩⟩
 refine au [95] ?_
 intro g22
 refine au [24,3,75,24,2,1] ?_
 refine qk 4 ((x3.2.2.2.2.2.2.2:Int) == 0) [(1,.pointer (some ⟨g8,0,none⟩)),(3,.slice a10 x9.1.length c11),(4,qyq x9.2),(5,qyq x12.1),(6,qyq x12.2),(7,qyq x13.1),(8,qyq x13.2.1),(9,qyq x13.2.2),(12,qyq x14.2.2),(14,qyq x17.2.2.2.2.2.2.2),(53,.bool (((x3.2.2.2.2.2.2.2:Int) == 0) && ((x3.2.2.1:Int) == 2)))] (fun h23=>?_) (fun h23=>?_) ?_
 refine qa (os:=_) rfl (qf (k:=49) rfl h23 ?_)
 refine au [84,76] ?_
 refine qc (d:=53) (v:=.bool (((x3.2.2.2.2.2.2.2:Int) == 0) && ((x3.2.2.1:Int) == 2))) rfl (by rw[h23];simp only[qvZ]) ?_
 exact az [68]
 refine qa (os:=_) rfl (qe (k:=49) rfl h23 ?_)
 refine au [66,6,17] ?_
 refine qc (d:=53) (v:=.bool (((x3.2.2.2.2.2.2.2:Int) == 0) && ((x3.2.2.1:Int) == 2))) rfl (by rw[h23];simp only[qvT]) ?_
 exact az [68]
 refine qa (os:=_) rfl ?_
 refine au [1] ?_
 refine qq 6 (fun ((x28,_):(Bool×Unit))=>([(1,.pointer (some ⟨g8,0,none⟩)),(3,.slice a10 x9.1.length c11),(4,qyq x9.2),(5,qyq x12.1),(6,qyq x12.2),(7,qyq x13.1),(8,qyq x13.2.1),(9,qyq x13.2.2),(12,qyq x14.2.2),(14,qyq x17.2.2.2.2.2.2.2),(60,.bool x28)],[⟨g8,64,[qyq x3.1,qyq x3.2.1,qyq x3.2.2.1,qyq x3.2.2.2.1,.slice a4 x3.2.2.2.2.1.length c5,qyq x3.2.2.2.2.2.1,.slice a6 x3.2.2.2.2.2.2.1.length c7]⟩],[Ro (eI .i64) 3 1 (.slice a10 x9.1.length c11) x9.1,Ro (eI .u8) 5 1 (.slice a4 x3.2.2.2.2.1.length c5) x3.2.2.2.2.1,Ro (eI .u8) 5 1 (.slice a6 x3.2.2.2.2.2.2.1.length c7) x3.2.2.2.2.2.2.1],[],qcw F x3 x9 x12 x13 x14 x17 x28)) ?_ ?_
 refine qa (os:=_) rfl ?_
 refine av [24,12] ?_ ?_
 intro h24
 refine qf (k:=54) rfl h24 ?_
 refine au [12,25,4] ?_
 refine qn (vs:=[.int .u8 84]) (ys:=([84]:qyo)) (qp .u8) (by decide) rfl Tryz.underlying23 tf5 rfl rfl rfl rfl rfl (by decide) (fun a57 c58=>qo (cells:=[qyq 8,.slice a57 ([84]:qyo).length c58]) rfl st25 rfl (by kernel_rfl) rfl ?_)
 refine au [30,6] ?_
 intro x59 e59 _
 refine au [16,0] ?_
 exact qb (x59,())
 intro h24
 refine qe (k:=54) rfl h24 ?_
 refine au [72,6,17,0] ?_
 exact qb (false,())
 rintro ⟨x28,_⟩
 try dsimp only
 refine qa (os:=_) rfl ?_
 refine au [1] ?_
 refine qq 6 (fun ((x33,_):(Bool×Unit))=>([(3,.slice a10 x9.1.length c11),(4,qyq x9.2),(5,qyq x12.1),(6,qyq x12.2),(7,qyq x13.1),(8,qyq x13.2.1),(9,qyq x13.2.2),(12,qyq x14.2.2),(14,qyq x17.2.2.2.2.2.2.2),(67,.bool x33)],[],[Ro (eI .i64) 3 1 (.slice a10 x9.1.length c11) x9.1],[],qcx F x9 x12 x13 x14 x17 x33)) ?_ ?_
 refine qa (os:=_) rfl ?_
 refine av [24,12] ?_ ?_
 intro h29
 refine qf (k:=61) rfl h29 ?_
 refine au [130] ?_
 refine qn (vs:=[.int .u8 210]) (ys:=([210]:qyo)) (qp .u8) (by decide) rfl Tryz.underlying23 tf5 rfl rfl rfl rfl rfl (by decide) (fun a54 c55=>qo (cells:=[qyq 8,.slice a54 ([210]:qyo).length c55]) rfl st25 rfl (by kernel_rfl) rfl ?_)
 refine au [30,6] ?_
 intro x56 e56 _
 refine au [16,0] ?_
 exact qb (x56,())
 intro h29
 refine qe (k:=61) rfl h29 ?_
 refine au [72,6,17,0] ?_
 exact qb (false,())
 rintro ⟨x33,_⟩
 try dsimp only
 refine qa (os:=_) rfl ?_
 refine au [1] ?_
 refine qq 4 (fun ((x38,_):(Bool×Unit))=>([(4,qyq x9.2),(5,qyq x12.1),(6,qyq x12.2),(7,qyq x13.1),(8,qyq x13.2.1),(9,qyq x13.2.2),(12,qyq x14.2.2),(14,qyq x17.2.2.2.2.2.2.2),(72,.bool x38)],[],[],[],qcy F x9 x12 x13 x14 x17 x38)) ?_ ?_
 refine qa (os:=_) rfl ?_
 refine av [24,12] ?_ ?_
 intro h34
 refine qf (k:=68) rfl h34 ?_
 refine au [1] ?_
 refine qn (vs:=[qyq 1,qyq 1,qyq 5,qyq 12]) (ys:=([1,1,5,12]:qyo)) (qp .i64) (by decide) rfl Tryz.underlying22 tf3 rfl rfl rfl rfl rfl (by decide) (fun a51 c52=>?_)
 refine au [26,5] ?_
 intro x53 e53 _
 refine au [16,0] ?_
 exact qb (x53,())
 intro h34
 refine qe (k:=68) rfl h34 ?_
 refine au [66,6,17,0] ?_
 exact qb (false,())
 rintro ⟨x38,_⟩
 try dsimp only
 refine qa (os:=_) rfl ?_
 refine au [1] ?_
 refine qk 3 x38 [(5,qyq x12.1),(6,qyq x12.2),(7,qyq x13.1),(8,qyq x13.2.1),(9,qyq x13.2.2),(12,qyq x14.2.2),(14,qyq x17.2.2.2.2.2.2.2),(76,.bool (x38 && ((x9.2:Int) == 0)))] (fun h39=>?_) (fun h39=>?_) ?_
 refine qa (os:=_) rfl (qf (k:=73) rfl h39 ?_)
 refine au [1,76] ?_
 refine qc (d:=76) (v:=.bool (x38 && ((x9.2:Int) == 0))) rfl (by rw[h39];simp only[qvZ]) ?_
 exact az [68]
 refine qa (os:=_) rfl (qe (k:=73) rfl h39 ?_)
 refine au [90] ?_
 refine qc (d:=76) (v:=.bool (x38 && ((x9.2:Int) == 0))) rfl (by rw[h39];simp only[qvT]) ?_
 exact az [68]
 refine qa (os:=_) rfl ?_
 refine au [1] ?_
 refine qk 3 (x38 && ((x9.2:Int) == 0)) [(6,qyq x12.2),(7,qyq x13.1),(8,qyq x13.2.1),(9,qyq x13.2.2),(12,qyq x14.2.2),(14,qyq x17.2.2.2.2.2.2.2),(80,.bool ((x38 && ((x9.2:Int) == 0)) && ((x12.1:Int) == 5)))] (fun h40=>?_) (fun h40=>?_) ?_
 refine qa (os:=_) rfl (qf (k:=77) rfl h40 ?_)
 refine au [1,76] ?_
 refine qc (d:=80) (v:=.bool ((x38 && ((x9.2:Int) == 0)) && ((x12.1:Int) == 5))) rfl (by rw[h40];simp only[qvZ]) ?_
 exact az [68]
 refine qa (os:=_) rfl (qe (k:=77) rfl h40 ?_)
 refine au [90] ?_
 refine qc (d:=80) (v:=.bool ((x38 && ((x9.2:Int) == 0)) && ((x12.1:Int) == 5))) rfl (by rw[h40];simp only[qvT]) ?_
 exact az [68]
 refine qa (os:=_) rfl ?_
 refine au [1] ?_
 refine qk 3 ((x38 && ((x9.2:Int) == 0)) && ((x12.1:Int) == 5)) [(7,qyq x13.1),(8,qyq x13.2.1),(9,qyq x13.2.2),(12,qyq x14.2.2),(14,qyq x17.2.2.2.2.2.2.2),(84,.bool (((x38 && ((x9.2:Int) == 0)) && ((x12.1:Int) == 5)) && ((x12.2:Int) == 0)))] (fun h41=>?_) (fun h41=>?_) ?_
 refine qa (os:=_) rfl (qf (k:=81) rfl h41 ?_)
 refine au [1,76] ?_
 refine qc (d:=84) (v:=.bool (((x38 && ((x9.2:Int) == 0)) && ((x12.1:Int) == 5)) && ((x12.2:Int) == 0))) rfl (by rw[h41];simp only[qvZ]) ?_
 exact az [68]
 refine qa (os:=_) rfl (qe (k:=81) rfl h41 ?_)
 refine au [90] ?_
 refine qc (d:=84) (v:=.bool (((x38 && ((x9.2:Int) == 0)) && ((x12.1:Int) == 5)) && ((x12.2:Int) == 0))) rfl (by rw[h41];simp only[qvT]) ?_
 exact az [68]
 refine qa (os:=_) rfl ?_
 refine au [1] ?_
 refine qk 3 (((x38 && ((x9.2:Int) == 0)) && ((x12.1:Int) == 5)) && ((x12.2:Int) == 0)) [(8,qyq x13.2.1),(9,qyq x13.2.2),(12,qyq x14.2.2),(14,qyq x17.2.2.2.2.2.2.2),(88,.bool ((((x38 && ((x9.2:Int) == 0)) && ((x12.1:Int) == 5)) && ((x12.2:Int) == 0)) && ((x13.1:Int) == 3)))] (fun h42=>?_) (fun h42=>?_) ?_
 refine qa (os:=_) rfl (qf (k:=85) rfl h42 ?_)
 refine au [1,76] ?_
 refine qc (d:=88) (v:=.bool ((((x38 && ((x9.2:Int) == 0)) && ((x12.1:Int) == 5)) && ((x12.2:Int) == 0)) && ((x13.1:Int) == 3))) rfl (by rw[h42];simp only[qvZ]) ?_
 exact az [68]
 refine qa (os:=_) rfl (qe (k:=85) rfl h42 ?_)
 refine au [90] ?_
 refine qc (d:=88) (v:=.bool ((((x38 && ((x9.2:Int) == 0)) && ((x12.1:Int) == 5)) && ((x12.2:Int) == 0)) && ((x13.1:Int) == 3))) rfl (by rw[h42];simp only[qvT]) ?_
 exact az [68]
 refine qa (os:=_) rfl ?_
 refine au [1] ?_
 refine qk 3 ((((x38 && ((x9.2:Int) == 0)) && ((x12.1:Int) == 5)) && ((x12.2:Int) == 0)) && ((x13.1:Int) == 3)) [(9,qyq x13.2.2),(12,qyq x14.2.2),(14,qyq x17.2.2.2.2.2.2.2),(92,.bool (((((x38 && ((x9.2:Int) == 0)) && ((x12.1:Int) == 5)) && ((x12.2:Int) == 0)) && ((x13.1:Int) == 3)) && ((x13.2.1:Int) == 12)))] (fun h43=>?_) (fun h43=>?_) ?_
 refine qa (os:=_) rfl (qf (k:=89) rfl h43 ?_)
 refine au [1,76] ?_
 refine qc (d:=92) (v:=.bool (((((x38 && ((x9.2:Int) == 0)) && ((x12.1:Int) == 5)) && ((x12.2:Int) == 0)) && ((x13.1:Int) == 3)) && ((x13.2.1:Int) == 12))) rfl (by rw[h43];simp only[qvZ]) ?_
 exact az [68]
 refine qa (os:=_) rfl (qe (k:=89) rfl h43 ?_)
 refine au [90] ?_
 refine qc (d:=92) (v:=.bool (((((x38 && ((x9.2:Int) == 0)) && ((x12.1:Int) == 5)) && ((x12.2:Int) == 0)) && ((x13.1:Int) == 3)) && ((x13.2.1:Int) == 12))) rfl (by rw[h43];simp only[qvT]) ?_
 exact az [68]
 refine qa (os:=_) rfl ?_
 refine au [1] ?_
 refine qk 3 (((((x38 && ((x9.2:Int) == 0)) && ((x12.1:Int) == 5)) && ((x12.2:Int) == 0)) && ((x13.1:Int) == 3)) && ((x13.2.1:Int) == 12)) [(12,qyq x14.2.2),(14,qyq x17.2.2.2.2.2.2.2),(96,.bool ((((((x38 && ((x9.2:Int) == 0)) && ((x12.1:Int) == 5)) && ((x12.2:Int) == 0)) && ((x13.1:Int) == 3)) && ((x13.2.1:Int) == 12)) && ((x13.2.2:Int) == 0)))] (fun h44=>?_) (fun h44=>?_) ?_
 refine qa (os:=_) rfl (qf (k:=93) rfl h44 ?_)
 refine au [1,76] ?_
 refine qc (d:=96) (v:=.bool ((((((x38 && ((x9.2:Int) == 0)) && ((x12.1:Int) == 5)) && ((x12.2:Int) == 0)) && ((x13.1:Int) == 3)) && ((x13.2.1:Int) == 12)) && ((x13.2.2:Int) == 0))) rfl (by rw[h44];simp only[qvZ]) ?_
 exact az [68]
 refine qa (os:=_) rfl (qe (k:=93) rfl h44 ?_)
 refine au [90] ?_
 refine qc (d:=96) (v:=.bool ((((((x38 && ((x9.2:Int) == 0)) && ((x12.1:Int) == 5)) && ((x12.2:Int) == 0)) && ((x13.1:Int) == 3)) && ((x13.2.1:Int) == 12)) && ((x13.2.2:Int) == 0))) rfl (by rw[h44];simp only[qvT]) ?_
 exact az [68]
 refine qa (os:=_) rfl ?_
 refine au [1] ?_
 refine qk 3 ((((((x38 && ((x9.2:Int) == 0)) && ((x12.1:Int) == 5)) && ((x12.2:Int) == 0)) && ((x13.1:Int) == 3)) && ((x13.2.1:Int) == 12)) && ((x13.2.2:Int) == 0)) [(14,qyq x17.2.2.2.2.2.2.2),(100,.bool (((((((x38 && ((x9.2:Int) == 0)) && ((x12.1:Int) == 5)) && ((x12.2:Int) == 0)) && ((x13.1:Int) == 3)) && ((x13.2.1:Int) == 12)) && ((x13.2.2:Int) == 0)) && ((x14.2.2:Int) == 5)))] (fun h45=>?_) (fun h45=>?_) ?_
 refine qa (os:=_) rfl (qf (k:=97) rfl h45 ?_)
 refine au [1,76] ?_
 refine qc (d:=100) (v:=.bool (((((((x38 && ((x9.2:Int) == 0)) && ((x12.1:Int) == 5)) && ((x12.2:Int) == 0)) && ((x13.1:Int) == 3)) && ((x13.2.1:Int) == 12)) && ((x13.2.2:Int) == 0)) && ((x14.2.2:Int) == 5))) rfl (by rw[h45];simp only[qvZ]) ?_
 exact az [68]
 refine qa (os:=_) rfl (qe (k:=97) rfl h45 ?_)
 refine au [90] ?_
 refine qc (d:=100) (v:=.bool (((((((x38 && ((x9.2:Int) == 0)) && ((x12.1:Int) == 5)) && ((x12.2:Int) == 0)) && ((x13.1:Int) == 3)) && ((x13.2.1:Int) == 12)) && ((x13.2.2:Int) == 0)) && ((x14.2.2:Int) == 5))) rfl (by rw[h45];simp only[qvT]) ?_
 exact az [68]
 refine qa (os:=_) rfl ?_
 refine au [1] ?_
 refine qk 3 (((((((x38 && ((x9.2:Int) == 0)) && ((x12.1:Int) == 5)) && ((x12.2:Int) == 0)) && ((x13.1:Int) == 3)) && ((x13.2.1:Int) == 12)) && ((x13.2.2:Int) == 0)) && ((x14.2.2:Int) == 5)) [(104,.bool ((((((((x38 && ((x9.2:Int) == 0)) && ((x12.1:Int) == 5)) && ((x12.2:Int) == 0)) && ((x13.1:Int) == 3)) && ((x13.2.1:Int) == 12)) && ((x13.2.2:Int) == 0)) && ((x14.2.2:Int) == 5)) && ((x17.2.2.2.2.2.2.2:Int) == 4)))] (fun h46=>?_) (fun h46=>?_) ?_
 refine qa (os:=_) rfl (qf (k:=101) rfl h46 ?_)
 refine au [1,76] ?_
 refine qc (d:=104) (v:=.bool ((((((((x38 && ((x9.2:Int) == 0)) && ((x12.1:Int) == 5)) && ((x12.2:Int) == 0)) && ((x13.1:Int) == 3)) && ((x13.2.1:Int) == 12)) && ((x13.2.2:Int) == 0)) && ((x14.2.2:Int) == 5)) && ((x17.2.2.2.2.2.2.2:Int) == 4))) rfl (by rw[h46];simp only[qvZ]) ?_
 exact az [68]
 refine qa (os:=_) rfl (qe (k:=101) rfl h46 ?_)
 refine au [90] ?_
 refine qc (d:=104) (v:=.bool ((((((((x38 && ((x9.2:Int) == 0)) && ((x12.1:Int) == 5)) && ((x12.2:Int) == 0)) && ((x13.1:Int) == 3)) && ((x13.2.1:Int) == 12)) && ((x13.2.2:Int) == 0)) && ((x14.2.2:Int) == 5)) && ((x17.2.2.2.2.2.2.2:Int) == 4))) rfl (by rw[h46];simp only[qvT]) ?_
 exact az [68]
 refine qa (os:=_) rfl ?_
 refine au [1] ?_
 refine qq 4 (fun ((x49,_):(Bool×Unit))=>([(109,.bool x49)],[],[],[],qcz F x49)) ?_ ?_
 refine qa (os:=_) rfl ?_
 refine av [24,12] ?_ ?_
 intro h47
 refine qf (k:=105) rfl h47 (qo (cells:=[qyq 0,qyq 0,qyq 0,qyq 0,.slice none 0 0,qyq 0,.slice none 0 0]) rfl st64 rfl (by kernel_rfl) rfl ?_)
 refine au [26,8,26,8,36,6] ?_
 intro x50 e50 _
 refine au [76,0] ?_
 exact qb (((x50:Int) == 1),())
 intro h47
 refine qe (k:=105) rfl h47 ?_
 refine au [66,6,17,0] ?_
 exact qb (false,())
 rintro ⟨x49,_⟩
 try dsimp only
 refine qa (os:=_) rfl ?_
 exact az [85]
set_option maxHeartbeats 4000000 in
theorem qjv {F:Nat}{x1:Int}{x2:Int}{x3:Int}{x4:Int}{x5:Int}{x6:qyo}{a7:qyp}{c8:Nat}{x9:Int}{x10:Int}{x11:Int}{x12:Int}{x13:qyo}{a14:qyp}{c15:Nat}{x16:Int}{x17:qyo}{a18:qyp}{c19:Nat}{x20:Int}{x21:Int}{r:(Bool×Int)}(hm:qbk F x1 x2 x3 x4 x5 x6 x9 x10 x11 x12 x13 x16 x17 x20 x21=some r) :
    Pure Tryz.prog 109 [.agg #[qyq x1,qyq x2,qyq x3,qyq x4,qyq x5,.slice a7 x6.length c8,qyq x9,qyq x10,qyq x11,qyq x12,.slice a14 x13.length c15,qyq x16,.slice a18 x17.length c19],qyq x20,qyq x21] [Sl (eI .u8) 1 (.slice a7 x6.length c8) x6,Sl (eI .u8) 1 (.slice a14 x13.length c15) x13,Sl (eI .u8) 1 (.slice a18 x17.length c19) x17] Unit (fun _=>.tuple #[.bool r.1,qyq r.2]) (fun _=>[]) (fun _=>[]):=by
 refine ql Tryz.func109 rfl Tryz.ntmps109 rfl hm (fun w=>?_)
 refine au [106] ?_
 intro g22
 refine au [5,91,1,30,7] ?_
 rintro x23 e23 ⟨a24,c25⟩
 refine au [80,10,5,5,60] ?_
 refine qh (fun ((x31,_):(Int×Unit))=>([(2,qyq x21),(8,.slice a24 x23.1.length c25),(10,qyq x31)],[],[Ro (eI .i64) 3 1 (.slice a24 x23.1.length c25) x23.1],[],qa5 F x21 x23 x31)) ?_ ?_
 refine au [98,1] ?_
 refine qq 10 (fun ((x37,_):(Bool×Unit))=>([(2,qyq x21),(8,.slice a24 x23.1.length c25),(10,qyq x23.2.2),(32,.bool x37)],[],[Ro (eI .i64) 3 1 (.slice a24 x23.1.length c25) x23.1],[],qa6 F x21 x23 x37)) ?_ ?_
 refine qa (os:=_) rfl ?_
 refine av [24,12] ?_ ?_
 intro h35
 refine qf (k:=22) rfl h35 ?_
 refine au [1,125] ?_
 refine qk 6 (decide (x21<0)) [(2,qyq x21),(8,.slice a24 x23.1.length c25),(10,qyq x23.2.2),(22,.bool true),(31,.bool ((decide (x21<0)) || (decide (x1≤x21))))] (fun h39=>?_) (fun h39=>?_) ?_
 refine qa (os:=_) rfl (qf (k:=25) rfl h39 ?_)
 refine au [72,6,16] ?_
 refine qc (d:=31) (v:=.bool ((decide (x21<0)) || (decide (x1≤x21)))) rfl (by rw[h39];simp only[qv4]) ?_
 exact az [68]
 refine qa (os:=_) rfl (qe (k:=25) rfl h39 ?_)
 refine au [1,12,73,26,7,17] ?_
 refine qc (d:=31) (v:=.bool ((decide (x21<0)) || (decide (x1≤x21)))) rfl (by rw[h39];simp only[qv2]) ?_
 exact az [68]
 refine qa (os:=_) rfl ?_
 refine au [16,0] ?_
 exact qb (((decide (x21<0)) || (decide (x1≤x21))),())
 intro h35
 refine qe (k:=22) rfl h35 ?_
 refine au [72,72,6,17,0] ?_
 exact qb (false,())
 rintro ⟨x37,_⟩
 try dsimp only
 refine qa (os:=_) rfl ?_
 refine av [63] ?_ ?_
 intro _
 refine au [4,5,0] ?_
 exact qb ((3:Int),())
 intro _
 refine au [13] ?_
 exact qb (x23.2.2,())
 rintro ⟨x31,_⟩
 try dsimp only
 refine av [83,81] ?_ ?_
 intro _
 exact az [62,5,99]
 intro _
 refine au [74,62,1,29,15] ?_
 intro x33 e33 _
 exact az [80,5,75,5,85]
end Go.Proofs.YtmoikolponkmpaaGreat
