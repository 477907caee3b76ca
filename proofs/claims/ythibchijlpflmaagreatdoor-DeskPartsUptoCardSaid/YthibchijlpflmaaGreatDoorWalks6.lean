/- Each Go function of this seat computes what its model says, part 6. -/
import Derived.Test.YthibchijlpflmaaGreatDoorWalks5
namespace Go.Proofs.YthibchijlpflmaaGreatDoor
open Go SX
open Go.Proofs.Tryz
open Go.Proofs.Tryz renaming prog→qFv
set_option maxHeartbeats 4000000
variable {F t1 t2:Nat}{p1 p2:List (qFm)}{l1 l2:qFn}{n1 n2:List (qFn×Nat)}{i1 i2 i3 i4 i5 i6:Int}{m1 m2:qFm}{d1:Bool}
theorem qps {r:(List (qFm)×Int×Int×Int×qFm×Int)}(hm:qc0 F p1 i1 i2 i3 m1=some r) :
    Pure qFv 19 [.agg #[qFp l1 p1 t1,qFo i1,qFo i2,qFo i3],.string (bstr m1)] [SlN eN56 iN56 1 (qFp l1 p1 t1) p1 n1,GF] (qFn×Nat×List (qFn×Nat)) (fun g=>.tuple #[.agg #[qFp g.1 r.1 g.2.1,qFo r.2.1,qFo r.2.2.1,qFo r.2.2.2.1],.string (bstr r.2.2.2.2.1),qFo r.2.2.2.2.2]) (fun g=>[RoN eN56 rN56 56 1 (qFp g.1 r.1 g.2.1) r.1 g.2.2 []]) (fun _=>[]):=by
 refine pureA func19 ntmps19 hm fun _=>?_
 refine au [111] ?_
 intro g8
 refine au [24,5] ?_
 intro g9
 refine au [5,80,25,10,38,4] ?_
 rintro x10 e10 ⟨a11,c12⟩
 refine qH [qFp a11 x10.1 c12.1,qFo x10.2.1,qFo x10.2.2.1,qFo x10.2.2.2,.slice none 0 0,.string (bstr ([111,107]:qFm))] ?_
 refine au [23] ?_
 intro g13
 refine au [59] ?_
 refine vh EnC.e rfl rfl rfl (fun x14 e14=>qsH m1 ([32]:qFm) x14 e14) .nil (fun x14 e14=>?_)
 rintro ⟨a15,c16⟩
 refine au [47] ?_
 refine vu 3 (fun (((x0,x2,x3,x8,x9,x11,x12),a0,c0,a1,c1):(Int×List (qFm)×Int×Int×Int×qFm×qFm)×qFn×(Nat×List (qFn×Nat))×qFn×Nat)=>([(4,qFq g9),(7,qFq g13),(11,qFo x0)],[⟨g13,85,[qFp a0 x2 c0.1,qFo x3,qFo x8,qFo x9,qFp a1 x11 c1,.string (bstr x12)]⟩,⟨g9,28,[.slice none 0 0,qFo 0,qFo 0,qFo 0]⟩],[RoN eN56 rN56 56 1 (qFp a0 x2 c0.1) x2 c0.2 [],qFs a1 x11 c1],[GF],qr F x0 x2 x3 x8 x9 x11 x12)) ?_ (fun hj=>?_)
 · as_aux_lemma =>
   rintro ⟨⟨x0,x2,x3,x8,x9,x11,x12⟩,a0,c0,a1,c1⟩
   refine aw [39,1,1,3,4,25,3,0,2,10] ?_ ?_
   refine au [45] ?_
   refine qH [.slice none 0 0,qFo 0,qFo 0,qFo 0] ?_
   refine au [4,25,5,5,58,27,1] ?_
   exact qio (none,0,([]:List (qFn×Nat))) 1
   refine au [82] ?_
   refine qI [] [0] [0] 11 ?_
   refine au [70,15,2] ?_
   refine qB 3 (.agg #[.slice a0 x2.length c0.1,qFo x3,qFo x8,qFo x9]) rfl rfl rfl (qz (i:=0) rfl tf28 rfl rfl (by simp) rfl) ?_
   refine au [6,4,6,5,15,6,24,15,7,12,8,25,5,72,6,9,6,10,54,2,8] ?_
   exact qio (a0,c0) 1
 refine vu 1 (fun ((_,g0):Unit×Nat)=>([(4,qFq g9),(7,qFq g13),(8,qFp a15 x14 c16),(9,qFq g0),(10,.bool true)],[⟨g13,85,[qFp a11 x10.1 c12.1,qFo x10.2.1,qFo x10.2.2.1,qFo x10.2.2.2,.slice none 0 0,.string (bstr ([111,107]:qFm))]⟩,⟨g9,28,[.slice none 0 0,qFo 0,qFo 0,qFo 0]⟩,⟨g0,88,[qFo 1,.func (.func 58) #[qFq g13] #[]]⟩],[Ro eT 9 1 (qFp a15 x14 c16) x14,RoN eN56 rN56 56 1 (qFp a11 x10.1 c12.1) x10.1 c12.2 []],[GF],qaT F x10 x14)) ?_ (fun hw0=>?_)
 rintro ⟨_,g0⟩
 refine au [117,81,1,107] ?_
 intro x13 e0 a3 c2 h0 h1
 refine au [28,0,92] ?_
 refine qB 3 (.agg #[qFo 1,.func (.func 58) #[.pointer (some ⟨g13,0,none⟩)] #[]]) rfl rfl rfl (qz (i:=1) rfl tf88 rfl rfl (by simp) rfl) ?_
 refine au [6,4] ?_
 refine qb 5 (qFp a3 x13 c2) rfl rfl rfl (qcY underlying39 tf9 rfl rfl rfl e0 h1 h0) ?_
 refine au [12,6,101] ?_
 rintro x15 e1 ⟨a4,c4⟩
 refine aw [0,28,1,6,7,16,19,2,10] ?_ ?_
 refine au [3,110] ?_
 refine jW EnC.e rfl rfl rfl rfl (fun x16 e2=>qiI F g13 x10.1 a11 c12 x10.2.1 x10.2.2.1 x10.2.2.2 x15.2 a4 c4 ([111,107]:qFm) x16 e2) (.cons 0 rfl .nil) (.cons 1 rfl .nil) (.consR 0 (qFs a4 x15.2 c4) rfl .nil) (fun x16 e2=>?_)
 rintro ⟨a5,c5⟩
 refine au [5,0] ?_
 exact qw hj ((x16.1,x16.2,x10.2.1,x10.2.2.1,x10.2.2.2,x15.2,([111,107]:qFm)),a5,c5,a4,c4)
 refine au [11] ?_
 exact qw hj (((1:Int),x10.1,x10.2.1,x10.2.2.1,x10.2.2.2,x15.2,([111,107]:qFm)),a11,c12,a4,c4)
 refine vu 1 (fun ((_,g1):Unit×Nat)=>([(4,qFq g9),(7,qFq g13),(8,qFp a15 x14 c16),(9,qFq g1),(10,.bool true)],[⟨g13,85,[qFp a11 x10.1 c12.1,qFo x10.2.1,qFo x10.2.2.1,qFo x10.2.2.2,.slice none 0 0,.string (bstr ([111,107]:qFm))]⟩,⟨g9,28,[.slice none 0 0,qFo 0,qFo 0,qFo 0]⟩,⟨g1,88,[qFo 2,.func (.func 59) #[qFq g13] #[]]⟩],[Ro eT 9 1 (qFp a15 x14 c16) x14,RoN eN56 rN56 56 1 (qFp a11 x10.1 c12.1) x10.1 c12.2 []],[GF],qaU F x10 x14)) ?_ (fun hw1=>?_)
 rintro ⟨_,g1⟩
 refine au [117,81,1,107] ?_
 intro x17 e3 a6 c6 h2 h3
 refine au [28,0,92] ?_
 refine qB 3 (.agg #[qFo 2,.func (.func 59) #[.pointer (some ⟨g13,0,none⟩)] #[]]) rfl rfl rfl (qz (i:=1) rfl tf88 rfl rfl (by simp) rfl) ?_
 refine au [6,4] ?_
 refine qb 5 (qFp a6 x17 c6) rfl rfl rfl (qcY underlying39 tf9 rfl rfl rfl e3 h3 h2) ?_
 refine au [12,6,101] ?_
 rintro x18 e4 ⟨a7,c7⟩
 refine aw [0,28,1,6,7,16,19,2,10] ?_ ?_
 refine au [3,110] ?_
 refine jW EnC.e rfl rfl rfl rfl (fun x19 e5=>qj2 F g13 x10.1 a11 c12 x10.2.1 x10.2.2.1 x10.2.2.2 x18.2 a7 c7 ([111,107]:qFm) x19 e5) (.cons 0 rfl .nil) (.cons 1 rfl .nil) (.consR 0 (qFs a7 x18.2 c7) rfl .nil) (fun x19 e5=>?_)
 rintro ⟨a8,c8⟩
 refine au [5,0] ?_
 exact qw hj ((x19.1,x19.2,x10.2.1,x10.2.2.1,x10.2.2.2,x18.2,([111,107]:qFm)),a8,c8,a7,c7)
 refine au [11] ?_
 exact qw hj (((1:Int),x10.1,x10.2.1,x10.2.2.1,x10.2.2.2,x18.2,([111,107]:qFm)),a11,c12,a7,c7)
 refine vu 1 (fun ((_,g2):Unit×Nat)=>([(4,qFq g9),(7,qFq g13),(8,qFp a15 x14 c16),(9,qFq g2),(10,.bool true)],[⟨g13,85,[qFp a11 x10.1 c12.1,qFo x10.2.1,qFo x10.2.2.1,qFo x10.2.2.2,.slice none 0 0,.string (bstr ([111,107]:qFm))]⟩,⟨g9,28,[.slice none 0 0,qFo 0,qFo 0,qFo 0]⟩,⟨g2,88,[qFo 2,.func (.func 60) #[qFq g13] #[]]⟩],[Ro eT 9 1 (qFp a15 x14 c16) x14,RoN eN56 rN56 56 1 (qFp a11 x10.1 c12.1) x10.1 c12.2 []],[GF],qaV F x10 x14)) ?_ (fun hw2=>?_)
 rintro ⟨_,g2⟩
 refine au [117,81,1,107] ?_
 intro x20 e6 a9 c9 h4 h5
 refine au [28,0,92] ?_
 refine qB 3 (.agg #[qFo 2,.func (.func 60) #[.pointer (some ⟨g13,0,none⟩)] #[]]) rfl rfl rfl (qz (i:=1) rfl tf88 rfl rfl (by simp) rfl) ?_
 refine au [6,4] ?_
 refine qb 5 (qFp a9 x20 c9) rfl rfl rfl (qcY underlying39 tf9 rfl rfl rfl e6 h5 h4) ?_
 refine au [12,6,101] ?_
 rintro x21 e7 ⟨a10,c10⟩
 refine aw [0,28,1,6,7,16,19,2,10] ?_ ?_
 refine au [3,110] ?_
 refine jW EnC.e rfl rfl rfl rfl (fun x22 e8=>qjc F g13 x10.1 a11 c12 x10.2.1 x10.2.2.1 x10.2.2.2 x21.2 a10 c10 ([111,107]:qFm) x22 e8) (.cons 0 rfl .nil) (.cons 1 rfl .nil) (.consR 0 (qFs a10 x21.2 c10) rfl .nil) (fun x22 e8=>?_)
 rintro ⟨a12,c11⟩
 refine au [5,0] ?_
 exact qw hj ((x22.1,x22.2,x10.2.1,x10.2.2.1,x10.2.2.2,x21.2,([111,107]:qFm)),a12,c11,a10,c10)
 refine au [11] ?_
 exact qw hj (((1:Int),x10.1,x10.2.1,x10.2.2.1,x10.2.2.2,x21.2,([111,107]:qFm)),a11,c12,a10,c10)
 refine vu 1 (fun ((_,g3):Unit×Nat)=>([(4,qFq g9),(7,qFq g13),(8,qFp a15 x14 c16),(9,qFq g3),(10,.bool true)],[⟨g13,85,[qFp a11 x10.1 c12.1,qFo x10.2.1,qFo x10.2.2.1,qFo x10.2.2.2,.slice none 0 0,.string (bstr ([111,107]:qFm))]⟩,⟨g9,28,[.slice none 0 0,qFo 0,qFo 0,qFo 0]⟩,⟨g3,88,[qFo 3,.func (.func 61) #[qFq g13] #[]]⟩],[Ro eT 9 1 (qFp a15 x14 c16) x14,RoN eN56 rN56 56 1 (qFp a11 x10.1 c12.1) x10.1 c12.2 []],[GF],qaW F x10 x14)) ?_ (fun hw3=>?_)
 rintro ⟨_,g3⟩
 refine au [117,81,1,107] ?_
 intro x23 e9 a13 c13 h6 h7
 refine au [28,0,92] ?_
 refine qB 3 (.agg #[qFo 3,.func (.func 61) #[.pointer (some ⟨g13,0,none⟩)] #[]]) rfl rfl rfl (qz (i:=1) rfl tf88 rfl rfl (by simp) rfl) ?_
 refine au [6,4] ?_
 refine qb 5 (qFp a13 x23 c13) rfl rfl rfl (qcY underlying39 tf9 rfl rfl rfl e9 h7 h6) ?_
 refine au [12,6,101] ?_
 rintro x24 e11 ⟨a14,c14⟩
 refine aw [0,28,1,6,7,16,19,2,10] ?_ ?_
 refine au [3,110] ?_
 refine jW EnC.e rfl rfl rfl rfl (fun x25 e12=>qj4 F g13 x10.1 a11 c12 x10.2.1 x10.2.2.1 x10.2.2.2 x24.2 a14 c14 ([111,107]:qFm) x25 e12) (.cons 0 rfl .nil) .nil (.consG 1 rfl (kp qeC) (.consR 0 (qFs a14 x24.2 c14) rfl .nil)) (fun x25 e12 _=>?_)
 refine au [5,0] ?_
 exact qw hj ((x25.1,x10.1,x25.2.1,x25.2.2.1,x25.2.2.2,x24.2,([111,107]:qFm)),a11,c12,a14,c14)
 refine au [11] ?_
 exact qw hj (((1:Int),x10.1,x10.2.1,x10.2.2.1,x10.2.2.2,x24.2,([111,107]:qFm)),a11,c12,a14,c14)
 refine vu 1 (fun ((_,g4):Unit×Nat)=>([(4,qFq g9),(7,qFq g13),(8,qFp a15 x14 c16),(9,qFq g4),(10,.bool true)],[⟨g13,85,[qFp a11 x10.1 c12.1,qFo x10.2.1,qFo x10.2.2.1,qFo x10.2.2.2,.slice none 0 0,.string (bstr ([111,107]:qFm))]⟩,⟨g9,28,[.slice none 0 0,qFo 0,qFo 0,qFo 0]⟩,⟨g4,88,[qFo 0,.func (.func 62) #[qFq g13] #[]]⟩],[Ro eT 9 1 (qFp a15 x14 c16) x14,RoN eN56 rN56 56 1 (qFp a11 x10.1 c12.1) x10.1 c12.2 []],[GF],qaX F x10 x14)) ?_ (fun hw4=>?_)
 rintro ⟨_,g4⟩
 refine au [117,81,1,107] ?_
 intro x26 e13 a16 c15 h8 h9
 refine au [28,0,92] ?_
 refine qB 3 (.agg #[qFo 0,.func (.func 62) #[.pointer (some ⟨g13,0,none⟩)] #[]]) rfl rfl rfl (qz (i:=1) rfl tf88 rfl rfl (by simp) rfl) ?_
 refine au [6,4] ?_
 refine qb 5 (qFp a16 x26 c15) rfl rfl rfl (qcY underlying39 tf9 rfl rfl rfl e13 h9 h8) ?_
 refine au [12,6,101] ?_
 rintro x27 e15 ⟨a17,c17⟩
 refine aw [0,28,1,6,7,16,19,2,10] ?_ ?_
 refine au [3,110] ?_
 refine jW EnC.e rfl rfl rfl rfl (fun x28 e16=>qjb F g13 x10.1 a11 c12 x10.2.1 x10.2.2.1 x10.2.2.2 x27.2 a17 c17 ([111,107]:qFm) x28 e16) (.cons 0 rfl .nil) .nil (.consG 1 rfl (kp qeC) (.consR 0 (qFs a17 x27.2 c17) rfl (.consF 2 rfl .nil))) (fun x28 e16 _=>?_)
 refine au [5,0] ?_
 exact qw hj ((x28.1,x10.1,x10.2.1,x10.2.2.1,x10.2.2.2,x27.2,x28.2),a11,c12,a17,c17)
 refine au [11] ?_
 exact qw hj (((1:Int),x10.1,x10.2.1,x10.2.2.1,x10.2.2.2,x27.2,([111,107]:qFm)),a11,c12,a17,c17)
 refine vu 1 (fun ((_,g5):Unit×Nat)=>([(4,qFq g9),(7,qFq g13),(8,qFp a15 x14 c16),(9,qFq g5),(10,.bool true)],[⟨g13,85,[qFp a11 x10.1 c12.1,qFo x10.2.1,qFo x10.2.2.1,qFo x10.2.2.2,.slice none 0 0,.string (bstr ([111,107]:qFm))]⟩,⟨g9,28,[.slice none 0 0,qFo 0,qFo 0,qFo 0]⟩,⟨g5,88,[qFo 1,.func (.func 63) #[qFq g13] #[]]⟩],[Ro eT 9 1 (qFp a15 x14 c16) x14,RoN eN56 rN56 56 1 (qFp a11 x10.1 c12.1) x10.1 c12.2 []],[GF],qaY F x10 x14)) ?_ (fun hw5=>?_)
 rintro ⟨_,g5⟩
 refine au [117,81,1,107] ?_
 intro x29 e17 a18 c18 h10 h11
 refine au [28,0,92] ?_
 refine qB 3 (.agg #[qFo 1,.func (.func 63) #[.pointer (some ⟨g13,0,none⟩)] #[]]) rfl rfl rfl (qz (i:=1) rfl tf88 rfl rfl (by simp) rfl) ?_
 refine au [6,4] ?_
 refine qb 5 (qFp a18 x29 c18) rfl rfl rfl (qcY underlying39 tf9 rfl rfl rfl e17 h11 h10) ?_
 refine au [12,6,101] ?_
 rintro x30 e18 ⟨a19,c19⟩
 refine aw [0,28,1,6,7,16,19,2,10] ?_ ?_
 refine au [3,110] ?_
 refine jW EnC.e rfl rfl rfl rfl (fun x31 e19=>qjd F g13 x10.1 a11 c12 x10.2.1 x10.2.2.1 x10.2.2.2 x30.2 a19 c19 ([111,107]:qFm) x31 e19) (.cons 0 rfl .nil) .nil (.consG 1 rfl (kp qeC) (.consR 0 (qFs a19 x30.2 c19) rfl (.consF 2 rfl .nil))) (fun x31 e19 _=>?_)
 refine au [5,0] ?_
 exact qw hj ((x31.1,x10.1,x10.2.1,x10.2.2.1,x10.2.2.2,x30.2,x31.2),a11,c12,a19,c19)
 refine au [11] ?_
 exact qw hj (((1:Int),x10.1,x10.2.1,x10.2.2.1,x10.2.2.2,x30.2,([111,107]:qFm)),a11,c12,a19,c19)
 refine vu 1 (fun ((_,g6):Unit×Nat)=>([(4,qFq g9),(7,qFq g13),(8,qFp a15 x14 c16),(9,qFq g6),(10,.bool true)],[⟨g13,85,[qFp a11 x10.1 c12.1,qFo x10.2.1,qFo x10.2.2.1,qFo x10.2.2.2,.slice none 0 0,.string (bstr ([111,107]:qFm))]⟩,⟨g9,28,[.slice none 0 0,qFo 0,qFo 0,qFo 0]⟩,⟨g6,88,[qFo 2,.func (.func 64) #[qFq g13] #[]]⟩],[Ro eT 9 1 (qFp a15 x14 c16) x14,RoN eN56 rN56 56 1 (qFp a11 x10.1 c12.1) x10.1 c12.2 []],[GF],qaZ F x10 x14)) ?_ (fun hw6=>?_)
 rintro ⟨_,g6⟩
 refine au [117,81,1,107] ?_
 intro x32 e20 a20 c20 h12 h13
 refine au [28,0,92] ?_
 refine qB 3 (.agg #[qFo 2,.func (.func 64) #[.pointer (some ⟨g13,0,none⟩)] #[]]) rfl rfl rfl (qz (i:=1) rfl tf88 rfl rfl (by simp) rfl) ?_
 refine au [6,4] ?_
 refine qb 5 (qFp a20 x32 c20) rfl rfl rfl (qcY underlying39 tf9 rfl rfl rfl e20 h13 h12) ?_
 refine au [12,6,101] ?_
 rintro x33 e21 ⟨a21,c21⟩
 refine aw [0,28,1,6,7,16,19,2,10] ?_ ?_
 refine au [3,110] ?_
 refine jW EnC.e rfl rfl rfl rfl (fun x34 e22=>qj3 F g13 x10.1 a11 c12 x10.2.1 x10.2.2.1 x10.2.2.2 x33.2 a21 c21 ([111,107]:qFm) x34 e22) (.cons 0 rfl .nil) .nil (.consG 1 rfl (kp qeC) (.consR 0 (qFs a21 x33.2 c21) rfl (.consF 2 rfl .nil))) (fun x34 e22 _=>?_)
 refine au [5,0] ?_
 exact qw hj ((x34.1,x10.1,x10.2.1,x10.2.2.1,x10.2.2.2,x33.2,x34.2),a11,c12,a21,c21)
 refine au [11] ?_
 exact qw hj (((1:Int),x10.1,x10.2.1,x10.2.2.1,x10.2.2.2,x33.2,([111,107]:qFm)),a11,c12,a21,c21)
 refine vu 1 (fun ((_,g7):Unit×Nat)=>([(4,qFq g9),(7,qFq g13),(8,qFp a15 x14 c16),(9,qFq g7),(10,.bool true)],[⟨g13,85,[qFp a11 x10.1 c12.1,qFo x10.2.1,qFo x10.2.2.1,qFo x10.2.2.2,.slice none 0 0,.string (bstr ([111,107]:qFm))]⟩,⟨g9,28,[.slice none 0 0,qFo 0,qFo 0,qFo 0]⟩,⟨g7,88,[qFo 2,.func (.func 65) #[qFq g13] #[]]⟩],[Ro eT 9 1 (qFp a15 x14 c16) x14,RoN eN56 rN56 56 1 (qFp a11 x10.1 c12.1) x10.1 c12.2 []],[GF],qa0 F x10 x14)) ?_ (fun hw7=>?_)
 rintro ⟨_,g7⟩
 refine au [117,81,1,107] ?_
 intro x35 e23 a22 c22 h14 h15
 refine au [28,0,92] ?_
 refine qB 3 (.agg #[qFo 2,.func (.func 65) #[.pointer (some ⟨g13,0,none⟩)] #[]]) rfl rfl rfl (qz (i:=1) rfl tf88 rfl rfl (by simp) rfl) ?_
 refine au [6,4] ?_
 refine qb 5 (qFp a22 x35 c22) rfl rfl rfl (qcY underlying39 tf9 rfl rfl rfl e23 h15 h14) ?_
 refine au [12,6,101] ?_
 rintro x36 e24 ⟨a23,c23⟩
 refine aw [0,28,1,6,7,16,19,2,10] ?_ ?_
 refine au [3,110] ?_
 refine jW EnC.e rfl rfl rfl rfl (fun x37 e25=>qj5 F g13 x10.1 a11 c12 x10.2.1 x10.2.2.1 x10.2.2.2 x36.2 a23 c23 ([111,107]:qFm) x37 e25) (.cons 0 rfl .nil) .nil (.consG 1 rfl (kp qeC) (.consR 0 (qFs a23 x36.2 c23) rfl (.consF 2 rfl .nil))) (fun x37 e25 _=>?_)
 refine au [5,0] ?_
 exact qw hj ((x37.1,x10.1,x10.2.1,x10.2.2.1,x10.2.2.2,x36.2,x37.2),a11,c12,a23,c23)
 refine au [11] ?_
 exact qw hj (((1:Int),x10.1,x10.2.1,x10.2.2.1,x10.2.2.2,x36.2,([111,107]:qFm)),a11,c12,a23,c23)
 refine vu 1 (fun ((_,g10,g11,g12):Unit×Nat×Nat×Nat)=>([(4,qFq g9),(7,qFq g13),(8,qFp a15 x14 c16),(9,qFq g10),(10,.bool true)],[⟨g13,85,[qFp a11 x10.1 c12.1,qFo x10.2.1,qFo x10.2.2.1,qFo x10.2.2.2,.slice none 0 0,.string (bstr ([111,107]:qFm))]⟩,⟨g9,28,[.slice none 0 0,qFo 0,qFo 0,qFo 0]⟩,⟨g10,88,[qFo 1,.func (.func 94) #[] #[qFq g11,qFq g12]]⟩,⟨g11,83,[qFq g13]⟩,⟨g12,107,[.func (.func 67) #[] #[]]⟩],[Ro eT 9 1 (qFp a15 x14 c16) x14,RoN eN56 rN56 56 1 (qFp a11 x10.1 c12.1) x10.1 c12.2 []],[GF],qa1 F x10 x14)) ?_ (fun hw8=>?_)
 rintro ⟨_,g10,g11,g12⟩
 refine au [117,81,1,107] ?_
 intro x38 e26 a24 c24 h16 h17
 refine au [38,5,92] ?_
 refine qB 3 (.agg #[qFo 1,.func (.func 94) #[] #[.pointer (some ⟨g11,0,none⟩),.pointer (some ⟨g12,0,none⟩)]]) rfl rfl rfl (qz (i:=1) rfl tf88 rfl rfl (by simp) rfl) ?_
 refine au [6,4] ?_
 refine qb 5 (qFp a24 x38 c24) rfl rfl rfl (qcY underlying39 tf9 rfl rfl rfl e26 h17 h16) ?_
 refine au [12,6,101] ?_
 rintro x39 e27 ⟨a25,c25⟩
 refine aw [0,38,6,6,7,16,19,2,10] ?_ ?_
 refine au [3,110] ?_
 refine qfZ EnC.e rfl rfl rfl rfl (fun x40 e28=>qdT F g11 g13 x10.1 a11 c12 x10.2.1 x10.2.2.1 x10.2.2.2 x39.2 a25 c25 ([111,107]:qFm) g12 x40 e28) (.cons 3 rfl (.cons 0 rfl (.cons 2 rfl .nil))) .nil (.consG 1 rfl (kp qeC) (.consR 0 (qFs a25 x39.2 c25) rfl (.consF 2 rfl .nil))) (fun x40 e28 _=>?_)
 refine au [5,0] ?_
 exact qw hj ((x40.1,x10.1,x10.2.1,x10.2.2.1,x10.2.2.2,x39.2,x40.2),a11,c12,a25,c25)
 refine au [11] ?_
 exact qw hj (((1:Int),x10.1,x10.2.1,x10.2.2.1,x10.2.2.2,x39.2,([111,107]:qFm)),a11,c12,a25,c25)
 refine vu 1 (fun ((_,g14):Unit×Nat)=>([(4,qFq g9),(7,qFq g13),(8,qFp a15 x14 c16),(9,qFq g14),(10,.bool true)],[⟨g13,85,[qFp a11 x10.1 c12.1,qFo x10.2.1,qFo x10.2.2.1,qFo x10.2.2.2,.slice none 0 0,.string (bstr ([111,107]:qFm))]⟩,⟨g9,28,[.slice none 0 0,qFo 0,qFo 0,qFo 0]⟩,⟨g14,88,[qFo 0,.func (.func 68) #[qFq g13] #[]]⟩],[Ro eT 9 1 (qFp a15 x14 c16) x14,RoN eN56 rN56 56 1 (qFp a11 x10.1 c12.1) x10.1 c12.2 []],[GF],qa2 F x10 x14)) ?_ (fun hw9=>?_)
 rintro ⟨_,g14⟩
 refine au [117,81,1,107] ?_
 intro x41 e29 a26 c26 h18 h19
 refine au [28,0,92] ?_
 refine qB 3 (.agg #[qFo 0,.func (.func 68) #[.pointer (some ⟨g13,0,none⟩)] #[]]) rfl rfl rfl (qz (i:=1) rfl tf88 rfl rfl (by simp) rfl) ?_
 refine au [6,4] ?_
 refine qb 5 (qFp a26 x41 c26) rfl rfl rfl (qcY underlying39 tf9 rfl rfl rfl e29 h19 h18) ?_
 refine au [12,6,101] ?_
 rintro x42 e30 ⟨a27,c27⟩
 refine aw [0,28,1,6,7,16,19,2,10] ?_ ?_
 refine au [3,110] ?_
 refine jW EnC.e rfl rfl rfl rfl (fun x43 e31=>qiJ F g13 x10.1 a11 c12 x10.2.1 x10.2.2.1 x10.2.2.2 x42.2 a27 c27 ([111,107]:qFm) x43 e31) (.cons 0 rfl .nil) .nil (.consG 1 rfl (kp qeC) (.consR 0 (qFs a27 x42.2 c27) rfl (.consF 2 rfl .nil))) (fun x43 e31 _=>?_)
 refine au [5,0] ?_
 exact qw hj ((x43.1,x10.1,x10.2.1,x10.2.2.1,x10.2.2.2,x42.2,x43.2),a11,c12,a27,c27)
 refine au [11] ?_
 exact qw hj (((1:Int),x10.1,x10.2.1,x10.2.2.1,x10.2.2.2,x42.2,([111,107]:qFm)),a11,c12,a27,c27)
 refine vu 1 (fun ((_,g15,g16,g17):Unit×Nat×Nat×Nat)=>([(4,qFq g9),(7,qFq g13),(8,qFp a15 x14 c16),(9,qFq g15),(10,.bool true)],[⟨g13,85,[qFp a11 x10.1 c12.1,qFo x10.2.1,qFo x10.2.2.1,qFo x10.2.2.2,.slice none 0 0,.string (bstr ([111,107]:qFm))]⟩,⟨g9,28,[.slice none 0 0,qFo 0,qFo 0,qFo 0]⟩,⟨g15,88,[qFo 1,.func (.func 94) #[] #[qFq g16,qFq g17]]⟩,⟨g16,83,[qFq g13]⟩,⟨g17,107,[.func (.func 69) #[] #[]]⟩],[Ro eT 9 1 (qFp a15 x14 c16) x14,RoN eN56 rN56 56 1 (qFp a11 x10.1 c12.1) x10.1 c12.2 []],[GF],qa3 F x10 x14)) ?_ (fun hw10=>?_)
 rintro ⟨_,g15,g16,g17⟩
 refine au [117,81,1,107] ?_
 intro x44 e32 a28 c28 h20 h21
 refine au [38,5,92] ?_
 refine qB 3 (.agg #[qFo 1,.func (.func 94) #[] #[.pointer (some ⟨g16,0,none⟩),.pointer (some ⟨g17,0,none⟩)]]) rfl rfl rfl (qz (i:=1) rfl tf88 rfl rfl (by simp) rfl) ?_
 refine au [6,4] ?_
 refine qb 5 (qFp a28 x44 c28) rfl rfl rfl (qcY underlying39 tf9 rfl rfl rfl e32 h21 h20) ?_
 refine au [12,6,101] ?_
 rintro x45 e33 ⟨a29,c29⟩
 refine aw [0,38,6,6,7,16,19,2,10] ?_ ?_
 refine au [3,110] ?_
 refine qfZ EnC.e rfl rfl rfl rfl (fun x46 e34=>qdS F g16 g13 x10.1 a11 c12 x10.2.1 x10.2.2.1 x10.2.2.2 x45.2 a29 c29 ([111,107]:qFm) g17 x46 e34) (.cons 3 rfl (.cons 0 rfl (.cons 2 rfl .nil))) .nil (.consG 1 rfl (kp qeC) (.consR 0 (qFs a29 x45.2 c29) rfl (.consF 2 rfl .nil))) (fun x46 e34 _=>?_)
 refine au [5,0] ?_
 exact qw hj ((x46.1,x10.1,x10.2.1,x10.2.2.1,x10.2.2.2,x45.2,x46.2),a11,c12,a29,c29)
 refine au [11] ?_
 exact qw hj (((1:Int),x10.1,x10.2.1,x10.2.2.1,x10.2.2.2,x45.2,([111,107]:qFm)),a11,c12,a29,c29)
 refine vu 1 (fun ((_,g18):Unit×Nat)=>([(4,qFq g9),(7,qFq g13),(8,qFp a15 x14 c16),(9,qFq g18),(10,.bool true)],[⟨g13,85,[qFp a11 x10.1 c12.1,qFo x10.2.1,qFo x10.2.2.1,qFo x10.2.2.2,.slice none 0 0,.string (bstr ([111,107]:qFm))]⟩,⟨g9,28,[.slice none 0 0,qFo 0,qFo 0,qFo 0]⟩,⟨g18,88,[qFo 0,.func (.func 70) #[qFq g13] #[]]⟩],[Ro eT 9 1 (qFp a15 x14 c16) x14,RoN eN56 rN56 56 1 (qFp a11 x10.1 c12.1) x10.1 c12.2 []],[GF],qa4 F x10 x14)) ?_ (fun hw11=>?_)
 rintro ⟨_,g18⟩
 refine au [117,81,1,107] ?_
 intro x47 e35 a30 c30 h22 h23
 refine au [28,0,92] ?_
 refine qB 3 (.agg #[qFo 0,.func (.func 70) #[.pointer (some ⟨g13,0,none⟩)] #[]]) rfl rfl rfl (qz (i:=1) rfl tf88 rfl rfl (by simp) rfl) ?_
 refine au [6,4] ?_
 refine qb 5 (qFp a30 x47 c30) rfl rfl rfl (qcY underlying39 tf9 rfl rfl rfl e35 h23 h22) ?_
 refine au [12,6,101] ?_
 rintro x48 e36 ⟨a31,c31⟩
 refine aw [0,28,1,6,7,16,19,2,10] ?_ ?_
 refine au [3,110] ?_
 refine jW EnC.e rfl rfl rfl rfl (fun x49 e37=>qit F g13 x10.1 a11 c12 x10.2.1 x10.2.2.1 x10.2.2.2 x48.2 a31 c31 ([111,107]:qFm) x49 e37) (.cons 0 rfl .nil) .nil (.consG 1 rfl (kp qeC) (.consR 0 (qFs a31 x48.2 c31) rfl (.consF 2 rfl .nil))) (fun x49 e37 _=>?_)
 refine au [5,0] ?_
 exact qw hj ((x49.1,x10.1,x10.2.1,x10.2.2.1,x10.2.2.2,x48.2,x49.2),a11,c12,a31,c31)
 refine au [11] ?_
 exact qw hj (((1:Int),x10.1,x10.2.1,x10.2.2.1,x10.2.2.2,x48.2,([111,107]:qFm)),a11,c12,a31,c31)
 refine vu 1 (fun ((_,g19):Unit×Nat)=>([(4,qFq g9),(7,qFq g13),(8,qFp a15 x14 c16),(9,qFq g19),(10,.bool false)],[⟨g13,85,[qFp a11 x10.1 c12.1,qFo x10.2.1,qFo x10.2.2.1,qFo x10.2.2.2,.slice none 0 0,.string (bstr ([111,107]:qFm))]⟩,⟨g9,28,[.slice none 0 0,qFo 0,qFo 0,qFo 0]⟩,⟨g19,88,[qFo 0,.nilFunc]⟩],[Ro eT 9 1 (qFp a15 x14 c16) x14,RoN eN56 rN56 56 1 (qFp a11 x10.1 c12.1) x10.1 c12.2 []],[GF],qeX F x10)) ?_ (fun hw12=>?_)
 rintro ⟨_,g19⟩
 refine au [117,81,1] ?_
 refine qI [] [0,0,0] [0] 8 ?_
 refine au [70,20,2,20,3,20,4,20,5,20,6,6,7,54,2] ?_
 refine yf (b:=false) rfl (fun h=>by cases h) (fun _=>?_)
 refine au [11,25,8] ?_
 exact qw hj (((1:Int),x10.1,x10.2.1,x10.2.2.1,x10.2.2.2,([]:qFm),([111,107]:qFm)),a11,c12,none,0)
 refine au [1,30,0] ?_
 intro x50 e38 g20 h24
 replace h24:a15=some ⟨g20,0,none⟩:=h24
 have h25:=zM (k:=x14.length) (c:=c16) h24
 refine kD mixed [] _ _ (.cons 0 rfl (.cons 0 rfl (.cons 0 rfl .nil))) (qg 0 rfl (qg 1 rfl (qE 0 rfl (qo qG e38 h24) qf))) 12 rfl ?_
 refine au [6,0,6,2] ?_
 refine jN 3 h24 e38 ?_
 refine qy 4 (.string (bstr x50)) [] rfl rfl rfl (qQ (j:=2) rfl tf9 rfl rfl (fun _=>rfl) rfl) (yZ 1 9 rfl rfl (by kernel_rfl) rfl rfl ?_ ?_)
 refine au [26,10,38,7] ?_
 rintro x51 e39 ⟨g21,g22,g23,g24,g25⟩
 refine au [0] ?_
 refine qc (.cons 5 rfl (.cons 5 rfl (.cons 5 rfl .nil))) (qg 0 rfl (qg 1 rfl (qE 1 rfl (qo qG e38 h24) qf))) (yZ 5 9 rfl rfl (by kernel_rfl) rfl rfl ?_ ?_)
 · as_aux_lemma =>
   refine qh6 (i:=0) (u:=x50) rfl underlying90 underlying9 tf88 rfl rfl rfl rfl (q8 ?_ (q8 ?_ (q8 ?_ (q8 ?_ (q8 ?_ (q8 ?_ (q8 ?_ (q8 ?_ (q8 ?_ (q8 ?_ (q8 ?_ (q8 ?_ (qoG ?_)))))))))))))
   refine au [0] ?_
   refine qc (.cons 5 rfl (.cons 5 rfl (.cons 5 rfl .nil))) (qg 0 rfl (qg 1 rfl (qE 1 rfl (qo qG e38 h24) qf))) ?_
   refine au [67,6,8,102] ?_
   intro g26
   refine au [0] ?_
   refine qc (.cons 6 rfl (.cons 6 rfl (.cons 6 rfl .nil))) (qg 0 rfl (qg 1 rfl (qE 1 rfl (qo qG e38 h24) qf))) ?_
   refine au [106] ?_
   refine qc (.cons 6 rfl (.cons 6 rfl (.cons 6 rfl .nil))) (qg 0 rfl (qg 1 rfl (qE 1 rfl (qo qG e38 h24) qf))) ?_
   refine au [65] ?_
   exact qw hw0 ((),g26)
   refine au [0] ?_
   refine qc (.cons 5 rfl (.cons 5 rfl (.cons 5 rfl .nil))) (qg 0 rfl (qg 1 rfl (qE 1 rfl (qo qG e38 h24) qf))) ?_
   refine au [67,6,8,102] ?_
   intro g27
   refine au [0] ?_
   refine qc (.cons 6 rfl (.cons 6 rfl (.cons 6 rfl .nil))) (qg 0 rfl (qg 1 rfl (qE 1 rfl (qo qG e38 h24) qf))) ?_
   refine au [106] ?_
   refine qc (.cons 6 rfl (.cons 6 rfl (.cons 6 rfl .nil))) (qg 0 rfl (qg 1 rfl (qE 1 rfl (qo qG e38 h24) qf))) ?_
   refine au [65] ?_
   exact qw hw1 ((),g27)
   refine au [0] ?_
   refine qc (.cons 5 rfl (.cons 5 rfl (.cons 5 rfl .nil))) (qg 0 rfl (qg 1 rfl (qE 1 rfl (qo qG e38 h24) qf))) ?_
   refine au [67,6,8,102] ?_
   intro g28
   refine au [0] ?_
   refine qc (.cons 6 rfl (.cons 6 rfl (.cons 6 rfl .nil))) (qg 0 rfl (qg 1 rfl (qE 1 rfl (qo qG e38 h24) qf))) ?_
   refine au [106] ?_
   refine qc (.cons 6 rfl (.cons 6 rfl (.cons 6 rfl .nil))) (qg 0 rfl (qg 1 rfl (qE 1 rfl (qo qG e38 h24) qf))) ?_
   refine au [65] ?_
   exact qw hw2 ((),g28)
   refine au [0] ?_
   refine qc (.cons 5 rfl (.cons 5 rfl (.cons 5 rfl .nil))) (qg 0 rfl (qg 1 rfl (qE 1 rfl (qo qG e38 h24) qf))) ?_
   refine au [67,6,8,102] ?_
   intro g29
   refine au [0] ?_
   refine qc (.cons 6 rfl (.cons 6 rfl (.cons 6 rfl .nil))) (qg 0 rfl (qg 1 rfl (qE 1 rfl (qo qG e38 h24) qf))) ?_
   refine au [106] ?_
   refine qc (.cons 6 rfl (.cons 6 rfl (.cons 6 rfl .nil))) (qg 0 rfl (qg 1 rfl (qE 1 rfl (qo qG e38 h24) qf))) ?_
   refine au [65] ?_
   exact qw hw3 ((),g29)
   refine au [0] ?_
   refine qc (.cons 5 rfl (.cons 5 rfl (.cons 5 rfl .nil))) (qg 0 rfl (qg 1 rfl (qE 1 rfl (qo qG e38 h24) qf))) ?_
   refine au [67,6,8,102] ?_
   intro g30
   refine au [0] ?_
   refine qc (.cons 6 rfl (.cons 6 rfl (.cons 6 rfl .nil))) (qg 0 rfl (qg 1 rfl (qE 1 rfl (qo qG e38 h24) qf))) ?_
   refine au [106] ?_
   refine qc (.cons 6 rfl (.cons 6 rfl (.cons 6 rfl .nil))) (qg 0 rfl (qg 1 rfl (qE 1 rfl (qo qG e38 h24) qf))) ?_
   refine au [65] ?_
   exact qw hw4 ((),g30)
   refine au [0] ?_
   refine qc (.cons 5 rfl (.cons 5 rfl (.cons 5 rfl .nil))) (qg 0 rfl (qg 1 rfl (qE 1 rfl (qo qG e38 h24) qf))) ?_
   refine au [67,6,8,102] ?_
   intro g31
   refine au [0] ?_
   refine qc (.cons 6 rfl (.cons 6 rfl (.cons 6 rfl .nil))) (qg 0 rfl (qg 1 rfl (qE 1 rfl (qo qG e38 h24) qf))) ?_
   refine au [106] ?_
   refine qc (.cons 6 rfl (.cons 6 rfl (.cons 6 rfl .nil))) (qg 0 rfl (qg 1 rfl (qE 1 rfl (qo qG e38 h24) qf))) ?_
   refine au [65] ?_
   exact qw hw5 ((),g31)
   refine au [0] ?_
   refine qc (.cons 5 rfl (.cons 5 rfl (.cons 5 rfl .nil))) (qg 0 rfl (qg 1 rfl (qE 1 rfl (qo qG e38 h24) qf))) ?_
   refine au [67,6,8,102] ?_
   intro g32
   refine au [0] ?_
   refine qc (.cons 6 rfl (.cons 6 rfl (.cons 6 rfl .nil))) (qg 0 rfl (qg 1 rfl (qE 1 rfl (qo qG e38 h24) qf))) ?_
   refine au [106] ?_
   refine qc (.cons 6 rfl (.cons 6 rfl (.cons 6 rfl .nil))) (qg 0 rfl (qg 1 rfl (qE 1 rfl (qo qG e38 h24) qf))) ?_
   refine au [65] ?_
   exact qw hw6 ((),g32)
   refine au [0] ?_
   refine qc (.cons 5 rfl (.cons 5 rfl (.cons 5 rfl .nil))) (qg 0 rfl (qg 1 rfl (qE 1 rfl (qo qG e38 h24) qf))) ?_
   refine au [67,6,8,102] ?_
   intro g33
   refine au [0] ?_
   refine qc (.cons 6 rfl (.cons 6 rfl (.cons 6 rfl .nil))) (qg 0 rfl (qg 1 rfl (qE 1 rfl (qo qG e38 h24) qf))) ?_
   refine au [106] ?_
   refine qc (.cons 6 rfl (.cons 6 rfl (.cons 6 rfl .nil))) (qg 0 rfl (qg 1 rfl (qE 1 rfl (qo qG e38 h24) qf))) ?_
   refine au [65] ?_
   exact qw hw7 ((),g33)
   refine au [0] ?_
   refine qc (.cons 5 rfl (.cons 5 rfl (.cons 5 rfl .nil))) (qg 0 rfl (qg 1 rfl (qE 1 rfl (qo qG e38 h24) qf))) ?_
   refine au [67,6,8,102] ?_
   intro g34
   refine au [0] ?_
   refine qc (.cons 6 rfl (.cons 6 rfl (.cons 6 rfl .nil))) (qg 0 rfl (qg 1 rfl (qE 1 rfl (qo qG e38 h24) qf))) ?_
   refine au [106] ?_
   refine qc (.cons 6 rfl (.cons 6 rfl (.cons 6 rfl .nil))) (qg 0 rfl (qg 1 rfl (qE 1 rfl (qo qG e38 h24) qf))) ?_
   refine au [65] ?_
   exact qw hw8 ((),g34,g22,g23)
   refine au [0] ?_
   refine qc (.cons 5 rfl (.cons 5 rfl (.cons 5 rfl .nil))) (qg 0 rfl (qg 1 rfl (qE 1 rfl (qo qG e38 h24) qf))) ?_
   refine au [67,6,8,102] ?_
   intro g35
   refine au [0] ?_
   refine qc (.cons 6 rfl (.cons 6 rfl (.cons 6 rfl .nil))) (qg 0 rfl (qg 1 rfl (qE 1 rfl (qo qG e38 h24) qf))) ?_
   refine au [106] ?_
   refine qc (.cons 6 rfl (.cons 6 rfl (.cons 6 rfl .nil))) (qg 0 rfl (qg 1 rfl (qE 1 rfl (qo qG e38 h24) qf))) ?_
   refine au [65] ?_
   exact qw hw9 ((),g35)
   refine au [0] ?_
   refine qc (.cons 5 rfl (.cons 5 rfl (.cons 5 rfl .nil))) (qg 0 rfl (qg 1 rfl (qE 1 rfl (qo qG e38 h24) qf))) ?_
   refine au [67,6,8,102] ?_
   intro g36
   refine au [0] ?_
   refine qc (.cons 6 rfl (.cons 6 rfl (.cons 6 rfl .nil))) (qg 0 rfl (qg 1 rfl (qE 1 rfl (qo qG e38 h24) qf))) ?_
   refine au [106] ?_
   refine qc (.cons 6 rfl (.cons 6 rfl (.cons 6 rfl .nil))) (qg 0 rfl (qg 1 rfl (qE 1 rfl (qo qG e38 h24) qf))) ?_
   refine au [65] ?_
   exact qw hw10 ((),g36,g24,g25)
   refine au [0] ?_
   refine qc (.cons 5 rfl (.cons 5 rfl (.cons 5 rfl .nil))) (qg 0 rfl (qg 1 rfl (qE 1 rfl (qo qG e38 h24) qf))) ?_
   refine au [67,6,8,102] ?_
   intro g37
   refine au [0] ?_
   refine qc (.cons 6 rfl (.cons 6 rfl (.cons 6 rfl .nil))) (qg 0 rfl (qg 1 rfl (qE 1 rfl (qo qG e38 h24) qf))) ?_
   refine au [106] ?_
   refine qc (.cons 6 rfl (.cons 6 rfl (.cons 6 rfl .nil))) (qg 0 rfl (qg 1 rfl (qE 1 rfl (qo qG e38 h24) qf))) ?_
   refine au [65] ?_
   exact qw hw11 ((),g37)
   refine au [0] ?_
   refine qc (.cons 5 rfl (.cons 5 rfl (.cons 5 rfl .nil))) (qg 0 rfl (qg 1 rfl (qE 1 rfl (qo qG e38 h24) qf))) ?_
   refine au [67,6,8,102] ?_
   intro g38
   refine au [0] ?_
   refine qc (.cons 6 rfl (.cons 6 rfl (.cons 6 rfl .nil))) (qg 0 rfl (qg 1 rfl (qE 1 rfl (qo qG e38 h24) qf))) ?_
   refine au [106] ?_
   refine qc (.cons 6 rfl (.cons 6 rfl (.cons 6 rfl .nil))) (qg 0 rfl (qg 1 rfl (qE 1 rfl (qo qG e38 h24) qf))) ?_
   refine au [65] ?_
   exact qw hw12 ((),g38)
 · as_aux_lemma =>
   refine qeE (m':=(if (bstr x50 == bstr ([110,111,100,101,115]:qFm)) then qaT F x10 x14 else (if (bstr x50 == bstr ([97,114,99]:qFm)) then qaU F x10 x14 else (if (bstr x50 == bstr ([100,114,111,112]:qFm)) then qaV F x10 x14 else (if (bstr x50 == bstr ([104,111,119]:qFm)) then qaW F x10 x14 else (if (bstr x50 == bstr ([98,105,116,115]:qFm)) then qaX F x10 x14 else (if (bstr x50 == bstr ([108,105,115,116]:qFm)) then qaY F x10 x14 else (if (bstr x50 == bstr ([102,97,114]:qFm)) then qaZ F x10 x14 else (if (bstr x50 == bstr ([119,97,121]:qFm)) then qa0 F x10 x14 else (if (bstr x50 == bstr ([112,97,114,116]:qFm)) then qa1 F x10 x14 else (if (bstr x50 == bstr ([111,114,100,101,114]:qFm)) then qa2 F x10 x14 else (if (bstr x50 == bstr ([99,111,114,101]:qFm)) then qa3 F x10 x14 else (if (bstr x50 == bstr ([116,104,114,101,101,115]:qFm)) then qa4 F x10 x14 else qeX F x10))))))))))))) rfl ?_
   refine au [24,5] ?_
   intro g39
   refine au [0] ?_
   refine qc (.cons 6 rfl (.cons 6 rfl (.cons 6 rfl .nil))) (qg 0 rfl (qg 1 rfl (qE 1 rfl (qo qG e38 h24) qf))) ?_
   refine au [12,5] ?_
   refine qh6 (i:=1) (u:=x50) rfl underlying90 underlying9 tf88 rfl rfl rfl rfl (q8 ?_ (q8 ?_ (q8 ?_ (q8 ?_ (q8 ?_ (q8 ?_ (q8 ?_ (q8 ?_ (q8 ?_ (q8 ?_ (q8 ?_ (q8 ?_ (qoG ?_)))))))))))))
   refine au [0] ?_
   refine qc (.cons 6 rfl (.cons 6 rfl (.cons 6 rfl .nil))) (qg 0 rfl (qg 1 rfl (qE 1 rfl (qo qG e38 h24) qf))) ?_
   refine au [67,75,87] ?_
   refine qc (.cons 6 rfl (.cons 6 rfl (.cons 6 rfl .nil))) (qg 0 rfl (qg 1 rfl (qE 1 rfl (qo qG e38 h24) qf))) ?_
   refine au [65] ?_
   exact qw hw0 ((),g39)
   refine au [0] ?_
   refine qc (.cons 6 rfl (.cons 6 rfl (.cons 6 rfl .nil))) (qg 0 rfl (qg 1 rfl (qE 1 rfl (qo qG e38 h24) qf))) ?_
   refine au [67,75,87] ?_
   refine qc (.cons 6 rfl (.cons 6 rfl (.cons 6 rfl .nil))) (qg 0 rfl (qg 1 rfl (qE 1 rfl (qo qG e38 h24) qf))) ?_
   refine au [65] ?_
   exact qw hw1 ((),g39)
   refine au [0] ?_
   refine qc (.cons 6 rfl (.cons 6 rfl (.cons 6 rfl .nil))) (qg 0 rfl (qg 1 rfl (qE 1 rfl (qo qG e38 h24) qf))) ?_
   refine au [67,75,87] ?_
   refine qc (.cons 6 rfl (.cons 6 rfl (.cons 6 rfl .nil))) (qg 0 rfl (qg 1 rfl (qE 1 rfl (qo qG e38 h24) qf))) ?_
   refine au [65] ?_
   exact qw hw2 ((),g39)
   refine au [0] ?_
   refine qc (.cons 6 rfl (.cons 6 rfl (.cons 6 rfl .nil))) (qg 0 rfl (qg 1 rfl (qE 1 rfl (qo qG e38 h24) qf))) ?_
   refine au [67,75,87] ?_
   refine qc (.cons 6 rfl (.cons 6 rfl (.cons 6 rfl .nil))) (qg 0 rfl (qg 1 rfl (qE 1 rfl (qo qG e38 h24) qf))) ?_
   refine au [65] ?_
   exact qw hw3 ((),g39)
   refine au [0] ?_
   refine qc (.cons 6 rfl (.cons 6 rfl (.cons 6 rfl .nil))) (qg 0 rfl (qg 1 rfl (qE 1 rfl (qo qG e38 h24) qf))) ?_
   refine au [67,75,87] ?_
   refine qc (.cons 6 rfl (.cons 6 rfl (.cons 6 rfl .nil))) (qg 0 rfl (qg 1 rfl (qE 1 rfl (qo qG e38 h24) qf))) ?_
   refine au [65] ?_
   exact qw hw4 ((),g39)
   refine au [0] ?_
   refine qc (.cons 6 rfl (.cons 6 rfl (.cons 6 rfl .nil))) (qg 0 rfl (qg 1 rfl (qE 1 rfl (qo qG e38 h24) qf))) ?_
   refine au [67,75,87] ?_
   refine qc (.cons 6 rfl (.cons 6 rfl (.cons 6 rfl .nil))) (qg 0 rfl (qg 1 rfl (qE 1 rfl (qo qG e38 h24) qf))) ?_
   refine au [65] ?_
   exact qw hw5 ((),g39)
   refine au [0] ?_
   refine qc (.cons 6 rfl (.cons 6 rfl (.cons 6 rfl .nil))) (qg 0 rfl (qg 1 rfl (qE 1 rfl (qo qG e38 h24) qf))) ?_
   refine au [67,75,87] ?_
   refine qc (.cons 6 rfl (.cons 6 rfl (.cons 6 rfl .nil))) (qg 0 rfl (qg 1 rfl (qE 1 rfl (qo qG e38 h24) qf))) ?_
   refine au [65] ?_
   exact qw hw6 ((),g39)
   refine au [0] ?_
   refine qc (.cons 6 rfl (.cons 6 rfl (.cons 6 rfl .nil))) (qg 0 rfl (qg 1 rfl (qE 1 rfl (qo qG e38 h24) qf))) ?_
   refine au [67,75,87] ?_
   refine qc (.cons 6 rfl (.cons 6 rfl (.cons 6 rfl .nil))) (qg 0 rfl (qg 1 rfl (qE 1 rfl (qo qG e38 h24) qf))) ?_
   refine au [65] ?_
   exact qw hw7 ((),g39)
   refine au [0] ?_
   refine qc (.cons 6 rfl (.cons 6 rfl (.cons 6 rfl .nil))) (qg 0 rfl (qg 1 rfl (qE 1 rfl (qo qG e38 h24) qf))) ?_
   refine au [67,75,87] ?_
   refine qc (.cons 6 rfl (.cons 6 rfl (.cons 6 rfl .nil))) (qg 0 rfl (qg 1 rfl (qE 1 rfl (qo qG e38 h24) qf))) ?_
   refine au [65] ?_
   exact qw hw8 ((),g39,g22,g23)
   refine au [0] ?_
   refine qc (.cons 6 rfl (.cons 6 rfl (.cons 6 rfl .nil))) (qg 0 rfl (qg 1 rfl (qE 1 rfl (qo qG e38 h24) qf))) ?_
   refine au [67,75,87] ?_
   refine qc (.cons 6 rfl (.cons 6 rfl (.cons 6 rfl .nil))) (qg 0 rfl (qg 1 rfl (qE 1 rfl (qo qG e38 h24) qf))) ?_
   refine au [65] ?_
   exact qw hw9 ((),g39)
   refine au [0] ?_
   refine qc (.cons 6 rfl (.cons 6 rfl (.cons 6 rfl .nil))) (qg 0 rfl (qg 1 rfl (qE 1 rfl (qo qG e38 h24) qf))) ?_
   refine au [67,75,87] ?_
   refine qc (.cons 6 rfl (.cons 6 rfl (.cons 6 rfl .nil))) (qg 0 rfl (qg 1 rfl (qE 1 rfl (qo qG e38 h24) qf))) ?_
   refine au [65] ?_
   exact qw hw10 ((),g39,g24,g25)
   refine au [0] ?_
   refine qc (.cons 6 rfl (.cons 6 rfl (.cons 6 rfl .nil))) (qg 0 rfl (qg 1 rfl (qE 1 rfl (qo qG e38 h24) qf))) ?_
   refine au [67,75,87] ?_
   refine qc (.cons 6 rfl (.cons 6 rfl (.cons 6 rfl .nil))) (qg 0 rfl (qg 1 rfl (qE 1 rfl (qo qG e38 h24) qf))) ?_
   refine au [65] ?_
   exact qw hw11 ((),g39)
   refine au [0] ?_
   refine qc (.cons 6 rfl (.cons 6 rfl (.cons 6 rfl .nil))) (qg 0 rfl (qg 1 rfl (qE 1 rfl (qo qG e38 h24) qf))) ?_
   refine au [67,75,87] ?_
   refine qc (.cons 6 rfl (.cons 6 rfl (.cons 6 rfl .nil))) (qg 0 rfl (qg 1 rfl (qE 1 rfl (qo qG e38 h24) qf))) ?_
   refine au [65] ?_
   exact qw hw12 ((),g39)
 · as_aux_lemma =>
   refine au [24,5] ?_
   intro g40
   refine au [0] ?_
   refine qc (.cons 1 rfl (.cons 1 rfl (.cons 1 rfl .nil))) (qg 0 rfl (qg 1 rfl (qE 0 rfl (qo qG e38 h24) qf))) ?_
   refine au [12,1,26,10,38,7] ?_
   rintro x52 e40 ⟨g41,g42,g43,g44,g45⟩
   refine au [0] ?_
   refine qc (.cons 5 rfl (.cons 6 rfl (.cons 6 rfl .nil))) (qg 0 rfl (qg 1 rfl (qE 1 rfl (qo qG e38 h24) qf))) ?_
   refine au [12,5] ?_
   refine qh6 (i:=0) (u:=x50) rfl underlying90 underlying9 tf88 rfl rfl rfl rfl (q8 ?_ (q8 ?_ (q8 ?_ (q8 ?_ (q8 ?_ (q8 ?_ (q8 ?_ (q8 ?_ (q8 ?_ (q8 ?_ (q8 ?_ (q8 ?_ (qoG ?_)))))))))))))
   refine au [0] ?_
   refine qc (.cons 5 rfl (.cons 6 rfl (.cons 6 rfl .nil))) (qg 0 rfl (qg 1 rfl (qE 1 rfl (qo qG e38 h24) qf))) ?_
   refine au [67,75,27,0,0] ?_
   refine qc (.cons 5 rfl (.cons 6 rfl (.cons 6 rfl .nil))) (qg 0 rfl (qg 1 rfl (qE 1 rfl (qo qG e38 h24) qf))) ?_
   refine au [65] ?_
   exact qw hw0 ((),g40)
   refine au [0] ?_
   refine qc (.cons 5 rfl (.cons 6 rfl (.cons 6 rfl .nil))) (qg 0 rfl (qg 1 rfl (qE 1 rfl (qo qG e38 h24) qf))) ?_
   refine au [67,75,27,0,0] ?_
   refine qc (.cons 5 rfl (.cons 6 rfl (.cons 6 rfl .nil))) (qg 0 rfl (qg 1 rfl (qE 1 rfl (qo qG e38 h24) qf))) ?_
   refine au [65] ?_
   exact qw hw1 ((),g40)
   refine au [0] ?_
   refine qc (.cons 5 rfl (.cons 6 rfl (.cons 6 rfl .nil))) (qg 0 rfl (qg 1 rfl (qE 1 rfl (qo qG e38 h24) qf))) ?_
   refine au [67,75,27,0,0] ?_
   refine qc (.cons 5 rfl (.cons 6 rfl (.cons 6 rfl .nil))) (qg 0 rfl (qg 1 rfl (qE 1 rfl (qo qG e38 h24) qf))) ?_
   refine au [65] ?_
   exact qw hw2 ((),g40)
   refine au [0] ?_
   refine qc (.cons 5 rfl (.cons 6 rfl (.cons 6 rfl .nil))) (qg 0 rfl (qg 1 rfl (qE 1 rfl (qo qG e38 h24) qf))) ?_
   refine au [67,75,27,0,0] ?_
   refine qc (.cons 5 rfl (.cons 6 rfl (.cons 6 rfl .nil))) (qg 0 rfl (qg 1 rfl (qE 1 rfl (qo qG e38 h24) qf))) ?_
   refine au [65] ?_
   exact qw hw3 ((),g40)
   refine au [0] ?_
   refine qc (.cons 5 rfl (.cons 6 rfl (.cons 6 rfl .nil))) (qg 0 rfl (qg 1 rfl (qE 1 rfl (qo qG e38 h24) qf))) ?_
   refine au [67,75,27,0,0] ?_
   refine qc (.cons 5 rfl (.cons 6 rfl (.cons 6 rfl .nil))) (qg 0 rfl (qg 1 rfl (qE 1 rfl (qo qG e38 h24) qf))) ?_
   refine au [65] ?_
   exact qw hw4 ((),g40)
   refine au [0] ?_
   refine qc (.cons 5 rfl (.cons 6 rfl (.cons 6 rfl .nil))) (qg 0 rfl (qg 1 rfl (qE 1 rfl (qo qG e38 h24) qf))) ?_
   refine au [67,75,27,0,0] ?_
   refine qc (.cons 5 rfl (.cons 6 rfl (.cons 6 rfl .nil))) (qg 0 rfl (qg 1 rfl (qE 1 rfl (qo qG e38 h24) qf))) ?_
   refine au [65] ?_
   exact qw hw5 ((),g40)
   refine au [0] ?_
   refine qc (.cons 5 rfl (.cons 6 rfl (.cons 6 rfl .nil))) (qg 0 rfl (qg 1 rfl (qE 1 rfl (qo qG e38 h24) qf))) ?_
   refine au [67,75,27,0,0] ?_
   refine qc (.cons 5 rfl (.cons 6 rfl (.cons 6 rfl .nil))) (qg 0 rfl (qg 1 rfl (qE 1 rfl (qo qG e38 h24) qf))) ?_
   refine au [65] ?_
   exact qw hw6 ((),g40)
   refine au [0] ?_
   refine qc (.cons 5 rfl (.cons 6 rfl (.cons 6 rfl .nil))) (qg 0 rfl (qg 1 rfl (qE 1 rfl (qo qG e38 h24) qf))) ?_
   refine au [67,75,27,0,0] ?_
   refine qc (.cons 5 rfl (.cons 6 rfl (.cons 6 rfl .nil))) (qg 0 rfl (qg 1 rfl (qE 1 rfl (qo qG e38 h24) qf))) ?_
   refine au [65] ?_
   exact qw hw7 ((),g40)
   refine au [0] ?_
   refine qc (.cons 5 rfl (.cons 6 rfl (.cons 6 rfl .nil))) (qg 0 rfl (qg 1 rfl (qE 1 rfl (qo qG e38 h24) qf))) ?_
   refine au [67,75,27,0,0] ?_
   refine qc (.cons 5 rfl (.cons 6 rfl (.cons 6 rfl .nil))) (qg 0 rfl (qg 1 rfl (qE 1 rfl (qo qG e38 h24) qf))) ?_
   refine au [65] ?_
   exact qw hw8 ((),g40,g42,g43)
   refine au [0] ?_
   refine qc (.cons 5 rfl (.cons 6 rfl (.cons 6 rfl .nil))) (qg 0 rfl (qg 1 rfl (qE 1 rfl (qo qG e38 h24) qf))) ?_
   refine au [67,75,27,0,0] ?_
   refine qc (.cons 5 rfl (.cons 6 rfl (.cons 6 rfl .nil))) (qg 0 rfl (qg 1 rfl (qE 1 rfl (qo qG e38 h24) qf))) ?_
   refine au [65] ?_
   exact qw hw9 ((),g40)
   refine au [0] ?_
   refine qc (.cons 5 rfl (.cons 6 rfl (.cons 6 rfl .nil))) (qg 0 rfl (qg 1 rfl (qE 1 rfl (qo qG e38 h24) qf))) ?_
   refine au [67,75,27,0,0] ?_
   refine qc (.cons 5 rfl (.cons 6 rfl (.cons 6 rfl .nil))) (qg 0 rfl (qg 1 rfl (qE 1 rfl (qo qG e38 h24) qf))) ?_
   refine au [65] ?_
   exact qw hw10 ((),g40,g44,g45)
   refine au [0] ?_
   refine qc (.cons 5 rfl (.cons 6 rfl (.cons 6 rfl .nil))) (qg 0 rfl (qg 1 rfl (qE 1 rfl (qo qG e38 h24) qf))) ?_
   refine au [67,75,27,0,0] ?_
   refine qc (.cons 5 rfl (.cons 6 rfl (.cons 6 rfl .nil))) (qg 0 rfl (qg 1 rfl (qE 1 rfl (qo qG e38 h24) qf))) ?_
   refine au [65] ?_
   exact qw hw11 ((),g40)
   refine au [0] ?_
   refine qc (.cons 5 rfl (.cons 6 rfl (.cons 6 rfl .nil))) (qg 0 rfl (qg 1 rfl (qE 1 rfl (qo qG e38 h24) qf))) ?_
   refine au [67,75,27,0,0] ?_
   refine qc (.cons 5 rfl (.cons 6 rfl (.cons 6 rfl .nil))) (qg 0 rfl (qg 1 rfl (qE 1 rfl (qo qG e38 h24) qf))) ?_
   refine au [65] ?_
   exact qw hw12 ((),g40)
theorem qrb {r:(List (qFm)×Int×Int×Int×qFm×Int)}(hm:qay F p1 i1 i2 i3 m1=some r) :
    Pure qFv 14 [.agg #[qFp l1 p1 t1,qFo i1,qFo i2,qFo i3],.string (bstr m1)] [SlN eN56 iN56 1 (qFp l1 p1 t1) p1 n1,GF] (qFn×Nat×List (qFn×Nat)) (fun g=>.tuple #[.agg #[qFp g.1 r.1 g.2.1,qFo r.2.1,qFo r.2.2.1,qFo r.2.2.2.1],.string (bstr r.2.2.2.2.1),qFo r.2.2.2.2.2]) (fun g=>[RoN eN56 rN56 56 1 (qFp g.1 r.1 g.2.1) r.1 g.2.2 []]) (fun _=>[]):=by
 refine pureA func14 ntmps14 hm fun _=>?_
 refine au [111] ?_
 intro g8
 refine au [24,5] ?_
 intro g9
 refine au [5,80,25,10,32,12] ?_
 intro x10 e10 _
 refine au [59] ?_
 refine vh EnC.e rfl rfl rfl (fun x11 e11=>qsH m1 ([10]:qFm) x11 e11) .nil (fun x11 e11=>?_)
 rintro ⟨a12,c13⟩
 refine au [47] ?_
 refine qi [2,4,8] [0,1] [0] [0,1] (fun ((x16,_):Int×Unit)=>([(7,qFo x16)],[],[],[],qcx F p1 i1 i2 i3 x11 x16)) ?_ ?_
 refine au [48,25,6,4] ?_
 refine vC 4 21 25 [2,4,7,8] (decide (100<(x11.length:Int))) ?_ ?_ ?_
 exact az [4,24,6,25,1,61]
 exact az [62,7,60]
 refine aw [0,2,10] ?_ ?_
 refine au [3,5,0] ?_
 exact qa ((2:Int),())
 refine au [11] ?_
 exact qa (x10,())
 rintro ⟨x16,_⟩
 refine aw [39,1,1,3,4,25,3,0,2,10] ?_ ?_
 refine au [45] ?_
 refine qH [.slice none 0 0,qFo 0,qFo 0,qFo 0] ?_
 refine au [4,21,5,58,27,1] ?_
 exact qio (none,0,([]:List (qFn×Nat))) 0
 refine au [96,25,10,38,4] ?_
 rintro x18 e18 ⟨a19,c20⟩
 refine au [25,5,46,45,24,5] ?_
 intro g21
 refine au [46] ?_
 refine qi [2,4,9] [1] [] [1] (fun (((x0,x2,x3,x8,x9),g0,a0,c0,a1,c1):(qFm×List (qFm)×Int×Int×Int)×Bool×qFn×Nat×qFn×Nat×List (qFn×Nat))=>([],[⟨g21,48,[(bself g21 g0),qFp a0 x0 c0]⟩,⟨g8,28,[qFp a1 x2 c1.1,qFo x3,qFo x8,qFo x9]⟩],[qFu a0 x0 c0,RoN eN56 rN56 56 1 (qFp a1 x2 c1.1) x2 c1.2 []],[],qfC F x0 x2 x3 x8 x9)) ?_ ?_
 refine au [48,84,30,13] ?_
 refine qq [2,4,9,32,33] [1] [2] [1] (fun (((x12,x13,x14,x15,x17,x19),g1,a3,c2,a4,c4):(Int×qFm×List (qFm)×Int×Int×Int)×Bool×qFn×Nat×qFn×Nat×List (qFn×Nat))=>([(34,qFo x12)],[⟨g21,48,[(bself g21 g1),qFp a3 x13 c2]⟩,⟨g8,28,[qFp a4 x14 c4.1,qFo x15,qFo x17,qFo x19]⟩],[qFu a3 x13 c2,RoN eN56 rN56 56 1 (qFp a4 x14 c4.1) x14 c4.2 []],[])) ((0:Int),([]:qFm),x18.1,x18.2.1,x18.2.2.1,x18.2.2.2) (false,none,0,a19,c20) ?_
 intro k0
 rintro ⟨⟨x12,x13,x14,x15,x17,x19⟩,g1,a3,c2,a4,c4⟩
 refine aw [39,1,3,24,3,0,2,1,10] ?_ ?_
 refine au [57] ?_
 refine qi [2,4,9,32,33,34] [0] [0] [0] (fun (((x20,x21,x22,x23,x24),g2,a5,c5,a6,c6):(qFm×List (qFm)×Int×Int×Int)×Bool×qFn×Nat×qFn×Nat×List (qFn×Nat))=>([],[⟨g21,48,[(bself g21 g2),qFp a5 x20 c5]⟩,⟨g8,28,[qFp a6 x21 c6.1,qFo x22,qFo x23,qFo x24]⟩],[qFu a5 x20 c5,RoN eN56 rN56 56 1 (qFp a6 x21 c6.1) x21 c6.2 []],[],qbW F (j8 F x11 k0) x12 x20 x21 x22 x23 x24)) ?_ ?_
 refine au [14,45,26,5] ?_
 intro x25 e0 g3 h0
 refine kJ (j:=0) (y:=x25) qG rfl rfl tf9 rfl h0 (qu e0).2.2 (fun _=>rfl) rfl rfl ?_
 refine aw [5,0,2,1,1,3,4,31,3,0,2,10] ?_ ?_
 refine au [51,24,14] ?_
 exact qa ((x13,x14,x15,x17,x19),g1,a3,c2,a4,c4)
 refine au [96,26,7,4] ?_
 refine qd qps ?_
 rintro x26 e1 ⟨a7,c7⟩
 refine au [4,79,22,24,5] ?_
 intro g4
 refine au [21,5,47] ?_
 refine qi [2,4,9,32,33,34] [1,2] [1,2] [0] (fun (((x27,x28,x29,x30,x31),a8,c8):(qFm×List (qFm)×Int×Int×Int)×qFn×Nat×List (qFn×Nat))=>([(13,.string (bstr x27))],[⟨g8,28,[qFp a8 x28 c8.1,qFo x29,qFo x30,qFo x31]⟩],[RoN eN56 rN56 56 1 (qFp a8 x28 c8.1) x28 c8.2 []],[],qbX F (j8 F x11 k0) x12 x13 x27 x28 x29 x30 x31)) ?_ ?_
 refine aw [1,3,4,25,3,0,2,10] ?_ ?_
 refine au [3,4] ?_
 refine vh EnC.e rfl rfl rfl (fun x32 e2=>qf2 x26.2.2.2.2.2 x32 e2) (.consF 0 rfl .nil) (fun x32 e2 _=>?_)
 refine au [30,5] ?_
 intro x33 e3
 refine au [5,0] ?_
 exact qa ((x33,x14,x15,x17,x19),a4,c4)
 refine au [3,24,9,30,2,0] ?_
 exact qa ((x26.2.2.2.2.1,x26.1,x26.2.1,x26.2.2.1,x26.2.2.2.1),a7,c7)
 rintro ⟨⟨x27,x28,x29,x30,x31⟩,a8,c8⟩
 refine au [39,3,4,30,5] ?_
 intro x34 e4
 refine qc6 EnC.e rfl rfl rfl (fun x35 e5=>qAA g21 g1 x13 a3 c2 x34 x35 e5) (.cons 1 rfl .nil) (.cons 1 rfl .nil) .nil (fun x35 e5=>?_)
 rintro ⟨a9,c9⟩
 refine au [115] ?_
 exact qa ((x35,x28,x29,x30,x31),true,a9,c9,a8,c8)
 rintro ⟨⟨x20,x21,x22,x23,x24⟩,g2,a5,c5,a6,c6⟩
 refine au [39,94] ?_
 exact qk ((iadd .i64 x12 1,x20,x21,x22,x23,x24),g2,a5,c5,a6,c6)
 refine au [71] ?_
 exact qa ((x13,x14,x15,x17,x19),g1,a3,c2,a4,c4)
 rintro ⟨⟨x0,x2,x3,x8,x9⟩,g0,a0,c0,a1,c1⟩
 refine au [39,1] ?_
 refine qI [] [2] [0] 5 ?_
 refine qB 0 (.agg #[.slice a1 x2.length c1.1,qFo x3,qFo x8,qFo x9]) rfl rfl rfl (qz (i:=0) rfl tf28 rfl rfl (by simp) rfl) ?_
 refine au [12,1] ?_
 refine qc6 EnC.e rfl rfl rfl (fun x36 e6=>qyo g21 g0 x0 a0 c0 x36 e6) (.cons 1 rfl .nil) (.cons 0 rfl .nil) .nil (fun x36 e6 _=>?_)
 refine au [0,26,13,12,2,87,26,13,6,3,6,4,54,2,8] ?_
 exact qio (a1,c1) 0
set_option maxRecDepth 100000 in
theorem qmq   {r:Bool}(hm:qej F =some r) :
    qFw 10 [] [GF] (.bool r):=by
 refine pureA func10 ntmps10 hm fun _=>?_
 refine qxz ?_
 refine au [45,80] ?_
 refine qH [qFo 2,qFo 3,qFo 1] ?_
 refine qH [.slice none 0 0,qFo 2,qFo 3,qFo 1] ?_
 refine au [38,8,31,4] ?_
 rintro x1 e1 ⟨a2,c3⟩
 refine au [4,79,22,24,5] ?_
 intro g4
 refine au [21,5,59,25,6,4] ?_
 refine vC 3 13 16 [1] (bstr x1.2.2.2.2.1 == bstr ([111,107,10,111,107,10,111,107,10,111,107,10,101,114,114,111,114,32,54,10,49,10,50,10,110,111,110,101,10,49,32,50,32,48,10,48,10,110,111,110,101,10,50,10,49,10,111,107,10,48,32,49,32,50,32,51,10,101,114,114,111,114,32,53,10,101,114,114,111,114,32,51,10,101,114,114,111,114,32,49,10,101,114,114,111,114,32,51,10,50,48,10]:qFm)) ?_ ?_ ?_
 exact az [4,31,3,61]
 exact az [62,60]
 refine au [4] ?_
 refine vC 6 17 23 [1] (((x1.1.length:Int):Int) == 4) ?_ ?_ ?_
 exact az [9,78,24,6,25,6,61]
 exact az [68,7,60]
 refine au [4] ?_
 refine qft 4 (fun ((x9,_):Bool×Unit)=>([(28,.bool x9)],[],[],[GF],qdZ F x9)) ?_ ?_
 refine qD (os:=_) rfl ?_
 refine av [26,2] ?_ ?_
 intro h7
 refine kj (k:=24) rfl h7 ?_
 refine au [24,9,32,12] ?_
 intro x10 e10 _
 refine au [25,6,86] ?_
 exact qa (((x10:Int) == 0),())
 intro h7
 refine kg (k:=24) rfl h7 ?_
 refine au [62,7,85] ?_
 exact qa (false,())
 rintro ⟨x9,_⟩
 try dsimp only
 refine qD (os:=_) rfl ?_
 exact az [69]
theorem qnJ (hm:qfc F m1 m2=some d1) :
    qFw 77 [qFp l1 m1 t1,qFp l2 m2 t2] [qFr l1 m1 t1,qFr l2 m2 t2] (.bool d1):=by
 refine pureA func77 ntmps77 hm fun _=>?_
 refine aw [24,8,1,3,5,0,2,1,1,3,4,24,6,4,24,6,25,3,0,2,10] ?_ ?_
 exact az [45,76]
 refine au [57] ?_
 refine qN (fun ((_,_):Unit×Unit)=>([],[],[],[],qhu F)) ?_ ?_
 refine au [45,47,14] ?_
 refine qq [0,1] [] [] [0,1] (fun ((x0,_):Int×Unit)=>([(5,qFo x0)],[],[],[])) (0:Int) () ?_
 intro k0
 rintro ⟨x0,_⟩
 refine aw [39,1,1,3,4,4,24,6,24,3,0,2,10] ?_ ?_
 refine au [83,1,29,15] ?_
 intro x2 e0 b0 o0 h0
 replace h0:l1=some ⟨b0,o0,none⟩:=h0
 refine au [29,4] ?_
 intro x3 e1 b1 o1 h1
 replace h1:l2=some ⟨b1,o1,none⟩:=h1
 refine au [37,4,70] ?_
 refine vg 2 h0 e0 ?_
 refine qy 3 (qFo x2) [] rfl rfl rfl (qQ (j:=1) rfl tf3 rfl rfl (fun _=>rfl) rfl) ?_
 refine au [6,4,6,5] ?_
 refine vg 6 h1 e1 ?_
 refine qy 7 (qFo x3) [] rfl rfl rfl (qQ (j:=0) rfl tf3 rfl rfl (fun _=>rfl) rfl) ?_
 refine aw [6,8,16,19,2,10] ?_ ?_
 exact az [45,49,90,103]
 refine au [11,63,3,113,5,0] ?_
 exact qk (iadd .i64 x0 1,())
 exact az [71,26,8]
 rintro ⟨_,_⟩
 exact az [117,69]
theorem qms (hm:qel F p1 p2=some d1) :
    qFw 49 [qFp l1 p1 t1,qFp l2 p2 t2] [SlN eN56 iN56 1 (qFp l1 p1 t1) p1 n1,SlN eN56 iN56 1 (qFp l2 p2 t2) p2 n2] (.bool d1):=by
 refine pureA func49 ntmps49 hm fun _=>?_
 refine aw [24,8,1,3,5,0,2,1,1,3,4,24,6,4,24,6,25,3,0,2,10] ?_ ?_
 exact az [45,76]
 refine au [57] ?_
 refine qN (fun ((_,_):Unit×Unit)=>([],[],[],[],qgR F)) ?_ ?_
 refine au [45,47,14] ?_
 refine qq [0,1] [] [] [0,1] (fun ((x0,_):Int×Unit)=>([(5,qFo x0)],[],[],[])) (0:Int) () ?_
 intro k0
 rintro ⟨x0,_⟩
 refine aw [39,1,1,3,4,4,24,6,24,3,0,2,10] ?_ ?_
 refine au [83,1] ?_
 refine qqQ (j:=0) qp (by decide) rfl ?_
 intro x2 e0 g0 b0 o0 h0
 replace h0:l1=some ⟨b0,o0,none⟩:=h0
 refine qqQ (j:=3) qp (by decide) rfl ?_
 intro x3 e1 g1 b1 o1 h1
 replace h1:l2=some ⟨b1,o1,none⟩:=h1
 refine qI [] [] [0,1,2,3,4,5] 10 ?_
 refine au [70] ?_
 refine vg 2 h0 e0 ?_
 refine qy 3 (qFp g0.1 x2 g0.2) [] rfl rfl rfl (qQ (j:=2) rfl tf56 rfl rfl (fun _=>rfl) rfl) ?_
 refine au [6,4,6,5] ?_
 refine vg 6 h1 e1 ?_
 refine qy 7 (qFp g1.1 x3 g1.2) [] rfl rfl rfl (qQ (j:=0) rfl tf56 rfl rfl (fun _=>rfl) rfl) ?_
 refine au [12,8] ?_
 refine qd qnJ ?_
 intro x5 e2 _
 refine au [0] ?_
 refine zJ [] [0,1,2,3,4,5] ?_
 refine aw [6,9,16,19,2,10] ?_ ?_
 exact az [45,49,90,103]
 refine au [11,63,3,113,5,0] ?_
 exact qk (iadd .i64 x0 1,())
 exact az [71,26,8]
 rintro ⟨_,_⟩
 exact az [117,69]
theorem qmr (hm:qek F p1 p2=some d1) :
    qFw 28 [.agg #[qFp l1 p1 t1],.agg #[qFp l2 p2 t2]] [SlN eN56 iN56 1 (qFp l1 p1 t1) p1 n1,SlN eN56 iN56 1 (qFp l2 p2 t2) p2 n2] (.bool d1):=by
 refine pureA func28 ntmps28 hm fun _=>?_
 refine au [111] ?_
 intro g7
 refine au [23] ?_
 intro g8
 refine au [80,98,78] ?_
 refine qd qms ?_
 intro x9 e9 _
 exact az [69]
theorem qnI (hm:qcf F p1 i1 i2 i3 p2 i4 i5 i6=some d1) :
    qFw 16 [.agg #[qFp l1 p1 t1,qFo i1,qFo i2,qFo i3],.agg #[qFp l2 p2 t2,qFo i4,qFo i5,qFo i6]] [SlN eN56 iN56 1 (qFp l1 p1 t1) p1 n1,SlN eN56 iN56 1 (qFp l2 p2 t2) p2 n2] (.bool d1):=by
 refine pureA func16 ntmps16 hm fun _=>?_
 refine au [111] ?_
 intro g13
 refine au [23] ?_
 intro g14
 refine au [80,9,25,10,9,24,9] ?_
 refine qd qmr ?_
 intro x15 e15 _
 refine au [4] ?_
 refine vC 6 10 16 [] (((i1:Int) == i4) && (((i2:Int) == i5) && ((i3:Int) == i6))) ?_ ?_ ?_
 refine au [9,25,10,9,24,9] ?_
 refine qxP rfl rfl rfl inferInstance rfl ?_
 exact az [61]
 exact az [68,7,60]
 exact az [69]
theorem qmp (F:Nat)(x1:List (qFm))(a2:qFn)(c3:(Nat×List (qFn×Nat)))(x4 x5 x6:Int)(x7 x8:qFm)(r:Bool)(hm:qgj F x1 x4 x5 x6 x7 x8=some r) :
    qFw 5 [.agg #[qFp a2 x1 c3.1,qFo x4,qFo x5,qFo x6],.string (bstr x7),.string (bstr x8)] [SlN eN56 iN56 1 (qFp a2 x1 c3.1) x1 c3.2,GF] (.bool r):=by
 refine pureA func5 ntmps5 hm fun _=>?_
 refine au [108,23] ?_
 intro g9
 refine au [47,77,4,30,5] ?_
 intro x10 e10
 refine au [4,30,5] ?_
 intro x11 e11
 refine au [31,4] ?_
 rintro x12 e12 ⟨a13,c14⟩
 refine au [4,79,22,24,5] ?_
 intro g15
 refine au [21,5,81,45] ?_
 refine qd qmq ?_
 intro x18 e18 _
 refine aw [25,7,0,2,10] ?_ ?_
 exact az [45,76]
 refine aw [11,2,1,1,3,4,25,3,0,2,10] ?_ ?_
 refine au [77] ?_
 refine qH [.slice none 0 0,qFo 0,qFo 0,qFo 0] ?_
 refine au [38,8,38,9] ?_
 intro x22 e22 _
 refine au [4] ?_
 refine vC 3 33 36 [] (bstr x12.2.2.2.2.1 == bstr ([]:qFm)) ?_ ?_ ?_
 exact az [4,31,3,61]
 exact az [62,60]
 exact az [76]
 refine au [96,25,10,4,31,4] ?_
 rintro x24 e24 ⟨a25,c26⟩
 refine au [4,79,22,24,5] ?_
 intro g27
 refine au [21,5,47,77,4,31,4] ?_
 rintro x28 e28 ⟨a29,c30⟩
 refine au [4,79,22,24,5] ?_
 intro g31
 refine au [21,5,59,25,6,4] ?_
 refine vC 3 53 56 [7,8,11,13,14] ((x28.2.2.2.2.2:Int) == 0) ?_ ?_ ?_
 exact az [4,25,6,61]
 exact az [62,60]
 refine au [4] ?_
 refine kI 6 [7,13] [0,2] [0,2] [1] (fun ((x36,_):Bool×Unit)=>([(63,.bool x36)],[],[],[],qcd F x12 x28 x36)) ?_ ?_
 refine qD (os:=_) rfl ?_
 refine av [26,2] ?_ ?_
 intro h33
 refine kj (k:=57) rfl h33 ?_
 refine au [89,4,30,5] ?_
 intro x45 e45
 refine au [31,3,86] ?_
 exact qa ((bstr x12.2.2.2.2.1 == bstr x45),())
 intro h33
 refine kg (k:=57) rfl h33 ?_
 refine au [68,7,85] ?_
 exact qa (false,())
 rintro ⟨x36,_⟩
 try dsimp only
 refine qD (os:=_) rfl ?_
 refine au [4] ?_
 refine kI 4 [7] [1] [1] [0] (fun ((x39,_):Bool×Unit)=>([(68,.bool x39)],[],[],[],qce F x12 x39)) ?_ ?_
 refine qD (os:=_) rfl ?_
 refine av [26,2] ?_ ?_
 intro h37
 refine kj (k:=64) rfl h37 ?_
 refine au [25,10,24,9,38,9] ?_
 intro x44 e44 _
 refine au [86] ?_
 exact qa (x44,())
 intro h37
 refine kg (k:=64) rfl h37 ?_
 refine au [62,7,85] ?_
 exact qa (false,())
 rintro ⟨x39,_⟩
 try dsimp only
 refine qD (os:=_) rfl ?_
 refine au [4] ?_
 refine qft 4 (fun ((x42,_):Bool×Unit)=>([(73,.bool x42)],[],[],[GF],qdY F x42)) ?_ ?_
 refine qD (os:=_) rfl ?_
 refine av [26,2] ?_ ?_
 intro h40
 refine kj (k:=69) rfl h40 ?_
 refine au [24,9,32,12] ?_
 intro x43 e43 _
 refine au [25,6,86] ?_
 exact qa (((x43:Int) == 0),())
 intro h40
 refine kg (k:=69) rfl h40 ?_
 refine au [62,7,85] ?_
 exact qa (false,())
 rintro ⟨x42,_⟩
 try dsimp only
 refine qD (os:=_) rfl ?_
 exact az [69]
end Go.Proofs.YthibchijlpflmaaGreatDoor
