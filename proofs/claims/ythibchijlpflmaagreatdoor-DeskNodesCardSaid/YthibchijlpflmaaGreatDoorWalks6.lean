/- Each Go function of this seat computes what its model says, part 6. -/
import Derived.Test.YthibchijlpflmaaGreatDoorWalks5
namespace Go.Proofs.YthibchijlpflmaaGreatDoor
open Go SX
open Go.Proofs.Tryz
open Go.Proofs.Tryz renaming prog→qD9
set_option maxHeartbeats 4000000
variable {F t1:Nat}{p1:List (qD0)}{l1:qD1}{n1:List (qD1×Nat)}{i1 i2 i3:Int}{m1:qD0}
theorem qoL {r:(List (qD0)×Int×Int×Int×qD0×Int)}(hm:zH F p1 i1 i2 i3 m1=some r) :
    Pure qD9 19 [.agg #[qD3 l1 p1 t1,qD2 i1,qD2 i2,qD2 i3],.string (bstr m1)] [SlN eN56 iN56 1 (qD3 l1 p1 t1) p1 n1,GF] (qD1×Nat×List (qD1×Nat)) (fun g=>.tuple #[.agg #[qD3 g.1 r.1 g.2.1,qD2 r.2.1,qD2 r.2.2.1,qD2 r.2.2.2.1],.string (bstr r.2.2.2.2.1),qD2 r.2.2.2.2.2]) (fun g=>[RoN eN56 rN56 56 1 (qD3 g.1 r.1 g.2.1) r.1 g.2.2 []]) (fun _=>[]):=by
 refine pureA func19 ntmps19 hm fun _=>?_
 refine au [79] ?_
 intro g8
 refine au [24,2] ?_
 intro g9
 refine au [5,83,25,11,38,8] ?_
 rintro x10 e10 ⟨a11,c12⟩
 refine qF [qD3 a11 x10.1 c12.1,qD2 x10.2.1,qD2 x10.2.2.1,qD2 x10.2.2.2,.slice none 0 0,.string (bstr ([111,107]:qD0))] ?_
 refine au [24,0] ?_
 intro g13
 refine au [60] ?_
 refine yY EnC.e rfl rfl rfl (fun x14 e14=>qrM m1 ([32]:qD0) x14 e14) .nil (fun x14 e14=>?_)
 rintro ⟨a15,c16⟩
 refine au [47] ?_
 refine vj 3 (fun (((x0,x2,x3,x8,x9,x11,x12),a0,c0,a1,c1):(Int×List (qD0)×Int×Int×Int×qD0×qD0)×qD1×(Nat×List (qD1×Nat))×qD1×Nat)=>([(4,qD4 g9),(7,qD4 g13),(11,qD2 x0)],[⟨g13,85,[qD3 a0 x2 c0.1,qD2 x3,qD2 x8,qD2 x9,qD3 a1 x11 c1,.string (bstr x12)]⟩,⟨g9,28,[.slice none 0 0,qD2 0,qD2 0,qD2 0]⟩],[RoN eN56 rN56 56 1 (qD3 a0 x2 c0.1) x2 c0.2 [],qD6 a1 x11 c1],[GF],qy F x0 x2 x3 x8 x9 x11 x12)) ?_ (fun hj=>?_)
 · as_aux_lemma =>
   rintro ⟨⟨x0,x2,x3,x8,x9,x11,x12⟩,a0,c0,a1,c1⟩
   refine aw [39,1,1,4,3,25,4,0,2,11] ?_ ?_
   refine au [45] ?_
   refine qF [.slice none 0 0,qD2 0,qD2 0,qD2 0] ?_
   refine au [3,25,5,5,59,27,2] ?_
   exact qgw (none,0,([]:List (qD1×Nat))) 1
   refine au [84] ?_
   refine qE [] [0] [0] 11 ?_
   refine au [70,18,2] ?_
   refine qr 3 (.agg #[.slice a0 x2.length c0.1,qD2 x3,qD2 x8,qD2 x9]) rfl rfl rfl (qq (i:=0) rfl tf28 rfl rfl (by simp) rfl) ?_
   refine au [6,4,6,5,18,6,24,15,7,9,8,25,5,73,123,54,2,8] ?_
   exact qgw (a0,c0) 1
 refine vj 1 (fun ((_,g0):Unit×Nat)=>([(4,qD4 g9),(7,qD4 g13),(8,qD3 a15 x14 c16),(9,qD4 g0),(10,.bool true)],[⟨g13,85,[qD3 a11 x10.1 c12.1,qD2 x10.2.1,qD2 x10.2.2.1,qD2 x10.2.2.2,.slice none 0 0,.string (bstr ([111,107]:qD0))]⟩,⟨g9,28,[.slice none 0 0,qD2 0,qD2 0,qD2 0]⟩,⟨g0,88,[qD2 1,.func (.func 58) #[qD4 g13] #[]]⟩],[Ro eT 9 1 (qD3 a15 x14 c16) x14,RoN eN56 rN56 56 1 (qD3 a11 x10.1 c12.1) x10.1 c12.2 []],[GF],qb9 F x10 x14)) ?_ (fun hw0=>?_)
 rintro ⟨_,g0⟩
 refine au [39,45,82,1,100] ?_
 intro x13 e0 a3 c2 h0 h1
 refine au [28,4,96] ?_
 refine qr 3 (.agg #[qD2 1,.func (.func 58) #[.pointer (some ⟨g13,0,none⟩)] #[]]) rfl rfl rfl (qq (i:=1) rfl tf88 rfl rfl (by simp) rfl) ?_
 refine au [6,4] ?_
 refine qb 5 (qD3 a3 x13 c2) rfl rfl rfl (qcw underlying39 tf9 rfl rfl rfl e0 h1 h0) ?_
 refine au [9,6,101] ?_
 rintro x15 e1 ⟨a4,c4⟩
 refine aw [0,28,5,6,7,15,16,2,11] ?_ ?_
 refine au [4,118] ?_
 refine jK EnC.e rfl rfl rfl rfl (fun x16 e2=>qh8 F g13 x10.1 a11 c12 x10.2.1 x10.2.2.1 x10.2.2.2 x15.2 a4 c4 ([111,107]:qD0) x16 e2) (.cons 0 rfl .nil) (.cons 1 rfl .nil) (.consR 0 (qD6 a4 x15.2 c4) rfl .nil) (fun x16 e2=>?_)
 rintro ⟨a5,c5⟩
 refine au [5,0] ?_
 exact qt hj ((x16.1,x16.2,x10.2.1,x10.2.2.1,x10.2.2.2,x15.2,([111,107]:qD0)),a5,c5,a4,c4)
 refine au [12] ?_
 exact qt hj (((1:Int),x10.1,x10.2.1,x10.2.2.1,x10.2.2.2,x15.2,([111,107]:qD0)),a11,c12,a4,c4)
 refine vj 1 (fun ((_,g1):Unit×Nat)=>([(4,qD4 g9),(7,qD4 g13),(8,qD3 a15 x14 c16),(9,qD4 g1),(10,.bool true)],[⟨g13,85,[qD3 a11 x10.1 c12.1,qD2 x10.2.1,qD2 x10.2.2.1,qD2 x10.2.2.2,.slice none 0 0,.string (bstr ([111,107]:qD0))]⟩,⟨g9,28,[.slice none 0 0,qD2 0,qD2 0,qD2 0]⟩,⟨g1,88,[qD2 2,.func (.func 59) #[qD4 g13] #[]]⟩],[Ro eT 9 1 (qD3 a15 x14 c16) x14,RoN eN56 rN56 56 1 (qD3 a11 x10.1 c12.1) x10.1 c12.2 []],[GF],qeh F x10 x14)) ?_ (fun hw1=>?_)
 rintro ⟨_,g1⟩
 refine au [39,45,82,1,100] ?_
 intro x17 e3 a6 c6 h2 h3
 refine au [28,4,96] ?_
 refine qr 3 (.agg #[qD2 2,.func (.func 59) #[.pointer (some ⟨g13,0,none⟩)] #[]]) rfl rfl rfl (qq (i:=1) rfl tf88 rfl rfl (by simp) rfl) ?_
 refine au [6,4] ?_
 refine qb 5 (qD3 a6 x17 c6) rfl rfl rfl (qcw underlying39 tf9 rfl rfl rfl e3 h3 h2) ?_
 refine au [9,6,101] ?_
 rintro x18 e4 ⟨a7,c7⟩
 refine aw [0,28,5,6,7,15,16,2,11] ?_ ?_
 refine au [4,118] ?_
 refine jK EnC.e rfl rfl rfl rfl (fun x19 e5=>qju F g13 x10.1 a11 c12 x10.2.1 x10.2.2.1 x10.2.2.2 x18.2 a7 c7 ([111,107]:qD0) x19 e5) (.cons 0 rfl .nil) (.cons 1 rfl .nil) (.consR 0 (qD6 a7 x18.2 c7) rfl .nil) (fun x19 e5=>?_)
 rintro ⟨a8,c8⟩
 refine au [5,0] ?_
 exact qt hj ((x19.1,x19.2,x10.2.1,x10.2.2.1,x10.2.2.2,x18.2,([111,107]:qD0)),a8,c8,a7,c7)
 refine au [12] ?_
 exact qt hj (((1:Int),x10.1,x10.2.1,x10.2.2.1,x10.2.2.2,x18.2,([111,107]:qD0)),a11,c12,a7,c7)
 refine vj 1 (fun ((_,g2):Unit×Nat)=>([(4,qD4 g9),(7,qD4 g13),(8,qD3 a15 x14 c16),(9,qD4 g2),(10,.bool true)],[⟨g13,85,[qD3 a11 x10.1 c12.1,qD2 x10.2.1,qD2 x10.2.2.1,qD2 x10.2.2.2,.slice none 0 0,.string (bstr ([111,107]:qD0))]⟩,⟨g9,28,[.slice none 0 0,qD2 0,qD2 0,qD2 0]⟩,⟨g2,88,[qD2 2,.func (.func 60) #[qD4 g13] #[]]⟩],[Ro eT 9 1 (qD3 a15 x14 c16) x14,RoN eN56 rN56 56 1 (qD3 a11 x10.1 c12.1) x10.1 c12.2 []],[GF],qei F x10 x14)) ?_ (fun hw2=>?_)
 rintro ⟨_,g2⟩
 refine au [39,45,82,1,100] ?_
 intro x20 e6 a9 c9 h4 h5
 refine au [28,4,96] ?_
 refine qr 3 (.agg #[qD2 2,.func (.func 60) #[.pointer (some ⟨g13,0,none⟩)] #[]]) rfl rfl rfl (qq (i:=1) rfl tf88 rfl rfl (by simp) rfl) ?_
 refine au [6,4] ?_
 refine qb 5 (qD3 a9 x20 c9) rfl rfl rfl (qcw underlying39 tf9 rfl rfl rfl e6 h5 h4) ?_
 refine au [9,6,101] ?_
 rintro x21 e7 ⟨a10,c10⟩
 refine aw [0,28,5,6,7,15,16,2,11] ?_ ?_
 refine au [4,118] ?_
 refine jK EnC.e rfl rfl rfl rfl (fun x22 e8=>qiE F g13 x10.1 a11 c12 x10.2.1 x10.2.2.1 x10.2.2.2 x21.2 a10 c10 ([111,107]:qD0) x22 e8) (.cons 0 rfl .nil) (.cons 1 rfl .nil) (.consR 0 (qD6 a10 x21.2 c10) rfl .nil) (fun x22 e8=>?_)
 rintro ⟨a12,c11⟩
 refine au [5,0] ?_
 exact qt hj ((x22.1,x22.2,x10.2.1,x10.2.2.1,x10.2.2.2,x21.2,([111,107]:qD0)),a12,c11,a10,c10)
 refine au [12] ?_
 exact qt hj (((1:Int),x10.1,x10.2.1,x10.2.2.1,x10.2.2.2,x21.2,([111,107]:qD0)),a11,c12,a10,c10)
 refine vj 1 (fun ((_,g3):Unit×Nat)=>([(4,qD4 g9),(7,qD4 g13),(8,qD3 a15 x14 c16),(9,qD4 g3),(10,.bool true)],[⟨g13,85,[qD3 a11 x10.1 c12.1,qD2 x10.2.1,qD2 x10.2.2.1,qD2 x10.2.2.2,.slice none 0 0,.string (bstr ([111,107]:qD0))]⟩,⟨g9,28,[.slice none 0 0,qD2 0,qD2 0,qD2 0]⟩,⟨g3,88,[qD2 3,.func (.func 61) #[qD4 g13] #[]]⟩],[Ro eT 9 1 (qD3 a15 x14 c16) x14,RoN eN56 rN56 56 1 (qD3 a11 x10.1 c12.1) x10.1 c12.2 []],[GF],qej F x10 x14)) ?_ (fun hw3=>?_)
 rintro ⟨_,g3⟩
 refine au [39,45,82,1,100] ?_
 intro x23 e9 a13 c13 h6 h7
 refine au [28,4,96] ?_
 refine qr 3 (.agg #[qD2 3,.func (.func 61) #[.pointer (some ⟨g13,0,none⟩)] #[]]) rfl rfl rfl (qq (i:=1) rfl tf88 rfl rfl (by simp) rfl) ?_
 refine au [6,4] ?_
 refine qb 5 (qD3 a13 x23 c13) rfl rfl rfl (qcw underlying39 tf9 rfl rfl rfl e9 h7 h6) ?_
 refine au [9,6,101] ?_
 rintro x24 e11 ⟨a14,c14⟩
 refine aw [0,28,5,6,7,15,16,2,11] ?_ ?_
 refine au [4,118] ?_
 refine jK EnC.e rfl rfl rfl rfl (fun x25 e12=>qjw F g13 x10.1 a11 c12 x10.2.1 x10.2.2.1 x10.2.2.2 x24.2 a14 c14 ([111,107]:qD0) x25 e12) (.cons 0 rfl .nil) .nil (.consG 1 rfl (zU qdY) (.consR 0 (qD6 a14 x24.2 c14) rfl .nil)) (fun x25 e12 _=>?_)
 refine au [5,0] ?_
 exact qt hj ((x25.1,x10.1,x25.2.1,x25.2.2.1,x25.2.2.2,x24.2,([111,107]:qD0)),a11,c12,a14,c14)
 refine au [12] ?_
 exact qt hj (((1:Int),x10.1,x10.2.1,x10.2.2.1,x10.2.2.2,x24.2,([111,107]:qD0)),a11,c12,a14,c14)
 refine vj 1 (fun ((_,g4):Unit×Nat)=>([(4,qD4 g9),(7,qD4 g13),(8,qD3 a15 x14 c16),(9,qD4 g4),(10,.bool true)],[⟨g13,85,[qD3 a11 x10.1 c12.1,qD2 x10.2.1,qD2 x10.2.2.1,qD2 x10.2.2.2,.slice none 0 0,.string (bstr ([111,107]:qD0))]⟩,⟨g9,28,[.slice none 0 0,qD2 0,qD2 0,qD2 0]⟩,⟨g4,88,[qD2 0,.func (.func 62) #[qD4 g13] #[]]⟩],[Ro eT 9 1 (qD3 a15 x14 c16) x14,RoN eN56 rN56 56 1 (qD3 a11 x10.1 c12.1) x10.1 c12.2 []],[GF],qek F x10 x14)) ?_ (fun hw4=>?_)
 rintro ⟨_,g4⟩
 refine au [39,45,82,1,100] ?_
 intro x26 e13 a16 c15 h8 h9
 refine au [28,4,96] ?_
 refine qr 3 (.agg #[qD2 0,.func (.func 62) #[.pointer (some ⟨g13,0,none⟩)] #[]]) rfl rfl rfl (qq (i:=1) rfl tf88 rfl rfl (by simp) rfl) ?_
 refine au [6,4] ?_
 refine qb 5 (qD3 a16 x26 c15) rfl rfl rfl (qcw underlying39 tf9 rfl rfl rfl e13 h9 h8) ?_
 refine au [9,6,101] ?_
 rintro x27 e15 ⟨a17,c17⟩
 refine aw [0,28,5,6,7,15,16,2,11] ?_ ?_
 refine au [4,118] ?_
 refine jK EnC.e rfl rfl rfl rfl (fun x28 e16=>qiD F g13 x10.1 a11 c12 x10.2.1 x10.2.2.1 x10.2.2.2 x27.2 a17 c17 ([111,107]:qD0) x28 e16) (.cons 0 rfl .nil) .nil (.consG 1 rfl (zU qdY) (.consR 0 (qD6 a17 x27.2 c17) rfl (.consF 2 rfl .nil))) (fun x28 e16 _=>?_)
 refine au [5,0] ?_
 exact qt hj ((x28.1,x10.1,x10.2.1,x10.2.2.1,x10.2.2.2,x27.2,x28.2),a11,c12,a17,c17)
 refine au [12] ?_
 exact qt hj (((1:Int),x10.1,x10.2.1,x10.2.2.1,x10.2.2.2,x27.2,([111,107]:qD0)),a11,c12,a17,c17)
 refine vj 1 (fun ((_,g5):Unit×Nat)=>([(4,qD4 g9),(7,qD4 g13),(8,qD3 a15 x14 c16),(9,qD4 g5),(10,.bool true)],[⟨g13,85,[qD3 a11 x10.1 c12.1,qD2 x10.2.1,qD2 x10.2.2.1,qD2 x10.2.2.2,.slice none 0 0,.string (bstr ([111,107]:qD0))]⟩,⟨g9,28,[.slice none 0 0,qD2 0,qD2 0,qD2 0]⟩,⟨g5,88,[qD2 1,.func (.func 63) #[qD4 g13] #[]]⟩],[Ro eT 9 1 (qD3 a15 x14 c16) x14,RoN eN56 rN56 56 1 (qD3 a11 x10.1 c12.1) x10.1 c12.2 []],[GF],qca F x10 x14)) ?_ (fun hw5=>?_)
 rintro ⟨_,g5⟩
 refine au [39,45,82,1,100] ?_
 intro x29 e17 a18 c18 h10 h11
 refine au [28,4,96] ?_
 refine qr 3 (.agg #[qD2 1,.func (.func 63) #[.pointer (some ⟨g13,0,none⟩)] #[]]) rfl rfl rfl (qq (i:=1) rfl tf88 rfl rfl (by simp) rfl) ?_
 refine au [6,4] ?_
 refine qb 5 (qD3 a18 x29 c18) rfl rfl rfl (qcw underlying39 tf9 rfl rfl rfl e17 h11 h10) ?_
 refine au [9,6,101] ?_
 rintro x30 e18 ⟨a19,c19⟩
 refine aw [0,28,5,6,7,15,16,2,11] ?_ ?_
 refine au [4,118] ?_
 refine jK EnC.e rfl rfl rfl rfl (fun x31 e19=>qiF F g13 x10.1 a11 c12 x10.2.1 x10.2.2.1 x10.2.2.2 x30.2 a19 c19 ([111,107]:qD0) x31 e19) (.cons 0 rfl .nil) .nil (.consG 1 rfl (zU qdY) (.consR 0 (qD6 a19 x30.2 c19) rfl (.consF 2 rfl .nil))) (fun x31 e19 _=>?_)
 refine au [5,0] ?_
 exact qt hj ((x31.1,x10.1,x10.2.1,x10.2.2.1,x10.2.2.2,x30.2,x31.2),a11,c12,a19,c19)
 refine au [12] ?_
 exact qt hj (((1:Int),x10.1,x10.2.1,x10.2.2.1,x10.2.2.2,x30.2,([111,107]:qD0)),a11,c12,a19,c19)
 refine vj 1 (fun ((_,g6):Unit×Nat)=>([(4,qD4 g9),(7,qD4 g13),(8,qD3 a15 x14 c16),(9,qD4 g6),(10,.bool true)],[⟨g13,85,[qD3 a11 x10.1 c12.1,qD2 x10.2.1,qD2 x10.2.2.1,qD2 x10.2.2.2,.slice none 0 0,.string (bstr ([111,107]:qD0))]⟩,⟨g9,28,[.slice none 0 0,qD2 0,qD2 0,qD2 0]⟩,⟨g6,88,[qD2 2,.func (.func 64) #[qD4 g13] #[]]⟩],[Ro eT 9 1 (qD3 a15 x14 c16) x14,RoN eN56 rN56 56 1 (qD3 a11 x10.1 c12.1) x10.1 c12.2 []],[GF],qel F x10 x14)) ?_ (fun hw6=>?_)
 rintro ⟨_,g6⟩
 refine au [39,45,82,1,100] ?_
 intro x32 e20 a20 c20 h12 h13
 refine au [28,4,96] ?_
 refine qr 3 (.agg #[qD2 2,.func (.func 64) #[.pointer (some ⟨g13,0,none⟩)] #[]]) rfl rfl rfl (qq (i:=1) rfl tf88 rfl rfl (by simp) rfl) ?_
 refine au [6,4] ?_
 refine qb 5 (qD3 a20 x32 c20) rfl rfl rfl (qcw underlying39 tf9 rfl rfl rfl e20 h13 h12) ?_
 refine au [9,6,101] ?_
 rintro x33 e21 ⟨a21,c21⟩
 refine aw [0,28,5,6,7,15,16,2,11] ?_ ?_
 refine au [4,118] ?_
 refine jK EnC.e rfl rfl rfl rfl (fun x34 e22=>qjv F g13 x10.1 a11 c12 x10.2.1 x10.2.2.1 x10.2.2.2 x33.2 a21 c21 ([111,107]:qD0) x34 e22) (.cons 0 rfl .nil) .nil (.consG 1 rfl (zU qdY) (.consR 0 (qD6 a21 x33.2 c21) rfl (.consF 2 rfl .nil))) (fun x34 e22 _=>?_)
 refine au [5,0] ?_
 exact qt hj ((x34.1,x10.1,x10.2.1,x10.2.2.1,x10.2.2.2,x33.2,x34.2),a11,c12,a21,c21)
 refine au [12] ?_
 exact qt hj (((1:Int),x10.1,x10.2.1,x10.2.2.1,x10.2.2.2,x33.2,([111,107]:qD0)),a11,c12,a21,c21)
 refine vj 1 (fun ((_,g7):Unit×Nat)=>([(4,qD4 g9),(7,qD4 g13),(8,qD3 a15 x14 c16),(9,qD4 g7),(10,.bool true)],[⟨g13,85,[qD3 a11 x10.1 c12.1,qD2 x10.2.1,qD2 x10.2.2.1,qD2 x10.2.2.2,.slice none 0 0,.string (bstr ([111,107]:qD0))]⟩,⟨g9,28,[.slice none 0 0,qD2 0,qD2 0,qD2 0]⟩,⟨g7,88,[qD2 2,.func (.func 65) #[qD4 g13] #[]]⟩],[Ro eT 9 1 (qD3 a15 x14 c16) x14,RoN eN56 rN56 56 1 (qD3 a11 x10.1 c12.1) x10.1 c12.2 []],[GF],qem F x10 x14)) ?_ (fun hw7=>?_)
 rintro ⟨_,g7⟩
 refine au [39,45,82,1,100] ?_
 intro x35 e23 a22 c22 h14 h15
 refine au [28,4,96] ?_
 refine qr 3 (.agg #[qD2 2,.func (.func 65) #[.pointer (some ⟨g13,0,none⟩)] #[]]) rfl rfl rfl (qq (i:=1) rfl tf88 rfl rfl (by simp) rfl) ?_
 refine au [6,4] ?_
 refine qb 5 (qD3 a22 x35 c22) rfl rfl rfl (qcw underlying39 tf9 rfl rfl rfl e23 h15 h14) ?_
 refine au [9,6,101] ?_
 rintro x36 e24 ⟨a23,c23⟩
 refine aw [0,28,5,6,7,15,16,2,11] ?_ ?_
 refine au [4,118] ?_
 refine jK EnC.e rfl rfl rfl rfl (fun x37 e25=>qjx F g13 x10.1 a11 c12 x10.2.1 x10.2.2.1 x10.2.2.2 x36.2 a23 c23 ([111,107]:qD0) x37 e25) (.cons 0 rfl .nil) .nil (.consG 1 rfl (zU qdY) (.consR 0 (qD6 a23 x36.2 c23) rfl (.consF 2 rfl .nil))) (fun x37 e25 _=>?_)
 refine au [5,0] ?_
 exact qt hj ((x37.1,x10.1,x10.2.1,x10.2.2.1,x10.2.2.2,x36.2,x37.2),a11,c12,a23,c23)
 refine au [12] ?_
 exact qt hj (((1:Int),x10.1,x10.2.1,x10.2.2.1,x10.2.2.2,x36.2,([111,107]:qD0)),a11,c12,a23,c23)
 refine vj 1 (fun ((_,g10,g11,g12):Unit×Nat×Nat×Nat)=>([(4,qD4 g9),(7,qD4 g13),(8,qD3 a15 x14 c16),(9,qD4 g10),(10,.bool true)],[⟨g13,85,[qD3 a11 x10.1 c12.1,qD2 x10.2.1,qD2 x10.2.2.1,qD2 x10.2.2.2,.slice none 0 0,.string (bstr ([111,107]:qD0))]⟩,⟨g9,28,[.slice none 0 0,qD2 0,qD2 0,qD2 0]⟩,⟨g10,88,[qD2 1,.func (.func 94) #[] #[qD4 g11,qD4 g12]]⟩,⟨g11,83,[qD4 g13]⟩,⟨g12,107,[.func (.func 67) #[] #[]]⟩],[Ro eT 9 1 (qD3 a15 x14 c16) x14,RoN eN56 rN56 56 1 (qD3 a11 x10.1 c12.1) x10.1 c12.2 []],[GF],qcb F x10 x14)) ?_ (fun hw8=>?_)
 rintro ⟨_,g10,g11,g12⟩
 refine au [39,45,82,1,100] ?_
 intro x38 e26 a24 c24 h16 h17
 refine au [38,9,96] ?_
 refine qr 3 (.agg #[qD2 1,.func (.func 94) #[] #[.pointer (some ⟨g11,0,none⟩),.pointer (some ⟨g12,0,none⟩)]]) rfl rfl rfl (qq (i:=1) rfl tf88 rfl rfl (by simp) rfl) ?_
 refine au [6,4] ?_
 refine qb 5 (qD3 a24 x38 c24) rfl rfl rfl (qcw underlying39 tf9 rfl rfl rfl e26 h17 h16) ?_
 refine au [9,6,101] ?_
 rintro x39 e27 ⟨a25,c25⟩
 refine aw [0,38,10,6,7,15,16,2,11] ?_ ?_
 refine au [4,118] ?_
 refine qfn EnC.e rfl rfl rfl rfl (fun x40 e28=>qdn F g11 g13 x10.1 a11 c12 x10.2.1 x10.2.2.1 x10.2.2.2 x39.2 a25 c25 ([111,107]:qD0) g12 x40 e28) (.cons 3 rfl (.cons 0 rfl (.cons 2 rfl .nil))) .nil (.consG 1 rfl (zU qdY) (.consR 0 (qD6 a25 x39.2 c25) rfl (.consF 2 rfl .nil))) (fun x40 e28 _=>?_)
 refine au [5,0] ?_
 exact qt hj ((x40.1,x10.1,x10.2.1,x10.2.2.1,x10.2.2.2,x39.2,x40.2),a11,c12,a25,c25)
 refine au [12] ?_
 exact qt hj (((1:Int),x10.1,x10.2.1,x10.2.2.1,x10.2.2.2,x39.2,([111,107]:qD0)),a11,c12,a25,c25)
 refine vj 1 (fun ((_,g14):Unit×Nat)=>([(4,qD4 g9),(7,qD4 g13),(8,qD3 a15 x14 c16),(9,qD4 g14),(10,.bool true)],[⟨g13,85,[qD3 a11 x10.1 c12.1,qD2 x10.2.1,qD2 x10.2.2.1,qD2 x10.2.2.2,.slice none 0 0,.string (bstr ([111,107]:qD0))]⟩,⟨g9,28,[.slice none 0 0,qD2 0,qD2 0,qD2 0]⟩,⟨g14,88,[qD2 0,.func (.func 68) #[qD4 g13] #[]]⟩],[Ro eT 9 1 (qD3 a15 x14 c16) x14,RoN eN56 rN56 56 1 (qD3 a11 x10.1 c12.1) x10.1 c12.2 []],[GF],qcc F x10 x14)) ?_ (fun hw9=>?_)
 rintro ⟨_,g14⟩
 refine au [39,45,82,1,100] ?_
 intro x41 e29 a26 c26 h18 h19
 refine au [28,4,96] ?_
 refine qr 3 (.agg #[qD2 0,.func (.func 68) #[.pointer (some ⟨g13,0,none⟩)] #[]]) rfl rfl rfl (qq (i:=1) rfl tf88 rfl rfl (by simp) rfl) ?_
 refine au [6,4] ?_
 refine qb 5 (qD3 a26 x41 c26) rfl rfl rfl (qcw underlying39 tf9 rfl rfl rfl e29 h19 h18) ?_
 refine au [9,6,101] ?_
 rintro x42 e30 ⟨a27,c27⟩
 refine aw [0,28,5,6,7,15,16,2,11] ?_ ?_
 refine au [4,118] ?_
 refine jK EnC.e rfl rfl rfl rfl (fun x43 e31=>qh9 F g13 x10.1 a11 c12 x10.2.1 x10.2.2.1 x10.2.2.2 x42.2 a27 c27 ([111,107]:qD0) x43 e31) (.cons 0 rfl .nil) .nil (.consG 1 rfl (zU qdY) (.consR 0 (qD6 a27 x42.2 c27) rfl (.consF 2 rfl .nil))) (fun x43 e31 _=>?_)
 refine au [5,0] ?_
 exact qt hj ((x43.1,x10.1,x10.2.1,x10.2.2.1,x10.2.2.2,x42.2,x43.2),a11,c12,a27,c27)
 refine au [12] ?_
 exact qt hj (((1:Int),x10.1,x10.2.1,x10.2.2.1,x10.2.2.2,x42.2,([111,107]:qD0)),a11,c12,a27,c27)
 refine vj 1 (fun ((_,g15,g16,g17):Unit×Nat×Nat×Nat)=>([(4,qD4 g9),(7,qD4 g13),(8,qD3 a15 x14 c16),(9,qD4 g15),(10,.bool true)],[⟨g13,85,[qD3 a11 x10.1 c12.1,qD2 x10.2.1,qD2 x10.2.2.1,qD2 x10.2.2.2,.slice none 0 0,.string (bstr ([111,107]:qD0))]⟩,⟨g9,28,[.slice none 0 0,qD2 0,qD2 0,qD2 0]⟩,⟨g15,88,[qD2 1,.func (.func 94) #[] #[qD4 g16,qD4 g17]]⟩,⟨g16,83,[qD4 g13]⟩,⟨g17,107,[.func (.func 69) #[] #[]]⟩],[Ro eT 9 1 (qD3 a15 x14 c16) x14,RoN eN56 rN56 56 1 (qD3 a11 x10.1 c12.1) x10.1 c12.2 []],[GF],qcd F x10 x14)) ?_ (fun hw10=>?_)
 rintro ⟨_,g15,g16,g17⟩
 refine au [39,45,82,1,100] ?_
 intro x44 e32 a28 c28 h20 h21
 refine au [38,9,96] ?_
 refine qr 3 (.agg #[qD2 1,.func (.func 94) #[] #[.pointer (some ⟨g16,0,none⟩),.pointer (some ⟨g17,0,none⟩)]]) rfl rfl rfl (qq (i:=1) rfl tf88 rfl rfl (by simp) rfl) ?_
 refine au [6,4] ?_
 refine qb 5 (qD3 a28 x44 c28) rfl rfl rfl (qcw underlying39 tf9 rfl rfl rfl e32 h21 h20) ?_
 refine au [9,6,101] ?_
 rintro x45 e33 ⟨a29,c29⟩
 refine aw [0,38,10,6,7,15,16,2,11] ?_ ?_
 refine au [4,118] ?_
 refine qfn EnC.e rfl rfl rfl rfl (fun x46 e34=>qdm F g16 g13 x10.1 a11 c12 x10.2.1 x10.2.2.1 x10.2.2.2 x45.2 a29 c29 ([111,107]:qD0) g17 x46 e34) (.cons 3 rfl (.cons 0 rfl (.cons 2 rfl .nil))) .nil (.consG 1 rfl (zU qdY) (.consR 0 (qD6 a29 x45.2 c29) rfl (.consF 2 rfl .nil))) (fun x46 e34 _=>?_)
 refine au [5,0] ?_
 exact qt hj ((x46.1,x10.1,x10.2.1,x10.2.2.1,x10.2.2.2,x45.2,x46.2),a11,c12,a29,c29)
 refine au [12] ?_
 exact qt hj (((1:Int),x10.1,x10.2.1,x10.2.2.1,x10.2.2.2,x45.2,([111,107]:qD0)),a11,c12,a29,c29)
 refine vj 1 (fun ((_,g18):Unit×Nat)=>([(4,qD4 g9),(7,qD4 g13),(8,qD3 a15 x14 c16),(9,qD4 g18),(10,.bool true)],[⟨g13,85,[qD3 a11 x10.1 c12.1,qD2 x10.2.1,qD2 x10.2.2.1,qD2 x10.2.2.2,.slice none 0 0,.string (bstr ([111,107]:qD0))]⟩,⟨g9,28,[.slice none 0 0,qD2 0,qD2 0,qD2 0]⟩,⟨g18,88,[qD2 0,.func (.func 70) #[qD4 g13] #[]]⟩],[Ro eT 9 1 (qD3 a15 x14 c16) x14,RoN eN56 rN56 56 1 (qD3 a11 x10.1 c12.1) x10.1 c12.2 []],[GF],qce F x10 x14)) ?_ (fun hw11=>?_)
 rintro ⟨_,g18⟩
 refine au [39,45,82,1,100] ?_
 intro x47 e35 a30 c30 h22 h23
 refine au [28,4,96] ?_
 refine qr 3 (.agg #[qD2 0,.func (.func 70) #[.pointer (some ⟨g13,0,none⟩)] #[]]) rfl rfl rfl (qq (i:=1) rfl tf88 rfl rfl (by simp) rfl) ?_
 refine au [6,4] ?_
 refine qb 5 (qD3 a30 x47 c30) rfl rfl rfl (qcw underlying39 tf9 rfl rfl rfl e35 h23 h22) ?_
 refine au [9,6,101] ?_
 rintro x48 e36 ⟨a31,c31⟩
 refine aw [0,28,5,6,7,15,16,2,11] ?_ ?_
 refine au [4,118] ?_
 refine jK EnC.e rfl rfl rfl rfl (fun x49 e37=>qhR F g13 x10.1 a11 c12 x10.2.1 x10.2.2.1 x10.2.2.2 x48.2 a31 c31 ([111,107]:qD0) x49 e37) (.cons 0 rfl .nil) .nil (.consG 1 rfl (zU qdY) (.consR 0 (qD6 a31 x48.2 c31) rfl (.consF 2 rfl .nil))) (fun x49 e37 _=>?_)
 refine au [5,0] ?_
 exact qt hj ((x49.1,x10.1,x10.2.1,x10.2.2.1,x10.2.2.2,x48.2,x49.2),a11,c12,a31,c31)
 refine au [12] ?_
 exact qt hj (((1:Int),x10.1,x10.2.1,x10.2.2.1,x10.2.2.2,x48.2,([111,107]:qD0)),a11,c12,a31,c31)
 refine vj 1 (fun ((_,g19):Unit×Nat)=>([(4,qD4 g9),(7,qD4 g13),(8,qD3 a15 x14 c16),(9,qD4 g19),(10,.bool false)],[⟨g13,85,[qD3 a11 x10.1 c12.1,qD2 x10.2.1,qD2 x10.2.2.1,qD2 x10.2.2.2,.slice none 0 0,.string (bstr ([111,107]:qD0))]⟩,⟨g9,28,[.slice none 0 0,qD2 0,qD2 0,qD2 0]⟩,⟨g19,88,[qD2 0,.nilFunc]⟩],[Ro eT 9 1 (qD3 a15 x14 c16) x14,RoN eN56 rN56 56 1 (qD3 a11 x10.1 c12.1) x10.1 c12.2 []],[GF],qen F x10)) ?_ (fun hw12=>?_)
 rintro ⟨_,g19⟩
 refine au [39,45,82,1] ?_
 refine qE [] [0,0,0] [0] 8 ?_
 refine au [70,19,2,19,3,19,4,19,5,19,6,6,7,54,2] ?_
 refine k8 (b:=false) rfl (fun h=>by cases h) (fun _=>?_)
 refine au [12,25,8] ?_
 exact qt hj (((1:Int),x10.1,x10.2.1,x10.2.2.1,x10.2.2.2,([]:qD0),([111,107]:qD0)),a11,c12,none,0)
 refine au [1,30,7] ?_
 intro x50 e38 g20 h24
 replace h24:a15=some ⟨g20,0,none⟩:=h24
 have h25:=zF (k:=x14.length) (c:=c16) h24
 refine kg mixed [] _ _ (.cons 0 rfl (.cons 0 rfl (.cons 0 rfl .nil))) (qh 0 rfl (qh 1 rfl (qB 0 rfl (ql qD e38 h24) qf))) 12 rfl ?_
 refine au [6,0,6,2] ?_
 refine jA 3 h24 e38 ?_
 refine qz 4 (.string (bstr x50)) [] rfl rfl rfl (qV (j:=2) rfl tf9 rfl rfl (fun _=>rfl) rfl) (zJ 1 9 rfl rfl (by kernel_rfl) rfl rfl ?_ ?_)
 refine au [26,11,38,11] ?_
 rintro x51 e39 ⟨g21,g22,g23,g24,g25⟩
 refine au [0] ?_
 refine qc (.cons 5 rfl (.cons 5 rfl (.cons 5 rfl .nil))) (qh 0 rfl (qh 1 rfl (qB 1 rfl (ql qD e38 h24) qf))) (zJ 5 9 rfl rfl (by kernel_rfl) rfl rfl ?_ ?_)
 · as_aux_lemma =>
   refine qhy (i:=0) (u:=x50) rfl underlying90 underlying9 tf88 rfl rfl rfl rfl (qW ?_ (qW ?_ (qW ?_ (qW ?_ (qW ?_ (qW ?_ (qW ?_ (qW ?_ (qW ?_ (qW ?_ (qW ?_ (qW ?_ (qnX ?_)))))))))))))
   refine au [0] ?_
   refine qc (.cons 5 rfl (.cons 5 rfl (.cons 5 rfl .nil))) (qh 0 rfl (qh 1 rfl (qB 1 rfl (ql qD e38 h24) qf))) ?_
   refine au [58,116] ?_
   intro g26
   refine au [0] ?_
   refine qc (.cons 6 rfl (.cons 6 rfl (.cons 6 rfl .nil))) (qh 0 rfl (qh 1 rfl (qB 1 rfl (ql qD e38 h24) qf))) ?_
   refine au [106] ?_
   refine qc (.cons 6 rfl (.cons 6 rfl (.cons 6 rfl .nil))) (qh 0 rfl (qh 1 rfl (qB 1 rfl (ql qD e38 h24) qf))) ?_
   refine au [66] ?_
   exact qt hw0 ((),g26)
   refine au [0] ?_
   refine qc (.cons 5 rfl (.cons 5 rfl (.cons 5 rfl .nil))) (qh 0 rfl (qh 1 rfl (qB 1 rfl (ql qD e38 h24) qf))) ?_
   refine au [58,116] ?_
   intro g27
   refine au [0] ?_
   refine qc (.cons 6 rfl (.cons 6 rfl (.cons 6 rfl .nil))) (qh 0 rfl (qh 1 rfl (qB 1 rfl (ql qD e38 h24) qf))) ?_
   refine au [106] ?_
   refine qc (.cons 6 rfl (.cons 6 rfl (.cons 6 rfl .nil))) (qh 0 rfl (qh 1 rfl (qB 1 rfl (ql qD e38 h24) qf))) ?_
   refine au [66] ?_
   exact qt hw1 ((),g27)
   refine au [0] ?_
   refine qc (.cons 5 rfl (.cons 5 rfl (.cons 5 rfl .nil))) (qh 0 rfl (qh 1 rfl (qB 1 rfl (ql qD e38 h24) qf))) ?_
   refine au [58,116] ?_
   intro g28
   refine au [0] ?_
   refine qc (.cons 6 rfl (.cons 6 rfl (.cons 6 rfl .nil))) (qh 0 rfl (qh 1 rfl (qB 1 rfl (ql qD e38 h24) qf))) ?_
   refine au [106] ?_
   refine qc (.cons 6 rfl (.cons 6 rfl (.cons 6 rfl .nil))) (qh 0 rfl (qh 1 rfl (qB 1 rfl (ql qD e38 h24) qf))) ?_
   refine au [66] ?_
   exact qt hw2 ((),g28)
   refine au [0] ?_
   refine qc (.cons 5 rfl (.cons 5 rfl (.cons 5 rfl .nil))) (qh 0 rfl (qh 1 rfl (qB 1 rfl (ql qD e38 h24) qf))) ?_
   refine au [58,116] ?_
   intro g29
   refine au [0] ?_
   refine qc (.cons 6 rfl (.cons 6 rfl (.cons 6 rfl .nil))) (qh 0 rfl (qh 1 rfl (qB 1 rfl (ql qD e38 h24) qf))) ?_
   refine au [106] ?_
   refine qc (.cons 6 rfl (.cons 6 rfl (.cons 6 rfl .nil))) (qh 0 rfl (qh 1 rfl (qB 1 rfl (ql qD e38 h24) qf))) ?_
   refine au [66] ?_
   exact qt hw3 ((),g29)
   refine au [0] ?_
   refine qc (.cons 5 rfl (.cons 5 rfl (.cons 5 rfl .nil))) (qh 0 rfl (qh 1 rfl (qB 1 rfl (ql qD e38 h24) qf))) ?_
   refine au [58,116] ?_
   intro g30
   refine au [0] ?_
   refine qc (.cons 6 rfl (.cons 6 rfl (.cons 6 rfl .nil))) (qh 0 rfl (qh 1 rfl (qB 1 rfl (ql qD e38 h24) qf))) ?_
   refine au [106] ?_
   refine qc (.cons 6 rfl (.cons 6 rfl (.cons 6 rfl .nil))) (qh 0 rfl (qh 1 rfl (qB 1 rfl (ql qD e38 h24) qf))) ?_
   refine au [66] ?_
   exact qt hw4 ((),g30)
   refine au [0] ?_
   refine qc (.cons 5 rfl (.cons 5 rfl (.cons 5 rfl .nil))) (qh 0 rfl (qh 1 rfl (qB 1 rfl (ql qD e38 h24) qf))) ?_
   refine au [58,116] ?_
   intro g31
   refine au [0] ?_
   refine qc (.cons 6 rfl (.cons 6 rfl (.cons 6 rfl .nil))) (qh 0 rfl (qh 1 rfl (qB 1 rfl (ql qD e38 h24) qf))) ?_
   refine au [106] ?_
   refine qc (.cons 6 rfl (.cons 6 rfl (.cons 6 rfl .nil))) (qh 0 rfl (qh 1 rfl (qB 1 rfl (ql qD e38 h24) qf))) ?_
   refine au [66] ?_
   exact qt hw5 ((),g31)
   refine au [0] ?_
   refine qc (.cons 5 rfl (.cons 5 rfl (.cons 5 rfl .nil))) (qh 0 rfl (qh 1 rfl (qB 1 rfl (ql qD e38 h24) qf))) ?_
   refine au [58,116] ?_
   intro g32
   refine au [0] ?_
   refine qc (.cons 6 rfl (.cons 6 rfl (.cons 6 rfl .nil))) (qh 0 rfl (qh 1 rfl (qB 1 rfl (ql qD e38 h24) qf))) ?_
   refine au [106] ?_
   refine qc (.cons 6 rfl (.cons 6 rfl (.cons 6 rfl .nil))) (qh 0 rfl (qh 1 rfl (qB 1 rfl (ql qD e38 h24) qf))) ?_
   refine au [66] ?_
   exact qt hw6 ((),g32)
   refine au [0] ?_
   refine qc (.cons 5 rfl (.cons 5 rfl (.cons 5 rfl .nil))) (qh 0 rfl (qh 1 rfl (qB 1 rfl (ql qD e38 h24) qf))) ?_
   refine au [58,116] ?_
   intro g33
   refine au [0] ?_
   refine qc (.cons 6 rfl (.cons 6 rfl (.cons 6 rfl .nil))) (qh 0 rfl (qh 1 rfl (qB 1 rfl (ql qD e38 h24) qf))) ?_
   refine au [106] ?_
   refine qc (.cons 6 rfl (.cons 6 rfl (.cons 6 rfl .nil))) (qh 0 rfl (qh 1 rfl (qB 1 rfl (ql qD e38 h24) qf))) ?_
   refine au [66] ?_
   exact qt hw7 ((),g33)
   refine au [0] ?_
   refine qc (.cons 5 rfl (.cons 5 rfl (.cons 5 rfl .nil))) (qh 0 rfl (qh 1 rfl (qB 1 rfl (ql qD e38 h24) qf))) ?_
   refine au [58,116] ?_
   intro g34
   refine au [0] ?_
   refine qc (.cons 6 rfl (.cons 6 rfl (.cons 6 rfl .nil))) (qh 0 rfl (qh 1 rfl (qB 1 rfl (ql qD e38 h24) qf))) ?_
   refine au [106] ?_
   refine qc (.cons 6 rfl (.cons 6 rfl (.cons 6 rfl .nil))) (qh 0 rfl (qh 1 rfl (qB 1 rfl (ql qD e38 h24) qf))) ?_
   refine au [66] ?_
   exact qt hw8 ((),g34,g22,g23)
   refine au [0] ?_
   refine qc (.cons 5 rfl (.cons 5 rfl (.cons 5 rfl .nil))) (qh 0 rfl (qh 1 rfl (qB 1 rfl (ql qD e38 h24) qf))) ?_
   refine au [58,116] ?_
   intro g35
   refine au [0] ?_
   refine qc (.cons 6 rfl (.cons 6 rfl (.cons 6 rfl .nil))) (qh 0 rfl (qh 1 rfl (qB 1 rfl (ql qD e38 h24) qf))) ?_
   refine au [106] ?_
   refine qc (.cons 6 rfl (.cons 6 rfl (.cons 6 rfl .nil))) (qh 0 rfl (qh 1 rfl (qB 1 rfl (ql qD e38 h24) qf))) ?_
   refine au [66] ?_
   exact qt hw9 ((),g35)
   refine au [0] ?_
   refine qc (.cons 5 rfl (.cons 5 rfl (.cons 5 rfl .nil))) (qh 0 rfl (qh 1 rfl (qB 1 rfl (ql qD e38 h24) qf))) ?_
   refine au [58,116] ?_
   intro g36
   refine au [0] ?_
   refine qc (.cons 6 rfl (.cons 6 rfl (.cons 6 rfl .nil))) (qh 0 rfl (qh 1 rfl (qB 1 rfl (ql qD e38 h24) qf))) ?_
   refine au [106] ?_
   refine qc (.cons 6 rfl (.cons 6 rfl (.cons 6 rfl .nil))) (qh 0 rfl (qh 1 rfl (qB 1 rfl (ql qD e38 h24) qf))) ?_
   refine au [66] ?_
   exact qt hw10 ((),g36,g24,g25)
   refine au [0] ?_
   refine qc (.cons 5 rfl (.cons 5 rfl (.cons 5 rfl .nil))) (qh 0 rfl (qh 1 rfl (qB 1 rfl (ql qD e38 h24) qf))) ?_
   refine au [58,116] ?_
   intro g37
   refine au [0] ?_
   refine qc (.cons 6 rfl (.cons 6 rfl (.cons 6 rfl .nil))) (qh 0 rfl (qh 1 rfl (qB 1 rfl (ql qD e38 h24) qf))) ?_
   refine au [106] ?_
   refine qc (.cons 6 rfl (.cons 6 rfl (.cons 6 rfl .nil))) (qh 0 rfl (qh 1 rfl (qB 1 rfl (ql qD e38 h24) qf))) ?_
   refine au [66] ?_
   exact qt hw11 ((),g37)
   refine au [0] ?_
   refine qc (.cons 5 rfl (.cons 5 rfl (.cons 5 rfl .nil))) (qh 0 rfl (qh 1 rfl (qB 1 rfl (ql qD e38 h24) qf))) ?_
   refine au [58,116] ?_
   intro g38
   refine au [0] ?_
   refine qc (.cons 6 rfl (.cons 6 rfl (.cons 6 rfl .nil))) (qh 0 rfl (qh 1 rfl (qB 1 rfl (ql qD e38 h24) qf))) ?_
   refine au [106] ?_
   refine qc (.cons 6 rfl (.cons 6 rfl (.cons 6 rfl .nil))) (qh 0 rfl (qh 1 rfl (qB 1 rfl (ql qD e38 h24) qf))) ?_
   refine au [66] ?_
   exact qt hw12 ((),g38)
 · as_aux_lemma =>
   refine qd0 (m':=(if (bstr x50 == bstr ([110,111,100,101,115]:qD0)) then qb9 F x10 x14 else (if (bstr x50 == bstr ([97,114,99]:qD0)) then qeh F x10 x14 else (if (bstr x50 == bstr ([100,114,111,112]:qD0)) then qei F x10 x14 else (if (bstr x50 == bstr ([104,111,119]:qD0)) then qej F x10 x14 else (if (bstr x50 == bstr ([98,105,116,115]:qD0)) then qek F x10 x14 else (if (bstr x50 == bstr ([108,105,115,116]:qD0)) then qca F x10 x14 else (if (bstr x50 == bstr ([102,97,114]:qD0)) then qel F x10 x14 else (if (bstr x50 == bstr ([119,97,121]:qD0)) then qem F x10 x14 else (if (bstr x50 == bstr ([112,97,114,116]:qD0)) then qcb F x10 x14 else (if (bstr x50 == bstr ([111,114,100,101,114]:qD0)) then qcc F x10 x14 else (if (bstr x50 == bstr ([99,111,114,101]:qD0)) then qcd F x10 x14 else (if (bstr x50 == bstr ([116,104,114,101,101,115]:qD0)) then qce F x10 x14 else qen F x10))))))))))))) rfl ?_
   refine au [24,2] ?_
   intro g39
   refine au [0] ?_
   refine qc (.cons 6 rfl (.cons 6 rfl (.cons 6 rfl .nil))) (qh 0 rfl (qh 1 rfl (qB 1 rfl (ql qD e38 h24) qf))) ?_
   refine au [9,5] ?_
   refine qhy (i:=1) (u:=x50) rfl underlying90 underlying9 tf88 rfl rfl rfl rfl (qW ?_ (qW ?_ (qW ?_ (qW ?_ (qW ?_ (qW ?_ (qW ?_ (qW ?_ (qW ?_ (qW ?_ (qW ?_ (qW ?_ (qnX ?_)))))))))))))
   refine au [0] ?_
   refine qc (.cons 6 rfl (.cons 6 rfl (.cons 6 rfl .nil))) (qh 0 rfl (qh 1 rfl (qB 1 rfl (ql qD e38 h24) qf))) ?_
   refine au [93,80] ?_
   refine qc (.cons 6 rfl (.cons 6 rfl (.cons 6 rfl .nil))) (qh 0 rfl (qh 1 rfl (qB 1 rfl (ql qD e38 h24) qf))) ?_
   refine au [66] ?_
   exact qt hw0 ((),g39)
   refine au [0] ?_
   refine qc (.cons 6 rfl (.cons 6 rfl (.cons 6 rfl .nil))) (qh 0 rfl (qh 1 rfl (qB 1 rfl (ql qD e38 h24) qf))) ?_
   refine au [93,80] ?_
   refine qc (.cons 6 rfl (.cons 6 rfl (.cons 6 rfl .nil))) (qh 0 rfl (qh 1 rfl (qB 1 rfl (ql qD e38 h24) qf))) ?_
   refine au [66] ?_
   exact qt hw1 ((),g39)
   refine au [0] ?_
   refine qc (.cons 6 rfl (.cons 6 rfl (.cons 6 rfl .nil))) (qh 0 rfl (qh 1 rfl (qB 1 rfl (ql qD e38 h24) qf))) ?_
   refine au [93,80] ?_
   refine qc (.cons 6 rfl (.cons 6 rfl (.cons 6 rfl .nil))) (qh 0 rfl (qh 1 rfl (qB 1 rfl (ql qD e38 h24) qf))) ?_
   refine au [66] ?_
   exact qt hw2 ((),g39)
   refine au [0] ?_
   refine qc (.cons 6 rfl (.cons 6 rfl (.cons 6 rfl .nil))) (qh 0 rfl (qh 1 rfl (qB 1 rfl (ql qD e38 h24) qf))) ?_
   refine au [93,80] ?_
   refine qc (.cons 6 rfl (.cons 6 rfl (.cons 6 rfl .nil))) (qh 0 rfl (qh 1 rfl (qB 1 rfl (ql qD e38 h24) qf))) ?_
   refine au [66] ?_
   exact qt hw3 ((),g39)
   refine au [0] ?_
   refine qc (.cons 6 rfl (.cons 6 rfl (.cons 6 rfl .nil))) (qh 0 rfl (qh 1 rfl (qB 1 rfl (ql qD e38 h24) qf))) ?_
   refine au [93,80] ?_
   refine qc (.cons 6 rfl (.cons 6 rfl (.cons 6 rfl .nil))) (qh 0 rfl (qh 1 rfl (qB 1 rfl (ql qD e38 h24) qf))) ?_
   refine au [66] ?_
   exact qt hw4 ((),g39)
   refine au [0] ?_
   refine qc (.cons 6 rfl (.cons 6 rfl (.cons 6 rfl .nil))) (qh 0 rfl (qh 1 rfl (qB 1 rfl (ql qD e38 h24) qf))) ?_
   refine au [93,80] ?_
   refine qc (.cons 6 rfl (.cons 6 rfl (.cons 6 rfl .nil))) (qh 0 rfl (qh 1 rfl (qB 1 rfl (ql qD e38 h24) qf))) ?_
   refine au [66] ?_
   exact qt hw5 ((),g39)
   refine au [0] ?_
   refine qc (.cons 6 rfl (.cons 6 rfl (.cons 6 rfl .nil))) (qh 0 rfl (qh 1 rfl (qB 1 rfl (ql qD e38 h24) qf))) ?_
   refine au [93,80] ?_
   refine qc (.cons 6 rfl (.cons 6 rfl (.cons 6 rfl .nil))) (qh 0 rfl (qh 1 rfl (qB 1 rfl (ql qD e38 h24) qf))) ?_
   refine au [66] ?_
   exact qt hw6 ((),g39)
   refine au [0] ?_
   refine qc (.cons 6 rfl (.cons 6 rfl (.cons 6 rfl .nil))) (qh 0 rfl (qh 1 rfl (qB 1 rfl (ql qD e38 h24) qf))) ?_
   refine au [93,80] ?_
   refine qc (.cons 6 rfl (.cons 6 rfl (.cons 6 rfl .nil))) (qh 0 rfl (qh 1 rfl (qB 1 rfl (ql qD e38 h24) qf))) ?_
   refine au [66] ?_
   exact qt hw7 ((),g39)
   refine au [0] ?_
   refine qc (.cons 6 rfl (.cons 6 rfl (.cons 6 rfl .nil))) (qh 0 rfl (qh 1 rfl (qB 1 rfl (ql qD e38 h24) qf))) ?_
   refine au [93,80] ?_
   refine qc (.cons 6 rfl (.cons 6 rfl (.cons 6 rfl .nil))) (qh 0 rfl (qh 1 rfl (qB 1 rfl (ql qD e38 h24) qf))) ?_
   refine au [66] ?_
   exact qt hw8 ((),g39,g22,g23)
   refine au [0] ?_
   refine qc (.cons 6 rfl (.cons 6 rfl (.cons 6 rfl .nil))) (qh 0 rfl (qh 1 rfl (qB 1 rfl (ql qD e38 h24) qf))) ?_
   refine au [93,80] ?_
   refine qc (.cons 6 rfl (.cons 6 rfl (.cons 6 rfl .nil))) (qh 0 rfl (qh 1 rfl (qB 1 rfl (ql qD e38 h24) qf))) ?_
   refine au [66] ?_
   exact qt hw9 ((),g39)
   refine au [0] ?_
   refine qc (.cons 6 rfl (.cons 6 rfl (.cons 6 rfl .nil))) (qh 0 rfl (qh 1 rfl (qB 1 rfl (ql qD e38 h24) qf))) ?_
   refine au [93,80] ?_
   refine qc (.cons 6 rfl (.cons 6 rfl (.cons 6 rfl .nil))) (qh 0 rfl (qh 1 rfl (qB 1 rfl (ql qD e38 h24) qf))) ?_
   refine au [66] ?_
   exact qt hw10 ((),g39,g24,g25)
   refine au [0] ?_
   refine qc (.cons 6 rfl (.cons 6 rfl (.cons 6 rfl .nil))) (qh 0 rfl (qh 1 rfl (qB 1 rfl (ql qD e38 h24) qf))) ?_
   refine au [93,80] ?_
   refine qc (.cons 6 rfl (.cons 6 rfl (.cons 6 rfl .nil))) (qh 0 rfl (qh 1 rfl (qB 1 rfl (ql qD e38 h24) qf))) ?_
   refine au [66] ?_
   exact qt hw11 ((),g39)
   refine au [0] ?_
   refine qc (.cons 6 rfl (.cons 6 rfl (.cons 6 rfl .nil))) (qh 0 rfl (qh 1 rfl (qB 1 rfl (ql qD e38 h24) qf))) ?_
   refine au [93,80] ?_
   refine qc (.cons 6 rfl (.cons 6 rfl (.cons 6 rfl .nil))) (qh 0 rfl (qh 1 rfl (qB 1 rfl (ql qD e38 h24) qf))) ?_
   refine au [66] ?_
   exact qt hw12 ((),g39)
 · as_aux_lemma =>
   refine au [24,2] ?_
   intro g40
   refine au [0] ?_
   refine qc (.cons 1 rfl (.cons 1 rfl (.cons 1 rfl .nil))) (qh 0 rfl (qh 1 rfl (qB 0 rfl (ql qD e38 h24) qf))) ?_
   refine au [9,1,26,11,38,11] ?_
   rintro x52 e40 ⟨g41,g42,g43,g44,g45⟩
   refine au [0] ?_
   refine qc (.cons 5 rfl (.cons 6 rfl (.cons 6 rfl .nil))) (qh 0 rfl (qh 1 rfl (qB 1 rfl (ql qD e38 h24) qf))) ?_
   refine au [9,5] ?_
   refine qhy (i:=0) (u:=x50) rfl underlying90 underlying9 tf88 rfl rfl rfl rfl (qW ?_ (qW ?_ (qW ?_ (qW ?_ (qW ?_ (qW ?_ (qW ?_ (qW ?_ (qW ?_ (qW ?_ (qW ?_ (qW ?_ (qnX ?_)))))))))))))
   refine au [0] ?_
   refine qc (.cons 5 rfl (.cons 6 rfl (.cons 6 rfl .nil))) (qh 0 rfl (qh 1 rfl (qB 1 rfl (ql qD e38 h24) qf))) ?_
   refine au [93,27,3,0] ?_
   refine qc (.cons 5 rfl (.cons 6 rfl (.cons 6 rfl .nil))) (qh 0 rfl (qh 1 rfl (qB 1 rfl (ql qD e38 h24) qf))) ?_
   refine au [66] ?_
   exact qt hw0 ((),g40)
   refine au [0] ?_
   refine qc (.cons 5 rfl (.cons 6 rfl (.cons 6 rfl .nil))) (qh 0 rfl (qh 1 rfl (qB 1 rfl (ql qD e38 h24) qf))) ?_
   refine au [93,27,3,0] ?_
   refine qc (.cons 5 rfl (.cons 6 rfl (.cons 6 rfl .nil))) (qh 0 rfl (qh 1 rfl (qB 1 rfl (ql qD e38 h24) qf))) ?_
   refine au [66] ?_
   exact qt hw1 ((),g40)
   refine au [0] ?_
   refine qc (.cons 5 rfl (.cons 6 rfl (.cons 6 rfl .nil))) (qh 0 rfl (qh 1 rfl (qB 1 rfl (ql qD e38 h24) qf))) ?_
   refine au [93,27,3,0] ?_
   refine qc (.cons 5 rfl (.cons 6 rfl (.cons 6 rfl .nil))) (qh 0 rfl (qh 1 rfl (qB 1 rfl (ql qD e38 h24) qf))) ?_
   refine au [66] ?_
   exact qt hw2 ((),g40)
   refine au [0] ?_
   refine qc (.cons 5 rfl (.cons 6 rfl (.cons 6 rfl .nil))) (qh 0 rfl (qh 1 rfl (qB 1 rfl (ql qD e38 h24) qf))) ?_
   refine au [93,27,3,0] ?_
   refine qc (.cons 5 rfl (.cons 6 rfl (.cons 6 rfl .nil))) (qh 0 rfl (qh 1 rfl (qB 1 rfl (ql qD e38 h24) qf))) ?_
   refine au [66] ?_
   exact qt hw3 ((),g40)
   refine au [0] ?_
   refine qc (.cons 5 rfl (.cons 6 rfl (.cons 6 rfl .nil))) (qh 0 rfl (qh 1 rfl (qB 1 rfl (ql qD e38 h24) qf))) ?_
   refine au [93,27,3,0] ?_
   refine qc (.cons 5 rfl (.cons 6 rfl (.cons 6 rfl .nil))) (qh 0 rfl (qh 1 rfl (qB 1 rfl (ql qD e38 h24) qf))) ?_
   refine au [66] ?_
   exact qt hw4 ((),g40)
   refine au [0] ?_
   refine qc (.cons 5 rfl (.cons 6 rfl (.cons 6 rfl .nil))) (qh 0 rfl (qh 1 rfl (qB 1 rfl (ql qD e38 h24) qf))) ?_
   refine au [93,27,3,0] ?_
   refine qc (.cons 5 rfl (.cons 6 rfl (.cons 6 rfl .nil))) (qh 0 rfl (qh 1 rfl (qB 1 rfl (ql qD e38 h24) qf))) ?_
   refine au [66] ?_
   exact qt hw5 ((),g40)
   refine au [0] ?_
   refine qc (.cons 5 rfl (.cons 6 rfl (.cons 6 rfl .nil))) (qh 0 rfl (qh 1 rfl (qB 1 rfl (ql qD e38 h24) qf))) ?_
   refine au [93,27,3,0] ?_
   refine qc (.cons 5 rfl (.cons 6 rfl (.cons 6 rfl .nil))) (qh 0 rfl (qh 1 rfl (qB 1 rfl (ql qD e38 h24) qf))) ?_
   refine au [66] ?_
   exact qt hw6 ((),g40)
   refine au [0] ?_
   refine qc (.cons 5 rfl (.cons 6 rfl (.cons 6 rfl .nil))) (qh 0 rfl (qh 1 rfl (qB 1 rfl (ql qD e38 h24) qf))) ?_
   refine au [93,27,3,0] ?_
   refine qc (.cons 5 rfl (.cons 6 rfl (.cons 6 rfl .nil))) (qh 0 rfl (qh 1 rfl (qB 1 rfl (ql qD e38 h24) qf))) ?_
   refine au [66] ?_
   exact qt hw7 ((),g40)
   refine au [0] ?_
   refine qc (.cons 5 rfl (.cons 6 rfl (.cons 6 rfl .nil))) (qh 0 rfl (qh 1 rfl (qB 1 rfl (ql qD e38 h24) qf))) ?_
   refine au [93,27,3,0] ?_
   refine qc (.cons 5 rfl (.cons 6 rfl (.cons 6 rfl .nil))) (qh 0 rfl (qh 1 rfl (qB 1 rfl (ql qD e38 h24) qf))) ?_
   refine au [66] ?_
   exact qt hw8 ((),g40,g42,g43)
   refine au [0] ?_
   refine qc (.cons 5 rfl (.cons 6 rfl (.cons 6 rfl .nil))) (qh 0 rfl (qh 1 rfl (qB 1 rfl (ql qD e38 h24) qf))) ?_
   refine au [93,27,3,0] ?_
   refine qc (.cons 5 rfl (.cons 6 rfl (.cons 6 rfl .nil))) (qh 0 rfl (qh 1 rfl (qB 1 rfl (ql qD e38 h24) qf))) ?_
   refine au [66] ?_
   exact qt hw9 ((),g40)
   refine au [0] ?_
   refine qc (.cons 5 rfl (.cons 6 rfl (.cons 6 rfl .nil))) (qh 0 rfl (qh 1 rfl (qB 1 rfl (ql qD e38 h24) qf))) ?_
   refine au [93,27,3,0] ?_
   refine qc (.cons 5 rfl (.cons 6 rfl (.cons 6 rfl .nil))) (qh 0 rfl (qh 1 rfl (qB 1 rfl (ql qD e38 h24) qf))) ?_
   refine au [66] ?_
   exact qt hw10 ((),g40,g44,g45)
   refine au [0] ?_
   refine qc (.cons 5 rfl (.cons 6 rfl (.cons 6 rfl .nil))) (qh 0 rfl (qh 1 rfl (qB 1 rfl (ql qD e38 h24) qf))) ?_
   refine au [93,27,3,0] ?_
   refine qc (.cons 5 rfl (.cons 6 rfl (.cons 6 rfl .nil))) (qh 0 rfl (qh 1 rfl (qB 1 rfl (ql qD e38 h24) qf))) ?_
   refine au [66] ?_
   exact qt hw11 ((),g40)
   refine au [0] ?_
   refine qc (.cons 5 rfl (.cons 6 rfl (.cons 6 rfl .nil))) (qh 0 rfl (qh 1 rfl (qB 1 rfl (ql qD e38 h24) qf))) ?_
   refine au [93,27,3,0] ?_
   refine qc (.cons 5 rfl (.cons 6 rfl (.cons 6 rfl .nil))) (qh 0 rfl (qh 1 rfl (qB 1 rfl (ql qD e38 h24) qf))) ?_
   refine au [66] ?_
   exact qt hw12 ((),g40)
theorem qqj {r:(List (qD0)×Int×Int×Int×qD0×Int)}(hm:qkR F p1 i1 i2 i3 m1=some r) :
    Pure qD9 14 [.agg #[qD3 l1 p1 t1,qD2 i1,qD2 i2,qD2 i3],.string (bstr m1)] [SlN eN56 iN56 1 (qD3 l1 p1 t1) p1 n1,GF] (qD1×Nat×List (qD1×Nat)) (fun g=>.tuple #[.agg #[qD3 g.1 r.1 g.2.1,qD2 r.2.1,qD2 r.2.2.1,qD2 r.2.2.2.1],.string (bstr r.2.2.2.2.1),qD2 r.2.2.2.2.2]) (fun g=>[RoN eN56 rN56 56 1 (qD3 g.1 r.1 g.2.1) r.1 g.2.2 []]) (fun _=>[]):=by
 refine pureA func14 ntmps14 hm fun _=>?_
 refine au [79] ?_
 intro g8
 refine au [24,2] ?_
 intro g9
 refine au [5,83,25,11,31,9] ?_
 intro x10 e10 _
 refine au [60] ?_
 refine yY EnC.e rfl rfl rfl (fun x11 e11=>qrM m1 ([10]:qD0) x11 e11) .nil (fun x11 e11=>?_)
 rintro ⟨a12,c13⟩
 refine au [47] ?_
 refine qg [2,4,8] [0,1] [0] [0,1] (fun ((x16,_):Int×Unit)=>([(7,qD2 x16)],[],[],[],qfM F p1 i1 i2 i3 x11 x16)) ?_ ?_
 refine au [48,25,6,3] ?_
 refine kP 4 21 25 [2,4,7,8] (decide (100<(x11.length:Int))) ?_ ?_ ?_
 exact az [3,24,7,25,1,62]
 exact az [63,7,61]
 refine aw [0,2,11] ?_ ?_
 refine au [4,5,0] ?_
 exact qa ((2:Int),())
 refine au [12] ?_
 exact qa (x10,())
 rintro ⟨x16,_⟩
 refine aw [39,1,1,4,3,25,4,0,2,11] ?_ ?_
 refine au [45] ?_
 refine qF [.slice none 0 0,qD2 0,qD2 0,qD2 0] ?_
 exact az [3,17,5,59,27,2,38,12]
 refine au [57,107,38,8] ?_
 rintro x18 e18 ⟨a19,c20⟩
 refine au [25,5,46,45,24,2] ?_
 intro g21
 refine au [46] ?_
 refine qg [2,4,9] [1] [] [1] (fun (((x0,x2,x3,x8,x9),g0,a0,c0,a1,c1):(qD0×List (qD0)×Int×Int×Int)×Bool×qD1×Nat×qD1×Nat×List (qD1×Nat))=>([],[⟨g21,48,[(bself g21 g0),qD3 a0 x0 c0]⟩,⟨g8,28,[qD3 a1 x2 c1.1,qD2 x3,qD2 x8,qD2 x9]⟩],[qD8 a0 x0 c0,RoN eN56 rN56 56 1 (qD3 a1 x2 c1.1) x2 c1.2 []],[],qhb F x0 x2 x3 x8 x9)) ?_ ?_
 refine au [48,86,31,4] ?_
 refine qm [2,4,9,32,33] [1] [2] [1] (fun (((x12,x13,x14,x15,x17,x19),g1,a3,c2,a4,c4):(Int×qD0×List (qD0)×Int×Int×Int)×Bool×qD1×Nat×qD1×Nat×List (qD1×Nat))=>([(34,qD2 x12)],[⟨g21,48,[(bself g21 g1),qD3 a3 x13 c2]⟩,⟨g8,28,[qD3 a4 x14 c4.1,qD2 x15,qD2 x17,qD2 x19]⟩],[qD8 a3 x13 c2,RoN eN56 rN56 56 1 (qD3 a4 x14 c4.1) x14 c4.2 []],[])) ((0:Int),([]:qD0),x18.1,x18.2.1,x18.2.2.1,x18.2.2.2) (false,none,0,a19,c20) ?_
 intro k0
 rintro ⟨⟨x12,x13,x14,x15,x17,x19⟩,g1,a3,c2,a4,c4⟩
 refine aw [39,1,4,24,4,0,2,1,11] ?_ ?_
 refine au [57] ?_
 refine qg [2,4,9,32,33,34] [0] [0] [0] (fun (((x20,x21,x22,x23,x24),g2,a5,c5,a6,c6):(qD0×List (qD0)×Int×Int×Int)×Bool×qD1×Nat×qD1×Nat×List (qD1×Nat))=>([],[⟨g21,48,[(bself g21 g2),qD3 a5 x20 c5]⟩,⟨g8,28,[qD3 a6 x21 c6.1,qD2 x22,qD2 x23,qD2 x24]⟩],[qD8 a5 x20 c5,RoN eN56 rN56 56 1 (qD3 a6 x21 c6.1) x21 c6.2 []],[],qe0 F (qe2 F x11 k0) x12 x20 x21 x22 x23 x24)) ?_ ?_
 refine au [14,45,26,7] ?_
 intro x25 e0 g3 h0
 refine ku (j:=0) (y:=x25) qD rfl rfl tf9 rfl h0 (qw e0).2.2 (fun _=>rfl) rfl rfl ?_
 refine aw [5,0,2,1,1,4,3,29,7,0,2,11] ?_ ?_
 refine au [53,24,14] ?_
 exact qa ((x13,x14,x15,x17,x19),g1,a3,c2,a4,c4)
 refine au [125,26,9,3,38,13] ?_
 rintro x26 e1 ⟨a7,c7⟩
 refine au [3,81,22,24,2] ?_
 intro g4
 refine au [17,5,47] ?_
 refine qg [2,4,9,32,33,34] [1,2] [1,2] [0] (fun (((x27,x28,x29,x30,x31),a8,c8):(qD0×List (qD0)×Int×Int×Int)×qD1×Nat×List (qD1×Nat))=>([(13,.string (bstr x27))],[⟨g8,28,[qD3 a8 x28 c8.1,qD2 x29,qD2 x30,qD2 x31]⟩],[RoN eN56 rN56 56 1 (qD3 a8 x28 c8.1) x28 c8.2 []],[],qe1 F (qe2 F x11 k0) x12 x13 x27 x28 x29 x30 x31)) ?_ ?_
 refine aw [1,4,3,25,4,0,2,11] ?_ ?_
 refine au [4,3] ?_
 refine yY EnC.e rfl rfl rfl (fun x32 e2=>qfq x26.2.2.2.2.2 x32 e2) (.consF 0 rfl .nil) (fun x32 e2 _=>?_)
 refine au [26,15] ?_
 intro x33 e3
 refine au [5,0] ?_
 exact qa ((x33,x14,x15,x17,x19),a4,c4)
 refine au [4,24,12,30,9,0] ?_
 exact qa ((x26.2.2.2.2.1,x26.1,x26.2.1,x26.2.2.1,x26.2.2.2.1),a7,c7)
 rintro ⟨⟨x27,x28,x29,x30,x31⟩,a8,c8⟩
 refine au [39,4,3,26,15] ?_
 intro x34 e4
 refine qcB EnC.e rfl rfl rfl (fun x35 e5=>qzt g21 g1 x13 a3 c2 x34 x35 e5) (.cons 1 rfl .nil) (.cons 1 rfl .nil) .nil (fun x35 e5=>?_)
 rintro ⟨a9,c9⟩
 refine au [121] ?_
 exact qa ((x35,x28,x29,x30,x31),true,a9,c9,a8,c8)
 rintro ⟨⟨x20,x21,x22,x23,x24⟩,g2,a5,c5,a6,c6⟩
 refine au [39,97] ?_
 exact qj ((iadd .i64 x12 1,x20,x21,x22,x23,x24),g2,a5,c5,a6,c6)
 refine au [72] ?_
 exact qa ((x13,x14,x15,x17,x19),g1,a3,c2,a4,c4)
 rintro ⟨⟨x0,x2,x3,x8,x9⟩,g0,a0,c0,a1,c1⟩
 refine au [39,1] ?_
 refine qE [] [2] [0] 5 ?_
 refine qr 0 (.agg #[.slice a1 x2.length c1.1,qD2 x3,qD2 x8,qD2 x9]) rfl rfl rfl (qq (i:=0) rfl tf28 rfl rfl (by simp) rfl) ?_
 refine au [9,1] ?_
 refine qcB EnC.e rfl rfl rfl (fun x36 e6=>qxh g21 g0 x0 a0 c0 x36 e6) (.cons 1 rfl .nil) (.cons 0 rfl .nil) .nil (fun x36 e6 _=>?_)
 refine au [89,9,2,80,25,14,6,3,6,4,54,2,8] ?_
 exact qgw (a1,c1) 0
set_option maxRecDepth 100000 in
theorem qlW   {r:Bool}(hm:qdJ F =some r) :
    qEa 10 [] [GF] (.bool r):=by
 refine pureA func10 ntmps10 hm fun _=>?_
 refine qww ?_
 refine au [45,83] ?_
 refine qF [qD2 2,qD2 3,qD2 1] ?_
 refine qF [.slice none 0 0,qD2 2,qD2 3,qD2 1] ?_
 refine qwT (qD0) (qD1×Nat) eN56 rN56 56 1 (qd qqj ?_)
 rintro x1 e1 ⟨a2,c3⟩
 refine au [3,81,22,24,2] ?_
 intro g4
 refine au [17,5,60,25,6,3] ?_
 refine kP 3 13 16 [1] (bstr x1.2.2.2.2.1 == bstr ([111,107,10,111,107,10,111,107,10,111,107,10,101,114,114,111,114,32,54,10,49,10,50,10,110,111,110,101,10,49,32,50,32,48,10,48,10,110,111,110,101,10,50,10,49,10,111,107,10,48,32,49,32,50,32,51,10,101,114,114,111,114,32,53,10,101,114,114,111,114,32,51,10,101,114,114,111,114,32,49,10,101,114,114,111,114,32,51,10,50,48,10]:qD0)) ?_ ?_ ?_
 exact az [3,29,7,62]
 exact az [63,61]
 refine au [3] ?_
 refine kP 6 17 23 [1] (((x1.1.length:Int):Int) == 4) ?_ ?_ ?_
 exact az [10,67,24,7,25,6,62]
 exact az [68,7,61]
 refine au [3] ?_
 refine qgv 4 (fun ((x9,_):Bool×Unit)=>([(28,.bool x9)],[],[],[GF],qdv F x9)) ?_ ?_
 refine qC (os:=_) rfl ?_
 refine av [26,5] ?_ ?_
 intro h7
 refine ko (k:=24) rfl h7 ?_
 refine au [24,12,31,9] ?_
 intro x10 e10 _
 refine au [25,6,113] ?_
 exact qa (((x10:Int) == 0),())
 intro h7
 refine km (k:=24) rfl h7 ?_
 refine au [63,7,112] ?_
 exact qa (false,())
 rintro ⟨x9,_⟩
 try dsimp only
 refine qC (os:=_) rfl ?_
 exact az [71]
theorem qtg {r:(List (qD0)×Int×Int×Int×qD0×Int)}(hm:vY F p1 i1 i2 i3 m1=some r) :
    Pure qD9 11 [.agg #[qD3 l1 p1 t1,qD2 i1,qD2 i2,qD2 i3],.string (bstr m1)] [SlN eN56 iN56 1 (qD3 l1 p1 t1) p1 n1,GF] (qD1×Nat×List (qD1×Nat)) (fun g=>.tuple #[.agg #[qD3 g.1 r.1 g.2.1,qD2 r.2.1,qD2 r.2.2.1,qD2 r.2.2.2.1],.string (bstr r.2.2.2.2.1),qD2 r.2.2.2.2.2]) (fun g=>[RoN eN56 rN56 56 1 (qD3 g.1 r.1 g.2.1) r.1 g.2.2 []]) (fun _=>[]):=by
 refine pureA func11 ntmps11 hm fun _=>?_
 refine au [79] ?_
 intro g8
 refine au [24,2] ?_
 intro g9
 refine au [5,82,107,31,9] ?_
 intro x12 e12 _
 refine aw [5,0,2,1,4,3,25,4,0,2,11] ?_ ?_
 refine au [45] ?_
 refine qF [.slice none 0 0,qD2 0,qD2 0,qD2 0] ?_
 exact az [3,17,5,59,27,2,38,12]
 refine au [57,107,3,38,13] ?_
 rintro x13 e13 ⟨a14,c15⟩
 refine au [81,22,17,5,49] ?_
 exact qgw (a14,c15) 0
theorem qoG (hm:je F i1=some m1) :
    qEa 12 [qD2 i1] [] (.string (bstr m1)):=by
 refine pureA func12 ntmps12 hm fun _=>?_
 refine au [64,83,47,14] ?_
 refine vy (fun (((x6,x7),_):(Int×qD0)×Unit)=>[(0,qD2 x6),(3,.string (bstr x7))]) (fun (((x6,x7),_):(Int×qD0)×Unit)=>[]) (fun (((x6,x7),_):(Int×qD0)×Unit)=>[]) (fun (((x6,x7),_):(Int×qD0)×Unit)=>[]) (fun k (s:(Int×qD0)×Unit)=>jR F k s.1) ((i1,([]:qD0)),()) F ?_
 intro k12
 rintro ⟨⟨x6,x7⟩,_⟩
 try dsimp only
 refine qaJ (m':=vz F (jR F k12) x6 x7) rfl ?_
 refine au [14,48,32,0,23,25,10] ?_
 refine zw [iconv .u8 (iadd .i64 48 (irem x6 10))] (fun a13 c14=>?_)
 refine au [32,11] ?_
 refine qt8 (j:=0) rfl UnF.u UnF.u UnF.u rfl rfl rfl ?_
 refine au [3,26,15] ?_
 intro x15 e15
 refine aw [5,0,2,1,4,3,31,2,5,0,2,1,4,3,25,6,0,2,11] ?_ ?_
 exact az [48,49,52,24,6,24,5]
 refine au [12,24,3] ?_
 exact qj ((iquo .i64 x6 10,x15),())
theorem qlV (F:Nat)(x1:List (qD0))(a2:qD1)(c3:(Nat×List (qD1×Nat)))(x4 x5 x6 x7 x8:Int)(r:Bool)(hm:qfJ F x1 x4 x5 x6 x7 x8=some r) :
    qEa 3 [.agg #[qD3 a2 x1 c3.1,qD2 x4,qD2 x5,qD2 x6],qD2 x7,qD2 x8] [SlN eN56 iN56 1 (qD3 a2 x1 c3.1) x1 c3.2,GF] (.bool r):=by
 refine pureA func3 ntmps3 hm fun _=>?_
 refine au [126] ?_
 intro g9
 refine au [82,45] ?_
 refine qd qlW ?_
 intro x12 e12 _
 refine aw [25,7,0,2,11] ?_ ?_
 exact az [45,78]
 refine au [84,48,127] ?_
 refine zp 3 31 34 [1,2,3] (decide (100<x7)) ?_ ?_ ?_
 exact az [63,62]
 exact az [3,105]
 refine au [3] ?_
 refine zp 3 35 38 [1,2,3] (decide (x8<0)) ?_ ?_ ?_
 exact az [63,62]
 exact az [3,24,4,61]
 refine au [3] ?_
 refine zp 4 39 43 [1,2,3] (decide (x7≤x8)) ?_ ?_ ?_
 exact az [63,7,62]
 exact az [91,26,6,61]
 refine aw [0,2,11] ?_ ?_
 exact az [45,78]
 refine au [57] ?_
 refine qg [1,2,3] [0] [] [0,1] (fun (((x45,x48,x49,x50,x51),g44,a46,c47):(Int×List (qD0)×Int×Int×Int)×Nat×qD1×Nat×List (qD1×Nat))=>([(7,qD4 g44),(9,qD2 x45)],[⟨g44,28,[qD3 a46 x48 c47.1,qD2 x49,qD2 x50,qD2 x51]⟩],[RoN eN56 rN56 56 1 (qD3 a46 x48 c47.1) x48 c47.2 []],[],qbL F x1 x4 x5 x6 x7 x8 x45 x48 x49 x50 x51)) ?_ ?_
 refine qE [] [0] [0,1] 13 ?_
 refine qr 0 (.agg #[.slice a2 x1.length c3.1,qD2 x4,qD2 x5,qD2 x6]) rfl rfl rfl (qq (i:=0) rfl tf28 rfl rfl (by simp) rfl) ?_
 refine au [6,1] ?_
 refine zJ 2 9 rfl rfl (by kernel_rfl) rfl rfl ?_ ?_
 refine au [28,6] ?_
 intro x0 e0 _
 refine au [0,29,6] ?_
 refine zJ 3 9 rfl rfl (by kernel_rfl) rfl rfl ?_ ?_
 refine au [26,15] ?_
 intro x2 e1
 refine au [0,29,6] ?_
 refine zJ 4 9 rfl rfl (by kernel_rfl) rfl rfl ?_ ?_
 refine au [26,13] ?_
 rintro x3 e2 ⟨a0,c0⟩
 refine au [0,29,6,6,5,58,116] ?_
 intro g0
 refine au [0,27,4,106,27,4,76,54] ?_
 exact qa ((x3.2.2.2.2.2,x3.1,x3.2.1,x3.2.2.1,x3.2.2.2.1),g0,a0,c0)
 refine au [24,2] ?_
 intro g1
 refine au [0,27,4,108] ?_
 rintro x9 e3 ⟨a1,c1⟩
 refine au [0,27,4,6,5,93,80,27,4,76,54] ?_
 exact qa ((x9.2.2.2.2.2,x9.1,x9.2.1,x9.2.2.1,x9.2.2.2.1),g1,a1,c1)
 refine au [24,2] ?_
 intro g2
 refine au [0,27,4,9,3,26,15] ?_
 intro x10 e4
 refine au [0,27,4,108] ?_
 rintro x11 e5 ⟨a3,c2⟩
 refine au [0,27,4,6,5,93,80,27,4,76,54] ?_
 exact qa ((x11.2.2.2.2.2,x11.1,x11.2.1,x11.2.2.1,x11.2.2.2.1),g2,a3,c2)
 refine au [24,2] ?_
 intro g3
 refine au [0,27,4,9,2,28,6] ?_
 intro x13 e6 _
 refine au [0,27,4,9,3,26,15] ?_
 intro x14 e7
 refine au [0,27,4,108] ?_
 rintro x15 e8 ⟨a4,c4⟩
 refine au [0,27,4,6,5,93,80,27,4,76,54] ?_
 exact qa ((x15.2.2.2.2.2,x15.1,x15.2.1,x15.2.2.1,x15.2.2.2.1),g3,a4,c4)
 rintro ⟨⟨x45,x48,x49,x50,x51⟩,g44,a46,c47⟩
 refine aw [39,1,1,4,3,25,4,0,2,11] ?_ ?_
 refine au [74,31,9] ?_
 intro x54 e54 _
 exact az [25,4,78]
 refine au [57,107,26,13] ?_
 rintro x55 e55 ⟨a56,c57⟩
 refine au [3,81,22,24,2] ?_
 intro g58
 refine au [17,5,47] ?_
 refine qg [1,2,7,11,12] [2] [1] [1] (fun (((x83,x84),_):(qD0×Int)×Unit)=>([(14,.string (bstr x83)),(15,qD2 x84)],[],[],[],qds F x7 x8 x48 x49 x50 x51 x55 x83 x84)) ?_ ?_
 refine qE [] [0,0,0] [0,1] 13 ?_
 refine qr 0 (.agg #[.slice a46 x48.length c47.1,qD2 x49,qD2 x50,qD2 x51]) rfl rfl rfl (qq (i:=2) rfl tf28 rfl rfl (by simp) rfl) ?_
 refine au [6,1] ?_
 refine zJ 2 9 rfl rfl (by kernel_rfl) rfl rfl ?_ ?_
 refine au [28,6] ?_
 intro x16 e9 _
 refine au [0,33,2] ?_
 refine zJ 3 9 rfl rfl (by kernel_rfl) rfl rfl ?_ ?_
 refine au [26,15] ?_
 intro x17 e10
 refine au [0,33,2] ?_
 refine zJ 4 9 rfl rfl (by kernel_rfl) rfl rfl ?_ ?_
 refine au [26,13] ?_
 rintro x18 e11 ⟨a5,c5⟩
 refine au [0,33,2,6,5,58,116] ?_
 intro g4
 refine au [0,27,5,106,27,5,76,54] ?_
 exact qa ((x18.2.2.2.2.1,x18.2.2.2.2.2),())
 refine au [24,2] ?_
 intro g5
 refine au [0,27,5,108] ?_
 rintro x19 e13 ⟨a6,c6⟩
 refine au [0,27,5,6,5,93,80,27,5,76,54] ?_
 exact qa ((x19.2.2.2.2.1,x19.2.2.2.2.2),())
 refine au [24,2] ?_
 intro g6
 refine au [0,27,5,9,3,26,15] ?_
 intro x20 e14
 refine au [0,27,5,108] ?_
 rintro x21 e15 ⟨a7,c7⟩
 refine au [0,27,5,6,5,93,80,27,5,76,54] ?_
 exact qa ((x21.2.2.2.2.1,x21.2.2.2.2.2),())
 refine au [24,2] ?_
 intro g7
 refine au [0,27,5,9,2,28,6] ?_
 intro x22 e16 _
 refine au [0,27,5,9,3,26,15] ?_
 intro x23 e17
 refine au [0,27,5,108] ?_
 rintro x24 e18 ⟨a8,c8⟩
 refine au [0,27,5,6,5,93,80,27,5,76,54] ?_
 exact qa ((x24.2.2.2.2.1,x24.2.2.2.2.2),())
 rintro ⟨⟨x83,x84⟩,_⟩
 try dsimp only
 refine qg [1,2,7,11,12,14,15] [0] [0] [0] (fun (((x25,x26),_):(qD0×Int)×Unit)=>([(17,.string (bstr x25)),(18,qD2 x26)],[],[],[],qdt F x7 x8 x48 x49 x50 x51 x55 x83 x84 x25 x26)) ?_ ?_
 refine qE [] [0] [0] 13 ?_
 refine qr 0 (.agg #[.slice a46 x48.length c47.1,qD2 x49,qD2 x50,qD2 x51]) rfl rfl rfl (qq (i:=0) rfl tf28 rfl rfl (by simp) rfl) ?_
 refine au [6,1] ?_
 refine zJ 2 9 rfl rfl (by kernel_rfl) rfl rfl ?_ ?_
 refine au [28,6] ?_
 intro x27 e19 _
 refine au [73] ?_
 refine zJ 3 9 rfl rfl (by kernel_rfl) rfl rfl ?_ ?_
 refine au [26,15] ?_
 intro x28 e20
 refine au [73] ?_
 refine zJ 4 9 rfl rfl (by kernel_rfl) rfl rfl ?_ ?_
 refine au [26,13] ?_
 rintro x29 e21 ⟨a9,c9⟩
 refine au [73,6,5,58,116] ?_
 intro g8
 refine au [89,106,25,14,76,54] ?_
 exact qa ((x29.2.2.2.2.1,x29.2.2.2.2.2),())
 refine au [24,2] ?_
 intro g10
 refine au [89,108] ?_
 rintro x30 e22 ⟨a10,c10⟩
 refine au [89,6,5,93,80,25,14,76,54] ?_
 exact qa ((x30.2.2.2.2.1,x30.2.2.2.2.2),())
 refine au [24,2] ?_
 intro g11
 refine au [89,9,3,26,15] ?_
 intro x31 e23
 refine au [89,108] ?_
 rintro x32 e24 ⟨a11,c11⟩
 refine au [89,6,5,93,80,25,14,76,54] ?_
 exact qa ((x32.2.2.2.2.1,x32.2.2.2.2.2),())
 refine au [24,2] ?_
 intro g12
 refine au [89,9,2,28,6] ?_
 intro x33 e25 _
 refine au [89,9,3,26,15] ?_
 intro x34 e26
 refine au [89,108] ?_
 rintro x35 e27 ⟨a12,c12⟩
 refine au [89,6,5,93,80,25,14,76,54] ?_
 exact qa ((x35.2.2.2.2.1,x35.2.2.2.2.2),())
 rintro ⟨⟨x25,x26⟩,_⟩
 refine au [39,74,26,13] ?_
 rintro x36 e28 ⟨a13,c13⟩
 refine au [3,81,22,24,2] ?_
 intro g13
 refine au [17,5,47] ?_
 refine qg [1,2,11,12,14,15,17,18,20,21] [] [] [0] (fun (((x37,x38),_):(qD0×Int)×Unit)=>([(23,.string (bstr x37)),(24,qD2 x38)],[],[],[],qdu F x7 x8 x55 x83 x84 x25 x26 x36 x37 x38)) ?_ ?_
 refine au [35,5] ?_
 refine qr 0 (.agg #[.slice a46 x48.length c47.1,qD2 x49,qD2 x50,qD2 x51]) rfl rfl rfl (qq (i:=1) rfl tf28 rfl rfl (by simp) rfl) ?_
 refine au [6,1] ?_
 refine zJ 2 9 rfl rfl (by kernel_rfl) rfl rfl ?_ ?_
 refine au [28,6] ?_
 intro x39 e29 _
 refine au [0,28,14] ?_
 refine zJ 3 9 rfl rfl (by kernel_rfl) rfl rfl ?_ ?_
 refine au [26,15] ?_
 intro x40 e30
 refine au [0,28,14] ?_
 refine zJ 4 9 rfl rfl (by kernel_rfl) rfl rfl ?_ ?_
 refine au [26,13] ?_
 rintro x41 e31 ⟨a14,c14⟩
 refine au [0,28,14,6,5,58,116] ?_
 intro g14
 refine au [128,106,26,0,76,54] ?_
 exact qa ((x41.2.2.2.2.1,x41.2.2.2.2.2),())
 refine au [24,2] ?_
 intro g15
 refine au [128,108] ?_
 rintro x42 e32 ⟨a15,c15⟩
 refine au [128,6,5,93,80,26,0,76,54] ?_
 exact qa ((x42.2.2.2.2.1,x42.2.2.2.2.2),())
 refine au [24,2] ?_
 intro g16
 refine au [128,9,3,26,15] ?_
 intro x43 e33
 refine au [128,108] ?_
 rintro x44 e34 ⟨a16,c16⟩
 refine au [128,6,5,93,80,26,0,76,54] ?_
 exact qa ((x44.2.2.2.2.1,x44.2.2.2.2.2),())
 refine au [24,2] ?_
 intro g17
 refine au [128,9,2,28,6] ?_
 intro x46 e35 _
 refine au [128,9,3,26,15] ?_
 intro x47 e36
 refine au [128,108] ?_
 rintro x52 e37 ⟨a17,c17⟩
 refine au [128,6,5,93,80,26,0,76,54] ?_
 exact qa ((x52.2.2.2.2.1,x52.2.2.2.2.2),())
 rintro ⟨⟨x37,x38⟩,_⟩
 refine au [39,45,47] ?_
 refine qg [2,11,12,14,15,17,18,20,21,23,24] [] [] [0] (fun ((x53,_):qD0×Unit)=>([(25,.string (bstr x53))],[],[],[],jb F x8 x55 x83 x84 x25 x26 x36 x37 x38 x53)) ?_ ?_
 refine au [45,47,14] ?_
 refine qm [1,2,11,12,14,15,17,18,20,21,23,24] [] [] [0] (fun (((x56,x57),_):(qD0×Int)×Unit)=>([(25,.string (bstr x56)),(26,qD2 x57)],[],[],[])) (([]:qD0),(0:Int)) () ?_
 intro k0
 rintro ⟨⟨x56,x57⟩,_⟩
 refine aw [39,1,1,4,3,3,24,4,0,2,11] ?_ ?_
 refine au [85] ?_
 refine qg [1,2,11,12,14,15,17,18,20,21,23,24,26] [] [] [0] (fun ((x58,_):qD0×Unit)=>([(25,.string (bstr x58))],[],[],[],jc F (jd F x7 x8 x55 x83 x84 x25 x26 x36 x37 x38 k0) x57 x58)) ?_ ?_
 refine aw [1,4,3,25,1,0,2,11] ?_ ?_
 refine au [4,3,26,15] ?_
 intro x59 e38
 refine au [5,0] ?_
 exact qa (x59,())
 refine au [12] ?_
 exact qa (x56,())
 rintro ⟨x58,_⟩
 refine au [39,4,91,28,6] ?_
 intro x60 e39 _
 refine au [26,15] ?_
 intro x61 e40
 refine au [5,0,65,4,3,23,5,0] ?_
 exact qj ((x61,iadd .i64 x57 1),())
 refine au [72] ?_
 exact qa (x56,())
 rintro ⟨x53,_⟩
 refine au [92,25,6,3] ?_
 refine kP 4 112 116 [2,14,15,17,18,20,21,23,24] (bstr x55.2.2.2.2.1 == bstr x53) ?_ ?_ ?_
 exact az [91,29,7,62]
 exact az [63,7,61]
 refine au [3] ?_
 refine kP 3 117 120 [2,14,17,18,20,21,23,24] ((x84:Int) == 0) ?_ ?_ ?_
 exact az [3,25,6,62]
 exact az [63,61]
 refine au [3] ?_
 refine kH 5 [17,18,20,21,23,24] [] [] [0] (fun ((x62,_):Bool×Unit)=>([(126,.bool x62)],[],[],[],qa9 F x25 x26 x36 x37 x38 x62)) ?_ ?_
 refine qC (os:=_) rfl ?_
 refine av [26,5] ?_ ?_
 intro h0
 refine ko (k:=121) rfl h0 ?_
 refine au [91,28,6] ?_
 intro x63 e41 _
 refine au [29,7,113] ?_
 exact qa ((bstr x83 == bstr x63),())
 intro h0
 refine km (k:=121) rfl h0 ?_
 refine au [68,112] ?_
 exact qa (false,())
 rintro ⟨x62,_⟩
 try dsimp only
 refine qC (os:=_) rfl ?_
 refine au [3] ?_
 refine kP 3 127 130 [17,20,21,23,24] ((x26:Int) == 0) ?_ ?_ ?_
 exact az [3,25,6,62]
 exact az [63,61]
 refine au [3] ?_
 refine kP 3 131 134 [20,21,23,24] (bstr x25 == bstr ([48]:qD0)) ?_ ?_ ?_
 exact az [3,29,7,62]
 exact az [63,61]
 refine au [3] ?_
 refine kP 3 135 138 [20,23,24] ((x36.2.2.2.2.2:Int) == 0) ?_ ?_ ?_
 exact az [3,25,6,62]
 exact az [63,61]
 refine au [3] ?_
 refine kP 3 139 142 [23,24] (bstr x36.2.2.2.2.1 == bstr ([48]:qD0)) ?_ ?_ ?_
 exact az [3,29,7,62]
 exact az [63,61]
 refine au [3] ?_
 refine kP 3 143 146 [23] ((x38:Int) == 0) ?_ ?_ ?_
 exact az [3,25,6,62]
 exact az [63,61]
 refine au [3] ?_
 refine kP 3 147 150 [] (bstr x37 == bstr ([]:qD0)) ?_ ?_ ?_
 exact az [3,29,7,62]
 exact az [63,61]
 exact az [71]
end Go.Proofs.YthibchijlpflmaaGreatDoor
