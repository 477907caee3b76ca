/- Each Go function of this seat computes what its model says, part 6. -/
import Derived.Test.YthibchijlpflmaaGreatDoorWalks5
namespace Go.Proofs.YthibchijlpflmaaGreatDoor
open Go SX
open Go.Proofs.Tryz
open Go.Proofs.Tryz renaming prog→qD3
set_option maxHeartbeats 4000000
variable {F t1:Nat}{p1:List (qDU)}{l1:qDV}{n1:List (qDV×Nat)}{i1 i2 i3:Int}{m1:qDU}
theorem qoY {r:(List (qDU)×Int×Int×Int×qDU×Int)}(hm:zO F p1 i1 i2 i3 m1=some r) :
    Pure qD3 19 [.agg #[qDX l1 p1 t1,qDW i1,qDW i2,qDW i3],.string (bstr m1)] [SlN eN56 iN56 1 (qDX l1 p1 t1) p1 n1,GF] (qDV×Nat×List (qDV×Nat)) (fun g=>.tuple #[.agg #[qDX g.1 r.1 g.2.1,qDW r.2.1,qDW r.2.2.1,qDW r.2.2.2.1],.string (bstr r.2.2.2.2.1),qDW r.2.2.2.2.2]) (fun g=>[RoN eN56 rN56 56 1 (qDX g.1 r.1 g.2.1) r.1 g.2.2 []]) (fun _=>[]):=by
 refine pureA func19 ntmps19 hm fun _=>?_
 refine au [100] ?_
 intro g8
 refine au [19] ?_
 intro g9
 refine au [6,97,26,0,38,7] ?_
 rintro x10 e10 ⟨a11,c12⟩
 refine qH [qDX a11 x10.1 c12.1,qDW x10.2.1,qDW x10.2.2.1,qDW x10.2.2.2,.slice none 0 0,.string (bstr ([111,107]:qDU))] ?_
 refine au [24,4] ?_
 intro g13
 refine au [76] ?_
 refine vd EnC.e rfl rfl rfl (fun x14 e14=>qrW m1 ([32]:qDU) x14 e14) .nil (fun x14 e14=>?_)
 rintro ⟨a15,c16⟩
 refine au [51] ?_
 refine vm 3 (fun (((x0,x2,x3,x8,x9,x11,x12),a0,c0,a1,c1):(Int×List (qDU)×Int×Int×Int×qDU×qDU)×qDV×(Nat×List (qDV×Nat))×qDV×Nat)=>([(4,qDY g9),(7,qDY g13),(11,qDW x0)],[⟨g13,85,[qDX a0 x2 c0.1,qDW x3,qDW x8,qDW x9,qDX a1 x11 c1,.string (bstr x12)]⟩,⟨g9,28,[.slice none 0 0,qDW 0,qDW 0,qDW 0]⟩],[RoN eN56 rN56 56 1 (qDX a0 x2 c0.1) x2 c0.2 [],qD0 a1 x11 c1],[GF],qz F x0 x2 x3 x8 x9 x11 x12)) ?_ (fun hj=>?_)
 · as_aux_lemma =>
   rintro ⟨⟨x0,x2,x3,x8,x9,x11,x12⟩,a0,c0,a1,c1⟩
   refine aw [39,1,1,5,4,25,8,0,2,13] ?_ ?_
   refine au [48] ?_
   refine qH [.slice none 0 0,qDW 0,qDW 0,qDW 0] ?_
   refine au [4,25,10,6,75,27,5] ?_
   exact qgH (none,0,([]:List (qDV×Nat))) 1
   refine au [135] ?_
   refine qJ [] [0] [0] 11 ?_
   refine au [89,21,2] ?_
   refine qA 3 (.agg #[.slice a0 x2.length c0.1,qDW x3,qDW x8,qDW x9]) rfl rfl rfl (qy (i:=0) rfl tf28 rfl rfl (by simp) rfl) ?_
   refine au [3,4,3,5,21,6,25,4,7,7,8,25,10,93,141,53,2,11] ?_
   exact qgH (a0,c0) 1
 refine vm 1 (fun ((_,g0):Unit×Nat)=>([(4,qDY g9),(7,qDY g13),(8,qDX a15 x14 c16),(9,qDY g0),(10,.bool true)],[⟨g13,85,[qDX a11 x10.1 c12.1,qDW x10.2.1,qDW x10.2.2.1,qDW x10.2.2.2,.slice none 0 0,.string (bstr ([111,107]:qDU))]⟩,⟨g9,28,[.slice none 0 0,qDW 0,qDW 0,qDW 0]⟩,⟨g0,88,[qDW 1,.func (.func 58) #[qDY g13] #[]]⟩],[Ro eT 9 1 (qDX a15 x14 c16) x14,RoN eN56 rN56 56 1 (qDX a11 x10.1 c12.1) x10.1 c12.2 []],[GF],qeq F x10 x14)) ?_ (fun hw0=>?_)
 rintro ⟨_,g0⟩
 refine au [140,129,1,107] ?_
 intro x13 e0 a3 c2 h0 h1
 refine au [28,5,115] ?_
 refine qA 3 (.agg #[qDW 1,.func (.func 58) #[.pointer (some ⟨g13,0,none⟩)] #[]]) rfl rfl rfl (qy (i:=1) rfl tf88 rfl rfl (by simp) rfl) ?_
 refine au [3,4] ?_
 refine qb 5 (qDX a3 x13 c2) rfl rfl rfl (qcD underlying39 tf9 rfl rfl rfl e0 h1 h0) ?_
 refine au [7,6,108] ?_
 rintro x15 e1 ⟨a4,c4⟩
 refine aw [0,28,6,3,7,14,15,2,13] ?_ ?_
 refine au [5,133] ?_
 refine jM EnC.e rfl rfl rfl rfl (fun x16 e2=>qij F g13 x10.1 a11 c12 x10.2.1 x10.2.2.1 x10.2.2.2 x15.2 a4 c4 ([111,107]:qDU) x16 e2) (.cons 0 rfl .nil) (.cons 1 rfl .nil) (.consR 0 (qD0 a4 x15.2 c4) rfl .nil) (fun x16 e2=>?_)
 rintro ⟨a5,c5⟩
 refine au [6,0] ?_
 exact qw hj ((x16.1,x16.2,x10.2.1,x10.2.2.1,x10.2.2.2,x15.2,([111,107]:qDU)),a5,c5,a4,c4)
 refine au [16] ?_
 exact qw hj (((1:Int),x10.1,x10.2.1,x10.2.2.1,x10.2.2.2,x15.2,([111,107]:qDU)),a11,c12,a4,c4)
 refine vm 1 (fun ((_,g1):Unit×Nat)=>([(4,qDY g9),(7,qDY g13),(8,qDX a15 x14 c16),(9,qDY g1),(10,.bool true)],[⟨g13,85,[qDX a11 x10.1 c12.1,qDW x10.2.1,qDW x10.2.2.1,qDW x10.2.2.2,.slice none 0 0,.string (bstr ([111,107]:qDU))]⟩,⟨g9,28,[.slice none 0 0,qDW 0,qDW 0,qDW 0]⟩,⟨g1,88,[qDW 2,.func (.func 59) #[qDY g13] #[]]⟩],[Ro eT 9 1 (qDX a15 x14 c16) x14,RoN eN56 rN56 56 1 (qDX a11 x10.1 c12.1) x10.1 c12.2 []],[GF],qer F x10 x14)) ?_ (fun hw1=>?_)
 rintro ⟨_,g1⟩
 refine au [140,129,1,107] ?_
 intro x17 e3 a6 c6 h2 h3
 refine au [28,5,115] ?_
 refine qA 3 (.agg #[qDW 2,.func (.func 59) #[.pointer (some ⟨g13,0,none⟩)] #[]]) rfl rfl rfl (qy (i:=1) rfl tf88 rfl rfl (by simp) rfl) ?_
 refine au [3,4] ?_
 refine qb 5 (qDX a6 x17 c6) rfl rfl rfl (qcD underlying39 tf9 rfl rfl rfl e3 h3 h2) ?_
 refine au [7,6,108] ?_
 rintro x18 e4 ⟨a7,c7⟩
 refine aw [0,28,6,3,7,14,15,2,13] ?_ ?_
 refine au [5,133] ?_
 refine jM EnC.e rfl rfl rfl rfl (fun x19 e5=>qjF F g13 x10.1 a11 c12 x10.2.1 x10.2.2.1 x10.2.2.2 x18.2 a7 c7 ([111,107]:qDU) x19 e5) (.cons 0 rfl .nil) (.cons 1 rfl .nil) (.consR 0 (qD0 a7 x18.2 c7) rfl .nil) (fun x19 e5=>?_)
 rintro ⟨a8,c8⟩
 refine au [6,0] ?_
 exact qw hj ((x19.1,x19.2,x10.2.1,x10.2.2.1,x10.2.2.2,x18.2,([111,107]:qDU)),a8,c8,a7,c7)
 refine au [16] ?_
 exact qw hj (((1:Int),x10.1,x10.2.1,x10.2.2.1,x10.2.2.2,x18.2,([111,107]:qDU)),a11,c12,a7,c7)
 refine vm 1 (fun ((_,g2):Unit×Nat)=>([(4,qDY g9),(7,qDY g13),(8,qDX a15 x14 c16),(9,qDY g2),(10,.bool true)],[⟨g13,85,[qDX a11 x10.1 c12.1,qDW x10.2.1,qDW x10.2.2.1,qDW x10.2.2.2,.slice none 0 0,.string (bstr ([111,107]:qDU))]⟩,⟨g9,28,[.slice none 0 0,qDW 0,qDW 0,qDW 0]⟩,⟨g2,88,[qDW 2,.func (.func 60) #[qDY g13] #[]]⟩],[Ro eT 9 1 (qDX a15 x14 c16) x14,RoN eN56 rN56 56 1 (qDX a11 x10.1 c12.1) x10.1 c12.2 []],[GF],qes F x10 x14)) ?_ (fun hw2=>?_)
 rintro ⟨_,g2⟩
 refine au [140,129,1,107] ?_
 intro x20 e6 a9 c9 h4 h5
 refine au [28,5,115] ?_
 refine qA 3 (.agg #[qDW 2,.func (.func 60) #[.pointer (some ⟨g13,0,none⟩)] #[]]) rfl rfl rfl (qy (i:=1) rfl tf88 rfl rfl (by simp) rfl) ?_
 refine au [3,4] ?_
 refine qb 5 (qDX a9 x20 c9) rfl rfl rfl (qcD underlying39 tf9 rfl rfl rfl e6 h5 h4) ?_
 refine au [7,6,108] ?_
 rintro x21 e7 ⟨a10,c10⟩
 refine aw [0,28,6,3,7,14,15,2,13] ?_ ?_
 refine au [5,133] ?_
 refine jM EnC.e rfl rfl rfl rfl (fun x22 e8=>qiP F g13 x10.1 a11 c12 x10.2.1 x10.2.2.1 x10.2.2.2 x21.2 a10 c10 ([111,107]:qDU) x22 e8) (.cons 0 rfl .nil) (.cons 1 rfl .nil) (.consR 0 (qD0 a10 x21.2 c10) rfl .nil) (fun x22 e8=>?_)
 rintro ⟨a12,c11⟩
 refine au [6,0] ?_
 exact qw hj ((x22.1,x22.2,x10.2.1,x10.2.2.1,x10.2.2.2,x21.2,([111,107]:qDU)),a12,c11,a10,c10)
 refine au [16] ?_
 exact qw hj (((1:Int),x10.1,x10.2.1,x10.2.2.1,x10.2.2.2,x21.2,([111,107]:qDU)),a11,c12,a10,c10)
 refine vm 1 (fun ((_,g3):Unit×Nat)=>([(4,qDY g9),(7,qDY g13),(8,qDX a15 x14 c16),(9,qDY g3),(10,.bool true)],[⟨g13,85,[qDX a11 x10.1 c12.1,qDW x10.2.1,qDW x10.2.2.1,qDW x10.2.2.2,.slice none 0 0,.string (bstr ([111,107]:qDU))]⟩,⟨g9,28,[.slice none 0 0,qDW 0,qDW 0,qDW 0]⟩,⟨g3,88,[qDW 3,.func (.func 61) #[qDY g13] #[]]⟩],[Ro eT 9 1 (qDX a15 x14 c16) x14,RoN eN56 rN56 56 1 (qDX a11 x10.1 c12.1) x10.1 c12.2 []],[GF],qcf F x10 x14)) ?_ (fun hw3=>?_)
 rintro ⟨_,g3⟩
 refine au [140,129,1,107] ?_
 intro x23 e9 a13 c13 h6 h7
 refine au [28,5,115] ?_
 refine qA 3 (.agg #[qDW 3,.func (.func 61) #[.pointer (some ⟨g13,0,none⟩)] #[]]) rfl rfl rfl (qy (i:=1) rfl tf88 rfl rfl (by simp) rfl) ?_
 refine au [3,4] ?_
 refine qb 5 (qDX a13 x23 c13) rfl rfl rfl (qcD underlying39 tf9 rfl rfl rfl e9 h7 h6) ?_
 refine au [7,6,108] ?_
 rintro x24 e11 ⟨a14,c14⟩
 refine aw [0,28,6,3,7,14,15,2,13] ?_ ?_
 refine au [5,133] ?_
 refine jM EnC.e rfl rfl rfl rfl (fun x25 e12=>qjH F g13 x10.1 a11 c12 x10.2.1 x10.2.2.1 x10.2.2.2 x24.2 a14 c14 ([111,107]:qDU) x25 e12) (.cons 0 rfl .nil) .nil (.consG 1 rfl (kj qd7) (.consR 0 (qD0 a14 x24.2 c14) rfl .nil)) (fun x25 e12 _=>?_)
 refine au [6,0] ?_
 exact qw hj ((x25.1,x10.1,x25.2.1,x25.2.2.1,x25.2.2.2,x24.2,([111,107]:qDU)),a11,c12,a14,c14)
 refine au [16] ?_
 exact qw hj (((1:Int),x10.1,x10.2.1,x10.2.2.1,x10.2.2.2,x24.2,([111,107]:qDU)),a11,c12,a14,c14)
 refine vm 1 (fun ((_,g4):Unit×Nat)=>([(4,qDY g9),(7,qDY g13),(8,qDX a15 x14 c16),(9,qDY g4),(10,.bool true)],[⟨g13,85,[qDX a11 x10.1 c12.1,qDW x10.2.1,qDW x10.2.2.1,qDW x10.2.2.2,.slice none 0 0,.string (bstr ([111,107]:qDU))]⟩,⟨g9,28,[.slice none 0 0,qDW 0,qDW 0,qDW 0]⟩,⟨g4,88,[qDW 0,.func (.func 62) #[qDY g13] #[]]⟩],[Ro eT 9 1 (qDX a15 x14 c16) x14,RoN eN56 rN56 56 1 (qDX a11 x10.1 c12.1) x10.1 c12.2 []],[GF],qet F x10 x14)) ?_ (fun hw4=>?_)
 rintro ⟨_,g4⟩
 refine au [140,129,1,107] ?_
 intro x26 e13 a16 c15 h8 h9
 refine au [28,5,115] ?_
 refine qA 3 (.agg #[qDW 0,.func (.func 62) #[.pointer (some ⟨g13,0,none⟩)] #[]]) rfl rfl rfl (qy (i:=1) rfl tf88 rfl rfl (by simp) rfl) ?_
 refine au [3,4] ?_
 refine qb 5 (qDX a16 x26 c15) rfl rfl rfl (qcD underlying39 tf9 rfl rfl rfl e13 h9 h8) ?_
 refine au [7,6,108] ?_
 rintro x27 e15 ⟨a17,c17⟩
 refine aw [0,28,6,3,7,14,15,2,13] ?_ ?_
 refine au [5,133] ?_
 refine jM EnC.e rfl rfl rfl rfl (fun x28 e16=>qiO F g13 x10.1 a11 c12 x10.2.1 x10.2.2.1 x10.2.2.2 x27.2 a17 c17 ([111,107]:qDU) x28 e16) (.cons 0 rfl .nil) .nil (.consG 1 rfl (kj qd7) (.consR 0 (qD0 a17 x27.2 c17) rfl (.consF 2 rfl .nil))) (fun x28 e16 _=>?_)
 refine au [6,0] ?_
 exact qw hj ((x28.1,x10.1,x10.2.1,x10.2.2.1,x10.2.2.2,x27.2,x28.2),a11,c12,a17,c17)
 refine au [16] ?_
 exact qw hj (((1:Int),x10.1,x10.2.1,x10.2.2.1,x10.2.2.2,x27.2,([111,107]:qDU)),a11,c12,a17,c17)
 refine vm 1 (fun ((_,g5):Unit×Nat)=>([(4,qDY g9),(7,qDY g13),(8,qDX a15 x14 c16),(9,qDY g5),(10,.bool true)],[⟨g13,85,[qDX a11 x10.1 c12.1,qDW x10.2.1,qDW x10.2.2.1,qDW x10.2.2.2,.slice none 0 0,.string (bstr ([111,107]:qDU))]⟩,⟨g9,28,[.slice none 0 0,qDW 0,qDW 0,qDW 0]⟩,⟨g5,88,[qDW 1,.func (.func 63) #[qDY g13] #[]]⟩],[Ro eT 9 1 (qDX a15 x14 c16) x14,RoN eN56 rN56 56 1 (qDX a11 x10.1 c12.1) x10.1 c12.2 []],[GF],qcg F x10 x14)) ?_ (fun hw5=>?_)
 rintro ⟨_,g5⟩
 refine au [140,129,1,107] ?_
 intro x29 e17 a18 c18 h10 h11
 refine au [28,5,115] ?_
 refine qA 3 (.agg #[qDW 1,.func (.func 63) #[.pointer (some ⟨g13,0,none⟩)] #[]]) rfl rfl rfl (qy (i:=1) rfl tf88 rfl rfl (by simp) rfl) ?_
 refine au [3,4] ?_
 refine qb 5 (qDX a18 x29 c18) rfl rfl rfl (qcD underlying39 tf9 rfl rfl rfl e17 h11 h10) ?_
 refine au [7,6,108] ?_
 rintro x30 e18 ⟨a19,c19⟩
 refine aw [0,28,6,3,7,14,15,2,13] ?_ ?_
 refine au [5,133] ?_
 refine jM EnC.e rfl rfl rfl rfl (fun x31 e19=>qiQ F g13 x10.1 a11 c12 x10.2.1 x10.2.2.1 x10.2.2.2 x30.2 a19 c19 ([111,107]:qDU) x31 e19) (.cons 0 rfl .nil) .nil (.consG 1 rfl (kj qd7) (.consR 0 (qD0 a19 x30.2 c19) rfl (.consF 2 rfl .nil))) (fun x31 e19 _=>?_)
 refine au [6,0] ?_
 exact qw hj ((x31.1,x10.1,x10.2.1,x10.2.2.1,x10.2.2.2,x30.2,x31.2),a11,c12,a19,c19)
 refine au [16] ?_
 exact qw hj (((1:Int),x10.1,x10.2.1,x10.2.2.1,x10.2.2.2,x30.2,([111,107]:qDU)),a11,c12,a19,c19)
 refine vm 1 (fun ((_,g6):Unit×Nat)=>([(4,qDY g9),(7,qDY g13),(8,qDX a15 x14 c16),(9,qDY g6),(10,.bool true)],[⟨g13,85,[qDX a11 x10.1 c12.1,qDW x10.2.1,qDW x10.2.2.1,qDW x10.2.2.2,.slice none 0 0,.string (bstr ([111,107]:qDU))]⟩,⟨g9,28,[.slice none 0 0,qDW 0,qDW 0,qDW 0]⟩,⟨g6,88,[qDW 2,.func (.func 64) #[qDY g13] #[]]⟩],[Ro eT 9 1 (qDX a15 x14 c16) x14,RoN eN56 rN56 56 1 (qDX a11 x10.1 c12.1) x10.1 c12.2 []],[GF],qeu F x10 x14)) ?_ (fun hw6=>?_)
 rintro ⟨_,g6⟩
 refine au [140,129,1,107] ?_
 intro x32 e20 a20 c20 h12 h13
 refine au [28,5,115] ?_
 refine qA 3 (.agg #[qDW 2,.func (.func 64) #[.pointer (some ⟨g13,0,none⟩)] #[]]) rfl rfl rfl (qy (i:=1) rfl tf88 rfl rfl (by simp) rfl) ?_
 refine au [3,4] ?_
 refine qb 5 (qDX a20 x32 c20) rfl rfl rfl (qcD underlying39 tf9 rfl rfl rfl e20 h13 h12) ?_
 refine au [7,6,108] ?_
 rintro x33 e21 ⟨a21,c21⟩
 refine aw [0,28,6,3,7,14,15,2,13] ?_ ?_
 refine au [5,133] ?_
 refine jM EnC.e rfl rfl rfl rfl (fun x34 e22=>qjG F g13 x10.1 a11 c12 x10.2.1 x10.2.2.1 x10.2.2.2 x33.2 a21 c21 ([111,107]:qDU) x34 e22) (.cons 0 rfl .nil) .nil (.consG 1 rfl (kj qd7) (.consR 0 (qD0 a21 x33.2 c21) rfl (.consF 2 rfl .nil))) (fun x34 e22 _=>?_)
 refine au [6,0] ?_
 exact qw hj ((x34.1,x10.1,x10.2.1,x10.2.2.1,x10.2.2.2,x33.2,x34.2),a11,c12,a21,c21)
 refine au [16] ?_
 exact qw hj (((1:Int),x10.1,x10.2.1,x10.2.2.1,x10.2.2.2,x33.2,([111,107]:qDU)),a11,c12,a21,c21)
 refine vm 1 (fun ((_,g7):Unit×Nat)=>([(4,qDY g9),(7,qDY g13),(8,qDX a15 x14 c16),(9,qDY g7),(10,.bool true)],[⟨g13,85,[qDX a11 x10.1 c12.1,qDW x10.2.1,qDW x10.2.2.1,qDW x10.2.2.2,.slice none 0 0,.string (bstr ([111,107]:qDU))]⟩,⟨g9,28,[.slice none 0 0,qDW 0,qDW 0,qDW 0]⟩,⟨g7,88,[qDW 2,.func (.func 65) #[qDY g13] #[]]⟩],[Ro eT 9 1 (qDX a15 x14 c16) x14,RoN eN56 rN56 56 1 (qDX a11 x10.1 c12.1) x10.1 c12.2 []],[GF],qch F x10 x14)) ?_ (fun hw7=>?_)
 rintro ⟨_,g7⟩
 refine au [140,129,1,107] ?_
 intro x35 e23 a22 c22 h14 h15
 refine au [28,5,115] ?_
 refine qA 3 (.agg #[qDW 2,.func (.func 65) #[.pointer (some ⟨g13,0,none⟩)] #[]]) rfl rfl rfl (qy (i:=1) rfl tf88 rfl rfl (by simp) rfl) ?_
 refine au [3,4] ?_
 refine qb 5 (qDX a22 x35 c22) rfl rfl rfl (qcD underlying39 tf9 rfl rfl rfl e23 h15 h14) ?_
 refine au [7,6,108] ?_
 rintro x36 e24 ⟨a23,c23⟩
 refine aw [0,28,6,3,7,14,15,2,13] ?_ ?_
 refine au [5,133] ?_
 refine jM EnC.e rfl rfl rfl rfl (fun x37 e25=>qjI F g13 x10.1 a11 c12 x10.2.1 x10.2.2.1 x10.2.2.2 x36.2 a23 c23 ([111,107]:qDU) x37 e25) (.cons 0 rfl .nil) .nil (.consG 1 rfl (kj qd7) (.consR 0 (qD0 a23 x36.2 c23) rfl (.consF 2 rfl .nil))) (fun x37 e25 _=>?_)
 refine au [6,0] ?_
 exact qw hj ((x37.1,x10.1,x10.2.1,x10.2.2.1,x10.2.2.2,x36.2,x37.2),a11,c12,a23,c23)
 refine au [16] ?_
 exact qw hj (((1:Int),x10.1,x10.2.1,x10.2.2.1,x10.2.2.2,x36.2,([111,107]:qDU)),a11,c12,a23,c23)
 refine vm 1 (fun ((_,g10,g11,g12):Unit×Nat×Nat×Nat)=>([(4,qDY g9),(7,qDY g13),(8,qDX a15 x14 c16),(9,qDY g10),(10,.bool true)],[⟨g13,85,[qDX a11 x10.1 c12.1,qDW x10.2.1,qDW x10.2.2.1,qDW x10.2.2.2,.slice none 0 0,.string (bstr ([111,107]:qDU))]⟩,⟨g9,28,[.slice none 0 0,qDW 0,qDW 0,qDW 0]⟩,⟨g10,88,[qDW 1,.func (.func 94) #[] #[qDY g11,qDY g12]]⟩,⟨g11,83,[qDY g13]⟩,⟨g12,107,[.func (.func 67) #[] #[]]⟩],[Ro eT 9 1 (qDX a15 x14 c16) x14,RoN eN56 rN56 56 1 (qDX a11 x10.1 c12.1) x10.1 c12.2 []],[GF],qci F x10 x14)) ?_ (fun hw8=>?_)
 rintro ⟨_,g10,g11,g12⟩
 refine au [140,129,1,107] ?_
 intro x38 e26 a24 c24 h16 h17
 refine au [38,8,115] ?_
 refine qA 3 (.agg #[qDW 1,.func (.func 94) #[] #[.pointer (some ⟨g11,0,none⟩),.pointer (some ⟨g12,0,none⟩)]]) rfl rfl rfl (qy (i:=1) rfl tf88 rfl rfl (by simp) rfl) ?_
 refine au [3,4] ?_
 refine qb 5 (qDX a24 x38 c24) rfl rfl rfl (qcD underlying39 tf9 rfl rfl rfl e26 h17 h16) ?_
 refine au [7,6,108] ?_
 rintro x39 e27 ⟨a25,c25⟩
 refine aw [0,38,9,3,7,14,15,2,13] ?_ ?_
 refine au [5,133] ?_
 refine qfA EnC.e rfl rfl rfl rfl (fun x40 e28=>qdt F g11 g13 x10.1 a11 c12 x10.2.1 x10.2.2.1 x10.2.2.2 x39.2 a25 c25 ([111,107]:qDU) g12 x40 e28) (.cons 3 rfl (.cons 0 rfl (.cons 2 rfl .nil))) .nil (.consG 1 rfl (kj qd7) (.consR 0 (qD0 a25 x39.2 c25) rfl (.consF 2 rfl .nil))) (fun x40 e28 _=>?_)
 refine au [6,0] ?_
 exact qw hj ((x40.1,x10.1,x10.2.1,x10.2.2.1,x10.2.2.2,x39.2,x40.2),a11,c12,a25,c25)
 refine au [16] ?_
 exact qw hj (((1:Int),x10.1,x10.2.1,x10.2.2.1,x10.2.2.2,x39.2,([111,107]:qDU)),a11,c12,a25,c25)
 refine vm 1 (fun ((_,g14):Unit×Nat)=>([(4,qDY g9),(7,qDY g13),(8,qDX a15 x14 c16),(9,qDY g14),(10,.bool true)],[⟨g13,85,[qDX a11 x10.1 c12.1,qDW x10.2.1,qDW x10.2.2.1,qDW x10.2.2.2,.slice none 0 0,.string (bstr ([111,107]:qDU))]⟩,⟨g9,28,[.slice none 0 0,qDW 0,qDW 0,qDW 0]⟩,⟨g14,88,[qDW 0,.func (.func 68) #[qDY g13] #[]]⟩],[Ro eT 9 1 (qDX a15 x14 c16) x14,RoN eN56 rN56 56 1 (qDX a11 x10.1 c12.1) x10.1 c12.2 []],[GF],qcj F x10 x14)) ?_ (fun hw9=>?_)
 rintro ⟨_,g14⟩
 refine au [140,129,1,107] ?_
 intro x41 e29 a26 c26 h18 h19
 refine au [28,5,115] ?_
 refine qA 3 (.agg #[qDW 0,.func (.func 68) #[.pointer (some ⟨g13,0,none⟩)] #[]]) rfl rfl rfl (qy (i:=1) rfl tf88 rfl rfl (by simp) rfl) ?_
 refine au [3,4] ?_
 refine qb 5 (qDX a26 x41 c26) rfl rfl rfl (qcD underlying39 tf9 rfl rfl rfl e29 h19 h18) ?_
 refine au [7,6,108] ?_
 rintro x42 e30 ⟨a27,c27⟩
 refine aw [0,28,6,3,7,14,15,2,13] ?_ ?_
 refine au [5,133] ?_
 refine jM EnC.e rfl rfl rfl rfl (fun x43 e31=>qik F g13 x10.1 a11 c12 x10.2.1 x10.2.2.1 x10.2.2.2 x42.2 a27 c27 ([111,107]:qDU) x43 e31) (.cons 0 rfl .nil) .nil (.consG 1 rfl (kj qd7) (.consR 0 (qD0 a27 x42.2 c27) rfl (.consF 2 rfl .nil))) (fun x43 e31 _=>?_)
 refine au [6,0] ?_
 exact qw hj ((x43.1,x10.1,x10.2.1,x10.2.2.1,x10.2.2.2,x42.2,x43.2),a11,c12,a27,c27)
 refine au [16] ?_
 exact qw hj (((1:Int),x10.1,x10.2.1,x10.2.2.1,x10.2.2.2,x42.2,([111,107]:qDU)),a11,c12,a27,c27)
 refine vm 1 (fun ((_,g15,g16,g17):Unit×Nat×Nat×Nat)=>([(4,qDY g9),(7,qDY g13),(8,qDX a15 x14 c16),(9,qDY g15),(10,.bool true)],[⟨g13,85,[qDX a11 x10.1 c12.1,qDW x10.2.1,qDW x10.2.2.1,qDW x10.2.2.2,.slice none 0 0,.string (bstr ([111,107]:qDU))]⟩,⟨g9,28,[.slice none 0 0,qDW 0,qDW 0,qDW 0]⟩,⟨g15,88,[qDW 1,.func (.func 94) #[] #[qDY g16,qDY g17]]⟩,⟨g16,83,[qDY g13]⟩,⟨g17,107,[.func (.func 69) #[] #[]]⟩],[Ro eT 9 1 (qDX a15 x14 c16) x14,RoN eN56 rN56 56 1 (qDX a11 x10.1 c12.1) x10.1 c12.2 []],[GF],qev F x10 x14)) ?_ (fun hw10=>?_)
 rintro ⟨_,g15,g16,g17⟩
 refine au [140,129,1,107] ?_
 intro x44 e32 a28 c28 h20 h21
 refine au [38,8,115] ?_
 refine qA 3 (.agg #[qDW 1,.func (.func 94) #[] #[.pointer (some ⟨g16,0,none⟩),.pointer (some ⟨g17,0,none⟩)]]) rfl rfl rfl (qy (i:=1) rfl tf88 rfl rfl (by simp) rfl) ?_
 refine au [3,4] ?_
 refine qb 5 (qDX a28 x44 c28) rfl rfl rfl (qcD underlying39 tf9 rfl rfl rfl e32 h21 h20) ?_
 refine au [7,6,108] ?_
 rintro x45 e33 ⟨a29,c29⟩
 refine aw [0,38,9,3,7,14,15,2,13] ?_ ?_
 refine au [5,133] ?_
 refine qfA EnC.e rfl rfl rfl rfl (fun x46 e34=>qds F g16 g13 x10.1 a11 c12 x10.2.1 x10.2.2.1 x10.2.2.2 x45.2 a29 c29 ([111,107]:qDU) g17 x46 e34) (.cons 3 rfl (.cons 0 rfl (.cons 2 rfl .nil))) .nil (.consG 1 rfl (kj qd7) (.consR 0 (qD0 a29 x45.2 c29) rfl (.consF 2 rfl .nil))) (fun x46 e34 _=>?_)
 refine au [6,0] ?_
 exact qw hj ((x46.1,x10.1,x10.2.1,x10.2.2.1,x10.2.2.2,x45.2,x46.2),a11,c12,a29,c29)
 refine au [16] ?_
 exact qw hj (((1:Int),x10.1,x10.2.1,x10.2.2.1,x10.2.2.2,x45.2,([111,107]:qDU)),a11,c12,a29,c29)
 refine vm 1 (fun ((_,g18):Unit×Nat)=>([(4,qDY g9),(7,qDY g13),(8,qDX a15 x14 c16),(9,qDY g18),(10,.bool true)],[⟨g13,85,[qDX a11 x10.1 c12.1,qDW x10.2.1,qDW x10.2.2.1,qDW x10.2.2.2,.slice none 0 0,.string (bstr ([111,107]:qDU))]⟩,⟨g9,28,[.slice none 0 0,qDW 0,qDW 0,qDW 0]⟩,⟨g18,88,[qDW 0,.func (.func 70) #[qDY g13] #[]]⟩],[Ro eT 9 1 (qDX a15 x14 c16) x14,RoN eN56 rN56 56 1 (qDX a11 x10.1 c12.1) x10.1 c12.2 []],[GF],qck F x10 x14)) ?_ (fun hw11=>?_)
 rintro ⟨_,g18⟩
 refine au [140,129,1,107] ?_
 intro x47 e35 a30 c30 h22 h23
 refine au [28,5,115] ?_
 refine qA 3 (.agg #[qDW 0,.func (.func 70) #[.pointer (some ⟨g13,0,none⟩)] #[]]) rfl rfl rfl (qy (i:=1) rfl tf88 rfl rfl (by simp) rfl) ?_
 refine au [3,4] ?_
 refine qb 5 (qDX a30 x47 c30) rfl rfl rfl (qcD underlying39 tf9 rfl rfl rfl e35 h23 h22) ?_
 refine au [7,6,108] ?_
 rintro x48 e36 ⟨a31,c31⟩
 refine aw [0,28,6,3,7,14,15,2,13] ?_ ?_
 refine au [5,133] ?_
 refine jM EnC.e rfl rfl rfl rfl (fun x49 e37=>qh4 F g13 x10.1 a11 c12 x10.2.1 x10.2.2.1 x10.2.2.2 x48.2 a31 c31 ([111,107]:qDU) x49 e37) (.cons 0 rfl .nil) .nil (.consG 1 rfl (kj qd7) (.consR 0 (qD0 a31 x48.2 c31) rfl (.consF 2 rfl .nil))) (fun x49 e37 _=>?_)
 refine au [6,0] ?_
 exact qw hj ((x49.1,x10.1,x10.2.1,x10.2.2.1,x10.2.2.2,x48.2,x49.2),a11,c12,a31,c31)
 refine au [16] ?_
 exact qw hj (((1:Int),x10.1,x10.2.1,x10.2.2.1,x10.2.2.2,x48.2,([111,107]:qDU)),a11,c12,a31,c31)
 refine vm 1 (fun ((_,g19):Unit×Nat)=>([(4,qDY g9),(7,qDY g13),(8,qDX a15 x14 c16),(9,qDY g19),(10,.bool false)],[⟨g13,85,[qDX a11 x10.1 c12.1,qDW x10.2.1,qDW x10.2.2.1,qDW x10.2.2.2,.slice none 0 0,.string (bstr ([111,107]:qDU))]⟩,⟨g9,28,[.slice none 0 0,qDW 0,qDW 0,qDW 0]⟩,⟨g19,88,[qDW 0,.nilFunc]⟩],[Ro eT 9 1 (qDX a15 x14 c16) x14,RoN eN56 rN56 56 1 (qDX a11 x10.1 c12.1) x10.1 c12.2 []],[GF],qew F x10)) ?_ (fun hw12=>?_)
 rintro ⟨_,g19⟩
 refine au [140,129,1] ?_
 refine qJ [] [0,0,0] [0] 8 ?_
 refine au [89,23,2,23,3,23,4,23,5,23,6,3,7,53,2] ?_
 refine yh (b:=false) rfl (fun h=>by cases h) (fun _=>?_)
 refine au [16,25,13] ?_
 exact qw hj (((1:Int),x10.1,x10.2.1,x10.2.2.1,x10.2.2.2,([]:qDU),([111,107]:qDU)),a11,c12,none,0)
 refine au [1,30,4] ?_
 intro x50 e38 g20 h24
 replace h24:a15=some ⟨g20,0,none⟩:=h24
 have h25:=zM (k:=x14.length) (c:=c16) h24
 refine kB mixed [] _ _ (.cons 0 rfl (.cons 0 rfl (.cons 0 rfl .nil))) (qh 0 rfl (qh 1 rfl (qE 0 rfl (qn qF e38 h24) qf))) 12 rfl ?_
 refine au [3,0,3,2] ?_
 refine jB 3 h24 e38 ?_
 refine qB 4 (.string (bstr x50)) [] rfl rfl rfl (qZ (j:=2) rfl tf9 rfl rfl (fun _=>rfl) rfl) (qg 1 9 rfl rfl (by kernel_rfl) rfl rfl ?_ ?_)
 refine au [26,15,38,10] ?_
 rintro x51 e39 ⟨g21,g22,g23,g24,g25⟩
 refine au [0] ?_
 refine qc (.cons 5 rfl (.cons 5 rfl (.cons 5 rfl .nil))) (qh 0 rfl (qh 1 rfl (qE 1 rfl (qn qF e38 h24) qf))) (qg 5 9 rfl rfl (by kernel_rfl) rfl rfl ?_ ?_)
 · as_aux_lemma =>
   refine qhL (i:=0) (u:=x50) rfl underlying90 underlying9 tf88 rfl rfl rfl rfl (q7 ?_ (q7 ?_ (q7 ?_ (q7 ?_ (q7 ?_ (q7 ?_ (q7 ?_ (q7 ?_ (q7 ?_ (q7 ?_ (q7 ?_ (q7 ?_ (qoa ?_)))))))))))))
   refine au [0] ?_
   refine qc (.cons 5 rfl (.cons 5 rfl (.cons 5 rfl .nil))) (qh 0 rfl (qh 1 rfl (qE 1 rfl (qn qF e38 h24) qf))) ?_
   refine au [99,7,9,19] ?_
   intro g26
   refine au [0] ?_
   refine qc (.cons 6 rfl (.cons 6 rfl (.cons 6 rfl .nil))) (qh 0 rfl (qh 1 rfl (qE 1 rfl (qn qF e38 h24) qf))) ?_
   refine au [147] ?_
   refine qc (.cons 6 rfl (.cons 6 rfl (.cons 6 rfl .nil))) (qh 0 rfl (qh 1 rfl (qE 1 rfl (qn qF e38 h24) qf))) ?_
   refine au [81] ?_
   exact qw hw0 ((),g26)
   refine au [0] ?_
   refine qc (.cons 5 rfl (.cons 5 rfl (.cons 5 rfl .nil))) (qh 0 rfl (qh 1 rfl (qE 1 rfl (qn qF e38 h24) qf))) ?_
   refine au [99,7,9,19] ?_
   intro g27
   refine au [0] ?_
   refine qc (.cons 6 rfl (.cons 6 rfl (.cons 6 rfl .nil))) (qh 0 rfl (qh 1 rfl (qE 1 rfl (qn qF e38 h24) qf))) ?_
   refine au [147] ?_
   refine qc (.cons 6 rfl (.cons 6 rfl (.cons 6 rfl .nil))) (qh 0 rfl (qh 1 rfl (qE 1 rfl (qn qF e38 h24) qf))) ?_
   refine au [81] ?_
   exact qw hw1 ((),g27)
   refine au [0] ?_
   refine qc (.cons 5 rfl (.cons 5 rfl (.cons 5 rfl .nil))) (qh 0 rfl (qh 1 rfl (qE 1 rfl (qn qF e38 h24) qf))) ?_
   refine au [99,7,9,19] ?_
   intro g28
   refine au [0] ?_
   refine qc (.cons 6 rfl (.cons 6 rfl (.cons 6 rfl .nil))) (qh 0 rfl (qh 1 rfl (qE 1 rfl (qn qF e38 h24) qf))) ?_
   refine au [147] ?_
   refine qc (.cons 6 rfl (.cons 6 rfl (.cons 6 rfl .nil))) (qh 0 rfl (qh 1 rfl (qE 1 rfl (qn qF e38 h24) qf))) ?_
   refine au [81] ?_
   exact qw hw2 ((),g28)
   refine au [0] ?_
   refine qc (.cons 5 rfl (.cons 5 rfl (.cons 5 rfl .nil))) (qh 0 rfl (qh 1 rfl (qE 1 rfl (qn qF e38 h24) qf))) ?_
   refine au [99,7,9,19] ?_
   intro g29
   refine au [0] ?_
   refine qc (.cons 6 rfl (.cons 6 rfl (.cons 6 rfl .nil))) (qh 0 rfl (qh 1 rfl (qE 1 rfl (qn qF e38 h24) qf))) ?_
   refine au [147] ?_
   refine qc (.cons 6 rfl (.cons 6 rfl (.cons 6 rfl .nil))) (qh 0 rfl (qh 1 rfl (qE 1 rfl (qn qF e38 h24) qf))) ?_
   refine au [81] ?_
   exact qw hw3 ((),g29)
   refine au [0] ?_
   refine qc (.cons 5 rfl (.cons 5 rfl (.cons 5 rfl .nil))) (qh 0 rfl (qh 1 rfl (qE 1 rfl (qn qF e38 h24) qf))) ?_
   refine au [99,7,9,19] ?_
   intro g30
   refine au [0] ?_
   refine qc (.cons 6 rfl (.cons 6 rfl (.cons 6 rfl .nil))) (qh 0 rfl (qh 1 rfl (qE 1 rfl (qn qF e38 h24) qf))) ?_
   refine au [147] ?_
   refine qc (.cons 6 rfl (.cons 6 rfl (.cons 6 rfl .nil))) (qh 0 rfl (qh 1 rfl (qE 1 rfl (qn qF e38 h24) qf))) ?_
   refine au [81] ?_
   exact qw hw4 ((),g30)
   refine au [0] ?_
   refine qc (.cons 5 rfl (.cons 5 rfl (.cons 5 rfl .nil))) (qh 0 rfl (qh 1 rfl (qE 1 rfl (qn qF e38 h24) qf))) ?_
   refine au [99,7,9,19] ?_
   intro g31
   refine au [0] ?_
   refine qc (.cons 6 rfl (.cons 6 rfl (.cons 6 rfl .nil))) (qh 0 rfl (qh 1 rfl (qE 1 rfl (qn qF e38 h24) qf))) ?_
   refine au [147] ?_
   refine qc (.cons 6 rfl (.cons 6 rfl (.cons 6 rfl .nil))) (qh 0 rfl (qh 1 rfl (qE 1 rfl (qn qF e38 h24) qf))) ?_
   refine au [81] ?_
   exact qw hw5 ((),g31)
   refine au [0] ?_
   refine qc (.cons 5 rfl (.cons 5 rfl (.cons 5 rfl .nil))) (qh 0 rfl (qh 1 rfl (qE 1 rfl (qn qF e38 h24) qf))) ?_
   refine au [99,7,9,19] ?_
   intro g32
   refine au [0] ?_
   refine qc (.cons 6 rfl (.cons 6 rfl (.cons 6 rfl .nil))) (qh 0 rfl (qh 1 rfl (qE 1 rfl (qn qF e38 h24) qf))) ?_
   refine au [147] ?_
   refine qc (.cons 6 rfl (.cons 6 rfl (.cons 6 rfl .nil))) (qh 0 rfl (qh 1 rfl (qE 1 rfl (qn qF e38 h24) qf))) ?_
   refine au [81] ?_
   exact qw hw6 ((),g32)
   refine au [0] ?_
   refine qc (.cons 5 rfl (.cons 5 rfl (.cons 5 rfl .nil))) (qh 0 rfl (qh 1 rfl (qE 1 rfl (qn qF e38 h24) qf))) ?_
   refine au [99,7,9,19] ?_
   intro g33
   refine au [0] ?_
   refine qc (.cons 6 rfl (.cons 6 rfl (.cons 6 rfl .nil))) (qh 0 rfl (qh 1 rfl (qE 1 rfl (qn qF e38 h24) qf))) ?_
   refine au [147] ?_
   refine qc (.cons 6 rfl (.cons 6 rfl (.cons 6 rfl .nil))) (qh 0 rfl (qh 1 rfl (qE 1 rfl (qn qF e38 h24) qf))) ?_
   refine au [81] ?_
   exact qw hw7 ((),g33)
   refine au [0] ?_
   refine qc (.cons 5 rfl (.cons 5 rfl (.cons 5 rfl .nil))) (qh 0 rfl (qh 1 rfl (qE 1 rfl (qn qF e38 h24) qf))) ?_
   refine au [99,7,9,19] ?_
   intro g34
   refine au [0] ?_
   refine qc (.cons 6 rfl (.cons 6 rfl (.cons 6 rfl .nil))) (qh 0 rfl (qh 1 rfl (qE 1 rfl (qn qF e38 h24) qf))) ?_
   refine au [147] ?_
   refine qc (.cons 6 rfl (.cons 6 rfl (.cons 6 rfl .nil))) (qh 0 rfl (qh 1 rfl (qE 1 rfl (qn qF e38 h24) qf))) ?_
   refine au [81] ?_
   exact qw hw8 ((),g34,g22,g23)
   refine au [0] ?_
   refine qc (.cons 5 rfl (.cons 5 rfl (.cons 5 rfl .nil))) (qh 0 rfl (qh 1 rfl (qE 1 rfl (qn qF e38 h24) qf))) ?_
   refine au [99,7,9,19] ?_
   intro g35
   refine au [0] ?_
   refine qc (.cons 6 rfl (.cons 6 rfl (.cons 6 rfl .nil))) (qh 0 rfl (qh 1 rfl (qE 1 rfl (qn qF e38 h24) qf))) ?_
   refine au [147] ?_
   refine qc (.cons 6 rfl (.cons 6 rfl (.cons 6 rfl .nil))) (qh 0 rfl (qh 1 rfl (qE 1 rfl (qn qF e38 h24) qf))) ?_
   refine au [81] ?_
   exact qw hw9 ((),g35)
   refine au [0] ?_
   refine qc (.cons 5 rfl (.cons 5 rfl (.cons 5 rfl .nil))) (qh 0 rfl (qh 1 rfl (qE 1 rfl (qn qF e38 h24) qf))) ?_
   refine au [99,7,9,19] ?_
   intro g36
   refine au [0] ?_
   refine qc (.cons 6 rfl (.cons 6 rfl (.cons 6 rfl .nil))) (qh 0 rfl (qh 1 rfl (qE 1 rfl (qn qF e38 h24) qf))) ?_
   refine au [147] ?_
   refine qc (.cons 6 rfl (.cons 6 rfl (.cons 6 rfl .nil))) (qh 0 rfl (qh 1 rfl (qE 1 rfl (qn qF e38 h24) qf))) ?_
   refine au [81] ?_
   exact qw hw10 ((),g36,g24,g25)
   refine au [0] ?_
   refine qc (.cons 5 rfl (.cons 5 rfl (.cons 5 rfl .nil))) (qh 0 rfl (qh 1 rfl (qE 1 rfl (qn qF e38 h24) qf))) ?_
   refine au [99,7,9,19] ?_
   intro g37
   refine au [0] ?_
   refine qc (.cons 6 rfl (.cons 6 rfl (.cons 6 rfl .nil))) (qh 0 rfl (qh 1 rfl (qE 1 rfl (qn qF e38 h24) qf))) ?_
   refine au [147] ?_
   refine qc (.cons 6 rfl (.cons 6 rfl (.cons 6 rfl .nil))) (qh 0 rfl (qh 1 rfl (qE 1 rfl (qn qF e38 h24) qf))) ?_
   refine au [81] ?_
   exact qw hw11 ((),g37)
   refine au [0] ?_
   refine qc (.cons 5 rfl (.cons 5 rfl (.cons 5 rfl .nil))) (qh 0 rfl (qh 1 rfl (qE 1 rfl (qn qF e38 h24) qf))) ?_
   refine au [99,7,9,19] ?_
   intro g38
   refine au [0] ?_
   refine qc (.cons 6 rfl (.cons 6 rfl (.cons 6 rfl .nil))) (qh 0 rfl (qh 1 rfl (qE 1 rfl (qn qF e38 h24) qf))) ?_
   refine au [147] ?_
   refine qc (.cons 6 rfl (.cons 6 rfl (.cons 6 rfl .nil))) (qh 0 rfl (qh 1 rfl (qE 1 rfl (qn qF e38 h24) qf))) ?_
   refine au [81] ?_
   exact qw hw12 ((),g38)
 · as_aux_lemma =>
   refine qC (m':=(if (bstr x50 == bstr ([110,111,100,101,115]:qDU)) then qeq F x10 x14 else (if (bstr x50 == bstr ([97,114,99]:qDU)) then qer F x10 x14 else (if (bstr x50 == bstr ([100,114,111,112]:qDU)) then qes F x10 x14 else (if (bstr x50 == bstr ([104,111,119]:qDU)) then qcf F x10 x14 else (if (bstr x50 == bstr ([98,105,116,115]:qDU)) then qet F x10 x14 else (if (bstr x50 == bstr ([108,105,115,116]:qDU)) then qcg F x10 x14 else (if (bstr x50 == bstr ([102,97,114]:qDU)) then qeu F x10 x14 else (if (bstr x50 == bstr ([119,97,121]:qDU)) then qch F x10 x14 else (if (bstr x50 == bstr ([112,97,114,116]:qDU)) then qci F x10 x14 else (if (bstr x50 == bstr ([111,114,100,101,114]:qDU)) then qcj F x10 x14 else (if (bstr x50 == bstr ([99,111,114,101]:qDU)) then qev F x10 x14 else (if (bstr x50 == bstr ([116,104,114,101,101,115]:qDU)) then qck F x10 x14 else qew F x10))))))))))))) rfl ?_
   refine au [19] ?_
   intro g39
   refine au [0] ?_
   refine qc (.cons 6 rfl (.cons 6 rfl (.cons 6 rfl .nil))) (qh 0 rfl (qh 1 rfl (qE 1 rfl (qn qF e38 h24) qf))) ?_
   refine au [7,5] ?_
   refine qhL (i:=1) (u:=x50) rfl underlying90 underlying9 tf88 rfl rfl rfl rfl (q7 ?_ (q7 ?_ (q7 ?_ (q7 ?_ (q7 ?_ (q7 ?_ (q7 ?_ (q7 ?_ (q7 ?_ (q7 ?_ (q7 ?_ (q7 ?_ (qoa ?_)))))))))))))
   refine au [0] ?_
   refine qc (.cons 6 rfl (.cons 6 rfl (.cons 6 rfl .nil))) (qh 0 rfl (qh 1 rfl (qE 1 rfl (qn qF e38 h24) qf))) ?_
   refine au [99,147] ?_
   refine qc (.cons 6 rfl (.cons 6 rfl (.cons 6 rfl .nil))) (qh 0 rfl (qh 1 rfl (qE 1 rfl (qn qF e38 h24) qf))) ?_
   refine au [81] ?_
   exact qw hw0 ((),g39)
   refine au [0] ?_
   refine qc (.cons 6 rfl (.cons 6 rfl (.cons 6 rfl .nil))) (qh 0 rfl (qh 1 rfl (qE 1 rfl (qn qF e38 h24) qf))) ?_
   refine au [99,147] ?_
   refine qc (.cons 6 rfl (.cons 6 rfl (.cons 6 rfl .nil))) (qh 0 rfl (qh 1 rfl (qE 1 rfl (qn qF e38 h24) qf))) ?_
   refine au [81] ?_
   exact qw hw1 ((),g39)
   refine au [0] ?_
   refine qc (.cons 6 rfl (.cons 6 rfl (.cons 6 rfl .nil))) (qh 0 rfl (qh 1 rfl (qE 1 rfl (qn qF e38 h24) qf))) ?_
   refine au [99,147] ?_
   refine qc (.cons 6 rfl (.cons 6 rfl (.cons 6 rfl .nil))) (qh 0 rfl (qh 1 rfl (qE 1 rfl (qn qF e38 h24) qf))) ?_
   refine au [81] ?_
   exact qw hw2 ((),g39)
   refine au [0] ?_
   refine qc (.cons 6 rfl (.cons 6 rfl (.cons 6 rfl .nil))) (qh 0 rfl (qh 1 rfl (qE 1 rfl (qn qF e38 h24) qf))) ?_
   refine au [99,147] ?_
   refine qc (.cons 6 rfl (.cons 6 rfl (.cons 6 rfl .nil))) (qh 0 rfl (qh 1 rfl (qE 1 rfl (qn qF e38 h24) qf))) ?_
   refine au [81] ?_
   exact qw hw3 ((),g39)
   refine au [0] ?_
   refine qc (.cons 6 rfl (.cons 6 rfl (.cons 6 rfl .nil))) (qh 0 rfl (qh 1 rfl (qE 1 rfl (qn qF e38 h24) qf))) ?_
   refine au [99,147] ?_
   refine qc (.cons 6 rfl (.cons 6 rfl (.cons 6 rfl .nil))) (qh 0 rfl (qh 1 rfl (qE 1 rfl (qn qF e38 h24) qf))) ?_
   refine au [81] ?_
   exact qw hw4 ((),g39)
   refine au [0] ?_
   refine qc (.cons 6 rfl (.cons 6 rfl (.cons 6 rfl .nil))) (qh 0 rfl (qh 1 rfl (qE 1 rfl (qn qF e38 h24) qf))) ?_
   refine au [99,147] ?_
   refine qc (.cons 6 rfl (.cons 6 rfl (.cons 6 rfl .nil))) (qh 0 rfl (qh 1 rfl (qE 1 rfl (qn qF e38 h24) qf))) ?_
   refine au [81] ?_
   exact qw hw5 ((),g39)
   refine au [0] ?_
   refine qc (.cons 6 rfl (.cons 6 rfl (.cons 6 rfl .nil))) (qh 0 rfl (qh 1 rfl (qE 1 rfl (qn qF e38 h24) qf))) ?_
   refine au [99,147] ?_
   refine qc (.cons 6 rfl (.cons 6 rfl (.cons 6 rfl .nil))) (qh 0 rfl (qh 1 rfl (qE 1 rfl (qn qF e38 h24) qf))) ?_
   refine au [81] ?_
   exact qw hw6 ((),g39)
   refine au [0] ?_
   refine qc (.cons 6 rfl (.cons 6 rfl (.cons 6 rfl .nil))) (qh 0 rfl (qh 1 rfl (qE 1 rfl (qn qF e38 h24) qf))) ?_
   refine au [99,147] ?_
   refine qc (.cons 6 rfl (.cons 6 rfl (.cons 6 rfl .nil))) (qh 0 rfl (qh 1 rfl (qE 1 rfl (qn qF e38 h24) qf))) ?_
   refine au [81] ?_
   exact qw hw7 ((),g39)
   refine au [0] ?_
   refine qc (.cons 6 rfl (.cons 6 rfl (.cons 6 rfl .nil))) (qh 0 rfl (qh 1 rfl (qE 1 rfl (qn qF e38 h24) qf))) ?_
   refine au [99,147] ?_
   refine qc (.cons 6 rfl (.cons 6 rfl (.cons 6 rfl .nil))) (qh 0 rfl (qh 1 rfl (qE 1 rfl (qn qF e38 h24) qf))) ?_
   refine au [81] ?_
   exact qw hw8 ((),g39,g22,g23)
   refine au [0] ?_
   refine qc (.cons 6 rfl (.cons 6 rfl (.cons 6 rfl .nil))) (qh 0 rfl (qh 1 rfl (qE 1 rfl (qn qF e38 h24) qf))) ?_
   refine au [99,147] ?_
   refine qc (.cons 6 rfl (.cons 6 rfl (.cons 6 rfl .nil))) (qh 0 rfl (qh 1 rfl (qE 1 rfl (qn qF e38 h24) qf))) ?_
   refine au [81] ?_
   exact qw hw9 ((),g39)
   refine au [0] ?_
   refine qc (.cons 6 rfl (.cons 6 rfl (.cons 6 rfl .nil))) (qh 0 rfl (qh 1 rfl (qE 1 rfl (qn qF e38 h24) qf))) ?_
   refine au [99,147] ?_
   refine qc (.cons 6 rfl (.cons 6 rfl (.cons 6 rfl .nil))) (qh 0 rfl (qh 1 rfl (qE 1 rfl (qn qF e38 h24) qf))) ?_
   refine au [81] ?_
   exact qw hw10 ((),g39,g24,g25)
   refine au [0] ?_
   refine qc (.cons 6 rfl (.cons 6 rfl (.cons 6 rfl .nil))) (qh 0 rfl (qh 1 rfl (qE 1 rfl (qn qF e38 h24) qf))) ?_
   refine au [99,147] ?_
   refine qc (.cons 6 rfl (.cons 6 rfl (.cons 6 rfl .nil))) (qh 0 rfl (qh 1 rfl (qE 1 rfl (qn qF e38 h24) qf))) ?_
   refine au [81] ?_
   exact qw hw11 ((),g39)
   refine au [0] ?_
   refine qc (.cons 6 rfl (.cons 6 rfl (.cons 6 rfl .nil))) (qh 0 rfl (qh 1 rfl (qE 1 rfl (qn qF e38 h24) qf))) ?_
   refine au [99,147] ?_
   refine qc (.cons 6 rfl (.cons 6 rfl (.cons 6 rfl .nil))) (qh 0 rfl (qh 1 rfl (qE 1 rfl (qn qF e38 h24) qf))) ?_
   refine au [81] ?_
   exact qw hw12 ((),g39)
 · as_aux_lemma =>
   refine au [19] ?_
   intro g40
   refine au [0] ?_
   refine qc (.cons 1 rfl (.cons 1 rfl (.cons 1 rfl .nil))) (qh 0 rfl (qh 1 rfl (qE 0 rfl (qn qF e38 h24) qf))) ?_
   refine au [7,1,26,15,38,10] ?_
   rintro x52 e40 ⟨g41,g42,g43,g44,g45⟩
   refine au [0] ?_
   refine qc (.cons 5 rfl (.cons 6 rfl (.cons 6 rfl .nil))) (qh 0 rfl (qh 1 rfl (qE 1 rfl (qn qF e38 h24) qf))) ?_
   refine au [7,5] ?_
   refine qhL (i:=0) (u:=x50) rfl underlying90 underlying9 tf88 rfl rfl rfl rfl (q7 ?_ (q7 ?_ (q7 ?_ (q7 ?_ (q7 ?_ (q7 ?_ (q7 ?_ (q7 ?_ (q7 ?_ (q7 ?_ (q7 ?_ (q7 ?_ (qoa ?_)))))))))))))
   refine au [0] ?_
   refine qc (.cons 5 rfl (.cons 6 rfl (.cons 6 rfl .nil))) (qh 0 rfl (qh 1 rfl (qE 1 rfl (qn qF e38 h24) qf))) ?_
   refine au [99,118,0] ?_
   refine qc (.cons 5 rfl (.cons 6 rfl (.cons 6 rfl .nil))) (qh 0 rfl (qh 1 rfl (qE 1 rfl (qn qF e38 h24) qf))) ?_
   refine au [81] ?_
   exact qw hw0 ((),g40)
   refine au [0] ?_
   refine qc (.cons 5 rfl (.cons 6 rfl (.cons 6 rfl .nil))) (qh 0 rfl (qh 1 rfl (qE 1 rfl (qn qF e38 h24) qf))) ?_
   refine au [99,118,0] ?_
   refine qc (.cons 5 rfl (.cons 6 rfl (.cons 6 rfl .nil))) (qh 0 rfl (qh 1 rfl (qE 1 rfl (qn qF e38 h24) qf))) ?_
   refine au [81] ?_
   exact qw hw1 ((),g40)
   refine au [0] ?_
   refine qc (.cons 5 rfl (.cons 6 rfl (.cons 6 rfl .nil))) (qh 0 rfl (qh 1 rfl (qE 1 rfl (qn qF e38 h24) qf))) ?_
   refine au [99,118,0] ?_
   refine qc (.cons 5 rfl (.cons 6 rfl (.cons 6 rfl .nil))) (qh 0 rfl (qh 1 rfl (qE 1 rfl (qn qF e38 h24) qf))) ?_
   refine au [81] ?_
   exact qw hw2 ((),g40)
   refine au [0] ?_
   refine qc (.cons 5 rfl (.cons 6 rfl (.cons 6 rfl .nil))) (qh 0 rfl (qh 1 rfl (qE 1 rfl (qn qF e38 h24) qf))) ?_
   refine au [99,118,0] ?_
   refine qc (.cons 5 rfl (.cons 6 rfl (.cons 6 rfl .nil))) (qh 0 rfl (qh 1 rfl (qE 1 rfl (qn qF e38 h24) qf))) ?_
   refine au [81] ?_
   exact qw hw3 ((),g40)
   refine au [0] ?_
   refine qc (.cons 5 rfl (.cons 6 rfl (.cons 6 rfl .nil))) (qh 0 rfl (qh 1 rfl (qE 1 rfl (qn qF e38 h24) qf))) ?_
   refine au [99,118,0] ?_
   refine qc (.cons 5 rfl (.cons 6 rfl (.cons 6 rfl .nil))) (qh 0 rfl (qh 1 rfl (qE 1 rfl (qn qF e38 h24) qf))) ?_
   refine au [81] ?_
   exact qw hw4 ((),g40)
   refine au [0] ?_
   refine qc (.cons 5 rfl (.cons 6 rfl (.cons 6 rfl .nil))) (qh 0 rfl (qh 1 rfl (qE 1 rfl (qn qF e38 h24) qf))) ?_
   refine au [99,118,0] ?_
   refine qc (.cons 5 rfl (.cons 6 rfl (.cons 6 rfl .nil))) (qh 0 rfl (qh 1 rfl (qE 1 rfl (qn qF e38 h24) qf))) ?_
   refine au [81] ?_
   exact qw hw5 ((),g40)
   refine au [0] ?_
   refine qc (.cons 5 rfl (.cons 6 rfl (.cons 6 rfl .nil))) (qh 0 rfl (qh 1 rfl (qE 1 rfl (qn qF e38 h24) qf))) ?_
   refine au [99,118,0] ?_
   refine qc (.cons 5 rfl (.cons 6 rfl (.cons 6 rfl .nil))) (qh 0 rfl (qh 1 rfl (qE 1 rfl (qn qF e38 h24) qf))) ?_
   refine au [81] ?_
   exact qw hw6 ((),g40)
   refine au [0] ?_
   refine qc (.cons 5 rfl (.cons 6 rfl (.cons 6 rfl .nil))) (qh 0 rfl (qh 1 rfl (qE 1 rfl (qn qF e38 h24) qf))) ?_
   refine au [99,118,0] ?_
   refine qc (.cons 5 rfl (.cons 6 rfl (.cons 6 rfl .nil))) (qh 0 rfl (qh 1 rfl (qE 1 rfl (qn qF e38 h24) qf))) ?_
   refine au [81] ?_
   exact qw hw7 ((),g40)
   refine au [0] ?_
   refine qc (.cons 5 rfl (.cons 6 rfl (.cons 6 rfl .nil))) (qh 0 rfl (qh 1 rfl (qE 1 rfl (qn qF e38 h24) qf))) ?_
   refine au [99,118,0] ?_
   refine qc (.cons 5 rfl (.cons 6 rfl (.cons 6 rfl .nil))) (qh 0 rfl (qh 1 rfl (qE 1 rfl (qn qF e38 h24) qf))) ?_
   refine au [81] ?_
   exact qw hw8 ((),g40,g42,g43)
   refine au [0] ?_
   refine qc (.cons 5 rfl (.cons 6 rfl (.cons 6 rfl .nil))) (qh 0 rfl (qh 1 rfl (qE 1 rfl (qn qF e38 h24) qf))) ?_
   refine au [99,118,0] ?_
   refine qc (.cons 5 rfl (.cons 6 rfl (.cons 6 rfl .nil))) (qh 0 rfl (qh 1 rfl (qE 1 rfl (qn qF e38 h24) qf))) ?_
   refine au [81] ?_
   exact qw hw9 ((),g40)
   refine au [0] ?_
   refine qc (.cons 5 rfl (.cons 6 rfl (.cons 6 rfl .nil))) (qh 0 rfl (qh 1 rfl (qE 1 rfl (qn qF e38 h24) qf))) ?_
   refine au [99,118,0] ?_
   refine qc (.cons 5 rfl (.cons 6 rfl (.cons 6 rfl .nil))) (qh 0 rfl (qh 1 rfl (qE 1 rfl (qn qF e38 h24) qf))) ?_
   refine au [81] ?_
   exact qw hw10 ((),g40,g44,g45)
   refine au [0] ?_
   refine qc (.cons 5 rfl (.cons 6 rfl (.cons 6 rfl .nil))) (qh 0 rfl (qh 1 rfl (qE 1 rfl (qn qF e38 h24) qf))) ?_
   refine au [99,118,0] ?_
   refine qc (.cons 5 rfl (.cons 6 rfl (.cons 6 rfl .nil))) (qh 0 rfl (qh 1 rfl (qE 1 rfl (qn qF e38 h24) qf))) ?_
   refine au [81] ?_
   exact qw hw11 ((),g40)
   refine au [0] ?_
   refine qc (.cons 5 rfl (.cons 6 rfl (.cons 6 rfl .nil))) (qh 0 rfl (qh 1 rfl (qE 1 rfl (qn qF e38 h24) qf))) ?_
   refine au [99,118,0] ?_
   refine qc (.cons 5 rfl (.cons 6 rfl (.cons 6 rfl .nil))) (qh 0 rfl (qh 1 rfl (qE 1 rfl (qn qF e38 h24) qf))) ?_
   refine au [81] ?_
   exact qw hw12 ((),g40)
theorem qqw {r:(List (qDU)×Int×Int×Int×qDU×Int)}(hm:qkY F p1 i1 i2 i3 m1=some r) :
    Pure qD3 14 [.agg #[qDX l1 p1 t1,qDW i1,qDW i2,qDW i3],.string (bstr m1)] [SlN eN56 iN56 1 (qDX l1 p1 t1) p1 n1,GF] (qDV×Nat×List (qDV×Nat)) (fun g=>.tuple #[.agg #[qDX g.1 r.1 g.2.1,qDW r.2.1,qDW r.2.2.1,qDW r.2.2.2.1],.string (bstr r.2.2.2.2.1),qDW r.2.2.2.2.2]) (fun g=>[RoN eN56 rN56 56 1 (qDX g.1 r.1 g.2.1) r.1 g.2.2 []]) (fun _=>[]):=by
 refine pureA func14 ntmps14 hm fun _=>?_
 refine au [100] ?_
 intro g8
 refine au [19] ?_
 intro g9
 refine au [6,97,26,0,32,15] ?_
 intro x10 e10 _
 refine au [76] ?_
 refine vd EnC.e rfl rfl rfl (fun x11 e11=>qrW m1 ([10]:qDU) x11 e11) .nil (fun x11 e11=>?_)
 rintro ⟨a12,c13⟩
 refine au [51] ?_
 refine qj [2,4,8] [0,1] [0] [0,1] (fun ((x16,_):Int×Unit)=>([(7,qDW x16)],[],[],[],qfZ F p1 i1 i2 i3 x11 x16)) ?_ ?_
 refine au [54,25,11,4] ?_
 refine qai 4 21 25 [2,4,7,8] (decide (100<(x11.length:Int))) ?_ ?_ ?_
 exact az [4,24,10,25,6,71]
 exact az [79,9,70]
 refine aw [0,2,13] ?_ ?_
 refine au [5,6,0] ?_
 exact qa ((2:Int),())
 refine au [16] ?_
 exact qa (x10,())
 rintro ⟨x16,_⟩
 refine aw [39,1,1,5,4,25,8,0,2,13] ?_ ?_
 refine au [48] ?_
 refine qH [.slice none 0 0,qDW 0,qDW 0,qDW 0] ?_
 exact az [4,17,6,75,27,5,38,11]
 refine au [131,26,0,38,7] ?_
 rintro x18 e18 ⟨a19,c20⟩
 refine au [25,10,50,48,19] ?_
 intro g21
 refine au [50] ?_
 refine qj [2,4,9] [1] [] [1] (fun (((x0,x2,x3,x8,x9),g0,a0,c0,a1,c1):(qDU×List (qDU)×Int×Int×Int)×Bool×qDV×Nat×qDV×Nat×List (qDV×Nat))=>([],[⟨g21,48,[(bself g21 g0),qDX a0 x0 c0]⟩,⟨g8,28,[qDX a1 x2 c1.1,qDW x3,qDW x8,qDW x9]⟩],[qD2 a0 x0 c0,RoN eN56 rN56 56 1 (qDX a1 x2 c1.1) x2 c1.2 []],[],qhq F x0 x2 x3 x8 x9)) ?_ ?_
 refine au [114,31,2] ?_
 refine qp [2,4,9,32,33] [1] [2] [1] (fun (((x12,x13,x14,x15,x17,x19),g1,a3,c2,a4,c4):(Int×qDU×List (qDU)×Int×Int×Int)×Bool×qDV×Nat×qDV×Nat×List (qDV×Nat))=>([(34,qDW x12)],[⟨g21,48,[(bself g21 g1),qDX a3 x13 c2]⟩,⟨g8,28,[qDX a4 x14 c4.1,qDW x15,qDW x17,qDW x19]⟩],[qD2 a3 x13 c2,RoN eN56 rN56 56 1 (qDX a4 x14 c4.1) x14 c4.2 []],[])) ((0:Int),([]:qDU),x18.1,x18.2.1,x18.2.2.1,x18.2.2.2) (false,none,0,a19,c20) ?_
 intro k0
 rintro ⟨⟨x12,x13,x14,x15,x17,x19⟩,g1,a3,c2,a4,c4⟩
 refine aw [39,1,5,24,6,0,2,1,13] ?_ ?_
 refine au [69] ?_
 refine qj [2,4,9,32,33,34] [0] [0] [0] (fun (((x20,x21,x22,x23,x24),g2,a5,c5,a6,c6):(qDU×List (qDU)×Int×Int×Int)×Bool×qDV×Nat×qDV×Nat×List (qDV×Nat))=>([],[⟨g21,48,[(bself g21 g2),qDX a5 x20 c5]⟩,⟨g8,28,[qDX a6 x21 c6.1,qDW x22,qDW x23,qDW x24]⟩],[qD2 a5 x20 c5,RoN eN56 rN56 56 1 (qDX a6 x21 c6.1) x21 c6.2 []],[],qfd F (qff F x11 k0) x12 x20 x21 x22 x23 x24)) ?_ ?_
 refine au [128,26,9] ?_
 intro x25 e0 g3 h0
 refine ko (j:=0) (y:=x25) qF rfl rfl tf9 rfl h0 (qu e0).2.2 (fun _=>rfl) rfl rfl ?_
 refine aw [6,0,2,1,1,5,4,33,0,0,2,13] ?_ ?_
 refine au [62,25,2] ?_
 exact qa ((x13,x14,x15,x17,x19),g1,a3,c2,a4,c4)
 refine au [131,26,11,4,38,12] ?_
 rintro x26 e1 ⟨a7,c7⟩
 refine au [4,64,24,1,19] ?_
 intro g4
 refine au [17,6,51] ?_
 refine qj [2,4,9,32,33,34] [1,2] [1,2] [0] (fun (((x27,x28,x29,x30,x31),a8,c8):(qDU×List (qDU)×Int×Int×Int)×qDV×Nat×List (qDV×Nat))=>([(13,.string (bstr x27))],[⟨g8,28,[qDX a8 x28 c8.1,qDW x29,qDW x30,qDW x31]⟩],[RoN eN56 rN56 56 1 (qDX a8 x28 c8.1) x28 c8.2 []],[],qfe F (qff F x11 k0) x12 x13 x27 x28 x29 x30 x31)) ?_ ?_
 refine aw [1,5,4,25,8,0,2,13] ?_ ?_
 refine au [5,4] ?_
 refine vd EnC.e rfl rfl rfl (fun x32 e2=>qfD x26.2.2.2.2.2 x32 e2) (.consF 0 rfl .nil) (fun x32 e2 _=>?_)
 refine au [10] ?_
 intro x33 e3
 refine au [6,0] ?_
 exact qa ((x33,x14,x15,x17,x19),a4,c4)
 refine au [5,25,0,30,6,0] ?_
 exact qa ((x26.2.2.2.2.1,x26.1,x26.2.1,x26.2.2.1,x26.2.2.2.1),a7,c7)
 rintro ⟨⟨x27,x28,x29,x30,x31⟩,a8,c8⟩
 refine au [39,5,4,10] ?_
 intro x34 e4
 refine qcJ EnC.e rfl rfl rfl (fun x35 e5=>qzt g21 g1 x13 a3 c2 x34 x35 e5) (.cons 1 rfl .nil) (.cons 1 rfl .nil) .nil (fun x35 e5=>?_)
 rintro ⟨a9,c9⟩
 refine au [0,24,7] ?_
 exact qa ((x35,x28,x29,x30,x31),true,a9,c9,a8,c8)
 rintro ⟨⟨x20,x21,x22,x23,x24⟩,g2,a5,c5,a6,c6⟩
 refine au [39,145] ?_
 exact qk ((iadd .i64 x12 1,x20,x21,x22,x23,x24),g2,a5,c5,a6,c6)
 refine au [91] ?_
 exact qa ((x13,x14,x15,x17,x19),g1,a3,c2,a4,c4)
 rintro ⟨⟨x0,x2,x3,x8,x9⟩,g0,a0,c0,a1,c1⟩
 refine au [39,1] ?_
 refine qJ [] [2] [0] 5 ?_
 refine qA 0 (.agg #[.slice a1 x2.length c1.1,qDW x3,qDW x8,qDW x9]) rfl rfl rfl (qy (i:=0) rfl tf28 rfl rfl (by simp) rfl) ?_
 refine au [7,1] ?_
 refine qcJ EnC.e rfl rfl rfl (fun x36 e6=>qxp g21 g0 x0 a0 c0 x36 e6) (.cons 1 rfl .nil) (.cons 0 rfl .nil) .nil (fun x36 e6 _=>?_)
 refine au [0,27,2,7,2,17,0,27,2,3,3,3,4,53,2,11] ?_
 exact qgH (a1,c1) 0
set_option maxRecDepth 100000 in
theorem ql2   {r:Bool}(hm:qdQ F =some r) :
    qD4 10 [] [GF] (.bool r):=by
 refine pureA func10 ntmps10 hm fun _=>?_
 refine qwC ?_
 refine au [48,97] ?_
 refine qH [qDW 2,qDW 3,qDW 1] ?_
 refine qH [.slice none 0 0,qDW 2,qDW 3,qDW 1] ?_
 refine qw0 (qDU) (qDV×Nat) eN56 rN56 56 1 (qd qqw ?_)
 rintro x1 e1 ⟨a2,c3⟩
 refine au [4,64,24,1,19] ?_
 intro g4
 refine au [17,6,76,25,11,4] ?_
 refine qai 3 13 16 [1] (bstr x1.2.2.2.2.1 == bstr ([111,107,10,111,107,10,111,107,10,111,107,10,101,114,114,111,114,32,54,10,49,10,50,10,110,111,110,101,10,49,32,50,32,48,10,48,10,110,111,110,101,10,50,10,49,10,111,107,10,48,32,49,32,50,32,51,10,101,114,114,111,114,32,53,10,101,114,114,111,114,32,51,10,101,114,114,111,114,32,49,10,101,114,114,111,114,32,51,10,50,48,10]:qDU)) ?_ ?_ ?_
 exact az [4,33,0,71]
 exact az [79,70]
 refine au [4] ?_
 refine qai 6 17 23 [1] (((x1.1.length:Int):Int) == 4) ?_ ?_ ?_
 exact az [12,57,24,10,25,11,71]
 exact az [88,9,70]
 refine au [4] ?_
 refine qgG 4 (fun ((x9,_):Bool×Unit)=>([(28,.bool x9)],[],[],[GF],qdz F x9)) ?_ ?_
 refine qG (os:=_) rfl ?_
 refine av [26,8] ?_ ?_
 intro h7
 refine kH (k:=24) rfl h7 ?_
 refine au [25,0,32,15] ?_
 intro x10 e10 _
 refine au [25,11,112] ?_
 exact qa (((x10:Int) == 0),())
 intro h7
 refine kG (k:=24) rfl h7 ?_
 refine au [79,9,111] ?_
 exact qa (false,())
 rintro ⟨x9,_⟩
 try dsimp only
 refine qG (os:=_) rfl ?_
 exact az [90]
theorem qto {r:(List (qDU)×Int×Int×Int×qDU×Int)}(hm:j1 F p1 i1 i2 i3 m1=some r) :
    Pure qD3 11 [.agg #[qDX l1 p1 t1,qDW i1,qDW i2,qDW i3],.string (bstr m1)] [SlN eN56 iN56 1 (qDX l1 p1 t1) p1 n1,GF] (qDV×Nat×List (qDV×Nat)) (fun g=>.tuple #[.agg #[qDX g.1 r.1 g.2.1,qDW r.2.1,qDW r.2.2.1,qDW r.2.2.2.1],.string (bstr r.2.2.2.2.1),qDW r.2.2.2.2.2]) (fun g=>[RoN eN56 rN56 56 1 (qDX g.1 r.1 g.2.1) r.1 g.2.2 []]) (fun _=>[]):=by
 refine pureA func11 ntmps11 hm fun _=>?_
 refine au [100] ?_
 intro g8
 refine au [19] ?_
 intro g9
 refine au [6,129,48,26,0,32,15] ?_
 intro x12 e12 _
 refine aw [6,0,2,1,5,4,25,8,0,2,13] ?_ ?_
 refine au [48] ?_
 refine qH [.slice none 0 0,qDW 0,qDW 0,qDW 0] ?_
 exact az [4,17,6,75,27,5,38,11]
 refine au [131,26,0,4,38,12] ?_
 rintro x13 e13 ⟨a14,c15⟩
 refine au [64,24,1,17,6,52] ?_
 exact qgH (a14,c15) 0
theorem qoT (hm:vy F i1=some m1) :
    qD4 12 [qDW i1] [] (.string (bstr m1)):=by
 refine pureA func12 ntmps12 hm fun _=>?_
 refine au [80,97,51,20] ?_
 refine vE (fun (((x6,x7),_):(Int×qDU)×Unit)=>[(0,qDW x6),(3,.string (bstr x7))]) (fun (((x6,x7),_):(Int×qDU)×Unit)=>[]) (fun (((x6,x7),_):(Int×qDU)×Unit)=>[]) (fun (((x6,x7),_):(Int×qDU)×Unit)=>[]) (fun k (s:(Int×qDU)×Unit)=>jT F k s.1) ((i1,([]:qDU)),()) F ?_
 intro k12
 rintro ⟨⟨x6,x7⟩,_⟩
 try dsimp only
 refine qaM (m':=vF F (jT F k12) x6 x7) rfl ?_
 refine au [122,31,13,24,2,25,15] ?_
 refine zB [iconv .u8 (iadd .i64 48 (irem x6 10))] (fun a13 c14=>?_)
 refine au [32,8] ?_
 refine quc (j:=0) rfl UnF.u UnF.u UnF.u rfl rfl rfl ?_
 refine au [4,10] ?_
 intro x15 e15
 refine aw [6,0,2,1,5,4,31,0,6,0,2,1,5,4,25,11,0,2,13] ?_ ?_
 exact az [54,52,60,24,9,24,8]
 refine au [16,24,7] ?_
 exact qk ((iquo .i64 x6 10,x15),())
end Go.Proofs.YthibchijlpflmaaGreatDoor
