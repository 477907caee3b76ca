/- Each Go function of this seat computes what its model says, part 7. -/
import Derived.Test.YtmhggdbfbmkpeaaGreatWalks6
open Bool renaming false_and→qxW, true_and→qx3
namespace Go.Proofs.YtmhggdbfbmkpeaaGreat
open Go SX
set_option maxHeartbeats 4000000 in
theorem qj6 (F:Nat)(x1:List (qAq))(a2:qAr)(c3:(Nat×List (qAr×Nat)))(x4:Int)(x5:Int)(x6:Int)(x7:Int)(x8:Int)(x9:Int)(x10:Int)(x11:Int)(x12:qAq)(a13:qAr)(c14:Nat)(x15:Int)(x16:Int)(x17:Int)(x18:Int)(x19:qAq)(a20:qAr)(c21:Nat)(x22:Int)(x23:qAq)(a24:qAr)(c25:Nat)(x26:Int)(x27:Int)(r:Bool)(hm:qfg F x1 x4 x5 x6 x7 x8 x9 x10 x11 x12 x15 x16 x17 x18 x19 x22 x23 x26 x27=some r) :
    Pure Tryz.prog 3 [.agg #[.slice a2 x1.length c3.1],.agg #[qAs x4,qAs x5,qAs x6],.agg #[qAs x7,qAs x8,qAs x9,qAs x10,qAs x11,.slice a13 x12.length c14,qAs x15,qAs x16,qAs x17,qAs x18,.slice a20 x19.length c21,qAs x22,.slice a24 x23.length c25],qAs x26,qAs x27] [SlN eN39 iN39 1 (.slice a2 x1.length c3.1) x1 c3.2,Sl (eI .u8) 1 (.slice a13 x12.length c14) x12,Sl (eI .u8) 1 (.slice a20 x19.length c21) x19,Sl (eI .u8) 1 (.slice a24 x23.length c25) x23] Unit (fun _=>.bool r) (fun _=>[]) (fun _=>[]):=by
 refine qi Tryz.func3 rfl Tryz.ntmps3 rfl hm (fun w=>?_)
 refine au [27,13,58] ?_
 intro g28
 refine au [24,3] ?_
 intro g29
 refine au [24,3] ?_
 intro g30
 refine au [46,47,26,1,25,5,36,10] ?_
 rintro x31 e31 ⟨⟨a32,c33⟩,⟨a34,c35⟩,⟨a36,c37⟩⟩
 refine au [111] ?_
 intro g38
 refine au [101,107,1,29,9] ?_
 rintro x39 e39 ⟨a40,c41⟩
 refine au [129,5,67,107,91,31,11] ?_
 intro x42 e42 _
 refine au [79,67,47,29,2,26,1,36,7] ?_
 rintro x43 e43 ⟨⟨a44,c45⟩,⟨a46,c47⟩,⟨a48,c49⟩⟩
 refine au [111] ?_
 intro g50
 refine au [101,47,26,1] ?_
 refine qf qlv ?_
 rintro x51 e51 ⟨⟨a52,c53⟩,⟨a54,c55⟩⟩
 refine au [129,25,0] ?_
 intro g56
 refine au [24,10,67,48,5,67,53] ?_
 refine qd (fun ((x62,_):(Int×Unit))=>([(3,qAs x26),(4,qAs x27),(7,.pointer (some ⟨g30,0,none⟩)),(11,.pointer (some ⟨g38,0,none⟩)),(12,qAs x31.2.2.2.2.2.2.2.2.2.2.2.2.2),(13,.slice a40 x39.1.length c41),(14,qAs x39.2.1),(15,qAs x39.2.2),(16,.bool x42.1),(17,qAs x42.2),(18,.pointer (some ⟨g50,0,none⟩)),(19,qAs x43.2.2.2.2.2.2.2.2.2.2.2.2.2),(20,.pointer (some ⟨g56,0,none⟩)),(21,.slice a54 x51.2.1.length c55),(22,qAs x51.2.2),(23,qAs x62),(24,qAs 0),(25,.bool false),(26,.slice none 0 0)],[⟨g56,24,[.slice a52 x51.1.length c53.1]⟩,⟨g50,35,[qAs x43.1,qAs x43.2.1,qAs x43.2.2.1,qAs x43.2.2.2.1,qAs x43.2.2.2.2.1,.slice a44 x43.2.2.2.2.2.1.length c45,qAs x43.2.2.2.2.2.2.1,qAs x43.2.2.2.2.2.2.2.1,qAs x43.2.2.2.2.2.2.2.2.1,qAs x43.2.2.2.2.2.2.2.2.2.1,.slice a46 x43.2.2.2.2.2.2.2.2.2.2.1.length c47,qAs x43.2.2.2.2.2.2.2.2.2.2.2.1,.slice a48 x43.2.2.2.2.2.2.2.2.2.2.2.2.1.length c49]⟩,⟨g38,35,[qAs x31.1,qAs x31.2.1,qAs x31.2.2.1,qAs x31.2.2.2.1,qAs x31.2.2.2.2.1,.slice a32 x31.2.2.2.2.2.1.length c33,qAs x31.2.2.2.2.2.2.1,qAs x31.2.2.2.2.2.2.2.1,qAs x31.2.2.2.2.2.2.2.2.1,qAs x31.2.2.2.2.2.2.2.2.2.1,.slice a34 x31.2.2.2.2.2.2.2.2.2.2.1.length c35,qAs x31.2.2.2.2.2.2.2.2.2.2.2.1,.slice a36 x31.2.2.2.2.2.2.2.2.2.2.2.2.1.length c37]⟩,⟨g30,35,[qAs x7,qAs x8,qAs x9,qAs x10,qAs x11,.slice a13 x12.length c14,qAs x15,qAs x16,qAs x17,qAs x18,.slice a20 x19.length c21,qAs x22,.slice a24 x23.length c25]⟩],[Ro (eI .i64) 3 1 (.slice a40 x39.1.length c41) x39.1,Ro (eI .i64) 3 1 (.slice a54 x51.2.1.length c55) x51.2.1,Ro (eI .u8) 5 1 (.slice a44 x43.2.2.2.2.2.1.length c45) x43.2.2.2.2.2.1,Ro (eI .u8) 5 1 (.slice a46 x43.2.2.2.2.2.2.2.2.2.2.1.length c47) x43.2.2.2.2.2.2.2.2.2.2.1,Ro (eI .u8) 5 1 (.slice a48 x43.2.2.2.2.2.2.2.2.2.2.2.2.1.length c49) x43.2.2.2.2.2.2.2.2.2.2.2.2.1,Ro (eI .u8) 5 1 (.slice a32 x31.2.2.2.2.2.1.length c33) x31.2.2.2.2.2.1,Ro (eI .u8) 5 1 (.slice a34 x31.2.2.2.2.2.2.2.2.2.2.1.length c35) x31.2.2.2.2.2.2.2.2.2.2.1,Ro (eI .u8) 5 1 (.slice a36 x31.2.2.2.2.2.2.2.2.2.2.2.2.1.length c37) x31.2.2.2.2.2.2.2.2.2.2.2.2.1],[SlN eN39 iN39 1 (.slice a52 x51.1.length c53.1) x51.1 c53.2,Sl (eI .u8) 1 (.slice a13 x12.length c14) x12,Sl (eI .u8) 1 (.slice a20 x19.length c21) x19,Sl (eI .u8) 1 (.slice a24 x23.length c25) x23],yB F x7 x8 x9 x10 x11 x12 x15 x16 x17 x18 x19 x22 x23 x26 x27 x31 x39 x42 x43 x51 x62)) ?_ ?_
 refine au [48,106] ?_
 refine qD 10 (fun ((x0,_):(Bool×Unit))=>([(3,qAs x26),(4,qAs x27),(7,.pointer (some ⟨g30,0,none⟩)),(11,.pointer (some ⟨g38,0,none⟩)),(12,qAs x31.2.2.2.2.2.2.2.2.2.2.2.2.2),(13,.slice a40 x39.1.length c41),(14,qAs x39.2.1),(15,qAs x39.2.2),(16,.bool x42.1),(17,qAs x42.2),(18,.pointer (some ⟨g50,0,none⟩)),(19,qAs x43.2.2.2.2.2.2.2.2.2.2.2.2.2),(20,.pointer (some ⟨g56,0,none⟩)),(21,.slice a54 x51.2.1.length c55),(22,qAs x51.2.2),(23,qAs x51.2.2),(24,qAs 0),(25,.bool false),(26,.slice none 0 0),(74,.bool x0)],[⟨g56,24,[.slice a52 x51.1.length c53.1]⟩,⟨g50,35,[qAs x43.1,qAs x43.2.1,qAs x43.2.2.1,qAs x43.2.2.2.1,qAs x43.2.2.2.2.1,.slice a44 x43.2.2.2.2.2.1.length c45,qAs x43.2.2.2.2.2.2.1,qAs x43.2.2.2.2.2.2.2.1,qAs x43.2.2.2.2.2.2.2.2.1,qAs x43.2.2.2.2.2.2.2.2.2.1,.slice a46 x43.2.2.2.2.2.2.2.2.2.2.1.length c47,qAs x43.2.2.2.2.2.2.2.2.2.2.2.1,.slice a48 x43.2.2.2.2.2.2.2.2.2.2.2.2.1.length c49]⟩,⟨g38,35,[qAs x31.1,qAs x31.2.1,qAs x31.2.2.1,qAs x31.2.2.2.1,qAs x31.2.2.2.2.1,.slice a32 x31.2.2.2.2.2.1.length c33,qAs x31.2.2.2.2.2.2.1,qAs x31.2.2.2.2.2.2.2.1,qAs x31.2.2.2.2.2.2.2.2.1,qAs x31.2.2.2.2.2.2.2.2.2.1,.slice a34 x31.2.2.2.2.2.2.2.2.2.2.1.length c35,qAs x31.2.2.2.2.2.2.2.2.2.2.2.1,.slice a36 x31.2.2.2.2.2.2.2.2.2.2.2.2.1.length c37]⟩,⟨g30,35,[qAs x7,qAs x8,qAs x9,qAs x10,qAs x11,.slice a13 x12.length c14,qAs x15,qAs x16,qAs x17,qAs x18,.slice a20 x19.length c21,qAs x22,.slice a24 x23.length c25]⟩],[Ro (eI .i64) 3 1 (.slice a40 x39.1.length c41) x39.1,Ro (eI .i64) 3 1 (.slice a54 x51.2.1.length c55) x51.2.1,RoN eN39 rN39 39 1 (.slice a52 x51.1.length c53.1) x51.1 c53.2 [],Ro (eI .u8) 5 1 (.slice a44 x43.2.2.2.2.2.1.length c45) x43.2.2.2.2.2.1,Ro (eI .u8) 5 1 (.slice a46 x43.2.2.2.2.2.2.2.2.2.2.1.length c47) x43.2.2.2.2.2.2.2.2.2.2.1,Ro (eI .u8) 5 1 (.slice a48 x43.2.2.2.2.2.2.2.2.2.2.2.2.1.length c49) x43.2.2.2.2.2.2.2.2.2.2.2.2.1,Ro (eI .u8) 5 1 (.slice a32 x31.2.2.2.2.2.1.length c33) x31.2.2.2.2.2.1,Ro (eI .u8) 5 1 (.slice a34 x31.2.2.2.2.2.2.2.2.2.2.1.length c35) x31.2.2.2.2.2.2.2.2.2.2.1,Ro (eI .u8) 5 1 (.slice a36 x31.2.2.2.2.2.2.2.2.2.2.2.2.1.length c37) x31.2.2.2.2.2.2.2.2.2.2.2.2.1],[Sl (eI .u8) 1 (.slice a13 x12.length c14) x12,Sl (eI .u8) 1 (.slice a20 x19.length c21) x19,Sl (eI .u8) 1 (.slice a24 x23.length c25) x23],yh F x7 x8 x9 x10 x11 x12 x15 x16 x17 x18 x19 x22 x23 x26 x27 x31 x39 x42 x43 x51 x0)) ?_ ?_
 refine qb (os:=_) rfl ?_
 refine av [25,7] ?_ ?_
 intro h0
 refine qk (k:=64) rfl h0 ?_
 refine au [1,23,1] ?_
 refine qq 6 (decide (x26<0)) [(3,qAs x26),(4,qAs x27),(7,.pointer (some ⟨g30,0,none⟩)),(11,.pointer (some ⟨g38,0,none⟩)),(12,qAs x31.2.2.2.2.2.2.2.2.2.2.2.2.2),(13,.slice a40 x39.1.length c41),(14,qAs x39.2.1),(15,qAs x39.2.2),(16,.bool x42.1),(17,qAs x42.2),(18,.pointer (some ⟨g50,0,none⟩)),(19,qAs x43.2.2.2.2.2.2.2.2.2.2.2.2.2),(20,.pointer (some ⟨g56,0,none⟩)),(21,.slice a54 x51.2.1.length c55),(22,qAs x51.2.2),(23,qAs x51.2.2),(24,qAs 0),(25,.bool false),(26,.slice none 0 0),(64,.bool true),(73,.bool ((decide (x26<0)) || (decide ((x51.1.length:Int)≤x26))))] (fun h1=>?_) (fun h1=>?_) ?_
 refine qb (os:=_) rfl (qk (k:=67) rfl h1 ?_)
 refine au [61,113] ?_
 refine qc (d:=73) (v:=.bool ((decide (x26<0)) || (decide ((x51.1.length:Int)≤x26)))) rfl (by rw[h1];simp only[Bool.true_or]) ?_
 exact az [62]
 refine qb (os:=_) rfl (qj (k:=67) rfl h1 ?_)
 refine au [1,57,21,26,3,24,2] ?_
 refine qc (d:=73) (v:=.bool ((decide (x26<0)) || (decide ((x51.1.length:Int)≤x26)))) rfl (by rw[h1];simp only[Bool.false_or]) ?_
 exact az [62]
 refine qb (os:=_) rfl ?_
 refine au [74] ?_
 exact qa (((decide (x26<0)) || (decide ((x51.1.length:Int)≤x26))),())
 intro h0
 refine qj (k:=64) rfl h0 ?_
 refine au [61,61,6,76] ?_
 exact qa (false,())
 rintro ⟨x0,_⟩
 try dsimp only
 refine qb (os:=_) rfl ?_
 refine au [45] ?_
 refine qpw 2 rfl qvL ?_
 refine av [8] ?_ ?_
 intro _
 refine au [4,5,0] ?_
 exact qa ((3:Int),())
 intro _
 refine au [9] ?_
 exact qa (x51.2.2,())
 rintro ⟨x62,_⟩
 try dsimp only
 refine au [48,46] ?_
 refine qd (fun (((x2,x3,x13,x14),(a0,c0)):((Int×Bool×qAq×Int)×(qAr×Nat)))=>([(7,.pointer (some ⟨g30,0,none⟩)),(11,.pointer (some ⟨g38,0,none⟩)),(12,qAs x31.2.2.2.2.2.2.2.2.2.2.2.2.2),(13,.slice a40 x39.1.length c41),(14,qAs x39.2.1),(15,qAs x39.2.2),(16,.bool x42.1),(17,qAs x42.2),(18,.pointer (some ⟨g50,0,none⟩)),(19,qAs x43.2.2.2.2.2.2.2.2.2.2.2.2.2),(22,qAs x51.2.2),(23,qAs x62),(24,qAs x2),(25,.bool x3),(26,.slice a0 x13.length c0),(27,qAs x14)],[⟨g50,35,[qAs x43.1,qAs x43.2.1,qAs x43.2.2.1,qAs x43.2.2.2.1,qAs x43.2.2.2.2.1,.slice a44 x43.2.2.2.2.2.1.length c45,qAs x43.2.2.2.2.2.2.1,qAs x43.2.2.2.2.2.2.2.1,qAs x43.2.2.2.2.2.2.2.2.1,qAs x43.2.2.2.2.2.2.2.2.2.1,.slice a46 x43.2.2.2.2.2.2.2.2.2.2.1.length c47,qAs x43.2.2.2.2.2.2.2.2.2.2.2.1,.slice a48 x43.2.2.2.2.2.2.2.2.2.2.2.2.1.length c49]⟩,⟨g38,35,[qAs x31.1,qAs x31.2.1,qAs x31.2.2.1,qAs x31.2.2.2.1,qAs x31.2.2.2.2.1,.slice a32 x31.2.2.2.2.2.1.length c33,qAs x31.2.2.2.2.2.2.1,qAs x31.2.2.2.2.2.2.2.1,qAs x31.2.2.2.2.2.2.2.2.1,qAs x31.2.2.2.2.2.2.2.2.2.1,.slice a34 x31.2.2.2.2.2.2.2.2.2.2.1.length c35,qAs x31.2.2.2.2.2.2.2.2.2.2.2.1,.slice a36 x31.2.2.2.2.2.2.2.2.2.2.2.2.1.length c37]⟩,⟨g30,35,[qAs x7,qAs x8,qAs x9,qAs x10,qAs x11,.slice a13 x12.length c14,qAs x15,qAs x16,qAs x17,qAs x18,.slice a20 x19.length c21,qAs x22,.slice a24 x23.length c25]⟩],[Ro (eI .i64) 3 1 (.slice a40 x39.1.length c41) x39.1,Ro (eI .u8) 5 1 (.slice a44 x43.2.2.2.2.2.1.length c45) x43.2.2.2.2.2.1,Ro (eI .u8) 5 1 (.slice a46 x43.2.2.2.2.2.2.2.2.2.2.1.length c47) x43.2.2.2.2.2.2.2.2.2.2.1,Ro (eI .u8) 5 1 (.slice a48 x43.2.2.2.2.2.2.2.2.2.2.2.2.1.length c49) x43.2.2.2.2.2.2.2.2.2.2.2.2.1,Ro (eI .u8) 5 1 (.slice a32 x31.2.2.2.2.2.1.length c33) x31.2.2.2.2.2.1,Ro (eI .u8) 5 1 (.slice a34 x31.2.2.2.2.2.2.2.2.2.2.1.length c35) x31.2.2.2.2.2.2.2.2.2.2.1,Ro (eI .u8) 5 1 (.slice a36 x31.2.2.2.2.2.2.2.2.2.2.2.2.1.length c37) x31.2.2.2.2.2.2.2.2.2.2.2.2.1],[Sl (eI .i64) 1 (.slice a0 x13.length c0) x13,Sl (eI .u8) 1 (.slice a13 x12.length c14) x12,Sl (eI .u8) 1 (.slice a20 x19.length c21) x19,Sl (eI .u8) 1 (.slice a24 x23.length c25) x23],yC F x7 x8 x9 x10 x11 x12 x15 x16 x17 x18 x19 x22 x23 x31 x39 x42 x43 x51 x62 x2 x3 x13 x14)) ?_ ?_
 refine av [48,68] ?_ ?_
 intro _
 refine au [94,1,27,0] ?_
 intro x20 e0 g0 b0 o0
 refine au [25,3,46] ?_
 refine qd (fun ((x21,_):(Int×Unit))=>([(3,qAs x26),(4,qAs x27),(7,.pointer (some ⟨g30,0,none⟩)),(11,.pointer (some ⟨g38,0,none⟩)),(12,qAs x31.2.2.2.2.2.2.2.2.2.2.2.2.2),(13,.slice a40 x39.1.length c41),(14,qAs x39.2.1),(15,qAs x39.2.2),(16,.bool x42.1),(17,qAs x42.2),(18,.pointer (some ⟨g50,0,none⟩)),(19,qAs x43.2.2.2.2.2.2.2.2.2.2.2.2.2),(20,.pointer (some ⟨g56,0,none⟩)),(22,qAs x51.2.2),(23,qAs x62),(24,qAs x21),(25,.bool false),(26,.slice g0.1 x20.length g0.2)],[⟨g56,24,[.slice a52 x51.1.length c53.1]⟩,⟨g50,35,[qAs x43.1,qAs x43.2.1,qAs x43.2.2.1,qAs x43.2.2.2.1,qAs x43.2.2.2.2.1,.slice a44 x43.2.2.2.2.2.1.length c45,qAs x43.2.2.2.2.2.2.1,qAs x43.2.2.2.2.2.2.2.1,qAs x43.2.2.2.2.2.2.2.2.1,qAs x43.2.2.2.2.2.2.2.2.2.1,.slice a46 x43.2.2.2.2.2.2.2.2.2.2.1.length c47,qAs x43.2.2.2.2.2.2.2.2.2.2.2.1,.slice a48 x43.2.2.2.2.2.2.2.2.2.2.2.2.1.length c49]⟩,⟨g38,35,[qAs x31.1,qAs x31.2.1,qAs x31.2.2.1,qAs x31.2.2.2.1,qAs x31.2.2.2.2.1,.slice a32 x31.2.2.2.2.2.1.length c33,qAs x31.2.2.2.2.2.2.1,qAs x31.2.2.2.2.2.2.2.1,qAs x31.2.2.2.2.2.2.2.2.1,qAs x31.2.2.2.2.2.2.2.2.2.1,.slice a34 x31.2.2.2.2.2.2.2.2.2.2.1.length c35,qAs x31.2.2.2.2.2.2.2.2.2.2.2.1,.slice a36 x31.2.2.2.2.2.2.2.2.2.2.2.2.1.length c37]⟩,⟨g30,35,[qAs x7,qAs x8,qAs x9,qAs x10,qAs x11,.slice a13 x12.length c14,qAs x15,qAs x16,qAs x17,qAs x18,.slice a20 x19.length c21,qAs x22,.slice a24 x23.length c25]⟩],[Ro (eI .i64) 3 1 (.slice a40 x39.1.length c41) x39.1,Ro (eI .u8) 5 1 (.slice a44 x43.2.2.2.2.2.1.length c45) x43.2.2.2.2.2.1,Ro (eI .u8) 5 1 (.slice a46 x43.2.2.2.2.2.2.2.2.2.2.1.length c47) x43.2.2.2.2.2.2.2.2.2.2.1,Ro (eI .u8) 5 1 (.slice a48 x43.2.2.2.2.2.2.2.2.2.2.2.2.1.length c49) x43.2.2.2.2.2.2.2.2.2.2.2.2.1,Ro (eI .u8) 5 1 (.slice a32 x31.2.2.2.2.2.1.length c33) x31.2.2.2.2.2.1,Ro (eI .u8) 5 1 (.slice a34 x31.2.2.2.2.2.2.2.2.2.2.1.length c35) x31.2.2.2.2.2.2.2.2.2.2.1,Ro (eI .u8) 5 1 (.slice a36 x31.2.2.2.2.2.2.2.2.2.2.2.2.1.length c37) x31.2.2.2.2.2.2.2.2.2.2.2.2.1],[Sl (eI .i64) 1 (.slice g0.1 x20.length g0.2) x20,SlN eN39 iN39 1 (.slice a52 x51.1.length c53.1) x51.1 c53.2,Sl (eI .u8) 1 (.slice a13 x12.length c14) x12,Sl (eI .u8) 1 (.slice a20 x19.length c21) x19,Sl (eI .u8) 1 (.slice a24 x23.length c25) x23],qao F x7 x8 x9 x10 x11 x12 x15 x16 x17 x18 x19 x22 x23 x26 x27 x31 x39 x42 x43 x51 x62 x20 x21)) ?_ ?_
 refine au [48,46,14] ?_
 refine ql (fun (((x24,x25),_):((Int×Int)×Unit))=>([(3,qAs x26),(4,qAs x27),(7,.pointer (some ⟨g30,0,none⟩)),(11,.pointer (some ⟨g38,0,none⟩)),(12,qAs x31.2.2.2.2.2.2.2.2.2.2.2.2.2),(13,.slice a40 x39.1.length c41),(14,qAs x39.2.1),(15,qAs x39.2.2),(16,.bool x42.1),(17,qAs x42.2),(18,.pointer (some ⟨g50,0,none⟩)),(19,qAs x43.2.2.2.2.2.2.2.2.2.2.2.2.2),(20,.pointer (some ⟨g56,0,none⟩)),(21,.slice a54 x51.2.1.length c55),(22,qAs x51.2.2),(23,qAs x62),(24,qAs x24),(25,.bool false),(26,.slice g0.1 x20.length g0.2),(28,qAs x25)],[⟨g56,24,[.slice a52 x51.1.length c53.1]⟩,⟨g50,35,[qAs x43.1,qAs x43.2.1,qAs x43.2.2.1,qAs x43.2.2.2.1,qAs x43.2.2.2.2.1,.slice a44 x43.2.2.2.2.2.1.length c45,qAs x43.2.2.2.2.2.2.1,qAs x43.2.2.2.2.2.2.2.1,qAs x43.2.2.2.2.2.2.2.2.1,qAs x43.2.2.2.2.2.2.2.2.2.1,.slice a46 x43.2.2.2.2.2.2.2.2.2.2.1.length c47,qAs x43.2.2.2.2.2.2.2.2.2.2.2.1,.slice a48 x43.2.2.2.2.2.2.2.2.2.2.2.2.1.length c49]⟩,⟨g38,35,[qAs x31.1,qAs x31.2.1,qAs x31.2.2.1,qAs x31.2.2.2.1,qAs x31.2.2.2.2.1,.slice a32 x31.2.2.2.2.2.1.length c33,qAs x31.2.2.2.2.2.2.1,qAs x31.2.2.2.2.2.2.2.1,qAs x31.2.2.2.2.2.2.2.2.1,qAs x31.2.2.2.2.2.2.2.2.2.1,.slice a34 x31.2.2.2.2.2.2.2.2.2.2.1.length c35,qAs x31.2.2.2.2.2.2.2.2.2.2.2.1,.slice a36 x31.2.2.2.2.2.2.2.2.2.2.2.2.1.length c37]⟩,⟨g30,35,[qAs x7,qAs x8,qAs x9,qAs x10,qAs x11,.slice a13 x12.length c14,qAs x15,qAs x16,qAs x17,qAs x18,.slice a20 x19.length c21,qAs x22,.slice a24 x23.length c25]⟩],[Ro (eI .i64) 3 1 (.slice a40 x39.1.length c41) x39.1,Ro (eI .i64) 3 1 (.slice a54 x51.2.1.length c55) x51.2.1,Ro (eI .u8) 5 1 (.slice a44 x43.2.2.2.2.2.1.length c45) x43.2.2.2.2.2.1,Ro (eI .u8) 5 1 (.slice a46 x43.2.2.2.2.2.2.2.2.2.2.1.length c47) x43.2.2.2.2.2.2.2.2.2.2.1,Ro (eI .u8) 5 1 (.slice a48 x43.2.2.2.2.2.2.2.2.2.2.2.2.1.length c49) x43.2.2.2.2.2.2.2.2.2.2.2.2.1,Ro (eI .u8) 5 1 (.slice a32 x31.2.2.2.2.2.1.length c33) x31.2.2.2.2.2.1,Ro (eI .u8) 5 1 (.slice a34 x31.2.2.2.2.2.2.2.2.2.2.1.length c35) x31.2.2.2.2.2.2.2.2.2.2.1,Ro (eI .u8) 5 1 (.slice a36 x31.2.2.2.2.2.2.2.2.2.2.2.2.1.length c37) x31.2.2.2.2.2.2.2.2.2.2.2.2.1],[Sl (eI .i64) 1 (.slice g0.1 x20.length g0.2) x20,SlN eN39 iN39 1 (.slice a52 x51.1.length c53.1) x51.1 c53.2,Sl (eI .u8) 1 (.slice a13 x12.length c14) x12,Sl (eI .u8) 1 (.slice a20 x19.length c21) x19,Sl (eI .u8) 1 (.slice a24 x23.length c25) x23])) (fun k (s:((Int×Int)×Unit))=>yi F x7 x8 x9 x10 x11 x12 x15 x16 x17 x18 x19 x22 x23 x26 x27 x31 x39 x42 x43 x51 x62 x20 k s.1) ((0,x26),()) F ?_
 intro k0
 rintro ⟨⟨x24,x25⟩,_⟩
 try dsimp only
 refine qp (m':=qan F x7 x8 x9 x10 x11 x12 x15 x16 x17 x18 x19 x22 x23 x26 x27 x31 x39 x42 x43 x51 x62 x20 (yi F x7 x8 x9 x10 x11 x12 x15 x16 x17 x18 x19 x22 x23 x26 x27 x31 x39 x42 x43 x51 x62 x20 k0) x24 x25) rfl ?_
 refine au [3,14,48,16,46,60,36,11] ?_
 intro x28 e1 g1 h2
 refine qhN (j:=1) (y:=x28) (qs .i64) rfl rfl tf3 rfl h2 (qQ e1).2.2 (fun _=>rfl) rfl rfl ?_
 refine av [68] ?_ ?_
 intro _
 refine au [24,5] ?_
 refine qu0 rfl ?_
 refine au [17,52] ?_
 exact qa (iadd .i64 x24 1,())
 intro _
 refine au [9,22,2,99,1,36,11] ?_
 intro x29 e2 g2 h3
 refine qhN (j:=1) (y:=x29) (qs .i64) rfl rfl tf3 rfl h3 (qQ e2).2.2 (fun _=>rfl) rfl rfl ?_
 refine au [24,13,5,0] ?_
 exact qg ((iadd .i64 x24 1,isub .i64 x25 x29),())
 rintro ⟨x21,_⟩
 try dsimp only
 refine au [53,48,26,3,1] ?_
 refine qq 6 (decide (0≤x27)) [(3,qAs x26),(4,qAs x27),(7,.pointer (some ⟨g30,0,none⟩)),(11,.pointer (some ⟨g38,0,none⟩)),(12,qAs x31.2.2.2.2.2.2.2.2.2.2.2.2.2),(13,.slice a40 x39.1.length c41),(14,qAs x39.2.1),(15,qAs x39.2.2),(16,.bool x42.1),(17,qAs x42.2),(18,.pointer (some ⟨g50,0,none⟩)),(19,qAs x43.2.2.2.2.2.2.2.2.2.2.2.2.2),(20,.pointer (some ⟨g56,0,none⟩)),(22,qAs x51.2.2),(23,qAs x62),(24,qAs x21),(25,.bool false),(26,.slice g0.1 x20.length g0.2),(27,qAs 3),(105,.bool ((decide (0≤x27)) && (decide (x27<(x51.1.length:Int)))))] (fun h4=>?_) (fun h4=>?_) ?_
 refine qb (os:=_) rfl (qk (k:=99) rfl h4 ?_)
 refine au [1,57,21,23,24,1] ?_
 refine qc (d:=105) (v:=.bool ((decide (0≤x27)) && (decide (x27<(x51.1.length:Int))))) rfl (by rw[h4];simp only[qx3]) ?_
 exact az [62]
 refine qb (os:=_) rfl (qj (k:=99) rfl h4 ?_)
 refine au [61,6,24,2] ?_
 refine qc (d:=105) (v:=.bool ((decide (0≤x27)) && (decide (x27<(x51.1.length:Int))))) rfl (by rw[h4];simp only[qxW]) ?_
 exact az [62]
 refine qb (os:=_) rfl ?_
 refine av [51] ?_ ?_
 intro _
 refine au [4,24,8,91] ?_
 refine qf qsc ?_
 intro x30 e3 _
 refine au [5,5,0] ?_
 exact qa ((x21,x30,x20,(0:Int)),(g0.1,g0.2))
 intro _
 refine au [9] ?_
 exact qa ((x21,false,x20,(3:Int)),(g0.1,g0.2))
 intro _
 refine au [9,25,1,30,8] ?_
 exact qa (((0:Int),false,([]:qAq),x62),(none,0))
 rintro ⟨⟨x2,x3,x13,x14⟩,⟨a0,c0⟩⟩
 try dsimp only
 refine au [47] ?_
 refine qf (fun h=>qj7 F _ h) ?_
 intro x32 e4 _
 refine au [1] ?_
 refine qD 4 (fun ((x33,_):(Bool×Unit))=>([(7,.pointer (some ⟨g30,0,none⟩)),(12,qAs x31.2.2.2.2.2.2.2.2.2.2.2.2.2),(13,.slice a40 x39.1.length c41),(14,qAs x39.2.1),(15,qAs x39.2.2),(16,.bool x42.1),(17,qAs x42.2),(19,qAs x43.2.2.2.2.2.2.2.2.2.2.2.2.2),(22,qAs x51.2.2),(23,qAs x62),(24,qAs x2),(25,.bool x3),(26,.slice a0 x13.length c0),(27,qAs x14),(115,.bool x33)],[⟨g30,35,[qAs x7,qAs x8,qAs x9,qAs x10,qAs x11,.slice a13 x12.length c14,qAs x15,qAs x16,qAs x17,qAs x18,.slice a20 x19.length c21,qAs x22,.slice a24 x23.length c25]⟩],[Ro (eI .i64) 3 1 (.slice a40 x39.1.length c41) x39.1],[Sl (eI .i64) 1 (.slice a0 x13.length c0) x13,Sl (eI .u8) 1 (.slice a13 x12.length c14) x12,Sl (eI .u8) 1 (.slice a20 x19.length c21) x19,Sl (eI .u8) 1 (.slice a24 x23.length c25) x23],qbk F x7 x8 x9 x10 x11 x12 x15 x16 x17 x18 x19 x22 x23 x31 x39 x42 x43 x51 x62 x2 x3 x13 x14 x33)) ?_ ?_
 refine qb (os:=_) rfl ?_
 refine av [25,7] ?_ ?_
 intro h5
 refine qk (k:=111) rfl h5 ?_
 refine au [25,5,24,8] ?_
 refine qf qlu ?_
 intro x34 e5 _
 refine au [74] ?_
 exact qa (x34,())
 intro h5
 refine qj (k:=111) rfl h5 ?_
 refine au [56,6,76] ?_
 exact qa (false,())
 rintro ⟨x33,_⟩
 try dsimp only
 refine qb (os:=_) rfl ?_
 refine au [1] ?_
 refine qq 4 x33 [(7,.pointer (some ⟨g30,0,none⟩)),(13,.slice a40 x39.1.length c41),(14,qAs x39.2.1),(15,qAs x39.2.2),(16,.bool x42.1),(17,qAs x42.2),(22,qAs x51.2.2),(23,qAs x62),(24,qAs x2),(25,.bool x3),(26,.slice a0 x13.length c0),(27,qAs x14),(120,.bool (x33 && ((x31.2.2.2.2.2.2.2.2.2.2.2.2.2:Int) == x43.2.2.2.2.2.2.2.2.2.2.2.2.2)))] (fun h6=>?_) (fun h6=>?_) ?_
 refine qb (os:=_) rfl (qk (k:=116) rfl h6 ?_)
 refine au [91,97] ?_
 refine qc (d:=120) (v:=.bool (x33 && ((x31.2.2.2.2.2.2.2.2.2.2.2.2.2:Int) == x43.2.2.2.2.2.2.2.2.2.2.2.2.2))) rfl (by rw[h6];simp only[qx3]) ?_
 exact az [62]
 refine qb (os:=_) rfl (qj (k:=116) rfl h6 ?_)
 refine au [56,6,24,2] ?_
 refine qc (d:=120) (v:=.bool (x33 && ((x31.2.2.2.2.2.2.2.2.2.2.2.2.2:Int) == x43.2.2.2.2.2.2.2.2.2.2.2.2.2))) rfl (by rw[h6];simp only[qxW]) ?_
 exact az [62]
 refine qb (os:=_) rfl ?_
 refine au [1] ?_
 refine qD 5 (fun ((x35,_):(Bool×Unit))=>([(13,.slice a40 x39.1.length c41),(14,qAs x39.2.1),(15,qAs x39.2.2),(16,.bool x42.1),(17,qAs x42.2),(23,qAs x62),(24,qAs x2),(25,.bool x3),(26,.slice a0 x13.length c0),(27,qAs x14),(126,.bool x35)],[],[Ro (eI .i64) 3 1 (.slice a40 x39.1.length c41) x39.1],[Sl (eI .i64) 1 (.slice a0 x13.length c0) x13],qbl F x39 x42 x62 x2 x3 x13 x14 x35)) ?_ ?_
 refine qb (os:=_) rfl ?_
 refine av [25,7] ?_ ?_
 intro h7
 refine qk (k:=121) rfl h7 ?_
 refine au [24,8,29,8] ?_
 intro x36 e6 _
 refine au [1,24,11,74] ?_
 exact qa (((x36:Int) == x51.2.2),())
 intro h7
 refine qj (k:=121) rfl h7 ?_
 refine au [61,76] ?_
 exact qa (false,())
 rintro ⟨x35,_⟩
 try dsimp only
 refine qb (os:=_) rfl ?_
 refine au [1] ?_
 refine qD 4 (fun ((x37,_):(Bool×Unit))=>([(14,qAs x39.2.1),(15,qAs x39.2.2),(16,.bool x42.1),(17,qAs x42.2),(23,qAs x62),(24,qAs x2),(25,.bool x3),(27,qAs x14),(131,.bool x37)],[],[],[],qbm F x39 x42 x62 x2 x3 x14 x37)) ?_ ?_
 refine qb (os:=_) rfl ?_
 refine av [25,7] ?_ ?_
 intro h8
 refine qk (k:=127) rfl h8 ?_
 refine au [91,29,12] ?_
 intro x38 e7 _
 refine au [74] ?_
 exact qa (x38,())
 intro h8
 refine qj (k:=127) rfl h8 ?_
 refine au [56,6,76] ?_
 exact qa (false,())
 rintro ⟨x37,_⟩
 try dsimp only
 refine qb (os:=_) rfl ?_
 refine au [1] ?_
 refine qq 4 x37 [(15,qAs x39.2.2),(16,.bool x42.1),(17,qAs x42.2),(23,qAs x62),(25,.bool x3),(27,qAs x14),(136,.bool (x37 && ((x39.2.1:Int) == x2)))] (fun h9=>?_) (fun h9=>?_) ?_
 refine qb (os:=_) rfl (qk (k:=132) rfl h9 ?_)
 refine au [91,97] ?_
 refine qc (d:=136) (v:=.bool (x37 && ((x39.2.1:Int) == x2))) rfl (by rw[h9];simp only[qx3]) ?_
 exact az [62]
 refine qb (os:=_) rfl (qj (k:=132) rfl h9 ?_)
 refine au [56,6,24,2] ?_
 refine qc (d:=136) (v:=.bool (x37 && ((x39.2.1:Int) == x2))) rfl (by rw[h9];simp only[qxW]) ?_
 exact az [62]
 refine qb (os:=_) rfl ?_
 refine au [1] ?_
 refine qq 4 (x37 && ((x39.2.1:Int) == x2)) [(16,.bool x42.1),(17,qAs x42.2),(25,.bool x3),(27,qAs x14),(141,.bool ((x37 && ((x39.2.1:Int) == x2)) && ((x39.2.2:Int) == x62)))] (fun h10=>?_) (fun h10=>?_) ?_
 refine qb (os:=_) rfl (qk (k:=137) rfl h10 ?_)
 refine au [91,97] ?_
 refine qc (d:=141) (v:=.bool ((x37 && ((x39.2.1:Int) == x2)) && ((x39.2.2:Int) == x62))) rfl (by rw[h10];simp only[qx3]) ?_
 exact az [62]
 refine qb (os:=_) rfl (qj (k:=137) rfl h10 ?_)
 refine au [56,6,24,2] ?_
 refine qc (d:=141) (v:=.bool ((x37 && ((x39.2.1:Int) == x2)) && ((x39.2.2:Int) == x62))) rfl (by rw[h10];simp only[qxW]) ?_
 exact az [62]
 refine qb (os:=_) rfl ?_
 refine au [1] ?_
 refine qq 4 ((x37 && ((x39.2.1:Int) == x2)) && ((x39.2.2:Int) == x62)) [(17,qAs x42.2),(27,qAs x14),(146,.bool (((x37 && ((x39.2.1:Int) == x2)) && ((x39.2.2:Int) == x62)) && (x42.1 == x3)))] (fun h11=>?_) (fun h11=>?_) ?_
 refine qb (os:=_) rfl (qk (k:=142) rfl h11 ?_)
 refine au [91] ?_
 refine qv7 rfl UnF.u rfl rfl rfl ?_
 refine au [24,1] ?_
 refine qc (d:=146) (v:=.bool (((x37 && ((x39.2.1:Int) == x2)) && ((x39.2.2:Int) == x62)) && (x42.1 == x3))) rfl (by rw[h11];simp only[qx3]) ?_
 exact az [62]
 refine qb (os:=_) rfl (qj (k:=142) rfl h11 ?_)
 refine au [56,6,24,2] ?_
 refine qc (d:=146) (v:=.bool (((x37 && ((x39.2.1:Int) == x2)) && ((x39.2.2:Int) == x62)) && (x42.1 == x3))) rfl (by rw[h11];simp only[qxW]) ?_
 exact az [62]
 refine qb (os:=_) rfl ?_
 refine au [1] ?_
 refine qq 4 (((x37 && ((x39.2.1:Int) == x2)) && ((x39.2.2:Int) == x62)) && (x42.1 == x3)) [(151,.bool ((((x37 && ((x39.2.1:Int) == x2)) && ((x39.2.2:Int) == x62)) && (x42.1 == x3)) && ((x42.2:Int) == x14)))] (fun h12=>?_) (fun h12=>?_) ?_
 refine qb (os:=_) rfl (qk (k:=147) rfl h12 ?_)
 refine au [91,97] ?_
 refine qc (d:=151) (v:=.bool ((((x37 && ((x39.2.1:Int) == x2)) && ((x39.2.2:Int) == x62)) && (x42.1 == x3)) && ((x42.2:Int) == x14))) rfl (by rw[h12];simp only[qx3]) ?_
 exact az [62]
 refine qb (os:=_) rfl (qj (k:=147) rfl h12 ?_)
 refine au [56,6,24,2] ?_
 refine qc (d:=151) (v:=.bool ((((x37 && ((x39.2.1:Int) == x2)) && ((x39.2.2:Int) == x62)) && (x42.1 == x3)) && ((x42.2:Int) == x14))) rfl (by rw[h12];simp only[qxW]) ?_
 exact az [62]
 refine qb (os:=_) rfl ?_
 exact az [73]
end Go.Proofs.YtmhggdbfbmkpeaaGreat
