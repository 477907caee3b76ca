/- Each Go function of this seat computes what its model says, part 5. -/
import Derived.Test.YthibchijlpflmaaGreatDoorWalks4
open List renaming replicate→qCo, length_set→qCJ, length_replicate→qC3
namespace Go.Proofs.YthibchijlpflmaaGreatDoor
open Go SX
open Go.Proofs.Tryz
open Go.Proofs.Tryz renaming prog→qFv
set_option maxHeartbeats 4000000
set_option linter.unusedSimpArgs false
variable {F t1 t2 t3 t4:Nat}{i1 i2 i3 i4 i5 i6 i7 i8 i9 i10 i11:Int}{m1 m2 m3 m4:qFm}{l1 l2 l3:qFn}{p1:List (qFm)}{n1:List (qFn×Nat)}{d1:Bool}{w1:List (Int×Int)}
theorem qiv:∀ (F g1:Nat)(x2 x3 x4 x5 x6:Int)(x7:qFm)(a8:qFn)(c9:Nat)(x10 x11 x12 x13:Int)(x14:qFm)(a15:qFn)(c16:Nat)(x17:Int)(x18:qFm)(a19:qFn)(c20:Nat)(x21 x22:Int)(r:(qFm×Int×Int×Int×Int×Int×Int×Int×Int×Int×Int×Int)),yC F x2 x3 x4 x5 x6 x7 x10 x11 x12 x13 x14 x17 x18 x21 x22=some r→PureM qFv 124 [qFq g1,qFo x22] [⟨g1,174,[qFo x2,qFo x3,qFo x4,qFo x5,qFo x6,qFp a8 x7 c9,qFo x10,qFo x11,qFo x12,qFo x13,qFp a15 x14 c16,qFo x17,qFp a19 x18 c20,qFo x21]⟩] [] [qFt a8 x7 c9,qFt a15 x14 c16,qFt a19 x18 c20] (qFn×Nat) (fun g=>qFp g.1 r.1 g.2) (fun _=>[⟨g1,174,[qFo r.2.1,qFo r.2.2.1,qFo r.2.2.2.1,qFo r.2.2.2.2.1,qFo r.2.2.2.2.2.1,qFp a8 x7 c9,qFo r.2.2.2.2.2.2.1,qFo r.2.2.2.2.2.2.2.1,qFo r.2.2.2.2.2.2.2.2.1,qFo r.2.2.2.2.2.2.2.2.2.1,qFp a15 x14 c16,qFo r.2.2.2.2.2.2.2.2.2.2.1,qFp a19 x18 c20,qFo r.2.2.2.2.2.2.2.2.2.2.2]⟩]) (fun g=>[qFs g.1 r.1 g.2]):=by
  intro F
  induction F with
  | zero=>intro g1 x2 x3 x4 x5 x6 x7 a8 c9 x10 x11 x12 x13 x14 a15 c16 x17 x18 a19 c20 x21 x22 r hm;exact absurd hm (by simp[yC])
  | succ F ih =>
    intro g1 x2 x3 x4 x5 x6 x7 a8 c9 x10 x11 x12 x13 x14 a15 c16 x17 x18 a19 c20 x21 x22 r hm
    refine qjH func124 rfl ntmps124 rfl hm (fun w=>?_)
    refine qo0 (l':=[(0,qFq g1),(1,qFo x22)]) rfl ?_
    refine kE ?_
    refine qU ?_
    refine kO rfl rfl rfl ?_
    refine zH ?_
    refine zC ?_
    refine kE ?_
    refine qU ?_
    refine q7 rfl rfl rfl ?_
    refine km rfl rfl rfl ?_
    refine qW rfl rfl ff174_1 rfl ?_
    refine zU (i:=0) rfl rfl tf3 rfl rfl (fun _=>rfl) rfl rfl ?_
    refine qk7 rfl rfl rfl rfl ?_
    refine km rfl rfl rfl ?_
    refine qW rfl rfl ff174_1 rfl ?_
    refine kP (i:=0) rfl rfl rfl tf3 rfl rfl rfl rfl rfl ?_
    refine zH ?_
    refine zC ?_
    refine kE ?_
    refine qU ?_
    refine q7 rfl rfl rfl ?_
    refine km rfl rfl rfl ?_
    refine qW rfl rfl ff174_0 rfl ?_
    refine qW rfl rfl ff71_1 rfl ?_
    refine zU (i:=0) rfl rfl tf69 rfl rfl (by simp) rfl rfl ?_
    refine q7 rfl rfl rfl ?_
    refine vh EnC.e rfl rfl rfl (fun x23 e23=>qrd e23) (.consF 1 rfl (.consF 2 rfl .nil)) (fun x23 e23=>?_)
    intro _
    refine q7 rfl rfl rfl ?_
    refine qau rfl rfl rfl rfl ?_
    refine qau rfl rfl rfl rfl ?_
    refine kO rfl rfl rfl ?_
    refine kO rfl rfl rfl ?_
    refine zH ?_
    refine zC ?_
    refine kE ?_
    refine qU ?_
    refine q7 rfl rfl rfl ?_
    refine km rfl rfl rfl ?_
    refine qW rfl rfl ff174_0 rfl ?_
    refine qW rfl rfl ff71_0 rfl ?_
    refine zU (i:=0) rfl rfl tf67 rfl rfl (by simp) rfl rfl ?_
    refine q7 rfl rfl rfl ?_
    refine q7 rfl rfl rfl ?_
    refine vh EnC.e rfl rfl rfl (fun x24 e24=>qlg e24) (.consF 0 rfl .nil) (fun x24 e24=>?_)
    intro _
    refine q7 rfl rfl rfl ?_
    refine qau rfl rfl rfl rfl ?_
    refine qau rfl rfl rfl rfl ?_
    refine qau rfl rfl rfl rfl ?_
    refine kO rfl rfl rfl ?_
    refine kO rfl rfl rfl ?_
    refine kO rfl rfl rfl ?_
    refine zH ?_
    refine zC ?_
    refine kE ?_
    refine qU ?_
    refine kO rfl rfl rfl ?_
    refine zH ?_
    refine zC ?_
    refine qi [0,1,7,8] [] [] [0,1,2] (fun (((x31,x32,x33,x34,x35,x36,x37,x38,x39,x40,x41,x42),a29,c30):(qFm×Int×Int×Int×Int×Int×Int×Int×Int×Int×Int×Int)×qFn×Nat)=>([(10,qFp a29 x31 c30)],[⟨g1,174,[qFo x32,qFo x33,qFo x34,qFo x35,qFo x36,qFp a8 x7 c9,qFo x37,qFo x38,qFo x39,qFo x40,qFp a15 x14 c16,qFo x41,qFp a19 x18 c20,qFo x42]⟩],[qFs a29 x31 c30],[],yo F x7 x22 x24 x31 x32 x33 x34 x35 x36 x37 x38 x39 x40 x41 x42)) ?_ ?_
    · refine kE ?_
      refine qU ?_
      refine q7 rfl rfl rfl ?_
      refine qtZ rfl rfl rfl rfl ?_
      refine zH ?_
      refine zC ?_
      refine qky rfl (fun h53=>?_) (fun h53=>?_)
      · refine qU ?_
        refine q7 rfl rfl rfl ?_
        refine q7 rfl rfl rfl ?_
        refine q7 rfl rfl rfl ?_
        refine qt2 rfl rfl rfl rfl ?_
        refine qc6 EnC.e rfl rfl rfl (fun x50 e50=>ih g1 x2 x3 x4 x5 x6 x7 a8 c9 x10 x11 x12 x13 x14 a15 c16 x17 x18 a19 c20 (iadd .i64 x21 1) (isub .i64 x22 x24.1) x50 e50) (.cons 0 rfl .nil) .nil (.consF 0 rfl (.consF 1 rfl (.consF 2 rfl .nil))) (fun x50 e50=>?_)
        rintro ⟨a51,c52⟩
        refine kO rfl rfl rfl ?_
        refine zH ?_
        exact yh ((x50.1,x50.2.1,x50.2.2.1,x50.2.2.2.1,x50.2.2.2.2.1,x50.2.2.2.2.2.1,x50.2.2.2.2.2.2.1,x50.2.2.2.2.2.2.2.1,x50.2.2.2.2.2.2.2.2.1,x50.2.2.2.2.2.2.2.2.2.1,x50.2.2.2.2.2.2.2.2.2.2.1,x50.2.2.2.2.2.2.2.2.2.2.2),a51,c52) (hB:=(.cons 0 rfl .nil)) (hR:=(.cons 0 rfl .nil)) (hF:=(qh 0 rfl (qh 1 rfl (qh 2 rfl zG))))
      · refine qh5 ?_
        refine qf1 Int (eI .i64) 3 1 ?_
        exact yh ((([]:qFm),x2,x3,x4,x5,x6,x10,x11,x12,x13,x17,iadd .i64 x21 1),none,0) (hB:=(.cons 0 rfl .nil)) (hR:=(.cons 0 rfl .nil)) (hF:=(qh 0 rfl (qh 1 rfl (qh 2 rfl zG))))
    · rintro ⟨⟨x31,x32,x33,x34,x35,x36,x37,x38,x39,x40,x41,x42⟩,a29,c30⟩
      try dsimp only
      refine kE ?_
      refine qU ?_
      refine q7 rfl rfl rfl ?_
      refine km rfl rfl rfl ?_
      refine qW rfl rfl ff174_0 rfl ?_
      refine qW rfl rfl ff71_0 rfl ?_
      refine qW rfl rfl ff67_1 rfl ?_
      refine zU (i:=0) rfl rfl tf26 rfl rfl (by simp) rfl rfl ?_
      refine qkz rfl tf26 rfl (fun g43=>?_)
      refine kP (i:=0) rfl rfl rfl tf26 rfl rfl rfl rfl rfl ?_
      refine zH ?_
      refine zC ?_
      refine kE ?_
      refine qU ?_
      refine q7 rfl rfl rfl ?_
      refine qW rfl rfl ff26_0 rfl ?_
      refine kP (i:=0) rfl rfl rfl tf3 rfl rfl rfl rfl rfl ?_
      refine zH ?_
      refine zC ?_
      refine kE ?_
      refine kD mixed [] _ _ (.cons 0 rfl (.cons 0 rfl .nil)) (qg 0 rfl (qg 1 rfl (qg 2 rfl qf))) 18 rfl ?_
      refine qb 0 (qFq g1) rfl rfl rfl (zy rfl) ?_
      refine qb 1 (qFq g1) rfl rfl rfl (zy rfl) ?_
      refine qb 2 (qFq g1) rfl rfl rfl (zd rfl ff174_0) ?_
      refine qb 3 (qFq g1) rfl rfl rfl (zd rfl ff71_0) ?_
      refine qb 4 (.pointer (some ⟨g1,4,none⟩)) rfl rfl rfl (zd rfl ff67_2) ?_
      refine qB 5 (.agg #[qFo x36,.slice a8 x7.length c9]) rfl rfl rfl (qz (i:=1) rfl tf65 rfl rfl (by simp) rfl) ?_
      refine qb 6 (qFo x24.2.1) rfl rfl rfl (zy rfl) ?_
      refine qb 7 (qFo x22) rfl rfl rfl (zy rfl) ?_
      refine qb 8 (qFp a29 x31 c30) rfl rfl rfl (zy rfl) ?_
      refine qB 9 (.agg #[qFo x24.1,qFo x34,qFo x35]) rfl rfl rfl (qz (i:=0) rfl tf26 rfl rfl (by simp) rfl) ?_
      refine qg2 10 rfl (by kernel_rfl) rfl ?_
      refine vh EnC.e rfl rfl rfl (fun x47 e47=>qkF e47) (.consF 0 rfl (.consR 0 (qFs a29 x31 c30) rfl .nil)) (fun x47 e47=>?_)
      rintro ⟨a48,c49⟩
      refine zH ?_
      refine qc (.cons 0 rfl (.cons 0 rfl .nil)) (qg 0 rfl (qg 1 rfl (qg 2 rfl qf))) ?_
      refine qb 11 (.tuple #[qFp a48 x47.1 c49,qFo x47.2.1,qFo x47.2.2]) rfl rfl rfl (zy rfl) ?_
      refine qb 12 (qFp a48 x47.1 c49) rfl rfl rfl (zy rfl) ?_
      refine qb 13 (qFo x47.2.1) rfl rfl rfl (zy rfl) ?_
      refine qb 14 (qFo x47.2.2) rfl rfl rfl (zy rfl) ?_
      refine qb 15 (qFp a48 x47.1 c49) rfl rfl rfl (zy rfl) ?_
      refine qb 16 (qFo x47.2.1) rfl rfl rfl (zy rfl) ?_
      refine qb 17 (qFo x47.2.2) rfl rfl rfl (zy rfl) ?_
      refine qg1 (by kernel_rfl) ?_
      refine qkD ?_ (by intro c h;cases h)
      refine zC ?_
      refine kE ?_
      refine qU ?_
      refine q7 rfl rfl rfl ?_
      refine kO rfl rfl rfl ?_
      refine zH ?_
      refine zC ?_
      refine qo1 ?_
      exact yD (a48,c49) (res1 rfl rfl) (hB:=fun h=>by subst h;exact (.cons 1 rfl .nil)) (hR:=fun h=>by subst h;exact (.cons 0 rfl .nil))
theorem qn1 {r:(qFm×Int×Int)}(hm:qcq F i1 i2 i3 i4 i5 m1 i6 i7 i8 i9 m2 i10 m3 i11=some r) :
    Pure qFv 89 [.agg #[qFo i1,qFo i2,qFo i3,qFo i4,qFo i5,qFp l1 m1 t1,qFo i6,qFo i7,qFo i8,qFo i9,qFp l2 m2 t2,qFo i10,qFp l3 m3 t3],qFo i11] [qFt l1 m1 t1,qFt l2 m2 t2,qFt l3 m3 t3] (qFn×Nat) (fun g=>.tuple #[qFp g.1 r.1 g.2,qFo r.2.1,qFo r.2.2]) (fun g=>[qFs g.1 r.1 g.2]) (fun _=>[]):=by
 refine pureA func89 ntmps89 hm fun _=>?_
 refine au [111] ?_
 intro g21
 refine au [5,5,47,77] ?_
 refine qd qmI ?_
 intro x22 e22 _
 refine au [47] ?_
 refine qi [1,2] [0] [] [0,1,2] (fun ((x28,_):Int×Unit)=>([(7,qFo x28)],[],[],[],qa9 F i1 i2 i3 i4 i5 m1 i6 i7 i8 i9 m2 i10 m3 i11 x28)) ?_ ?_
 refine au [48,25,6,4] ?_
 refine kI 10 [1,2,7] [0] [] [0,1,2] (fun ((x37,_):Bool×Unit)=>([(24,.bool x37)],[],[],[],qba F i1 i2 i3 i4 i5 m1 i6 i7 i8 i9 m2 i10 m3 i11 x22 x37)) ?_ ?_
 refine qD (os:=_) rfl ?_
 refine av [26,2] ?_ ?_
 intro h35
 refine kj (k:=14) rfl h35 ?_
 refine au [4,24,3,4] ?_
 refine zQ 6 17 23 [1,2,7,14] (decide (i1≤i11)) ?_ ?_ ?_
 exact az [68,7,61]
 exact az [4,9,78,26,4,60]
 refine au [86] ?_
 exact qa ((decide (i11<0) || decide (i1≤i11)),())
 intro h35
 refine kg (k:=14) rfl h35 ?_
 refine au [68,68,7,85] ?_
 exact qa (false,())
 rintro ⟨x37,_⟩
 try dsimp only
 refine qD (os:=_) rfl ?_
 refine aw [0,2,10] ?_ ?_
 refine au [3,5,0] ?_
 exact qa ((3:Int),())
 refine au [11] ?_
 exact qa (x22,())
 rintro ⟨x28,_⟩
 refine aw [39,1,1,3,4,25,3,0,2,10] ?_ ?_
 refine au [48,5,5,99] ?_
 exact qx (none,0)
 refine au [57,77] ?_
 refine qH [qFo i1,qFo i2,qFo i3,qFo i4,qFo i5,qFp l1 m1 t1,qFo i6,qFo i7,qFo i8,qFo i9,qFp l2 m2 t2,qFo i10,qFp l3 m3 t3,qFo 0] ?_
 refine au [23] ?_
 intro g30
 refine au [59,4] ?_
 refine qt (fun h=>qiv F _ _ _ _ _ _ _ _ _ _ _ _ _ _ _ _ _ _ _ _ _ _ _ h) ?_
 rintro x31 e31 ⟨a32,c33⟩
 refine au [81,32,15,92,15,3,24,15,4,6,5,67,54,2,8] ?_
 exact qx (a32,c33)
theorem qje (hm:jB F p1 i1 i2 i3 m1 m2 m3=some m4) :
    PureM qFv 90 [qFq t1,qFp l3 m3 t4] [⟨t1,85,[qFp l1 p1 t2,qFo i1,qFo i2,qFo i3,qFp l2 m1 t3,.string (bstr m2)]⟩] [] [SlN eN56 iN56 1 (qFp l1 p1 t2) p1 n1,qFr l2 m1 t3,qFr l3 m3 t4,GF] Unit (fun _=>.tuple #[]) (fun _=>[⟨t1,85,[qFp l1 p1 t2,qFo i1,qFo i2,qFo i3,qFp l2 m1 t3,.string (bstr m4)]⟩]) (fun _=>[]):=by
 refine pureMA func90 ntmps90 hm fun _=>?_
 refine au [56,47] ?_
 refine qi [0] [0] [] [0,1,3] (fun ((x82,a80,c81):List (qFm)×qFn×Nat)=>([(4,qFp a80 x82 c81)],[],[Ro eT 9 1 (qFp a80 x82 c81) x82],[],qb1 F x82)) ?_ ?_
 refine au [48,84] ?_
 refine qed (qFm) eT 9 1 (qq [0,7,8] [0] [] [2,0,1,3] (fun (((x0,x1),a0,c0):(List (qFm)×Int)×qFn×Nat)=>([(4,qFp a0 x0 c0),(9,qFo x1)],[],[Ro eT 9 1 (qFp a0 x0 c0) x0],[])) (([]:List (qFm)),(0:Int)) (none,0) ?_)
 intro k0
 rintro ⟨⟨x0,x1⟩,a0,c0⟩
 refine aw [39,1,3,24,3,0,2,1,10] ?_ ?_
 refine au [83,45,26,3] ?_
 intro x3 e0 b0 o0
 refine au [25,2,47,3,89] ?_
 refine vh EnC.e rfl rfl rfl (fun x4 e1=>qf2 x3 x4 e1) (.consF 4 rfl .nil) (fun x4 e1 _=>qbl (vs:=[.string (bstr x4)]) (ys:=([x4]:List (qFm))) qG (by decide) rfl underlying39 tf9 rfl rfl rfl rfl rfl (by decide) (fun a1 c1=>zA 1 qG rfl underlying39 tf9 rfl rfl rfl rfl rfl (.inl ⟨0,_,rfl⟩) rfl rfl (fun x9 e2 a2 c2=>?_)))
 refine au [5,0,95] ?_
 exact qk ((x9,iadd .i64 x1 1),a2,c2)
 refine au [71] ?_
 exact qa (x0,a0,c0)
 rintro ⟨x82,a80,c81⟩
 refine au [39,3,89] ?_
 refine vh EnC.e rfl rfl rfl (fun x83 e83=>qAz x82 a80 c81 ([32]:qFm) x83 e83) (.consR 0 (Ro eT 9 1 (qFp a80 x82 c81) x82) rfl .nil) (fun x83 e83 _=>?_)
 exact az [55,87,25,14]
theorem qjd (F g1:Nat)(x2:List (qFm))(a3:qFn)(c4:(Nat×List (qFn×Nat)))(x5 x6 x7:Int)(x8:qFm)(a9:qFn)(c10:Nat)(x11:qFm)(r:(Int×qFm))(hm:qbz F x2 x5 x6 x7 x8 x11=some r) :
    PureM qFv 63 [qFq g1] [⟨g1,85,[qFp a3 x2 c4.1,qFo x5,qFo x6,qFo x7,qFp a9 x8 c10,.string (bstr x11)]⟩] [] [SlN eN56 iN56 1 (qFp a3 x2 c4.1) x2 c4.2,qFr a9 x8 c10,GF] Unit (fun _=>qFo r.1) (fun _=>[⟨g1,85,[qFp a3 x2 c4.1,qFo x5,qFo x6,qFo x7,qFp a9 x8 c10,.string (bstr r.2)]⟩]) (fun _=>[]):=by
 refine pureMA func63 ntmps63 hm fun _=>?_
 refine au [64,47] ?_
 refine qi [0] [0] [] [0,1,2] (fun (((x29,x30,x31,x32,x33,x34,x37,x38,x39,x40,x41,x44,x45,x48),g28,a35,c36,a42,c43,a46,c47):(Int×Int×Int×Int×Int×Int×qFm×Int×Int×Int×Int×qFm×Int×qFm)×Nat×qFn×Nat×qFn×Nat×qFn×Nat)=>([(3,qFq g28),(4,qFo x29)],[⟨g28,71,[qFo x30,qFo x31,qFo x32,qFo x33,qFo x34,qFp a35 x37 c36,qFo x38,qFo x39,qFo x40,qFo x41,qFp a42 x44 c43,qFo x45,qFp a46 x48 c47]⟩],[qFu a35 x37 c36,qFu a42 x44 c43,qFu a46 x48 c47],[],qbZ F x2 x5 x6 x7 x8 x11 x29 x30 x31 x32 x33 x34 x37 x38 x39 x40 x41 x44 x45 x48)) ?_ ?_
 refine au [35,6,70,15,2,15,3] ?_
 refine qB 4 (.agg #[.slice a3 x2.length c4.1]) rfl rfl rfl (qz (i:=0) rfl tf24 rfl rfl (by simp) rfl) ?_
 refine au [6,5,6,6,15,7,15,8] ?_
 refine qB 9 (.agg #[qFo x5,qFo x6,qFo x7]) rfl rfl rfl (qz (i:=0) rfl tf26 rfl rfl (by simp) rfl) (yZ 10 14 rfl rfl (by kernel_rfl) rfl rfl ?_ ?_)
 refine au [37,8] ?_
 rintro x66 e66 ⟨⟨a67,c68⟩,⟨a69,c70⟩,a71,c72⟩
 refine au [0,35,7,6,11,100,12,14,24,5] ?_
 intro g73
 refine au [0,27,14,12,15,87,27,14,6,16,54] ?_
 exact qa ((x66.2.2.2.2.2.2.2.2.2.2.2.2.2,x66.1,x66.2.1,x66.2.2.1,x66.2.2.2.1,x66.2.2.2.2.1,x66.2.2.2.2.2.1,x66.2.2.2.2.2.2.1,x66.2.2.2.2.2.2.2.1,x66.2.2.2.2.2.2.2.2.1,x66.2.2.2.2.2.2.2.2.2.1,x66.2.2.2.2.2.2.2.2.2.2.1,x66.2.2.2.2.2.2.2.2.2.2.2.1,x66.2.2.2.2.2.2.2.2.2.2.2.2.1),g73,a67,c68,a69,c70,a71,c72)
 refine au [24,5] ?_
 intro g74
 refine au [0,27,14,12,10,37,8] ?_
 rintro x75 e75 ⟨⟨a76,c77⟩,⟨a78,c79⟩,a80,c81⟩
 refine au [0,27,14,6,11,100,12,15,87,27,14,6,16,54] ?_
 exact qa ((x75.2.2.2.2.2.2.2.2.2.2.2.2.2,x75.1,x75.2.1,x75.2.2.1,x75.2.2.2.1,x75.2.2.2.2.1,x75.2.2.2.2.2.1,x75.2.2.2.2.2.2.1,x75.2.2.2.2.2.2.2.1,x75.2.2.2.2.2.2.2.2.1,x75.2.2.2.2.2.2.2.2.2.1,x75.2.2.2.2.2.2.2.2.2.2.1,x75.2.2.2.2.2.2.2.2.2.2.2.1,x75.2.2.2.2.2.2.2.2.2.2.2.2.1),g74,a76,c77,a78,c79,a80,c81)
 rintro ⟨⟨x29,x30,x31,x32,x33,x34,x37,x38,x39,x40,x41,x44,x45,x48⟩,g28,a35,c36,a42,c43,a46,c47⟩
 refine aw [39,1,1,3,4,25,3,0,2,10] ?_ ?_
 exact az [48,58,25,14]
 refine au [82,28,4] ?_
 intro x57 e57 b58 o59 h60
 replace h60:a9=some ⟨b58,o59,none⟩:=h60
 refine qI [] [0,0] [0,1,2,3] 15 ?_
 refine qB 0 (.agg #[qFo x30,qFo x31,qFo x32,qFo x33,qFo x34,.slice a35 x37.length c36,qFo x38,qFo x39,qFo x40,qFo x41,.slice a42 x44.length c43,qFo x45,.slice a46 x48.length c47]) rfl rfl rfl (qz (i:=1) rfl tf71 rfl rfl (by simp) rfl) ?_
 refine au [6,1,6,2,15,3,24,15,4] ?_
 refine vg 5 h60 e57 ?_
 refine qy 6 (qFo x57) [] rfl rfl rfl (qQ (j:=0) rfl tf3 rfl rfl (fun _=>rfl) rfl) ?_
 refine au [12,7] ?_
 refine qd qn1 ?_
 rintro x61 e61 ⟨a62,c63⟩
 refine au [0,35,3,6,8,6,9,6,10,6,11,100,6,14,54,2,48,4,37,9] ?_
 intro x64 e64 _
 exact az [97,88]
theorem qll (F:Nat)(x1:Int)(g2:Nat)(x3:List (qFm))(a4:qFn)(c5:(Nat×List (qFn×Nat)))(r:Bool)(hm:qfQ F x1 x3=some r) :
    PureM qFv 173 [qFo x1,qFq g2] [⟨g2,24,[qFp a4 x3 c5.1]⟩] [] [SlN eN56 iN56 1 (qFp a4 x3 c5.1) x3 c5.2] Unit (fun _=>.bool r) (fun _=>[⟨g2,24,[qFp a4 x3 c5.1]⟩]) (fun _=>[]):=by
 refine pureMA func173 ntmps173 hm fun _=>?_
 refine au [56,59,24,3,4] ?_
 refine zQ 6 6 12 [] (decide ((x3.length:Int)≤x1)) ?_ ?_ ?_
 exact az [68,7,61]
 exact az [4,78,24,6,26,4,60]
 exact az [88]
theorem qbU (hm:kG F m1 p1=some i1) :
    PureM qFv 129 [qFp l1 m1 t1,.func (.func 173) #[] #[qFq t2]] [⟨t2,24,[qFp l2 p1 t3]⟩] [] [qFr l1 m1 t1,SlN eN56 iN56 1 (qFp l2 p1 t3) p1 n1] Unit (fun _=>qFo i1) (fun _=>[⟨t2,24,[qFp l2 p1 t3]⟩]) (fun _=>[]):=by
 refine pureMA func129 ntmps129 hm fun _=>?_
 refine au [56,47] ?_
 refine qi [] [0] [] [1] (fun ((_,_):Unit×Unit)=>([],[],[],[],yv F)) ?_ ?_
 refine au [48,84] ?_
 refine qq [0,1,7] [0] [] [0,1] (fun ((x58,_):Int×Unit)=>([(8,qFo x58)],[],[],[])) (0:Int) () ?_
 intro k71
 rintro ⟨x58,_⟩
 refine aw [39,1,3,24,3,0,2,1,10] ?_ ?_
 refine au [83,48,59,89,26,3] ?_
 intro x78 e78 b79 o80
 refine au [25,2] ?_
 refine qfZ EnC.e rfl rfl rfl rfl (fun x81 e81=>qll F x78 t2 p1 l2 (t3,n1) x81 e81) (.cons 0 rfl .nil) .nil (.consF 2 rfl .nil) (fun x81 e81 _=>?_)
 refine aw [0,2,10] ?_ ?_
 exact az [48,49,90,50,25,14]
 refine au [11,95] ?_
 exact qk (iadd .i64 x58 1,())
 exact az [71,26,8]
 rintro ⟨_,_⟩
 exact az [117,88]
theorem qav (hm:zZ F m1 p1=some d1) :
    PureM qFv 119 [qFp l1 m1 t1,.func (.func 173) #[] #[qFq t2]] [⟨t2,24,[qFp l2 p1 t3]⟩] [] [qFr l1 m1 t1,SlN eN56 iN56 1 (qFp l2 p1 t3) p1 n1] Unit (fun _=>.bool d1) (fun _=>[⟨t2,24,[qFp l2 p1 t3]⟩]) (fun _=>[]):=by
 refine pureMA func119 ntmps119 hm fun _=>?_
 refine au [56,59,4] ?_
 refine qt qbU ?_
 intro x8 e8 _
 exact az [26,4,88]
theorem qn8 (hm:qdG F p1 m1=some i1) :
    qFw 126 [.agg #[qFp l1 p1 t1],qFp l2 m1 t2] [SlN eN56 iN56 1 (qFp l1 p1 t1) p1 n1,qFr l2 m1 t2] (qFo i1):=by
 refine pureA func126 ntmps126 hm fun _=>?_
 refine au [111] ?_
 intro g7
 refine au [81,77,28,2] ?_
 intro x10 e10 _
 refine aw [5,0,2,1,3,4,25,3,0,2,10] ?_ ?_
 exact az [48,76]
 refine au [82,48,27,5] ?_
 refine qt qav ?_
 intro x13 e13 _
 refine aw [0,2,10] ?_ ?_
 exact az [45,76]
 exact az [96,69]
theorem qrl (hm:qcU F p1 i1=some m1) :
    Pure qFv 127 [.agg #[qFp l1 p1 t1],qFo i1] [SlN eN56 iN56 1 (qFp l1 p1 t1) p1 n1] (qFn×Nat) (fun g=>qFp g.1 m1 g.2) (fun g=>[qFs g.1 m1 g.2]) (fun _=>[]):=by
 refine pureA func127 ntmps127 hm fun _=>?_
 refine au [111] ?_
 intro g5
 refine au [80,29,0] ?_
 intro a6 c7
 refine au [78,24,6,27,4] ?_
 rintro x8 e8 ⟨a9,c10⟩
 refine au [59,4,26,5] ?_
 intro x11 e11 g12 h13
 refine kz (j:=0) (y':=0) (qC .i64) rfl rfl rfl tf3 rfl h13 (qu e11).2.1 rfl (fun x14 e14 h15=>?_)
 have h16:x14.length=x8.length:=by rw[← e14,qCJ]
 refine qs (d:=5) (v:=qFp a9 x14 c10) rfl h15 (qs (d:=14) (v:=qFp a9 x14 c10) rfl h15 (qs (d:=15) (v:=qFp a9 x14 c10) rfl h15 ?_))
 refine au [46] ?_
 refine qN (fun ((x0,_):qFm×Unit)=>([(5,qFp a9 x0 c10)],[],[qFs a9 x0 c10],[],qhN F x0)) ?_ ?_
 refine au [48] ?_
 refine zI [i1] (fun a0 c0=>?_)
 refine au [47,14] ?_
 refine qq [2] [0] [] [0] (fun (((x2,x3),a1,c1,g0):(qFm×qFm)×qFn×Nat×qFm)=>([(5,qFp a9 x2 c10),(6,(qv a1 g0.length x3.length c1 1))],[],[qFs a9 x2 c10,qFs a1 (g0++x3) c1],[])) (x14,([i1]:qFm)) (a0,c0,([]:qFm)) ?_
 intro k0
 rintro ⟨⟨x2,x3⟩,a1,c1,g0⟩
 refine au [39,1,48] ?_
 refine qxS rfl UnF.u rfl rfl ?_
 refine aw [25,1,0,2,10] ?_ ?_
 refine au [57] ?_
 refine qi [2] [0] [] [0] (fun (((x5,x6),a3,c2,g1):(qFm×qFm)×qFn×Nat×qFm)=>([(5,qFp a9 x5 c10),(6,(qv a3 g1.length x6.length c2 1))],[],[qFs a9 x5 c10,qFs a3 (g1++x6) c2],[],qdH F (vX F p1 k0) x5 x6)) ?_ ?_
 refine au [14,48] ?_
 refine qsi (hs:=g0) (xs:=x3) (j:=1) rfl underlying56 tf3 rfl rfl rfl rfl (fun x7 e0 g2 h0=>kJ (j:=1) (y:=x7) (qC .i64) rfl rfl tf3 rfl h0 (qzb e0) (fun _=>rfl) rfl rfl ?_)
 refine au [80,78,4,27,2] ?_
 intro x9 e1 g3 b0 o0
 refine au [25,2,84] ?_
 refine qq [2,7,32,33] [0] [] [1,2] (fun (((x10,x12,x13),a4,c4,g4):(qFm×qFm×Int)×qFn×Nat×qFm)=>([(5,qFp a9 x10 c10),(6,(qv a4 g4.length x12.length c4 1)),(34,qFo x13)],[],[qFs a9 x10 c10,qFs a4 (g4++x12) c4],[])) (x2,x3,(0:Int)) (a1,c1,g0) ?_
 intro k1
 rintro ⟨⟨x10,x12,x13⟩,a4,c4,g4⟩
 refine aw [39,1,3,24,3,0,2,1,10] ?_ ?_
 refine au [57] ?_
 refine qi [2,7,32,33,34] [0] [] [0,1] (fun (((x15,x16),a5,c5,g6):(qFm×qFm)×qFn×Nat×qFm)=>([(5,qFp a9 x15 c10),(6,(qv a5 g6.length x16.length c5 1))],[],[qFs a9 x15 c10,qFs a5 (g6++x16) c5],[],qb8 F (vY F (vX F p1 k0) x7 x9 k1) x13 x15 x16)) ?_ ?_
 refine au [14,45,26,3] ?_
 intro x17 e2 b1 o1
 refine au [25,2,59,4,26,5] ?_
 intro x18 e3 g7 h1
 refine kJ (j:=0) (y:=x18) (qC .i64) rfl rfl tf3 rfl h1 (qu e3).2.2 (fun _=>rfl) rfl rfl ?_
 refine aw [24,3,0,2,10] ?_ ?_
 refine au [48,89,4,26,5] ?_
 intro x19 e4 g8 h2
 refine kJ (j:=0) (y:=x19) (qC .i64) rfl rfl tf3 rfl h2 (qu e4).2.2 (fun _=>rfl) rfl rfl ?_
 refine au [24,0,26,5] ?_
 intro x20 e5 g9 h3
 refine kz (j:=0) (y':=iadd .i64 x19 1) (qC .i64) rfl rfl rfl tf3 rfl h3 (qu e5).2.1 rfl (fun x21 e6 h4=>?_)
 have h5:x21.length=x10.length:=by rw[← e6,qCJ]
 refine qs (d:=5) (v:=qFp a9 x21 c10) rfl h4 (qs (d:=38) (v:=qFp a9 x21 c10) rfl h4 (qs (d:=43) (v:=qFp a9 x21 c10) rfl h4 (qs (d:=45) (v:=qFp a9 x21 c10) rfl h4 ?_)))
 refine au [46,3,89] ?_
 refine zI [x17] (fun a7 c6=>?_)
 refine qxJ (hs:=g4) (xs:=x12) 2 (qC .i64) rfl underlying56 tf3 rfl rfl rfl rfl rfl (.inl ⟨0,_,rfl⟩) rfl rfl (fun x22 e7 a8 c8 g10=>?_)
 refine au [5,115] ?_
 exact qa ((x21,x22),a8,c8,g10)
 refine au [11,24,2] ?_
 exact qa ((x10,x12),a4,c4,g4)
 rintro ⟨⟨x15,x16⟩,a5,c5,g6⟩
 refine au [39,94] ?_
 exact qk ((x15,x16,iadd .i64 x13 1),a5,c5,g6)
 refine au [71,24,2] ?_
 exact qa ((x10,x12),a4,c4,g4)
 rintro ⟨⟨x5,x6⟩,a3,c2,g1⟩
 refine au [39,3,4] ?_
 refine qxN (hs:=g1) (xs:=x6) (j:=1) rfl underlying56 tf3 rfl rfl rfl rfl (fun x23 e9 g11=>?_)
 refine au [5,0] ?_
 exact qk ((x5,x23),a3,c2,g11)
 refine au [71] ?_
 exact qa (x2,())
 rintro ⟨x0,_⟩
 refine au [91,49] ?_
 exact qx (a9,c10)
theorem qrj {r:(qFm×Int)}(hm:qha F p1 i1=some r) :
    Pure qFv 91 [.agg #[qFp l1 p1 t1],qFo i1] [SlN eN56 iN56 1 (qFp l1 p1 t1) p1 n1] (qFn×Nat) (fun g=>.tuple #[qFp g.1 r.1 g.2,qFo r.2]) (fun g=>[qFs g.1 r.1 g.2]) (fun _=>[]):=by
 refine pureA func91 ntmps91 hm fun _=>?_
 refine au [111] ?_
 intro g5
 refine au [5,81,77,4] ?_
 refine zI [i1] (fun a10 c11=>?_)
 refine au [37,10] ?_
 intro x12 e12 _
 refine aw [5,0,2,1,3,4,25,3,0,2,10] ?_ ?_
 refine au [48,5,99] ?_
 exact qx (none,0)
 refine au [57,77,4,37,11] ?_
 rintro x13 e13 ⟨a14,c15⟩
 refine au [5,49] ?_
 exact qx (a14,c15)
theorem qj3 (F g1:Nat)(x2:List (qFm))(a3:qFn)(c4:(Nat×List (qFn×Nat)))(x5 x6 x7:Int)(x8:qFm)(a9:qFn)(c10:Nat)(x11:qFm)(r:(Int×qFm))(hm:qci F x2 x5 x6 x7 x8 x11=some r) :
    PureM qFv 64 [qFq g1] [⟨g1,85,[qFp a3 x2 c4.1,qFo x5,qFo x6,qFo x7,qFp a9 x8 c10,.string (bstr x11)]⟩] [] [SlN eN56 iN56 1 (qFp a3 x2 c4.1) x2 c4.2,qFr a9 x8 c10,GF] Unit (fun _=>qFo r.1) (fun _=>[⟨g1,85,[qFp a3 x2 c4.1,qFo x5,qFo x6,qFo x7,qFp a9 x8 c10,.string (bstr r.2)]⟩]) (fun _=>[]):=by
 refine pureMA func64 ntmps64 hm fun _=>?_
 refine au [64,81,48,4,112,30,11] ?_
 intro x14 e14 _
 refine aw [25,7,0,2,10] ?_ ?_
 exact az [45,58,25,14]
 refine au [82,28,4] ?_
 intro x22 e22 b23 o24 h25
 replace h25:a9=some ⟨b23,o24,none⟩:=h25
 refine qI [] [0] [0,1,2,3] 17 ?_
 refine au [70,15,2,15,3] ?_
 refine qB 4 (.agg #[.slice a3 x2.length c4.1]) rfl rfl rfl (qz (i:=0) rfl tf24 rfl rfl (by simp) rfl) ?_
 refine au [6,5,6,6,15,7,24,15,8] ?_
 refine vg 9 h25 e22 ?_
 refine qy 10 (qFo x22) [] rfl rfl rfl (qQ (j:=0) rfl tf3 rfl rfl (fun _=>rfl) rfl) ?_
 refine au [12,11] ?_
 refine qd qrj ?_
 rintro x26 e26 ⟨a27,c28⟩
 refine au [0,33,13,100,6,14,6,15,6,16,54,2] ?_
 refine qi [4] [] [] [1,2,3] (fun ((x43,_):qFm×Unit)=>([],[⟨g1,85,[qFp a3 x2 c4.1,qFo x5,qFo x6,qFo x7,qFp a9 x8 c10,.string (bstr x43)]⟩],[],[],j1 F x26 x43)) ?_ ?_
 refine au [48,89,112,37,12] ?_
 intro x44 e44 b45 o46
 refine au [25,2,26,5] ?_
 intro x47 e47 g48 h49
 refine kJ (j:=0) (y:=x47) (qC .i64) rfl rfl tf3 rfl h49 (qu e47).2.2 (fun _=>rfl) rfl rfl (vh EnC.e rfl rfl rfl (fun x50 e50=>qf2 x47 x50 e50) (.consF 4 rfl .nil) (fun x50 e50=>?_))
 intro _
 refine au [55,21,97,4,112] ?_
 refine vZ (j:=3) (qC .i64) (by decide) rfl UnF.u inferInstance rfl rfl rfl rfl ?_
 intro x51 e51 b52 o53
 refine au [25,2,26,5] ?_
 intro x54 e54 g55 h56
 refine kJ (j:=0) (y:=x54) (qC .i64) rfl rfl tf3 rfl h56 (qu e54).2.2 (fun _=>rfl) rfl rfl ?_
 refine aw [24,3,0,2,10] ?_ ?_
 refine au [3,4,55,87] ?_
 exact qa (([110,111,110,101]:qFm),())
 refine au [11] ?_
 exact qa (x50,())
 rintro ⟨x43,_⟩
 exact az [91,88]
theorem qlf (hm:qds F p1=some w1) :
    PureM qFv 174 [.agg #[qFp l1 p1 t1]] [] [] [SlN eN56 iN56 1 (qFp l1 p1 t1) p1 n1] (qFn×Nat) (fun g=>qFp g.1 w1 g.2) (fun _=>[]) (fun g=>[Ro eS63 63 2 (qFp g.1 w1 g.2) w1]):=by
 refine qdM func174 rfl ntmps174 rfl hm (fun w=>?_)
 refine au [64,23] ?_
 intro g4
 refine au [80,24,5] ?_
 intro g5
 refine au [46,1,45,25,10,30,7] ?_
 intro x35 e35 g36
 refine au [73] ?_
 refine qed (Int×Int) eS63 63 2 (qcr (encs:=(fun (p:Int×Int)=>[.agg #[qFo p.1,qFo p.2]])) (y:=(fun (x47:List (Int×Int)) ((x56,x57):Int×Int)=>qf6 F x47 x56 x57)) (lb:=[qFq g36]) (fun (x47:List (Int×Int)) ((a45,c46):qFn×Nat)=>[⟨g5,58,[qFp a45 x47 c46]⟩,⟨g4,24,[qFp l1 p1 t1]⟩]) (fun (x47:List (Int×Int)) ((a45,c46):qFn×Nat)=>[Ro eS63 63 2 (qFp a45 x47 c46) x47]) (fun (_:Empty) (_:Unit)=>[]) (fun (_:Empty) (_:Unit)=>[]) (fun _=>.skip) ([]:List (Int×Int)) (none,0) rfl EnC.e (fun _=>rfl) rfl (.cons 0 rfl .nil) (.cons 0 rfl (.cons 0 rfl .nil)) (.cons 0 rfl .nil) (.consF 0 rfl .nil) (fun z hz _ _ _ hY=>qei F hY ([]:List (Int×Int)) (none,0) g36 p1 l1 (t1,n1) z hz) ?_ ?_ ?_)
 rintro rc1 L1 D1 x47 ⟨a45,c46⟩ ⟨x56,x57⟩ z w M _
 try dsimp only
 refine qdQ [(0,.agg #[qFp l1 p1 t1]),(1,qFq g4),(2,.slice none 0 0),(3,qFq g5),(5,.agg #[qFp l1 p1 t1]),(6,.func (.func 159) #[] #[qFq g36]),(7,.agg #[qFo x56,qFo x57])] (qm rfl (qm rfl (qm rfl (qm rfl (qm rfl (qm rfl (qm rfl qea))))))) ?_
 refine au [3,24,5] ?_
 intro g58
 refine au [87,30,8,14,3,25,12,78,78] ?_
 refine qH [qFo x57,qFo x56] ?_
 refine qbl (vs:=[.agg #[qFo x57,qFo x56]]) (ys:=([(x57,x56)]:List (Int×Int))) qez (by decide) rfl underlying58 tf63 rfl rfl rfl rfl rfl (by decide) (fun a59 c60=>zA 1 qez rfl underlying58 tf63 rfl rfl rfl rfl rfl (.inl ⟨0,_,rfl⟩) rfl rfl (fun x61 e61 a62 c63=>?_))
 refine au [25,5,115] ?_
 exact vv (rc:=rc1) rfl (.cons 3 rfl .nil) rfl (a62,c63) (.cons 2 rfl (.cons 2 rfl (.cons 0 rfl (.cons 1 rfl .nil)))) (.cons 0 rfl .nil)
 rintro x47 _ ⟨a45,c46⟩ D1
 refine au [39,63,45,25,15,49] ?_
 exact jo [D1] (a45,c46) (.inl rfl) rfl (.cons 0 rfl .nil) (res1 rfl rfl) (fun h=>by subst h;rfl) (fun h=>by subst h;exact .nil) (fun h=>by subst h;exact (.cons 0 rfl .nil))
 intro t;exact t.elim
theorem qnU {r:(List (qFm)×Int)}(hm:qfh F p1=some r) :
    Pure qFv 128 [.agg #[qFp l1 p1 t1]] [SlN eN56 iN56 1 (qFp l1 p1 t1) p1 n1] (qFn×Nat×List (qFn×Nat)) (fun g=>.tuple #[.agg #[qFp g.1 r.1 g.2.1],qFo r.2]) (fun g=>[RoN eN56 rN56 56 1 (qFp g.1 r.1 g.2.1) r.1 g.2.2 []]) (fun _=>[]):=by
 refine pureA func128 ntmps128 hm fun _=>?_
 refine au [64,23] ?_
 intro g4
 refine au [24,5] ?_
 intro g5
 refine au [81,45,25,10,28,2] ?_
 intro x8 e8 _
 refine aw [5,0,2,1,3,4,25,3,0,2,10] ?_ ?_
 refine au [45] ?_
 refine qH [.slice none 0 0] ?_
 exact az [4,21,58,27,1,29,14]
 refine au [82] ?_
 refine qI [] [1] [0] 10 ?_
 refine au [109,28,3,2] ?_
 refine qB 3 (.agg #[.slice l1 p1.length t1]) rfl rfl rfl (qz (i:=0) rfl tf24 rfl rfl (by simp) rfl) ?_
 refine au [12,4] ?_
 refine qt qlf ?_
 rintro x20 e20 ⟨a21,c22⟩
 refine au [0,26,13,12,5,33,10] ?_
 intro x23 e23 g24
 refine au [0,26,14,12,6,33,11] ?_
 rintro x25 e25 ⟨a26,c27⟩
 refine au [0,26,14,12,7,33,12] ?_
 rintro x28 e28 ⟨a29,c30⟩
 refine au [0,26,14,12,8,25,5,0,26,14,6,9,54,2,8] ?_
 exact ku (a29,c30) 1
theorem qn7 (F:Nat)(x1:Int)(g2:Nat)(x3:qFm)(a4:qFn)(c5 g6:Nat)(x7:Int)(r:Bool)(hm:qhc F x1 x3 x7=some r) :
    PureM qFv 130 [qFo x1,qFq g2,qFq g6] [⟨g2,56,[qFp a4 x3 c5]⟩,⟨g6,3,[qFo x7]⟩] [] [qFr a4 x3 c5] Unit (fun _=>.bool r) (fun _=>[⟨g2,56,[qFp a4 x3 c5]⟩,⟨g6,3,[qFo x7]⟩]) (fun _=>[]):=by
 refine pureMA func130 ntmps130 hm fun _=>?_
 refine au [108,81,29,15] ?_
 intro x16 e16 b17 o18 h19
 replace h19:a4=some ⟨b17,o18,none⟩:=h19
 refine au [28,4] ?_
 intro x20 e20 b21 o22 h23
 replace h23:a4=some ⟨b21,o22,none⟩:=h23
 refine qI [] [0,0] [0,1,2] 11 ?_
 refine au [24,15,0,6,1] ?_
 refine vg 2 h19 e16 ?_
 refine qy 3 (qFo x16) [] rfl rfl rfl (qQ (j:=1) rfl tf3 rfl rfl (fun _=>rfl) rfl) ?_
 refine au [24,15,4,26,9,5] ?_
 refine vg 6 h23 e20 ?_
 refine qy 7 (qFo x20) [] rfl rfl rfl (qQ (j:=0) rfl tf3 rfl rfl (fun _=>rfl) rfl) ?_
 exact az [6,8,6,9,6,10,54,2,8,25,14]
theorem qcc (hm:kU F m1 m2 i1=some i2) :
    PureM qFv 129 [qFp l1 m1 t1,.func (.func 130) #[] #[qFq t2,qFq t4]] [⟨t2,56,[qFp l2 m2 t3]⟩,⟨t4,3,[qFo i1]⟩] [] [qFr l1 m1 t1,qFr l2 m2 t3] Unit (fun _=>qFo i2) (fun _=>[⟨t2,56,[qFp l2 m2 t3]⟩,⟨t4,3,[qFo i1]⟩]) (fun _=>[]):=by
 refine pureMA func129 ntmps129 hm fun _=>?_
 refine au [56,47] ?_
 refine qi [] [0,1] [] [1] (fun ((_,_):Unit×Unit)=>([],[],[],[],yL F)) ?_ ?_
 refine au [48,84] ?_
 refine qq [0,1,7] [0,0] [] [0,1] (fun ((x60,_):Int×Unit)=>([(8,qFo x60)],[],[],[])) (0:Int) () ?_
 intro k73
 rintro ⟨x60,_⟩
 refine aw [39,1,3,24,3,0,2,1,10] ?_ ?_
 refine au [83,48,59,89,26,3] ?_
 intro x80 e80 b81 o82
 refine au [25,2] ?_
 refine qfZ EnC.e rfl rfl rfl rfl (fun x83 e83=>qn7 F x80 t2 m2 l2 t3 t4 i1 x83 e83) (.cons 0 rfl (.cons 0 rfl .nil)) .nil (.consF 2 rfl .nil) (fun x83 e83 _=>?_)
 refine aw [0,2,10] ?_ ?_
 exact az [48,49,90,50,25,14]
 refine au [11,95] ?_
 exact qk (iadd .i64 x60 1,())
 exact az [71,26,8]
 rintro ⟨_,_⟩
 exact az [117,88]
theorem qrk {r:(qFm×Int)}(hm:qhb F p1 i1 i2=some r) :
    Pure qFv 92 [.agg #[qFp l1 p1 t1],qFo i1,qFo i2] [SlN eN56 iN56 1 (qFp l1 p1 t1) p1 n1] (qFn×Nat) (fun g=>.tuple #[qFp g.1 r.1 g.2,qFo r.2]) (fun g=>[qFs g.1 r.1 g.2]) (fun _=>[]):=by
 refine pureA func92 ntmps92 hm fun _=>?_
 refine au [108,23] ?_
 intro g6
 refine au [5,81,77,89] ?_
 refine zI [i1,i2] (fun a11 c12=>?_)
 refine au [37,10] ?_
 intro x13 e13 _
 refine aw [5,0,2,1,3,4,25,3,0,2,10] ?_ ?_
 refine au [48,5,99] ?_
 exact qx (none,0)
 refine au [57,77] ?_
 refine qd qnU ?_
 rintro x14 e14 ⟨a15,c16⟩
 refine au [4,79,24,5] ?_
 intro g17
 refine au [21,47,77,4,37,11] ?_
 rintro x18 e18 ⟨a19,c20⟩
 refine au [24,5] ?_
 intro g21
 refine au [21,46,1,45,18,4,26,5] ?_
 intro x26 e26 g27 h28
 refine kJ (j:=0) (y:=x26) (qC .i64) rfl rfl tf3 rfl h28 (qu e26).2.2 (fun _=>rfl) rfl rfl ?_
 refine aw [24,3,0,2,10] ?_ ?_
 refine au [45,5,99] ?_
 exact qx (none,0)
 refine au [57,48] ?_
 refine zI [i1] (fun a29 c30=>?_)
 refine au [47] ?_
 refine qN (fun ((x0,a0,c0):qFm×qFn×Nat)=>([(12,qFp a0 x0 c0)],[],[qFs a0 x0 c0],[],qgC F x0)) ?_ ?_
 refine au [48,24,5] ?_
 intro g0
 refine au [21,73] ?_
 refine qq [2,3,11] [1,2] [1] [0] (fun (((x2,x3),a1,c1,g1):(qFm×Int)×qFn×Nat×Nat)=>([(12,qFp a1 x2 c1),(13,qFq g1)],[⟨g1,3,[qFo x3]⟩],[qFs a1 x2 c1],[])) (([i1]:qFm),i1) (a29,c30,g0) ?_
 intro k0
 rintro ⟨⟨x2,x3⟩,a1,c1,g1⟩
 refine aw [39,1,1,3,25,15,4,25,3,0,2,10] ?_ ?_
 refine au [83,45,98,25,15,27,2] ?_
 intro x6 e0 g2 b0 o0
 refine au [25,2,27,5] ?_
 refine qt qcc ?_
 intro x7 e1 _
 refine au [47,3,110,25,12,37,13] ?_
 intro x8 e2 g3 b1 o1
 refine au [25,2,4,29,1] ?_
 intro x9 e3 b2 o2
 refine au [25,2,25,5,0,63,1,45,25,12,46,3,24,5] ?_
 intro g4
 refine au [21,46,3,4,18] ?_
 refine zI [x9] (fun a3 c2=>?_)
 refine zA 2 (qC .i64) rfl underlying56 tf3 rfl rfl rfl rfl rfl (.inl ⟨0,_,rfl⟩) rfl rfl (fun x10 e4 a4 c4=>?_)
 refine au [5,0] ?_
 exact qk ((x10,x9),a4,c4,g4)
 refine au [71] ?_
 exact qa (x2,a1,c1)
 rintro ⟨x0,a0,c0⟩
 refine au [91,5,49] ?_
 exact qx (a0,c0)
theorem qiH {r:(Int×qFm)}(hm:vN F p1 i1 i2 i3 m1 m2 m3 i4 i5=some r) :
    PureM qFv 93 [qFq t1,qFp l3 m3 t4,qFo i4,qFo i5] [⟨t1,85,[qFp l1 p1 t2,qFo i1,qFo i2,qFo i3,qFp l2 m1 t3,.string (bstr m2)]⟩] [] [SlN eN56 iN56 1 (qFp l1 p1 t2) p1 n1,qFr l2 m1 t3,qFr l3 m3 t4,GF] Unit (fun _=>qFo r.1) (fun _=>[⟨t1,85,[qFp l1 p1 t2,qFo i1,qFo i2,qFo i3,qFp l2 m1 t3,.string (bstr r.2)]⟩]) (fun _=>[]):=by
 refine pureMA func93 ntmps93 hm fun _=>?_
 refine au [28,7,45,47] ?_
 refine qi [] [] [] [0,1,3] (fun (((x19,x20),_):(Int×qFm)×Unit)=>([(2,qFo x19)],[⟨t1,85,[qFp l1 p1 t2,qFo i1,qFo i2,qFo i3,qFp l2 m1 t3,.string (bstr x20)]⟩],[],[],v8 F x19 x20)) ?_ ?_
 refine au [48,4,37,9] ?_
 intro x21 e21 _
 refine aw [0,2,1,3,4,4,25,6,0,2,10] ?_ ?_
 refine au [3,4,55,21,5,0] ?_
 exact qa (((0:Int),([110,111,110,101]:qFm)),())
 refine au [11] ?_
 exact qa ((i4,x21),())
 rintro ⟨⟨x19,x20⟩,_⟩
 exact az [91,88]
theorem qj5 (F g1:Nat)(x2:List (qFm))(a3:qFn)(c4:(Nat×List (qFn×Nat)))(x5 x6 x7:Int)(x8:qFm)(a9:qFn)(c10:Nat)(x11:qFm)(r:(Int×qFm))(hm:qck F x2 x5 x6 x7 x8 x11=some r) :
    PureM qFv 65 [qFq g1] [⟨g1,85,[qFp a3 x2 c4.1,qFo x5,qFo x6,qFo x7,qFp a9 x8 c10,.string (bstr x11)]⟩] [] [SlN eN56 iN56 1 (qFp a3 x2 c4.1) x2 c4.2,qFr a9 x8 c10,GF] Unit (fun _=>qFo r.1) (fun _=>[⟨g1,85,[qFp a3 x2 c4.1,qFo x5,qFo x6,qFo x7,qFp a9 x8 c10,.string (bstr r.2)]⟩]) (fun _=>[]):=by
 refine pureMA func65 ntmps65 hm fun _=>?_
 refine au [64,81,28,4] ?_
 intro x23 e23 b24 o25 h26
 replace h26:a9=some ⟨b24,o25,none⟩:=h26
 refine au [29,4] ?_
 intro x27 e27 b28 o29 h30
 replace h30:a9=some ⟨b28,o29,none⟩:=h30
 refine qI [] [0] [0,1,2,3,4] 23 ?_
 refine au [70,15,2,15,3] ?_
 refine qB 4 (.agg #[.slice a3 x2.length c4.1]) rfl rfl rfl (qz (i:=0) rfl tf24 rfl rfl (by simp) rfl) ?_
 refine au [6,5,6,6,15,7,24,15,8] ?_
 refine vg 9 h26 e23 ?_
 refine qy 10 (qFo x23) [] rfl rfl rfl (qQ (j:=1) rfl tf3 rfl rfl (fun _=>rfl) rfl) ?_
 refine au [6,11,6,12,15,13,24,15,14] ?_
 refine vg 15 h30 e27 ?_
 refine qy 16 (qFo x27) [] rfl rfl rfl (qQ (j:=0) rfl tf3 rfl rfl (fun _=>rfl) rfl) ?_
 refine au [12,17] ?_
 refine qd qrk ?_
 rintro x31 e31 ⟨a32,c33⟩
 refine au [0] ?_
 refine zJ [0] [0,1,2,3,4] ?_
 refine au [6,18,6,19,6,20,6,21,6,22,54,2,48,89,37,14] ?_
 intro x34 e34 _
 exact az [88]
theorem qdT (F g1 g2:Nat)(x3:List (qFm))(a4:qFn)(c5:(Nat×List (qFn×Nat)))(x6 x7 x8:Int)(x9:qFm)(a10:qFn)(c11:Nat)(x12:qFm)(g13:Nat)(r:(Int×qFm))(hm:kL F x3 x6 x7 x8 x9 x12=some r) :
    PureM qFv 94 [qFq g1,qFq g13] [⟨g1,83,[qFq g2]⟩,⟨g2,85,[qFp a4 x3 c5.1,qFo x6,qFo x7,qFo x8,qFp a10 x9 c11,.string (bstr x12)]⟩,⟨g13,107,[.func (.func 67) #[] #[]]⟩] [] [SlN eN56 iN56 1 (qFp a4 x3 c5.1) x3 c5.2,qFr a10 x9 c11,GF] Unit (fun _=>qFo r.1) (fun _=>[⟨g2,85,[qFp a4 x3 c5.1,qFo x6,qFo x7,qFo x8,qFp a10 x9 c11,.string (bstr r.2)]⟩,⟨g1,83,[qFq g2]⟩,⟨g13,107,[.func (.func 67) #[] #[]]⟩]) (fun _=>[]):=by
 refine pureMA func94 ntmps94 hm fun _=>?_
 refine au [56,81,1,28,4] ?_
 intro x36 e36 b37 o38 h39
 replace h39:a10=some ⟨b37,o38,none⟩:=h39
 refine au [37,15,24,15,0,24,15,1,6,2,15,3,26,9,4] ?_
 refine vg 5 h39 e36 ?_
 refine qy 6 (qFo x36) [] rfl rfl rfl (qQ (j:=0) rfl tf3 rfl rfl (fun _=>rfl) rfl) ?_
 refine au [12,7] ?_
 refine zI [x36] (fun a40 c41=>?_)
 refine au [0,31,2,12,8,30,11] ?_
 intro x42 e42 _
 refine aw [0,38,0,6,9,16,19,2,10] ?_ ?_
 exact az [45,58,25,14]
 refine au [82,38,1,28,12,0,26,9,1,6,2,15,3,15,4] ?_
 refine qB 5 (.agg #[.slice a4 x3.length c5.1]) rfl rfl rfl (qz (i:=0) rfl tf24 rfl rfl (by simp) rfl) ?_
 refine au [12,6] ?_
 refine qkA EnC.e rfl rfl rfl rfl (fun x46 e46=>qlj F x3 a4 c5 x46 e46) (.consF 1 rfl .nil) (fun x46 e46=>?_)
 rintro ⟨a47,c48⟩
 refine au [0,31,2,6,7,6,8,6,9,6,10,65,2,1,29,4] ?_
 intro x58 e58 b59 o60 h61
 replace h61:a10=some ⟨b59,o60,none⟩:=h61
 refine au [30,0] ?_
 intro x62 e62 g63 h64
 replace h64:a47=some ⟨g63,0,none⟩:=h64
 have h65:=zM (k:=x46.1.length) (c:=c48) h64
 refine kD mixed [13] _ _ (.cons 1 rfl (.cons 1 rfl .nil)) (qg 0 rfl (qg 1 rfl (qg 2 rfl (qg 3 rfl (qg 4 rfl (qE 0 rfl (qo (qC .i64) e62 h64) (qgV 0 rfl qf))))))) 14 rfl ?_
 refine au [24,15,0,6,1,24,15,2,6,3,15,4] ?_
 refine qy 5 (qFp a10 x9 c11) [[13]] rfl rfl rfl (kX (j:=6) rfl tf56 rfl rfl (fun _=>rfl) rfl) (vg 6 h61 e58 ?_)
 refine qy 7 (qFo x58) [[13]] rfl rfl rfl (qQ (j:=0) rfl tf3 rfl rfl (fun _=>rfl) rfl) (jN 8 h64 e62 ?_)
 refine qy 9 (qFo x62) [[13]] rfl rfl rfl (qQ (j:=5) rfl tf3 rfl rfl (fun _=>rfl) rfl) ?_
 refine au [12,10] ?_
 refine vh EnC.e rfl rfl rfl (fun x66 e66=>qf2 x62 x66 e66) (.consF 4 rfl .nil) (fun x66 e66 _=>?_)
 refine au [0] ?_
 refine qc (.cons 1 rfl (.cons 1 rfl .nil)) (qg 0 rfl (qg 1 rfl (qg 2 rfl (qg 3 rfl (qg 4 rfl (qE 0 rfl (qo (qC .i64) e62 h64) (qgV 0 rfl qf))))))) ?_
 exact az [6,11,15,12,12,13,87,38,2,54,2,48,88]
theorem qkU {r:(qFm×qFm×Int)}(hm:qcG F p1=some r) :
    PureM qFv 133 [.agg #[qFp l1 p1 t1]] [] [] [SlN eN56 iN56 1 (qFp l1 p1 t1) p1 n1] ((qFn×Nat)×qFn×Nat) (fun g=>.tuple #[qFp g.1.1 r.1 g.1.2,qFp g.2.1 r.2.1 g.2.2,qFo r.2.2]) (fun _=>[]) (fun g=>[qFs g.1.1 r.1 g.1.2,qFs g.2.1 r.2.1 g.2.2]):=by
 refine qdM func133 rfl ntmps133 rfl hm (fun w=>?_)
 refine au [64,23] ?_
 intro g4
 refine au [24,5] ?_
 intro g5
 refine au [24,5] ?_
 intro g6
 refine au [81,45,26,7,28,2] ?_
 intro x9 e9 _
 refine aw [5,0,2,1,3,4,25,3,0,2,10] ?_ ?_
 refine au [48,25,5,21,99,25,8] ?_
 exact jo [] ((none,0),none,0) (.inl rfl) rfl .nil (resL (rs:=[.cell 2 56,.cell 3 56,.tmp 4]) rfl (.cell (i:=1) rfl tf56 rfl rfl (fun _=>rfl) rfl (.cell (i:=0) rfl tf56 rfl rfl (fun _=>rfl) rfl (.tmp rfl ResOk.nil))) rfl) (fun h=>by subst h;rfl) (fun h=>by subst h;exact .nil) (fun h=>by subst h;exact (.cons 0 rfl (.cons 0 rfl .nil)))
 refine au [57] ?_
 refine qi [1,2,3,4] [2] [] [0] (fun (((x27,x30),a25,c26,a28,c29):(qFm×qFm)×qFn×Nat×qFn×Nat)=>([],[⟨g6,56,[qFp a25 x27 c26]⟩,⟨g5,56,[qFp a28 x30 c29]⟩],[qFs a25 x27 c26,qFs a28 x30 c29],[],qcP F p1 x27 x30)) ?_ ?_
 refine qI [] [2] [0] 10 ?_
 refine au [109,28,3,2,15,4,24,15,5,28,3,6] ?_
 refine yZ 3 7 rfl rfl (by kernel_rfl) rfl rfl ?_ ?_
 refine au [26,1] ?_
 intro x0 e0 a0 c0
 refine au [0,26,14] ?_
 refine yZ 7 8 rfl rfl (by kernel_rfl) rfl rfl ?_ ?_
 refine au [26,1] ?_
 intro x2 e1 a1 c1
 refine au [0,26,14,12,8,25,5,0,26,14,12,9,87,26,14,54] ?_
 exact qa ((x2,x0),a1,c1,a0,c0)
 refine au [25,5,0,26,14,12,7,26,1] ?_
 intro x3 e2 a3 c2
 refine au [0,26,14,12,9,87,26,14,54] ?_
 exact qa ((x3,x0),a3,c2,a0,c0)
 refine qeE pull1 ?_
 refine au [26,1] ?_
 intro x4 e3 a4 c4
 refine au [0,26,14,12,3,26,1] ?_
 intro x5 e4 a5 c5
 refine au [0,26,14,12,8,25,5,0,26,14,12,9,87,26,14,54] ?_
 exact qa ((x4,x5),a4,c4,a5,c5)
 rintro ⟨⟨x27,x30⟩,a25,c26,a28,c29⟩
 refine au [39,1,77,30,7] ?_
 intro x98 e98 g99
 refine au [73] ?_
 refine qcr (encs:=(fun (p:Int×Int)=>[.agg #[qFo p.1,qFo p.2]])) (y:=(fun ((x6,x7):(qFm×qFm)) ((x8,x10):Int×Int)=>vP F x6 x7 x8 x10)) (lb:=[qFq g99]) (fun ((x6,x7):(qFm×qFm)) (_:Unit)=>[⟨g4,24,[qFp l1 p1 t1]⟩,⟨g6,56,[qFp a25 x6 c26]⟩,⟨g5,56,[qFp a28 x7 c29]⟩]) (fun ((x6,x7):(qFm×qFm)) (_:Unit)=>[qFs a25 x6 c26,qFs a28 x7 c29]) (fun (_:Empty) (_:Unit)=>[]) (fun (_:Empty) (_:Unit)=>[]) (fun _=>.skip) (x27,x30) () rfl EnC.e (fun _=>rfl) rfl (.cons 0 rfl .nil) (.cons 0 rfl (.cons 0 rfl (.cons 0 rfl .nil))) (.cons 0 rfl (.cons 0 rfl .nil)) (.consF 0 rfl .nil) (fun z hz _ _ _ hY=>qei F hY (x27,x30) () g99 p1 l1 (t1,n1) z hz) ?_ ?_ ?_
 rintro rc1 L1 D1 ⟨x6,x7⟩ _ ⟨x8,x10⟩ z w M _
 try dsimp only
 refine qdQ [(1,qFq g4),(2,qFq g5),(3,qFq g6),(4,qFo 0),(20,.agg #[qFp l1 p1 t1]),(21,.func (.func 159) #[] #[qFq g99]),(22,.agg #[qFo x8,qFo x10])] (qm rfl (qm rfl (qm rfl (qm rfl (qm rfl (qm rfl (qm rfl qea))))))) ?_
 refine au [3,24,5] ?_
 intro g0
 refine au [87,34,9,14,45,28,13,78,28,11] ?_
 intro x11 e5 g1 h0
 refine kJ (j:=1) (y:=x11) (qC .i64) rfl rfl tf3 rfl h0 (qu e5).2.2 (fun _=>rfl) rfl rfl ?_
 refine au [24,0,28,11] ?_
 intro x12 e6 g2 h1
 refine kz (j:=1) (y':=iadd .i64 x11 1) (qC .i64) rfl rfl rfl tf3 rfl h1 (qu e6).2.1 rfl (fun x13 e7 h2=>?_)
 have h3:x13.length=x7.length:=by rw[← e7,qCJ]
 refine qs (d:=23) (v:=qFp a28 x13 c29) rfl h2 (q5 (i:=3) (cs':=[qFp a28 x13 c29]) rfl (by simp only[qFp,h2] <;> rfl) ?_)
 refine au [46,3,25,15,78,28,11] ?_
 intro x14 e8 g3 h4
 refine kJ (j:=1) (y:=x14) (qC .i64) rfl rfl tf3 rfl h4 (qu e8).2.2 (fun _=>rfl) rfl rfl ?_
 refine au [24,0,28,11] ?_
 intro x15 e10 g7 h5
 refine kz (j:=1) (y':=iadd .i64 x14 1) (qC .i64) rfl rfl rfl tf3 rfl h5 (qu e10).2.1 rfl (fun x16 e11 h6=>?_)
 have h7:x16.length=x6.length:=by rw[← e11,qCJ]
 refine qs (d:=30) (v:=qFp a25 x16 c26) rfl h6 (q5 (i:=2) (cs':=[qFp a25 x16 c26]) rfl (by simp only[qFp,h6] <;> rfl) ?_)
 refine au [115] ?_
 exact vv (rc:=rc1) rfl (.cons 4 rfl .nil) rfl () (.cons 2 rfl (.cons 2 rfl (.cons 2 rfl (.cons 0 rfl (.cons 1 rfl .nil))))) (.cons 0 rfl (.cons 0 rfl .nil))
 rintro ⟨x6,x7⟩ _ _ D1
 refine au [39,63,1,38,3] ?_
 refine qB 0 _ rfl rfl rfl (qz (i:=4) rfl inferInstance rfl rfl (fun _=>rfl) rfl) ?_
 refine au [32,0,1,12,2] ?_
 refine kP (i:=4) rfl rfl rfl inferInstance rfl rfl rfl rfl rfl ?_
 refine au [0,29,6,12,3,30,2,0,29,6,6,4,54,2,8] ?_
 exact jo [D1] ((a28,c29),a25,c26) (.inl rfl) rfl (.cons 0 rfl .nil) (resL (rs:=[.cell 2 56,.cell 3 56,.tmp 4]) rfl (.cell (i:=3) rfl tf56 rfl rfl (fun _=>rfl) rfl (.cell (i:=2) rfl tf56 rfl rfl (fun _=>rfl) rfl (.tmp rfl ResOk.nil))) rfl) (fun h=>by subst h;rfl) (fun h=>by subst h;exact .nil) (fun h=>by subst h;exact (.cons 1 rfl (.cons 0 rfl .nil)))
 intro t;exact t.elim
theorem qli {r:(qFm×Int)}(hm:qdB F p1=some r) :
    Pure qFv 96 [.agg #[qFp l1 p1 t1]] [SlN eN56 iN56 1 (qFp l1 p1 t1) p1 n1] (qFn×Nat) (fun g=>.tuple #[qFp g.1 r.1 g.2,qFo r.2]) (fun g=>[qFs g.1 r.1 g.2]) (fun _=>[]):=by
 refine pureA func96 ntmps96 hm fun _=>?_
 refine au [64,23] ?_
 intro g4
 refine au [5,47,77] ?_
 refine qt qkU ?_
 rintro x5 e5 ⟨⟨a6,c7⟩,a8,c9⟩
 refine aw [4,22,22,22,5,5,5,0,2,1,1,3,4,25,3,0,2,10] ?_ ?_
 refine au [48,5,99] ?_
 exact qx (none,0)
 refine au [96,47] ?_
 refine qN (fun ((x0,a0,c0):qFm×qFn×Nat)=>([(7,qFp a0 x0 c0)],[],[qFs a0 x0 c0],[],qfP F x0)) ?_ ?_
 refine au [14,27,12] ?_
 refine qq [1] [0] [] [0] (fun (((x2,x3),a1,c1):(qFm×qFm)×qFn×Nat)=>([(5,qFp a8 x2 c9),(7,qFp a1 x3 c1)],[],[qFs a8 x2 c9,qFs a1 x3 c1],[])) (x5.2.1,([]:qFm)) (none,0) ?_
 intro k0
 rintro ⟨⟨x2,x3⟩,a1,c1⟩
 refine aw [39,1,1,3,4,24,6,4,24,6,24,3,0,2,10] ?_ ?_
 refine au [57,14,48,31,6] ?_
 intro x4 e0 _
 refine aw [5,0,2,1,1,3,4,24,3,0,2,10] ?_ ?_
 refine au [45,5,58,50,50,25,8] ?_
 exact qx (none,0)
 refine au [57,48,4,26,5] ?_
 intro x6 e1 g0 h0
 refine kz (j:=0) (y':=-1) (qC .i64) rfl rfl rfl tf3 rfl h0 (qu e1).2.1 rfl (fun x7 e2 h1=>?_)
 have h2:x7.length=x2.length:=by rw[← e2,qCJ]
 refine qs (d:=5) (v:=qFp a8 x7 c9) rfl h1 (qs (d:=22) (v:=qFp a8 x7 c9) rfl h1 (qs (d:=25) (v:=qFp a8 x7 c9) rfl h1 (qs (d:=29) (v:=qFp a8 x7 c9) rfl h1 ?_)))
 refine au [46] ?_
 refine qi [1,7,8] [0] [1] [0] (fun ((x8,_):qFm×Unit)=>([(5,qFp a8 x8 c9)],[],[qFs a8 x8 c9],[],qaK F (vS F p1 k0) x3 x4 x8)) ?_ ?_
 refine au [45,78,4,27,2] ?_
 intro x9 e3 g1 b0 o0
 refine au [25,2,84] ?_
 refine qq [1,7,8,36,37] [0] [1] [1,2] (fun (((x10,x11),_):(qFm×Int)×Unit)=>([(5,qFp a8 x10 c9),(38,qFo x11)],[],[qFs a8 x10 c9],[])) (x7,(0:Int)) () ?_
 intro k1
 rintro ⟨⟨x10,x11⟩,_⟩
 refine aw [39,1,3,24,3,0,2,1,10] ?_ ?_
 refine au [83,45,26,3] ?_
 intro x12 e4 b1 o1
 refine au [25,2,47,3,89,28,11] ?_
 intro x13 e6 g2 h3
 refine kJ (j:=1) (y:=x13) (qC .i64) rfl rfl tf3 rfl h3 (qu e6).2.2 (fun _=>rfl) rfl rfl ?_
 refine au [25,9,28,11] ?_
 intro x14 e7 g3 h4
 refine kz (j:=1) (y':=isub .i64 x13 1) (qC .i64) rfl rfl rfl tf3 rfl h4 (qu e7).2.1 rfl (fun x15 e8 h5=>?_)
 have h6:x15.length=x10.length:=by rw[← e8,qCJ]
 refine qs (d:=5) (v:=qFp a8 x15 c9) rfl h5 (qs (d:=42) (v:=qFp a8 x15 c9) rfl h5 ?_)
 refine au [0,95] ?_
 exact qk ((x15,iadd .i64 x11 1),())
 refine au [71] ?_
 exact qa (x10,())
 rintro ⟨x8,_⟩
 refine au [39,3,89] ?_
 refine zI [x4] (fun a3 c2=>?_)
 refine zA 1 (qC .i64) rfl underlying56 tf3 rfl rfl rfl rfl rfl (.inl ⟨0,_,rfl⟩) rfl rfl (fun x16 e9 a4 c4=>?_)
 refine au [5,115] ?_
 exact qk ((x8,x16),a4,c4)
 refine au [71] ?_
 exact qa (x3,a1,c1)
 rintro ⟨x0,a0,c0⟩
 refine au [91,5,49] ?_
 exact qx (a0,c0)
theorem qiJ (F g1:Nat)(x2:List (qFm))(a3:qFn)(c4:(Nat×List (qFn×Nat)))(x5 x6 x7:Int)(x8:qFm)(a9:qFn)(c10:Nat)(x11:qFm)(r:(Int×qFm))(hm:qaA F x2 x5 x6 x7 x8 x11=some r) :
    PureM qFv 68 [qFq g1] [⟨g1,85,[qFp a3 x2 c4.1,qFo x5,qFo x6,qFo x7,qFp a9 x8 c10,.string (bstr x11)]⟩] [] [SlN eN56 iN56 1 (qFp a3 x2 c4.1) x2 c4.2,qFr a9 x8 c10,GF] Unit (fun _=>qFo r.1) (fun _=>[⟨g1,85,[qFp a3 x2 c4.1,qFo x5,qFo x6,qFo x7,qFp a9 x8 c10,.string (bstr r.2)]⟩]) (fun _=>[]):=by
 refine pureMA func68 ntmps68 hm fun _=>?_
 refine au [64,59,55,9,24,9] ?_
 refine qd qli ?_
 rintro x12 e12 ⟨a13,c14⟩
 refine au [4,79,5,59,89,37,14] ?_
 intro x15 e15 _
 exact az [88]
theorem qdS (F g1 g2:Nat)(x3:List (qFm))(a4:qFn)(c5:(Nat×List (qFn×Nat)))(x6 x7 x8:Int)(x9:qFm)(a10:qFn)(c11:Nat)(x12:qFm)(g13:Nat)(r:(Int×qFm))(hm:kK F x3 x6 x7 x8 x9 x12=some r) :
    PureM qFv 94 [qFq g1,qFq g13] [⟨g1,83,[qFq g2]⟩,⟨g2,85,[qFp a4 x3 c5.1,qFo x6,qFo x7,qFo x8,qFp a10 x9 c11,.string (bstr x12)]⟩,⟨g13,107,[.func (.func 69) #[] #[]]⟩] [] [SlN eN56 iN56 1 (qFp a4 x3 c5.1) x3 c5.2,qFr a10 x9 c11,GF] Unit (fun _=>qFo r.1) (fun _=>[⟨g2,85,[qFp a4 x3 c5.1,qFo x6,qFo x7,qFo x8,qFp a10 x9 c11,.string (bstr r.2)]⟩,⟨g1,83,[qFq g2]⟩,⟨g13,107,[.func (.func 69) #[] #[]]⟩]) (fun _=>[]):=by
 refine pureMA func94 ntmps94 hm fun _=>?_
 refine au [56,81,1,28,4] ?_
 intro x36 e36 b37 o38 h39
 replace h39:a10=some ⟨b37,o38,none⟩:=h39
 refine au [37,15,24,15,0,24,15,1,6,2,15,3,26,9,4] ?_
 refine vg 5 h39 e36 ?_
 refine qy 6 (qFo x36) [] rfl rfl rfl (qQ (j:=0) rfl tf3 rfl rfl (fun _=>rfl) rfl) ?_
 refine au [12,7] ?_
 refine zI [x36] (fun a40 c41=>?_)
 refine au [0,31,2,12,8,30,11] ?_
 intro x42 e42 _
 refine aw [0,38,0,6,9,16,19,2,10] ?_ ?_
 exact az [45,58,25,14]
 refine au [82,38,1,28,12,0,26,9,1,6,2,15,3,15,4] ?_
 refine qB 5 (.agg #[.slice a4 x3.length c5.1]) rfl rfl rfl (qz (i:=0) rfl tf24 rfl rfl (by simp) rfl) ?_
 refine au [12,6] ?_
 refine qkA EnC.e rfl rfl rfl rfl (fun x46 e46=>qlb F x3 a4 c5 x46 e46) (.consF 1 rfl .nil) (fun x46 e46=>?_)
 rintro ⟨a47,c48⟩
 refine au [0,31,2,6,7,6,8,6,9,6,10,65,2,1,29,4] ?_
 intro x58 e58 b59 o60 h61
 replace h61:a10=some ⟨b59,o60,none⟩:=h61
 refine au [30,0] ?_
 intro x62 e62 g63 h64
 replace h64:a47=some ⟨g63,0,none⟩:=h64
 have h65:=zM (k:=x46.1.length) (c:=c48) h64
 refine kD mixed [13] _ _ (.cons 1 rfl (.cons 1 rfl .nil)) (qg 0 rfl (qg 1 rfl (qg 2 rfl (qg 3 rfl (qg 4 rfl (qE 0 rfl (qo (qC .i64) e62 h64) (qgV 0 rfl qf))))))) 14 rfl ?_
 refine au [24,15,0,6,1,24,15,2,6,3,15,4] ?_
 refine qy 5 (qFp a10 x9 c11) [[13]] rfl rfl rfl (kX (j:=6) rfl tf56 rfl rfl (fun _=>rfl) rfl) (vg 6 h61 e58 ?_)
 refine qy 7 (qFo x58) [[13]] rfl rfl rfl (qQ (j:=0) rfl tf3 rfl rfl (fun _=>rfl) rfl) (jN 8 h64 e62 ?_)
 refine qy 9 (qFo x62) [[13]] rfl rfl rfl (qQ (j:=5) rfl tf3 rfl rfl (fun _=>rfl) rfl) ?_
 refine au [12,10] ?_
 refine vh EnC.e rfl rfl rfl (fun x66 e66=>qf2 x62 x66 e66) (.consF 4 rfl .nil) (fun x66 e66 _=>?_)
 refine au [0] ?_
 refine qc (.cons 1 rfl (.cons 1 rfl .nil)) (qg 0 rfl (qg 1 rfl (qg 2 rfl (qg 3 rfl (qg 4 rfl (qE 0 rfl (qo (qC .i64) e62 h64) (qgV 0 rfl qf))))))) ?_
 exact az [6,11,15,12,12,13,87,38,2,54,2,48,88]
theorem qmv {r:Unit}(hm:qgl F p1=some r) :
    PureM qFv 136 [qFp l1 p1 t1] [] [] [SlN eN56 iN56 1 (qFp l1 p1 t1) p1 n1] Nat (fun g=>.func (.func 179) #[] #[qFq g]) (fun g=>[⟨g,22,[qFp l1 p1 t1]⟩]) (fun _=>[]):=by
 refine pureMA func136 ntmps136 hm fun _=>?_
 refine au [64,23] ?_
 intro g4
 refine au [80,27,5,49] ?_
 exact qK g4
theorem qkT (F:Nat){σ τ:Type}{J:Rounds σ τ}{yy:σ→qFm→Option (σ ⊕ τ)}{L:Nat}(hY:YieldC qFv L (fun (p:qFm)=>[.agg (p.flatMap (eI .i64)).toArray]) J yy)(s0:σ)(gs0:J.γ)(g1:Nat)(x2:List (qFm))(a3:qFn)(c4:(Nat×List (qFn×Nat)))(r:σ ⊕ τ)(hm:qeW F yy x2 s0=some r) :
    PureM qFv 179 ([.func (.yield L) #[] #[],qFq g1]) ([⟨g1,22,[qFp a3 x2 c4.1]⟩]++J.IB s0 gs0) (J.IR s0 gs0) [J.F,SlN eN56 iN56 1 (qFp a3 x2 c4.1) x2 c4.2] (J.G r) (fun _=>.tuple #[]) (fun g=>[⟨g1,22,[qFp a3 x2 c4.1]⟩]++J.bs r g) (fun g=>J.rs r g):=by
 refine pureMA func179 ntmps179 hm fun _=>?_
 refine au [56,18,84] ?_
 refine jm (fun (((x0,x1),g0):(Int×σ)×J.γ)=>[(0,.func (.yield L) #[] #[]),(1,qFq g1),(11,qFp a3 x2 c4.1),(12,qFo (x2.length:Int)),(13,qFo x0)]) (fun (((x0,x1),g0):(Int×σ)×J.γ)=>[⟨g1,22,[qFp a3 x2 c4.1]⟩]++J.IB x1 g0) (fun (((x0,x1),g0):(Int×σ)×J.γ)=>[]++J.IR x1 g0) (fun (((x0,x1),g0):(Int×σ)×J.γ)=>[SlN eN56 iN56 1 (qFp a3 x2 c4.1) x2 c4.2,J.F]) (fun k (s:(Int×σ)×J.γ)=>qL F yy x2 k s.1) ((0,s0),gs0) F ?_ (hB:=(.cons 0 rfl (qe 0 rfl))) (hR:=(qe 0 rfl)) (hF:=(qh 1 rfl (qh 0 rfl zG)))
 intro k0
 rintro ⟨⟨x0,x1⟩,g0⟩
 try dsimp only
 refine qbR (m':=ju F yy x2 (qL F yy x2 k0) x0 x1) rfl ?_
 refine aw [1,3,24,3,0,2,1,10] ?_ ?_
 refine au [57] ?_
 refine qdP (fun ((x3,g2):σ×J.γ)=>[(0,.func (.yield L) #[] #[]),(1,qFq g1),(11,qFp a3 x2 c4.1),(12,qFo (x2.length:Int)),(13,qFo x0)]) (fun ((x3,g2):σ×J.γ)=>[⟨g1,22,[qFp a3 x2 c4.1]⟩]++J.IB x3 g2) (fun ((x3,g2):σ×J.γ)=>[]++J.IR x3 g2) (fun ((x3,g2):σ×J.γ)=>[SlN eN56 iN56 1 (qFp a3 x2 c4.1) x2 c4.2,J.F]) (fun ((x3,_):σ×J.γ)=>jx F yy (qL F yy x2 k0) x0 x3) ?_ ?_
 refine au [14,48,27,2] ?_
 intro x4 e0 g3 b0 o0
 refine au [25,2,5,59,84] ?_
 refine jm (fun (((x5,x6),g4):(Int×σ)×J.γ)=>[(0,.func (.yield L) #[] #[]),(1,qFq g1),(3,qFo x0),(4,qFp g3.1 x4 g3.2),(11,qFp a3 x2 c4.1),(12,qFo (x2.length:Int)),(13,qFo x0),(18,qFp g3.1 x4 g3.2),(19,qFo (x4.length:Int)),(20,qFo x5)]) (fun (((x5,x6),g4):(Int×σ)×J.γ)=>[⟨g1,22,[qFp a3 x2 c4.1]⟩]++J.IB x6 g4) (fun (((x5,x6),g4):(Int×σ)×J.γ)=>[]++J.IR x6 g4) (fun (((x5,x6),g4):(Int×σ)×J.γ)=>[qFr g3.1 x4 g3.2,SlN eN56 iN56 1 (qFp a3 x2 c4.1) x2 c4.2,J.F]) (fun k (s:(Int×σ)×J.γ)=>za F yy (qL F yy x2 k0) x2 x0 x4 k s.1) ((0,x1),g0) F ?_ (hB:=(.cons 0 rfl (qe 0 rfl))) (hR:=(qe 0 rfl)) (hF:=(qh 1 rfl (qh 2 rfl (qh 3 rfl zG))))
 intro k1
 rintro ⟨⟨x5,x6⟩,g4⟩
 try dsimp only
 refine qbR (m':=jv F yy (qL F yy x2 k0) x2 x0 x4 (za F yy (qL F yy x2 k0) x2 x0 x4 k1) x5 x6) rfl ?_
 refine aw [1,3,24,3,0,2,1,10] ?_ ?_
 refine au [57] ?_
 refine qdP (fun ((x7,g5):σ×J.γ)=>[(0,.func (.yield L) #[] #[]),(1,qFq g1),(3,qFo x0),(4,qFp g3.1 x4 g3.2),(11,qFp a3 x2 c4.1),(12,qFo (x2.length:Int)),(13,qFo x0),(18,qFp g3.1 x4 g3.2),(19,qFo (x4.length:Int)),(20,qFo x5)]) (fun ((x7,g5):σ×J.γ)=>[⟨g1,22,[qFp a3 x2 c4.1]⟩]++J.IB x7 g5) (fun ((x7,g5):σ×J.γ)=>[]++J.IR x7 g5) (fun ((x7,g5):σ×J.γ)=>[qFr g3.1 x4 g3.2,SlN eN56 iN56 1 (qFp a3 x2 c4.1) x2 c4.2,J.F]) (fun ((x7,_):σ×J.γ)=>jy F yy (za F yy (qL F yy x2 k0) x2 x0 x4 k1) x5 x7) ?_ ?_
 refine au [14,48,26,3] ?_
 intro x8 e1 b1 o1
 refine au [25,2,5,59,113] ?_
 refine qo4 (j:=1) (qC .i64) rfl UnF.u inferInstance rfl rfl rfl rfl rfl ?_
 intro x9 e2 a0 c0
 refine au [84] ?_
 refine jm (fun (((x10,x11),g6):(Int×σ)×J.γ)=>[(0,.func (.yield L) #[] #[]),(1,qFq g1),(3,qFo x0),(4,qFp g3.1 x4 g3.2),(6,qFo x8),(11,qFp a3 x2 c4.1),(12,qFo (x2.length:Int)),(13,qFo x0),(18,qFp g3.1 x4 g3.2),(19,qFo (x4.length:Int)),(20,qFo x5),(28,qFp a0 x9 c0),(29,qFo (x9.length:Int)),(30,qFo x10)]) (fun (((x10,x11),g6):(Int×σ)×J.γ)=>[⟨g1,22,[qFp a3 x2 c4.1]⟩]++J.IB x11 g6) (fun (((x10,x11),g6):(Int×σ)×J.γ)=>[]++J.IR x11 g6) (fun (((x10,x11),g6):(Int×σ)×J.γ)=>[qFr g3.1 x4 g3.2,SlN eN56 iN56 1 (qFp a3 x2 c4.1) x2 c4.2,qFr a0 x9 c0,J.F]) (fun k (s:(Int×σ)×J.γ)=>yc F yy (za F yy (qL F yy x2 k0) x2 x0 x4 k1) x2 x0 x5 x8 x9 k s.1) ((0,x6),g4) F ?_ (hB:=(.cons 0 rfl (qe 0 rfl))) (hR:=(qe 0 rfl)) (hF:=(qh 2 rfl (qh 3 rfl (qh 0 rfl (qh 4 rfl zG)))))
 intro k2
 rintro ⟨⟨x10,x11⟩,g6⟩
 try dsimp only
 refine qbR (m':=jw F yy (za F yy (qL F yy x2 k0) x2 x0 x4 k1) x2 x0 x5 x8 x9 (yc F yy (za F yy (qL F yy x2 k0) x2 x0 x4 k1) x2 x0 x5 x8 x9 k2) x10 x11) rfl ?_
 refine aw [1,3,24,3,0,2,1,10] ?_ ?_
 refine au [57] ?_
 refine qdP (fun ((x12,g7):σ×J.γ)=>[(0,.func (.yield L) #[] #[]),(1,qFq g1),(3,qFo x0),(4,qFp g3.1 x4 g3.2),(6,qFo x8),(11,qFp a3 x2 c4.1),(12,qFo (x2.length:Int)),(13,qFo x0),(18,qFp g3.1 x4 g3.2),(19,qFo (x4.length:Int)),(20,qFo x5),(28,qFp a0 x9 c0),(29,qFo (x9.length:Int)),(30,qFo x10)]) (fun ((x12,g7):σ×J.γ)=>[⟨g1,22,[qFp a3 x2 c4.1]⟩]++J.IB x12 g7) (fun ((x12,g7):σ×J.γ)=>[]++J.IR x12 g7) (fun ((x12,g7):σ×J.γ)=>[qFr g3.1 x4 g3.2,SlN eN56 iN56 1 (qFp a3 x2 c4.1) x2 c4.2,qFr a0 x9 c0,J.F]) (fun ((x12,_):σ×J.γ)=>jz F yy (yc F yy (za F yy (qL F yy x2 k0) x2 x0 x4 k1) x2 x0 x5 x8 x9 k2) x10 x12) ?_ ?_
 refine au [14,45,37,12] ?_
 intro x13 e3 b2 o2
 refine au [25,2,80,18,4,37,13] ?_
 intro x14 e4 g8 b3 o3
 refine au [25,2,4,31,15] ?_
 intro x15 e5 _
 refine au [4,79,5,59,4] ?_
 refine vC 4 44 48 [0,1,3,4,6,11,12,13,18,19,20,28,29,30,8] (decide (x0<x8)) ?_ ?_ ?_
 exact az [89,24,3,61]
 exact az [62,7,60]
 refine av [4,26,2] ?_ ?_
 intro h0
 refine kj (k:=49) rfl h0 ?_
 refine au [89,89] ?_
 refine qsh (cells:=([x0,x8,x13]:qFm).flatMap (eI .i64)) rfl underlying188 tf188 tf3 rfl (by kernel_rfl) rfl (qfu hY x11 ([x0,x8,x13]:qFm) g6 (B1:=[⟨g1,22,[qFp a3 x2 c4.1]⟩]) (R1:=[]) (j:=6) rfl rfl rfl rfl rfl rfl rfl (fun x16 _ g9=>?_) (fun x17 _ g9=>?_))
 refine au [25,7,24,11,46] ?_
 refine yf (b:=false) rfl (fun h=>by cases h) (fun _=>?_)
 refine au [11,24,2] ?_
 exact yh (x16,g9) (hB:=(.cons 0 rfl (qe 0 rfl))) (hR:=(qe 0 rfl)) (hF:=(qh 3 rfl (qh 4 rfl (qh 5 rfl (qh 6 rfl zG)))))
 refine au [25,7,24,11,46] ?_
 refine yf (b:=true) rfl (fun _=>?_) (fun h=>by cases h)
 refine au [8,90,24,7,90,24,7,90,24,7] ?_
 exact jn (B0:=[⟨g1,22,[qFp a3 x2 c4.1]⟩]) (x:=.inr x17) g9 (.inl rfl) (res0 rfl) (.cons 0 rfl (qe 0 rfl)) (qe 0 rfl)
 intro h0
 refine kg (k:=49) rfl h0 ?_
 refine au [68,62,7,24,12,46] ?_
 refine yf (b:=false) rfl (fun h=>by cases h) (fun _=>?_)
 refine au [11,24,2] ?_
 exact yh (x11,g6) (hB:=(.cons 0 rfl (qe 0 rfl))) (hR:=(qe 0 rfl)) (hF:=(qh 3 rfl (qh 4 rfl (qh 5 rfl (qh 6 rfl zG)))))
 rintro ⟨x12,g7⟩
 refine au [39,94] ?_
 exact vz ((iadd .i64 x10 1,x12),g7) (hB:=(.cons 0 rfl (qe 0 rfl))) (hR:=(qe 0 rfl)) (hF:=(qh 0 rfl (qh 1 rfl (qh 2 rfl (qh 3 rfl zG)))))
 refine au [71,24,2] ?_
 exact yh (x11,g6) (hB:=(.cons 0 rfl (qe 0 rfl))) (hR:=(qe 0 rfl)) (hF:=(qh 0 rfl (qh 1 rfl (qh 3 rfl zG))))
 rintro ⟨x7,g5⟩
 refine au [39,94] ?_
 exact vz ((iadd .i64 x5 1,x7),g5) (hB:=(.cons 0 rfl (qe 0 rfl))) (hR:=(qe 0 rfl)) (hF:=(qh 0 rfl (qh 1 rfl (qh 2 rfl zG))))
 refine au [71,24,2] ?_
 exact yh (x6,g4) (hB:=(.cons 0 rfl (qe 0 rfl))) (hR:=(qe 0 rfl)) (hF:=(qh 1 rfl (qh 2 rfl zG)))
 rintro ⟨x3,g2⟩
 refine au [39,94] ?_
 exact vz ((iadd .i64 x0 1,x3),g2) (hB:=(.cons 0 rfl (qe 0 rfl))) (hR:=(qe 0 rfl)) (hF:=(qh 0 rfl (qh 1 rfl zG)))
 refine au [71] ?_
 exact jn (B0:=[⟨g1,22,[qFp a3 x2 c4.1]⟩]) (x:=.inl x1) g0 (.inr rfl) (res0 rfl) (.cons 0 rfl (qe 0 rfl)) (qe 0 rfl)
theorem qmu {r:(qFm×Int×Int)}(hm:qem F p1=some r) :
    PureM qFv 100 [.agg #[qFp l1 p1 t1]] [] [] [SlN eN56 iN56 1 (qFp l1 p1 t1) p1 n1] (qFn×Nat) (fun g=>.tuple #[qFp g.1 r.1 g.2,qFo r.2.1,qFo r.2.2]) (fun _=>[]) (fun g=>[qFs g.1 r.1 g.2]):=by
 refine qdM func100 rfl ntmps100 rfl hm (fun w=>?_)
 refine au [64,23] ?_
 intro g4
 refine au [24,5] ?_
 intro g5
 refine au [24,5] ?_
 intro g6
 refine au [81,45,26,7,28,2] ?_
 intro x9 e9 _
 refine aw [5,0,2,1,3,4,25,3,0,2,10] ?_ ?_
 refine au [48,25,5,21,99] ?_
 exact jo [] (none,0) (.inl rfl) rfl .nil (resL (rs:=[.cell 2 56,.cell 3 3,.tmp 4]) rfl (.cell (i:=1) rfl tf56 rfl rfl (fun _=>rfl) rfl (.cell (i:=0) rfl tf3 rfl rfl (fun _=>rfl) rfl (.tmp rfl ResOk.nil))) rfl) (fun h=>by subst h;rfl) (fun h=>by subst h;exact .nil) (fun h=>by subst h;exact (.cons 0 rfl .nil))
 refine au [96,110,24,6,26,1] ?_
 intro x10 e10 a11 c12
 refine au [25,5,46,1,45,26,7,33,3] ?_
 rintro x0 e0 ⟨a0,c0⟩
 refine qt qmv ?_
 intro x2 e1 g0
 refine au [73] ?_
 refine qcr (encs:=(fun (p:qFm)=>[.agg (p.flatMap (eI .i64)).toArray])) (y:=(fun ((x3,x4):(Int×qFm)) (x5:qFm)=>yb F x3 x4 x5)) (lb:=[qFq g0]) (fun ((x3,x4):(Int×qFm)) (_:Unit)=>[⟨g6,3,[qFo x3]⟩,⟨g5,56,[qFp a11 x4 c12]⟩,⟨g4,24,[qFp l1 p1 t1]⟩]) (fun ((x3,x4):(Int×qFm)) (_:Unit)=>[qFs a11 x4 c12]) (fun (_:Empty) (_:Unit)=>[]) (fun (_:Empty) (_:Unit)=>[]) (fun _=>.skip) (0,x10) () rfl EnC.e (fun _=>rfl) rfl (.cons 0 rfl .nil) (.cons 0 rfl (.cons 0 rfl (.cons 0 rfl .nil))) (.cons 1 rfl .nil) (.consG 0 rfl (kp qeC) .nil) (fun z hz _ _ _ hY=>qkT F hY (0,x10) () g0 x0 a0 c0 z hz) ?_ ?_ ?_
 rintro rc1 L1 D1 ⟨x3,x4⟩ _ x5 z w M _
 try dsimp only
 refine qdQ [(0,.agg #[qFp l1 p1 t1]),(1,qFq g4),(2,qFq g5),(3,qFq g6),(4,qFo 0),(5,qFo x9),(9,.agg #[qFp l1 p1 t1]),(10,qFo x9),(11,qFo x9),(12,.bool ((x9:Int) != 0)),(14,qFq g4),(15,qFp l1 p1 t1),(16,qFo (p1.length:Int)),(17,qFp a11 x10 c12),(18,.agg #[qFp l1 p1 t1]),(19,qFp a0 x0 c0.1),(20,.func (.func 179) #[] #[qFq g0]),(21,.agg (x5.flatMap (eI .i64)).toArray)] (qm rfl (qm rfl (qm rfl (qm rfl (qm rfl (qm rfl (qm rfl (qm rfl (qm rfl (qm rfl (qm rfl (qm rfl (qm rfl (qm rfl (qm rfl (qm rfl (qm rfl (qm rfl qea)))))))))))))))))) ?_
 refine au [3,24,5] ?_
 intro g1
 refine q5 (i:=0) (cs':=(qCo 3 (0:Int)).flatMap (eI .i64)) rfl rfl (qo3 (i:=0) (xs:=(qCo 3 (0:Int))) (k:=3) (qC .i64) rfl qC3 rfl ?_)
 refine au [26,11] ?_
 intro h0
 replace h0:=of_decide_eq_true h0
 refine qt1 (j:=0) rfl (qC3) (kP (i:=0) rfl rfl rfl tf188 rfl (qAK h0) (qAH (qC3) h0) qAI (qAJ (qhd (qC3)) h0) (qo3 (i:=0) (xs:=x5) (k:=3) (qC .i64) rfl h0 rfl ?_))
 refine au [0,30,8,14,45,18,24,0,21,46,45,26,11] ?_
 intro h1
 replace h1:=of_decide_eq_true h1
 refine qt1 (j:=0) rfl h1 (zU (i:=0) rfl rfl tf188 rfl (qAG (qhd h1)) (by simp) (qAF (qhd h1)) rfl (qo3 (i:=0) (xs:=x5) (k:=3) (qC .i64) rfl h1 rfl ?_))
 refine au [4,73] ?_
 refine qq [1,2,3,14,24] [0,1,1,1] [] [0] (fun (((x6,x7),_):(Int×qFm)×Unit)=>([(25,qFo x6)],[⟨g5,56,[qFp a11 x7 c12]⟩],[qFs a11 x7 c12],[])) ((0:Int),x4) () ?_
 intro k0
 rintro ⟨⟨x6,x7⟩,_⟩
 refine aw [39,1,3,24,3,0,2,1,10] ?_ ?_
 refine au [83,45,26,11] ?_
 intro h2
 replace h2:=of_decide_eq_true h2
 refine qsk rfl underlying188 tf3 rfl rfl h2 rfl (fun x8 e2=>?_)
 refine au [47,3,34,2,4,26,5] ?_
 intro x11 e3 g2 h3
 refine kJ (j:=0) (y:=x11) (qC .i64) rfl rfl tf3 rfl h3 (qu e3).2.2 (fun _=>rfl) rfl rfl ?_
 refine au [24,0,26,5] ?_
 intro x12 e4 g3 h4
 refine kz (j:=0) (y':=iadd .i64 x11 1) (qC .i64) rfl rfl rfl tf3 rfl h4 (qu e4).2.1 rfl (fun x13 e5 h5=>?_)
 have h6:x13.length=x7.length:=by rw[← e5,qCJ]
 refine qs (d:=28) (v:=qFp a11 x13 c12) rfl h5 (q5 (i:=4) (cs':=[qFp a11 x13 c12]) rfl (by simp only[qFp,h5] <;> rfl) ?_)
 refine au [0,95] ?_
 exact qk ((iadd .i64 x6 1,x13),())
 refine au [71,24,2] ?_
 exact vv (rc:=rc1) rfl (.cons 2 rfl .nil) rfl () (.cons 1 rfl (.cons 3 rfl (.cons 1 rfl (.cons 0 rfl (.cons 0 rfl .nil))))) (.cons 0 rfl .nil)
 rintro ⟨x3,x4⟩ _ _ D1
 refine au [39,63,1,38,3,32,0,0,28,12,1,12,2,30,2,0,29,6,12,3,27,9,0,29,6,6,4,54,2,8] ?_
 exact jo [D1] (a11,c12) (.inl rfl) rfl (.cons 0 rfl .nil) (resL (rs:=[.cell 2 56,.cell 3 3,.tmp 4]) rfl (.cell (i:=2) rfl tf56 rfl rfl (fun _=>rfl) rfl (.cell (i:=1) rfl tf3 rfl rfl (fun _=>rfl) rfl (.tmp rfl ResOk.nil))) rfl) (fun h=>by subst h;rfl) (fun h=>by subst h;exact .nil) (fun h=>by subst h;exact (.cons 0 rfl .nil))
 intro t;exact t.elim
theorem qit (F g1:Nat)(x2:List (qFm))(a3:qFn)(c4:(Nat×List (qFn×Nat)))(x5 x6 x7:Int)(x8:qFm)(a9:qFn)(c10:Nat)(x11:qFm)(r:(Int×qFm))(hm:j2 F x2 x5 x6 x7 x8 x11=some r) :
    PureM qFv 70 [qFq g1] [⟨g1,85,[qFp a3 x2 c4.1,qFo x5,qFo x6,qFo x7,qFp a9 x8 c10,.string (bstr x11)]⟩] [] [SlN eN56 iN56 1 (qFp a3 x2 c4.1) x2 c4.2,qFr a9 x8 c10,GF] Unit (fun _=>qFo r.1) (fun _=>[⟨g1,85,[qFp a3 x2 c4.1,qFo x5,qFo x6,qFo x7,qFp a9 x8 c10,.string (bstr r.2)]⟩]) (fun _=>[]):=by
 refine pureMA func70 ntmps70 hm fun _=>?_
 refine au [64,59,55,9,24,9] ?_
 refine qt qmu ?_
 rintro x12 e12 ⟨a13,c14⟩
 refine au [4,79,22,5,5,59,4] ?_
 refine vh EnC.e rfl rfl rfl (fun x15 e15=>qf2 x12.2.1 x15 e15) (.consF 2 rfl .nil) (fun x15 e15 _=>?_)
 exact az [55,21,97,88]
end Go.Proofs.YthibchijlpflmaaGreatDoor
