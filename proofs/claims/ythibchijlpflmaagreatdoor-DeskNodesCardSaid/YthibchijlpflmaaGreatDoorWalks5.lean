/- Each Go function of this seat computes what its model says, part 5. -/
import Derived.Test.YthibchijlpflmaaGreatDoorWalks4
open List renaming replicate→qBj, length_set→qBA, length_replicate→qBP
namespace Go.Proofs.YthibchijlpflmaaGreatDoor
open Go SX
open Go.Proofs.Tryz
open Go.Proofs.Tryz renaming prog→qD9
set_option maxHeartbeats 4000000
set_option linter.unusedSimpArgs false
variable {F t1 t2 t3 t4:Nat}{i1 i2 i3 i4 i5 i6 i7 i8 i9 i10 i11:Int}{m1 m2 m3 m4:qD0}{l1 l2 l3:qD1}{p1:List (qD0)}{n1:List (qD1×Nat)}{d1:Bool}{w1:List (Int×Int)}
theorem qhT:∀ (F g1:Nat)(x2 x3 x4 x5 x6:Int)(x7:qD0)(a8:qD1)(c9:Nat)(x10 x11 x12 x13:Int)(x14:qD0)(a15:qD1)(c16:Nat)(x17:Int)(x18:qD0)(a19:qD1)(c20:Nat)(x21 x22:Int)(r:(qD0×Int×Int×Int×Int×Int×Int×Int×Int×Int×Int×Int)),yq F x2 x3 x4 x5 x6 x7 x10 x11 x12 x13 x14 x17 x18 x21 x22=some r→PureM qD9 124 [qD4 g1,qD2 x22] [⟨g1,174,[qD2 x2,qD2 x3,qD2 x4,qD2 x5,qD2 x6,qD3 a8 x7 c9,qD2 x10,qD2 x11,qD2 x12,qD2 x13,qD3 a15 x14 c16,qD2 x17,qD3 a19 x18 c20,qD2 x21]⟩] [] [qD7 a8 x7 c9,qD7 a15 x14 c16,qD7 a19 x18 c20] (qD1×Nat) (fun g=>qD3 g.1 r.1 g.2) (fun _=>[⟨g1,174,[qD2 r.2.1,qD2 r.2.2.1,qD2 r.2.2.2.1,qD2 r.2.2.2.2.1,qD2 r.2.2.2.2.2.1,qD3 a8 x7 c9,qD2 r.2.2.2.2.2.2.1,qD2 r.2.2.2.2.2.2.2.1,qD2 r.2.2.2.2.2.2.2.2.1,qD2 r.2.2.2.2.2.2.2.2.2.1,qD3 a15 x14 c16,qD2 r.2.2.2.2.2.2.2.2.2.2.1,qD3 a19 x18 c20,qD2 r.2.2.2.2.2.2.2.2.2.2.2]⟩]) (fun g=>[qD6 g.1 r.1 g.2]):=by
  intro F
  induction F with
  | zero=>intro g1 x2 x3 x4 x5 x6 x7 a8 c9 x10 x11 x12 x13 x14 a15 c16 x17 x18 a19 c20 x21 x22 r hm;exact absurd hm (by simp[yq])
  | succ F ih =>
    intro g1 x2 x3 x4 x5 x6 x7 a8 c9 x10 x11 x12 x13 x14 a15 c16 x17 x18 a19 c20 x21 x22 r hm
    refine qjc func124 rfl ntmps124 rfl hm (fun w=>?_)
    refine qog (l':=[(0,qD4 g1),(1,qD2 x22)]) rfl ?_
    refine kj ?_
    refine qP ?_
    refine kz rfl rfl rfl ?_
    refine zC ?_
    refine zx ?_
    refine kj ?_
    refine qP ?_
    refine qU rfl rfl rfl ?_
    refine zT rfl rfl rfl ?_
    refine qR rfl rfl ff174_1 rfl ?_
    refine zO (i:=0) rfl rfl tf3 rfl rfl (fun _=>rfl) rfl rfl ?_
    refine qkB rfl rfl rfl rfl ?_
    refine zT rfl rfl rfl ?_
    refine qR rfl rfl ff174_1 rfl ?_
    refine kA (i:=0) rfl rfl rfl tf3 rfl rfl rfl rfl rfl ?_
    refine zC ?_
    refine zx ?_
    refine kj ?_
    refine qP ?_
    refine qU rfl rfl rfl ?_
    refine zT rfl rfl rfl ?_
    refine qR rfl rfl ff174_0 rfl ?_
    refine qR rfl rfl ff71_1 rfl ?_
    refine zO (i:=0) rfl rfl tf69 rfl rfl (by simp) rfl rfl ?_
    refine qU rfl rfl rfl ?_
    refine yY EnC.e rfl rfl rfl (fun x23 e23=>qql e23) (.consF 1 rfl (.consF 2 rfl .nil)) (fun x23 e23=>?_)
    intro _
    refine qU rfl rfl rfl ?_
    refine qak rfl rfl rfl rfl ?_
    refine qak rfl rfl rfl rfl ?_
    refine kz rfl rfl rfl ?_
    refine kz rfl rfl rfl ?_
    refine zC ?_
    refine zx ?_
    refine kj ?_
    refine qP ?_
    refine qU rfl rfl rfl ?_
    refine zT rfl rfl rfl ?_
    refine qR rfl rfl ff174_0 rfl ?_
    refine qR rfl rfl ff71_0 rfl ?_
    refine zO (i:=0) rfl rfl tf67 rfl rfl (by simp) rfl rfl ?_
    refine qU rfl rfl rfl ?_
    refine qU rfl rfl rfl ?_
    refine yY EnC.e rfl rfl rfl (fun x24 e24=>qkL e24) (.consF 0 rfl .nil) (fun x24 e24=>?_)
    intro _
    refine qU rfl rfl rfl ?_
    refine qak rfl rfl rfl rfl ?_
    refine qak rfl rfl rfl rfl ?_
    refine qak rfl rfl rfl rfl ?_
    refine kz rfl rfl rfl ?_
    refine kz rfl rfl rfl ?_
    refine kz rfl rfl rfl ?_
    refine zC ?_
    refine zx ?_
    refine kj ?_
    refine qP ?_
    refine kz rfl rfl rfl ?_
    refine zC ?_
    refine zx ?_
    refine qg [0,1,7,8] [] [] [0,1,2] (fun (((x31,x32,x33,x34,x35,x36,x37,x38,x39,x40,x41,x42),a29,c30):(qD0×Int×Int×Int×Int×Int×Int×Int×Int×Int×Int×Int)×qD1×Nat)=>([(10,qD3 a29 x31 c30)],[⟨g1,174,[qD2 x32,qD2 x33,qD2 x34,qD2 x35,qD2 x36,qD3 a8 x7 c9,qD2 x37,qD2 x38,qD2 x39,qD2 x40,qD3 a15 x14 c16,qD2 x41,qD3 a19 x18 c20,qD2 x42]⟩],[qD6 a29 x31 c30],[],yf F x7 x22 x24 x31 x32 x33 x34 x35 x36 x37 x38 x39 x40 x41 x42)) ?_ ?_
    · refine kj ?_
      refine qP ?_
      refine qU rfl rfl rfl ?_
      refine qs0 rfl rfl rfl rfl ?_
      refine zC ?_
      refine zx ?_
      refine qj1 rfl (fun h53=>?_) (fun h53=>?_)
      · refine qP ?_
        refine qU rfl rfl rfl ?_
        refine qU rfl rfl rfl ?_
        refine qU rfl rfl rfl ?_
        refine qs3 rfl rfl rfl rfl ?_
        refine qcB EnC.e rfl rfl rfl (fun x50 e50=>ih g1 x2 x3 x4 x5 x6 x7 a8 c9 x10 x11 x12 x13 x14 a15 c16 x17 x18 a19 c20 (iadd .i64 x21 1) (isub .i64 x22 x24.1) x50 e50) (.cons 0 rfl .nil) .nil (.consF 0 rfl (.consF 1 rfl (.consF 2 rfl .nil))) (fun x50 e50=>?_)
        rintro ⟨a51,c52⟩
        refine kz rfl rfl rfl ?_
        refine zC ?_
        exact ya ((x50.1,x50.2.1,x50.2.2.1,x50.2.2.2.1,x50.2.2.2.2.1,x50.2.2.2.2.2.1,x50.2.2.2.2.2.2.1,x50.2.2.2.2.2.2.2.1,x50.2.2.2.2.2.2.2.2.1,x50.2.2.2.2.2.2.2.2.2.1,x50.2.2.2.2.2.2.2.2.2.2.1,x50.2.2.2.2.2.2.2.2.2.2.2),a51,c52) (hB:=(.cons 0 rfl .nil)) (hR:=(.cons 0 rfl .nil)) (hF:=(qi 0 rfl (qi 1 rfl (qi 2 rfl zB))))
      · refine qhx ?_
        refine qfp Int (eI .i64) 3 1 ?_
        exact ya ((([]:qD0),x2,x3,x4,x5,x6,x10,x11,x12,x13,x17,iadd .i64 x21 1),none,0) (hB:=(.cons 0 rfl .nil)) (hR:=(.cons 0 rfl .nil)) (hF:=(qi 0 rfl (qi 1 rfl (qi 2 rfl zB))))
    · rintro ⟨⟨x31,x32,x33,x34,x35,x36,x37,x38,x39,x40,x41,x42⟩,a29,c30⟩
      try dsimp only
      refine kj ?_
      refine qP ?_
      refine qU rfl rfl rfl ?_
      refine zT rfl rfl rfl ?_
      refine qR rfl rfl ff174_0 rfl ?_
      refine qR rfl rfl ff71_0 rfl ?_
      refine qR rfl rfl ff67_1 rfl ?_
      refine zO (i:=0) rfl rfl tf26 rfl rfl (by simp) rfl rfl ?_
      refine qj2 rfl tf26 rfl (fun g43=>?_)
      refine kA (i:=0) rfl rfl rfl tf26 rfl rfl rfl rfl rfl ?_
      refine zC ?_
      refine zx ?_
      refine kj ?_
      refine qP ?_
      refine qU rfl rfl rfl ?_
      refine qR rfl rfl ff26_0 rfl ?_
      refine kA (i:=0) rfl rfl rfl tf3 rfl rfl rfl rfl rfl ?_
      refine zC ?_
      refine zx ?_
      refine kj ?_
      refine kg mixed [] _ _ (.cons 0 rfl (.cons 0 rfl .nil)) (qh 0 rfl (qh 1 rfl (qh 2 rfl qf))) 18 rfl ?_
      refine qb 0 (qD4 g1) rfl rfl rfl (zn rfl) ?_
      refine qb 1 (qD4 g1) rfl rfl rfl (zn rfl) ?_
      refine qb 2 (qD4 g1) rfl rfl rfl (qZ rfl ff174_0) ?_
      refine qb 3 (qD4 g1) rfl rfl rfl (qZ rfl ff71_0) ?_
      refine qb 4 (.pointer (some ⟨g1,4,none⟩)) rfl rfl rfl (qZ rfl ff67_2) ?_
      refine qr 5 (.agg #[qD2 x36,.slice a8 x7.length c9]) rfl rfl rfl (qq (i:=1) rfl tf65 rfl rfl (by simp) rfl) ?_
      refine qb 6 (qD2 x24.2.1) rfl rfl rfl (zn rfl) ?_
      refine qb 7 (qD2 x22) rfl rfl rfl (zn rfl) ?_
      refine qb 8 (qD3 a29 x31 c30) rfl rfl rfl (zn rfl) ?_
      refine qr 9 (.agg #[qD2 x24.1,qD2 x34,qD2 x35]) rfl rfl rfl (qq (i:=0) rfl tf26 rfl rfl (by simp) rfl) ?_
      refine qgs 10 rfl (by kernel_rfl) rfl ?_
      refine yY EnC.e rfl rfl rfl (fun x47 e47=>qj8 e47) (.consF 0 rfl (.consR 0 (qD6 a29 x31 c30) rfl .nil)) (fun x47 e47=>?_)
      rintro ⟨a48,c49⟩
      refine zC ?_
      refine qc (.cons 0 rfl (.cons 0 rfl .nil)) (qh 0 rfl (qh 1 rfl (qh 2 rfl qf))) ?_
      refine qb 11 (.tuple #[qD3 a48 x47.1 c49,qD2 x47.2.1,qD2 x47.2.2]) rfl rfl rfl (zn rfl) ?_
      refine qb 12 (qD3 a48 x47.1 c49) rfl rfl rfl (zn rfl) ?_
      refine qb 13 (qD2 x47.2.1) rfl rfl rfl (zn rfl) ?_
      refine qb 14 (qD2 x47.2.2) rfl rfl rfl (zn rfl) ?_
      refine qb 15 (qD3 a48 x47.1 c49) rfl rfl rfl (zn rfl) ?_
      refine qb 16 (qD2 x47.2.1) rfl rfl rfl (zn rfl) ?_
      refine qb 17 (qD2 x47.2.2) rfl rfl rfl (zn rfl) ?_
      refine qgr (by kernel_rfl) ?_
      refine qj6 ?_ (by intro c h;cases h)
      refine zx ?_
      refine kj ?_
      refine qP ?_
      refine qU rfl rfl rfl ?_
      refine kz rfl rfl rfl ?_
      refine zC ?_
      refine zx ?_
      refine qoh ?_
      exact yr (a48,c49) (res1 rfl rfl) (hB:=fun h=>by subst h;exact (.cons 1 rfl .nil)) (hR:=fun h=>by subst h;exact (.cons 0 rfl .nil))
theorem qnr {r:(qD0×Int×Int)}(hm:qbS F i1 i2 i3 i4 i5 m1 i6 i7 i8 i9 m2 i10 m3 i11=some r) :
    Pure qD9 89 [.agg #[qD2 i1,qD2 i2,qD2 i3,qD2 i4,qD2 i5,qD3 l1 m1 t1,qD2 i6,qD2 i7,qD2 i8,qD2 i9,qD3 l2 m2 t2,qD2 i10,qD3 l3 m3 t3],qD2 i11] [qD7 l1 m1 t1,qD7 l2 m2 t2,qD7 l3 m3 t3] (qD1×Nat) (fun g=>.tuple #[qD3 g.1 r.1 g.2,qD2 r.2.1,qD2 r.2.2]) (fun g=>[qD6 g.1 r.1 g.2]) (fun _=>[]):=by
 refine pureA func89 ntmps89 hm fun _=>?_
 refine au [79] ?_
 intro g21
 refine au [5,5,47,74] ?_
 refine qd qmc ?_
 intro x22 e22 _
 refine au [47] ?_
 refine qg [1,2] [0] [] [0,1,2] (fun ((x28,_):Int×Unit)=>([(7,qD2 x28)],[],[],[],qaP F i1 i2 i3 i4 i5 m1 i6 i7 i8 i9 m2 i10 m3 i11 x28)) ?_ ?_
 refine au [48,25,6,3] ?_
 refine kH 10 [1,2,7] [0] [] [0,1,2] (fun ((x37,_):Bool×Unit)=>([(24,.bool x37)],[],[],[],qaQ F i1 i2 i3 i4 i5 m1 i6 i7 i8 i9 m2 i10 m3 i11 x22 x37)) ?_ ?_
 refine qC (os:=_) rfl ?_
 refine av [26,5] ?_ ?_
 intro h35
 refine ko (k:=14) rfl h35 ?_
 refine au [3,127] ?_
 refine zp 6 17 23 [1,2,7,14] (decide (i1≤i11)) ?_ ?_ ?_
 exact az [68,7,62]
 exact az [3,10,67,26,6,61]
 refine au [113] ?_
 exact qa ((decide (i11<0) || decide (i1≤i11)),())
 intro h35
 refine km (k:=14) rfl h35 ?_
 refine au [68,68,7,112] ?_
 exact qa (false,())
 rintro ⟨x37,_⟩
 try dsimp only
 refine qC (os:=_) rfl ?_
 refine aw [0,2,11] ?_ ?_
 refine au [4,5,0] ?_
 exact qa ((3:Int),())
 refine au [12] ?_
 exact qa (x22,())
 rintro ⟨x28,_⟩
 refine aw [39,1,1,4,3,25,4,0,2,11] ?_ ?_
 refine au [48,5,5,104] ?_
 exact qx (none,0)
 refine au [57,74] ?_
 refine qF [qD2 i1,qD2 i2,qD2 i3,qD2 i4,qD2 i5,qD3 l1 m1 t1,qD2 i6,qD2 i7,qD2 i8,qD2 i9,qD3 l2 m2 t2,qD2 i10,qD3 l3 m3 t3,qD2 0] ?_
 refine au [24,0] ?_
 intro g30
 refine au [60,3] ?_
 refine qs (fun h=>qhT F _ _ _ _ _ _ _ _ _ _ _ _ _ _ _ _ _ _ _ _ _ _ _ h) ?_
 rintro x31 e31 ⟨a32,c33⟩
 refine au [82,33,5,96,18,3,24,15,4,6,5,58,54,2,8] ?_
 exact qx (a32,c33)
theorem qiG (hm:jp F p1 i1 i2 i3 m1 m2 m3=some m4) :
    PureM qD9 90 [qD4 t1,qD3 l3 m3 t4] [⟨t1,85,[qD3 l1 p1 t2,qD2 i1,qD2 i2,qD2 i3,qD3 l2 m1 t3,.string (bstr m2)]⟩] [] [SlN eN56 iN56 1 (qD3 l1 p1 t2) p1 n1,qD5 l2 m1 t3,qD5 l3 m3 t4,GF] Unit (fun _=>.tuple #[]) (fun _=>[⟨t1,85,[qD3 l1 p1 t2,qD2 i1,qD2 i2,qD2 i3,qD3 l2 m1 t3,.string (bstr m4)]⟩]) (fun _=>[]):=by
 refine pureMA func90 ntmps90 hm fun _=>?_
 refine au [55,47] ?_
 refine qg [0] [0] [] [0,1,3] (fun ((x82,a80,c81):List (qD0)×qD1×Nat)=>([(4,qD3 a80 x82 c81)],[],[Ro eT 9 1 (qD3 a80 x82 c81) x82],[],qbB F x82)) ?_ ?_
 refine au [48,86] ?_
 refine qdD (qD0) eT 9 1 (qm [0,7,8] [0] [] [2,0,1,3] (fun (((x0,x1),a0,c0):(List (qD0)×Int)×qD1×Nat)=>([(4,qD3 a0 x0 c0),(9,qD2 x1)],[],[Ro eT 9 1 (qD3 a0 x0 c0) x0],[])) (([]:List (qD0)),(0:Int)) (none,0) ?_)
 intro k0
 rintro ⟨⟨x0,x1⟩,a0,c0⟩
 refine aw [39,1,4,24,4,0,2,1,11] ?_ ?_
 refine au [85,45,26,4] ?_
 intro x3 e0 b0 o0
 refine au [25,3,47,4,91] ?_
 refine yY EnC.e rfl rfl rfl (fun x4 e1=>qfq x3 x4 e1) (.consF 4 rfl .nil) (fun x4 e1 _=>qaX (vs:=[.string (bstr x4)]) (ys:=([x4]:List (qD0))) qD (by decide) rfl underlying39 tf9 rfl rfl rfl rfl rfl (by decide) (fun a1 c1=>zo 1 qD rfl underlying39 tf9 rfl rfl rfl rfl rfl (.inl ⟨0,_,rfl⟩) rfl rfl (fun x9 e2 a2 c2=>?_)))
 refine au [5,0,98] ?_
 exact qj ((x9,iadd .i64 x1 1),a2,c2)
 refine au [72] ?_
 exact qa (x0,a0,c0)
 rintro ⟨x82,a80,c81⟩
 refine au [39,4,91] ?_
 refine yY EnC.e rfl rfl rfl (fun x83 e83=>qzs x82 a80 c81 ([32]:qD0) x83 e83) (.consR 0 (Ro eT 9 1 (qD3 a80 x82 c81) x82) rfl .nil) (fun x83 e83 _=>?_)
 exact az [51,80,25,15]
theorem qiF (F g1:Nat)(x2:List (qD0))(a3:qD1)(c4:(Nat×List (qD1×Nat)))(x5 x6 x7:Int)(x8:qD0)(a9:qD1)(c10:Nat)(x11:qD0)(r:(Int×qD0))(hm:qbc F x2 x5 x6 x7 x8 x11=some r) :
    PureM qD9 63 [qD4 g1] [⟨g1,85,[qD3 a3 x2 c4.1,qD2 x5,qD2 x6,qD2 x7,qD3 a9 x8 c10,.string (bstr x11)]⟩] [] [SlN eN56 iN56 1 (qD3 a3 x2 c4.1) x2 c4.2,qD5 a9 x8 c10,GF] Unit (fun _=>qD2 r.1) (fun _=>[⟨g1,85,[qD3 a3 x2 c4.1,qD2 x5,qD2 x6,qD2 x7,qD3 a9 x8 c10,.string (bstr r.2)]⟩]) (fun _=>[]):=by
 refine pureMA func63 ntmps63 hm fun _=>?_
 refine au [64,47] ?_
 refine qg [0] [0] [] [0,1,2] (fun (((x29,x30,x31,x32,x33,x34,x37,x38,x39,x40,x41,x44,x45,x48),g28,a35,c36,a42,c43,a46,c47):(Int×Int×Int×Int×Int×Int×qD0×Int×Int×Int×Int×qD0×Int×qD0)×Nat×qD1×Nat×qD1×Nat×qD1×Nat)=>([(3,qD4 g28),(4,qD2 x29)],[⟨g28,71,[qD2 x30,qD2 x31,qD2 x32,qD2 x33,qD2 x34,qD3 a35 x37 c36,qD2 x38,qD2 x39,qD2 x40,qD2 x41,qD3 a42 x44 c43,qD2 x45,qD3 a46 x48 c47]⟩],[qD8 a35 x37 c36,qD8 a42 x44 c43,qD8 a46 x48 c47],[],qby F x2 x5 x6 x7 x8 x11 x29 x30 x31 x32 x33 x34 x37 x38 x39 x40 x41 x44 x45 x48)) ?_ ?_
 refine au [35,12,70,18,2,18,3] ?_
 refine qr 4 (.agg #[.slice a3 x2.length c4.1]) rfl rfl rfl (qq (i:=0) rfl tf24 rfl rfl (by simp) rfl) ?_
 refine au [6,5,6,6,18,7,18,8] ?_
 refine qr 9 (.agg #[qD2 x5,qD2 x6,qD2 x7]) rfl rfl rfl (qq (i:=0) rfl tf26 rfl rfl (by simp) rfl) (zJ 10 14 rfl rfl (by kernel_rfl) rfl rfl ?_ ?_)
 refine au [37,12] ?_
 rintro x66 e66 ⟨⟨a67,c68⟩,⟨a69,c70⟩,a71,c72⟩
 refine au [0,35,13,76,6,13,9,14,24,2] ?_
 intro g73
 refine au [0,28,2,9,15,80,28,2,6,16,54] ?_
 exact qa ((x66.2.2.2.2.2.2.2.2.2.2.2.2.2,x66.1,x66.2.1,x66.2.2.1,x66.2.2.2.1,x66.2.2.2.2.1,x66.2.2.2.2.2.1,x66.2.2.2.2.2.2.1,x66.2.2.2.2.2.2.2.1,x66.2.2.2.2.2.2.2.2.1,x66.2.2.2.2.2.2.2.2.2.1,x66.2.2.2.2.2.2.2.2.2.2.1,x66.2.2.2.2.2.2.2.2.2.2.2.1,x66.2.2.2.2.2.2.2.2.2.2.2.2.1),g73,a67,c68,a69,c70,a71,c72)
 refine au [24,2] ?_
 intro g74
 refine au [0,28,2,9,10,37,12] ?_
 rintro x75 e75 ⟨⟨a76,c77⟩,⟨a78,c79⟩,a80,c81⟩
 refine au [0,28,2,76,6,13,9,15,80,28,2,6,16,54] ?_
 exact qa ((x75.2.2.2.2.2.2.2.2.2.2.2.2.2,x75.1,x75.2.1,x75.2.2.1,x75.2.2.2.1,x75.2.2.2.2.1,x75.2.2.2.2.2.1,x75.2.2.2.2.2.2.1,x75.2.2.2.2.2.2.2.1,x75.2.2.2.2.2.2.2.2.1,x75.2.2.2.2.2.2.2.2.2.1,x75.2.2.2.2.2.2.2.2.2.2.1,x75.2.2.2.2.2.2.2.2.2.2.2.1,x75.2.2.2.2.2.2.2.2.2.2.2.2.1),g74,a76,c77,a78,c79,a80,c81)
 rintro ⟨⟨x29,x30,x31,x32,x33,x34,x37,x38,x39,x40,x41,x44,x45,x48⟩,g28,a35,c36,a42,c43,a46,c47⟩
 refine aw [39,1,1,4,3,25,4,0,2,11] ?_ ?_
 exact az [48,59,25,15]
 refine au [84,28,9] ?_
 intro x57 e57 b58 o59 h60
 replace h60:a9=some ⟨b58,o59,none⟩:=h60
 refine qE [] [0,0] [0,1,2,3] 15 ?_
 refine qr 0 (.agg #[qD2 x30,qD2 x31,qD2 x32,qD2 x33,qD2 x34,.slice a35 x37.length c36,qD2 x38,qD2 x39,qD2 x40,qD2 x41,.slice a42 x44.length c43,qD2 x45,.slice a46 x48.length c47]) rfl rfl rfl (qq (i:=1) rfl tf71 rfl rfl (by simp) rfl) ?_
 refine au [6,1,6,2,18,3,24,15,4] ?_
 refine vW 5 h60 e57 ?_
 refine qz 6 (qD2 x57) [] rfl rfl rfl (qV (j:=0) rfl tf3 rfl rfl (fun _=>rfl) rfl) ?_
 refine au [9,7] ?_
 refine qd qnr ?_
 rintro x61 e61 ⟨a62,c63⟩
 refine au [0,35,9,6,8,123,76,124,54,2,48,3,37,13] ?_
 intro x64 e64 _
 exact az [117,90]
theorem qkQ (F:Nat)(x1:Int)(g2:Nat)(x3:List (qD0))(a4:qD1)(c5:(Nat×List (qD1×Nat)))(r:Bool)(hm:qhf F x1 x3=some r) :
    PureM qD9 173 [qD2 x1,qD4 g2] [⟨g2,24,[qD3 a4 x3 c5.1]⟩] [] [SlN eN56 iN56 1 (qD3 a4 x3 c5.1) x3 c5.2] Unit (fun _=>.bool r) (fun _=>[⟨g2,24,[qD3 a4 x3 c5.1]⟩]) (fun _=>[]):=by
 refine pureMA func173 ntmps173 hm fun _=>?_
 refine au [55,60,127] ?_
 refine zp 6 6 12 [] (decide ((x3.length:Int)≤x1)) ?_ ?_ ?_
 exact az [68,7,62]
 exact az [3,67,24,7,26,6,61]
 exact az [90]
theorem qbw (hm:yO F m1 p1=some i1) :
    PureM qD9 129 [qD3 l1 m1 t1,.func (.func 173) #[] #[qD4 t2]] [⟨t2,24,[qD3 l2 p1 t3]⟩] [] [qD5 l1 m1 t1,SlN eN56 iN56 1 (qD3 l2 p1 t3) p1 n1] Unit (fun _=>qD2 i1) (fun _=>[⟨t2,24,[qD3 l2 p1 t3]⟩]) (fun _=>[]):=by
 refine pureMA func129 ntmps129 hm fun _=>?_
 refine au [55,47] ?_
 refine qg [] [0] [] [1] (fun ((_,_):Unit×Unit)=>([],[],[],[],yl F)) ?_ ?_
 refine au [48,86] ?_
 refine qm [0,1,7] [0] [] [0,1] (fun ((x58,_):Int×Unit)=>([(8,qD2 x58)],[],[],[])) (0:Int) () ?_
 intro k71
 rintro ⟨x58,_⟩
 refine aw [39,1,4,24,4,0,2,1,11] ?_ ?_
 refine au [85,48,60,91,26,4] ?_
 intro x78 e78 b79 o80
 refine au [25,3] ?_
 refine qfn EnC.e rfl rfl rfl rfl (fun x81 e81=>qkQ F x78 t2 p1 l2 (t3,n1) x81 e81) (.cons 0 rfl .nil) .nil (.consF 2 rfl .nil) (fun x81 e81 _=>?_)
 refine aw [0,2,11] ?_ ?_
 exact az [48,49,111,52,25,15]
 refine au [12,98] ?_
 exact qj (iadd .i64 x58 1,())
 exact az [122]
 rintro ⟨_,_⟩
 exact az [39,45,90]
theorem qal (hm:yk F m1 p1=some d1) :
    PureM qD9 119 [qD3 l1 m1 t1,.func (.func 173) #[] #[qD4 t2]] [⟨t2,24,[qD3 l2 p1 t3]⟩] [] [qD5 l1 m1 t1,SlN eN56 iN56 1 (qD3 l2 p1 t3) p1 n1] Unit (fun _=>.bool d1) (fun _=>[⟨t2,24,[qD3 l2 p1 t3]⟩]) (fun _=>[]):=by
 refine pureMA func119 ntmps119 hm fun _=>?_
 refine au [55,60,3] ?_
 refine qs qbw ?_
 intro x8 e8 _
 exact az [26,6,90]
theorem qny (hm:qgD F p1 m1=some i1) :
    qEa 126 [.agg #[qD3 l1 p1 t1],qD3 l2 m1 t2] [SlN eN56 iN56 1 (qD3 l1 p1 t1) p1 n1,qD5 l2 m1 t2] (qD2 i1):=by
 refine pureA func126 ntmps126 hm fun _=>?_
 refine au [79] ?_
 intro g7
 refine au [82,74,28,7] ?_
 intro x10 e10 _
 refine aw [5,0,2,1,4,3,25,4,0,2,11] ?_ ?_
 exact az [48,78]
 refine au [84,48,27,9] ?_
 refine qs qal ?_
 intro x13 e13 _
 refine aw [0,2,11] ?_ ?_
 exact az [45,78]
 exact az [125,71]
theorem qqt (hm:qil F p1 i1=some m1) :
    Pure qD9 127 [.agg #[qD3 l1 p1 t1],qD2 i1] [SlN eN56 iN56 1 (qD3 l1 p1 t1) p1 n1] (qD1×Nat) (fun g=>qD3 g.1 m1 g.2) (fun g=>[qD6 g.1 m1 g.2]) (fun _=>[]):=by
 refine pureA func127 ntmps127 hm fun _=>?_
 refine au [79] ?_
 intro g5
 refine au [83,29,8] ?_
 intro a6 c7
 refine au [67,24,7,27,8] ?_
 rintro x8 e8 ⟨a9,c10⟩
 refine au [60,3,26,7] ?_
 intro x11 e11 g12 h13
 refine zZ (j:=0) (y':=0) (qA .i64) rfl rfl rfl tf3 rfl h13 (qw e11).2.1 rfl (fun x14 e14 h15=>?_)
 have h16:x14.length=x8.length:=by rw[← e14,qBA]
 refine qp (d:=5) (v:=qD3 a9 x14 c10) rfl h15 (qp (d:=14) (v:=qD3 a9 x14 c10) rfl h15 (qp (d:=15) (v:=qD3 a9 x14 c10) rfl h15 ?_))
 refine au [46] ?_
 refine qL (fun ((x0,_):qD0×Unit)=>([(5,qD3 a9 x0 c10)],[],[qD6 a9 x0 c10],[],qhg F x0)) ?_ ?_
 refine au [48] ?_
 refine zw [i1] (fun a0 c0=>?_)
 refine au [47,14] ?_
 refine qm [2] [0] [] [0] (fun (((x2,x3),a1,c1,g0):(qD0×qD0)×qD1×Nat×qD0)=>([(5,qD3 a9 x2 c10),(6,(qv a1 g0.length x3.length c1 1))],[],[qD6 a9 x2 c10,qD6 a1 (g0++x3) c1],[])) (x14,([i1]:qD0)) (a0,c0,([]:qD0)) ?_
 intro k0
 rintro ⟨⟨x2,x3⟩,a1,c1,g0⟩
 refine au [39,1,48] ?_
 refine qwO rfl UnF.u rfl rfl ?_
 refine aw [25,1,0,2,11] ?_ ?_
 refine au [57] ?_
 refine qg [2] [0] [] [0] (fun (((x5,x6),a3,c2,g1):(qD0×qD0)×qD1×Nat×qD0)=>([(5,qD3 a9 x5 c10),(6,(qv a3 g1.length x6.length c2 1))],[],[qD6 a9 x5 c10,qD6 a3 (g1++x6) c2],[],qhh F (qfh F p1 k0) x5 x6)) ?_ ?_
 refine au [14,48] ?_
 refine qrn (hs:=g0) (xs:=x3) (j:=1) rfl underlying56 tf3 rfl rfl rfl rfl (fun x7 e0 g2 h0=>ku (j:=1) (y:=x7) (qA .i64) rfl rfl tf3 rfl h0 (qx9 e0) (fun _=>rfl) rfl rfl ?_)
 refine au [83,67,3,27,6] ?_
 intro x9 e1 g3 b0 o0
 refine au [25,3,86] ?_
 refine qm [2,7,32,33] [0] [] [1,2] (fun (((x10,x12,x13),a4,c4,g4):(qD0×qD0×Int)×qD1×Nat×qD0)=>([(5,qD3 a9 x10 c10),(6,(qv a4 g4.length x12.length c4 1)),(34,qD2 x13)],[],[qD6 a9 x10 c10,qD6 a4 (g4++x12) c4],[])) (x2,x3,(0:Int)) (a1,c1,g0) ?_
 intro k1
 rintro ⟨⟨x10,x12,x13⟩,a4,c4,g4⟩
 refine aw [39,1,4,24,4,0,2,1,11] ?_ ?_
 refine au [57] ?_
 refine qg [2,7,32,33,34] [0] [] [0,1] (fun (((x15,x16),a5,c5,g6):(qD0×qD0)×qD1×Nat×qD0)=>([(5,qD3 a9 x15 c10),(6,(qv a5 g6.length x16.length c5 1))],[],[qD6 a9 x15 c10,qD6 a5 (g6++x16) c5],[],qfg F (qhi F (qfh F p1 k0) x7 x9 k1) x13 x15 x16)) ?_ ?_
 refine au [14,45,26,4] ?_
 intro x17 e2 b1 o1
 refine au [25,3,60,3,26,7] ?_
 intro x18 e3 g7 h1
 refine ku (j:=0) (y:=x18) (qA .i64) rfl rfl tf3 rfl h1 (qw e3).2.2 (fun _=>rfl) rfl rfl ?_
 refine aw [24,4,0,2,11] ?_ ?_
 refine au [48,91,3,26,7] ?_
 intro x19 e4 g8 h2
 refine ku (j:=0) (y:=x19) (qA .i64) rfl rfl tf3 rfl h2 (qw e4).2.2 (fun _=>rfl) rfl rfl ?_
 refine au [23,26,7] ?_
 intro x20 e5 g9 h3
 refine zZ (j:=0) (y':=iadd .i64 x19 1) (qA .i64) rfl rfl rfl tf3 rfl h3 (qw e5).2.1 rfl (fun x21 e6 h4=>?_)
 have h5:x21.length=x10.length:=by rw[← e6,qBA]
 refine qp (d:=5) (v:=qD3 a9 x21 c10) rfl h4 (qp (d:=38) (v:=qD3 a9 x21 c10) rfl h4 (qp (d:=43) (v:=qD3 a9 x21 c10) rfl h4 (qp (d:=45) (v:=qD3 a9 x21 c10) rfl h4 ?_)))
 refine au [46,4,91] ?_
 refine zw [x17] (fun a7 c6=>?_)
 refine qwG (hs:=g4) (xs:=x12) 2 (qA .i64) rfl underlying56 tf3 rfl rfl rfl rfl rfl (.inl ⟨0,_,rfl⟩) rfl rfl (fun x22 e7 a8 c8 g10=>?_)
 refine au [5,121] ?_
 exact qa ((x21,x22),a8,c8,g10)
 refine au [12,24,3] ?_
 exact qa ((x10,x12),a4,c4,g4)
 rintro ⟨⟨x15,x16⟩,a5,c5,g6⟩
 refine au [39,97] ?_
 exact qj ((x15,x16,iadd .i64 x13 1),a5,c5,g6)
 refine au [72,24,3] ?_
 exact qa ((x10,x12),a4,c4,g4)
 rintro ⟨⟨x5,x6⟩,a3,c2,g1⟩
 refine au [39,4,3] ?_
 refine qwK (hs:=g1) (xs:=x6) (j:=1) rfl underlying56 tf3 rfl rfl rfl rfl (fun x23 e9 g11=>?_)
 refine au [5,0] ?_
 exact qj ((x5,x23),a3,c2,g11)
 refine au [72] ?_
 exact qa (x2,())
 rintro ⟨x0,_⟩
 refine au [92,49] ?_
 exact qx (a9,c10)
theorem qqr {r:(qD0×Int)}(hm:qkU F p1 i1=some r) :
    Pure qD9 91 [.agg #[qD3 l1 p1 t1],qD2 i1] [SlN eN56 iN56 1 (qD3 l1 p1 t1) p1 n1] (qD1×Nat) (fun g=>.tuple #[qD3 g.1 r.1 g.2,qD2 r.2]) (fun g=>[qD6 g.1 r.1 g.2]) (fun _=>[]):=by
 refine pureA func91 ntmps91 hm fun _=>?_
 refine au [79] ?_
 intro g5
 refine au [5,82,74,3] ?_
 refine zw [i1] (fun a10 c11=>?_)
 refine au [37,14] ?_
 intro x12 e12 _
 refine aw [5,0,2,1,4,3,25,4,0,2,11] ?_ ?_
 refine au [48,5,104] ?_
 exact qx (none,0)
 refine au [57,74,3,37,15] ?_
 rintro x13 e13 ⟨a14,c15⟩
 refine au [5,49] ?_
 exact qx (a14,c15)
theorem qjv (F g1:Nat)(x2:List (qD0))(a3:qD1)(c4:(Nat×List (qD1×Nat)))(x5 x6 x7:Int)(x8:qD0)(a9:qD1)(c10:Nat)(x11:qD0)(r:(Int×qD0))(hm:qgd F x2 x5 x6 x7 x8 x11=some r) :
    PureM qD9 64 [qD4 g1] [⟨g1,85,[qD3 a3 x2 c4.1,qD2 x5,qD2 x6,qD2 x7,qD3 a9 x8 c10,.string (bstr x11)]⟩] [] [SlN eN56 iN56 1 (qD3 a3 x2 c4.1) x2 c4.2,qD5 a9 x8 c10,GF] Unit (fun _=>qD2 r.1) (fun _=>[⟨g1,85,[qD3 a3 x2 c4.1,qD2 x5,qD2 x6,qD2 x7,qD3 a9 x8 c10,.string (bstr r.2)]⟩]) (fun _=>[]):=by
 refine pureMA func64 ntmps64 hm fun _=>?_
 refine au [64,82,48,3,119,31,1] ?_
 intro x14 e14 _
 refine aw [25,7,0,2,11] ?_ ?_
 exact az [45,59,25,15]
 refine au [84,28,9] ?_
 intro x22 e22 b23 o24 h25
 replace h25:a9=some ⟨b23,o24,none⟩:=h25
 refine qE [] [0] [0,1,2,3] 17 ?_
 refine au [70,18,2,18,3] ?_
 refine qr 4 (.agg #[.slice a3 x2.length c4.1]) rfl rfl rfl (qq (i:=0) rfl tf24 rfl rfl (by simp) rfl) ?_
 refine au [6,5,6,6,18,7,24,15,8] ?_
 refine vW 9 h25 e22 ?_
 refine qz 10 (qD2 x22) [] rfl rfl rfl (qV (j:=0) rfl tf3 rfl rfl (fun _=>rfl) rfl) ?_
 refine au [9,11] ?_
 refine qd qqr ?_
 rintro x26 e26 ⟨a27,c28⟩
 refine au [0,34,3,6,12,124,6,15,6,16,54,2] ?_
 refine qg [4] [] [] [1,2,3] (fun ((x43,_):qD0×Unit)=>([],[⟨g1,85,[qD3 a3 x2 c4.1,qD2 x5,qD2 x6,qD2 x7,qD3 a9 x8 c10,.string (bstr x43)]⟩],[],[],qbY F x26 x43)) ?_ ?_
 refine au [48,91,119,38,0] ?_
 intro x44 e44 b45 o46
 refine au [25,3,26,7] ?_
 intro x47 e47 g48 h49
 refine ku (j:=0) (y:=x47) (qA .i64) rfl rfl tf3 rfl h49 (qw e47).2.2 (fun _=>rfl) rfl rfl (yY EnC.e rfl rfl rfl (fun x50 e50=>qfq x47 x50 e50) (.consF 4 rfl .nil) (fun x50 e50=>?_))
 intro _
 refine au [51,17,117,3,119] ?_
 refine vL (j:=3) (qA .i64) (by decide) rfl UnF.u inferInstance rfl rfl rfl rfl ?_
 intro x51 e51 b52 o53
 refine au [25,3,26,7] ?_
 intro x54 e54 g55 h56
 refine ku (j:=0) (y:=x54) (qA .i64) rfl rfl tf3 rfl h56 (qw e54).2.2 (fun _=>rfl) rfl rfl ?_
 refine aw [24,4,0,2,11] ?_ ?_
 refine au [4,3,51,80] ?_
 exact qa (([110,111,110,101]:qD0),())
 refine au [12] ?_
 exact qa (x50,())
 rintro ⟨x43,_⟩
 exact az [92,90]
theorem qkK (hm:qhc F p1=some w1) :
    PureM qD9 174 [.agg #[qD3 l1 p1 t1]] [] [] [SlN eN56 iN56 1 (qD3 l1 p1 t1) p1 n1] (qD1×Nat) (fun g=>qD3 g.1 w1 g.2) (fun _=>[]) (fun g=>[Ro eS63 63 2 (qD3 g.1 w1 g.2) w1]):=by
 refine qdg func174 rfl ntmps174 rfl hm (fun w=>?_)
 refine au [87] ?_
 intro g4
 refine au [83,24,2] ?_
 intro g5
 refine au [46,1,107,30,12] ?_
 intro x35 e35 g36
 refine au [75] ?_
 refine qdD (Int×Int) eS63 63 2 (qbU (encs:=(fun (p:Int×Int)=>[.agg #[qD2 p.1,qD2 p.2]])) (y:=(fun (x47:List (Int×Int)) ((x56,x57):Int×Int)=>qfw F x47 x56 x57)) (lb:=[qD4 g36]) (fun (x47:List (Int×Int)) ((a45,c46):qD1×Nat)=>[⟨g5,58,[qD3 a45 x47 c46]⟩,⟨g4,24,[qD3 l1 p1 t1]⟩]) (fun (x47:List (Int×Int)) ((a45,c46):qD1×Nat)=>[Ro eS63 63 2 (qD3 a45 x47 c46) x47]) (fun (_:Empty) (_:Unit)=>[]) (fun (_:Empty) (_:Unit)=>[]) (fun _=>.skip) ([]:List (Int×Int)) (none,0) rfl EnC.e (fun _=>rfl) rfl (.cons 0 rfl .nil) (.cons 0 rfl (.cons 0 rfl .nil)) (.cons 0 rfl .nil) (.consF 0 rfl .nil) (fun z hz _ _ _ hY=>qdI F hY ([]:List (Int×Int)) (none,0) g36 p1 l1 (t1,n1) z hz) ?_ ?_ ?_)
 rintro rc1 L1 D1 x47 ⟨a45,c46⟩ ⟨x56,x57⟩ z w M _
 try dsimp only
 refine qdk [(0,.agg #[qD3 l1 p1 t1]),(1,qD4 g4),(2,.slice none 0 0),(3,qD4 g5),(5,.agg #[qD3 l1 p1 t1]),(6,.func (.func 159) #[] #[qD4 g36]),(7,.agg #[qD2 x56,qD2 x57])] (qk rfl (qk rfl (qk rfl (qk rfl (qk rfl (qk rfl (qk rfl qdB))))))) ?_
 refine au [4,24,2] ?_
 intro g58
 refine au [80,30,13,14,4,25,12,67,67] ?_
 refine qF [qD2 x57,qD2 x56] ?_
 refine qaX (vs:=[.agg #[qD2 x57,qD2 x56]]) (ys:=([(x57,x56)]:List (Int×Int))) qdV (by decide) rfl underlying58 tf63 rfl rfl rfl rfl rfl (by decide) (fun a59 c60=>zo 1 qdV rfl underlying58 tf63 rfl rfl rfl rfl rfl (.inl ⟨0,_,rfl⟩) rfl rfl (fun x61 e61 a62 c63=>?_))
 refine au [25,5,121] ?_
 exact vk (rc:=rc1) rfl (.cons 3 rfl .nil) rfl (a62,c63) (.cons 2 rfl (.cons 2 rfl (.cons 0 rfl (.cons 1 rfl .nil)))) (.cons 0 rfl .nil)
 rintro x47 _ ⟨a45,c46⟩ D1
 refine au [39,65,45,26,1,49] ?_
 exact ja [D1] (a45,c46) (.inl rfl) rfl (.cons 0 rfl .nil) (res1 rfl rfl) (fun h=>by subst h;rfl) (fun h=>by subst h;exact .nil) (fun h=>by subst h;exact (.cons 0 rfl .nil))
 intro t;exact t.elim
theorem qnk {r:(List (qD0)×Int)}(hm:qiR F p1=some r) :
    Pure qD9 128 [.agg #[qD3 l1 p1 t1]] [SlN eN56 iN56 1 (qD3 l1 p1 t1) p1 n1] (qD1×Nat×List (qD1×Nat)) (fun g=>.tuple #[.agg #[qD3 g.1 r.1 g.2.1],qD2 r.2]) (fun g=>[RoN eN56 rN56 56 1 (qD3 g.1 r.1 g.2.1) r.1 g.2.2 []]) (fun _=>[]):=by
 refine pureA func128 ntmps128 hm fun _=>?_
 refine au [87] ?_
 intro g4
 refine au [24,2] ?_
 intro g5
 refine au [82,107,28,7] ?_
 intro x8 e8 _
 refine aw [5,0,2,1,4,3,25,4,0,2,11] ?_ ?_
 refine au [45] ?_
 refine qF [.slice none 0 0] ?_
 exact az [3,17,59,27,2,30,5]
 refine au [84] ?_
 refine qE [] [1] [0] 10 ?_
 refine au [114,28,8,2] ?_
 refine qr 3 (.agg #[.slice l1 p1.length t1]) rfl rfl rfl (qq (i:=0) rfl tf24 rfl rfl (by simp) rfl) ?_
 refine au [9,4] ?_
 refine qs qkK ?_
 rintro x20 e20 ⟨a21,c22⟩
 refine au [89,9,5,34,0] ?_
 intro x23 e23 g24
 refine au [0,27,1,9,6,34,1] ?_
 rintro x25 e25 ⟨a26,c27⟩
 refine au [0,27,1,9,7,34,2] ?_
 rintro x28 e28 ⟨a29,c30⟩
 refine au [0,27,1,9,8,25,5,0,27,1,6,9,54,2,8] ?_
 exact zW (a29,c30) 1
theorem qnx (F:Nat)(x1:Int)(g2:Nat)(x3:qD0)(a4:qD1)(c5 g6:Nat)(x7:Int)(r:Bool)(hm:qiT F x1 x3 x7=some r) :
    PureM qD9 130 [qD2 x1,qD4 g2,qD4 g6] [⟨g2,56,[qD3 a4 x3 c5]⟩,⟨g6,3,[qD2 x7]⟩] [] [qD5 a4 x3 c5] Unit (fun _=>.bool r) (fun _=>[⟨g2,56,[qD3 a4 x3 c5]⟩,⟨g6,3,[qD2 x7]⟩]) (fun _=>[]):=by
 refine pureMA func130 ntmps130 hm fun _=>?_
 refine au [26,8,45,82,31,0] ?_
 intro x16 e16 b17 o18 h19
 replace h19:a4=some ⟨b17,o18,none⟩:=h19
 refine au [28,9] ?_
 intro x20 e20 b21 o22 h23
 replace h23:a4=some ⟨b21,o22,none⟩:=h23
 refine qE [] [0,0] [0,1,2] 11 ?_
 refine au [24,15,0,6,1] ?_
 refine vW 2 h19 e16 ?_
 refine qz 3 (qD2 x16) [] rfl rfl rfl (qV (j:=1) rfl tf3 rfl rfl (fun _=>rfl) rfl) ?_
 refine au [24,15,4,26,10,5] ?_
 refine vW 6 h23 e20 ?_
 refine qz 7 (qD2 x20) [] rfl rfl rfl (qV (j:=0) rfl tf3 rfl rfl (fun _=>rfl) rfl) ?_
 exact az [6,8,123,54,2,8,25,15]
theorem qbK (hm:vg F m1 m2 i1=some i2) :
    PureM qD9 129 [qD3 l1 m1 t1,.func (.func 130) #[] #[qD4 t2,qD4 t4]] [⟨t2,56,[qD3 l2 m2 t3]⟩,⟨t4,3,[qD2 i1]⟩] [] [qD5 l1 m1 t1,qD5 l2 m2 t3] Unit (fun _=>qD2 i2) (fun _=>[⟨t2,56,[qD3 l2 m2 t3]⟩,⟨t4,3,[qD2 i1]⟩]) (fun _=>[]):=by
 refine pureMA func129 ntmps129 hm fun _=>?_
 refine au [55,47] ?_
 refine qg [] [0,1] [] [1] (fun ((_,_):Unit×Unit)=>([],[],[],[],yD F)) ?_ ?_
 refine au [48,86] ?_
 refine qm [0,1,7] [0,0] [] [0,1] (fun ((x60,_):Int×Unit)=>([(8,qD2 x60)],[],[],[])) (0:Int) () ?_
 intro k73
 rintro ⟨x60,_⟩
 refine aw [39,1,4,24,4,0,2,1,11] ?_ ?_
 refine au [85,48,60,91,26,4] ?_
 intro x80 e80 b81 o82
 refine au [25,3] ?_
 refine qfn EnC.e rfl rfl rfl rfl (fun x83 e83=>qnx F x80 t2 m2 l2 t3 t4 i1 x83 e83) (.cons 0 rfl (.cons 0 rfl .nil)) .nil (.consF 2 rfl .nil) (fun x83 e83 _=>?_)
 refine aw [0,2,11] ?_ ?_
 exact az [48,49,111,52,25,15]
 refine au [12,98] ?_
 exact qj (iadd .i64 x60 1,())
 exact az [122]
 rintro ⟨_,_⟩
 exact az [39,45,90]
theorem qqs {r:(qD0×Int)}(hm:qkV F p1 i1 i2=some r) :
    Pure qD9 92 [.agg #[qD3 l1 p1 t1],qD2 i1,qD2 i2] [SlN eN56 iN56 1 (qD3 l1 p1 t1) p1 n1] (qD1×Nat) (fun g=>.tuple #[qD3 g.1 r.1 g.2,qD2 r.2]) (fun g=>[qD6 g.1 r.1 g.2]) (fun _=>[]):=by
 refine pureA func92 ntmps92 hm fun _=>?_
 refine au [126] ?_
 intro g6
 refine au [5,82,74,91] ?_
 refine zw [i1,i2] (fun a11 c12=>?_)
 refine au [37,14] ?_
 intro x13 e13 _
 refine aw [5,0,2,1,4,3,25,4,0,2,11] ?_ ?_
 refine au [48,5,104] ?_
 exact qx (none,0)
 refine au [57,74] ?_
 refine qd qnk ?_
 rintro x14 e14 ⟨a15,c16⟩
 refine au [3,81,24,2] ?_
 intro g17
 refine au [17,47,74,3,37,15] ?_
 rintro x18 e18 ⟨a19,c20⟩
 refine au [24,2] ?_
 intro g21
 refine au [17,46,1,45,20,3,26,7] ?_
 intro x26 e26 g27 h28
 refine ku (j:=0) (y:=x26) (qA .i64) rfl rfl tf3 rfl h28 (qw e26).2.2 (fun _=>rfl) rfl rfl ?_
 refine aw [24,4,0,2,11] ?_ ?_
 refine au [45,5,104] ?_
 exact qx (none,0)
 refine au [57,48] ?_
 refine zw [i1] (fun a29 c30=>?_)
 refine au [47] ?_
 refine qL (fun ((x0,a0,c0):qD0×qD1×Nat)=>([(12,qD3 a0 x0 c0)],[],[qD6 a0 x0 c0],[],qhZ F x0)) ?_ ?_
 refine au [48,24,2] ?_
 intro g0
 refine au [17,75] ?_
 refine qm [2,3,11] [1,2] [1] [0] (fun (((x2,x3),a1,c1,g1):(qD0×Int)×qD1×Nat×Nat)=>([(12,qD3 a1 x2 c1),(13,qD4 g1)],[⟨g1,3,[qD2 x3]⟩],[qD6 a1 x2 c1],[])) (([i1]:qD0),i1) (a29,c30,g0) ?_
 intro k0
 rintro ⟨⟨x2,x3⟩,a1,c1,g1⟩
 refine aw [39,1,1,4,26,1,3,25,4,0,2,11] ?_ ?_
 refine au [85,45,94,26,1,27,6] ?_
 intro x6 e0 g2 b0 o0
 refine au [25,3,27,9] ?_
 refine qs qbK ?_
 intro x7 e1 _
 refine au [47,4,118,25,12,38,1] ?_
 intro x8 e2 g3 b1 o1
 refine au [25,3,3,29,9] ?_
 intro x9 e3 b2 o2
 refine au [25,3,25,5,0,65,1,45,25,12,46,4,24,2] ?_
 intro g4
 refine au [17,46,4,3,20] ?_
 refine zw [x9] (fun a3 c2=>?_)
 refine zo 2 (qA .i64) rfl underlying56 tf3 rfl rfl rfl rfl rfl (.inl ⟨0,_,rfl⟩) rfl rfl (fun x10 e4 a4 c4=>?_)
 refine au [5,0] ?_
 exact qj ((x10,x9),a4,c4,g4)
 refine au [72] ?_
 exact qa (x2,a1,c1)
 rintro ⟨x0,a0,c0⟩
 refine au [92,5,49] ?_
 exact qx (a0,c0)
theorem qh7 {r:(Int×qD0)}(hm:vB F p1 i1 i2 i3 m1 m2 m3 i4 i5=some r) :
    PureM qD9 93 [qD4 t1,qD3 l3 m3 t4,qD2 i4,qD2 i5] [⟨t1,85,[qD3 l1 p1 t2,qD2 i1,qD2 i2,qD2 i3,qD3 l2 m1 t3,.string (bstr m2)]⟩] [] [SlN eN56 iN56 1 (qD3 l1 p1 t2) p1 n1,qD5 l2 m1 t3,qD5 l3 m3 t4,GF] Unit (fun _=>qD2 r.1) (fun _=>[⟨t1,85,[qD3 l1 p1 t2,qD2 i1,qD2 i2,qD2 i3,qD3 l2 m1 t3,.string (bstr r.2)]⟩]) (fun _=>[]):=by
 refine pureMA func93 ntmps93 hm fun _=>?_
 refine au [28,12,45,47] ?_
 refine qg [] [] [] [0,1,3] (fun (((x19,x20),_):(Int×qD0)×Unit)=>([(2,qD2 x19)],[⟨t1,85,[qD3 l1 p1 t2,qD2 i1,qD2 i2,qD2 i3,qD3 l2 m1 t3,.string (bstr x20)]⟩],[],[],vO F x19 x20)) ?_ ?_
 refine au [48,3,37,13] ?_
 intro x21 e21 _
 refine aw [0,2,1,4,3,3,25,6,0,2,11] ?_ ?_
 refine au [4,3,51,17,5,0] ?_
 exact qa (((0:Int),([110,111,110,101]:qD0)),())
 refine au [12] ?_
 exact qa ((i4,x21),())
 rintro ⟨⟨x19,x20⟩,_⟩
 exact az [92,90]
theorem qjx (F g1:Nat)(x2:List (qD0))(a3:qD1)(c4:(Nat×List (qD1×Nat)))(x5 x6 x7:Int)(x8:qD0)(a9:qD1)(c10:Nat)(x11:qD0)(r:(Int×qD0))(hm:qgf F x2 x5 x6 x7 x8 x11=some r) :
    PureM qD9 65 [qD4 g1] [⟨g1,85,[qD3 a3 x2 c4.1,qD2 x5,qD2 x6,qD2 x7,qD3 a9 x8 c10,.string (bstr x11)]⟩] [] [SlN eN56 iN56 1 (qD3 a3 x2 c4.1) x2 c4.2,qD5 a9 x8 c10,GF] Unit (fun _=>qD2 r.1) (fun _=>[⟨g1,85,[qD3 a3 x2 c4.1,qD2 x5,qD2 x6,qD2 x7,qD3 a9 x8 c10,.string (bstr r.2)]⟩]) (fun _=>[]):=by
 refine pureMA func65 ntmps65 hm fun _=>?_
 refine au [64,82,28,9] ?_
 intro x23 e23 b24 o25 h26
 replace h26:a9=some ⟨b24,o25,none⟩:=h26
 refine au [30,6] ?_
 intro x27 e27 b28 o29 h30
 replace h30:a9=some ⟨b28,o29,none⟩:=h30
 refine qE [] [0] [0,1,2,3,4] 23 ?_
 refine au [70,18,2,18,3] ?_
 refine qr 4 (.agg #[.slice a3 x2.length c4.1]) rfl rfl rfl (qq (i:=0) rfl tf24 rfl rfl (by simp) rfl) ?_
 refine au [6,5,6,6,18,7,24,15,8] ?_
 refine vW 9 h26 e23 ?_
 refine qz 10 (qD2 x23) [] rfl rfl rfl (qV (j:=1) rfl tf3 rfl rfl (fun _=>rfl) rfl) ?_
 refine au [76,18,13,24,15,14] ?_
 refine vW 15 h30 e27 ?_
 refine qz 16 (qD2 x27) [] rfl rfl rfl (qV (j:=0) rfl tf3 rfl rfl (fun _=>rfl) rfl) ?_
 refine au [9,17] ?_
 refine qd qqs ?_
 rintro x31 e31 ⟨a32,c33⟩
 refine au [0] ?_
 refine zm [0] [0,1,2,3,4] ?_
 refine au [6,18,6,19,6,20,6,21,6,22,54,2,48,91,38,2] ?_
 intro x34 e34 _
 exact az [90]
theorem qdn (F g1 g2:Nat)(x3:List (qD0))(a4:qD1)(c5:(Nat×List (qD1×Nat)))(x6 x7 x8:Int)(x9:qD0)(a10:qD1)(c11:Nat)(x12:qD0)(g13:Nat)(r:(Int×qD0))(hm:kw F x3 x6 x7 x8 x9 x12=some r) :
    PureM qD9 94 [qD4 g1,qD4 g13] [⟨g1,83,[qD4 g2]⟩,⟨g2,85,[qD3 a4 x3 c5.1,qD2 x6,qD2 x7,qD2 x8,qD3 a10 x9 c11,.string (bstr x12)]⟩,⟨g13,107,[.func (.func 67) #[] #[]]⟩] [] [SlN eN56 iN56 1 (qD3 a4 x3 c5.1) x3 c5.2,qD5 a10 x9 c11,GF] Unit (fun _=>qD2 r.1) (fun _=>[⟨g2,85,[qD3 a4 x3 c5.1,qD2 x6,qD2 x7,qD2 x8,qD3 a10 x9 c11,.string (bstr r.2)]⟩,⟨g1,83,[qD4 g2]⟩,⟨g13,107,[.func (.func 67) #[] #[]]⟩]) (fun _=>[]):=by
 refine pureMA func94 ntmps94 hm fun _=>?_
 refine au [55,82,1,28,9] ?_
 intro x36 e36 b37 o38 h39
 replace h39:a10=some ⟨b37,o38,none⟩:=h39
 refine au [38,3,24,15,0,24,15,1,6,2,18,3,26,10,4] ?_
 refine vW 5 h39 e36 ?_
 refine qz 6 (qD2 x36) [] rfl rfl rfl (qV (j:=0) rfl tf3 rfl rfl (fun _=>rfl) rfl) ?_
 refine au [9,7] ?_
 refine zw [x36] (fun a40 c41=>?_)
 refine au [0,31,8,9,8,31,1] ?_
 intro x42 e42 _
 refine aw [0,38,4,6,9,15,16,2,11] ?_ ?_
 exact az [45,59,25,15]
 refine au [84,38,5,29,2,0,26,10,1,6,2,18,3,18,4] ?_
 refine qr 5 (.agg #[.slice a4 x3.length c5.1]) rfl rfl rfl (qq (i:=0) rfl tf24 rfl rfl (by simp) rfl) ?_
 refine au [9,6] ?_
 refine qj3 EnC.e rfl rfl rfl rfl (fun x46 e46=>qkO F x3 a4 c5 x46 e46) (.consF 1 rfl .nil) (fun x46 e46=>?_)
 rintro ⟨a47,c48⟩
 refine au [0,31,8,6,7,6,8,123,66,2,1,30,6] ?_
 intro x58 e58 b59 o60 h61
 replace h61:a10=some ⟨b59,o60,none⟩:=h61
 refine au [30,7] ?_
 intro x62 e62 g63 h64
 replace h64:a47=some ⟨g63,0,none⟩:=h64
 have h65:=zF (k:=x46.1.length) (c:=c48) h64
 refine kg mixed [13] _ _ (.cons 1 rfl (.cons 1 rfl .nil)) (qh 0 rfl (qh 1 rfl (qh 2 rfl (qh 3 rfl (qh 4 rfl (qB 0 rfl (ql (qA .i64) e62 h64) (qgl 0 rfl qf))))))) 14 rfl ?_
 refine au [24,15,0,6,1,24,15,2,6,3,18,4] ?_
 refine qz 5 (qD3 a10 x9 c11) [[13]] rfl rfl rfl (kM (j:=6) rfl tf56 rfl rfl (fun _=>rfl) rfl) (vW 6 h61 e58 ?_)
 refine qz 7 (qD2 x58) [[13]] rfl rfl rfl (qV (j:=0) rfl tf3 rfl rfl (fun _=>rfl) rfl) (jA 8 h64 e62 ?_)
 refine qz 9 (qD2 x62) [[13]] rfl rfl rfl (qV (j:=5) rfl tf3 rfl rfl (fun _=>rfl) rfl) ?_
 refine au [9,10] ?_
 refine yY EnC.e rfl rfl rfl (fun x66 e66=>qfq x62 x66 e66) (.consF 4 rfl .nil) (fun x66 e66 _=>?_)
 refine au [0] ?_
 refine qc (.cons 1 rfl (.cons 1 rfl .nil)) (qh 0 rfl (qh 1 rfl (qh 2 rfl (qh 3 rfl (qh 4 rfl (qB 0 rfl (ql (qA .i64) e62 h64) (qgl 0 rfl qf))))))) ?_
 exact az [6,11,18,12,9,13,80,38,6,54,2,48,90]
theorem qkk {r:(qD0×qD0×Int)}(hm:qcf F p1=some r) :
    PureM qD9 133 [.agg #[qD3 l1 p1 t1]] [] [] [SlN eN56 iN56 1 (qD3 l1 p1 t1) p1 n1] ((qD1×Nat)×qD1×Nat) (fun g=>.tuple #[qD3 g.1.1 r.1 g.1.2,qD3 g.2.1 r.2.1 g.2.2,qD2 r.2.2]) (fun _=>[]) (fun g=>[qD6 g.1.1 r.1 g.1.2,qD6 g.2.1 r.2.1 g.2.2]):=by
 refine qdg func133 rfl ntmps133 rfl hm (fun w=>?_)
 refine au [87] ?_
 intro g4
 refine au [24,2] ?_
 intro g5
 refine au [24,2] ?_
 intro g6
 refine au [82,45,26,9,28,7] ?_
 intro x9 e9 _
 refine aw [5,0,2,1,4,3,25,4,0,2,11] ?_ ?_
 refine au [48,25,5,17,104,25,8] ?_
 exact ja [] ((none,0),none,0) (.inl rfl) rfl .nil (resL (rs:=[.cell 2 56,.cell 3 56,.tmp 4]) rfl (.cell (i:=1) rfl tf56 rfl rfl (fun _=>rfl) rfl (.cell (i:=0) rfl tf56 rfl rfl (fun _=>rfl) rfl (.tmp rfl ResOk.nil))) rfl) (fun h=>by subst h;rfl) (fun h=>by subst h;exact .nil) (fun h=>by subst h;exact (.cons 0 rfl (.cons 0 rfl .nil)))
 refine au [57] ?_
 refine qg [1,2,3,4] [2] [] [0] (fun (((x27,x30),a25,c26,a28,c29):(qD0×qD0)×qD1×Nat×qD1×Nat)=>([],[⟨g6,56,[qD3 a25 x27 c26]⟩,⟨g5,56,[qD3 a28 x30 c29]⟩],[qD6 a25 x27 c26,qD6 a28 x30 c29],[],qco F p1 x27 x30)) ?_ ?_
 refine qE [] [2] [0] 10 ?_
 refine au [114,28,8,2,18,4,24,15,5,28,8,6] ?_
 refine zJ 3 7 rfl rfl (by kernel_rfl) rfl rfl ?_ ?_
 refine au [26,3] ?_
 intro x0 e0 a0 c0
 refine au [0,27,1] ?_
 refine zJ 7 8 rfl rfl (by kernel_rfl) rfl rfl ?_ ?_
 refine au [26,3] ?_
 intro x2 e1 a1 c1
 refine au [0,27,1,9,8,25,5,0,27,1,9,9,80,27,1,54] ?_
 exact qa ((x2,x0),a1,c1,a0,c0)
 refine au [25,5,0,27,1,9,7,26,3] ?_
 intro x3 e2 a3 c2
 refine au [0,27,1,9,9,80,27,1,54] ?_
 exact qa ((x3,x0),a3,c2,a0,c0)
 refine qd0 pull1 ?_
 refine au [26,3] ?_
 intro x4 e3 a4 c4
 refine au [0,27,1,9,3,26,3] ?_
 intro x5 e4 a5 c5
 refine au [0,27,1,9,8,25,5,0,27,1,9,9,80,27,1,54] ?_
 exact qa ((x4,x5),a4,c4,a5,c5)
 rintro ⟨⟨x27,x30⟩,a25,c26,a28,c29⟩
 refine au [39,1,74,30,12] ?_
 intro x98 e98 g99
 refine au [75] ?_
 refine qbU (encs:=(fun (p:Int×Int)=>[.agg #[qD2 p.1,qD2 p.2]])) (y:=(fun ((x6,x7):(qD0×qD0)) ((x8,x10):Int×Int)=>vD F x6 x7 x8 x10)) (lb:=[qD4 g99]) (fun ((x6,x7):(qD0×qD0)) (_:Unit)=>[⟨g4,24,[qD3 l1 p1 t1]⟩,⟨g6,56,[qD3 a25 x6 c26]⟩,⟨g5,56,[qD3 a28 x7 c29]⟩]) (fun ((x6,x7):(qD0×qD0)) (_:Unit)=>[qD6 a25 x6 c26,qD6 a28 x7 c29]) (fun (_:Empty) (_:Unit)=>[]) (fun (_:Empty) (_:Unit)=>[]) (fun _=>.skip) (x27,x30) () rfl EnC.e (fun _=>rfl) rfl (.cons 0 rfl .nil) (.cons 0 rfl (.cons 0 rfl (.cons 0 rfl .nil))) (.cons 0 rfl (.cons 0 rfl .nil)) (.consF 0 rfl .nil) (fun z hz _ _ _ hY=>qdI F hY (x27,x30) () g99 p1 l1 (t1,n1) z hz) ?_ ?_ ?_
 rintro rc1 L1 D1 ⟨x6,x7⟩ _ ⟨x8,x10⟩ z w M _
 try dsimp only
 refine qdk [(1,qD4 g4),(2,qD4 g5),(3,qD4 g6),(4,qD2 0),(20,.agg #[qD3 l1 p1 t1]),(21,.func (.func 159) #[] #[qD4 g99]),(22,.agg #[qD2 x8,qD2 x10])] (qk rfl (qk rfl (qk rfl (qk rfl (qk rfl (qk rfl (qk rfl qdB))))))) ?_
 refine au [4,24,2] ?_
 intro g0
 refine au [80,34,14,14,45,29,3,67,29,1] ?_
 intro x11 e5 g1 h0
 refine ku (j:=1) (y:=x11) (qA .i64) rfl rfl tf3 rfl h0 (qw e5).2.2 (fun _=>rfl) rfl rfl ?_
 refine au [23,29,1] ?_
 intro x12 e6 g2 h1
 refine zZ (j:=1) (y':=iadd .i64 x11 1) (qA .i64) rfl rfl rfl tf3 rfl h1 (qw e6).2.1 rfl (fun x13 e7 h2=>?_)
 have h3:x13.length=x7.length:=by rw[← e7,qBA]
 refine qp (d:=23) (v:=qD3 a28 x13 c29) rfl h2 (qS (i:=3) (cs':=[qD3 a28 x13 c29]) rfl (by simp only[qD3,h2] <;> rfl) ?_)
 refine au [46,4,26,1,67,29,1] ?_
 intro x14 e8 g3 h4
 refine ku (j:=1) (y:=x14) (qA .i64) rfl rfl tf3 rfl h4 (qw e8).2.2 (fun _=>rfl) rfl rfl ?_
 refine au [23,29,1] ?_
 intro x15 e10 g7 h5
 refine zZ (j:=1) (y':=iadd .i64 x14 1) (qA .i64) rfl rfl rfl tf3 rfl h5 (qw e10).2.1 rfl (fun x16 e11 h6=>?_)
 have h7:x16.length=x6.length:=by rw[← e11,qBA]
 refine qp (d:=30) (v:=qD3 a25 x16 c26) rfl h6 (qS (i:=2) (cs':=[qD3 a25 x16 c26]) rfl (by simp only[qD3,h6] <;> rfl) ?_)
 refine au [121] ?_
 exact vk (rc:=rc1) rfl (.cons 4 rfl .nil) rfl () (.cons 2 rfl (.cons 2 rfl (.cons 2 rfl (.cons 0 rfl (.cons 1 rfl .nil))))) (.cons 0 rfl (.cons 0 rfl .nil))
 rintro ⟨x6,x7⟩ _ _ D1
 refine au [39,65,1,38,7] ?_
 refine qr 0 _ rfl rfl rfl (qq (i:=4) rfl inferInstance rfl rfl (fun _=>rfl) rfl) ?_
 refine au [32,5,1,9,2] ?_
 refine kA (i:=4) rfl rfl rfl inferInstance rfl rfl rfl rfl rfl ?_
 refine au [0,29,13,9,3,30,9,0,29,13,6,4,54,2,8] ?_
 exact ja [D1] ((a28,c29),a25,c26) (.inl rfl) rfl (.cons 0 rfl .nil) (resL (rs:=[.cell 2 56,.cell 3 56,.tmp 4]) rfl (.cell (i:=3) rfl tf56 rfl rfl (fun _=>rfl) rfl (.cell (i:=2) rfl tf56 rfl rfl (fun _=>rfl) rfl (.tmp rfl ResOk.nil))) rfl) (fun h=>by subst h;rfl) (fun h=>by subst h;exact .nil) (fun h=>by subst h;exact (.cons 1 rfl (.cons 0 rfl .nil)))
 intro t;exact t.elim
theorem qkN {r:(qD0×Int)}(hm:qc7 F p1=some r) :
    Pure qD9 96 [.agg #[qD3 l1 p1 t1]] [SlN eN56 iN56 1 (qD3 l1 p1 t1) p1 n1] (qD1×Nat) (fun g=>.tuple #[qD3 g.1 r.1 g.2,qD2 r.2]) (fun g=>[qD6 g.1 r.1 g.2]) (fun _=>[]):=by
 refine pureA func96 ntmps96 hm fun _=>?_
 refine au [87] ?_
 intro g4
 refine au [5,47,74] ?_
 refine qs qkk ?_
 rintro x5 e5 ⟨⟨a6,c7⟩,a8,c9⟩
 refine aw [3,22,22,22,5,5,5,0,2,1,1,4,3,25,4,0,2,11] ?_ ?_
 refine au [48,5,104] ?_
 exact qx (none,0)
 refine au [125,47] ?_
 refine qL (fun ((x0,a0,c0):qD0×qD1×Nat)=>([(7,qD3 a0 x0 c0)],[],[qD6 a0 x0 c0],[],qff F x0)) ?_ ?_
 refine au [14,28,0] ?_
 refine qm [1] [0] [] [0] (fun (((x2,x3),a1,c1):(qD0×qD0)×qD1×Nat)=>([(5,qD3 a8 x2 c9),(7,qD3 a1 x3 c1)],[],[qD6 a8 x2 c9,qD6 a1 x3 c1],[])) (x5.2.1,([]:qD0)) (none,0) ?_
 intro k0
 rintro ⟨⟨x2,x3⟩,a1,c1⟩
 refine aw [39,1,1,4,3,24,7,3,24,7,24,4,0,2,11] ?_ ?_
 refine au [57,14,48,31,11] ?_
 intro x4 e0 _
 refine aw [5,0,2,1,1,4,3,24,4,0,2,11] ?_ ?_
 refine au [45,5,59,52,52,25,8] ?_
 exact qx (none,0)
 refine au [57,48,3,26,7] ?_
 intro x6 e1 g0 h0
 refine zZ (j:=0) (y':=-1) (qA .i64) rfl rfl rfl tf3 rfl h0 (qw e1).2.1 rfl (fun x7 e2 h1=>?_)
 have h2:x7.length=x2.length:=by rw[← e2,qBA]
 refine qp (d:=5) (v:=qD3 a8 x7 c9) rfl h1 (qp (d:=22) (v:=qD3 a8 x7 c9) rfl h1 (qp (d:=25) (v:=qD3 a8 x7 c9) rfl h1 (qp (d:=29) (v:=qD3 a8 x7 c9) rfl h1 ?_)))
 refine au [46] ?_
 refine qg [1,7,8] [0] [1] [0] (fun ((x8,_):qD0×Unit)=>([(5,qD3 a8 x8 c9)],[],[qD6 a8 x8 c9],[],qaB F (vG F p1 k0) x3 x4 x8)) ?_ ?_
 refine au [45,67,3,27,6] ?_
 intro x9 e3 g1 b0 o0
 refine au [25,3,86] ?_
 refine qm [1,7,8,36,37] [0] [1] [1,2] (fun (((x10,x11),_):(qD0×Int)×Unit)=>([(5,qD3 a8 x10 c9),(38,qD2 x11)],[],[qD6 a8 x10 c9],[])) (x7,(0:Int)) () ?_
 intro k1
 rintro ⟨⟨x10,x11⟩,_⟩
 refine aw [39,1,4,24,4,0,2,1,11] ?_ ?_
 refine au [85,45,26,4] ?_
 intro x12 e4 b1 o1
 refine au [25,3,47,4,91,29,1] ?_
 intro x13 e6 g2 h3
 refine ku (j:=1) (y:=x13) (qA .i64) rfl rfl tf3 rfl h3 (qw e6).2.2 (fun _=>rfl) rfl rfl ?_
 refine au [25,9,29,1] ?_
 intro x14 e7 g3 h4
 refine zZ (j:=1) (y':=isub .i64 x13 1) (qA .i64) rfl rfl rfl tf3 rfl h4 (qw e7).2.1 rfl (fun x15 e8 h5=>?_)
 have h6:x15.length=x10.length:=by rw[← e8,qBA]
 refine qp (d:=5) (v:=qD3 a8 x15 c9) rfl h5 (qp (d:=42) (v:=qD3 a8 x15 c9) rfl h5 ?_)
 refine au [0,98] ?_
 exact qj ((x15,iadd .i64 x11 1),())
 refine au [72] ?_
 exact qa (x10,())
 rintro ⟨x8,_⟩
 refine au [39,4,91] ?_
 refine zw [x4] (fun a3 c2=>?_)
 refine zo 1 (qA .i64) rfl underlying56 tf3 rfl rfl rfl rfl rfl (.inl ⟨0,_,rfl⟩) rfl rfl (fun x16 e9 a4 c4=>?_)
 refine au [5,121] ?_
 exact qj ((x8,x16),a4,c4)
 refine au [72] ?_
 exact qa (x3,a1,c1)
 rintro ⟨x0,a0,c0⟩
 refine au [92,5,49] ?_
 exact qx (a0,c0)
theorem qh9 (F g1:Nat)(x2:List (qD0))(a3:qD1)(c4:(Nat×List (qD1×Nat)))(x5 x6 x7:Int)(x8:qD0)(a9:qD1)(c10:Nat)(x11:qD0)(r:(Int×qD0))(hm:qap F x2 x5 x6 x7 x8 x11=some r) :
    PureM qD9 68 [qD4 g1] [⟨g1,85,[qD3 a3 x2 c4.1,qD2 x5,qD2 x6,qD2 x7,qD3 a9 x8 c10,.string (bstr x11)]⟩] [] [SlN eN56 iN56 1 (qD3 a3 x2 c4.1) x2 c4.2,qD5 a9 x8 c10,GF] Unit (fun _=>qD2 r.1) (fun _=>[⟨g1,85,[qD3 a3 x2 c4.1,qD2 x5,qD2 x6,qD2 x7,qD3 a9 x8 c10,.string (bstr r.2)]⟩]) (fun _=>[]):=by
 refine pureMA func68 ntmps68 hm fun _=>?_
 refine au [64,60,51,103] ?_
 refine qd qkN ?_
 rintro x12 e12 ⟨a13,c14⟩
 refine au [3,81,5,60,91,38,2] ?_
 intro x15 e15 _
 exact az [90]
theorem qdm (F g1 g2:Nat)(x3:List (qD0))(a4:qD1)(c5:(Nat×List (qD1×Nat)))(x6 x7 x8:Int)(x9:qD0)(a10:qD1)(c11:Nat)(x12:qD0)(g13:Nat)(r:(Int×qD0))(hm:kv F x3 x6 x7 x8 x9 x12=some r) :
    PureM qD9 94 [qD4 g1,qD4 g13] [⟨g1,83,[qD4 g2]⟩,⟨g2,85,[qD3 a4 x3 c5.1,qD2 x6,qD2 x7,qD2 x8,qD3 a10 x9 c11,.string (bstr x12)]⟩,⟨g13,107,[.func (.func 69) #[] #[]]⟩] [] [SlN eN56 iN56 1 (qD3 a4 x3 c5.1) x3 c5.2,qD5 a10 x9 c11,GF] Unit (fun _=>qD2 r.1) (fun _=>[⟨g2,85,[qD3 a4 x3 c5.1,qD2 x6,qD2 x7,qD2 x8,qD3 a10 x9 c11,.string (bstr r.2)]⟩,⟨g1,83,[qD4 g2]⟩,⟨g13,107,[.func (.func 69) #[] #[]]⟩]) (fun _=>[]):=by
 refine pureMA func94 ntmps94 hm fun _=>?_
 refine au [55,82,1,28,9] ?_
 intro x36 e36 b37 o38 h39
 replace h39:a10=some ⟨b37,o38,none⟩:=h39
 refine au [38,3,24,15,0,24,15,1,6,2,18,3,26,10,4] ?_
 refine vW 5 h39 e36 ?_
 refine qz 6 (qD2 x36) [] rfl rfl rfl (qV (j:=0) rfl tf3 rfl rfl (fun _=>rfl) rfl) ?_
 refine au [9,7] ?_
 refine zw [x36] (fun a40 c41=>?_)
 refine au [0,31,8,9,8,31,1] ?_
 intro x42 e42 _
 refine aw [0,38,4,6,9,15,16,2,11] ?_ ?_
 exact az [45,59,25,15]
 refine au [84,38,5,29,2,0,26,10,1,6,2,18,3,18,4] ?_
 refine qr 5 (.agg #[.slice a4 x3.length c5.1]) rfl rfl rfl (qq (i:=0) rfl tf24 rfl rfl (by simp) rfl) ?_
 refine au [9,6] ?_
 refine qj3 EnC.e rfl rfl rfl rfl (fun x46 e46=>qkG F x3 a4 c5 x46 e46) (.consF 1 rfl .nil) (fun x46 e46=>?_)
 rintro ⟨a47,c48⟩
 refine au [0,31,8,6,7,6,8,123,66,2,1,30,6] ?_
 intro x58 e58 b59 o60 h61
 replace h61:a10=some ⟨b59,o60,none⟩:=h61
 refine au [30,7] ?_
 intro x62 e62 g63 h64
 replace h64:a47=some ⟨g63,0,none⟩:=h64
 have h65:=zF (k:=x46.1.length) (c:=c48) h64
 refine kg mixed [13] _ _ (.cons 1 rfl (.cons 1 rfl .nil)) (qh 0 rfl (qh 1 rfl (qh 2 rfl (qh 3 rfl (qh 4 rfl (qB 0 rfl (ql (qA .i64) e62 h64) (qgl 0 rfl qf))))))) 14 rfl ?_
 refine au [24,15,0,6,1,24,15,2,6,3,18,4] ?_
 refine qz 5 (qD3 a10 x9 c11) [[13]] rfl rfl rfl (kM (j:=6) rfl tf56 rfl rfl (fun _=>rfl) rfl) (vW 6 h61 e58 ?_)
 refine qz 7 (qD2 x58) [[13]] rfl rfl rfl (qV (j:=0) rfl tf3 rfl rfl (fun _=>rfl) rfl) (jA 8 h64 e62 ?_)
 refine qz 9 (qD2 x62) [[13]] rfl rfl rfl (qV (j:=5) rfl tf3 rfl rfl (fun _=>rfl) rfl) ?_
 refine au [9,10] ?_
 refine yY EnC.e rfl rfl rfl (fun x66 e66=>qfq x62 x66 e66) (.consF 4 rfl .nil) (fun x66 e66 _=>?_)
 refine au [0] ?_
 refine qc (.cons 1 rfl (.cons 1 rfl .nil)) (qh 0 rfl (qh 1 rfl (qh 2 rfl (qh 3 rfl (qh 4 rfl (qB 0 rfl (ql (qA .i64) e62 h64) (qgl 0 rfl qf))))))) ?_
 exact az [6,11,18,12,9,13,80,38,6,54,2,48,90]
theorem qlZ {r:Unit}(hm:qfL F p1=some r) :
    PureM qD9 136 [qD3 l1 p1 t1] [] [] [SlN eN56 iN56 1 (qD3 l1 p1 t1) p1 n1] Nat (fun g=>.func (.func 179) #[] #[qD4 g]) (fun g=>[⟨g,22,[qD3 l1 p1 t1]⟩]) (fun _=>[]):=by
 refine pureMA func136 ntmps136 hm fun _=>?_
 refine au [87] ?_
 intro g4
 refine au [83,27,9,49] ?_
 exact qH g4
theorem qkj (F:Nat){σ τ:Type}{J:Rounds σ τ}{yy:σ→qD0→Option (σ ⊕ τ)}{L:Nat}(hY:YieldC qD9 L (fun (p:qD0)=>[.agg (p.flatMap (eI .i64)).toArray]) J yy)(s0:σ)(gs0:J.γ)(g1:Nat)(x2:List (qD0))(a3:qD1)(c4:(Nat×List (qD1×Nat)))(r:σ ⊕ τ)(hm:qeg F yy x2 s0=some r) :
    PureM qD9 179 ([.func (.yield L) #[] #[],qD4 g1]) ([⟨g1,22,[qD3 a3 x2 c4.1]⟩]++J.IB s0 gs0) (J.IR s0 gs0) [J.F,SlN eN56 iN56 1 (qD3 a3 x2 c4.1) x2 c4.2] (J.G r) (fun _=>.tuple #[]) (fun g=>[⟨g1,22,[qD3 a3 x2 c4.1]⟩]++J.bs r g) (fun g=>J.rs r g):=by
 refine pureMA func179 ntmps179 hm fun _=>?_
 refine au [55,20,86] ?_
 refine vy (fun (((x0,x1),g0):(Int×σ)×J.γ)=>[(0,.func (.yield L) #[] #[]),(1,qD4 g1),(11,qD3 a3 x2 c4.1),(12,qD2 (x2.length:Int)),(13,qD2 x0)]) (fun (((x0,x1),g0):(Int×σ)×J.γ)=>[⟨g1,22,[qD3 a3 x2 c4.1]⟩]++J.IB x1 g0) (fun (((x0,x1),g0):(Int×σ)×J.γ)=>[]++J.IR x1 g0) (fun (((x0,x1),g0):(Int×σ)×J.γ)=>[SlN eN56 iN56 1 (qD3 a3 x2 c4.1) x2 c4.2,J.F]) (fun k (s:(Int×σ)×J.γ)=>qI F yy x2 k s.1) ((0,s0),gs0) F ?_ (hB:=(.cons 0 rfl (qe 0 rfl))) (hR:=(qe 0 rfl)) (hF:=(qi 1 rfl (qi 0 rfl zB)))
 intro k0
 rintro ⟨⟨x0,x1⟩,g0⟩
 try dsimp only
 refine qaJ (m':=ji F yy x2 (qI F yy x2 k0) x0 x1) rfl ?_
 refine aw [1,4,24,4,0,2,1,11] ?_ ?_
 refine au [57] ?_
 refine qdj (fun ((x3,g2):σ×J.γ)=>[(0,.func (.yield L) #[] #[]),(1,qD4 g1),(11,qD3 a3 x2 c4.1),(12,qD2 (x2.length:Int)),(13,qD2 x0)]) (fun ((x3,g2):σ×J.γ)=>[⟨g1,22,[qD3 a3 x2 c4.1]⟩]++J.IB x3 g2) (fun ((x3,g2):σ×J.γ)=>[]++J.IR x3 g2) (fun ((x3,g2):σ×J.γ)=>[SlN eN56 iN56 1 (qD3 a3 x2 c4.1) x2 c4.2,J.F]) (fun ((x3,_):σ×J.γ)=>jm F yy (qI F yy x2 k0) x0 x3) ?_ ?_
 refine au [14,48,27,6] ?_
 intro x4 e0 g3 b0 o0
 refine au [25,3,5,60,86] ?_
 refine vy (fun (((x5,x6),g4):(Int×σ)×J.γ)=>[(0,.func (.yield L) #[] #[]),(1,qD4 g1),(3,qD2 x0),(4,qD3 g3.1 x4 g3.2),(11,qD3 a3 x2 c4.1),(12,qD2 (x2.length:Int)),(13,qD2 x0),(18,qD3 g3.1 x4 g3.2),(19,qD2 (x4.length:Int)),(20,qD2 x5)]) (fun (((x5,x6),g4):(Int×σ)×J.γ)=>[⟨g1,22,[qD3 a3 x2 c4.1]⟩]++J.IB x6 g4) (fun (((x5,x6),g4):(Int×σ)×J.γ)=>[]++J.IR x6 g4) (fun (((x5,x6),g4):(Int×σ)×J.γ)=>[qD5 g3.1 x4 g3.2,SlN eN56 iN56 1 (qD3 a3 x2 c4.1) x2 c4.2,J.F]) (fun k (s:(Int×σ)×J.γ)=>qY F yy (qI F yy x2 k0) x2 x0 x4 k s.1) ((0,x1),g0) F ?_ (hB:=(.cons 0 rfl (qe 0 rfl))) (hR:=(qe 0 rfl)) (hF:=(qi 1 rfl (qi 2 rfl (qi 3 rfl zB))))
 intro k1
 rintro ⟨⟨x5,x6⟩,g4⟩
 try dsimp only
 refine qaJ (m':=jk F yy (qI F yy x2 k0) x2 x0 x4 (qY F yy (qI F yy x2 k0) x2 x0 x4 k1) x5 x6) rfl ?_
 refine aw [1,4,24,4,0,2,1,11] ?_ ?_
 refine au [57] ?_
 refine qdj (fun ((x7,g5):σ×J.γ)=>[(0,.func (.yield L) #[] #[]),(1,qD4 g1),(3,qD2 x0),(4,qD3 g3.1 x4 g3.2),(11,qD3 a3 x2 c4.1),(12,qD2 (x2.length:Int)),(13,qD2 x0),(18,qD3 g3.1 x4 g3.2),(19,qD2 (x4.length:Int)),(20,qD2 x5)]) (fun ((x7,g5):σ×J.γ)=>[⟨g1,22,[qD3 a3 x2 c4.1]⟩]++J.IB x7 g5) (fun ((x7,g5):σ×J.γ)=>[]++J.IR x7 g5) (fun ((x7,g5):σ×J.γ)=>[qD5 g3.1 x4 g3.2,SlN eN56 iN56 1 (qD3 a3 x2 c4.1) x2 c4.2,J.F]) (fun ((x7,_):σ×J.γ)=>jn F yy (qY F yy (qI F yy x2 k0) x2 x0 x4 k1) x5 x7) ?_ ?_
 refine au [14,48,26,4] ?_
 intro x8 e1 b1 o1
 refine au [25,3,5,60,3,23] ?_
 refine qok (j:=1) (qA .i64) rfl UnF.u inferInstance rfl rfl rfl rfl rfl ?_
 intro x9 e2 a0 c0
 refine au [86] ?_
 refine vy (fun (((x10,x11),g6):(Int×σ)×J.γ)=>[(0,.func (.yield L) #[] #[]),(1,qD4 g1),(3,qD2 x0),(4,qD3 g3.1 x4 g3.2),(6,qD2 x8),(11,qD3 a3 x2 c4.1),(12,qD2 (x2.length:Int)),(13,qD2 x0),(18,qD3 g3.1 x4 g3.2),(19,qD2 (x4.length:Int)),(20,qD2 x5),(28,qD3 a0 x9 c0),(29,qD2 (x9.length:Int)),(30,qD2 x10)]) (fun (((x10,x11),g6):(Int×σ)×J.γ)=>[⟨g1,22,[qD3 a3 x2 c4.1]⟩]++J.IB x11 g6) (fun (((x10,x11),g6):(Int×σ)×J.γ)=>[]++J.IR x11 g6) (fun (((x10,x11),g6):(Int×σ)×J.γ)=>[qD5 g3.1 x4 g3.2,SlN eN56 iN56 1 (qD3 a3 x2 c4.1) x2 c4.2,qD5 a0 x9 c0,J.F]) (fun k (s:(Int×σ)×J.γ)=>k5 F yy (qY F yy (qI F yy x2 k0) x2 x0 x4 k1) x2 x0 x5 x8 x9 k s.1) ((0,x6),g4) F ?_ (hB:=(.cons 0 rfl (qe 0 rfl))) (hR:=(qe 0 rfl)) (hF:=(qi 2 rfl (qi 3 rfl (qi 0 rfl (qi 4 rfl zB)))))
 intro k2
 rintro ⟨⟨x10,x11⟩,g6⟩
 try dsimp only
 refine qaJ (m':=jl F yy (qY F yy (qI F yy x2 k0) x2 x0 x4 k1) x2 x0 x5 x8 x9 (k5 F yy (qY F yy (qI F yy x2 k0) x2 x0 x4 k1) x2 x0 x5 x8 x9 k2) x10 x11) rfl ?_
 refine aw [1,4,24,4,0,2,1,11] ?_ ?_
 refine au [57] ?_
 refine qdj (fun ((x12,g7):σ×J.γ)=>[(0,.func (.yield L) #[] #[]),(1,qD4 g1),(3,qD2 x0),(4,qD3 g3.1 x4 g3.2),(6,qD2 x8),(11,qD3 a3 x2 c4.1),(12,qD2 (x2.length:Int)),(13,qD2 x0),(18,qD3 g3.1 x4 g3.2),(19,qD2 (x4.length:Int)),(20,qD2 x5),(28,qD3 a0 x9 c0),(29,qD2 (x9.length:Int)),(30,qD2 x10)]) (fun ((x12,g7):σ×J.γ)=>[⟨g1,22,[qD3 a3 x2 c4.1]⟩]++J.IB x12 g7) (fun ((x12,g7):σ×J.γ)=>[]++J.IR x12 g7) (fun ((x12,g7):σ×J.γ)=>[qD5 g3.1 x4 g3.2,SlN eN56 iN56 1 (qD3 a3 x2 c4.1) x2 c4.2,qD5 a0 x9 c0,J.F]) (fun ((x12,_):σ×J.γ)=>jo F yy (k5 F yy (qY F yy (qI F yy x2 k0) x2 x0 x4 k1) x2 x0 x5 x8 x9 k2) x10 x12) ?_ ?_
 refine au [14,45,38,0] ?_
 intro x13 e3 b2 o2
 refine au [25,3,83,20,3,38,1] ?_
 intro x14 e4 g8 b3 o3
 refine au [25,3,3,32,4] ?_
 intro x15 e5 _
 refine au [3,81,5,60,3] ?_
 refine kP 4 44 48 [0,1,3,4,6,11,12,13,18,19,20,28,29,30,8] (decide (x0<x8)) ?_ ?_ ?_
 exact az [91,24,4,62]
 exact az [63,7,61]
 refine av [3,26,5] ?_ ?_
 intro h0
 refine ko (k:=49) rfl h0 ?_
 refine au [91,91] ?_
 refine qrm (cells:=([x0,x8,x13]:qD0).flatMap (eI .i64)) rfl underlying188 tf188 tf3 rfl (by kernel_rfl) rfl (qeT hY x11 ([x0,x8,x13]:qD0) g6 (B1:=[⟨g1,22,[qD3 a3 x2 c4.1]⟩]) (R1:=[]) (j:=6) rfl rfl rfl rfl rfl rfl rfl (fun x16 _ g9=>?_) (fun x17 _ g9=>?_))
 refine au [25,7,24,8,46] ?_
 refine k8 (b:=false) rfl (fun h=>by cases h) (fun _=>?_)
 refine au [12,24,3] ?_
 exact ya (x16,g9) (hB:=(.cons 0 rfl (qe 0 rfl))) (hR:=(qe 0 rfl)) (hF:=(qi 3 rfl (qi 4 rfl (qi 5 rfl (qi 6 rfl zB)))))
 refine au [25,7,24,8,46] ?_
 refine k8 (b:=true) rfl (fun _=>?_) (fun h=>by cases h)
 refine au [8,111,24,6,111,24,6,111,24,6] ?_
 exact v8 (B0:=[⟨g1,22,[qD3 a3 x2 c4.1]⟩]) (x:=.inr x17) g9 (.inl rfl) (res0 rfl) (.cons 0 rfl (qe 0 rfl)) (qe 0 rfl)
 intro h0
 refine km (k:=49) rfl h0 ?_
 refine au [68,63,7,24,9,46] ?_
 refine k8 (b:=false) rfl (fun h=>by cases h) (fun _=>?_)
 refine au [12,24,3] ?_
 exact ya (x11,g6) (hB:=(.cons 0 rfl (qe 0 rfl))) (hR:=(qe 0 rfl)) (hF:=(qi 3 rfl (qi 4 rfl (qi 5 rfl (qi 6 rfl zB)))))
 rintro ⟨x12,g7⟩
 refine au [39,97] ?_
 exact vn ((iadd .i64 x10 1,x12),g7) (hB:=(.cons 0 rfl (qe 0 rfl))) (hR:=(qe 0 rfl)) (hF:=(qi 0 rfl (qi 1 rfl (qi 2 rfl (qi 3 rfl zB)))))
 refine au [72,24,3] ?_
 exact ya (x11,g6) (hB:=(.cons 0 rfl (qe 0 rfl))) (hR:=(qe 0 rfl)) (hF:=(qi 0 rfl (qi 1 rfl (qi 3 rfl zB))))
 rintro ⟨x7,g5⟩
 refine au [39,97] ?_
 exact vn ((iadd .i64 x5 1,x7),g5) (hB:=(.cons 0 rfl (qe 0 rfl))) (hR:=(qe 0 rfl)) (hF:=(qi 0 rfl (qi 1 rfl (qi 2 rfl zB))))
 refine au [72,24,3] ?_
 exact ya (x6,g4) (hB:=(.cons 0 rfl (qe 0 rfl))) (hR:=(qe 0 rfl)) (hF:=(qi 1 rfl (qi 2 rfl zB)))
 rintro ⟨x3,g2⟩
 refine au [39,97] ?_
 exact vn ((iadd .i64 x0 1,x3),g2) (hB:=(.cons 0 rfl (qe 0 rfl))) (hR:=(qe 0 rfl)) (hF:=(qi 0 rfl (qi 1 rfl zB)))
 refine au [72] ?_
 exact v8 (B0:=[⟨g1,22,[qD3 a3 x2 c4.1]⟩]) (x:=.inl x1) g0 (.inr rfl) (res0 rfl) (.cons 0 rfl (qe 0 rfl)) (qe 0 rfl)
theorem qlY {r:(qD0×Int×Int)}(hm:qdK F p1=some r) :
    PureM qD9 100 [.agg #[qD3 l1 p1 t1]] [] [] [SlN eN56 iN56 1 (qD3 l1 p1 t1) p1 n1] (qD1×Nat) (fun g=>.tuple #[qD3 g.1 r.1 g.2,qD2 r.2.1,qD2 r.2.2]) (fun _=>[]) (fun g=>[qD6 g.1 r.1 g.2]):=by
 refine qdg func100 rfl ntmps100 rfl hm (fun w=>?_)
 refine au [87] ?_
 intro g4
 refine au [24,2] ?_
 intro g5
 refine au [24,2] ?_
 intro g6
 refine au [82,45,26,9,28,7] ?_
 intro x9 e9 _
 refine aw [5,0,2,1,4,3,25,4,0,2,11] ?_ ?_
 refine au [48,25,5,17,104] ?_
 exact ja [] (none,0) (.inl rfl) rfl .nil (resL (rs:=[.cell 2 56,.cell 3 3,.tmp 4]) rfl (.cell (i:=1) rfl tf56 rfl rfl (fun _=>rfl) rfl (.cell (i:=0) rfl tf3 rfl rfl (fun _=>rfl) rfl (.tmp rfl ResOk.nil))) rfl) (fun h=>by subst h;rfl) (fun h=>by subst h;exact .nil) (fun h=>by subst h;exact (.cons 0 rfl .nil))
 refine au [125,118,24,7,26,3] ?_
 intro x10 e10 a11 c12
 refine au [25,5,46,1,45,26,9,33,9] ?_
 rintro x0 e0 ⟨a0,c0⟩
 refine qs qlZ ?_
 intro x2 e1 g0
 refine au [75] ?_
 refine qbU (encs:=(fun (p:qD0)=>[.agg (p.flatMap (eI .i64)).toArray])) (y:=(fun ((x3,x4):(Int×qD0)) (x5:qD0)=>kZ F x3 x4 x5)) (lb:=[qD4 g0]) (fun ((x3,x4):(Int×qD0)) (_:Unit)=>[⟨g6,3,[qD2 x3]⟩,⟨g5,56,[qD3 a11 x4 c12]⟩,⟨g4,24,[qD3 l1 p1 t1]⟩]) (fun ((x3,x4):(Int×qD0)) (_:Unit)=>[qD6 a11 x4 c12]) (fun (_:Empty) (_:Unit)=>[]) (fun (_:Empty) (_:Unit)=>[]) (fun _=>.skip) (0,x10) () rfl EnC.e (fun _=>rfl) rfl (.cons 0 rfl .nil) (.cons 0 rfl (.cons 0 rfl (.cons 0 rfl .nil))) (.cons 1 rfl .nil) (.consG 0 rfl (zU qdY) .nil) (fun z hz _ _ _ hY=>qkj F hY (0,x10) () g0 x0 a0 c0 z hz) ?_ ?_ ?_
 rintro rc1 L1 D1 ⟨x3,x4⟩ _ x5 z w M _
 try dsimp only
 refine qdk [(0,.agg #[qD3 l1 p1 t1]),(1,qD4 g4),(2,qD4 g5),(3,qD4 g6),(4,qD2 0),(5,qD2 x9),(9,.agg #[qD3 l1 p1 t1]),(10,qD2 x9),(11,qD2 x9),(12,.bool ((x9:Int) != 0)),(14,qD4 g4),(15,qD3 l1 p1 t1),(16,qD2 (p1.length:Int)),(17,qD3 a11 x10 c12),(18,.agg #[qD3 l1 p1 t1]),(19,qD3 a0 x0 c0.1),(20,.func (.func 179) #[] #[qD4 g0]),(21,.agg (x5.flatMap (eI .i64)).toArray)] (qk rfl (qk rfl (qk rfl (qk rfl (qk rfl (qk rfl (qk rfl (qk rfl (qk rfl (qk rfl (qk rfl (qk rfl (qk rfl (qk rfl (qk rfl (qk rfl (qk rfl (qk rfl qdB)))))))))))))))))) ?_
 refine au [4,24,2] ?_
 intro g1
 refine qS (i:=0) (cs':=(qBj 3 (0:Int)).flatMap (eI .i64)) rfl rfl (qoj (i:=0) (xs:=(qBj 3 (0:Int))) (k:=3) (qA .i64) rfl qBP rfl ?_)
 refine au [26,12] ?_
 intro h0
 replace h0:=of_decide_eq_true h0
 refine qs2 (j:=0) rfl (qBP) (kA (i:=0) rfl rfl rfl tf188 rfl (qzB h0) (qzy (qBP) h0) qzz (qzA (qgE (qBP)) h0) (qoj (i:=0) (xs:=x5) (k:=3) (qA .i64) rfl h0 rfl ?_))
 refine au [0,30,13,14,45,20,23,17,46,45,26,12] ?_
 intro h1
 replace h1:=of_decide_eq_true h1
 refine qs2 (j:=0) rfl h1 (zO (i:=0) rfl rfl tf188 rfl (qzx (qgE h1)) (by simp) (qzw (qgE h1)) rfl (qoj (i:=0) (xs:=x5) (k:=3) (qA .i64) rfl h1 rfl ?_))
 refine au [3,75] ?_
 refine qm [1,2,3,14,24] [0,1,1,1] [] [0] (fun (((x6,x7),_):(Int×qD0)×Unit)=>([(25,qD2 x6)],[⟨g5,56,[qD3 a11 x7 c12]⟩],[qD6 a11 x7 c12],[])) ((0:Int),x4) () ?_
 intro k0
 rintro ⟨⟨x6,x7⟩,_⟩
 refine aw [39,1,4,24,4,0,2,1,11] ?_ ?_
 refine au [85,45,26,12] ?_
 intro h2
 replace h2:=of_decide_eq_true h2
 refine qrp rfl underlying188 tf3 rfl rfl h2 rfl (fun x8 e2=>?_)
 refine au [47,4,34,7,3,26,7] ?_
 intro x11 e3 g2 h3
 refine ku (j:=0) (y:=x11) (qA .i64) rfl rfl tf3 rfl h3 (qw e3).2.2 (fun _=>rfl) rfl rfl ?_
 refine au [23,26,7] ?_
 intro x12 e4 g3 h4
 refine zZ (j:=0) (y':=iadd .i64 x11 1) (qA .i64) rfl rfl rfl tf3 rfl h4 (qw e4).2.1 rfl (fun x13 e5 h5=>?_)
 have h6:x13.length=x7.length:=by rw[← e5,qBA]
 refine qp (d:=28) (v:=qD3 a11 x13 c12) rfl h5 (qS (i:=4) (cs':=[qD3 a11 x13 c12]) rfl (by simp only[qD3,h5] <;> rfl) ?_)
 refine au [0,98] ?_
 exact qj ((iadd .i64 x6 1,x13),())
 refine au [72,24,3] ?_
 exact vk (rc:=rc1) rfl (.cons 2 rfl .nil) rfl () (.cons 1 rfl (.cons 3 rfl (.cons 1 rfl (.cons 0 rfl (.cons 0 rfl .nil))))) (.cons 0 rfl .nil)
 rintro ⟨x3,x4⟩ _ _ D1
 refine au [39,65,1,38,7,32,5,0,29,2,1,9,2,30,9,0,29,13,9,3,27,13,0,29,13,6,4,54,2,8] ?_
 exact ja [D1] (a11,c12) (.inl rfl) rfl (.cons 0 rfl .nil) (resL (rs:=[.cell 2 56,.cell 3 3,.tmp 4]) rfl (.cell (i:=2) rfl tf56 rfl rfl (fun _=>rfl) rfl (.cell (i:=1) rfl tf3 rfl rfl (fun _=>rfl) rfl (.tmp rfl ResOk.nil))) rfl) (fun h=>by subst h;rfl) (fun h=>by subst h;exact .nil) (fun h=>by subst h;exact (.cons 0 rfl .nil))
 intro t;exact t.elim
theorem qhR (F g1:Nat)(x2:List (qD0))(a3:qD1)(c4:(Nat×List (qD1×Nat)))(x5 x6 x7:Int)(x8:qD0)(a9:qD1)(c10:Nat)(x11:qD0)(r:(Int×qD0))(hm:jO F x2 x5 x6 x7 x8 x11=some r) :
    PureM qD9 70 [qD4 g1] [⟨g1,85,[qD3 a3 x2 c4.1,qD2 x5,qD2 x6,qD2 x7,qD3 a9 x8 c10,.string (bstr x11)]⟩] [] [SlN eN56 iN56 1 (qD3 a3 x2 c4.1) x2 c4.2,qD5 a9 x8 c10,GF] Unit (fun _=>qD2 r.1) (fun _=>[⟨g1,85,[qD3 a3 x2 c4.1,qD2 x5,qD2 x6,qD2 x7,qD3 a9 x8 c10,.string (bstr r.2)]⟩]) (fun _=>[]):=by
 refine pureMA func70 ntmps70 hm fun _=>?_
 refine au [64,60,51,103] ?_
 refine qs qlY ?_
 rintro x12 e12 ⟨a13,c14⟩
 refine au [3,81,22,5,5,60,3] ?_
 refine yY EnC.e rfl rfl rfl (fun x15 e15=>qfq x12.2.1 x15 e15) (.consF 2 rfl .nil) (fun x15 e15 _=>?_)
 exact az [51,17,117,90]
end Go.Proofs.YthibchijlpflmaaGreatDoor
