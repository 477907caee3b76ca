/- Each Go function of this seat computes what its model says, part 5. -/
import Derived.Test.YthibchijlpflmaaGreatDoorWalks4
open List renaming replicate→qBd, length_set→qBs, length_replicate→qBT
namespace Go.Proofs.YthibchijlpflmaaGreatDoor
open Go SX
open Go.Proofs.Tryz
open Go.Proofs.Tryz renaming prog→qD3
set_option maxHeartbeats 4000000
set_option linter.unusedSimpArgs false
variable {F t1 t2 t3 t4:Nat}{i1 i2 i3 i4 i5 i6 i7 i8 i9 i10 i11:Int}{m1 m2 m3 m4:qDU}{l1 l2 l3:qDV}{p1:List (qDU)}{n1:List (qDV×Nat)}{d1:Bool}{w1:List (Int×Int)}
theorem qh6:∀ (F g1:Nat)(x2 x3 x4 x5 x6:Int)(x7:qDU)(a8:qDV)(c9:Nat)(x10 x11 x12 x13:Int)(x14:qDU)(a15:qDV)(c16:Nat)(x17:Int)(x18:qDU)(a19:qDV)(c20:Nat)(x21 x22:Int)(r:(qDU×Int×Int×Int×Int×Int×Int×Int×Int×Int×Int×Int)),yC F x2 x3 x4 x5 x6 x7 x10 x11 x12 x13 x14 x17 x18 x21 x22=some r→PureM qD3 124 [qDY g1,qDW x22] [⟨g1,174,[qDW x2,qDW x3,qDW x4,qDW x5,qDW x6,qDX a8 x7 c9,qDW x10,qDW x11,qDW x12,qDW x13,qDX a15 x14 c16,qDW x17,qDX a19 x18 c20,qDW x21]⟩] [] [qD1 a8 x7 c9,qD1 a15 x14 c16,qD1 a19 x18 c20] (qDV×Nat) (fun g=>qDX g.1 r.1 g.2) (fun _=>[⟨g1,174,[qDW r.2.1,qDW r.2.2.1,qDW r.2.2.2.1,qDW r.2.2.2.2.1,qDW r.2.2.2.2.2.1,qDX a8 x7 c9,qDW r.2.2.2.2.2.2.1,qDW r.2.2.2.2.2.2.2.1,qDW r.2.2.2.2.2.2.2.2.1,qDW r.2.2.2.2.2.2.2.2.2.1,qDX a15 x14 c16,qDW r.2.2.2.2.2.2.2.2.2.2.1,qDX a19 x18 c20,qDW r.2.2.2.2.2.2.2.2.2.2.2]⟩]) (fun g=>[qD0 g.1 r.1 g.2]):=by
  intro F
  induction F with
  | zero=>intro g1 x2 x3 x4 x5 x6 x7 a8 c9 x10 x11 x12 x13 x14 a15 c16 x17 x18 a19 c20 x21 x22 r hm;exact absurd hm (by simp[yC])
  | succ F ih =>
    intro g1 x2 x3 x4 x5 x6 x7 a8 c9 x10 x11 x12 x13 x14 a15 c16 x17 x18 a19 c20 x21 x22 r hm
    refine qjm func124 rfl ntmps124 rfl hm (fun w=>?_)
    refine qos (l':=[(0,qDY g1),(1,qDW x22)]) rfl ?_
    refine kC ?_
    refine qT ?_
    refine kK rfl rfl rfl ?_
    refine zH ?_
    refine zC ?_
    refine kC ?_
    refine qT ?_
    refine qY rfl rfl rfl ?_
    refine kg rfl rfl rfl ?_
    refine qV rfl rfl ff174_1 rfl ?_
    refine zW (i:=0) rfl rfl tf3 rfl rfl (fun _=>rfl) rfl rfl ?_
    refine qkJ rfl rfl rfl rfl ?_
    refine kg rfl rfl rfl ?_
    refine qV rfl rfl ff174_1 rfl ?_
    refine kL (i:=0) rfl rfl rfl tf3 rfl rfl rfl rfl rfl ?_
    refine zH ?_
    refine zC ?_
    refine kC ?_
    refine qT ?_
    refine qY rfl rfl rfl ?_
    refine kg rfl rfl rfl ?_
    refine qV rfl rfl ff174_0 rfl ?_
    refine qV rfl rfl ff71_1 rfl ?_
    refine zW (i:=0) rfl rfl tf69 rfl rfl (by simp) rfl rfl ?_
    refine qY rfl rfl rfl ?_
    refine vd EnC.e rfl rfl rfl (fun x23 e23=>qqy e23) (.consF 1 rfl (.consF 2 rfl .nil)) (fun x23 e23=>?_)
    intro _
    refine qY rfl rfl rfl ?_
    refine qas rfl rfl rfl rfl ?_
    refine qas rfl rfl rfl rfl ?_
    refine kK rfl rfl rfl ?_
    refine kK rfl rfl rfl ?_
    refine zH ?_
    refine zC ?_
    refine kC ?_
    refine qT ?_
    refine qY rfl rfl rfl ?_
    refine kg rfl rfl rfl ?_
    refine qV rfl rfl ff174_0 rfl ?_
    refine qV rfl rfl ff71_0 rfl ?_
    refine zW (i:=0) rfl rfl tf67 rfl rfl (by simp) rfl rfl ?_
    refine qY rfl rfl rfl ?_
    refine qY rfl rfl rfl ?_
    refine vd EnC.e rfl rfl rfl (fun x24 e24=>qkS e24) (.consF 0 rfl .nil) (fun x24 e24=>?_)
    intro _
    refine qY rfl rfl rfl ?_
    refine qas rfl rfl rfl rfl ?_
    refine qas rfl rfl rfl rfl ?_
    refine qas rfl rfl rfl rfl ?_
    refine kK rfl rfl rfl ?_
    refine kK rfl rfl rfl ?_
    refine kK rfl rfl rfl ?_
    refine zH ?_
    refine zC ?_
    refine kC ?_
    refine qT ?_
    refine kK rfl rfl rfl ?_
    refine zH ?_
    refine zC ?_
    refine qj [0,1,7,8] [] [] [0,1,2] (fun (((x31,x32,x33,x34,x35,x36,x37,x38,x39,x40,x41,x42),a29,c30):(qDU×Int×Int×Int×Int×Int×Int×Int×Int×Int×Int×Int)×qDV×Nat)=>([(10,qDX a29 x31 c30)],[⟨g1,174,[qDW x32,qDW x33,qDW x34,qDW x35,qDW x36,qDX a8 x7 c9,qDW x37,qDW x38,qDW x39,qDW x40,qDX a15 x14 c16,qDW x41,qDX a19 x18 c20,qDW x42]⟩],[qD0 a29 x31 c30],[],yp F x7 x22 x24 x31 x32 x33 x34 x35 x36 x37 x38 x39 x40 x41 x42)) ?_ ?_
    · refine kC ?_
      refine qT ?_
      refine qY rfl rfl rfl ?_
      refine qs8 rfl rfl rfl rfl ?_
      refine zH ?_
      refine zC ?_
      refine qj9 rfl (fun h53=>?_) (fun h53=>?_)
      · refine qT ?_
        refine qY rfl rfl rfl ?_
        refine qY rfl rfl rfl ?_
        refine qY rfl rfl rfl ?_
        refine qtb rfl rfl rfl rfl ?_
        refine qcJ EnC.e rfl rfl rfl (fun x50 e50=>ih g1 x2 x3 x4 x5 x6 x7 a8 c9 x10 x11 x12 x13 x14 a15 c16 x17 x18 a19 c20 (iadd .i64 x21 1) (isub .i64 x22 x24.1) x50 e50) (.cons 0 rfl .nil) .nil (.consF 0 rfl (.consF 1 rfl (.consF 2 rfl .nil))) (fun x50 e50=>?_)
        rintro ⟨a51,c52⟩
        refine kK rfl rfl rfl ?_
        refine zH ?_
        exact yj ((x50.1,x50.2.1,x50.2.2.1,x50.2.2.2.1,x50.2.2.2.2.1,x50.2.2.2.2.2.1,x50.2.2.2.2.2.2.1,x50.2.2.2.2.2.2.2.1,x50.2.2.2.2.2.2.2.2.1,x50.2.2.2.2.2.2.2.2.2.1,x50.2.2.2.2.2.2.2.2.2.2.1,x50.2.2.2.2.2.2.2.2.2.2.2),a51,c52) (hB:=(.cons 0 rfl .nil)) (hR:=(.cons 0 rfl .nil)) (hF:=(qi 0 rfl (qi 1 rfl (qi 2 rfl zG))))
      · refine qhK ?_
        refine qfC Int (eI .i64) 3 1 ?_
        exact yj ((([]:qDU),x2,x3,x4,x5,x6,x10,x11,x12,x13,x17,iadd .i64 x21 1),none,0) (hB:=(.cons 0 rfl .nil)) (hR:=(.cons 0 rfl .nil)) (hF:=(qi 0 rfl (qi 1 rfl (qi 2 rfl zG))))
    · rintro ⟨⟨x31,x32,x33,x34,x35,x36,x37,x38,x39,x40,x41,x42⟩,a29,c30⟩
      try dsimp only
      refine kC ?_
      refine qT ?_
      refine qY rfl rfl rfl ?_
      refine kg rfl rfl rfl ?_
      refine qV rfl rfl ff174_0 rfl ?_
      refine qV rfl rfl ff71_0 rfl ?_
      refine qV rfl rfl ff67_1 rfl ?_
      refine zW (i:=0) rfl rfl tf26 rfl rfl (by simp) rfl rfl ?_
      refine qka rfl tf26 rfl (fun g43=>?_)
      refine kL (i:=0) rfl rfl rfl tf26 rfl rfl rfl rfl rfl ?_
      refine zH ?_
      refine zC ?_
      refine kC ?_
      refine qT ?_
      refine qY rfl rfl rfl ?_
      refine qV rfl rfl ff26_0 rfl ?_
      refine kL (i:=0) rfl rfl rfl tf3 rfl rfl rfl rfl rfl ?_
      refine zH ?_
      refine zC ?_
      refine kC ?_
      refine kB mixed [] _ _ (.cons 0 rfl (.cons 0 rfl .nil)) (qh 0 rfl (qh 1 rfl (qh 2 rfl qf))) 18 rfl ?_
      refine qb 0 (qDY g1) rfl rfl rfl (zv rfl) ?_
      refine qb 1 (qDY g1) rfl rfl rfl (zv rfl) ?_
      refine qb 2 (qDY g1) rfl rfl rfl (za rfl ff174_0) ?_
      refine qb 3 (qDY g1) rfl rfl rfl (za rfl ff71_0) ?_
      refine qb 4 (.pointer (some ⟨g1,4,none⟩)) rfl rfl rfl (za rfl ff67_2) ?_
      refine qA 5 (.agg #[qDW x36,.slice a8 x7.length c9]) rfl rfl rfl (qy (i:=1) rfl tf65 rfl rfl (by simp) rfl) ?_
      refine qb 6 (qDW x24.2.1) rfl rfl rfl (zv rfl) ?_
      refine qb 7 (qDW x22) rfl rfl rfl (zv rfl) ?_
      refine qb 8 (qDX a29 x31 c30) rfl rfl rfl (zv rfl) ?_
      refine qA 9 (.agg #[qDW x24.1,qDW x34,qDW x35]) rfl rfl rfl (qy (i:=0) rfl tf26 rfl rfl (by simp) rfl) ?_
      refine qgD 10 rfl (by kernel_rfl) rfl ?_
      refine vd EnC.e rfl rfl rfl (fun x47 e47=>qkg e47) (.consF 0 rfl (.consR 0 (qD0 a29 x31 c30) rfl .nil)) (fun x47 e47=>?_)
      rintro ⟨a48,c49⟩
      refine zH ?_
      refine qc (.cons 0 rfl (.cons 0 rfl .nil)) (qh 0 rfl (qh 1 rfl (qh 2 rfl qf))) ?_
      refine qb 11 (.tuple #[qDX a48 x47.1 c49,qDW x47.2.1,qDW x47.2.2]) rfl rfl rfl (zv rfl) ?_
      refine qb 12 (qDX a48 x47.1 c49) rfl rfl rfl (zv rfl) ?_
      refine qb 13 (qDW x47.2.1) rfl rfl rfl (zv rfl) ?_
      refine qb 14 (qDW x47.2.2) rfl rfl rfl (zv rfl) ?_
      refine qb 15 (qDX a48 x47.1 c49) rfl rfl rfl (zv rfl) ?_
      refine qb 16 (qDW x47.2.1) rfl rfl rfl (zv rfl) ?_
      refine qb 17 (qDW x47.2.2) rfl rfl rfl (zv rfl) ?_
      refine qgC (by kernel_rfl) ?_
      refine qke ?_ (by intro c h;cases h)
      refine zC ?_
      refine kC ?_
      refine qT ?_
      refine qY rfl rfl rfl ?_
      refine kK rfl rfl rfl ?_
      refine zH ?_
      refine zC ?_
      refine qot ?_
      exact yD (a48,c49) (res1 rfl rfl) (hB:=fun h=>by subst h;exact (.cons 1 rfl .nil)) (hR:=fun h=>by subst h;exact (.cons 0 rfl .nil))
theorem qnz {r:(qDU×Int×Int)}(hm:qbT F i1 i2 i3 i4 i5 m1 i6 i7 i8 i9 m2 i10 m3 i11=some r) :
    Pure qD3 89 [.agg #[qDW i1,qDW i2,qDW i3,qDW i4,qDW i5,qDX l1 m1 t1,qDW i6,qDW i7,qDW i8,qDW i9,qDX l2 m2 t2,qDW i10,qDX l3 m3 t3],qDW i11] [qD1 l1 m1 t1,qD1 l2 m2 t2,qD1 l3 m3 t3] (qDV×Nat) (fun g=>.tuple #[qDX g.1 r.1 g.2,qDW r.2.1,qDW r.2.2]) (fun g=>[qD0 g.1 r.1 g.2]) (fun _=>[]):=by
 refine pureA func89 ntmps89 hm fun _=>?_
 refine au [100] ?_
 intro g21
 refine au [6,6,97,25,0] ?_
 refine qd qmi ?_
 intro x22 e22 _
 refine au [51] ?_
 refine qj [1,2] [0] [] [0,1,2] (fun ((x28,_):Int×Unit)=>([(7,qDW x28)],[],[],[],qaT F i1 i2 i3 i4 i5 m1 i6 i7 i8 i9 m2 i10 m3 i11 x28)) ?_ ?_
 refine au [54,25,11,4] ?_
 refine kX 10 [1,2,7] [0] [] [0,1,2] (fun ((x37,_):Bool×Unit)=>([(24,.bool x37)],[],[],[],qaU F i1 i2 i3 i4 i5 m1 i6 i7 i8 i9 m2 i10 m3 i11 x22 x37)) ?_ ?_
 refine qG (os:=_) rfl ?_
 refine av [26,8] ?_ ?_
 intro h35
 refine kH (k:=14) rfl h35 ?_
 refine au [4,143] ?_
 refine q6 6 17 23 [1,2,7,14] (decide (i1≤i11)) ?_ ?_ ?_
 exact az [88,9,71]
 exact az [4,12,57,26,10,70]
 refine au [112] ?_
 exact qa ((decide (i11<0) || decide (i1≤i11)),())
 intro h35
 refine kG (k:=14) rfl h35 ?_
 refine au [88,88,9,111] ?_
 exact qa (false,())
 rintro ⟨x37,_⟩
 try dsimp only
 refine qG (os:=_) rfl ?_
 refine aw [0,2,13] ?_ ?_
 refine au [5,6,0] ?_
 exact qa ((3:Int),())
 refine au [16] ?_
 exact qa (x22,())
 rintro ⟨x28,_⟩
 refine aw [39,1,1,5,4,25,8,0,2,13] ?_ ?_
 refine au [54,6,6,105] ?_
 exact qx (none,0)
 refine au [69,106] ?_
 refine qH [qDW i1,qDW i2,qDW i3,qDW i4,qDW i5,qDX l1 m1 t1,qDW i6,qDW i7,qDW i8,qDW i9,qDX l2 m2 t2,qDW i10,qDX l3 m3 t3,qDW 0] ?_
 refine au [24,4] ?_
 intro g30
 refine au [76,4] ?_
 refine qt (fun h=>qh6 F _ _ _ _ _ _ _ _ _ _ _ _ _ _ _ _ _ _ _ _ _ _ _ h) ?_
 rintro x31 e31 ⟨a32,c33⟩
 refine au [129,33,3,115,21,3,25,4,4,3,5,87,53,2,11] ?_
 exact qx (a32,c33)
theorem qiR (hm:jp F p1 i1 i2 i3 m1 m2 m3=some m4) :
    PureM qD3 90 [qDY t1,qDX l3 m3 t4] [⟨t1,85,[qDX l1 p1 t2,qDW i1,qDW i2,qDW i3,qDX l2 m1 t3,.string (bstr m2)]⟩] [] [SlN eN56 iN56 1 (qDX l1 p1 t2) p1 n1,qDZ l2 m1 t3,qDZ l3 m3 t4,GF] Unit (fun _=>.tuple #[]) (fun _=>[⟨t1,85,[qDX l1 p1 t2,qDW i1,qDW i2,qDW i3,qDX l2 m1 t3,.string (bstr m4)]⟩]) (fun _=>[]):=by
 refine pureMA func90 ntmps90 hm fun _=>?_
 refine au [61,51] ?_
 refine qj [0] [0] [] [0,1,3] (fun ((x82,a80,c81):List (qDU)×qDV×Nat)=>([(4,qDX a80 x82 c81)],[],[Ro eT 9 1 (qDX a80 x82 c81) x82],[],qbA F x82)) ?_ ?_
 refine au [114] ?_
 refine qdK (qDU) eT 9 1 (qp [0,7,8] [0] [] [2,0,1,3] (fun (((x0,x1),a0,c0):(List (qDU)×Int)×qDV×Nat)=>([(4,qDX a0 x0 c0),(9,qDW x1)],[],[Ro eT 9 1 (qDX a0 x0 c0) x0],[])) (([]:List (qDU)),(0:Int)) (none,0) ?_)
 intro k0
 rintro ⟨⟨x0,x1⟩,a0,c0⟩
 refine aw [39,1,5,24,6,0,2,1,13] ?_ ?_
 refine au [136,26,7] ?_
 intro x3 e0 b0 o0
 refine au [25,7,51,5,4,4] ?_
 refine vd EnC.e rfl rfl rfl (fun x4 e1=>qfD x3 x4 e1) (.consF 4 rfl .nil) (fun x4 e1 _=>qaj (vs:=[.string (bstr x4)]) (ys:=([x4]:List (qDU))) qF (by decide) rfl underlying39 tf9 rfl rfl rfl rfl rfl (by decide) (fun a1 c1=>zw 1 qF rfl underlying39 tf9 rfl rfl rfl rfl rfl (.inl ⟨0,_,rfl⟩) rfl rfl (fun x9 e2 a2 c2=>?_)))
 refine au [6,0,146] ?_
 exact qk ((x9,iadd .i64 x1 1),a2,c2)
 refine au [91] ?_
 exact qa (x0,a0,c0)
 rintro ⟨x82,a80,c81⟩
 refine au [39,5,4,4] ?_
 refine vd EnC.e rfl rfl rfl (fun x83 e83=>qzs x82 a80 c81 ([32]:qDU) x83 e83) (.consR 0 (Ro eT 9 1 (qDX a80 x82 c81) x82) rfl .nil) (fun x83 e83 _=>?_)
 exact az [85,17,0,26,3]
theorem qiQ (F g1:Nat)(x2:List (qDU))(a3:qDV)(c4:(Nat×List (qDV×Nat)))(x5 x6 x7:Int)(x8:qDU)(a9:qDV)(c10:Nat)(x11:qDU)(r:(Int×qDU))(hm:qba F x2 x5 x6 x7 x8 x11=some r) :
    PureM qD3 63 [qDY g1] [⟨g1,85,[qDX a3 x2 c4.1,qDW x5,qDW x6,qDW x7,qDX a9 x8 c10,.string (bstr x11)]⟩] [] [SlN eN56 iN56 1 (qDX a3 x2 c4.1) x2 c4.2,qDZ a9 x8 c10,GF] Unit (fun _=>qDW r.1) (fun _=>[⟨g1,85,[qDX a3 x2 c4.1,qDW x5,qDW x6,qDW x7,qDX a9 x8 c10,.string (bstr r.2)]⟩]) (fun _=>[]):=by
 refine pureMA func63 ntmps63 hm fun _=>?_
 refine au [80,51] ?_
 refine qj [0] [0] [] [0,1,2] (fun (((x29,x30,x31,x32,x33,x34,x37,x38,x39,x40,x41,x44,x45,x48),g28,a35,c36,a42,c43,a46,c47):(Int×Int×Int×Int×Int×Int×qDU×Int×Int×Int×Int×qDU×Int×qDU)×Nat×qDV×Nat×qDV×Nat×qDV×Nat)=>([(3,qDY g28),(4,qDW x29)],[⟨g28,71,[qDW x30,qDW x31,qDW x32,qDW x33,qDW x34,qDX a35 x37 c36,qDW x38,qDW x39,qDW x40,qDW x41,qDX a42 x44 c43,qDW x45,qDX a46 x48 c47]⟩],[qD2 a35 x37 c36,qD2 a42 x44 c43,qD2 a46 x48 c47],[],qbx F x2 x5 x6 x7 x8 x11 x29 x30 x31 x32 x33 x34 x37 x38 x39 x40 x41 x44 x45 x48)) ?_ ?_
 refine au [35,11,89,21,2,21,3] ?_
 refine qA 4 (.agg #[.slice a3 x2.length c4.1]) rfl rfl rfl (qy (i:=0) rfl tf24 rfl rfl (by simp) rfl) ?_
 refine au [3,5,3,6,21,7,21,8] ?_
 refine qA 9 (.agg #[qDW x5,qDW x6,qDW x7]) rfl rfl rfl (qy (i:=0) rfl tf26 rfl rfl (by simp) rfl) (qg 10 14 rfl rfl (by kernel_rfl) rfl rfl ?_ ?_)
 refine au [37,11] ?_
 rintro x66 e66 ⟨⟨a67,c68⟩,⟨a69,c70⟩,a71,c72⟩
 refine au [0,35,12,127,3,13,7,14,19] ?_
 intro g73
 refine au [0,28,3,7,15,17,0,28,3,3,16,53] ?_
 exact qa ((x66.2.2.2.2.2.2.2.2.2.2.2.2.2,x66.1,x66.2.1,x66.2.2.1,x66.2.2.2.1,x66.2.2.2.2.1,x66.2.2.2.2.2.1,x66.2.2.2.2.2.2.1,x66.2.2.2.2.2.2.2.1,x66.2.2.2.2.2.2.2.2.1,x66.2.2.2.2.2.2.2.2.2.1,x66.2.2.2.2.2.2.2.2.2.2.1,x66.2.2.2.2.2.2.2.2.2.2.2.1,x66.2.2.2.2.2.2.2.2.2.2.2.2.1),g73,a67,c68,a69,c70,a71,c72)
 refine au [19] ?_
 intro g74
 refine au [0,28,3,7,10,37,11] ?_
 rintro x75 e75 ⟨⟨a76,c77⟩,⟨a78,c79⟩,a80,c81⟩
 refine au [0,28,3,127,3,13,7,15,17,0,28,3,3,16,53] ?_
 exact qa ((x75.2.2.2.2.2.2.2.2.2.2.2.2.2,x75.1,x75.2.1,x75.2.2.1,x75.2.2.2.1,x75.2.2.2.2.1,x75.2.2.2.2.2.1,x75.2.2.2.2.2.2.1,x75.2.2.2.2.2.2.2.1,x75.2.2.2.2.2.2.2.2.1,x75.2.2.2.2.2.2.2.2.2.1,x75.2.2.2.2.2.2.2.2.2.2.1,x75.2.2.2.2.2.2.2.2.2.2.2.1,x75.2.2.2.2.2.2.2.2.2.2.2.2.1),g74,a76,c77,a78,c79,a80,c81)
 rintro ⟨⟨x29,x30,x31,x32,x33,x34,x37,x38,x39,x40,x41,x44,x45,x48⟩,g28,a35,c36,a42,c43,a46,c47⟩
 refine aw [39,1,1,5,4,25,8,0,2,13] ?_ ?_
 exact az [54,75,26,3]
 refine au [135,28,9] ?_
 intro x57 e57 b58 o59 h60
 replace h60:a9=some ⟨b58,o59,none⟩:=h60
 refine qJ [] [0,0] [0,1,2,3] 15 ?_
 refine qA 0 (.agg #[qDW x30,qDW x31,qDW x32,qDW x33,qDW x34,.slice a35 x37.length c36,qDW x38,qDW x39,qDW x40,qDW x41,.slice a42 x44.length c43,qDW x45,.slice a46 x48.length c47]) rfl rfl rfl (qy (i:=1) rfl tf71 rfl rfl (by simp) rfl) ?_
 refine au [3,1,3,2,21,3,25,4,4] ?_
 refine v7 5 h60 e57 ?_
 refine qB 6 (qDW x57) [] rfl rfl rfl (qZ (j:=0) rfl tf3 rfl rfl (fun _=>rfl) rfl) ?_
 refine au [7,7] ?_
 refine qd qnz ?_
 rintro x61 e61 ⟨a62,c63⟩
 refine au [0,35,8,3,8,141,127,45,53,2,54,4,37,12] ?_
 intro x64 e64 _
 exact az [50,54,117]
theorem qkX (F:Nat)(x1:Int)(g2:Nat)(x3:List (qDU))(a4:qDV)(c5:(Nat×List (qDV×Nat)))(r:Bool)(hm:qfu F x1 x3=some r) :
    PureM qD3 173 [qDW x1,qDY g2] [⟨g2,24,[qDX a4 x3 c5.1]⟩] [] [SlN eN56 iN56 1 (qDX a4 x3 c5.1) x3 c5.2] Unit (fun _=>.bool r) (fun _=>[⟨g2,24,[qDX a4 x3 c5.1]⟩]) (fun _=>[]):=by
 refine pureMA func173 ntmps173 hm fun _=>?_
 refine au [61,76,143] ?_
 refine q6 6 6 12 [] (decide ((x3.length:Int)≤x1)) ?_ ?_ ?_
 exact az [88,9,71]
 exact az [4,57,24,10,26,10,70]
 exact az [117]
theorem qbu (hm:kE F m1 p1=some i1) :
    PureM qD3 129 [qDX l1 m1 t1,.func (.func 173) #[] #[qDY t2]] [⟨t2,24,[qDX l2 p1 t3]⟩] [] [qDZ l1 m1 t1,SlN eN56 iN56 1 (qDX l2 p1 t3) p1 n1] Unit (fun _=>qDW i1) (fun _=>[⟨t2,24,[qDX l2 p1 t3]⟩]) (fun _=>[]):=by
 refine pureMA func129 ntmps129 hm fun _=>?_
 refine au [61,51] ?_
 refine qj [] [0] [] [1] (fun ((_,_):Unit×Unit)=>([],[],[],[],yw F)) ?_ ?_
 refine au [114] ?_
 refine qp [0,1,7] [0] [] [0,1] (fun ((x58,_):Int×Unit)=>([(8,qDW x58)],[],[],[])) (0:Int) () ?_
 intro k71
 rintro ⟨x58,_⟩
 refine aw [39,1,5,24,6,0,2,1,13] ?_ ?_
 refine au [137,76,4,4,26,7] ?_
 intro x78 e78 b79 o80
 refine au [25,7] ?_
 refine qfA EnC.e rfl rfl rfl rfl (fun x81 e81=>qkX F x78 t2 p1 l2 (t3,n1) x81 e81) (.cons 0 rfl .nil) .nil (.consF 2 rfl .nil) (fun x81 e81 _=>?_)
 refine aw [0,2,13] ?_ ?_
 exact az [54,52,125,60,26,3]
 refine au [16,146] ?_
 exact qk (iadd .i64 x58 1,())
 exact az [130]
 rintro ⟨_,_⟩
 exact az [140,117]
theorem qat (hm:ka F m1 p1=some d1) :
    PureM qD3 119 [qDX l1 m1 t1,.func (.func 173) #[] #[qDY t2]] [⟨t2,24,[qDX l2 p1 t3]⟩] [] [qDZ l1 m1 t1,SlN eN56 iN56 1 (qDX l2 p1 t3) p1 n1] Unit (fun _=>.bool d1) (fun _=>[⟨t2,24,[qDX l2 p1 t3]⟩]) (fun _=>[]):=by
 refine pureMA func119 ntmps119 hm fun _=>?_
 refine au [61,76,4] ?_
 refine qt qbu ?_
 intro x8 e8 _
 exact az [26,10,117]
theorem qnG (hm:qdf F p1 m1=some i1) :
    qD4 126 [.agg #[qDX l1 p1 t1],qDX l2 m1 t2] [SlN eN56 iN56 1 (qDX l1 p1 t1) p1 n1,qDZ l2 m1 t2] (qDW i1):=by
 refine pureA func126 ntmps126 hm fun _=>?_
 refine au [100] ?_
 intro g7
 refine au [129,106,28,7] ?_
 intro x10 e10 _
 refine aw [6,0,2,1,5,4,25,8,0,2,13] ?_ ?_
 exact az [54,96]
 refine au [135,54,27,10] ?_
 refine qt qat ?_
 intro x13 e13 _
 refine aw [0,2,13] ?_ ?_
 exact az [48,96]
 exact az [131,90]
theorem qqG (hm:qcz F p1 i1=some m1) :
    Pure qD3 127 [.agg #[qDX l1 p1 t1],qDW i1] [SlN eN56 iN56 1 (qDX l1 p1 t1) p1 n1] (qDV×Nat) (fun g=>qDX g.1 m1 g.2) (fun g=>[qD0 g.1 m1 g.2]) (fun _=>[]):=by
 refine pureA func127 ntmps127 hm fun _=>?_
 refine au [100] ?_
 intro g5
 refine au [97,29,5] ?_
 intro a6 c7
 refine au [57,24,10,27,9] ?_
 rintro x8 e8 ⟨a9,c10⟩
 refine au [76,4,26,9] ?_
 intro x11 e11 g12 h13
 refine kx (j:=0) (y':=0) (qD .i64) rfl rfl rfl tf3 rfl h13 (qu e11).2.1 rfl (fun x14 e14 h15=>?_)
 have h16:x14.length=x8.length:=by rw[← e14,qBs]
 refine qr (d:=5) (v:=qDX a9 x14 c10) rfl h15 (qr (d:=14) (v:=qDX a9 x14 c10) rfl h15 (qr (d:=15) (v:=qDX a9 x14 c10) rfl h15 ?_))
 refine au [50] ?_
 refine qP (fun ((x0,_):qDU×Unit)=>([(5,qDX a9 x0 c10)],[],[qD0 a9 x0 c10],[],qht F x0)) ?_ ?_
 refine au [54] ?_
 refine zB [i1] (fun a0 c0=>?_)
 refine au [51,20] ?_
 refine qp [2] [0] [] [0] (fun (((x2,x3),a1,c1,g0):(qDU×qDU)×qDV×Nat×qDU)=>([(5,qDX a9 x2 c10),(6,(qv a1 g0.length x3.length c1 1))],[],[qD0 a9 x2 c10,qD0 a1 (g0++x3) c1],[])) (x14,([i1]:qDU)) (a0,c0,([]:qDU)) ?_
 intro k0
 rintro ⟨⟨x2,x3⟩,a1,c1,g0⟩
 refine au [39,1,54] ?_
 refine qwV rfl UnF.u rfl rfl ?_
 refine aw [25,6,0,2,13] ?_ ?_
 refine au [69] ?_
 refine qj [2] [0] [] [0] (fun (((x5,x6),a3,c2,g1):(qDU×qDU)×qDV×Nat×qDU)=>([(5,qDX a9 x5 c10),(6,(qv a3 g1.length x6.length c2 1))],[],[qD0 a9 x5 c10,qD0 a3 (g1++x6) c2],[],qdg F (vR F p1 k0) x5 x6)) ?_ ?_
 refine au [122] ?_
 refine qrx (hs:=g0) (xs:=x3) (j:=1) rfl underlying56 tf3 rfl rfl rfl rfl (fun x7 e0 g2 h0=>ko (j:=1) (y:=x7) (qD .i64) rfl rfl tf3 rfl h0 (qya e0) (fun _=>rfl) rfl rfl ?_)
 refine au [97,57,4,27,7] ?_
 intro x9 e1 g3 b0 o0
 refine au [25,7,110] ?_
 refine qp [2,7,32,33] [0] [] [1,2] (fun (((x10,x12,x13),a4,c4,g4):(qDU×qDU×Int)×qDV×Nat×qDU)=>([(5,qDX a9 x10 c10),(6,(qv a4 g4.length x12.length c4 1)),(34,qDW x13)],[],[qD0 a9 x10 c10,qD0 a4 (g4++x12) c4],[])) (x2,x3,(0:Int)) (a1,c1,g0) ?_
 intro k1
 rintro ⟨⟨x10,x12,x13⟩,a4,c4,g4⟩
 refine aw [39,1,5,24,6,0,2,1,13] ?_ ?_
 refine au [69] ?_
 refine qj [2,7,32,33,34] [0] [] [0,1] (fun (((x15,x16),a5,c5,g6):(qDU×qDU)×qDV×Nat×qDU)=>([(5,qDX a9 x15 c10),(6,(qv a5 g6.length x16.length c5 1))],[],[qD0 a9 x15 c10,qD0 a5 (g6++x16) c5],[],qbH F (vS F (vR F p1 k0) x7 x9 k1) x13 x15 x16)) ?_ ?_
 refine au [128,26,7] ?_
 intro x17 e2 b1 o1
 refine au [25,7,76,4,26,9] ?_
 intro x18 e3 g7 h1
 refine ko (j:=0) (y:=x18) (qD .i64) rfl rfl tf3 rfl h1 (qu e3).2.2 (fun _=>rfl) rfl rfl ?_
 refine aw [24,6,0,2,13] ?_ ?_
 refine au [54,4,4,4,26,9] ?_
 intro x19 e4 g8 h2
 refine ko (j:=0) (y:=x19) (qD .i64) rfl rfl tf3 rfl h2 (qu e4).2.2 (fun _=>rfl) rfl rfl ?_
 refine au [24,2,26,9] ?_
 intro x20 e5 g9 h3
 refine kx (j:=0) (y':=iadd .i64 x19 1) (qD .i64) rfl rfl rfl tf3 rfl h3 (qu e5).2.1 rfl (fun x21 e6 h4=>?_)
 have h5:x21.length=x10.length:=by rw[← e6,qBs]
 refine qr (d:=5) (v:=qDX a9 x21 c10) rfl h4 (qr (d:=38) (v:=qDX a9 x21 c10) rfl h4 (qr (d:=43) (v:=qDX a9 x21 c10) rfl h4 (qr (d:=45) (v:=qDX a9 x21 c10) rfl h4 ?_)))
 refine au [50,5,4,4] ?_
 refine zB [x17] (fun a7 c6=>?_)
 refine qwN (hs:=g4) (xs:=x12) 2 (qD .i64) rfl underlying56 tf3 rfl rfl rfl rfl rfl (.inl ⟨0,_,rfl⟩) rfl rfl (fun x22 e7 a8 c8 g10=>?_)
 refine au [6,0,24,7] ?_
 exact qa ((x21,x22),a8,c8,g10)
 refine au [16,24,7] ?_
 exact qa ((x10,x12),a4,c4,g4)
 rintro ⟨⟨x15,x16⟩,a5,c5,g6⟩
 refine au [39,145] ?_
 exact qk ((x15,x16,iadd .i64 x13 1),a5,c5,g6)
 refine au [91,24,7] ?_
 exact qa ((x10,x12),a4,c4,g4)
 rintro ⟨⟨x5,x6⟩,a3,c2,g1⟩
 refine au [39,5,4] ?_
 refine qwR (hs:=g1) (xs:=x6) (j:=1) rfl underlying56 tf3 rfl rfl rfl rfl (fun x23 e9 g11=>?_)
 refine au [6,0] ?_
 exact qk ((x5,x23),a3,c2,g11)
 refine au [91] ?_
 exact qa (x2,())
 rintro ⟨x0,_⟩
 refine au [120,52] ?_
 exact qx (a9,c10)
theorem qqE {r:(qDU×Int)}(hm:qk1 F p1 i1=some r) :
    Pure qD3 91 [.agg #[qDX l1 p1 t1],qDW i1] [SlN eN56 iN56 1 (qDX l1 p1 t1) p1 n1] (qDV×Nat) (fun g=>.tuple #[qDX g.1 r.1 g.2,qDW r.2]) (fun g=>[qD0 g.1 r.1 g.2]) (fun _=>[]):=by
 refine pureA func91 ntmps91 hm fun _=>?_
 refine au [100] ?_
 intro g5
 refine au [6,129,106,4] ?_
 refine zB [i1] (fun a10 c11=>?_)
 refine au [37,13] ?_
 intro x12 e12 _
 refine aw [6,0,2,1,5,4,25,8,0,2,13] ?_ ?_
 refine au [54,6,105] ?_
 exact qx (none,0)
 refine au [69,106,4,37,14] ?_
 rintro x13 e13 ⟨a14,c15⟩
 refine au [6,52] ?_
 exact qx (a14,c15)
theorem qjG (F g1:Nat)(x2:List (qDU))(a3:qDV)(c4:(Nat×List (qDV×Nat)))(x5 x6 x7:Int)(x8:qDU)(a9:qDV)(c10:Nat)(x11:qDU)(r:(Int×qDU))(hm:qgp F x2 x5 x6 x7 x8 x11=some r) :
    PureM qD3 64 [qDY g1] [⟨g1,85,[qDX a3 x2 c4.1,qDW x5,qDW x6,qDW x7,qDX a9 x8 c10,.string (bstr x11)]⟩] [] [SlN eN56 iN56 1 (qDX a3 x2 c4.1) x2 c4.2,qDZ a9 x8 c10,GF] Unit (fun _=>qDW r.1) (fun _=>[⟨g1,85,[qDX a3 x2 c4.1,qDW x5,qDW x6,qDW x7,qDX a9 x8 c10,.string (bstr r.2)]⟩]) (fun _=>[]):=by
 refine pureMA func64 ntmps64 hm fun _=>?_
 refine au [80,129,54,4,94,30,15] ?_
 intro x14 e14 _
 refine aw [25,12,0,2,13] ?_ ?_
 exact az [48,75,26,3]
 refine au [135,28,9] ?_
 intro x22 e22 b23 o24 h25
 replace h25:a9=some ⟨b23,o24,none⟩:=h25
 refine qJ [] [0] [0,1,2,3] 17 ?_
 refine au [89,21,2,21,3] ?_
 refine qA 4 (.agg #[.slice a3 x2.length c4.1]) rfl rfl rfl (qy (i:=0) rfl tf24 rfl rfl (by simp) rfl) ?_
 refine au [3,5,3,6,21,7,25,4,8] ?_
 refine v7 9 h25 e22 ?_
 refine qB 10 (qDW x22) [] rfl rfl rfl (qZ (j:=0) rfl tf3 rfl rfl (fun _=>rfl) rfl) ?_
 refine au [7,11] ?_
 refine qd qqE ?_
 rintro x26 e26 ⟨a27,c28⟩
 refine au [0,34,2,3,12,63,53,2] ?_
 refine qj [4] [] [] [1,2,3] (fun ((x43,_):qDU×Unit)=>([],[⟨g1,85,[qDX a3 x2 c4.1,qDW x5,qDW x6,qDW x7,qDX a9 x8 c10,.string (bstr x43)]⟩],[],[],qb1 F x26 x43)) ?_ ?_
 refine au [54,4,4,94,37,15] ?_
 intro x44 e44 b45 o46
 refine au [25,7,26,9] ?_
 intro x47 e47 g48 h49
 refine ko (j:=0) (y:=x47) (qD .i64) rfl rfl tf3 rfl h49 (qu e47).2.2 (fun _=>rfl) rfl rfl (vd EnC.e rfl rfl rfl (fun x50 e50=>qfD x47 x50 e50) (.consF 4 rfl .nil) (fun x50 e50=>?_))
 intro _
 refine au [85,132,54,4,94] ?_
 refine vT (j:=3) (qD .i64) (by decide) rfl UnF.u inferInstance rfl rfl rfl rfl ?_
 intro x51 e51 b52 o53
 refine au [25,7,26,9] ?_
 intro x54 e54 g55 h56
 refine ko (j:=0) (y:=x54) (qD .i64) rfl rfl tf3 rfl h56 (qu e54).2.2 (fun _=>rfl) rfl rfl ?_
 refine aw [24,6,0,2,13] ?_ ?_
 refine au [5,4,85,17,0] ?_
 exact qa (([110,111,110,101]:qDU),())
 refine au [16] ?_
 exact qa (x50,())
 rintro ⟨x43,_⟩
 exact az [120,117]
theorem qkR (hm:qc1 F p1=some w1) :
    PureM qD3 174 [.agg #[qDX l1 p1 t1]] [] [] [SlN eN56 iN56 1 (qDX l1 p1 t1) p1 n1] (qDV×Nat) (fun g=>qDX g.1 w1 g.2) (fun _=>[]) (fun g=>[Ro eS63 63 2 (qDX g.1 w1 g.2) w1]):=by
 refine qdm func174 rfl ntmps174 rfl hm (fun w=>?_)
 refine au [104] ?_
 intro g4
 refine au [97,19] ?_
 intro g5
 refine au [50,1,48,26,0,30,10] ?_
 intro x35 e35 g36
 refine au [92] ?_
 refine qdK (Int×Int) eS63 63 2 (qbW (encs:=(fun (p:Int×Int)=>[.agg #[qDW p.1,qDW p.2]])) (y:=(fun (x47:List (Int×Int)) ((x56,x57):Int×Int)=>qfK F x47 x56 x57)) (lb:=[qDY g36]) (fun (x47:List (Int×Int)) ((a45,c46):qDV×Nat)=>[⟨g5,58,[qDX a45 x47 c46]⟩,⟨g4,24,[qDX l1 p1 t1]⟩]) (fun (x47:List (Int×Int)) ((a45,c46):qDV×Nat)=>[Ro eS63 63 2 (qDX a45 x47 c46) x47]) (fun (_:Empty) (_:Unit)=>[]) (fun (_:Empty) (_:Unit)=>[]) (fun _=>.skip) ([]:List (Int×Int)) (none,0) rfl EnC.e (fun _=>rfl) rfl (.cons 0 rfl .nil) (.cons 0 rfl (.cons 0 rfl .nil)) (.cons 0 rfl .nil) (.consF 0 rfl .nil) (fun z hz _ _ _ hY=>qdP F hY ([]:List (Int×Int)) (none,0) g36 p1 l1 (t1,n1) z hz) ?_ ?_ ?_)
 rintro rc1 L1 D1 x47 ⟨a45,c46⟩ ⟨x56,x57⟩ z w M _
 try dsimp only
 refine qdq [(0,.agg #[qDX l1 p1 t1]),(1,qDY g4),(2,.slice none 0 0),(3,qDY g5),(5,.agg #[qDX l1 p1 t1]),(6,.func (.func 159) #[] #[qDY g36]),(7,.agg #[qDW x56,qDW x57])] (qm rfl (qm rfl (qm rfl (qm rfl (qm rfl (qm rfl (qm rfl qdI))))))) ?_
 refine au [5,19] ?_
 intro g58
 refine au [17,0,30,11,20,5,26,1,57,57] ?_
 refine qH [qDW x57,qDW x56] ?_
 refine qaj (vs:=[.agg #[qDW x57,qDW x56]]) (ys:=([(x57,x56)]:List (Int×Int))) qd4 (by decide) rfl underlying58 tf63 rfl rfl rfl rfl rfl (by decide) (fun a59 c60=>zw 1 qd4 rfl underlying58 tf63 rfl rfl rfl rfl rfl (.inl ⟨0,_,rfl⟩) rfl rfl (fun x61 e61 a62 c63=>?_))
 refine au [121,24,7] ?_
 exact vn (rc:=rc1) rfl (.cons 3 rfl .nil) rfl (a62,c63) (.cons 2 rfl (.cons 2 rfl (.cons 0 rfl (.cons 1 rfl .nil)))) (.cons 0 rfl .nil)
 rintro x47 _ ⟨a45,c46⟩ D1
 refine au [39,82,48,26,4,52] ?_
 exact jd [D1] (a45,c46) (.inl rfl) rfl (.cons 0 rfl .nil) (res1 rfl rfl) (fun h=>by subst h;rfl) (fun h=>by subst h;exact .nil) (fun h=>by subst h;exact (.cons 0 rfl .nil))
 intro t;exact t.elim
theorem qns {r:(List (qDU)×Int)}(hm:qeO F p1=some r) :
    Pure qD3 128 [.agg #[qDX l1 p1 t1]] [SlN eN56 iN56 1 (qDX l1 p1 t1) p1 n1] (qDV×Nat×List (qDV×Nat)) (fun g=>.tuple #[.agg #[qDX g.1 r.1 g.2.1],qDW r.2]) (fun g=>[RoN eN56 rN56 56 1 (qDX g.1 r.1 g.2.1) r.1 g.2.2 []]) (fun _=>[]):=by
 refine pureA func128 ntmps128 hm fun _=>?_
 refine au [104] ?_
 intro g4
 refine au [19] ?_
 intro g5
 refine au [129,48,26,0,28,7] ?_
 intro x8 e8 _
 refine aw [6,0,2,1,5,4,25,8,0,2,13] ?_ ?_
 refine au [48] ?_
 refine qH [.slice none 0 0] ?_
 exact az [4,17,75,27,5,30,2]
 refine au [135] ?_
 refine qJ [] [1] [0] 10 ?_
 refine au [139,28,8,2] ?_
 refine qA 3 (.agg #[.slice l1 p1.length t1]) rfl rfl rfl (qy (i:=0) rfl tf24 rfl rfl (by simp) rfl) ?_
 refine au [7,4] ?_
 refine qt qkR ?_
 rintro x20 e20 ⟨a21,c22⟩
 refine au [0,27,2,7,5,33,15] ?_
 intro x23 e23 g24
 refine au [0,27,3,7,6,34,0] ?_
 rintro x25 e25 ⟨a26,c27⟩
 refine au [0,27,3,7,7,34,1] ?_
 rintro x28 e28 ⟨a29,c30⟩
 refine au [0,27,3,7,8,121,27,3,3,9,53,2,11] ?_
 exact kp (a29,c30) 1
theorem qnF (F:Nat)(x1:Int)(g2:Nat)(x3:qDU)(a4:qDV)(c5 g6:Nat)(x7:Int)(r:Bool)(hm:qgP F x1 x3 x7=some r) :
    PureM qD3 130 [qDW x1,qDY g2,qDY g6] [⟨g2,56,[qDX a4 x3 c5]⟩,⟨g6,3,[qDW x7]⟩] [] [qDZ a4 x3 c5] Unit (fun _=>.bool r) (fun _=>[⟨g2,56,[qDX a4 x3 c5]⟩,⟨g6,3,[qDW x7]⟩]) (fun _=>[]):=by
 refine pureMA func130 ntmps130 hm fun _=>?_
 refine au [26,14,48,129,30,14] ?_
 intro x16 e16 b17 o18 h19
 replace h19:a4=some ⟨b17,o18,none⟩:=h19
 refine au [28,9] ?_
 intro x20 e20 b21 o22 h23
 replace h23:a4=some ⟨b21,o22,none⟩:=h23
 refine qJ [] [0,0] [0,1,2] 11 ?_
 refine au [25,4,0,3,1] ?_
 refine v7 2 h19 e16 ?_
 refine qB 3 (qDW x16) [] rfl rfl rfl (qZ (j:=1) rfl tf3 rfl rfl (fun _=>rfl) rfl) ?_
 refine au [25,4,4,26,13,5] ?_
 refine v7 6 h23 e20 ?_
 refine qB 7 (qDW x20) [] rfl rfl rfl (qZ (j:=0) rfl tf3 rfl rfl (fun _=>rfl) rfl) ?_
 exact az [3,8,141,53,2,11,26,3]
theorem qbK (hm:kQ F m1 m2 i1=some i2) :
    PureM qD3 129 [qDX l1 m1 t1,.func (.func 130) #[] #[qDY t2,qDY t4]] [⟨t2,56,[qDX l2 m2 t3]⟩,⟨t4,3,[qDW i1]⟩] [] [qDZ l1 m1 t1,qDZ l2 m2 t3] Unit (fun _=>qDW i2) (fun _=>[⟨t2,56,[qDX l2 m2 t3]⟩,⟨t4,3,[qDW i1]⟩]) (fun _=>[]):=by
 refine pureMA func129 ntmps129 hm fun _=>?_
 refine au [61,51] ?_
 refine qj [] [0,1] [] [1] (fun ((_,_):Unit×Unit)=>([],[],[],[],yL F)) ?_ ?_
 refine au [114] ?_
 refine qp [0,1,7] [0,0] [] [0,1] (fun ((x60,_):Int×Unit)=>([(8,qDW x60)],[],[],[])) (0:Int) () ?_
 intro k73
 rintro ⟨x60,_⟩
 refine aw [39,1,5,24,6,0,2,1,13] ?_ ?_
 refine au [137,76,4,4,26,7] ?_
 intro x80 e80 b81 o82
 refine au [25,7] ?_
 refine qfA EnC.e rfl rfl rfl rfl (fun x83 e83=>qnF F x80 t2 m2 l2 t3 t4 i1 x83 e83) (.cons 0 rfl (.cons 0 rfl .nil)) .nil (.consF 2 rfl .nil) (fun x83 e83 _=>?_)
 refine aw [0,2,13] ?_ ?_
 exact az [54,52,125,60,26,3]
 refine au [16,146] ?_
 exact qk (iadd .i64 x60 1,())
 exact az [130]
 rintro ⟨_,_⟩
 exact az [140,117]
theorem qqF {r:(qDU×Int)}(hm:qgO F p1 i1 i2=some r) :
    Pure qD3 92 [.agg #[qDX l1 p1 t1],qDW i1,qDW i2] [SlN eN56 iN56 1 (qDX l1 p1 t1) p1 n1] (qDV×Nat) (fun g=>.tuple #[qDX g.1 r.1 g.2,qDW r.2]) (fun g=>[qD0 g.1 r.1 g.2]) (fun _=>[]):=by
 refine pureA func92 ntmps92 hm fun _=>?_
 refine au [116] ?_
 intro g6
 refine au [6,129,106,4,4] ?_
 refine zB [i1,i2] (fun a11 c12=>?_)
 refine au [37,13] ?_
 intro x13 e13 _
 refine aw [6,0,2,1,5,4,25,8,0,2,13] ?_ ?_
 refine au [54,6,105] ?_
 exact qx (none,0)
 refine au [69,106] ?_
 refine qd qns ?_
 rintro x14 e14 ⟨a15,c16⟩
 refine au [4,64,19] ?_
 intro g17
 refine au [17,97,25,0,4,37,14] ?_
 rintro x18 e18 ⟨a19,c20⟩
 refine au [19] ?_
 intro g21
 refine au [132,1,48,24,0,4,26,9] ?_
 intro x26 e26 g27 h28
 refine ko (j:=0) (y:=x26) (qD .i64) rfl rfl tf3 rfl h28 (qu e26).2.2 (fun _=>rfl) rfl rfl ?_
 refine aw [24,6,0,2,13] ?_ ?_
 refine au [48,6,105] ?_
 exact qx (none,0)
 refine au [69,54] ?_
 refine zB [i1] (fun a29 c30=>?_)
 refine au [51] ?_
 refine qP (fun ((x0,a0,c0):qDU×qDV×Nat)=>([(12,qDX a0 x0 c0)],[],[qD0 a0 x0 c0],[],qgd F x0)) ?_ ?_
 refine au [54,19] ?_
 intro g0
 refine au [17,92] ?_
 refine qp [2,3,11] [1,2] [1] [0] (fun (((x2,x3),a1,c1,g1):(qDU×Int)×qDV×Nat×Nat)=>([(12,qDX a1 x2 c1),(13,qDY g1)],[⟨g1,3,[qDW x3]⟩],[qD0 a1 x2 c1],[])) (([i1]:qDU),i1) (a29,c30,g0) ?_
 intro k0
 rintro ⟨⟨x2,x3⟩,a1,c1,g1⟩
 refine aw [39,1,1,5,26,4,4,25,8,0,2,13] ?_ ?_
 refine au [136,123,26,4,27,7] ?_
 intro x6 e0 g2 b0 o0
 refine au [25,7,27,10] ?_
 refine qt qbK ?_
 intro x7 e1 _
 refine au [51,5,133,26,1,38,0] ?_
 intro x8 e2 g3 b1 o1
 refine au [25,7,4,29,6] ?_
 intro x9 e3 b2 o2
 refine au [25,7,121,82,1,48,26,1,50,5,19] ?_
 intro g4
 refine au [132,5,4,24,0] ?_
 refine zB [x9] (fun a3 c2=>?_)
 refine zw 2 (qD .i64) rfl underlying56 tf3 rfl rfl rfl rfl rfl (.inl ⟨0,_,rfl⟩) rfl rfl (fun x10 e4 a4 c4=>?_)
 refine au [6,0] ?_
 exact qk ((x10,x9),a4,c4,g4)
 refine au [91] ?_
 exact qa (x2,a1,c1)
 rintro ⟨x0,a0,c0⟩
 refine au [120,6,52] ?_
 exact qx (a0,c0)
theorem qii {r:(Int×qDU)}(hm:vH F p1 i1 i2 i3 m1 m2 m3 i4 i5=some r) :
    PureM qD3 93 [qDY t1,qDX l3 m3 t4,qDW i4,qDW i5] [⟨t1,85,[qDX l1 p1 t2,qDW i1,qDW i2,qDW i3,qDX l2 m1 t3,.string (bstr m2)]⟩] [] [SlN eN56 iN56 1 (qDX l1 p1 t2) p1 n1,qDZ l2 m1 t3,qDZ l3 m3 t4,GF] Unit (fun _=>qDW r.1) (fun _=>[⟨t1,85,[qDX l1 p1 t2,qDW i1,qDW i2,qDW i3,qDX l2 m1 t3,.string (bstr r.2)]⟩]) (fun _=>[]):=by
 refine pureMA func93 ntmps93 hm fun _=>?_
 refine au [28,12,48,51] ?_
 refine qj [] [] [] [0,1,3] (fun (((x19,x20),_):(Int×qDU)×Unit)=>([(2,qDW x19)],[⟨t1,85,[qDX l1 p1 t2,qDW i1,qDW i2,qDW i3,qDX l2 m1 t3,.string (bstr x20)]⟩],[],[],vU F x19 x20)) ?_ ?_
 refine au [54,4,37,12] ?_
 intro x21 e21 _
 refine aw [0,2,1,5,4,4,25,11,0,2,13] ?_ ?_
 refine au [5,4,85,17,6,0] ?_
 exact qa (((0:Int),([110,111,110,101]:qDU)),())
 refine au [16] ?_
 exact qa ((i4,x21),())
 rintro ⟨⟨x19,x20⟩,_⟩
 exact az [120,117]
theorem qjI (F g1:Nat)(x2:List (qDU))(a3:qDV)(c4:(Nat×List (qDV×Nat)))(x5 x6 x7:Int)(x8:qDU)(a9:qDV)(c10:Nat)(x11:qDU)(r:(Int×qDU))(hm:qbN F x2 x5 x6 x7 x8 x11=some r) :
    PureM qD3 65 [qDY g1] [⟨g1,85,[qDX a3 x2 c4.1,qDW x5,qDW x6,qDW x7,qDX a9 x8 c10,.string (bstr x11)]⟩] [] [SlN eN56 iN56 1 (qDX a3 x2 c4.1) x2 c4.2,qDZ a9 x8 c10,GF] Unit (fun _=>qDW r.1) (fun _=>[⟨g1,85,[qDX a3 x2 c4.1,qDW x5,qDW x6,qDW x7,qDX a9 x8 c10,.string (bstr r.2)]⟩]) (fun _=>[]):=by
 refine pureMA func65 ntmps65 hm fun _=>?_
 refine au [80,129,28,9] ?_
 intro x23 e23 b24 o25 h26
 replace h26:a9=some ⟨b24,o25,none⟩:=h26
 refine au [30,3] ?_
 intro x27 e27 b28 o29 h30
 replace h30:a9=some ⟨b28,o29,none⟩:=h30
 refine qJ [] [0] [0,1,2,3,4] 23 ?_
 refine au [89,21,2,21,3] ?_
 refine qA 4 (.agg #[.slice a3 x2.length c4.1]) rfl rfl rfl (qy (i:=0) rfl tf24 rfl rfl (by simp) rfl) ?_
 refine au [3,5,3,6,21,7,25,4,8] ?_
 refine v7 9 h26 e23 ?_
 refine qB 10 (qDW x23) [] rfl rfl rfl (qZ (j:=1) rfl tf3 rfl rfl (fun _=>rfl) rfl) ?_
 refine au [127,21,13,25,4,14] ?_
 refine v7 15 h30 e27 ?_
 refine qB 16 (qDW x27) [] rfl rfl rfl (qZ (j:=0) rfl tf3 rfl rfl (fun _=>rfl) rfl) ?_
 refine au [7,17] ?_
 refine qd qqF ?_
 rintro x31 e31 ⟨a32,c33⟩
 refine au [0] ?_
 refine zI [0] [0,1,2,3,4] ?_
 refine au [3,18,46,3,21,3,22,53,2,54,4,4,38,1] ?_
 intro x34 e34 _
 exact az [117]
theorem qdt (F g1 g2:Nat)(x3:List (qDU))(a4:qDV)(c5:(Nat×List (qDV×Nat)))(x6 x7 x8:Int)(x9:qDU)(a10:qDV)(c11:Nat)(x12:qDU)(g13:Nat)(r:(Int×qDU))(hm:kF F x3 x6 x7 x8 x9 x12=some r) :
    PureM qD3 94 [qDY g1,qDY g13] [⟨g1,83,[qDY g2]⟩,⟨g2,85,[qDX a4 x3 c5.1,qDW x6,qDW x7,qDW x8,qDX a10 x9 c11,.string (bstr x12)]⟩,⟨g13,107,[.func (.func 67) #[] #[]]⟩] [] [SlN eN56 iN56 1 (qDX a4 x3 c5.1) x3 c5.2,qDZ a10 x9 c11,GF] Unit (fun _=>qDW r.1) (fun _=>[⟨g2,85,[qDX a4 x3 c5.1,qDW x6,qDW x7,qDW x8,qDX a10 x9 c11,.string (bstr r.2)]⟩,⟨g1,83,[qDY g2]⟩,⟨g13,107,[.func (.func 67) #[] #[]]⟩]) (fun _=>[]):=by
 refine pureMA func94 ntmps94 hm fun _=>?_
 refine au [61,129,1,28,9] ?_
 intro x36 e36 b37 o38 h39
 replace h39:a10=some ⟨b37,o38,none⟩:=h39
 refine au [38,2,25,4,0,25,4,1,3,2,21,3,26,13,4] ?_
 refine v7 5 h39 e36 ?_
 refine qB 6 (qDW x36) [] rfl rfl rfl (qZ (j:=0) rfl tf3 rfl rfl (fun _=>rfl) rfl) ?_
 refine au [7,7] ?_
 refine zB [x36] (fun a40 c41=>?_)
 refine au [0,31,6,7,8,30,15] ?_
 intro x42 e42 _
 refine aw [0,38,3,3,9,14,15,2,13] ?_ ?_
 exact az [48,75,26,3]
 refine au [135,38,4,29,1,0,26,13,1,3,2,21,3,21,4] ?_
 refine qA 5 (.agg #[.slice a4 x3.length c5.1]) rfl rfl rfl (qy (i:=0) rfl tf24 rfl rfl (by simp) rfl) ?_
 refine au [7,6] ?_
 refine qkb EnC.e rfl rfl rfl rfl (fun x46 e46=>qkV F x3 a4 c5 x46 e46) (.consF 1 rfl .nil) (fun x46 e46=>?_)
 rintro ⟨a47,c48⟩
 refine au [0,31,6,3,7,3,8,141,81,2,1,30,3] ?_
 intro x58 e58 b59 o60 h61
 replace h61:a10=some ⟨b59,o60,none⟩:=h61
 refine au [30,4] ?_
 intro x62 e62 g63 h64
 replace h64:a47=some ⟨g63,0,none⟩:=h64
 have h65:=zM (k:=x46.1.length) (c:=c48) h64
 refine kB mixed [13] _ _ (.cons 1 rfl (.cons 1 rfl .nil)) (qh 0 rfl (qh 1 rfl (qh 2 rfl (qh 3 rfl (qh 4 rfl (qE 0 rfl (qn (qD .i64) e62 h64) (qgv 0 rfl qf))))))) 14 rfl ?_
 refine au [25,4,0,3,1,25,4,2,3,3,21,4] ?_
 refine qB 5 (qDX a10 x9 c11) [[13]] rfl rfl rfl (kW (j:=6) rfl tf56 rfl rfl (fun _=>rfl) rfl) (v7 6 h61 e58 ?_)
 refine qB 7 (qDW x58) [[13]] rfl rfl rfl (qZ (j:=0) rfl tf3 rfl rfl (fun _=>rfl) rfl) (jB 8 h64 e62 ?_)
 refine qB 9 (qDW x62) [[13]] rfl rfl rfl (qZ (j:=5) rfl tf3 rfl rfl (fun _=>rfl) rfl) ?_
 refine au [7,10] ?_
 refine vd EnC.e rfl rfl rfl (fun x66 e66=>qfD x62 x66 e66) (.consF 4 rfl .nil) (fun x66 e66 _=>?_)
 refine au [0] ?_
 refine qc (.cons 1 rfl (.cons 1 rfl .nil)) (qh 0 rfl (qh 1 rfl (qh 2 rfl (qh 3 rfl (qh 4 rfl (qE 0 rfl (qn (qD .i64) e62 h64) (qgv 0 rfl qf))))))) ?_
 exact az [3,11,21,12,7,13,17,0,38,5,53,2,54,117]
theorem qku {r:(qDU×qDU×Int)}(hm:qcl F p1=some r) :
    PureM qD3 133 [.agg #[qDX l1 p1 t1]] [] [] [SlN eN56 iN56 1 (qDX l1 p1 t1) p1 n1] ((qDV×Nat)×qDV×Nat) (fun g=>.tuple #[qDX g.1.1 r.1 g.1.2,qDX g.2.1 r.2.1 g.2.2,qDW r.2.2]) (fun _=>[]) (fun g=>[qD0 g.1.1 r.1 g.1.2,qD0 g.2.1 r.2.1 g.2.2]):=by
 refine qdm func133 rfl ntmps133 rfl hm (fun w=>?_)
 refine au [104] ?_
 intro g4
 refine au [19] ?_
 intro g5
 refine au [19] ?_
 intro g6
 refine au [129,48,26,11,28,7] ?_
 intro x9 e9 _
 refine aw [6,0,2,1,5,4,25,8,0,2,13] ?_ ?_
 refine au [54,25,10,17,105,25,13] ?_
 exact jd [] ((none,0),none,0) (.inl rfl) rfl .nil (resL (rs:=[.cell 2 56,.cell 3 56,.tmp 4]) rfl (.cell (i:=1) rfl tf56 rfl rfl (fun _=>rfl) rfl (.cell (i:=0) rfl tf56 rfl rfl (fun _=>rfl) rfl (.tmp rfl ResOk.nil))) rfl) (fun h=>by subst h;rfl) (fun h=>by subst h;exact .nil) (fun h=>by subst h;exact (.cons 0 rfl (.cons 0 rfl .nil)))
 refine au [69] ?_
 refine qj [1,2,3,4] [2] [] [0] (fun (((x27,x30),a25,c26,a28,c29):(qDU×qDU)×qDV×Nat×qDV×Nat)=>([],[⟨g6,56,[qDX a25 x27 c26]⟩,⟨g5,56,[qDX a28 x30 c29]⟩],[qD0 a25 x27 c26,qD0 a28 x30 c29],[],qcu F p1 x27 x30)) ?_ ?_
 refine qJ [] [2] [0] 10 ?_
 refine au [139,28,8,2,21,4,25,4,5,28,8,6] ?_
 refine qg 3 7 rfl rfl (by kernel_rfl) rfl rfl ?_ ?_
 refine au [26,6] ?_
 intro x0 e0 a0 c0
 refine au [0,27,3] ?_
 refine qg 7 8 rfl rfl (by kernel_rfl) rfl rfl ?_ ?_
 refine au [26,6] ?_
 intro x2 e1 a1 c1
 refine au [0,27,3,7,8,121,27,3,7,9,17,0,27,3,53] ?_
 exact qa ((x2,x0),a1,c1,a0,c0)
 refine au [121,27,3,7,7,26,6] ?_
 intro x3 e2 a3 c2
 refine au [0,27,3,7,9,17,0,27,3,53] ?_
 exact qa ((x3,x0),a3,c2,a0,c0)
 refine qC pull1 ?_
 refine au [26,6] ?_
 intro x4 e3 a4 c4
 refine au [0,27,3,7,3,26,6] ?_
 intro x5 e4 a5 c5
 refine au [0,27,3,7,8,121,27,3,7,9,17,0,27,3,53] ?_
 exact qa ((x4,x5),a4,c4,a5,c5)
 rintro ⟨⟨x27,x30⟩,a25,c26,a28,c29⟩
 refine au [39,1,106,30,10] ?_
 intro x98 e98 g99
 refine au [92] ?_
 refine qbW (encs:=(fun (p:Int×Int)=>[.agg #[qDW p.1,qDW p.2]])) (y:=(fun ((x6,x7):(qDU×qDU)) ((x8,x10):Int×Int)=>vJ F x6 x7 x8 x10)) (lb:=[qDY g99]) (fun ((x6,x7):(qDU×qDU)) (_:Unit)=>[⟨g4,24,[qDX l1 p1 t1]⟩,⟨g6,56,[qDX a25 x6 c26]⟩,⟨g5,56,[qDX a28 x7 c29]⟩]) (fun ((x6,x7):(qDU×qDU)) (_:Unit)=>[qD0 a25 x6 c26,qD0 a28 x7 c29]) (fun (_:Empty) (_:Unit)=>[]) (fun (_:Empty) (_:Unit)=>[]) (fun _=>.skip) (x27,x30) () rfl EnC.e (fun _=>rfl) rfl (.cons 0 rfl .nil) (.cons 0 rfl (.cons 0 rfl (.cons 0 rfl .nil))) (.cons 0 rfl (.cons 0 rfl .nil)) (.consF 0 rfl .nil) (fun z hz _ _ _ hY=>qdP F hY (x27,x30) () g99 p1 l1 (t1,n1) z hz) ?_ ?_ ?_
 rintro rc1 L1 D1 ⟨x6,x7⟩ _ ⟨x8,x10⟩ z w M _
 try dsimp only
 refine qdq [(1,qDY g4),(2,qDY g5),(3,qDY g6),(4,qDW 0),(20,.agg #[qDX l1 p1 t1]),(21,.func (.func 159) #[] #[qDY g99]),(22,.agg #[qDW x8,qDW x10])] (qm rfl (qm rfl (qm rfl (qm rfl (qm rfl (qm rfl (qm rfl qdI))))))) ?_
 refine au [5,19] ?_
 intro g0
 refine au [17,0,34,14,128,29,2,57,29,0] ?_
 intro x11 e5 g1 h0
 refine ko (j:=1) (y:=x11) (qD .i64) rfl rfl tf3 rfl h0 (qu e5).2.2 (fun _=>rfl) rfl rfl ?_
 refine au [24,2,29,0] ?_
 intro x12 e6 g2 h1
 refine kx (j:=1) (y':=iadd .i64 x11 1) (qD .i64) rfl rfl rfl tf3 rfl h1 (qu e6).2.1 rfl (fun x13 e7 h2=>?_)
 have h3:x13.length=x7.length:=by rw[← e7,qBs]
 refine qr (d:=23) (v:=qDX a28 x13 c29) rfl h2 (qW (i:=3) (cs':=[qDX a28 x13 c29]) rfl (by simp only[qDX,h2] <;> rfl) ?_)
 refine au [50,5,26,4,57,29,0] ?_
 intro x14 e8 g3 h4
 refine ko (j:=1) (y:=x14) (qD .i64) rfl rfl tf3 rfl h4 (qu e8).2.2 (fun _=>rfl) rfl rfl ?_
 refine au [24,2,29,0] ?_
 intro x15 e10 g7 h5
 refine kx (j:=1) (y':=iadd .i64 x14 1) (qD .i64) rfl rfl rfl tf3 rfl h5 (qu e10).2.1 rfl (fun x16 e11 h6=>?_)
 have h7:x16.length=x6.length:=by rw[← e11,qBs]
 refine qr (d:=30) (v:=qDX a25 x16 c26) rfl h6 (qW (i:=2) (cs':=[qDX a25 x16 c26]) rfl (by simp only[qDX,h6] <;> rfl) ?_)
 refine au [0,24,7] ?_
 exact vn (rc:=rc1) rfl (.cons 4 rfl .nil) rfl () (.cons 2 rfl (.cons 2 rfl (.cons 2 rfl (.cons 0 rfl (.cons 1 rfl .nil))))) (.cons 0 rfl (.cons 0 rfl .nil))
 rintro ⟨x6,x7⟩ _ _ D1
 refine au [39,82,1,38,6] ?_
 refine qA 0 _ rfl rfl rfl (qy (i:=4) rfl inferInstance rfl rfl (fun _=>rfl) rfl) ?_
 refine au [32,2,1,7,2] ?_
 refine kL (i:=4) rfl rfl rfl inferInstance rfl rfl rfl rfl rfl ?_
 refine au [0,29,10,7,3,30,6,0,29,10,3,4,53,2,11] ?_
 exact jd [D1] ((a28,c29),a25,c26) (.inl rfl) rfl (.cons 0 rfl .nil) (resL (rs:=[.cell 2 56,.cell 3 56,.tmp 4]) rfl (.cell (i:=3) rfl tf56 rfl rfl (fun _=>rfl) rfl (.cell (i:=2) rfl tf56 rfl rfl (fun _=>rfl) rfl (.tmp rfl ResOk.nil))) rfl) (fun h=>by subst h;rfl) (fun h=>by subst h;exact .nil) (fun h=>by subst h;exact (.cons 1 rfl (.cons 0 rfl .nil)))
 intro t;exact t.elim
theorem qkU {r:(qDU×Int)}(hm:qda F p1=some r) :
    Pure qD3 96 [.agg #[qDX l1 p1 t1]] [SlN eN56 iN56 1 (qDX l1 p1 t1) p1 n1] (qDV×Nat) (fun g=>.tuple #[qDX g.1 r.1 g.2,qDW r.2]) (fun g=>[qD0 g.1 r.1 g.2]) (fun _=>[]):=by
 refine pureA func96 ntmps96 hm fun _=>?_
 refine au [104] ?_
 intro g4
 refine au [6,97,25,0] ?_
 refine qt qku ?_
 rintro x5 e5 ⟨⟨a6,c7⟩,a8,c9⟩
 refine aw [4,24,1,24,1,24,1,6,6,6,0,2,1,1,5,4,25,8,0,2,13] ?_ ?_
 refine au [54,6,105] ?_
 exact qx (none,0)
 refine au [131,51] ?_
 refine qP (fun ((x0,a0,c0):qDU×qDV×Nat)=>([(7,qDX a0 x0 c0)],[],[qD0 a0 x0 c0],[],qft F x0)) ?_ ?_
 refine au [20,28,1] ?_
 refine qp [1] [0] [] [0] (fun (((x2,x3),a1,c1):(qDU×qDU)×qDV×Nat)=>([(5,qDX a8 x2 c9),(7,qDX a1 x3 c1)],[],[qD0 a8 x2 c9,qD0 a1 x3 c1],[])) (x5.2.1,([]:qDU)) (none,0) ?_
 intro k0
 rintro ⟨⟨x2,x3⟩,a1,c1⟩
 refine aw [39,1,1,5,4,24,10,4,24,10,24,6,0,2,13] ?_ ?_
 refine au [69,122,31,8] ?_
 intro x4 e0 _
 refine aw [6,0,2,1,1,5,4,24,6,0,2,13] ?_ ?_
 refine au [48,6,75,60,60,25,13] ?_
 exact qx (none,0)
 refine au [69,54,4,26,9] ?_
 intro x6 e1 g0 h0
 refine kx (j:=0) (y':=-1) (qD .i64) rfl rfl rfl tf3 rfl h0 (qu e1).2.1 rfl (fun x7 e2 h1=>?_)
 have h2:x7.length=x2.length:=by rw[← e2,qBs]
 refine qr (d:=5) (v:=qDX a8 x7 c9) rfl h1 (qr (d:=22) (v:=qDX a8 x7 c9) rfl h1 (qr (d:=25) (v:=qDX a8 x7 c9) rfl h1 (qr (d:=29) (v:=qDX a8 x7 c9) rfl h1 ?_)))
 refine au [50] ?_
 refine qj [1,7,8] [0] [1] [0] (fun ((x8,_):qDU×Unit)=>([(5,qDX a8 x8 c9)],[],[qD0 a8 x8 c9],[],qaF F (vM F p1 k0) x3 x4 x8)) ?_ ?_
 refine au [48,57,4,27,7] ?_
 intro x9 e3 g1 b0 o0
 refine au [25,7,110] ?_
 refine qp [1,7,8,36,37] [0] [1] [1,2] (fun (((x10,x11),_):(qDU×Int)×Unit)=>([(5,qDX a8 x10 c9),(38,qDW x11)],[],[qD0 a8 x10 c9],[])) (x7,(0:Int)) () ?_
 intro k1
 rintro ⟨⟨x10,x11⟩,_⟩
 refine aw [39,1,5,24,6,0,2,1,13] ?_ ?_
 refine au [136,26,7] ?_
 intro x12 e4 b1 o1
 refine au [25,7,51,5,4,4,29,0] ?_
 intro x13 e6 g2 h3
 refine ko (j:=1) (y:=x13) (qD .i64) rfl rfl tf3 rfl h3 (qu e6).2.2 (fun _=>rfl) rfl rfl ?_
 refine au [25,14,29,0] ?_
 intro x14 e7 g3 h4
 refine kx (j:=1) (y':=isub .i64 x13 1) (qD .i64) rfl rfl rfl tf3 rfl h4 (qu e7).2.1 rfl (fun x15 e8 h5=>?_)
 have h6:x15.length=x10.length:=by rw[← e8,qBs]
 refine qr (d:=5) (v:=qDX a8 x15 c9) rfl h5 (qr (d:=42) (v:=qDX a8 x15 c9) rfl h5 ?_)
 refine au [0,146] ?_
 exact qk ((x15,iadd .i64 x11 1),())
 refine au [91] ?_
 exact qa (x10,())
 rintro ⟨x8,_⟩
 refine au [39,5,4,4] ?_
 refine zB [x4] (fun a3 c2=>?_)
 refine zw 1 (qD .i64) rfl underlying56 tf3 rfl rfl rfl rfl rfl (.inl ⟨0,_,rfl⟩) rfl rfl (fun x16 e9 a4 c4=>?_)
 refine au [6,0,24,7] ?_
 exact qk ((x8,x16),a4,c4)
 refine au [91] ?_
 exact qa (x3,a1,c1)
 rintro ⟨x0,a0,c0⟩
 refine au [120,6,52] ?_
 exact qx (a0,c0)
theorem qik (F g1:Nat)(x2:List (qDU))(a3:qDV)(c4:(Nat×List (qDV×Nat)))(x5 x6 x7:Int)(x8:qDU)(a9:qDV)(c10:Nat)(x11:qDU)(r:(Int×qDU))(hm:qav F x2 x5 x6 x7 x8 x11=some r) :
    PureM qD3 68 [qDY g1] [⟨g1,85,[qDX a3 x2 c4.1,qDW x5,qDW x6,qDW x7,qDX a9 x8 c10,.string (bstr x11)]⟩] [] [SlN eN56 iN56 1 (qDX a3 x2 c4.1) x2 c4.2,qDZ a9 x8 c10,GF] Unit (fun _=>qDW r.1) (fun _=>[⟨g1,85,[qDX a3 x2 c4.1,qDW x5,qDW x6,qDW x7,qDX a9 x8 c10,.string (bstr r.2)]⟩]) (fun _=>[]):=by
 refine pureMA func68 ntmps68 hm fun _=>?_
 refine au [80,76,85,134] ?_
 refine qd qkU ?_
 rintro x12 e12 ⟨a13,c14⟩
 refine au [4,64,6,76,4,4,38,1] ?_
 intro x15 e15 _
 exact az [117]
theorem qds (F g1 g2:Nat)(x3:List (qDU))(a4:qDV)(c5:(Nat×List (qDV×Nat)))(x6 x7 x8:Int)(x9:qDU)(a10:qDV)(c11:Nat)(x12:qDU)(g13:Nat)(r:(Int×qDU))(hm:jO F x3 x6 x7 x8 x9 x12=some r) :
    PureM qD3 94 [qDY g1,qDY g13] [⟨g1,83,[qDY g2]⟩,⟨g2,85,[qDX a4 x3 c5.1,qDW x6,qDW x7,qDW x8,qDX a10 x9 c11,.string (bstr x12)]⟩,⟨g13,107,[.func (.func 69) #[] #[]]⟩] [] [SlN eN56 iN56 1 (qDX a4 x3 c5.1) x3 c5.2,qDZ a10 x9 c11,GF] Unit (fun _=>qDW r.1) (fun _=>[⟨g2,85,[qDX a4 x3 c5.1,qDW x6,qDW x7,qDW x8,qDX a10 x9 c11,.string (bstr r.2)]⟩,⟨g1,83,[qDY g2]⟩,⟨g13,107,[.func (.func 69) #[] #[]]⟩]) (fun _=>[]):=by
 refine pureMA func94 ntmps94 hm fun _=>?_
 refine au [61,129,1,28,9] ?_
 intro x36 e36 b37 o38 h39
 replace h39:a10=some ⟨b37,o38,none⟩:=h39
 refine au [38,2,25,4,0,25,4,1,3,2,21,3,26,13,4] ?_
 refine v7 5 h39 e36 ?_
 refine qB 6 (qDW x36) [] rfl rfl rfl (qZ (j:=0) rfl tf3 rfl rfl (fun _=>rfl) rfl) ?_
 refine au [7,7] ?_
 refine zB [x36] (fun a40 c41=>?_)
 refine au [0,31,6,7,8,30,15] ?_
 intro x42 e42 _
 refine aw [0,38,3,3,9,14,15,2,13] ?_ ?_
 exact az [48,75,26,3]
 refine au [135,38,4,29,1,0,26,13,1,3,2,21,3,21,4] ?_
 refine qA 5 (.agg #[.slice a4 x3.length c5.1]) rfl rfl rfl (qy (i:=0) rfl tf24 rfl rfl (by simp) rfl) ?_
 refine au [7,6] ?_
 refine qkb EnC.e rfl rfl rfl rfl (fun x46 e46=>qkN F x3 a4 c5 x46 e46) (.consF 1 rfl .nil) (fun x46 e46=>?_)
 rintro ⟨a47,c48⟩
 refine au [0,31,6,3,7,3,8,141,81,2,1,30,3] ?_
 intro x58 e58 b59 o60 h61
 replace h61:a10=some ⟨b59,o60,none⟩:=h61
 refine au [30,4] ?_
 intro x62 e62 g63 h64
 replace h64:a47=some ⟨g63,0,none⟩:=h64
 have h65:=zM (k:=x46.1.length) (c:=c48) h64
 refine kB mixed [13] _ _ (.cons 1 rfl (.cons 1 rfl .nil)) (qh 0 rfl (qh 1 rfl (qh 2 rfl (qh 3 rfl (qh 4 rfl (qE 0 rfl (qn (qD .i64) e62 h64) (qgv 0 rfl qf))))))) 14 rfl ?_
 refine au [25,4,0,3,1,25,4,2,3,3,21,4] ?_
 refine qB 5 (qDX a10 x9 c11) [[13]] rfl rfl rfl (kW (j:=6) rfl tf56 rfl rfl (fun _=>rfl) rfl) (v7 6 h61 e58 ?_)
 refine qB 7 (qDW x58) [[13]] rfl rfl rfl (qZ (j:=0) rfl tf3 rfl rfl (fun _=>rfl) rfl) (jB 8 h64 e62 ?_)
 refine qB 9 (qDW x62) [[13]] rfl rfl rfl (qZ (j:=5) rfl tf3 rfl rfl (fun _=>rfl) rfl) ?_
 refine au [7,10] ?_
 refine vd EnC.e rfl rfl rfl (fun x66 e66=>qfD x62 x66 e66) (.consF 4 rfl .nil) (fun x66 e66 _=>?_)
 refine au [0] ?_
 refine qc (.cons 1 rfl (.cons 1 rfl .nil)) (qh 0 rfl (qh 1 rfl (qh 2 rfl (qh 3 rfl (qh 4 rfl (qE 0 rfl (qn (qD .i64) e62 h64) (qgv 0 rfl qf))))))) ?_
 exact az [3,11,21,12,7,13,17,0,38,5,53,2,54,117]
theorem ql5 {r:Unit}(hm:qfY F p1=some r) :
    PureM qD3 136 [qDX l1 p1 t1] [] [] [SlN eN56 iN56 1 (qDX l1 p1 t1) p1 n1] Nat (fun g=>.func (.func 179) #[] #[qDY g]) (fun g=>[⟨g,22,[qDX l1 p1 t1]⟩]) (fun _=>[]):=by
 refine pureMA func136 ntmps136 hm fun _=>?_
 refine au [104] ?_
 intro g4
 refine au [97,27,10,52] ?_
 exact qK g4
theorem qkt (F:Nat){σ τ:Type}{J:Rounds σ τ}{yy:σ→qDU→Option (σ ⊕ τ)}{L:Nat}(hY:YieldC qD3 L (fun (p:qDU)=>[.agg (p.flatMap (eI .i64)).toArray]) J yy)(s0:σ)(gs0:J.γ)(g1:Nat)(x2:List (qDU))(a3:qDV)(c4:(Nat×List (qDV×Nat)))(r:σ ⊕ τ)(hm:qep F yy x2 s0=some r) :
    PureM qD3 179 ([.func (.yield L) #[] #[],qDY g1]) ([⟨g1,22,[qDX a3 x2 c4.1]⟩]++J.IB s0 gs0) (J.IR s0 gs0) [J.F,SlN eN56 iN56 1 (qDX a3 x2 c4.1) x2 c4.2] (J.G r) (fun _=>.tuple #[]) (fun g=>[⟨g1,22,[qDX a3 x2 c4.1]⟩]++J.bs r g) (fun g=>J.rs r g):=by
 refine pureMA func179 ntmps179 hm fun _=>?_
 refine au [61,24,0,110] ?_
 refine vE (fun (((x0,x1),g0):(Int×σ)×J.γ)=>[(0,.func (.yield L) #[] #[]),(1,qDY g1),(11,qDX a3 x2 c4.1),(12,qDW (x2.length:Int)),(13,qDW x0)]) (fun (((x0,x1),g0):(Int×σ)×J.γ)=>[⟨g1,22,[qDX a3 x2 c4.1]⟩]++J.IB x1 g0) (fun (((x0,x1),g0):(Int×σ)×J.γ)=>[]++J.IR x1 g0) (fun (((x0,x1),g0):(Int×σ)×J.γ)=>[SlN eN56 iN56 1 (qDX a3 x2 c4.1) x2 c4.2,J.F]) (fun k (s:(Int×σ)×J.γ)=>qL F yy x2 k s.1) ((0,s0),gs0) F ?_ (hB:=(.cons 0 rfl (qe 0 rfl))) (hR:=(qe 0 rfl)) (hF:=(qi 1 rfl (qi 0 rfl zG)))
 intro k0
 rintro ⟨⟨x0,x1⟩,g0⟩
 try dsimp only
 refine qaM (m':=ji F yy x2 (qL F yy x2 k0) x0 x1) rfl ?_
 refine aw [1,5,24,6,0,2,1,13] ?_ ?_
 refine au [69] ?_
 refine qdp (fun ((x3,g2):σ×J.γ)=>[(0,.func (.yield L) #[] #[]),(1,qDY g1),(11,qDX a3 x2 c4.1),(12,qDW (x2.length:Int)),(13,qDW x0)]) (fun ((x3,g2):σ×J.γ)=>[⟨g1,22,[qDX a3 x2 c4.1]⟩]++J.IB x3 g2) (fun ((x3,g2):σ×J.γ)=>[]++J.IR x3 g2) (fun ((x3,g2):σ×J.γ)=>[SlN eN56 iN56 1 (qDX a3 x2 c4.1) x2 c4.2,J.F]) (fun ((x3,_):σ×J.γ)=>jm F yy (qL F yy x2 k0) x0 x3) ?_ ?_
 refine au [122,27,7] ?_
 intro x4 e0 g3 b0 o0
 refine au [25,7,6,76,110] ?_
 refine vE (fun (((x5,x6),g4):(Int×σ)×J.γ)=>[(0,.func (.yield L) #[] #[]),(1,qDY g1),(3,qDW x0),(4,qDX g3.1 x4 g3.2),(11,qDX a3 x2 c4.1),(12,qDW (x2.length:Int)),(13,qDW x0),(18,qDX g3.1 x4 g3.2),(19,qDW (x4.length:Int)),(20,qDW x5)]) (fun (((x5,x6),g4):(Int×σ)×J.γ)=>[⟨g1,22,[qDX a3 x2 c4.1]⟩]++J.IB x6 g4) (fun (((x5,x6),g4):(Int×σ)×J.γ)=>[]++J.IR x6 g4) (fun (((x5,x6),g4):(Int×σ)×J.γ)=>[qDZ g3.1 x4 g3.2,SlN eN56 iN56 1 (qDX a3 x2 c4.1) x2 c4.2,J.F]) (fun k (s:(Int×σ)×J.γ)=>q9 F yy (qL F yy x2 k0) x2 x0 x4 k s.1) ((0,x1),g0) F ?_ (hB:=(.cons 0 rfl (qe 0 rfl))) (hR:=(qe 0 rfl)) (hF:=(qi 1 rfl (qi 2 rfl (qi 3 rfl zG))))
 intro k1
 rintro ⟨⟨x5,x6⟩,g4⟩
 try dsimp only
 refine qaM (m':=jk F yy (qL F yy x2 k0) x2 x0 x4 (q9 F yy (qL F yy x2 k0) x2 x0 x4 k1) x5 x6) rfl ?_
 refine aw [1,5,24,6,0,2,1,13] ?_ ?_
 refine au [69] ?_
 refine qdp (fun ((x7,g5):σ×J.γ)=>[(0,.func (.yield L) #[] #[]),(1,qDY g1),(3,qDW x0),(4,qDX g3.1 x4 g3.2),(11,qDX a3 x2 c4.1),(12,qDW (x2.length:Int)),(13,qDW x0),(18,qDX g3.1 x4 g3.2),(19,qDW (x4.length:Int)),(20,qDW x5)]) (fun ((x7,g5):σ×J.γ)=>[⟨g1,22,[qDX a3 x2 c4.1]⟩]++J.IB x7 g5) (fun ((x7,g5):σ×J.γ)=>[]++J.IR x7 g5) (fun ((x7,g5):σ×J.γ)=>[qDZ g3.1 x4 g3.2,SlN eN56 iN56 1 (qDX a3 x2 c4.1) x2 c4.2,J.F]) (fun ((x7,_):σ×J.γ)=>jn F yy (q9 F yy (qL F yy x2 k0) x2 x0 x4 k1) x5 x7) ?_ ?_
 refine au [122,26,7] ?_
 intro x8 e1 b1 o1
 refine au [25,7,6,76,124] ?_
 refine qow (j:=1) (qD .i64) rfl UnF.u inferInstance rfl rfl rfl rfl rfl ?_
 intro x9 e2 a0 c0
 refine au [110] ?_
 refine vE (fun (((x10,x11),g6):(Int×σ)×J.γ)=>[(0,.func (.yield L) #[] #[]),(1,qDY g1),(3,qDW x0),(4,qDX g3.1 x4 g3.2),(6,qDW x8),(11,qDX a3 x2 c4.1),(12,qDW (x2.length:Int)),(13,qDW x0),(18,qDX g3.1 x4 g3.2),(19,qDW (x4.length:Int)),(20,qDW x5),(28,qDX a0 x9 c0),(29,qDW (x9.length:Int)),(30,qDW x10)]) (fun (((x10,x11),g6):(Int×σ)×J.γ)=>[⟨g1,22,[qDX a3 x2 c4.1]⟩]++J.IB x11 g6) (fun (((x10,x11),g6):(Int×σ)×J.γ)=>[]++J.IR x11 g6) (fun (((x10,x11),g6):(Int×σ)×J.γ)=>[qDZ g3.1 x4 g3.2,SlN eN56 iN56 1 (qDX a3 x2 c4.1) x2 c4.2,qDZ a0 x9 c0,J.F]) (fun k (s:(Int×σ)×J.γ)=>ye F yy (q9 F yy (qL F yy x2 k0) x2 x0 x4 k1) x2 x0 x5 x8 x9 k s.1) ((0,x6),g4) F ?_ (hB:=(.cons 0 rfl (qe 0 rfl))) (hR:=(qe 0 rfl)) (hF:=(qi 2 rfl (qi 3 rfl (qi 0 rfl (qi 4 rfl zG)))))
 intro k2
 rintro ⟨⟨x10,x11⟩,g6⟩
 try dsimp only
 refine qaM (m':=jl F yy (q9 F yy (qL F yy x2 k0) x2 x0 x4 k1) x2 x0 x5 x8 x9 (ye F yy (q9 F yy (qL F yy x2 k0) x2 x0 x4 k1) x2 x0 x5 x8 x9 k2) x10 x11) rfl ?_
 refine aw [1,5,24,6,0,2,1,13] ?_ ?_
 refine au [69] ?_
 refine qdp (fun ((x12,g7):σ×J.γ)=>[(0,.func (.yield L) #[] #[]),(1,qDY g1),(3,qDW x0),(4,qDX g3.1 x4 g3.2),(6,qDW x8),(11,qDX a3 x2 c4.1),(12,qDW (x2.length:Int)),(13,qDW x0),(18,qDX g3.1 x4 g3.2),(19,qDW (x4.length:Int)),(20,qDW x5),(28,qDX a0 x9 c0),(29,qDW (x9.length:Int)),(30,qDW x10)]) (fun ((x12,g7):σ×J.γ)=>[⟨g1,22,[qDX a3 x2 c4.1]⟩]++J.IB x12 g7) (fun ((x12,g7):σ×J.γ)=>[]++J.IR x12 g7) (fun ((x12,g7):σ×J.γ)=>[qDZ g3.1 x4 g3.2,SlN eN56 iN56 1 (qDX a3 x2 c4.1) x2 c4.2,qDZ a0 x9 c0,J.F]) (fun ((x12,_):σ×J.γ)=>jo F yy (ye F yy (q9 F yy (qL F yy x2 k0) x2 x0 x4 k1) x2 x0 x5 x8 x9 k2) x10 x12) ?_ ?_
 refine au [128,37,15] ?_
 intro x13 e3 b2 o2
 refine au [25,7,97,24,0,4,38,0] ?_
 intro x14 e4 g8 b3 o3
 refine au [25,7,4,32,1] ?_
 intro x15 e5 _
 refine au [4,64,6,76,4] ?_
 refine qai 4 44 48 [0,1,3,4,6,11,12,13,18,19,20,28,29,30,8] (decide (x0<x8)) ?_ ?_ ?_
 exact az [4,4,24,6,71]
 exact az [79,9,70]
 refine av [4,26,8] ?_ ?_
 intro h0
 refine kH (k:=49) rfl h0 ?_
 refine au [4,4,4,4] ?_
 refine qrw (cells:=([x0,x8,x13]:qDU).flatMap (eI .i64)) rfl underlying188 tf188 tf3 rfl (by kernel_rfl) rfl (qe4 hY x11 ([x0,x8,x13]:qDU) g6 (B1:=[⟨g1,22,[qDX a3 x2 c4.1]⟩]) (R1:=[]) (j:=6) rfl rfl rfl rfl rfl rfl rfl (fun x16 _ g9=>?_) (fun x17 _ g9=>?_))
 refine au [25,12,24,12,50] ?_
 refine yh (b:=false) rfl (fun h=>by cases h) (fun _=>?_)
 refine au [16,24,7] ?_
 exact yj (x16,g9) (hB:=(.cons 0 rfl (qe 0 rfl))) (hR:=(qe 0 rfl)) (hF:=(qi 3 rfl (qi 4 rfl (qi 5 rfl (qi 6 rfl zG)))))
 refine au [25,12,24,12,50] ?_
 refine yh (b:=true) rfl (fun _=>?_) (fun h=>by cases h)
 refine au [11,125,24,9,125,24,9,125,24,9] ?_
 exact jc (B0:=[⟨g1,22,[qDX a3 x2 c4.1]⟩]) (x:=.inr x17) g9 (.inl rfl) (res0 rfl) (.cons 0 rfl (qe 0 rfl)) (qe 0 rfl)
 intro h0
 refine kG (k:=49) rfl h0 ?_
 refine au [88,79,9,24,13,50] ?_
 refine yh (b:=false) rfl (fun h=>by cases h) (fun _=>?_)
 refine au [16,24,7] ?_
 exact yj (x11,g6) (hB:=(.cons 0 rfl (qe 0 rfl))) (hR:=(qe 0 rfl)) (hF:=(qi 3 rfl (qi 4 rfl (qi 5 rfl (qi 6 rfl zG)))))
 rintro ⟨x12,g7⟩
 refine au [39,145] ?_
 exact vr ((iadd .i64 x10 1,x12),g7) (hB:=(.cons 0 rfl (qe 0 rfl))) (hR:=(qe 0 rfl)) (hF:=(qi 0 rfl (qi 1 rfl (qi 2 rfl (qi 3 rfl zG)))))
 refine au [91,24,7] ?_
 exact yj (x11,g6) (hB:=(.cons 0 rfl (qe 0 rfl))) (hR:=(qe 0 rfl)) (hF:=(qi 0 rfl (qi 1 rfl (qi 3 rfl zG))))
 rintro ⟨x7,g5⟩
 refine au [39,145] ?_
 exact vr ((iadd .i64 x5 1,x7),g5) (hB:=(.cons 0 rfl (qe 0 rfl))) (hR:=(qe 0 rfl)) (hF:=(qi 0 rfl (qi 1 rfl (qi 2 rfl zG))))
 refine au [91,24,7] ?_
 exact yj (x6,g4) (hB:=(.cons 0 rfl (qe 0 rfl))) (hR:=(qe 0 rfl)) (hF:=(qi 1 rfl (qi 2 rfl zG)))
 rintro ⟨x3,g2⟩
 refine au [39,145] ?_
 exact vr ((iadd .i64 x0 1,x3),g2) (hB:=(.cons 0 rfl (qe 0 rfl))) (hR:=(qe 0 rfl)) (hF:=(qi 0 rfl (qi 1 rfl zG)))
 refine au [91] ?_
 exact jc (B0:=[⟨g1,22,[qDX a3 x2 c4.1]⟩]) (x:=.inl x1) g0 (.inr rfl) (res0 rfl) (.cons 0 rfl (qe 0 rfl)) (qe 0 rfl)
theorem ql4 {r:(qDU×Int×Int)}(hm:qdR F p1=some r) :
    PureM qD3 100 [.agg #[qDX l1 p1 t1]] [] [] [SlN eN56 iN56 1 (qDX l1 p1 t1) p1 n1] (qDV×Nat) (fun g=>.tuple #[qDX g.1 r.1 g.2,qDW r.2.1,qDW r.2.2]) (fun _=>[]) (fun g=>[qD0 g.1 r.1 g.2]):=by
 refine qdm func100 rfl ntmps100 rfl hm (fun w=>?_)
 refine au [104] ?_
 intro g4
 refine au [19] ?_
 intro g5
 refine au [19] ?_
 intro g6
 refine au [129,48,26,11,28,7] ?_
 intro x9 e9 _
 refine aw [6,0,2,1,5,4,25,8,0,2,13] ?_ ?_
 refine au [54,25,10,17,105] ?_
 exact jd [] (none,0) (.inl rfl) rfl .nil (resL (rs:=[.cell 2 56,.cell 3 3,.tmp 4]) rfl (.cell (i:=1) rfl tf56 rfl rfl (fun _=>rfl) rfl (.cell (i:=0) rfl tf3 rfl rfl (fun _=>rfl) rfl (.tmp rfl ResOk.nil))) rfl) (fun h=>by subst h;rfl) (fun h=>by subst h;exact .nil) (fun h=>by subst h;exact (.cons 0 rfl .nil))
 refine au [131,133,24,10,26,6] ?_
 intro x10 e10 a11 c12
 refine au [25,10,50,1,48,26,11,33,7] ?_
 rintro x0 e0 ⟨a0,c0⟩
 refine qt ql5 ?_
 intro x2 e1 g0
 refine au [92] ?_
 refine qbW (encs:=(fun (p:qDU)=>[.agg (p.flatMap (eI .i64)).toArray])) (y:=(fun ((x3,x4):(Int×qDU)) (x5:qDU)=>yd F x3 x4 x5)) (lb:=[qDY g0]) (fun ((x3,x4):(Int×qDU)) (_:Unit)=>[⟨g6,3,[qDW x3]⟩,⟨g5,56,[qDX a11 x4 c12]⟩,⟨g4,24,[qDX l1 p1 t1]⟩]) (fun ((x3,x4):(Int×qDU)) (_:Unit)=>[qD0 a11 x4 c12]) (fun (_:Empty) (_:Unit)=>[]) (fun (_:Empty) (_:Unit)=>[]) (fun _=>.skip) (0,x10) () rfl EnC.e (fun _=>rfl) rfl (.cons 0 rfl .nil) (.cons 0 rfl (.cons 0 rfl (.cons 0 rfl .nil))) (.cons 1 rfl .nil) (.consG 0 rfl (kj qd7) .nil) (fun z hz _ _ _ hY=>qkt F hY (0,x10) () g0 x0 a0 c0 z hz) ?_ ?_ ?_
 rintro rc1 L1 D1 ⟨x3,x4⟩ _ x5 z w M _
 try dsimp only
 refine qdq [(0,.agg #[qDX l1 p1 t1]),(1,qDY g4),(2,qDY g5),(3,qDY g6),(4,qDW 0),(5,qDW x9),(9,.agg #[qDX l1 p1 t1]),(10,qDW x9),(11,qDW x9),(12,.bool ((x9:Int) != 0)),(14,qDY g4),(15,qDX l1 p1 t1),(16,qDW (p1.length:Int)),(17,qDX a11 x10 c12),(18,.agg #[qDX l1 p1 t1]),(19,qDX a0 x0 c0.1),(20,.func (.func 179) #[] #[qDY g0]),(21,.agg (x5.flatMap (eI .i64)).toArray)] (qm rfl (qm rfl (qm rfl (qm rfl (qm rfl (qm rfl (qm rfl (qm rfl (qm rfl (qm rfl (qm rfl (qm rfl (qm rfl (qm rfl (qm rfl (qm rfl (qm rfl (qm rfl qdI)))))))))))))))))) ?_
 refine au [5,19] ?_
 intro g1
 refine qW (i:=0) (cs':=(qBd 3 (0:Int)).flatMap (eI .i64)) rfl rfl (qov (i:=0) (xs:=(qBd 3 (0:Int))) (k:=3) (qD .i64) rfl qBT rfl ?_)
 refine au [27,0] ?_
 intro h0
 replace h0:=of_decide_eq_true h0
 refine qta (j:=0) rfl (qBT) (kL (i:=0) rfl rfl rfl tf188 rfl (qzB h0) (qzy (qBT) h0) qzz (qzA (qgQ (qBT)) h0) (qov (i:=0) (xs:=x5) (k:=3) (qD .i64) rfl h0 rfl ?_))
 refine au [0,30,11,128,24,0,24,2,132,48,27,0] ?_
 intro h1
 replace h1:=of_decide_eq_true h1
 refine qta (j:=0) rfl h1 (zW (i:=0) rfl rfl tf188 rfl (qzx (qgQ h1)) (by simp) (qzw (qgQ h1)) rfl (qov (i:=0) (xs:=x5) (k:=3) (qD .i64) rfl h1 rfl ?_))
 refine au [4,92] ?_
 refine qp [1,2,3,14,24] [0,1,1,1] [] [0] (fun (((x6,x7),_):(Int×qDU)×Unit)=>([(25,qDW x6)],[⟨g5,56,[qDX a11 x7 c12]⟩],[qD0 a11 x7 c12],[])) ((0:Int),x4) () ?_
 intro k0
 rintro ⟨⟨x6,x7⟩,_⟩
 refine aw [39,1,5,24,6,0,2,1,13] ?_ ?_
 refine au [136,27,0] ?_
 intro h2
 replace h2:=of_decide_eq_true h2
 refine qrz rfl underlying188 tf3 rfl rfl h2 rfl (fun x8 e2=>?_)
 refine au [51,5,34,6,4,26,9] ?_
 intro x11 e3 g2 h3
 refine ko (j:=0) (y:=x11) (qD .i64) rfl rfl tf3 rfl h3 (qu e3).2.2 (fun _=>rfl) rfl rfl ?_
 refine au [24,2,26,9] ?_
 intro x12 e4 g3 h4
 refine kx (j:=0) (y':=iadd .i64 x11 1) (qD .i64) rfl rfl rfl tf3 rfl h4 (qu e4).2.1 rfl (fun x13 e5 h5=>?_)
 have h6:x13.length=x7.length:=by rw[← e5,qBs]
 refine qr (d:=28) (v:=qDX a11 x13 c12) rfl h5 (qW (i:=4) (cs':=[qDX a11 x13 c12]) rfl (by simp only[qDX,h5] <;> rfl) ?_)
 refine au [0,146] ?_
 exact qk ((iadd .i64 x6 1,x13),())
 refine au [91,24,7] ?_
 exact vn (rc:=rc1) rfl (.cons 2 rfl .nil) rfl () (.cons 1 rfl (.cons 3 rfl (.cons 1 rfl (.cons 0 rfl (.cons 0 rfl .nil))))) (.cons 0 rfl .nil)
 rintro ⟨x3,x4⟩ _ _ D1
 refine au [39,82,1,38,6,32,2,0,29,1,1,7,2,30,6,0,29,10,7,3,27,14,0,29,10,3,4,53,2,11] ?_
 exact jd [D1] (a11,c12) (.inl rfl) rfl (.cons 0 rfl .nil) (resL (rs:=[.cell 2 56,.cell 3 3,.tmp 4]) rfl (.cell (i:=2) rfl tf56 rfl rfl (fun _=>rfl) rfl (.cell (i:=1) rfl tf3 rfl rfl (fun _=>rfl) rfl (.tmp rfl ResOk.nil))) rfl) (fun h=>by subst h;rfl) (fun h=>by subst h;exact .nil) (fun h=>by subst h;exact (.cons 0 rfl .nil))
 intro t;exact t.elim
theorem qh4 (F g1:Nat)(x2:List (qDU))(a3:qDV)(c4:(Nat×List (qDV×Nat)))(x5 x6 x7:Int)(x8:qDU)(a9:qDV)(c10:Nat)(x11:qDU)(r:(Int×qDU))(hm:jR F x2 x5 x6 x7 x8 x11=some r) :
    PureM qD3 70 [qDY g1] [⟨g1,85,[qDX a3 x2 c4.1,qDW x5,qDW x6,qDW x7,qDX a9 x8 c10,.string (bstr x11)]⟩] [] [SlN eN56 iN56 1 (qDX a3 x2 c4.1) x2 c4.2,qDZ a9 x8 c10,GF] Unit (fun _=>qDW r.1) (fun _=>[⟨g1,85,[qDX a3 x2 c4.1,qDW x5,qDW x6,qDW x7,qDX a9 x8 c10,.string (bstr r.2)]⟩]) (fun _=>[]):=by
 refine pureMA func70 ntmps70 hm fun _=>?_
 refine au [80,76,85,134] ?_
 refine qt ql4 ?_
 rintro x12 e12 ⟨a13,c14⟩
 refine au [4,64,24,1,6,6,76,4] ?_
 refine vd EnC.e rfl rfl rfl (fun x15 e15=>qfD x12.2.1 x15 e15) (.consF 2 rfl .nil) (fun x15 e15 _=>?_)
 exact az [85,132,54,117]
end Go.Proofs.YthibchijlpflmaaGreatDoor
