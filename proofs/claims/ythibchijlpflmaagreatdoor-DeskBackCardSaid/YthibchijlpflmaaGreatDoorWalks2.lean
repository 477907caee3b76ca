/- Each Go function of this seat computes what its model says, part 2. -/
import Derived.Test.YthibchijlpflmaaGreatDoorWalks
open List renaming replicate→qqF, length_set→qqR, not_mem_nil→qq0
namespace Go.Proofs.YthibchijlpflmaaGreatDoor
open Go SX
set_option linter.unusedSimpArgs false
set_option maxHeartbeats 4000000 in
theorem qfc:∀ (F:Nat) (g1:Nat) (x2:List (qsO)) (a3:qsP) (c4:(Nat×List (qsP×Nat))) (x5:qsO) (a6:qsP) (c7:Nat) (x8:qsO) (a9:qsP) (c10:Nat) (x11:qsO) (a12:qsP) (c13:Nat) (x14:qsO) (a15:qsP) (c16:Nat) (x17:Int) (x18:Int) (r:(qsO×qsO×qsO×qsO×Int)),zF F x2 x5 x8 x11 x14 x17 x18=some r→PureM Tryz.prog 132 [qsS g1,qsQ x18] [⟨g1,183,[qsR a3 x2 c4.1,qsR a6 x5 c7,qsR a9 x8 c10,qsR a12 x11 c13,qsR a15 x14 c16,qsQ x17]⟩] [qsU a6 x5 c7,qsU a9 x8 c10,qsU a12 x11 c13,qsU a15 x14 c16] [SlN eN56 iN56 1 (qsR a3 x2 c4.1) x2 c4.2] ((qsP×Nat)×(qsP×Nat)×(qsP×Nat)×(qsP×Nat)) (fun _=>.tuple #[]) (fun g=>[⟨g1,183,[qsR a3 x2 c4.1,qsR g.1.1 r.1 g.1.2,qsR g.2.1.1 r.2.1 g.2.1.2,qsR g.2.2.1.1 r.2.2.1 g.2.2.1.2,qsR g.2.2.2.1 r.2.2.2.1 g.2.2.2.2,qsQ r.2.2.2.2]⟩]) (fun g=>[qsU g.1.1 r.1 g.1.2,qsU g.2.1.1 r.2.1 g.2.1.2,qsU g.2.2.1.1 r.2.2.1 g.2.2.1.2,qsU g.2.2.2.1 r.2.2.2.1 g.2.2.2.2]):=by
  intro F
  induction F with
  | zero=>intro g1 x2 a3 c4 x5 a6 c7 x8 a9 c10 x11 a12 c13 x14 a15 c16 x17 x18 r hm;exact absurd hm (by simp[zF])
  | succ F ih =>
    intro g1 x2 a3 c4 x5 a6 c7 x8 a9 c10 x11 a12 c13 x14 a15 c16 x17 x18 r hm
    refine qE Tryz.func132 rfl Tryz.ntmps132 rfl hm (fun w=>?_)
    refine qkR (l':=[(0,qsS g1),(1,qsQ x18)]) rfl ?_
    refine zZ ?_
    refine q9 ?_
    refine zg rfl rfl rfl ?_
    refine zR rfl rfl rfl ?_
    refine zd rfl rfl ff183_5 rfl ?_
    refine zP (i:=0) rfl rfl tf3 rfl rfl (fun _=>rfl) rfl rfl ?_
    refine qis rfl rfl rfl rfl ?_
    refine zR rfl rfl rfl ?_
    refine zd rfl rfl ff183_5 rfl ?_
    refine kC (i:=0) rfl rfl rfl tf3 rfl rfl rfl rfl rfl ?_
    refine zB ?_
    refine zy ?_
    refine zZ ?_
    refine jM (j:=0) rfl (fun x33 e33 g34 h35=>?_)
    replace h35:a6=some ⟨g34,0,none⟩:=h35
    have h36:=zE (k:=x5.length) (c:=c7) h35
    refine jM (j:=1) rfl (fun x37 e37 g38 h39=>?_)
    replace h39:a9=some ⟨g38,0,none⟩:=h39
    have h40:=zE (k:=x8.length) (c:=c10) h39
    refine qt mixed [] [⟨g1,183,[qsR a3 x2 c4.1,qsR a6 x5 c7,qsR a9 x8 c10,qsR a12 x11 c13,qsR a15 x14 c16,qsQ (iadd .i64 x17 1)]⟩] [SlN eN56 iN56 1 (qsR a3 x2 c4.1) x2 c4.2] (.cons 0 rfl .nil) (qf 0 rfl qh) 22 rfl ?_
    refine qe 0 (qsS g1) rfl rfl rfl (zt rfl) ?_
    refine qe 1 (qsS g1) rfl rfl rfl (zt rfl) ?_
    refine qe 2 (.pointer (some ⟨g1,1,none⟩)) rfl rfl rfl (zj rfl ff183_1) ?_
    refine qN 3 (qsR a6 x5 c7) rfl rfl rfl (qM (i:=0) rfl tf56 rfl rfl (fun _=>rfl) rfl) ?_
    refine qe 4 (qsQ x18) rfl rfl rfl (zt rfl) ?_
    refine qe 5 (qsS g1) rfl rfl rfl (zt rfl) ?_
    refine qe 6 (qsS g1) rfl rfl rfl (zt rfl) ?_
    refine qe 7 (.pointer (some ⟨g1,2,none⟩)) rfl rfl rfl (zj rfl ff183_2) ?_
    refine qN 8 (qsR a9 x8 c10) rfl rfl rfl (qM (i:=0) rfl tf56 rfl rfl (fun _=>rfl) rfl) ?_
    refine qe 9 (qsQ x18) rfl rfl rfl (zt rfl) ?_
    refine qe 10 (qsS g1) rfl rfl rfl (zt rfl) ?_
    refine qe 11 (qsS g1) rfl rfl rfl (zt rfl) ?_
    refine qe 12 (.pointer (some ⟨g1,5,none⟩)) rfl rfl rfl (zj rfl ff183_5) ?_
    refine qN 13 (qsQ (iadd .i64 x17 1)) rfl rfl rfl (qM (i:=0) rfl tf3 rfl rfl (fun _=>rfl) rfl) ?_
    refine qe 14 (qsS g1) rfl rfl rfl (zt rfl) ?_
    refine qe 15 (qsS g1) rfl rfl rfl (zt rfl) ?_
    refine qe 16 (.pointer (some ⟨g1,5,none⟩)) rfl rfl rfl (zj rfl ff183_5) ?_
    refine qN 17 (qsQ (iadd .i64 x17 1)) rfl rfl rfl (qM (i:=0) rfl tf3 rfl rfl (fun _=>rfl) rfl) ?_
    refine qg (d:=16) (v:=qsR (some ⟨g34,0,none⟩) x5 c7) rfl (by simp only[qsR,h35] <;> rfl) ?_
    refine qe 18 (.pointer (some ⟨g34,x18.toNat*1,none⟩)) rfl rfl rfl (zU Tryz.underlying56 tf3 rfl rfl (qo e33).1 (zf e33)) ?_
    refine qg (d:=16) (v:=qsR a6 x5 c7) rfl (by simp only[qsR,h35] <;> rfl) ?_
    refine qew 19 rfl (by kernel_rfl) rfl ?_
    refine zX (j:=0) (y':=iadd .i64 x17 1) (qu .i64) rfl rfl rfl tf3 rfl (zE h35) (qo e33).2.1 rfl (fun x41 e41 h42=>?_)
    have h43:x41.length=x5.length:=by rw[← e41,qqR]
    refine qa (d:=16) (v:=qsR a6 x41 c7) rfl h42 ?_
    refine ze (i:=0) (cs':=[qsR a3 x2 c4.1,qsR a6 x41 c7,qsR a9 x8 c10,qsR a12 x11 c13,qsR a15 x14 c16,qsQ (iadd .i64 x17 1)]) rfl (by simp only[qsR,h42] <;> rfl) ?_
    refine zB ?_
    refine qi (.cons 0 (by simp only[qsR,h43] <;> rfl) .nil) (qf 0 rfl qh) ?_
    refine qg (d:=21) (v:=qsR (some ⟨g38,0,none⟩) x8 c10) rfl (by simp only[qsR,h39] <;> rfl) ?_
    refine qe 20 (.pointer (some ⟨g38,x18.toNat*1,none⟩)) rfl rfl rfl (zU Tryz.underlying56 tf3 rfl rfl (qo e37).1 (zf e37)) ?_
    refine qg (d:=21) (v:=qsR a9 x8 c10) rfl (by simp only[qsR,h39] <;> rfl) ?_
    refine qew 21 rfl (by kernel_rfl) rfl ?_
    refine zX (j:=1) (y':=iadd .i64 x17 1) (qu .i64) rfl rfl rfl tf3 rfl (zE h39) (qo e37).2.1 rfl (fun x44 e44 h45=>?_)
    have h46:x44.length=x8.length:=by rw[← e44,qqR]
    refine qa (d:=21) (v:=qsR a9 x44 c10) rfl h45 ?_
    refine ze (i:=0) (cs':=[qsR a3 x2 c4.1,qsR a6 x41 c7,qsR a9 x44 c10,qsR a12 x11 c13,qsR a15 x14 c16,qsQ (iadd .i64 x17 1)]) rfl (by simp only[qsR,h45] <;> rfl) ?_
    refine zB ?_
    refine qi (.cons 0 (by simp only[qsR,h43,h46] <;> rfl) .nil) (qf 0 rfl qh) ?_
    refine qev (by kernel_rfl) ?_
    refine qm ?_ (by intro c h;cases h)
    refine zy ?_
    refine zZ ?_
    refine q9 ?_
    refine zg rfl rfl rfl ?_
    refine zg rfl rfl rfl ?_
    refine zR rfl rfl rfl ?_
    refine zd rfl rfl ff183_3 rfl ?_
    refine zP (i:=0) rfl rfl tf56 rfl rfl (fun _=>rfl) rfl rfl ?_
    refine zg rfl rfl rfl ?_
    refine qV (vs:=[qsQ x18]) (ys:=([x18]:qsO)) (qu .i64) (by decide) rfl Tryz.underlying56 tf3 rfl rfl rfl rfl rfl (by decide) (fun a47 c48=>?_)
    refine zu 3 (qu .i64) rfl Tryz.underlying56 tf3 rfl rfl rfl rfl rfl (.inl ⟨0,_,rfl⟩) rfl rfl (fun x49 e49 a50 c51=>?_)
    refine zR rfl rfl rfl ?_
    refine zd rfl rfl ff183_3 rfl ?_
    refine kC (i:=0) rfl rfl rfl tf56 rfl rfl rfl rfl rfl ?_
    refine zB ?_
    refine zy ?_
    refine jN (fun (((x0,x1,x3,x4,x6),(a0,c0,a1,c1,a2,c2,a4,c3)):((qsO×qsO×qsO×qsO×Int)×(qsP×Nat×qsP×Nat×qsP×Nat×qsP×Nat)))=>[(0,qsS g1),(1,qsQ x18)]) (fun (((x0,x1,x3,x4,x6),(a0,c0,a1,c1,a2,c2,a4,c3)):((qsO×qsO×qsO×qsO×Int)×(qsP×Nat×qsP×Nat×qsP×Nat×qsP×Nat)))=>[⟨g1,183,[qsR a3 x2 c4.1,qsR a0 x0 c0,qsR a1 x1 c1,qsR a2 x3 c2,qsR a4 x4 c3,qsQ x6]⟩]) (fun (((x0,x1,x3,x4,x6),(a0,c0,a1,c1,a2,c2,a4,c3)):((qsO×qsO×qsO×qsO×Int)×(qsP×Nat×qsP×Nat×qsP×Nat×qsP×Nat)))=>[qsU a0 x0 c0,qsU a1 x1 c1,qsU a2 x3 c2,qsU a4 x4 c3]) (fun (((x0,x1,x3,x4,x6),(a0,c0,a1,c1,a2,c2,a4,c3)):((qsO×qsO×qsO×qsO×Int)×(qsP×Nat×qsP×Nat×qsP×Nat×qsP×Nat)))=>[SlN eN56 iN56 1 (qsR a3 x2 c4.1) x2 c4.2]) (fun (((x0,x1,x3,x4,x6),_):((qsO×qsO×qsO×qsO×Int)×(qsP×Nat×qsP×Nat×qsP×Nat×qsP×Nat)))=>j6 F x2 x18 x0 x1 x3 x4 x6) ?_ ?_
    · refine zZ ?_
      refine q9 ?_
      refine zg rfl rfl rfl ?_
      refine zR rfl rfl rfl ?_
      refine zd rfl rfl ff183_0 rfl ?_
      refine zP (i:=0) rfl rfl tf22 rfl rfl (fun _=>rfl) rfl rfl ?_
      refine zg rfl rfl rfl ?_
      refine qgU (j:=0) qy (by decide) rfl Tryz.underlying22 tf56 rfl rfl rfl rfl (fun x7 e0 g0 b0 o0=>?_)
      refine qfX (j:=0) rfl rfl tf56 rfl rfl (fun _=>rfl) rfl rfl ?_
      refine qkV rfl Tryz.underlying56 rfl rfl ?_
      refine zg rfl rfl rfl ?_
      refine zB ?_
      refine zy ?_
      refine qex ?_
      refine yv (fun (((x9,x10,x12,x13,x15,x16),(a5,c5,a7,c6,a8,c8,a10,c9)):((Int×qsO×qsO×qsO×qsO×Int)×(qsP×Nat×qsP×Nat×qsP×Nat×qsP×Nat)))=>[(0,qsS g1),(1,qsQ x18),(49,qsR g0.1 x7 g0.2),(50,qsQ (x7.length:Int)),(51,qsQ x9)]) (fun (((x9,x10,x12,x13,x15,x16),(a5,c5,a7,c6,a8,c8,a10,c9)):((Int×qsO×qsO×qsO×qsO×Int)×(qsP×Nat×qsP×Nat×qsP×Nat×qsP×Nat)))=>[⟨g1,183,[qsR a3 x2 c4.1,qsR a5 x10 c5,qsR a7 x12 c6,qsR a8 x13 c8,qsR a10 x15 c9,qsQ x16]⟩]) (fun (((x9,x10,x12,x13,x15,x16),(a5,c5,a7,c6,a8,c8,a10,c9)):((Int×qsO×qsO×qsO×qsO×Int)×(qsP×Nat×qsP×Nat×qsP×Nat×qsP×Nat)))=>[qsU a5 x10 c5,qsU a7 x12 c6,qsU a8 x13 c8,qsU a10 x15 c9]) (fun (((x9,x10,x12,x13,x15,x16),(a5,c5,a7,c6,a8,c8,a10,c9)):((Int×qsO×qsO×qsO×qsO×Int)×(qsP×Nat×qsP×Nat×qsP×Nat×qsP×Nat)))=>[qsT g0.1 x7 g0.2,SlN eN56 iN56 1 (qsR a3 x2 c4.1) x2 c4.2]) (fun k (s:((Int×qsO×qsO×qsO×qsO×Int)×(qsP×Nat×qsP×Nat×qsP×Nat×qsP×Nat)))=>ku F (zF F) x2 x18 x7 k s.1) ((0,x41,x44,x49,x14,iadd .i64 x17 1),(a6,c7,a9,c10,a50,c51,a15,c16)) F ?_ (hB:=(.cons 0 rfl .nil)) (hR:=(.cons 3 rfl (.cons 2 rfl (.cons 0 rfl (.cons 1 rfl .nil))))) (hF:=(qp 1 rfl (qp 2 rfl zx)))
      intro k0
      rintro ⟨⟨x9,x10,x12,x13,x15,x16⟩,⟨a5,c5,a7,c6,a8,c8,a10,c9⟩⟩
      try dsimp only
      refine qH (m':=j5 F (zF F) x2 x18 x7 (ku F (zF F) x2 x18 x7 k0) x9 x10 x12 x13 x15 x16) rfl ?_
      refine zZ ?_
      refine q9 ?_
      refine qkW rfl rfl rfl rfl ?_
      refine zB ?_
      refine zy ?_
      refine zZ ?_
      refine qhT rfl (fun h0=>?_) (fun h0=>?_)
      · refine qfR ?_
        refine zy ?_
        refine jN (fun (((x19,x20,x21,x22,x23),(a11,c11,a13,c12,a14,c14,a16,c15)):((qsO×qsO×qsO×qsO×Int)×(qsP×Nat×qsP×Nat×qsP×Nat×qsP×Nat)))=>[(0,qsS g1),(1,qsQ x18),(49,qsR g0.1 x7 g0.2),(50,qsQ (x7.length:Int)),(51,qsQ x9)]) (fun (((x19,x20,x21,x22,x23),(a11,c11,a13,c12,a14,c14,a16,c15)):((qsO×qsO×qsO×qsO×Int)×(qsP×Nat×qsP×Nat×qsP×Nat×qsP×Nat)))=>[⟨g1,183,[qsR a3 x2 c4.1,qsR a11 x19 c11,qsR a13 x20 c12,qsR a14 x21 c14,qsR a16 x22 c15,qsQ x23]⟩]) (fun (((x19,x20,x21,x22,x23),(a11,c11,a13,c12,a14,c14,a16,c15)):((qsO×qsO×qsO×qsO×Int)×(qsP×Nat×qsP×Nat×qsP×Nat×qsP×Nat)))=>[qsU a11 x19 c11,qsU a13 x20 c12,qsU a14 x21 c14,qsU a16 x22 c15]) (fun (((x19,x20,x21,x22,x23),(a11,c11,a13,c12,a14,c14,a16,c15)):((qsO×qsO×qsO×qsO×Int)×(qsP×Nat×qsP×Nat×qsP×Nat×qsP×Nat)))=>[qsT g0.1 x7 g0.2,SlN eN56 iN56 1 (qsR a3 x2 c4.1) x2 c4.2]) (fun (((x19,x20,x21,x22,x23),_):((qsO×qsO×qsO×qsO×Int)×(qsP×Nat×qsP×Nat×qsP×Nat×qsP×Nat)))=>yd F (ku F (zF F) x2 x18 x7 k0) x9 x19 x20 x21 x22 x23) ?_ ?_
        · refine qex ?_
          refine zZ ?_
          refine q9 ?_
          refine yM (j:=0) (qu .i64) (by decide) rfl Tryz.underlying56 tf3 rfl rfl rfl rfl (fun x24 e1 b1 o1=>?_)
          refine qfX (j:=0) rfl rfl tf3 rfl rfl (fun _=>rfl) rfl rfl ?_
          refine kb rfl rfl rfl ?_
          refine zB ?_
          refine zy ?_
          refine qex ?_
          refine zZ ?_
          refine q9 ?_
          refine zg rfl rfl rfl ?_
          refine zR rfl rfl rfl ?_
          refine zd rfl rfl ff183_1 rfl ?_
          refine zP (i:=0) rfl rfl tf56 rfl rfl (fun _=>rfl) rfl rfl ?_
          refine zg rfl rfl rfl ?_
          refine qaC (j:=0) rfl Tryz.underlying56 tf3 rfl rfl rfl rfl (fun x25 e2 g2 h1=>?_)
          refine z7 (j:=0) (y:=x25) (qu .i64) rfl rfl tf3 rfl h1 (qo e2).2.2 (fun _=>rfl) rfl rfl ?_
          refine qnj rfl rfl rfl rfl ?_
          refine kb rfl rfl rfl ?_
          refine zB ?_
          refine zy ?_
          refine qhT rfl (fun h2=>?_) (fun h2=>?_)
          · refine zZ ?_
            refine q9 ?_
            refine zg rfl rfl rfl ?_
            refine zg rfl rfl rfl ?_
            refine qaP ent132 rfl rfl rfl (fun x26 e3=>ih g1 x2 a3 c4 x10 a5 c5 x12 a7 c6 x13 a8 c8 x15 a10 c9 x16 x24 x26 e3) (.cons 0 rfl .nil) (.cons 0 rfl (.cons 0 rfl (.cons 0 rfl (.cons 0 rfl .nil)))) (.consF 2 rfl .nil) (fun x26 e3=>?_)
            rintro ⟨⟨a17,c17⟩,⟨a18,c18⟩,⟨a19,c19⟩,⟨a20,c20⟩⟩
            refine zB ?_
            refine zy ?_
            refine jM (j:=1) rfl (fun x27 e4 g3 h3=>?_)
            replace h3:a18=some ⟨g3,0,none⟩:=h3
            have h4:=zE (k:=x26.2.1.length) (c:=c18) h3
            refine jM (j:=1) rfl (fun x28 e5 g4 h5=>?_)
            replace h5:a18=some ⟨g4,0,none⟩:=h5
            have h6:=zE (k:=x26.2.1.length) (c:=c18) h5
            refine jM (j:=1) rfl (fun x29 e6 g5 h7=>?_)
            replace h7:a18=some ⟨g5,0,none⟩:=h7
            have h8:=zE (k:=x26.2.1.length) (c:=c18) h7
            refine qt mixed [21] [⟨g1,183,[qsR a3 x2 c4.1,qsR a17 x26.1 c17,qsR a18 x26.2.1 c18,qsR a19 x26.2.2.1 c19,qsR a20 x26.2.2.2.1 c20,qsQ x26.2.2.2.2]⟩] [qC b1 o1 ((eI .i64) x24),qsT g0.1 x7 g0.2,SlN eN56 iN56 1 (qsR a3 x2 c4.1) x2 c4.2,qC g3 (x18.toNat*1) ((eI .i64) x27),qC g4 (x24.toNat*1) ((eI .i64) x28),qC g5 (x18.toNat*1) ((eI .i64) x29)] (.cons 0 rfl .nil) (qf 0 rfl (qf 1 rfl (qf 2 rfl (qP 1 rfl (qx (qu .i64) e4 h3) (qP 1 rfl (qx (qu .i64) e5 h5) (qP 1 rfl (qx (qu .i64) e6 h7) qh)))))) 22 rfl ?_
            refine qe 0 (qsS g1) rfl rfl rfl (zt rfl) ?_
            refine qe 1 (qsS g1) rfl rfl rfl (zt rfl) ?_
            refine qe 2 (.pointer (some ⟨g1,2,none⟩)) rfl rfl rfl (zj rfl ff183_2) ?_
            refine qN 3 (qsR a18 x26.2.1 c18) rfl rfl rfl (qM (i:=0) rfl tf56 rfl rfl (fun _=>rfl) rfl) ?_
            refine qe 4 (qsQ x18) rfl rfl rfl (zt rfl) ?_
            refine qe 5 (qsS g1) rfl rfl rfl (zt rfl) ?_
            refine qe 6 (qsS g1) rfl rfl rfl (zt rfl) ?_
            refine qe 7 (.pointer (some ⟨g1,2,none⟩)) rfl rfl rfl (zj rfl ff183_2) ?_
            refine qN 8 (qsR a18 x26.2.1 c18) rfl rfl rfl (qM (i:=0) rfl tf56 rfl rfl (fun _=>rfl) rfl) ?_
            refine qe 9 (qsQ x18) rfl rfl rfl (zt rfl) ?_
            refine qg (d:=75) (v:=qsR (some ⟨g3,0,none⟩) x26.2.1 c18) rfl (by simp only[qsR,h3] <;> rfl) ?_
            refine qe 10 (.pointer (some ⟨g3,x18.toNat*1,none⟩)) rfl rfl rfl (zU Tryz.underlying56 tf3 rfl rfl (qo e4).1 (zf e4)) ?_
            refine qg (d:=75) (v:=qsR a18 x26.2.1 c18) rfl (by simp only[qsR,h3] <;> rfl) ?_
            refine qJ 11 (qsQ x27) [[21]] rfl rfl rfl (q7 (j:=3) rfl tf3 rfl rfl (fun _=>rfl) rfl) ?_
            refine qe 12 (qsS g1) rfl rfl rfl (zt rfl) ?_
            refine qe 13 (qsS g1) rfl rfl rfl (zt rfl) ?_
            refine qe 14 (.pointer (some ⟨g1,2,none⟩)) rfl rfl rfl (zj rfl ff183_2) ?_
            refine qN 15 (qsR a18 x26.2.1 c18) rfl rfl rfl (qM (i:=0) rfl tf56 rfl rfl (fun _=>rfl) rfl) ?_
            refine qe 16 (qsQ x24) rfl rfl rfl (zt rfl) ?_
            refine qg (d:=82) (v:=qsR (some ⟨g4,0,none⟩) x26.2.1 c18) rfl (by simp only[qsR,h5] <;> rfl) ?_
            refine qe 17 (.pointer (some ⟨g4,x24.toNat*1,none⟩)) rfl rfl rfl (zU Tryz.underlying56 tf3 rfl rfl (qo e5).1 (zf e5)) ?_
            refine qg (d:=82) (v:=qsR a18 x26.2.1 c18) rfl (by simp only[qsR,h5] <;> rfl) ?_
            refine qJ 18 (qsQ x28) [[21]] rfl rfl rfl (q7 (j:=4) rfl tf3 rfl rfl (fun _=>rfl) rfl) ?_
            refine qe 19 (qsQ (imin x27 x28)) rfl rfl rfl (qmZ rfl rfl) ?_
            refine qg (d:=70) (v:=qsR (some ⟨g5,0,none⟩) x26.2.1 c18) rfl (by simp only[qsR,h7] <;> rfl) ?_
            refine qe 20 (.pointer (some ⟨g5,x18.toNat*1,none⟩)) rfl rfl rfl (zU Tryz.underlying56 tf3 rfl rfl (qo e6).1 (zf e6)) ?_
            refine qg (d:=70) (v:=qsR a18 x26.2.1 c18) rfl (by simp only[qsR,h7] <;> rfl) ?_
            refine qew 21 rfl (by kernel_rfl) rfl ?_
            refine zX (j:=1) (y':=imin x27 x28) (qu .i64) rfl rfl rfl tf3 rfl (zE h7) (qo e6).2.1 rfl (fun x30 e7 h9=>?_)
            have h10:x30.length=x26.2.1.length:=by rw[← e7,qqR]
            refine qa (d:=70) (v:=qsR a18 x30 c18) rfl h9 ?_
            refine qa (d:=75) (v:=qsR a18 x30 c18) rfl h9 ?_
            refine qa (d:=82) (v:=qsR a18 x30 c18) rfl h9 ?_
            refine ze (i:=0) (cs':=[qsR a3 x2 c4.1,qsR a17 x26.1 c17,qsR a18 x30 c18,qsR a19 x26.2.2.1 c19,qsR a20 x26.2.2.2.1 c20,qsQ x26.2.2.2.2]) rfl (by simp only[qsR,h9] <;> rfl) ?_
            refine zB ?_
            refine kw 21 rfl (by kernel_rfl) (.cons 0 (by simp only[qsR,h10] <;> rfl) .nil) ?_
            refine qev (by kernel_rfl) ?_
            refine qm ?_ (by intro c h;cases h)
            refine qcr ?_
            refine qcr ?_
            exact kF ((x26.1,x30,x26.2.2.1,x26.2.2.2.1,x26.2.2.2.2),(a17,c17,a18,c18,a19,c19,a20,c20)) (hB:=(.cons 0 rfl .nil)) (hR:=(.cons 1 rfl (.cons 0 rfl (.cons 0 rfl (.cons 0 rfl .nil))))) (hF:=(qp 1 rfl (qp 2 rfl zx)))
          · refine zZ ?_
            refine q9 ?_
            refine zg rfl rfl rfl ?_
            refine zR rfl rfl rfl ?_
            refine zd rfl rfl ff183_4 rfl ?_
            refine zP (i:=0) rfl rfl tf56 rfl rfl (fun _=>rfl) rfl rfl ?_
            refine zg rfl rfl rfl ?_
            refine qaC (j:=3) rfl Tryz.underlying56 tf3 rfl rfl rfl rfl (fun x31 e8 g6 h11=>?_)
            refine z7 (j:=3) (y:=x31) (qu .i64) rfl rfl tf3 rfl h11 (qo e8).2.2 (fun _=>rfl) rfl rfl ?_
            refine qkW rfl rfl rfl rfl ?_
            refine kb rfl rfl rfl ?_
            refine zB ?_
            refine zy ?_
            refine qhT rfl (fun h12=>?_) (fun h12=>?_)
            · refine jM (j:=1) rfl (fun x32 e9 g7 h13=>?_)
              replace h13:a7=some ⟨g7,0,none⟩:=h13
              have h14:=zE (k:=x12.length) (c:=c6) h13
              refine jM (j:=0) rfl (fun x34 e10 g8 h15=>?_)
              replace h15:a5=some ⟨g8,0,none⟩:=h15
              have h16:=zE (k:=x10.length) (c:=c5) h15
              refine jM (j:=1) rfl (fun x35 e11 g9 h17=>?_)
              replace h17:a7=some ⟨g9,0,none⟩:=h17
              have h18:=zE (k:=x12.length) (c:=c6) h17
              refine qt mixed [21] [⟨g1,183,[qsR a3 x2 c4.1,qsR a5 x10 c5,qsR a7 x12 c6,qsR a8 x13 c8,qsR a10 x15 c9,qsQ x16]⟩] [qC b1 o1 ((eI .i64) x24),qsT g0.1 x7 g0.2,SlN eN56 iN56 1 (qsR a3 x2 c4.1) x2 c4.2,qC g7 (x18.toNat*1) ((eI .i64) x32),qC g8 (x24.toNat*1) ((eI .i64) x34),qC g9 (x18.toNat*1) ((eI .i64) x35)] (.cons 0 rfl .nil) (qf 0 rfl (qf 1 rfl (qf 2 rfl (qP 1 rfl (qx (qu .i64) e9 h13) (qP 0 rfl (qx (qu .i64) e10 h15) (qP 1 rfl (qx (qu .i64) e11 h17) qh)))))) 22 rfl ?_
              refine qe 0 (qsS g1) rfl rfl rfl (zt rfl) ?_
              refine qe 1 (qsS g1) rfl rfl rfl (zt rfl) ?_
              refine qe 2 (.pointer (some ⟨g1,2,none⟩)) rfl rfl rfl (zj rfl ff183_2) ?_
              refine qN 3 (qsR a7 x12 c6) rfl rfl rfl (qM (i:=0) rfl tf56 rfl rfl (fun _=>rfl) rfl) ?_
              refine qe 4 (qsQ x18) rfl rfl rfl (zt rfl) ?_
              refine qe 5 (qsS g1) rfl rfl rfl (zt rfl) ?_
              refine qe 6 (qsS g1) rfl rfl rfl (zt rfl) ?_
              refine qe 7 (.pointer (some ⟨g1,2,none⟩)) rfl rfl rfl (zj rfl ff183_2) ?_
              refine qN 8 (qsR a7 x12 c6) rfl rfl rfl (qM (i:=0) rfl tf56 rfl rfl (fun _=>rfl) rfl) ?_
              refine qe 9 (qsQ x18) rfl rfl rfl (zt rfl) ?_
              refine qg (d:=105) (v:=qsR (some ⟨g7,0,none⟩) x12 c6) rfl (by simp only[qsR,h13] <;> rfl) ?_
              refine qe 10 (.pointer (some ⟨g7,x18.toNat*1,none⟩)) rfl rfl rfl (zU Tryz.underlying56 tf3 rfl rfl (qo e9).1 (zf e9)) ?_
              refine qg (d:=105) (v:=qsR a7 x12 c6) rfl (by simp only[qsR,h13] <;> rfl) ?_
              refine qJ 11 (qsQ x32) [[21]] rfl rfl rfl (q7 (j:=3) rfl tf3 rfl rfl (fun _=>rfl) rfl) ?_
              refine qe 12 (qsS g1) rfl rfl rfl (zt rfl) ?_
              refine qe 13 (qsS g1) rfl rfl rfl (zt rfl) ?_
              refine qe 14 (.pointer (some ⟨g1,1,none⟩)) rfl rfl rfl (zj rfl ff183_1) ?_
              refine qN 15 (qsR a5 x10 c5) rfl rfl rfl (qM (i:=0) rfl tf56 rfl rfl (fun _=>rfl) rfl) ?_
              refine qe 16 (qsQ x24) rfl rfl rfl (zt rfl) ?_
              refine qg (d:=112) (v:=qsR (some ⟨g8,0,none⟩) x10 c5) rfl (by simp only[qsR,h15] <;> rfl) ?_
              refine qe 17 (.pointer (some ⟨g8,x24.toNat*1,none⟩)) rfl rfl rfl (zU Tryz.underlying56 tf3 rfl rfl (qo e10).1 (zf e10)) ?_
              refine qg (d:=112) (v:=qsR a5 x10 c5) rfl (by simp only[qsR,h15] <;> rfl) ?_
              refine qJ 18 (qsQ x34) [[21]] rfl rfl rfl (q7 (j:=4) rfl tf3 rfl rfl (fun _=>rfl) rfl) ?_
              refine qe 19 (qsQ (imin x32 x34)) rfl rfl rfl (qmZ rfl rfl) ?_
              refine qg (d:=100) (v:=qsR (some ⟨g9,0,none⟩) x12 c6) rfl (by simp only[qsR,h17] <;> rfl) ?_
              refine qe 20 (.pointer (some ⟨g9,x18.toNat*1,none⟩)) rfl rfl rfl (zU Tryz.underlying56 tf3 rfl rfl (qo e11).1 (zf e11)) ?_
              refine qg (d:=100) (v:=qsR a7 x12 c6) rfl (by simp only[qsR,h17] <;> rfl) ?_
              refine qew 21 rfl (by kernel_rfl) rfl ?_
              refine zX (j:=1) (y':=imin x32 x34) (qu .i64) rfl rfl rfl tf3 rfl (zE h17) (qo e11).2.1 rfl (fun x36 e12 h19=>?_)
              have h20:x36.length=x12.length:=by rw[← e12,qqR]
              refine qa (d:=100) (v:=qsR a7 x36 c6) rfl h19 ?_
              refine qa (d:=105) (v:=qsR a7 x36 c6) rfl h19 ?_
              refine ze (i:=0) (cs':=[qsR a3 x2 c4.1,qsR a5 x10 c5,qsR a7 x36 c6,qsR a8 x13 c8,qsR a10 x15 c9,qsQ x16]) rfl (by simp only[qsR,h19] <;> rfl) ?_
              refine zB ?_
              refine kw 21 rfl (by kernel_rfl) (.cons 0 (by simp only[qsR,h20] <;> rfl) .nil) ?_
              refine qev (by kernel_rfl) ?_
              refine qm ?_ (by intro c h;cases h)
              refine qcr ?_
              refine qcr ?_
              exact kF ((x10,x36,x13,x15,x16),(a5,c5,a7,c6,a8,c8,a10,c9)) (hB:=(.cons 0 rfl .nil)) (hR:=(.cons 1 rfl (.cons 0 rfl (.cons 0 rfl (.cons 0 rfl .nil))))) (hF:=(qp 1 rfl (qp 2 rfl zx)))
            · refine qfR ?_
              refine qcr ?_
              refine qcr ?_
              exact kF ((x10,x12,x13,x15,x16),(a5,c5,a7,c6,a8,c8,a10,c9)) (hB:=(.cons 0 rfl .nil)) (hR:=(.cons 0 rfl (.cons 0 rfl (.cons 0 rfl (.cons 0 rfl .nil))))) (hF:=(qp 1 rfl (qp 2 rfl zx)))
        · rintro ⟨⟨x19,x20,x21,x22,x23⟩,⟨a11,c11,a13,c12,a14,c14,a16,c15⟩⟩
          try dsimp only
          refine q9 ?_
          refine qis rfl rfl rfl rfl ?_
          refine zg rfl rfl rfl ?_
          refine zB ?_
          exact yz ((iadd .i64 x9 1,x19,x20,x21,x22,x23),(a11,c11,a13,c12,a14,c14,a16,c15)) (hB:=(.cons 0 rfl .nil)) (hR:=(.cons 0 rfl (.cons 0 rfl (.cons 0 rfl (.cons 0 rfl .nil))))) (hF:=(qp 0 rfl (qp 1 rfl zx)))
      · refine qlS ?_
        refine qhX ?_
        refine qhX ?_
        refine ql4 ?_
        exact kF ((x10,x12,x13,x15,x16),(a5,c5,a7,c6,a8,c8,a10,c9)) (hB:=(.cons 0 rfl .nil)) (hR:=(.cons 0 rfl (.cons 0 rfl (.cons 0 rfl (.cons 0 rfl .nil))))) (hF:=(qp 1 rfl zx))
    · rintro ⟨⟨x0,x1,x3,x4,x6⟩,⟨a0,c0,a1,c1,a2,c2,a4,c3⟩⟩
      try dsimp only
      refine zZ ?_
      refine jM (j:=1) rfl (fun x38 e13 g10 h21=>?_)
      replace h21:a1=some ⟨g10,0,none⟩:=h21
      have h22:=zE (k:=x1.length) (c:=c1) h21
      refine jM (j:=0) rfl (fun x39 e14 g11 h23=>?_)
      replace h23:a0=some ⟨g11,0,none⟩:=h23
      have h24:=zE (k:=x0.length) (c:=c0) h23
      refine qt mixed [] [⟨g1,183,[qsR a3 x2 c4.1,qsR a0 x0 c0,qsR a1 x1 c1,qsR a2 x3 c2,qsR a4 x4 c3,qsQ x6]⟩] [SlN eN56 iN56 1 (qsR a3 x2 c4.1) x2 c4.2,qC g10 (x18.toNat*1) ((eI .i64) x38),qC g11 (x18.toNat*1) ((eI .i64) x39)] (.cons 0 rfl .nil) (qf 0 rfl (qP 1 rfl (qx (qu .i64) e13 h21) (qP 0 rfl (qx (qu .i64) e14 h23) qh))) 15 rfl ?_
      refine qe 0 (qsS g1) rfl rfl rfl (zt rfl) ?_
      refine qe 1 (qsS g1) rfl rfl rfl (zt rfl) ?_
      refine qe 2 (.pointer (some ⟨g1,2,none⟩)) rfl rfl rfl (zj rfl ff183_2) ?_
      refine qN 3 (qsR a1 x1 c1) rfl rfl rfl (qM (i:=0) rfl tf56 rfl rfl (fun _=>rfl) rfl) ?_
      refine qe 4 (qsQ x18) rfl rfl rfl (zt rfl) ?_
      refine qg (d:=122) (v:=qsR (some ⟨g10,0,none⟩) x1 c1) rfl (by simp only[qsR,h21] <;> rfl) ?_
      refine qe 5 (.pointer (some ⟨g10,x18.toNat*1,none⟩)) rfl rfl rfl (zU Tryz.underlying56 tf3 rfl rfl (qo e13).1 (zf e13)) ?_
      refine qg (d:=122) (v:=qsR a1 x1 c1) rfl (by simp only[qsR,h21] <;> rfl) ?_
      refine qJ 6 (qsQ x38) [] rfl rfl rfl (q7 (j:=1) rfl tf3 rfl rfl (fun _=>rfl) rfl) ?_
      refine qe 7 (qsS g1) rfl rfl rfl (zt rfl) ?_
      refine qe 8 (qsS g1) rfl rfl rfl (zt rfl) ?_
      refine qe 9 (.pointer (some ⟨g1,1,none⟩)) rfl rfl rfl (zj rfl ff183_1) ?_
      refine qN 10 (qsR a0 x0 c0) rfl rfl rfl (qM (i:=0) rfl tf56 rfl rfl (fun _=>rfl) rfl) ?_
      refine qe 11 (qsQ x18) rfl rfl rfl (zt rfl) ?_
      refine qg (d:=129) (v:=qsR (some ⟨g11,0,none⟩) x0 c0) rfl (by simp only[qsR,h23] <;> rfl) ?_
      refine qe 12 (.pointer (some ⟨g11,x18.toNat*1,none⟩)) rfl rfl rfl (zU Tryz.underlying56 tf3 rfl rfl (qo e14).1 (zf e14)) ?_
      refine qg (d:=129) (v:=qsR a0 x0 c0) rfl (by simp only[qsR,h23] <;> rfl) ?_
      refine qJ 13 (qsQ x39) [] rfl rfl rfl (q7 (j:=2) rfl tf3 rfl rfl (fun _=>rfl) rfl) ?_
      refine qe 14 (.bool ((x38:Int) == x39)) rfl rfl rfl (zt rfl) ?_
      refine qev (by kernel_rfl) ?_
      refine qm ?_ (by intro c h;cases h)
      refine zy ?_
      refine qhT rfl (fun h25=>?_) (fun h25=>?_)
      · refine q9 ?_
        refine zg rfl rfl rfl ?_
        refine zg rfl rfl rfl ?_
        refine qaP ent176 rfl rfl rfl (fun x40 e15=>qfb F g1 x2 a3 c4 x0 a0 c0 x1 a1 c1 x3 a2 c2 x4 a4 c3 x6 x18 x40 e15) (.cons 0 rfl .nil) (.cons 0 rfl (.cons 0 rfl (.cons 0 rfl (.cons 0 rfl .nil)))) (.consF 0 rfl .nil) (fun x40 e15=>?_)
        rintro ⟨⟨a21,c21⟩,⟨a22,c22⟩,⟨a23,c23⟩,⟨a24,c24⟩⟩
        refine zB ?_
        exact kU ((a21,c21),(a22,c22),(a23,c23),(a24,c24)) (res0 rfl) (hB:=fun h=>by subst h;exact (.cons 0 rfl .nil)) (hR:=fun h=>by subst h;exact (.cons 0 rfl (.cons 0 rfl (.cons 0 rfl (.cons 0 rfl .nil)))))
      · refine qfR ?_
        exact kU ((a0,c0),(a1,c1),(a2,c2),(a4,c3)) (res0 rfl) (hB:=fun h=>by subst h;exact (.cons 0 rfl .nil)) (hR:=fun h=>by subst h;exact (.cons 0 rfl (.cons 0 rfl (.cons 0 rfl (.cons 0 rfl .nil)))))
set_option maxHeartbeats 4000000 in
theorem qiD {F:Nat}{x1:List (qsO)}{a2:qsP}{c3:Nat}{s3:List (qsP×Nat)}{r:qsO}(hm:qfI F x1=some r) :
    Pure Tryz.prog 95 [.agg #[qsR a2 x1 c3]] [SlN eN56 iN56 1 (qsR a2 x1 c3) x1 s3] (qsP×Nat) (fun g=>qsR g.1 r g.2) (fun g=>[qsU g.1 r g.2]) (fun _=>[]):=by
 refine qs Tryz.func95 rfl Tryz.ntmps95 rfl hm (fun w=>?_)
 refine au [59,22] ?_
 intro g4
 refine au [84,78,24,6,46] ?_
 refine qj (fun (((x0,x2,x3),(g0,a0,c0,a1,c1,a3,c2)):((qsO×qsO×qsO)×(Nat×qsP×Nat×qsP×Nat×qsP×Nat)))=>([(3,qsQ (x1.length:Int)),(4,qsS g0)],[⟨g0,183,[qsR a2 x1 c3,qsR a0 x0 c0,qsR a1 x2 c1,.slice none 0 0,qsR a3 x3 c2,qsQ 0]⟩],[qsU a0 x0 c0,qsU a1 x2 c1,qsU a3 x3 c2],[SlN eN56 iN56 1 (qsR a2 x1 c3) x1 s3],qQ F x1 x0 x2 x3)) ?_ ?_
 refine qt mixed [] [⟨g4,24,[qsR a2 x1 c3]⟩] [SlN eN56 iN56 1 (qsR a2 x1 c3) x1 s3] (.cons 0 rfl .nil) (qf 0 rfl qh) 12 rfl ?_
 refine au [117,6,2,6,4,6,7] ?_
 refine qj2 3 5 6 rfl rfl rfl (by kernel_rfl) rfl rfl rfl ?_ ?_ ?_
 refine au [26,0] ?_
 intro x4 e0 a4 c4
 refine au [75] ?_
 refine ye 5 6 rfl rfl (by kernel_rfl) rfl rfl ?_ ?_
 refine au [26,0] ?_
 intro x5 e1 a5 c5
 refine au [75,13,6] ?_
 refine qV (vs:=[qsQ (-1)]) (ys:=([-1]:qsO)) (qu .i64) (by decide) rfl Tryz.underlying56 tf3 rfl rfl rfl rfl rfl (by decide) (fun a6 c6=>?_)
 refine au [75,13,8,27,3] ?_
 rintro x6 e2 ⟨a7,c7⟩
 refine au [75,13,9] ?_
 refine qq (cells:=[qsR a2 x1 c3,qsR a4 x4 c4,qsR a5 x5 c5,.slice none 0 0,qsR a7 x6 c7,qsQ 0]) rfl st183 rfl (by kernel_rfl) rfl ?_
 refine au [123,22] ?_
 intro g1
 refine au [0,26,12,64] ?_
 exact qm (qb ((x4,x5,x6),(g1,a4,c4,a5,c5,a7,c7))) (by intro c h;cases h)
 refine kz (m':=((mk 17592186044416 (0:Int) (x1.length:Int)).bind fun x7=>((ql F ([-1]:qsO) (x1.length:Int)).bind fun x8=>qQ F x1 x4 x7 x8))) (rfl) (qV (vs:=[qsQ (-1)]) (ys:=([-1]:qsO)) (qu .i64) (by decide) rfl Tryz.underlying56 tf3 rfl rfl rfl rfl rfl (by decide) (fun a8 c8=>?_))
 refine au [75] ?_
 refine ye 5 8 rfl rfl (by kernel_rfl) rfl rfl ?_ ?_
 refine au [26,0] ?_
 intro x7 e3 a9 c9
 refine au [75,13,8,27,3] ?_
 rintro x8 e4 ⟨a10,c10⟩
 refine au [75,13,9] ?_
 refine qq (cells:=[qsR a2 x1 c3,qsR a4 x4 c4,qsR a9 x7 c9,.slice none 0 0,qsR a10 x8 c10,qsQ 0]) rfl st183 rfl (by kernel_rfl) rfl ?_
 refine au [123,22] ?_
 intro g2
 refine au [0,26,12,64] ?_
 exact qm (qb ((x4,x7,x8),(g2,a4,c4,a9,c9,a10,c10))) (by intro c h;cases h)
 refine kz (m':=((ql F ([-1]:qsO) (x1.length:Int)).bind fun x9=>((mk 17592186044416 (0:Int) (x1.length:Int)).bind fun x10=>qQ F x1 x4 x10 x9))) (Eq.trans (b:=((mk 17592186044416 (0:Int) (x1.length:Int)).bind fun x7=>((ql F ([-1]:qsO) (x1.length:Int)).bind fun x8=>qQ F x1 x4 x7 x8))) rfl (by generalize (mk 17592186044416 (0:Int) (x1.length:Int))=q0;generalize (ql F ([-1]:qsO) (x1.length:Int))=q1;cases q0 <;> cases q1 <;> rfl)) ?_
 refine au [27,3] ?_
 rintro x9 e5 ⟨a11,c11⟩
 refine au [75,13,5,26,0] ?_
 intro x10 e6 a12 c12
 refine au [75,13,9] ?_
 refine qq (cells:=[qsR a2 x1 c3,qsR a4 x4 c4,qsR a12 x10 c12,.slice none 0 0,qsR a11 x9 c11,qsQ 0]) rfl st183 rfl (by kernel_rfl) rfl ?_
 refine au [123,22] ?_
 intro g3
 refine au [0,26,12,64] ?_
 exact qm (qb ((x4,x10,x9),(g3,a4,c4,a12,c12,a11,c11))) (by intro c h;cases h)
 refine kz (m':=((mk 17592186044416 (0:Int) (x1.length:Int)).bind fun x11=>((mk 17592186044416 (0:Int) (x1.length:Int)).bind fun x12=>((ql F ([-1]:qsO) (x1.length:Int)).bind fun x13=>qQ F x1 x12 x11 x13)))) (Eq.trans (b:=((mk 17592186044416 (0:Int) (x1.length:Int)).bind fun x4=>((mk 17592186044416 (0:Int) (x1.length:Int)).bind fun x5=>((ql F ([-1]:qsO) (x1.length:Int)).bind fun x6=>qQ F x1 x4 x5 x6)))) rfl (by generalize (mk 17592186044416 (0:Int) (x1.length:Int))=q0;generalize (ql F ([-1]:qsO) (x1.length:Int))=q1;cases q0 <;> cases q1 <;> rfl)) ?_
 refine au [26,0] ?_
 intro x11 e7 a13 c13
 refine au [75] ?_
 refine ye 3 6 rfl rfl (by kernel_rfl) rfl rfl ?_ ?_
 refine au [26,0] ?_
 intro x12 e8 a14 c14
 refine au [75,13,6] ?_
 refine qV (vs:=[qsQ (-1)]) (ys:=([-1]:qsO)) (qu .i64) (by decide) rfl Tryz.underlying56 tf3 rfl rfl rfl rfl rfl (by decide) (fun a15 c15=>?_)
 refine au [75,13,8,27,3] ?_
 rintro x13 e9 ⟨a16,c16⟩
 refine au [75,13,9] ?_
 refine qq (cells:=[qsR a2 x1 c3,qsR a14 x12 c14,qsR a13 x11 c13,.slice none 0 0,qsR a16 x13 c16,qsQ 0]) rfl st183 rfl (by kernel_rfl) rfl ?_
 refine au [123,22] ?_
 intro g5
 refine au [0,26,12,64] ?_
 exact qm (qb ((x12,x11,x13),(g5,a14,c14,a13,c13,a16,c16))) (by intro c h;cases h)
 refine kz (m':=((mk 17592186044416 (0:Int) (x1.length:Int)).bind fun x14=>((ql F ([-1]:qsO) (x1.length:Int)).bind fun x15=>qQ F x1 x14 x11 x15))) (rfl) (qV (vs:=[qsQ (-1)]) (ys:=([-1]:qsO)) (qu .i64) (by decide) rfl Tryz.underlying56 tf3 rfl rfl rfl rfl rfl (by decide) (fun a17 c17=>?_))
 refine au [75] ?_
 refine ye 3 8 rfl rfl (by kernel_rfl) rfl rfl ?_ ?_
 refine au [26,0] ?_
 intro x14 e10 a18 c18
 refine au [75,13,8,27,3] ?_
 rintro x15 e11 ⟨a19,c19⟩
 refine au [75,13,9] ?_
 refine qq (cells:=[qsR a2 x1 c3,qsR a18 x14 c18,qsR a13 x11 c13,.slice none 0 0,qsR a19 x15 c19,qsQ 0]) rfl st183 rfl (by kernel_rfl) rfl ?_
 refine au [123,22] ?_
 intro g6
 refine au [0,26,12,64] ?_
 exact qm (qb ((x14,x11,x15),(g6,a18,c18,a13,c13,a19,c19))) (by intro c h;cases h)
 refine kz (m':=((ql F ([-1]:qsO) (x1.length:Int)).bind fun x16=>((mk 17592186044416 (0:Int) (x1.length:Int)).bind fun x17=>qQ F x1 x17 x11 x16))) (Eq.trans (b:=((mk 17592186044416 (0:Int) (x1.length:Int)).bind fun x14=>((ql F ([-1]:qsO) (x1.length:Int)).bind fun x15=>qQ F x1 x14 x11 x15))) rfl (by generalize (mk 17592186044416 (0:Int) (x1.length:Int))=q0;generalize (ql F ([-1]:qsO) (x1.length:Int))=q1;cases q0 <;> cases q1 <;> rfl)) ?_
 refine au [27,3] ?_
 rintro x16 e12 ⟨a20,c20⟩
 refine au [75,13,3,26,0] ?_
 intro x17 e13 a21 c21
 refine au [75,13,9] ?_
 refine qq (cells:=[qsR a2 x1 c3,qsR a21 x17 c21,qsR a13 x11 c13,.slice none 0 0,qsR a20 x16 c20,qsQ 0]) rfl st183 rfl (by kernel_rfl) rfl ?_
 refine au [123,22] ?_
 intro g7
 refine au [0,26,12,64] ?_
 exact qm (qb ((x17,x11,x16),(g7,a21,c21,a13,c13,a20,c20))) (by intro c h;cases h)
 refine kz (m':=((mk 17592186044416 (0:Int) (x1.length:Int)).bind fun x18=>((mk 17592186044416 (0:Int) (x1.length:Int)).bind fun x19=>((ql F ([-1]:qsO) (x1.length:Int)).bind fun x20=>qQ F x1 x18 x19 x20)))) (rfl) (qV (vs:=[qsQ (-1)]) (ys:=([-1]:qsO)) (qu .i64) (by decide) rfl Tryz.underlying56 tf3 rfl rfl rfl rfl rfl (by decide) (fun a22 c22=>?_))
 refine au [75] ?_
 refine qj2 3 5 8 rfl rfl rfl (by kernel_rfl) rfl rfl rfl ?_ ?_ ?_
 refine au [26,0] ?_
 intro x18 e14 a23 c23
 refine au [75] ?_
 refine ye 5 8 rfl rfl (by kernel_rfl) rfl rfl ?_ ?_
 refine au [26,0] ?_
 intro x19 e15 a24 c24
 refine au [75,13,8,27,3] ?_
 rintro x20 e16 ⟨a25,c25⟩
 refine au [75,13,9] ?_
 refine qq (cells:=[qsR a2 x1 c3,qsR a23 x18 c23,qsR a24 x19 c24,.slice none 0 0,qsR a25 x20 c25,qsQ 0]) rfl st183 rfl (by kernel_rfl) rfl ?_
 refine au [123,22] ?_
 intro g8
 refine au [0,26,12,64] ?_
 exact qm (qb ((x18,x19,x20),(g8,a23,c23,a24,c24,a25,c25))) (by intro c h;cases h)
 refine kz (m':=((ql F ([-1]:qsO) (x1.length:Int)).bind fun x21=>((mk 17592186044416 (0:Int) (x1.length:Int)).bind fun x22=>qQ F x1 x18 x22 x21))) (Eq.trans (b:=((mk 17592186044416 (0:Int) (x1.length:Int)).bind fun x19=>((ql F ([-1]:qsO) (x1.length:Int)).bind fun x20=>qQ F x1 x18 x19 x20))) rfl (by generalize (mk 17592186044416 (0:Int) (x1.length:Int))=q0;generalize (ql F ([-1]:qsO) (x1.length:Int))=q1;cases q0 <;> cases q1 <;> rfl)) ?_
 refine au [27,3] ?_
 rintro x21 e17 ⟨a26,c26⟩
 refine au [75,13,5,26,0] ?_
 intro x22 e18 a27 c27
 refine au [75,13,9] ?_
 refine qq (cells:=[qsR a2 x1 c3,qsR a23 x18 c23,qsR a27 x22 c27,.slice none 0 0,qsR a26 x21 c26,qsQ 0]) rfl st183 rfl (by kernel_rfl) rfl ?_
 refine au [123,22] ?_
 intro g9
 refine au [0,26,12,64] ?_
 exact qm (qb ((x18,x22,x21),(g9,a23,c23,a27,c27,a26,c26))) (by intro c h;cases h)
 refine kz (m':=((mk 17592186044416 (0:Int) (x1.length:Int)).bind fun x23=>((mk 17592186044416 (0:Int) (x1.length:Int)).bind fun x24=>((ql F ([-1]:qsO) (x1.length:Int)).bind fun x25=>qQ F x1 x24 x23 x25)))) (Eq.trans (b:=((mk 17592186044416 (0:Int) (x1.length:Int)).bind fun x18=>((mk 17592186044416 (0:Int) (x1.length:Int)).bind fun x19=>((ql F ([-1]:qsO) (x1.length:Int)).bind fun x20=>qQ F x1 x18 x19 x20)))) rfl (by generalize (mk 17592186044416 (0:Int) (x1.length:Int))=q0;generalize (ql F ([-1]:qsO) (x1.length:Int))=q1;cases q0 <;> cases q1 <;> rfl)) ?_
 refine au [26,0] ?_
 intro x23 e19 a28 c28
 refine au [75] ?_
 refine ye 3 8 rfl rfl (by kernel_rfl) rfl rfl ?_ ?_
 refine au [26,0] ?_
 intro x24 e20 a29 c29
 refine au [75,13,8,27,3] ?_
 rintro x25 e21 ⟨a30,c30⟩
 refine au [75,13,9] ?_
 refine qq (cells:=[qsR a2 x1 c3,qsR a29 x24 c29,qsR a28 x23 c28,.slice none 0 0,qsR a30 x25 c30,qsQ 0]) rfl st183 rfl (by kernel_rfl) rfl ?_
 refine au [123,22] ?_
 intro g10
 refine au [0,26,12,64] ?_
 exact qm (qb ((x24,x23,x25),(g10,a29,c29,a28,c28,a30,c30))) (by intro c h;cases h)
 refine kz (m':=((ql F ([-1]:qsO) (x1.length:Int)).bind fun x26=>((mk 17592186044416 (0:Int) (x1.length:Int)).bind fun x27=>qQ F x1 x27 x23 x26))) (Eq.trans (b:=((mk 17592186044416 (0:Int) (x1.length:Int)).bind fun x24=>((ql F ([-1]:qsO) (x1.length:Int)).bind fun x25=>qQ F x1 x24 x23 x25))) rfl (by generalize (mk 17592186044416 (0:Int) (x1.length:Int))=q0;generalize (ql F ([-1]:qsO) (x1.length:Int))=q1;cases q0 <;> cases q1 <;> rfl)) ?_
 refine au [27,3] ?_
 rintro x26 e22 ⟨a31,c31⟩
 refine au [75,13,3,26,0] ?_
 intro x27 e23 a32 c32
 refine au [75,13,9] ?_
 refine qq (cells:=[qsR a2 x1 c3,qsR a32 x27 c32,qsR a28 x23 c28,.slice none 0 0,qsR a31 x26 c31,qsQ 0]) rfl st183 rfl (by kernel_rfl) rfl ?_
 refine au [123,22] ?_
 intro g11
 refine au [0,26,12,64] ?_
 exact qm (qb ((x27,x23,x26),(g11,a32,c32,a28,c28,a31,c31))) (by intro c h;cases h)
 refine kz (m':=((ql F ([-1]:qsO) (x1.length:Int)).bind fun x28=>((mk 17592186044416 (0:Int) (x1.length:Int)).bind fun x29=>((mk 17592186044416 (0:Int) (x1.length:Int)).bind fun x30=>qQ F x1 x29 x30 x28)))) (Eq.trans (b:=((mk 17592186044416 (0:Int) (x1.length:Int)).bind fun x18=>((mk 17592186044416 (0:Int) (x1.length:Int)).bind fun x19=>((ql F ([-1]:qsO) (x1.length:Int)).bind fun x20=>qQ F x1 x18 x19 x20)))) rfl (by generalize (mk 17592186044416 (0:Int) (x1.length:Int))=q0;generalize (ql F ([-1]:qsO) (x1.length:Int))=q1;cases q0 <;> cases q1 <;> rfl)) ?_
 refine au [27,3] ?_
 rintro x28 e24 ⟨a33,c33⟩
 refine au [75] ?_
 refine ye 3 5 rfl rfl (by kernel_rfl) rfl rfl ?_ ?_
 refine au [26,0] ?_
 intro x29 e25 a34 c34
 refine au [75,13,5,26,0] ?_
 intro x30 e26 a35 c35
 refine au [75,13,9] ?_
 refine qq (cells:=[qsR a2 x1 c3,qsR a34 x29 c34,qsR a35 x30 c35,.slice none 0 0,qsR a33 x28 c33,qsQ 0]) rfl st183 rfl (by kernel_rfl) rfl ?_
 refine au [123,22] ?_
 intro g12
 refine au [0,26,12,64] ?_
 exact qm (qb ((x29,x30,x28),(g12,a34,c34,a35,c35,a33,c33))) (by intro c h;cases h)
 refine kz (m':=((mk 17592186044416 (0:Int) (x1.length:Int)).bind fun x31=>((mk 17592186044416 (0:Int) (x1.length:Int)).bind fun x32=>qQ F x1 x32 x31 x28))) (Eq.trans (b:=((mk 17592186044416 (0:Int) (x1.length:Int)).bind fun x29=>((mk 17592186044416 (0:Int) (x1.length:Int)).bind fun x30=>qQ F x1 x29 x30 x28))) rfl (by generalize (mk 17592186044416 (0:Int) (x1.length:Int))=q0;cases q0 <;> rfl)) ?_
 refine au [26,0] ?_
 intro x31 e27 a36 c36
 refine au [75,13,3,26,0] ?_
 intro x32 e28 a37 c37
 refine au [75,13,9] ?_
 refine qq (cells:=[qsR a2 x1 c3,qsR a37 x32 c37,qsR a36 x31 c36,.slice none 0 0,qsR a33 x28 c33,qsQ 0]) rfl st183 rfl (by kernel_rfl) rfl ?_
 refine au [123,22] ?_
 intro g13
 refine au [0,26,12,64] ?_
 exact qm (qb ((x32,x31,x28),(g13,a37,c37,a36,c36,a33,c33))) (by intro c h;cases h)
 rintro ⟨⟨x0,x2,x3⟩,⟨g0,a0,c0,a1,c1,a3,c2⟩⟩
 try dsimp only
 refine qj (fun (((x33,x34,x35,x36,x37),(a38,c38,a39,c39,a40,c40,a41,c41)):((qsO×qsO×qsO×qsO×Int)×(qsP×Nat×qsP×Nat×qsP×Nat×qsP×Nat)))=>([(4,qsS g0)],[⟨g0,183,[qsR a2 x1 c3,qsR a38 x33 c38,qsR a39 x34 c39,qsR a40 x35 c40,qsR a41 x36 c41,qsQ x37]⟩],[qsU a38 x33 c38,qsU a39 x34 c39,qsU a40 x35 c40,qsU a41 x36 c41],[SlN eN56 iN56 1 (qsR a2 x1 c3) x1 s3],qdW F x33 x34 x35 x36 x37)) ?_ ?_
 refine au [87,76,27,12] ?_
 refine qB (fun (((x38,x39,x40,x41,x42,x43),(a42,c42,a43,c43,a44,c44,a45,c45)):((Int×qsO×qsO×qsO×qsO×Int)×(qsP×Nat×qsP×Nat×qsP×Nat×qsP×Nat)))=>([(4,qsS g0),(20,qsQ (x1.length:Int)),(21,qsQ x38)],[⟨g0,183,[qsR a2 x1 c3,qsR a42 x39 c42,qsR a43 x40 c43,qsR a44 x41 c44,qsR a45 x42 c45,qsQ x43]⟩],[qsU a42 x39 c42,qsU a43 x40 c43,qsU a44 x41 c44,qsU a45 x42 c45],[SlN eN56 iN56 1 (qsR a2 x1 c3) x1 s3])) (fun k (s:((Int×qsO×qsO×qsO×qsO×Int)×(qsP×Nat×qsP×Nat×qsP×Nat×qsP×Nat)))=>y9 F x1 k s.1) ((0,x0,x2,([]:qsO),x3,0),(a0,c0,a1,c1,none,0,a3,c2)) F ?_
 intro k0
 rintro ⟨⟨x38,x39,x40,x41,x42,x43⟩,⟨a42,c42,a43,c43,a44,c44,a45,c45⟩⟩
 try dsimp only
 refine qH (m':=qdV F x1 (y9 F x1 k0) x38 x39 x40 x41 x42 x43) rfl ?_
 refine av [96] ?_ ?_
 intro _
 refine au [57] ?_
 refine qj (fun (((x44,x45,x46,x47,x48),(a46,c46,a47,c47,a48,c48,a49,c49)):((qsO×qsO×qsO×qsO×Int)×(qsP×Nat×qsP×Nat×qsP×Nat×qsP×Nat)))=>([(4,qsS g0),(20,qsQ (x1.length:Int)),(21,qsQ x38)],[⟨g0,183,[qsR a2 x1 c3,qsR a46 x44 c46,qsR a47 x45 c47,qsR a48 x46 c48,qsR a49 x47 c49,qsQ x48]⟩],[qsU a46 x44 c46,qsU a47 x45 c47,qsU a48 x46 c48,qsU a49 x47 c49],[SlN eN56 iN56 1 (qsR a2 x1 c3) x1 s3],qay F (y9 F x1 k0) x38 x44 x45 x46 x47 x48)) ?_ ?_
 refine au [14,48,58,114,3,26,3] ?_
 intro x49 e29 g14 h0
 refine z7 (j:=0) (y:=x49) (qu .i64) rfl rfl tf3 rfl h0 (qo e29).2.2 (fun _=>rfl) rfl rfl ?_
 refine av [112] ?_ ?_
 intro _
 refine au [4,3,3] ?_
 refine qaP ent132 rfl rfl rfl (fun x50 e30=>qfc F g0 x1 a2 (c3,s3) x39 a42 c42 x40 a43 c43 x41 a44 c44 x42 a45 c45 x43 x38 x50 e30) (.cons 0 rfl .nil) (.cons 0 rfl (.cons 0 rfl (.cons 0 rfl (.cons 0 rfl .nil)))) (.consF 0 rfl .nil) (fun x50 e30=>?_)
 rintro ⟨⟨a50,c50⟩,⟨a51,c51⟩,⟨a52,c52⟩,⟨a53,c53⟩⟩
 refine au [0,24,2] ?_
 exact qb ((x50.1,x50.2.1,x50.2.2.1,x50.2.2.2.1,x50.2.2.2.2),(a50,c50,a51,c51,a52,c52,a53,c53))
 intro _
 refine au [11,24,2] ?_
 exact qb ((x39,x40,x41,x42,x43),(a42,c42,a43,c43,a44,c44,a45,c45))
 rintro ⟨⟨x44,x45,x46,x47,x48⟩,⟨a46,c46,a47,c47,a48,c48,a49,c49⟩⟩
 try dsimp only
 refine au [98] ?_
 exact qr ((iadd .i64 x38 1,x44,x45,x46,x47,x48),(a46,c46,a47,c47,a48,c48,a49,c49))
 intro _
 refine au [73] ?_
 exact qb ((x39,x40,x41,x42,x43),(a42,c42,a43,c43,a44,c44,a45,c45))
 rintro ⟨⟨x33,x34,x35,x36,x37⟩,⟨a38,c38,a39,c39,a40,c40,a41,c41⟩⟩
 try dsimp only
 refine au [48,114,49] ?_
 exact qI (a41,c41)
theorem qiC (F:Nat)(x1:List (qsO))(a2:qsP)(c3:(Nat×List (qsP×Nat)))(r:(qsO×Int))(hm:qfH F x1=some r) :
    Pure Tryz.prog 67 [.agg #[qsR a2 x1 c3.1]] [SlN eN56 iN56 1 (qsR a2 x1 c3.1) x1 c3.2] (qsP×Nat) (fun g=>.tuple #[qsR g.1 r.1 g.2,qsQ r.2]) (fun g=>[qsU g.1 r.1 g.2]) (fun _=>[]):=by
 refine qs Tryz.func67 rfl Tryz.ntmps67 rfl hm (fun w=>?_)
 refine au [59,22] ?_
 intro g4
 refine au [5,71,74,28,0] ?_
 intro x7 e7 _
 refine av [58,70] ?_ ?_
 intro _
 refine au [48,5,107] ?_
 exact qI (none,0)
 intro _
 refine au [57,74] ?_
 refine qk qiD ?_
 rintro x8 e8 ⟨a9,c10⟩
 refine au [5,49] ?_
 exact qI (a9,c10)
theorem qle {F:Nat}{x1:List (qsO)}{a2:qsP}{c3:Nat}{s3:List (qsP×Nat)}{r:Unit}(hm:qaH F x1=some r) :
    PureM Tryz.prog 114 [.agg #[qsR a2 x1 c3]] [] [] [SlN eN56 iN56 1 (qsR a2 x1 c3) x1 s3] Nat (fun g=>.func (.func 159) #[] #[qsS g]) (fun g=>[⟨g,24,[qsR a2 x1 c3]⟩]) (fun _=>[]):=by
 refine qE Tryz.func114 rfl Tryz.ntmps114 rfl hm (fun w=>?_)
 refine au [59,22] ?_
 intro g4
 refine au [84,27,4,49] ?_
 exact qX g4
theorem qfa {F:Nat}{x1:qsO}{a2:qsP}{c3:Nat}{r:qsO}(hm:k5 F x1=some r) :
    PureM Tryz.prog 134 [qsR a2 x1 c3] [] [qsU a2 x1 c3] [] Unit (fun _=>.tuple #[]) (fun _=>[]) (fun _=>[qsU a2 r c3]):=by
  unfold k5 at hm
  split at hm
  · cases hm
    exact qmE Tryz.slices_Sort_int Tryz.slices_Sort_int_none (by assumption)
  · simp at hm
theorem qd1 {F:Nat}{x1:qsO}{a2:qsP}{c3:Nat}{r:qsO}(hm:yb F x1=some r) :
    PureM Tryz.prog 135 [qsR a2 x1 c3] [] [qsU a2 x1 c3] [] (qsP×Nat) (fun g=>qsR g.1 r g.2) (fun _=>[]) (fun g=>[qsU g.1 r g.2]):=by
  unfold yb at hm
  split at hm
  · cases hm
    exact qju Tryz.slices_Compact_int Tryz.slices_Compact_int_empty (by assumption)
  · simp at hm
set_option maxHeartbeats 4000000 in
theorem qbP (F:Nat){σ τ:Type}{J:Rounds σ τ}{yy:σ→(Int×Int)→Option (σ ⊕ τ)}{L:Nat}(hY:YieldC Tryz.prog L (fun (p:(Int×Int))=>[.agg #[qsQ p.1,qsQ p.2]]) J yy)(s0:σ)(gs0:J.γ)(g1:Nat)(x2:List (qsO))(a3:qsP)(c4:(Nat×List (qsP×Nat)))(r:σ ⊕ τ)(hm:ve F yy x2 s0=some r) :
    PureM Tryz.prog 159 ([.func (.yield L) #[] #[],qsS g1]) ([⟨g1,24,[qsR a3 x2 c4.1]⟩]++J.IB s0 gs0) (J.IR s0 gs0) [J.F,SlN eN56 iN56 1 (qsR a3 x2 c4.1) x2 c4.2] (J.G r) (fun _=>.tuple #[]) (fun g=>[⟨g1,24,[qsR a3 x2 c4.1]⟩]++J.bs r g) (fun g=>J.rs r g):=by
 refine qE Tryz.func159 rfl Tryz.ntmps159 rfl hm (fun w=>?_)
 refine au [56,78,122,76] ?_
 refine yv (fun (((x0,x1),g0):((Int×σ)×J.γ))=>[(0,.func (.yield L) #[] #[]),(8,qsR a3 x2 c4.1),(9,qsQ (x2.length:Int)),(10,qsQ x0)]) (fun (((x0,x1),g0):((Int×σ)×J.γ))=>[⟨g1,24,[qsR a3 x2 c4.1]⟩]++J.IB x1 g0) (fun (((x0,x1),g0):((Int×σ)×J.γ))=>[]++J.IR x1 g0) (fun (((x0,x1),g0):((Int×σ)×J.γ))=>[SlN eN56 iN56 1 (qsR a3 x2 c4.1) x2 c4.2,J.F]) (fun k (s:((Int×σ)×J.γ))=>zJ F yy x2 k s.1) ((0,s0),gs0) F ?_ (hB:=(.cons 0 rfl (qn 0 rfl))) (hR:=(qn 0 rfl)) (hF:=(qp 1 rfl (qp 0 rfl zx)))
 intro k0
 rintro ⟨⟨x0,x1⟩,g0⟩
 try dsimp only
 refine qH (m':=jT F yy x2 (zJ F yy x2 k0) x0 x1) rfl ?_
 refine av [96] ?_ ?_
 intro _
 refine au [57] ?_
 refine jN (fun ((x3,g2):(σ×J.γ))=>[(0,.func (.yield L) #[] #[]),(8,qsR a3 x2 c4.1),(9,qsQ (x2.length:Int)),(10,qsQ x0)]) (fun ((x3,g2):(σ×J.γ))=>[⟨g1,24,[qsR a3 x2 c4.1]⟩]++J.IB x3 g2) (fun ((x3,g2):(σ×J.γ))=>[]++J.IR x3 g2) (fun ((x3,g2):(σ×J.γ))=>[SlN eN56 iN56 1 (qsR a3 x2 c4.1) x2 c4.2,J.F]) (fun ((x3,_):(σ×J.γ))=>jU F yy (zJ F yy x2 k0) x0 x3) ?_ ?_
 refine au [14,48,27,1] ?_
 intro x4 e0 g3 b0 o0
 refine au [25,2,5,58,122,76] ?_
 refine yv (fun (((x5,x6),g4):((Int×σ)×J.γ))=>[(0,.func (.yield L) #[] #[]),(3,qsQ x0),(8,qsR a3 x2 c4.1),(9,qsQ (x2.length:Int)),(10,qsQ x0),(15,qsR g3.1 x4 g3.2),(16,qsQ (x4.length:Int)),(17,qsQ x5)]) (fun (((x5,x6),g4):((Int×σ)×J.γ))=>[⟨g1,24,[qsR a3 x2 c4.1]⟩]++J.IB x6 g4) (fun (((x5,x6),g4):((Int×σ)×J.γ))=>[]++J.IR x6 g4) (fun (((x5,x6),g4):((Int×σ)×J.γ))=>[SlN eN56 iN56 1 (qsR a3 x2 c4.1) x2 c4.2,qsT g3.1 x4 g3.2,J.F]) (fun k (s:((Int×σ)×J.γ))=>yl F yy (zJ F yy x2 k0) x0 x4 k s.1) ((0,x1),g0) F ?_ (hB:=(.cons 0 rfl (qn 0 rfl))) (hR:=(qn 0 rfl)) (hF:=(qp 2 rfl (qp 1 rfl (qp 3 rfl zx))))
 intro k1
 rintro ⟨⟨x5,x6⟩,g4⟩
 try dsimp only
 refine qH (m':=jl F yy (zJ F yy x2 k0) x0 x4 (yl F yy (zJ F yy x2 k0) x0 x4 k1) x5 x6) rfl ?_
 refine av [96] ?_ ?_
 intro _
 refine au [83,47,28,9] ?_
 intro x7 e1 b1 o1
 refine au [25,2,58,3,3] ?_
 refine qq (cells:=[qsQ x0,qsQ x7]) rfl st63 rfl (by kernel_rfl) rfl (qcT hY x6 (x0,x7) g4 (B1:=[⟨g1,24,[qsR a3 x2 c4.1]⟩]) (R1:=[]) (j:=3) rfl rfl rfl rfl rfl rfl rfl (fun x8 _ g5=>?_) (fun x9 _ g5=>?_))
 refine au [25,8,45] ?_
 refine kD (b:=false) rfl (fun h=>by cases h) (fun _=>?_)
 refine au [11,99] ?_
 exact yz ((iadd .i64 x5 1,x8),g5) (hB:=(.cons 0 rfl (qn 0 rfl))) (hR:=(qn 0 rfl)) (hF:=(qp 1 rfl (qp 2 rfl (qp 3 rfl zx))))
 refine au [25,8,45] ?_
 refine kD (b:=true) rfl (fun _=>?_) (fun h=>by cases h)
 refine au [8,92,24,5,92,24,5] ?_
 exact y0 (B0:=[⟨g1,24,[qsR a3 x2 c4.1]⟩]) (x:=.inr x9) g5 (.inl rfl) (res0 rfl) (.cons 0 rfl (qn 0 rfl)) (qn 0 rfl)
 intro _
 refine au [73,24,2] ?_
 exact kF (x6,g4) (hB:=(.cons 0 rfl (qn 0 rfl))) (hR:=(qn 0 rfl)) (hF:=(qp 0 rfl (qp 2 rfl zx)))
 rintro ⟨x3,g2⟩
 try dsimp only
 refine au [98] ?_
 exact yz ((iadd .i64 x0 1,x3),g2) (hB:=(.cons 0 rfl (qn 0 rfl))) (hR:=(qn 0 rfl)) (hF:=(qp 0 rfl (qp 1 rfl zx)))
 intro _
 refine au [73] ?_
 exact y0 (B0:=[⟨g1,24,[qsR a3 x2 c4.1]⟩]) (x:=.inl x1) g0 (.inr rfl) (res0 rfl) (.cons 0 rfl (qn 0 rfl)) (qn 0 rfl)
set_option maxHeartbeats 4000000 in
theorem qk8 {F:Nat}{x1:List (qsO)}{a2:qsP}{c3:Nat}{s3:List (qsP×Nat)}{r:List (qsO)}(hm:qfn F x1=some r) :
    PureM Tryz.prog 97 [.agg #[qsR a2 x1 c3]] [] [] [SlN eN56 iN56 1 (qsR a2 x1 c3) x1 s3] (qsP×(Nat×List (qsP×Nat))) (fun g=>qsR g.1 r g.2.1) (fun _=>[]) (fun g=>[RoN eN56 rN56 56 1 (qsR g.1 r g.2.1) r g.2.2 []]):=by
 refine qbf Tryz.func97 rfl Tryz.ntmps97 rfl hm (fun w=>?_)
 refine au [59,22] ?_
 intro g4
 refine au [84,78,24,6,29,8] ?_
 intro x5 e5 a6 c7
 refine au [24,4] ?_
 intro g8
 refine au [119,1,47,25,7,30,3] ?_
 intro x0 e0 g0
 refine au [76] ?_
 refine jW (encs:=(fun (p:(Int×Int))=>[.agg #[qsQ p.1,qsQ p.2]])) (y:=(fun (x2:List (qsO)) ((x3,x4):(Int×Int))=>qfq F x2 x3 x4)) (lb:=[qsS g0]) (fun (x2:List (qsO)) (g1:List (qsP×Nat))=>[⟨g8,22,[qsR a6 x2 c7]⟩,⟨g4,24,[qsR a2 x1 c3]⟩]) (fun (x2:List (qsO)) (g1:List (qsP×Nat))=>[RoN eN56 rN56 56 1 (qsR a6 x2 c7) x2 g1 []]) (fun (_:Empty) (_:Unit)=>[]) (fun (_:Empty) (_:Unit)=>[]) (fun _=>.skip) x5 (qqF x5.length ((none,0):qsP×Nat)) rfl ent159 (fun _=>rfl) rfl (.cons 0 rfl .nil) (.cons 0 rfl (.cons 0 rfl .nil)) (.cons 0 rfl .nil) (.consF 0 rfl .nil) (fun z hz _ _ _ hY=>qbP F hY x5 (qqF x5.length ((none,0):qsP×Nat)) g0 x1 a2 (c3,s3) z hz) ?_ ?_ ?_
 rintro rc1 L1 D1 x2 g1 ⟨x3,x4⟩ z w M _
 try dsimp only
 refine qbi [(0,.agg #[qsR a2 x1 c3]),(1,qsS g4),(2,.slice none 0 0),(3,qsS g8),(6,qsS g4),(7,qsR a2 x1 c3),(8,qsQ (x1.length:Int)),(9,qsR a6 x5 c7),(10,.agg #[qsR a2 x1 c3]),(11,.func (.func 159) #[] #[qsS g0]),(12,.agg #[qsQ x3,qsQ x4])] (qw rfl (qw rfl (qw rfl (qw rfl (qw rfl (qw rfl (qw rfl (qw rfl (qw rfl (qw rfl (qw rfl qbK))))))))))) ?_
 refine au [4,24,4] ?_
 intro g2
 refine av [86,30,4,14,47,78,78,70] ?_ ?_
 intro _
 refine au [29,9] ?_
 intro x6 e1 g3 h0 g5 h1
 replace h1:a6=some ⟨g5,0,none⟩:=h1
 have h2:=zE (k:=x2.length) (c:=c7) h1
 refine qcS (i:=0) rfl h0 (qq0) ?_
 refine au [28,13] ?_
 intro x7 e2 g6 h3 g7 h4
 replace h4:a6=some ⟨g7,0,none⟩:=h4
 have h5:=zE (k:=x2.length) (c:=c7) h4
 refine au [28,4] ?_
 intro h6
 refine qcS (i:=1) rfl h3 (by simp only[decide_eq_true_eq] at h6;simp only[List.mem_cons,qq0,or_false];exact h6) ?_
 refine au [28,13] ?_
 intro x8 e3 g9 h7 g10 h8
 replace h8:a6=some ⟨g10,0,none⟩:=h8
 have h9:=zE (k:=x2.length) (c:=c7) h8
 refine au [28,13] ?_
 intro x9 e4 g11 h10 g12 h11
 replace h11:a6=some ⟨g12,0,none⟩:=h11
 have h12:=zE (k:=x2.length) (c:=c7) h11
 refine qt mixed [25,27] [⟨g2,63,[qsQ x3,qsQ x4]⟩,⟨g8,22,[qsR a6 x2 c7]⟩,⟨g4,24,[qsR a2 x1 c3]⟩,(blkO L1 (.loop (bsy rc1))),(dblk D1)] [SlN eN56 iN56 1 (qsR a2 x1 c3) x1 s3,qC g5 (x3.toNat*1) (eN56 (x6,g3)),qC g7 (x4.toNat*1) (eN56 (x7,g6)),qC g10 (x3.toNat*1) (eN56 (x8,g9)),qC g12 (x4.toNat*1) (eN56 (x9,g11))] (.cons 0 rfl (.cons 0 rfl (.cons 0 rfl (.cons 0 rfl (.cons 0 rfl .nil))))) (qf 0 rfl (qP 1 rfl (qW qy h0 h1) (qP 1 rfl (qW qy h3 h4) (qP 1 rfl (qW qy h7 h8) (qP 1 rfl (qW qy h10 h11) qh))))) 28 rfl ?_
 refine au [26,4,0,15,1,24,14,2,26,4,3,15,4,24,14,5,26,4,6,15,7,24,14,8] ?_
 refine qg (d:=24) (v:=qsR (some ⟨g5,0,none⟩) x2 c7) rfl (by simp only[qsR,h1] <;> rfl) (qe 9 (.pointer (some ⟨g5,x3.toNat*1,none⟩)) rfl rfl rfl (zU Tryz.underlying22 tf56 rfl rfl (qo e1).1 (zf e1)) (qg (d:=24) (v:=qsR a6 x2 c7) rfl (by simp only[qsR,h1] <;> rfl) (qJ 10 (qsR g3.1 x6 g3.2) [[25],[27]] rfl rfl rfl (q7 (j:=1) rfl tf56 rfl rfl (fun _=>rfl) rfl) ?_)))
 refine au [15,11,24,14,12,26,4,15,15,16,24,14,17] ?_
 refine qg (d:=33) (v:=qsR (some ⟨g7,0,none⟩) x2 c7) rfl (by simp only[qsR,h4] <;> rfl) (qe 18 (.pointer (some ⟨g7,x4.toNat*1,none⟩)) rfl rfl rfl (zU Tryz.underlying22 tf56 rfl rfl (qo e2).1 (zf e2)) (qg (d:=33) (v:=qsR a6 x2 c7) rfl (by simp only[qsR,h4] <;> rfl) (qJ 19 (qsR g6.1 x7 g6.2) [[25],[27]] rfl rfl rfl (q7 (j:=2) rfl tf56 rfl rfl (fun _=>rfl) rfl) ?_)))
 refine au [15,20,24,14,21] ?_
 refine ye 13 22 rfl rfl (by kernel_rfl) rfl rfl ?_ ?_
 refine qV (vs:=[qsQ x4]) (ys:=([x4]:qsO)) (qu .i64) (by decide) rfl Tryz.underlying56 tf3 rfl rfl rfl rfl rfl (by decide) (fun a0 c0=>?_)
 refine au [0] ?_
 refine qi (.cons 0 rfl (.cons 0 rfl (.cons 0 rfl (.cons 0 rfl (.cons 0 rfl .nil))))) (qf 0 rfl (qP 2 rfl (qW qy h0 h1) (qP 2 rfl (qW qy h3 h4) (qP 2 rfl (qW qy h7 h8) (qP 2 rfl (qW qy h10 h11) qh))))) (ye 14 22 rfl rfl (by kernel_rfl) rfl rfl ?_ ?_)
 refine zu 3 (qu .i64) rfl Tryz.underlying56 tf3 rfl rfl rfl rfl rfl (.inl ⟨0,_,rfl⟩) rfl rfl (fun x10 e6 a1 c1=>?_)
 refine au [0] ?_
 refine qi (.cons 0 rfl (.cons 0 rfl (.cons 0 rfl (.cons 0 rfl (.cons 0 rfl .nil))))) (qf 0 rfl (qP 3 rfl (qW qy h0 h1) (qP 3 rfl (qW qy h3 h4) (qP 3 rfl (qW qy h7 h8) (qP 3 rfl (qW qy h10 h11) qh))))) ?_
 refine au [13,22] ?_
 refine qV (vs:=[qsQ x3]) (ys:=([x3]:qsO)) (qu .i64) (by decide) rfl Tryz.underlying56 tf3 rfl rfl rfl rfl rfl (by decide) (fun a3 c2=>?_)
 refine au [0] ?_
 refine qi (.cons 0 rfl (.cons 0 rfl (.cons 0 rfl (.cons 0 rfl (.cons 0 rfl .nil))))) (qf 0 rfl (qP 4 rfl (qW qy h0 h1) (qP 4 rfl (qW qy h3 h4) (qP 4 rfl (qW qy h7 h8) (qP 4 rfl (qW qy h10 h11) qh))))) ?_
 refine au [13,23] ?_
 refine zu 3 (qu .i64) rfl Tryz.underlying56 tf3 rfl rfl rfl rfl rfl (.inl ⟨0,_,rfl⟩) rfl rfl (fun x11 e7 a4 c4=>?_)
 refine au [0] ?_
 refine qi (.cons 0 rfl (.cons 0 rfl (.cons 0 rfl (.cons 0 rfl (.cons 0 rfl .nil))))) (qf 0 rfl (qP 4 rfl (qW qy h0 h1) (qP 4 rfl (qW qy h3 h4) (qP 4 rfl (qW qy h7 h8) (qP 4 rfl (qW qy h10 h11) qh))))) (qg (d:=18) (v:=qsR (some ⟨g10,0,none⟩) x2 c7) rfl (by simp only[qsR,h8] <;> rfl) (qe 24 (.pointer (some ⟨g10,x3.toNat*1,none⟩)) rfl rfl rfl (zU Tryz.underlying22 tf56 rfl rfl (qo e3).1 (zf e3)) (qg (d:=18) (v:=qsR a6 x2 c7) rfl (by simp only[qsR,h8] <;> rfl) ?_)))
 refine au [13,25] ?_
 refine vi (j:=4) (kh:=1) (y':=x10) (q':=(a1,c1)) qy rfl rfl rfl tf56 rfl (zE h8) rfl (qo e3).2.1 rfl (.cons 2 rfl .nil) (fun x12 e8 h13 g13=>?_)
 have h14:x12.length=x2.length:=by rw[← e8,qqR]
 refine qa (d:=18) (v:=qsR a6 x12 c7) rfl (by simp only[qsR,h13] <;> rfl) (qa (d:=21) (v:=qsR a6 x12 c7) rfl (by simp only[qsR,h13] <;> rfl) (qa (d:=24) (v:=qsR a6 x12 c7) rfl (by simp only[qsR,h13] <;> rfl) (qa (d:=33) (v:=qsR a6 x12 c7) rfl (by simp only[qsR,h13] <;> rfl) (ze (i:=1) (cs':=[qsR a6 x12 c7]) rfl (by simp only[qsR,h13] <;> rfl) ?_))))
 refine au [0] ?_
 refine kw 25 rfl (by kernel_rfl) (.cons 0 rfl (.cons 0 (by simp only[qsR,h14] <;> rfl) (.cons 0 rfl (.cons 0 rfl (.cons 0 rfl .nil))))) (qg (d:=21) (v:=.slice (some ⟨g12,0,none⟩) x12.length c7) rfl (by simp only[qsR,h11] <;> rfl) (qe 26 (.pointer (some ⟨g12,x4.toNat*1,none⟩)) rfl rfl rfl (zU Tryz.underlying22 tf56 rfl rfl (qo e4).1 (by rw[h14];exact (zf e4))) (qg (d:=21) (v:=.slice a6 x12.length c7) rfl (by simp only[qsR,h11] <;> rfl) ?_)))
 refine au [13,27] ?_
 refine vi (j:=0) (kh:=0) (y':=x11) (q':=(a4,c4)) qy rfl rfl rfl tf56 rfl (zE h11) rfl (by rw[h14];exact (qo e4).2.1) rfl (.cons 0 rfl .nil) (fun x13 e9 h15 g14=>?_)
 have h16:x13.length=x12.length:=by rw[← e9,qqR]
 refine qa (d:=18) (v:=qsR a6 x13 c7) rfl (by simp only[qsR,h15] <;> rfl) (qa (d:=21) (v:=qsR a6 x13 c7) rfl (by simp only[qsR,h15] <;> rfl) (qa (d:=24) (v:=qsR a6 x13 c7) rfl (by simp only[qsR,h15] <;> rfl) (qa (d:=33) (v:=qsR a6 x13 c7) rfl (by simp only[qsR,h15] <;> rfl) (ze (i:=1) (cs':=[qsR a6 x13 c7]) rfl (by simp only[qsR,h15] <;> rfl) ?_))))
 refine au [0] ?_
 refine kw 25 rfl (by kernel_rfl) (.cons 0 rfl (.cons 0 (by simp only[qsR,h16,h14] <;> rfl) (.cons 0 rfl (.cons 0 rfl (.cons 0 rfl .nil))))) ?_
 refine au [16] ?_
 refine qm ?_ (by intro c h;cases h)
 refine au [24,2] ?_
 exact yw (rc:=rc1) rfl (.cons 3 rfl .nil) rfl g14 (.cons 2 rfl (.cons 2 rfl (.cons 0 rfl (.cons 1 rfl .nil)))) (.cons 0 rfl .nil)
 refine kz (m':=((app 8796093022208 x6 ([x4]:qsO)).bind fun x14=>((app 8796093022208 x7 ([x3]:qsO)).bind fun x15=>(lett (x2.set x3.toNat x14) fun x16=>(lett (x16.set x4.toNat x15) fun x17=>some (.inl x17)))))) (rfl) (qV (vs:=[qsQ x3]) (ys:=([x3]:qsO)) (qu .i64) (by decide) rfl Tryz.underlying56 tf3 rfl rfl rfl rfl rfl (by decide) (fun a5 c5=>?_))
 refine au [0] ?_
 refine qi (.cons 0 rfl (.cons 0 rfl (.cons 0 rfl (.cons 0 rfl (.cons 0 rfl .nil))))) (qf 0 rfl (qP 3 rfl (qW qy h0 h1) (qP 3 rfl (qW qy h3 h4) (qP 3 rfl (qW qy h7 h8) (qP 3 rfl (qW qy h10 h11) qh))))) ?_
 refine au [13,14] ?_
 refine zu 4 (qu .i64) rfl Tryz.underlying56 tf3 rfl rfl rfl rfl rfl (.inl ⟨1,_,rfl⟩) rfl rfl (fun x14 e10 a7 c6=>?_)
 refine au [0] ?_
 refine qi (.cons 0 rfl (.cons 0 rfl (.cons 0 rfl (.cons 0 rfl (.cons 0 rfl .nil))))) (qf 0 rfl (qP 4 rfl (qW qy h0 h1) (qP 4 rfl (qW qy h3 h4) (qP 4 rfl (qW qy h7 h8) (qP 4 rfl (qW qy h10 h11) qh))))) ?_
 refine au [13,23] ?_
 refine zu 3 (qu .i64) rfl Tryz.underlying56 tf3 rfl rfl rfl rfl rfl (.inl ⟨1,_,rfl⟩) rfl rfl (fun x15 e11 a8 c8=>?_)
 refine au [0] ?_
 refine qi (.cons 0 rfl (.cons 0 rfl (.cons 0 rfl (.cons 0 rfl (.cons 0 rfl .nil))))) (qf 0 rfl (qP 4 rfl (qW qy h0 h1) (qP 4 rfl (qW qy h3 h4) (qP 4 rfl (qW qy h7 h8) (qP 4 rfl (qW qy h10 h11) qh))))) (qg (d:=18) (v:=qsR (some ⟨g10,0,none⟩) x2 c7) rfl (by simp only[qsR,h8] <;> rfl) (qe 24 (.pointer (some ⟨g10,x3.toNat*1,none⟩)) rfl rfl rfl (zU Tryz.underlying22 tf56 rfl rfl (qo e3).1 (zf e3)) (qg (d:=18) (v:=qsR a6 x2 c7) rfl (by simp only[qsR,h8] <;> rfl) ?_)))
 refine au [13,25] ?_
 refine vi (j:=4) (kh:=1) (y':=x14) (q':=(a7,c6)) qy rfl rfl rfl tf56 rfl (zE h8) rfl (qo e3).2.1 rfl (.cons 1 rfl .nil) (fun x16 e12 h17 g15=>?_)
 have h18:x16.length=x2.length:=by rw[← e12,qqR]
 refine qa (d:=18) (v:=qsR a6 x16 c7) rfl (by simp only[qsR,h17] <;> rfl) (qa (d:=21) (v:=qsR a6 x16 c7) rfl (by simp only[qsR,h17] <;> rfl) (qa (d:=24) (v:=qsR a6 x16 c7) rfl (by simp only[qsR,h17] <;> rfl) (qa (d:=33) (v:=qsR a6 x16 c7) rfl (by simp only[qsR,h17] <;> rfl) (ze (i:=1) (cs':=[qsR a6 x16 c7]) rfl (by simp only[qsR,h17] <;> rfl) ?_))))
 refine au [0] ?_
 refine kw 25 rfl (by kernel_rfl) (.cons 0 rfl (.cons 0 (by simp only[qsR,h18] <;> rfl) (.cons 0 rfl (.cons 0 rfl (.cons 0 rfl .nil))))) (qg (d:=21) (v:=.slice (some ⟨g12,0,none⟩) x16.length c7) rfl (by simp only[qsR,h11] <;> rfl) (qe 26 (.pointer (some ⟨g12,x4.toNat*1,none⟩)) rfl rfl rfl (zU Tryz.underlying22 tf56 rfl rfl (qo e4).1 (by rw[h18];exact (zf e4))) (qg (d:=21) (v:=.slice a6 x16.length c7) rfl (by simp only[qsR,h11] <;> rfl) ?_)))
 refine au [13,27] ?_
 refine vi (j:=0) (kh:=0) (y':=x15) (q':=(a8,c8)) qy rfl rfl rfl tf56 rfl (zE h11) rfl (by rw[h18];exact (qo e4).2.1) rfl (.cons 0 rfl .nil) (fun x17 e13 h19 g16=>?_)
 have h20:x17.length=x16.length:=by rw[← e13,qqR]
 refine qa (d:=18) (v:=qsR a6 x17 c7) rfl (by simp only[qsR,h19] <;> rfl) (qa (d:=21) (v:=qsR a6 x17 c7) rfl (by simp only[qsR,h19] <;> rfl) (qa (d:=24) (v:=qsR a6 x17 c7) rfl (by simp only[qsR,h19] <;> rfl) (qa (d:=33) (v:=qsR a6 x17 c7) rfl (by simp only[qsR,h19] <;> rfl) (ze (i:=1) (cs':=[qsR a6 x17 c7]) rfl (by simp only[qsR,h19] <;> rfl) ?_))))
 refine au [0] ?_
 refine kw 25 rfl (by kernel_rfl) (.cons 0 rfl (.cons 0 (by simp only[qsR,h20,h18] <;> rfl) (.cons 0 rfl (.cons 0 rfl (.cons 0 rfl .nil))))) ?_
 refine au [16] ?_
 refine qm ?_ (by intro c h;cases h)
 refine au [24,2] ?_
 exact yw (rc:=rc1) rfl (.cons 3 rfl .nil) rfl g16 (.cons 2 rfl (.cons 2 rfl (.cons 0 rfl (.cons 1 rfl .nil)))) (.cons 0 rfl .nil)
 refine kz (m':=((app 8796093022208 x6 ([x4]:qsO)).bind fun x18=>((app 8796093022208 x7 ([x3]:qsO)).bind fun x19=>(lett (x2.set x3.toNat x18) fun x20=>(lett (x20.set x4.toNat x19) fun x21=>some (.inl x21)))))) (rfl) (qV (vs:=[qsQ x3]) (ys:=([x3]:qsO)) (qu .i64) (by decide) rfl Tryz.underlying56 tf3 rfl rfl rfl rfl rfl (by decide) (fun a9 c9=>?_))
 refine au [0] ?_
 refine qi (.cons 0 rfl (.cons 0 rfl (.cons 0 rfl (.cons 0 rfl (.cons 0 rfl .nil))))) (qf 0 rfl (qP 2 rfl (qW qy h0 h1) (qP 2 rfl (qW qy h3 h4) (qP 2 rfl (qW qy h7 h8) (qP 2 rfl (qW qy h10 h11) qh))))) ?_
 refine au [13,13] ?_
 refine qV (vs:=[qsQ x4]) (ys:=([x4]:qsO)) (qu .i64) (by decide) rfl Tryz.underlying56 tf3 rfl rfl rfl rfl rfl (by decide) (fun a10 c10=>?_)
 refine au [0] ?_
 refine qi (.cons 0 rfl (.cons 0 rfl (.cons 0 rfl (.cons 0 rfl (.cons 0 rfl .nil))))) (qf 0 rfl (qP 3 rfl (qW qy h0 h1) (qP 3 rfl (qW qy h3 h4) (qP 3 rfl (qW qy h7 h8) (qP 3 rfl (qW qy h10 h11) qh))))) ?_
 refine au [13,14] ?_
 refine zu 4 (qu .i64) rfl Tryz.underlying56 tf3 rfl rfl rfl rfl rfl (.inl ⟨0,_,rfl⟩) rfl rfl (fun x18 e14 a11 c11=>?_)
 refine au [0] ?_
 refine qi (.cons 0 rfl (.cons 0 rfl (.cons 0 rfl (.cons 0 rfl (.cons 0 rfl .nil))))) (qf 0 rfl (qP 4 rfl (qW qy h0 h1) (qP 4 rfl (qW qy h3 h4) (qP 4 rfl (qW qy h7 h8) (qP 4 rfl (qW qy h10 h11) qh))))) ?_
 refine au [13,23] ?_
 refine zu 3 (qu .i64) rfl Tryz.underlying56 tf3 rfl rfl rfl rfl rfl (.inl ⟨2,_,rfl⟩) rfl rfl (fun x19 e15 a12 c12=>?_)
 refine au [0] ?_
 refine qi (.cons 0 rfl (.cons 0 rfl (.cons 0 rfl (.cons 0 rfl (.cons 0 rfl .nil))))) (qf 0 rfl (qP 4 rfl (qW qy h0 h1) (qP 4 rfl (qW qy h3 h4) (qP 4 rfl (qW qy h7 h8) (qP 4 rfl (qW qy h10 h11) qh))))) (qg (d:=18) (v:=qsR (some ⟨g10,0,none⟩) x2 c7) rfl (by simp only[qsR,h8] <;> rfl) (qe 24 (.pointer (some ⟨g10,x3.toNat*1,none⟩)) rfl rfl rfl (zU Tryz.underlying22 tf56 rfl rfl (qo e3).1 (zf e3)) (qg (d:=18) (v:=qsR a6 x2 c7) rfl (by simp only[qsR,h8] <;> rfl) ?_)))
 refine au [13,25] ?_
 refine vi (j:=4) (kh:=1) (y':=x18) (q':=(a11,c11)) qy rfl rfl rfl tf56 rfl (zE h8) rfl (qo e3).2.1 rfl (.cons 1 rfl .nil) (fun x20 e16 h21 g17=>?_)
 have h22:x20.length=x2.length:=by rw[← e16,qqR]
 refine qa (d:=18) (v:=qsR a6 x20 c7) rfl (by simp only[qsR,h21] <;> rfl) (qa (d:=21) (v:=qsR a6 x20 c7) rfl (by simp only[qsR,h21] <;> rfl) (qa (d:=24) (v:=qsR a6 x20 c7) rfl (by simp only[qsR,h21] <;> rfl) (qa (d:=33) (v:=qsR a6 x20 c7) rfl (by simp only[qsR,h21] <;> rfl) (ze (i:=1) (cs':=[qsR a6 x20 c7]) rfl (by simp only[qsR,h21] <;> rfl) ?_))))
 refine au [0] ?_
 refine kw 25 rfl (by kernel_rfl) (.cons 0 rfl (.cons 0 (by simp only[qsR,h22] <;> rfl) (.cons 0 rfl (.cons 0 rfl (.cons 0 rfl .nil))))) (qg (d:=21) (v:=.slice (some ⟨g12,0,none⟩) x20.length c7) rfl (by simp only[qsR,h11] <;> rfl) (qe 26 (.pointer (some ⟨g12,x4.toNat*1,none⟩)) rfl rfl rfl (zU Tryz.underlying22 tf56 rfl rfl (qo e4).1 (by rw[h22];exact (zf e4))) (qg (d:=21) (v:=.slice a6 x20.length c7) rfl (by simp only[qsR,h11] <;> rfl) ?_)))
 refine au [13,27] ?_
 refine vi (j:=0) (kh:=0) (y':=x19) (q':=(a12,c12)) qy rfl rfl rfl tf56 rfl (zE h11) rfl (by rw[h22];exact (qo e4).2.1) rfl (.cons 0 rfl .nil) (fun x21 e17 h23 g18=>?_)
 have h24:x21.length=x20.length:=by rw[← e17,qqR]
 refine qa (d:=18) (v:=qsR a6 x21 c7) rfl (by simp only[qsR,h23] <;> rfl) (qa (d:=21) (v:=qsR a6 x21 c7) rfl (by simp only[qsR,h23] <;> rfl) (qa (d:=24) (v:=qsR a6 x21 c7) rfl (by simp only[qsR,h23] <;> rfl) (qa (d:=33) (v:=qsR a6 x21 c7) rfl (by simp only[qsR,h23] <;> rfl) (ze (i:=1) (cs':=[qsR a6 x21 c7]) rfl (by simp only[qsR,h23] <;> rfl) ?_))))
 refine au [0] ?_
 refine kw 25 rfl (by kernel_rfl) (.cons 0 rfl (.cons 0 (by simp only[qsR,h24,h22] <;> rfl) (.cons 0 rfl (.cons 0 rfl (.cons 0 rfl .nil))))) ?_
 refine au [16] ?_
 refine qm ?_ (by intro c h;cases h)
 refine au [24,2] ?_
 exact yw (rc:=rc1) rfl (.cons 3 rfl .nil) rfl g18 (.cons 2 rfl (.cons 2 rfl (.cons 0 rfl (.cons 1 rfl .nil)))) (.cons 0 rfl .nil)
 intro _
 refine au [11,24,2] ?_
 exact yw (rc:=rc1) rfl (.cons 3 rfl .nil) rfl g1 (.cons 2 rfl (.cons 2 rfl (.cons 0 rfl (.cons 1 rfl .nil)))) (.cons 0 rfl .nil)
 rintro x2 _ g1 D1
 try dsimp only
 refine au [63] ?_
 refine qj (fun ((x22,g19):(List (qsO)×List (qsP×Nat)))=>([(3,qsS g8)],[(dblk D1),⟨g8,22,[qsR a6 x22 c7]⟩],[RoN eN56 rN56 56 1 (qsR a6 x22 c7) x22 g19 []],[],qfp F x22)) ?_ ?_
 refine au [47,26,1,122,76] ?_
 refine qB (fun (((x23,x24),g20):((Int×List (qsO))×List (qsP×Nat)))=>([(3,qsS g8),(45,qsQ (x2.length:Int)),(46,qsQ x23)],[(dblk D1),⟨g8,22,[qsR a6 x24 c7]⟩],[RoN eN56 rN56 56 1 (qsR a6 x24 c7) x24 g20 []],[])) (fun k (s:((Int×List (qsO))×List (qsP×Nat)))=>qaU F x2 k s.1) ((0,x2),g1) F ?_
 intro k0
 rintro ⟨⟨x23,x24⟩,g20⟩
 try dsimp only
 refine qH (m':=qfo F x2 (qaU F x2 k0) x23 x24) rfl ?_
 refine av [96] ?_ ?_
 intro _
 refine au [83,48,84,25,6,3,31,4] ?_
 intro x25 e18 g21 h25 g22 h26
 refine qhW (i:=0) rfl h25 (qq0) (qgV (j:=1) (p:=(x25,g21)) qy rfl rfl tf56 rfl h26 h25 rfl (fun _=>rfl) rfl rfl ?_)
 refine au [31,5] ?_
 intro x26 e19 _
 refine au [26,10] ?_
 intro h27
 replace h27:=of_decide_eq_true h27
 refine qa (d:=52) (v:=qsR g21.1 x26 g21.2) rfl (by simp only[qsR,h27] <;> rfl) ?_
 refine au [45] ?_
 refine qmH (rin:=rN56) (i:=0) (kh:=0) (y:=x26) (q:=g21) (.cons 0 rfl .nil) rfl rfl h25 (by simp only[qsR,eN56,h27]) (fun x27 e20 h28 g23=>?_)
 have h29:x27.length=x24.length:=by rw[← e20,qqR]
 refine qoJ (d:=49) (v:=qsR a6 x27 c7) rfl (by simp only[qsR,h28] <;> rfl) (qkQ (i:=1) (cs':=[qsR a6 x27 c7]) rfl (by simp only[qsR,h28] <;> rfl) ?_)
 refine au [29,9] ?_
 intro x28 e21 g24 h30 g25 h31
 replace h31:a6=some ⟨g25,0,none⟩:=h31
 have h32:=zE (k:=x27.length) (c:=c7) h31
 refine qcS (i:=0) rfl h30 (qq0) ?_
 refine au [28,13] ?_
 intro x29 e22 g26 h33 g27 h34
 replace h34:a6=some ⟨g27,0,none⟩:=h34
 have h35:=zE (k:=x27.length) (c:=c7) h34
 refine qt mixed [8] [(dblk D1),⟨g8,22,[qsR a6 x27 c7]⟩] [qC g25 (x23.toNat*1) (eN56 (x28,g24)),qC g27 (x23.toNat*1) (eN56 (x29,g26))] (.cons 0 rfl (.cons 0 rfl .nil)) (qP 1 rfl (qW qy h30 h31) (qP 1 rfl (qW qy h33 h34) qh)) 9 rfl ?_
 refine au [26,4,0,6,1,26,4,2,6,3] ?_
 refine qg (d:=56) (v:=qsR (some ⟨g25,0,none⟩) x27 c7) rfl (by simp only[qsR,h31] <;> rfl) (qe 4 (.pointer (some ⟨g25,x23.toNat*1,none⟩)) rfl rfl rfl (zU Tryz.underlying22 tf56 rfl rfl (qo e21).1 (zf e21)) (qg (d:=56) (v:=qsR a6 x27 c7) rfl (by simp only[qsR,h31] <;> rfl) (qJ 5 (qsR g24.1 x28 g24.2) [[8]] rfl rfl rfl (q7 (j:=0) rfl tf56 rfl rfl (fun _=>rfl) rfl) ?_)))
 refine au [13,6,32,14] ?_
 rintro x30 e23 ⟨a13,c13⟩
 refine au [0] ?_
 refine qi (.cons 0 rfl (.cons 0 rfl .nil)) (qP 1 rfl (qW qy h30 h31) (qP 1 rfl (qW qy h33 h34) qh)) (qg (d:=54) (v:=qsR (some ⟨g27,0,none⟩) x27 c7) rfl (by simp only[qsR,h34] <;> rfl) (qe 7 (.pointer (some ⟨g27,x23.toNat*1,none⟩)) rfl rfl rfl (zU Tryz.underlying22 tf56 rfl rfl (qo e22).1 (zf e22)) (qg (d:=54) (v:=qsR a6 x27 c7) rfl (by simp only[qsR,h34] <;> rfl) ?_)))
 refine au [13,8] ?_
 refine vi (j:=1) (kh:=0) (y':=x30) (q':=(a13,c13)) qy rfl rfl rfl tf56 rfl (zE h34) rfl (qo e22).2.1 rfl (.cons 0 rfl .nil) (fun x31 e24 h36 g28=>?_)
 have h37:x31.length=x27.length:=by rw[← e24,qqR]
 refine qa (d:=49) (v:=qsR a6 x31 c7) rfl (by simp only[qsR,h36] <;> rfl) (qa (d:=54) (v:=qsR a6 x31 c7) rfl (by simp only[qsR,h36] <;> rfl) (qa (d:=56) (v:=qsR a6 x31 c7) rfl (by simp only[qsR,h36] <;> rfl) (ze (i:=1) (cs':=[qsR a6 x31 c7]) rfl (by simp only[qsR,h36] <;> rfl) ?_)))
 refine au [0] ?_
 refine kw 8 rfl (by kernel_rfl) (.cons 0 rfl (.cons 0 (by simp only[qsR,h37] <;> rfl) .nil)) ?_
 refine au [16] ?_
 refine qm ?_ (by intro c h;cases h)
 refine au [99] ?_
 exact qr ((iadd .i64 x23 1,x31),g28)
 intro _
 refine au [73] ?_
 exact qb (x24,g20)
 rintro ⟨x22,g19⟩
 try dsimp only
 refine au [47,25,6,49] ?_
 exact y1 [D1] (a6,(c7,g19)) (.inl rfl) rfl (.cons 0 rfl .nil) (res1 rfl rfl) (fun h=>by subst h;rfl) (fun h=>by subst h;exact .nil) (fun h=>by subst h;exact (.cons 0 rfl .nil))
 intro t;exact t.elim
set_option maxHeartbeats 4000000 in
theorem qf0 {F:Nat}{g1:Nat}{x2:List (qsO)}{a3:qsP}{c4:Nat}{s4:List (qsP×Nat)}{x5:qsO}{a6:qsP}{c7:Nat}{r:(Int×qsO)}(hm:jZ F x2 x5=some r) :
    PureM Tryz.prog 98 [qsS g1] [⟨g1,137,[qsR a3 x2 c4,qsR a6 x5 c7]⟩] [qsU a6 x5 c7] [SlN eN56 iN56 1 (qsR a3 x2 c4) x2 s4] (qsP×Nat) (fun _=>qsQ r.1) (fun g=>[⟨g1,137,[qsR a3 x2 c4,qsR g.1 r.2 g.2]⟩]) (fun g=>[qsU g.1 r.2 g.2]):=by
 refine qE Tryz.func98 rfl Tryz.ntmps98 rfl hm (fun w=>?_)
 refine au [59,84,46] ?_
 refine qj (fun ((x0,_):(Int×Unit))=>([(3,qsQ x0)],[⟨g1,137,[qsR a3 x2 c4,qsR a6 x5 c7]⟩],[qsU a6 x5 c7],[SlN eN56 iN56 1 (qsR a3 x2 c4) x2 s4],qaG F x5 x0)) ?_ ?_
 refine au [48,114,122,76] ?_
 refine qB (fun (((x1,x3),_):((Int×Int)×Unit))=>([(0,qsS g1),(3,qsQ x1),(9,qsR a6 x5 c7),(10,qsQ (x5.length:Int)),(11,qsQ x3)],[⟨g1,137,[qsR a3 x2 c4,qsR a6 x5 c7]⟩],[qsU a6 x5 c7],[SlN eN56 iN56 1 (qsR a3 x2 c4) x2 s4])) (fun k (s:((Int×Int)×Unit))=>zI F x5 k s.1) ((-1,0),()) F ?_
 intro k0
 rintro ⟨⟨x1,x3⟩,_⟩
 try dsimp only
 refine qH (m':=qaF F x5 (zI F x5 k0) x1 x3) rfl ?_
 refine av [96] ?_ ?_
 intro _
 refine au [57] ?_
 refine qj (fun ((x4,_):(Int×Unit))=>([(0,qsS g1),(3,qsQ x4),(9,qsR a6 x5 c7),(10,qsQ (x5.length:Int)),(11,qsQ x3)],[⟨g1,137,[qsR a3 x2 c4,qsR a6 x5 c7]⟩],[qsU a6 x5 c7],[SlN eN56 iN56 1 (qsR a3 x2 c4) x2 s4],vp F (zI F x5 k0) x3 x4)) ?_ ?_
 refine au [14,48,26,3] ?_
 intro x6 e0 g0 h0
 refine z7 (j:=0) (y:=x6) (qu .i64) rfl rfl tf3 rfl h0 (qo e0).2.2 (fun _=>rfl) rfl rfl ?_
 refine au [5,58,26,5,3] ?_
 refine zp 14 (fun ((x7,_):(Bool×Unit))=>([(0,qsS g1),(3,qsQ x1),(4,qsQ x3),(9,qsR a6 x5 c7),(10,qsQ (x5.length:Int)),(11,qsQ x3),(32,.bool x7)],[⟨g1,137,[qsR a3 x2 c4,qsR a6 x5 c7]⟩],[qsU a6 x5 c7],[SlN eN56 iN56 1 (qsR a3 x2 c4) x2 s4],vq F (zI F x5 k0) x1 x3 x7)) ?_ ?_
 refine qc (os:=_) rfl ?_
 refine av [25,14] ?_ ?_
 intro h1
 refine qA (k:=18) rfl h1 ?_
 refine au [3,24,3,3] ?_
 refine zp 10 (fun (((x8,x9),_):((Bool×Bool)×Unit))=>([(0,qsS g1),(3,qsQ x1),(4,qsQ x3),(9,qsR a6 x5 c7),(10,qsQ (x5.length:Int)),(11,qsQ x3),(18,.bool true),(19,qsQ x1),(20,.bool (decide (x1<0))),(21,.bool x8),(31,.bool x9)],[⟨g1,137,[qsR a3 x2 c4,qsR a6 x5 c7]⟩],[qsU a6 x5 c7],[SlN eN56 iN56 1 (qsR a3 x2 c4) x2 s4],vr F (zI F x5 k0) x1 x3 x8 x9)) ?_ ?_
 refine qc (os:=_) rfl ?_
 refine av [25,14] ?_ ?_
 intro h2
 refine qA (k:=21) rfl h2 ?_
 refine au [65,65,7,106] ?_
 exact qb ((true,true),())
 intro h2
 refine qz (k:=21) rfl h2 ?_
 refine au [3,3,114,3,26,3] ?_
 intro x10 e1 g2 h3
 refine z7 (j:=0) (y:=x10) (qu .i64) rfl rfl tf3 rfl h3 (qo e1).2.2 (fun _=>rfl) rfl rfl ?_
 refine au [24,3,109] ?_
 exact qb ((false,(decide (x6<x10))),())
 rintro ⟨⟨x8,x9⟩,_⟩
 try dsimp only
 refine qc (os:=_) rfl ?_
 refine au [106] ?_
 exact qb (x9,())
 intro h1
 refine qz (k:=18) rfl h1 ?_
 refine au [65,65,65,7,109] ?_
 exact qb (false,())
 rintro ⟨x7,_⟩
 try dsimp only
 refine qc (os:=_) rfl ?_
 refine av [50] ?_ ?_
 intro _
 refine au [4,3,5,0,24,2] ?_
 exact qb (x3,())
 intro _
 refine au [11,24,2] ?_
 exact qb (x1,())
 rintro ⟨x4,_⟩
 try dsimp only
 refine au [98] ?_
 exact qr ((x4,iadd .i64 x3 1),())
 intro _
 refine au [73] ?_
 exact qb (x1,())
 rintro ⟨x0,_⟩
 try dsimp only
 refine au [48,49] ?_
 exact qX (a6,c7)
set_option maxHeartbeats 4000000 in
theorem qgt {F:Nat}{g1:Nat}{x2:List (qsO)}{a3:qsP}{c4:Nat}{s4:List (qsP×Nat)}{x5:qsO}{a6:qsP}{c7:Nat}{x8:Int}{r:qsO}(hm:qcW F x2 x5 x8=some r) :
    PureM Tryz.prog 99 [qsS g1,qsQ x8] [⟨g1,137,[qsR a3 x2 c4,qsR a6 x5 c7]⟩] [qsU a6 x5 c7] [SlN eN56 iN56 1 (qsR a3 x2 c4) x2 s4] (qsP×Nat) (fun _=>.tuple #[]) (fun g=>[⟨g1,137,[qsR a3 x2 c4,qsR g.1 r g.2]⟩]) (fun g=>[qsU g.1 r g.2]):=by
 refine qE Tryz.func99 rfl Tryz.ntmps99 rfl hm (fun w=>?_)
 refine au [24,8,48,114,3,26,3] ?_
 intro x9 e9 g10 h11
 refine zX (j:=0) (y':=-1) (qu .i64) rfl rfl rfl tf3 rfl h11 (qo e9).2.1 rfl (fun x12 e12 h13=>?_)
 have h14:x12.length=x5.length:=by rw[← e12,qqR]
 refine qa (d:=9) (v:=qsR a6 x12 c7) rfl h13 (ze (i:=0) (cs':=[qsR a3 x2 c4,qsR a6 x12 c7]) rfl (by simp only[qsR,h13] <;> rfl) ?_)
 refine au [45,48,114,3,27,1] ?_
 intro x15 e15 g18 b16 o17
 refine au [25,2,122,76] ?_
 refine qB (fun (((x54,x55),_):((Int×qsO)×Unit))=>([(0,qsS g1),(18,qsR g18.1 x15 g18.2),(19,qsQ (x15.length:Int)),(20,qsQ x54)],[⟨g1,137,[qsR a3 x2 c4,qsR a6 x55 c7]⟩],[qsU a6 x55 c7],[qsT g18.1 x15 g18.2,SlN eN56 iN56 1 (qsR a3 x2 c4) x2 s4])) (fun k (s:((Int×qsO)×Unit))=>kZ F x15 k s.1) ((0,x12),()) F ?_
 intro k91
 rintro ⟨⟨x54,x55⟩,_⟩
 try dsimp only
 refine qH (m':=qbn F x15 (kZ F x15 k91) x54 x55) rfl ?_
 refine av [96] ?_ ?_
 intro _
 refine au [57] ?_
 refine qj (fun ((x0,_):(qsO×Unit))=>([(0,qsS g1),(18,qsR g18.1 x15 g18.2),(19,qsQ (x15.length:Int)),(20,qsQ x54)],[⟨g1,137,[qsR a3 x2 c4,qsR a6 x0 c7]⟩],[qsU a6 x0 c7],[qsT g18.1 x15 g18.2,SlN eN56 iN56 1 (qsR a3 x2 c4) x2 s4],vY F (kZ F x15 k91) x54 x0)) ?_ ?_
 refine au [14,47,26,2] ?_
 intro x1 e0 b0 o0
 refine au [25,2,58,114,3,26,3] ?_
 intro x3 e1 g0 h0
 refine z7 (j:=0) (y:=x3) (qu .i64) rfl rfl tf3 rfl h0 (qo e1).2.2 (fun _=>rfl) rfl rfl ?_
 refine av [26,5,50] ?_ ?_
 intro _
 refine au [4,3,114,3,26,3] ?_
 intro x4 e2 g2 h1
 refine z7 (j:=0) (y:=x4) (qu .i64) rfl rfl tf3 rfl h1 (qo e2).2.2 (fun _=>rfl) rfl rfl ?_
 refine au [25,10,26,3] ?_
 intro x6 e3 g3 h2
 refine zX (j:=0) (y':=isub .i64 x4 1) (qu .i64) rfl rfl rfl tf3 rfl h2 (qo e3).2.1 rfl (fun x7 e4 h3=>?_)
 have h4:x7.length=x55.length:=by rw[← e4,qqR]
 refine qa (d:=27) (v:=qsR a6 x7 c7) rfl h3 (qa (d:=35) (v:=qsR a6 x7 c7) rfl h3 (ze (i:=0) (cs':=[qsR a3 x2 c4,qsR a6 x7 c7]) rfl (by simp only[qsR,h3] <;> rfl) ?_))
 refine au [0,24,2] ?_
 exact qb (x7,())
 intro _
 refine au [11,24,2] ?_
 exact qb (x55,())
 rintro ⟨x0,_⟩
 try dsimp only
 refine au [98] ?_
 exact qr ((iadd .i64 x54 1,x0),())
 intro _
 refine au [73] ?_
 exact qX (a6,c7)
set_option maxHeartbeats 4000000 in
theorem qiu (F:Nat)(x1:List (qsO))(a2:qsP)(c3:(Nat×List (qsP×Nat)))(r:(qsO×Int))(hm:qfm F x1=some r) :
    Pure Tryz.prog 69 [.agg #[qsR a2 x1 c3.1]] [SlN eN56 iN56 1 (qsR a2 x1 c3.1) x1 c3.2] (qsP×Nat) (fun g=>.tuple #[qsR g.1 r.1 g.2,qsQ r.2]) (fun g=>[qsU g.1 r.1 g.2]) (fun _=>[]):=by
 refine qs Tryz.func69 rfl Tryz.ntmps69 rfl hm (fun w=>?_)
 refine au [59,22] ?_
 intro g4
 refine au [5,71,74,28,0] ?_
 intro x7 e7 _
 refine av [58,70] ?_ ?_
 intro _
 refine au [48,5,107] ?_
 exact qI (none,0)
 intro _
 refine au [57,74,32,15] ?_
 rintro x8 e8 ⟨a9,c10⟩
 refine qq (cells:=[qsR a9 x8 c10.1,.slice none 0 0]) rfl st137 rfl (by kernel_rfl) rfl ?_
 refine au [22] ?_
 intro g11
 refine au [46] ?_
 refine qj (fun ((x86,(a84,c85)):(qsO×(qsP×Nat)))=>([(5,qsS g11)],[⟨g11,137,[qsR a9 x8 c10.1,qsR a84 x86 c85]⟩],[RoN eN56 rN56 56 1 (qsR a9 x8 c10.1) x8 c10.2 [],qsU a84 x86 c85],[],qdy F x8 x86)) ?_ ?_
 refine au [48,114,122,76,27,12] ?_
 refine qB (fun (((x0,x2),(a0,c0)):((Int×qsO)×(qsP×Nat)))=>([(5,qsS g11),(23,qsR a9 x8 c10.1),(24,qsQ (x8.length:Int)),(25,qsQ x0)],[⟨g11,137,[qsR a9 x8 c10.1,qsR a0 x2 c0]⟩],[RoN eN56 rN56 56 1 (qsR a9 x8 c10.1) x8 c10.2 [],qsU a0 x2 c0],[])) (fun k (s:((Int×qsO)×(qsP×Nat)))=>jh F x8 k s.1) ((0,([]:qsO)),(none,0)) F ?_
 intro k0
 rintro ⟨⟨x0,x2⟩,⟨a0,c0⟩⟩
 try dsimp only
 refine qH (m':=qdx F x8 (jh F x8 k0) x0 x2) rfl ?_
 refine av [96] ?_ ?_
 intro _
 refine au [83,47,31,4] ?_
 intro x3 e0 g0 h0 g1 h1
 refine qhW (i:=0) rfl h0 (qq0) (qgV (j:=1) (p:=(x3,g0)) qy rfl rfl tf56 rfl h1 h0 rfl (fun _=>rfl) rfl rfl ?_)
 refine au [46,4,3,3,114,3,24,6] ?_
 refine qV (vs:=[qsQ (x3.length:Int)]) (ys:=([(x3.length:Int)]:qsO)) (qu .i64) (by decide) rfl Tryz.underlying56 tf3 rfl rfl rfl rfl rfl (by decide) (fun a1 c1=>zu 3 (qu .i64) rfl Tryz.underlying56 tf3 rfl rfl rfl rfl rfl (.inl ⟨0,_,rfl⟩) rfl rfl (fun x4 e1 a3 c2=>?_))
 refine au [55,86,63] ?_
 refine qgS (rin:=rN56) (p:=(x3,g0)) (i:=2) (k:=0) (.cons 2 rfl .nil) rfl rfl h0 ?_
 refine au [98] ?_
 exact qr ((iadd .i64 x0 1,x4),(a3,c2))
 intro _
 refine au [73] ?_
 exact qb (x2,(a0,c0))
 rintro ⟨x86,⟨a84,c85⟩⟩
 try dsimp only
 refine au [48,114,24,6,26,0] ?_
 intro x87 e87 a88 c89
 refine au [84,46] ?_
 refine qj (fun ((x5,_):(qsO×Unit))=>([(8,qsR a88 x5 c89)],[],[qsU a88 x5 c89],[],qdz F x5)) ?_ ?_
 refine au [48,33,0] ?_
 rintro x6 e2 ⟨a4,c4⟩
 refine au [46,14] ?_
 refine qB (fun (((x9,x10,x11,x12),(a5,c5)):((qsO×Int×Int×qsO)×(qsP×Nat)))=>([(5,qsS g11),(8,qsR a88 x9 c89),(9,qsQ x10),(10,qsQ x11)],[⟨g11,137,[qsR a9 x8 c10.1,qsR a5 x12 c5]⟩],[qsU a88 x9 c89,RoN eN56 rN56 56 1 (qsR a9 x8 c10.1) x8 c10.2 [],qsU a5 x12 c5],[])) (fun k (s:((qsO×Int×Int×qsO)×(qsP×Nat)))=>jg F x8 k s.1) ((x87,0,x6.1,x6.2),(a4,c4)) F ?_
 intro k1
 rintro ⟨⟨x9,x10,x11,x12⟩,⟨a5,c5⟩⟩
 try dsimp only
 refine qH (m':=qdw F x8 (jg F x8 k1) x9 x10 x11 x12) rfl ?_
 refine av [1,48,26,5,50] ?_ ?_
 intro _
 refine au [83,87,114,3] ?_
 refine qaC (j:=2) rfl UnF.u inferInstance rfl rfl rfl rfl ?_
 intro x13 e3 g2 h2
 refine z7 (j:=2) (y:=x13) (qu .i64) rfl rfl tf3 rfl h2 (qo e3).2.2 (fun _=>rfl) rfl rfl (qpD rfl rfl rfl rfl ?_)
 refine au [58,3,3,26,3] ?_
 intro x14 e4 g3 h3
 refine zX (j:=0) (y':=imax x10 x13) (qu .i64) rfl rfl rfl tf3 rfl h3 (qo e4).2.1 rfl (fun x15 e5 h4=>?_)
 have h5:x15.length=x9.length:=by rw[← e5,qqR]
 refine qa (d:=8) (v:=qsR a88 x15 c89) rfl h4 (qa (d:=62) (v:=qsR a88 x15 c89) rfl h4 ?_)
 refine au [45,4,3,3] ?_
 refine qF qgt ?_
 rintro x16 e6 ⟨a6,c6⟩
 refine au [0,63,4,3,33,0] ?_
 rintro x17 e9 ⟨a7,c7⟩
 refine au [5,0] ?_
 exact qr ((x15,imax x10 x13,x17.1,x17.2),(a7,c7))
 intro _
 refine au [73] ?_
 exact qb (x9,())
 rintro ⟨x5,_⟩
 try dsimp only
 refine au [48,5,49] ?_
 exact qI (a88,c89)
theorem qb6 {F:Nat}{g1:Nat}{x2:List (qsO)}{a3:qsP}{c4:Nat}{s4:List (qsP×Nat)}{x5:Int}{x6:Int}{x7:Int}{x8:qsO}{a9:qsP}{c10:Nat}{x11:qsO}{r:Unit}(hm:vC F x2 x5 x6 x7 x8 x11=some r) :
    PureM Tryz.prog 66 [qsS g1,.func (.func 67) #[] #[]] [⟨g1,85,[qsR a3 x2 c4,qsQ x5,qsQ x6,qsQ x7,qsR a9 x8 c10,.string (bstr x11)]⟩] [] [SlN eN56 iN56 1 (qsR a3 x2 c4) x2 s4,qsT a9 x8 c10] (Nat×Nat) (fun g=>.func (.func 94) #[] #[qsS g.1,qsS g.2]) (fun g=>[⟨g.1,83,[qsS g1]⟩,⟨g.2,107,[.func (.func 67) #[] #[]]⟩,⟨g1,85,[qsR a3 x2 c4,qsQ x5,qsQ x6,qsQ x7,qsR a9 x8 c10,.string (bstr x11)]⟩]) (fun _=>[]):=by
 refine qE Tryz.func66 rfl Tryz.ntmps66 rfl hm (fun w=>?_)
 refine au [118] ?_
 intro g12
 refine au [22] ?_
 intro g13
 refine au [84,27,4,49] ?_
 exact qX (g12,g13)
theorem qb5 {F:Nat}{g1:Nat}{x2:List (qsO)}{a3:qsP}{c4:Nat}{s4:List (qsP×Nat)}{x5:Int}{x6:Int}{x7:Int}{x8:qsO}{a9:qsP}{c10:Nat}{x11:qsO}{r:Unit}(hm:vB F x2 x5 x6 x7 x8 x11=some r) :
    PureM Tryz.prog 66 [qsS g1,.func (.func 69) #[] #[]] [⟨g1,85,[qsR a3 x2 c4,qsQ x5,qsQ x6,qsQ x7,qsR a9 x8 c10,.string (bstr x11)]⟩] [] [SlN eN56 iN56 1 (qsR a3 x2 c4) x2 s4,qsT a9 x8 c10] (Nat×Nat) (fun g=>.func (.func 94) #[] #[qsS g.1,qsS g.2]) (fun g=>[⟨g.1,83,[qsS g1]⟩,⟨g.2,107,[.func (.func 69) #[] #[]]⟩,⟨g1,85,[qsR a3 x2 c4,qsQ x5,qsQ x6,qsQ x7,qsR a9 x8 c10,.string (bstr x11)]⟩]) (fun _=>[]):=by
 refine qE Tryz.func66 rfl Tryz.ntmps66 rfl hm (fun w=>?_)
 refine au [118] ?_
 intro g12
 refine au [22] ?_
 intro g13
 refine au [84,27,4,49] ?_
 exact qX (g12,g13)
end Go.Proofs.YthibchijlpflmaaGreatDoor
