/- Plain facts of what the functions of this seat compute, part 3. -/
import Derived.Test.YtlioijpkhffbnaaGreatPureLoad11p2
import Derived.KernelRfl
import Derived.Lib.SlicesCompact
open List renaming length_append→qxQ, getElem?_eq_getElem→qxR, append_assoc→qxS, drop_eq_getElem_cons→qxT, mem_append→qxV, drop_eq_nil_of_le→qxW, length_cons→qxY, mem_cons→qx1, flatMap_cons→qx4, nil_append→qx6, mem_cons_of_mem→qx7, drop_zero→qx8, getElem_mem→qx9, length_drop→qya, length_nil→qyc, mem_cons_self→qyf, append_nil→qyh, mem_of_mem_take→qyV, take_length→qzf, drop_left→qzg, mem_of_mem_drop→qzw, length→qzx, drop_drop→qzB, drop_left'→qzT, flatMap_nil→qAo
open List.cons renaming inj→qAi
open Nat renaming le_refl→qyb
open Option renaming bind_some→qxP
open Option.some renaming injEq→qx2
open Prod.mk renaming injEq→qzs
namespace Go.Proofs.YtlioijpkhffbnaaGreat
open Go SX
variable {F:Nat} {rec68:(List (Int×Int)×qAE×Int)→Option (List (Int×Int)×qAE)} {l:qAE} {least:Int} {o:List (Int×Int)} {rest:qAE} {i:Int}
theorem qtU {b:qAE}{n:Nat}(hn:n≤100):∀ {g:List (qAE)} {p s:Nat} {acc:List (qAE)} {t:qAE},acc.length+g.length=n→(∀ l∈g,gkc l=0∧l.length≤n)→b.drop p=gfT (acc.length:Int) g++t →
  pgr b n g.length p s acc=some (acc++g,p+(gfT (acc.length:Int) g).length,s+(g.length+gtot g))
 | [],p,s,acc,t,_,_,h=>by simp[pgr,gtot,gfT]
 | l::g,p,s,acc,t,hl,hg,h=>by
  rw[qxY] at hl
  rw[qfE,qxS,qxS] at h
  have h0:=hg l qyf
  obtain ⟨h1,h2⟩:=qt2 (n:=n) (by omega) hn h0.2 h0.1 h
  have hac:(acc++[l]).length=acc.length+1:=by simp
  have h3:=qtU hn (p:=p+(vn l.length).length+((gp false (acc.length:Int) l).flatMap vn).length) (s:=s+(1+l.length)) (acc:=acc++[l]) (g:=g) (t:=t) (by rw[hac];omega) (fun y hy=>hg y (qx7 _ hy)) (by rw[hac];exact h2)
  rw[qxY,qfE,ql7]
  unfold pgr
  rw[h1]
  simp only
  rw[h3,qxS,hac]
  simp only[qxQ,qx2,qzs]
  refine ⟨rfl,?_,by omega⟩
  rw[show (((acc.length+1:Nat)):Int)=(acc.length:Int)+1 from by omega]
  omega
theorem qvJ {b:qAE}{g:List (qAE)}(hg:gchk g=0)(hb:b.drop 3=vn g.length++gfT 0 g)(h3:3≤b.length):pG b=some (g,1+(g.length+gtot g)):=by
 have hG:=qaQ.1 hg
 have hl:=hG.1
 obtain ⟨h1,h2⟩:=qf3 (most:=100) hb (by omega) (by omega) (by decide)
 have h4:=qtU (n:=g.length) hl (g:=g) (p:=3+(vn (g.length:Int)).length) (s:=1) (acc:=[]) (t:=[]) (by simp) (fun l hlg=>⟨qkn hG hlg,by
  have h1:=(hG.2.1 l hlg).2
  have h2:rowE g.length (-1) l=0:=qhJ.2 ⟨⟨(hG.2.1 l hlg).1,fun x hx=>by have:=h1 x hx;omega⟩,h1⟩
  have:=qhK (by omega) (by omega) h2
  omega⟩) (by rw[h2,qyh];rfl)
 unfold pG
 rw[h1]
 simp only
 rw[show ((g.length:Int)).toNat=g.length from by omega,h4]
 simp only[qx6,qyc]
 have hp:=congrArg qzx hb
 rw[qya,qxQ] at hp
 rw[show (((0:Nat)):Int)=0 from rfl,if_pos ⟨by omega,hg⟩]
theorem qpj {b:qAE}(hb:U8s b){most:Int}:∀ {m p:Nat} {acc:qAE} {y:qAE×Nat},p≤b.length→pnums b most m p acc=some y →
  ∃ zs,y.1=acc++zs∧zs.length=m∧(∀ x∈zs,0≤x∧x≤most)∧b.drop p=zs.flatMap vn++b.drop y.2∧y.2≤b.length
 | 0,p,acc,y,hp,h=>by
  unfold pnums at h
  simp only[qx2] at h
  subst h
  exact ⟨[],by simp,rfl,fun x hx=>by simp at hx,rfl,hp⟩
 | m+1,p,acc,y,hp,h=>by
  unfold pnums at h
  cases hq:pnum b p most with
  | none=>rw[hq] at h;cases h
  | some w =>
   rw[hq] at h
   simp only at h
   obtain ⟨w0,w1,w2,w3,w4,_⟩:=j1 hb hp hq
   obtain ⟨zs,e1,e2,e3,e4,e5⟩:=qpj hb w3 h
   refine ⟨w.1::zs,by rw[e1,qxS];rfl,by rw[qxY,e2],fun x hx=>?_,?_,e5⟩
   ·rcases qx1.1 hx with rfl | hx
    ·exact ⟨w0,w1⟩
    ·exact e3 x hx
   ·rw[w4,e4,qx4,qxS]
theorem qt3 {b:qAE}(hb:U8s b){p node:Nat}(hp:p≤b.length){n:Int}{y:qAE×Nat×Nat}(h:plist b p node n=some y) :
  b.drop p=vn y.1.length++((gp false (node:Int) y.1).flatMap vn++b.drop y.2.1)∧y.2.1≤b.length∧y.2.2=1+y.1.length:=by
 unfold plist at h
 cases hq:pnum b p n with
 | none=>rw[hq] at h;cases h
 | some w =>
  rw[hq] at h
  simp only at h
  obtain ⟨w0,w1,w2,w3,w4,_⟩:=j1 hb hp hq
  cases hz:pnums b 2097152 w.1.toNat w.2 [] with
  | none=>rw[hz] at h;cases h
  | some z =>
   rw[hz] at h
   simp only at h
   obtain ⟨zs,e1,e2,e3,e4,e5⟩:=qpj hb w3 hz
   rw[qx6] at e1
   rw[e1] at h
   split at h
   ·rename_i hg
    simp only[qx2] at h
    unfold gb at h hg
    split at hg
    ·cases hg
    ·rename_i h300
     rw[if_neg h300] at h
     split at hg
     ·rename_i hnd
      rw[if_pos hnd] at h
      cases hbk:bk false (node:Int) zs with
      | none=>rw[hbk] at hg;cases hg
      | some l =>
       rw[hbk] at h
       simp only at h
       have hlen:=qtc hbk
       have hgp:=(qwA (fun x hx=>(e3 x hx).1) hbk).1
       subst h
       simp only
       refine ⟨?_,e5,by omega⟩
       rw[w4,hgp,← e4,show (l.length:Int)=w.1 from by omega]
     ·cases hg
   ·cases h
theorem qtV {b:qAE}(hb:U8s b){n:Nat}:∀ {j p s:Nat} {acc:List (qAE)} {y:List (qAE)×Nat×Nat},p≤b.length→pgr b n j p s acc=some y →
  ∃ g,y.1=acc++g∧g.length=j∧b.drop p=gfT (acc.length:Int) g++b.drop y.2.1∧y.2.1≤b.length∧y.2.2=s+(g.length+gtot g)
 | 0,p,s,acc,y,hp,h=>by
  unfold pgr at h
  simp only[qx2] at h
  subst h
  exact ⟨[],by simp,rfl,rfl,hp,by simp[gtot]⟩
 | j+1,p,s,acc,y,hp,h=>by
  unfold pgr at h
  cases hq:plist b p acc.length (n:Int) with
  | none=>rw[hq] at h;cases h
  | some w =>
   rw[hq] at h
   simp only at h
   obtain ⟨w1,w2,w3⟩:=qt3 hb hp hq
   obtain ⟨g,e1,e2,e3,e4,e5⟩:=qtV hb w2 h
   refine ⟨w.1::g,by rw[e1,qxS];rfl,by rw[qxY,e2],?_,e4,by rw[e5,qxY,ql7];omega⟩
   rw[w1,e3,qfE,qxS,qxS]
   rw[show ((acc++[w.1]).length:Int)=(acc.length:Int)+1 from by simp]
theorem qxB {b:qAE}(hb:U8s b)(h3:3≤b.length){y:List (qAE)×Nat}(h:pG b=some y):gchk y.1=0∧b.drop 3=vn y.1.length++gfT 0 y.1∧y.2=1+(y.1.length+gtot y.1):=by
 unfold pG at h
 cases hq:pnum b 3 100 with
 | none=>rw[hq] at h;cases h
 | some w =>
  rw[hq] at h
  simp only at h
  obtain ⟨w0,w1,w2,w3,w4,_⟩:=j1 hb h3 hq
  cases hz:pgr b w.1.toNat w.1.toNat w.2 1 [] with
  | none=>rw[hz] at h;cases h
  | some z =>
   rw[hz] at h
   simp only at h
   obtain ⟨g,e1,e2,e3,e4,e5⟩:=qtV hb w3 hz
   rw[qx6] at e1
   split at h
   ·rename_i hc
    simp only[qx2] at h
    subst h
    simp only
    rw[e1] at hc ⊢
    refine ⟨hc.2,?_,e5⟩
    rw[w4,e3,hc.1,List.drop_length,qyh,show (g.length:Int)=w.1 from by omega]
    rfl
   ·cases h
def pB (b:qAE):Option (List (qAE)×Int×Int×Int×Int) :=
 match pnum b 3 100 with
 | none=>none
 | some x1=>match pnum b x1.2 7 with
  | none=>none
  | some x2=>match pnum b x2.2 300 with
   | none=>none
   | some x3=>match pnum b x3.2 16 with
    | none=>none
    | some x4=>match pnum b x4.2 8192 with
     | none=>none
     | some x5=>if (prd x1.1 x2.1 x3.1 x4.1 x5.1 (b.drop x5.2)).2=0 then some ((prd x1.1 x2.1 x3.1 x4.1 x5.1 (b.drop x5.2)).1,x2.1,x3.1,x4.1,x5.1) else none
theorem qss {F:Nat}(hF:2000000≤F){b:qAE}(hb:U8s b)(hm:b.length≤4096)(h3:3≤b.length):∃ x,qaH F b 3 0 false=some x∧match pB b with
  | some y=>x.1=y.1∧x.2.1=true∧x.2.2.2.1=y.2.2.2.2
  | none=>x.2.1=false:=by
 unfold qaH pB
 have hN:∀ {p s:Nat} {most:Int},p≤b.length→s≤100→0≤most→most≤10000→qJ F b (p:Int) (s:Int) false most=some (nst b p s most):=fun hp hs h0 h1=>qnL (by omega) hb hm hp (by omega) h0 (by omega)
 have hX:∀ {p s:Nat} {most:Int},p≤b.length→qJ F b (p:Int) (s:Int) true most=some (0,(p:Int),(s:Int),true):=fun hp=>qnK (by omega) hb hm hp
 have e1:=hN (p:=3) (s:=0) (most:=100) h3 (by omega) (by decide) (by decide)
 rw[show ((3:Nat):Int)=3 from rfl,show ((0:Nat):Int)=0 from rfl] at e1
 rw[e1]
 simp only[qxP]
 unfold nst
 cases q1:pnum b 3 100 with
 | none =>
  simp only
  rw[hX h3];simp only[qxP]
  rw[hX h3];simp only[qxP]
  rw[hX h3];simp only[qxP]
  rw[hX h3];simp only[qxP]
  exact ⟨_,rfl,rfl⟩
 | some x1 =>
  obtain ⟨a0,a1,a2,a3,_,_⟩:=j1 hb h3 q1
  simp only
  rw[hN a3 (by omega) (by decide) (by decide)];simp only[qxP]
  unfold nst
  cases q2:pnum b x1.2 7 with
  | none =>
   simp only
   rw[hX a3];simp only[qxP]
   rw[hX a3];simp only[qxP]
   rw[hX a3];simp only[qxP]
   exact ⟨_,rfl,rfl⟩
  | some x2 =>
   obtain ⟨b0,b1,b2,b3,_,_⟩:=j1 hb a3 q2
   simp only
   rw[hN b3 (by omega) (by decide) (by decide)];simp only[qxP]
   unfold nst
   cases q3:pnum b x2.2 300 with
   | none =>
    simp only
    rw[hX b3];simp only[qxP]
    rw[hX b3];simp only[qxP]
    exact ⟨_,rfl,rfl⟩
   | some x3 =>
    obtain ⟨c0,c1,c2,c3,_,_⟩:=j1 hb b3 q3
    simp only
    rw[hN c3 (by omega) (by decide) (by decide)];simp only[qxP]
    unfold nst
    cases q4:pnum b x3.2 16 with
    | none =>
     simp only
     rw[hX c3];simp only[qxP]
     exact ⟨_,rfl,rfl⟩
    | some x4 =>
     obtain ⟨d0,d1,d2,d3,_,_⟩:=j1 hb c3 q4
     simp only
     rw[hN d3 (by omega) (by decide) (by decide)];simp only[qxP]
     unfold nst
     cases q5:pnum b x4.2 8192 with
     | none=>exact ⟨_,rfl,rfl⟩
     | some x5 =>
      obtain ⟨f0,f1,f2,f3,_,_⟩:=j1 hb d3 q5
      simp only
      have hu:U8s (b.drop x5.2):=hb.vdrop _
      have hl:(b.drop x5.2).length≤4096:=by rw[qya];omega
      rw[if_neg (by decide),qfJ f3 (qyb _),qzf]
      simp only[qxP]
      rw[qoT (by omega)]
      simp only[qxP]
      rw[qoP hu (by omega) (by omega) (by omega)]
      simp only[qxP]
      have hr:=qt5 (F:=F) (N:=x1.1) (B:=x2.1) (least:=x3.1) (k:=x4.1) (m:=x5.1) hF hu ⟨by omega,by omega⟩ (by omega)
      by_cases hc:chkOf x5.1 (b.drop x5.2)=0
      ·rw[if_neg (by simp[hc]),hr]
       simp only[qxP]
       by_cases he:(prd x1.1 x2.1 x3.1 x4.1 x5.1 (b.drop x5.2)).2=0
       ·rw[if_pos he]
        exact ⟨_,rfl,rfl,by simpa using he,rfl⟩
       ·rw[if_neg he]
        exact ⟨_,rfl,by simpa using he⟩
      ·have he:(prd x1.1 x2.1 x3.1 x4.1 x5.1 (b.drop x5.2)).2≠0:=fun h0=>by
        obtain ⟨g,_,hp,_,e1,e2⟩:=qqu hu h0
        apply hc
        obtain ⟨_,_,g3⟩:=qe3 hp
        rw[e1,e2]
        exact qnq g3
       rw[if_pos (by simpa using hc),if_neg he]
       exact ⟨_,rfl,rfl⟩
theorem qxA {b:qAE}(hb:U8s b)(h3:3≤b.length){y:List (qAE)×Int×Int×Int×Int}(h:pB b=some y) :
  pkE y.1 y.2.1 y.2.2.1 y.2.2.2.1=0∧y.2.2.2.2=((pkA y.1 y.2.1 y.2.2.1 y.2.2.2.1.toNat y.1.length).1.length:Int) ∧
  b.drop 3=vn y.1.length++(vn y.2.1++(vn y.2.2.1++(vn y.2.2.2.1++(vn (pkA y.1 y.2.1 y.2.2.1 y.2.2.2.1.toNat y.1.length).1.length++pk (pkA y.1 y.2.1 y.2.2.1 y.2.2.2.1.toNat y.1.length).1)))):=by
 unfold pB at h
 cases q1:pnum b 3 100 with
 | none=>rw[q1] at h;cases h
 | some x1 =>
 rw[q1] at h;simp only at h
 obtain ⟨a0,a1,a2,a3,a4,_⟩:=j1 hb h3 q1
 cases q2:pnum b x1.2 7 with
 | none=>rw[q2] at h;cases h
 | some x2 =>
 rw[q2] at h;simp only at h
 obtain ⟨b0,b1,b2,b3,b4,_⟩:=j1 hb a3 q2
 cases q3:pnum b x2.2 300 with
 | none=>rw[q3] at h;cases h
 | some x3 =>
 rw[q3] at h;simp only at h
 obtain ⟨c0,c1,c2,c3,c4,_⟩:=j1 hb b3 q3
 cases q4:pnum b x3.2 16 with
 | none=>rw[q4] at h;cases h
 | some x4 =>
 rw[q4] at h;simp only at h
 obtain ⟨d0,d1,d2,d3,d4,_⟩:=j1 hb c3 q4
 cases q5:pnum b x4.2 8192 with
 | none=>rw[q5] at h;cases h
 | some x5 =>
 rw[q5] at h;simp only at h
 obtain ⟨f0,f1,f2,f3,f4,_⟩:=j1 hb d3 q5
 split at h
 ·rename_i he
  simp only[qx2] at h
  obtain ⟨g,g1,g2,g3,g4,g5⟩:=qqu (hb.vdrop x5.2) he
  rw[g1] at h
  subst h
  simp only
  refine ⟨g2,g4,?_⟩
  rw[a4,b4,c4,d4,f4,← g5,← g4,← g3]
 ·cases h
theorem qvI {b:qAE}{g:List (qAE)}{B least k:Int}(hp:pkE g B least k=0)
  (h:b.drop 3=vn g.length++(vn B++(vn least++(vn k++(vn (pkA g B least k.toNat g.length).1.length++pk (pkA g B least k.toNat g.length).1))))):pB b=some (g,B,least,k,((pkA g B least k.toNat g.length).1.length:Int)):=by
 obtain ⟨g1,g2,g3⟩:=qe3 hp
 obtain ⟨k1,k2,k',rfl,k3,k4⟩:=qam g2
 have hgl:=(qaQ.1 g1).1
 obtain ⟨e1,f1⟩:=qf3 (most:=100) h (by omega) (by omega) (by decide)
 obtain ⟨e2,f2⟩:=qf3 (most:=7) f1 (by omega) (by omega) (by decide)
 obtain ⟨e3,f3⟩:=qf3 (most:=300) f2 (by omega) (by omega) (by decide)
 obtain ⟨e4,f4⟩:=qf3 (most:=16) f3 (by omega) (by omega) (by decide)
 obtain ⟨e5,f5⟩:=qf3 (most:=8192) f4 (by omega) (by omega) (by decide)
 unfold pB
 rw[e1];simp only
 rw[e2];simp only
 rw[e3];simp only
 rw[e4];simp only
 rw[e5];simp only
 rw[f5,qt4 hp,if_pos rfl]
theorem qte:∀ (xs:qAE) (a:ByteArray),(xs.foldl (fun r n=>r.push (UInt8.ofNat n.toNat)) a).data.toList=a.data.toList++xs.map fun n=>UInt8.ofNat n.toNat
 | [],a=>by simp
 | x::t,a=>by
  rw[List.foldl_cons,qte t,List.map_cons]
  simp[ByteArray.push]
theorem qlS (xs:qAE):(bstr xs).data.toList=xs.map fun n=>UInt8.ofNat n.toNat:=by
 unfold bstr
 rw[qte]
 rfl
theorem qxk {x y:Int}(hx:0≤x∧x<256)(hy:0≤y∧y<256)(h:UInt8.ofNat x.toNat=UInt8.ofNat y.toNat):x=y:=by
 have:=congrArg UInt8.toNat h
 simp only[UInt8.toNat_ofNat'] at this
 omega
theorem qoM:∀ {xs ys:qAE},U8s xs→U8s ys→(xs.map fun n=>UInt8.ofNat n.toNat)=(ys.map fun n=>UInt8.ofNat n.toNat)→xs=ys
 | [],[],_,_,_=>rfl
 | [],y::ys,_,_,h=>by simp at h
 | x::xs,[],_,_,h=>by simp at h
 | x::xs,y::ys,hx,hy,h=>by
  simp only[List.map_cons,List.cons.injEq] at h
  rw[qxk (hx x qyf) (hy y qyf) h.1,qoM (fun z hz=>hx z (qx7 _ hz)) (fun z hz=>hy z (qx7 _ hz)) h.2]
theorem qtd {xs ys:qAE}(hx:U8s xs)(hy:U8s ys):(bstr xs == bstr ys)=decide (xs=ys):=by
 rw[← qs7,qhw,qhw,qlS,qlS]
 by_cases h:xs=ys
 ·subst h;simp
 ·rw[decide_eq_false h,beq_eq_false_iff_ne]
  exact fun e=>h (qoM hx hy e)
def rdF (b:qAE):List (qAE)×Int×Int :=
 if 4096<b.length then ([],0,2)
 else if b.length<3∨b.take 2≠[76,87] then ([],0,1)
 else if b[2]?=some 1 then (match pG b with | some y=>(y.1,(y.2:Int),0) | none=>([],0,1))
 else if b[2]?=some 2 then (match pB b with | some y=>(y.1,y.2.2.2.2,0) | none=>([],0,1))
 else ([],0,1)
theorem qhC {F:Nat}(hF:2000000≤F){b:qAE}(hb:U8s b):qeQ F b=some (rdF b):=by
 unfold qeQ rdF
 by_cases h1:4096<b.length
 ·rw[if_pos (by simp;omega),if_pos h1]
 ·rw[if_neg (by simp;omega),if_neg h1]
  by_cases h2:b.length<3
  ·rw[if_pos (by simp;omega),if_pos (Or.inl h2)]
   rfl
  ·rw[if_neg (by simp;omega)]
   have hs:sub b 0 2=some (b.take 2):=qfJ (i:=0) (j:=2) (by omega) (by omega)
   rw[hs]
   simp only[qxP]
   rw[qtd (fun x hx=>hb x (qyV hx)) (by intro x hx;simp at hx;rcases hx with rfl | rfl <;> decide)]
   unfold qdR
   by_cases h3:b.take 2=[76,87]
   ·rw[if_neg (by simp[h3]),if_neg (by rintro (h | h);exact h2 h;exact h h3)]
    have hx:2<b.length:=by omega
    have hi:idx b 2=some b[2]:=by
     have:=qs b 2
     rw[qxR hx] at this
     exact this
    rw[hi,qxR hx]
    simp only[qxP,qx2]
    by_cases h4:b[2]=1
    ·rw[if_pos (by simpa using h4),if_pos h4]
     obtain ⟨x,e,hm⟩:=qst (F:=F) (by omega) hb (by omega) (by omega)
     rw[e]
     simp only[qxP]
     cases hp:pG b with
     | none=>rw[hp] at hm;simp only at hm ⊢;rw[if_pos (by simp[hm])]
     | some y=>rw[hp] at hm;simp only at hm ⊢;obtain ⟨a1,a2,a3⟩:=hm;rw[if_neg (by simp[a2]),a1,a3]
    ·rw[if_neg (by simpa using h4),if_neg h4]
     by_cases h5:b[2]=2
     ·rw[if_pos (by simpa using h5),if_pos h5]
      obtain ⟨x,e,hm⟩:=qss (F:=F) (by omega) hb (by omega) (by omega)
      rw[e]
      simp only[qxP]
      cases hp:pB b with
      | none=>rw[hp] at hm;simp only at hm ⊢;rw[if_pos (by simp[hm])]
      | some y=>rw[hp] at hm;simp only at hm ⊢;obtain ⟨a1,a2,a3⟩:=hm;rw[if_neg (by simp[a2]),a1,a3]
     ·rw[if_neg (by simpa using h5),if_neg h5]
   ·rw[if_pos (by simp[h3]),if_pos (Or.inr h3)]
def stp (g:List (qAE))(kind B least k:Int):Int:=if kind=1 then ((1+(g.length+gtot g):Nat):Int) else ((pkA g B least k.toNat g.length).1.length:Int)
theorem qip {g:List (qAE)}{kind B least k:Int}(h:svE g kind B least k=0):gchk g=0∧(kind=1∨kind=2∧pkE g B least k=0)∧(file g kind B least k).length≤4096:=by
 unfold svE at h
 unfold file
 split at h
 ·exact absurd h ‹_›
 ·have hg:gchk g=0:=by rename_i hn;exact Decidable.not_not.1 hn
  split at h
  ·rename_i hk
   split at h
   ·cases h
   ·rw[if_pos hk];exact ⟨hg,Or.inl hk,by omega⟩
  ·rename_i hk
   split at h
   ·rename_i hk2
    split at h
    ·exact absurd h ‹_›
    ·rename_i hp
     split at h
     ·cases h
     ·rw[if_neg hk];exact ⟨hg,Or.inr ⟨hk2,Decidable.not_not.1 hp⟩,by omega⟩
   ·cases h
theorem qqG {g:List (qAE)}{kind B least k:Int}(hg:gchk g=0)(hk:kind=1∨kind=2∧pkE g B least k=0)(hl:(file g kind B least k).length≤4096):svE g kind B least k=0:=by
 unfold svE
 unfold file at hl
 rw[if_neg (fun h=>h hg)]
 rcases hk with rfl | ⟨rfl,hp⟩
 ·rw[if_pos rfl] at hl
  rw[if_pos rfl,if_neg (by omega)]
 ·rw[if_neg (by decide)] at hl
  rw[if_neg (by decide),if_pos rfl,if_neg (fun h=>h hp),if_neg (by omega)]
theorem qty:∀ {g:List (qAE)} {i:Int},(∀ l∈g,gkc l=0∧l.length≤1000)→0≤i→i+g.length≤1000→U8s (gfT i g)
 | [],i,_,_,_=>by intro x hx;simp[gfT] at hx
 | l::g,i,hg,h0,h1=>by
  have h2:=hg l qyf
  rw[qxY] at h1
  have hnd:Nd i:=⟨by omega,by omega⟩
  intro x hx
  rw[qfE,qxV,qxV] at hx
  rcases hx with hx | hx | hx
  ·exact qjD (by omega) (by omega) x hx
  ·obtain ⟨y,hy,hx⟩:=List.mem_flatMap.1 hx
   have:=qkm hnd (zn.1 h2.1).2 (fun hh=>by cases hh) y hy
   exact qjD (by omega) (by omega) x hx
  ·exact qty (fun l hl=>hg l (qx7 _ hl)) (by omega) (by omega) x hx
theorem qrq {g:List (qAE)}(hg:gchk g=0):∀ l∈g,gkc l=0∧l.length≤g.length:=fun l hlg=>by
 have hG:=qaQ.1 hg
 have hl:=hG.1
 refine ⟨qkn hG hlg,?_⟩
 have h1:=(hG.2.1 l hlg).2
 have h2:rowE g.length (-1) l=0:=qhJ.2 ⟨⟨(hG.2.1 l hlg).1,fun x hx=>by have:=h1 x hx;omega⟩,h1⟩
 have:=qhK (by omega) (by omega) h2
 omega
theorem qhr {a b:qAE}(ha:U8s a)(hb:U8s b):U8s (a++b):=fun x hx=>(qxV.1 hx).elim (ha x) (hb x)
theorem qjU {g:List (qAE)}{kind B least k:Int}(h:svE g kind B least k=0):U8s (file g kind B least k):=by
 obtain ⟨hg,hk,_⟩:=qip h
 have hl:=(qaQ.1 hg).1
 unfold file
 have h3:∀ n:Int,n=1∨n=2→U8s [76,87,n]:=fun n hn x hx=>by
  simp at hx;rcases hx with rfl | rfl | rfl <;> omega
 split
 ·exact qhr (h3 1 (Or.inl rfl)) (qhr (qjD (by omega) (by omega)) (qty (fun l hlg=>by have:=qrq hg l hlg;exact ⟨this.1,by omega⟩) (by omega) (by omega)))
 ·rename_i hn
  rcases hk with hk | ⟨_,hp⟩
  ·exact absurd hk hn
  ·obtain ⟨g1,g2,g3⟩:=qe3 hp
   obtain ⟨k1,k2,k',rfl,k3,k4⟩:=qam g2
   exact qhr (h3 2 (Or.inr rfl)) (qhr (qjD (by omega) (by omega)) (qhr (qjD (by omega) (by omega)) (qhr (qjD (by omega) (by omega)) (qhr (qjD (by omega) (by omega)) (qhr (qjD (by omega) (by omega)) (qf2 (qfh _)))))))
theorem qj0 {g:List (qAE)}{kind B least k:Int}(h:svE g kind B least k=0):rdF (file g kind B least k)=(g,stp g kind B least k,0):=by
 obtain ⟨hg,hk,hl⟩:=qip h
 unfold rdF
 rw[if_neg (by omega)]
 unfold stp
 rcases hk with rfl | ⟨rfl,hp⟩
 ·have e:file g 1 B least k=[76,87,1]++(vn g.length++gfT 0 g):=by unfold file gfile;rw[if_pos rfl]
  rw[e] at hl ⊢
  rw[if_neg (by simp),if_pos (by rfl),qvJ (b:=[76,87,1]++(vn g.length++gfT 0 g)) hg (qzT rfl) (by simp)]
  simp only[if_pos]
 ·have e:file g 2 B least k=bfile g B least k:=by unfold file;rw[if_neg (by decide)]
  rw[e] at hl ⊢
  unfold bfile at hl ⊢
  rw[if_neg (by simp),if_neg (by simp),if_pos (by rfl),qvI (b:=[76,87,2]++(vn g.length++(vn B++(vn least++(vn k++(vn (pkA g B least k.toNat g.length).1.length++pk (pkA g B least k.toNat g.length).1)))))) hp (qzT rfl)]
  simp only
  rw[if_neg (by decide)]
theorem take3 {b:qAE}{c:Int}(h3:¬ (b.length<3∨b.take 2≠[76,87]))(h:b[2]?=some c):b=[76,87,c]++b.drop 3:=by
 have h4:b.take 2=[76,87]:=Decidable.not_not.1 (fun hh=>h3 (Or.inr hh))
 have h5:2<b.length:=by
  have:¬ b.length<3:=fun hh=>h3 (Or.inl hh)
  omega
 have e:=List.take_append_drop 2 b
 rw[h4,qxT h5] at e
 rw[qxR h5] at h
 have hc:=Option.some.inj h
 rw[hc] at e
 exact e.symm
theorem qwF {b:qAE}(hb:U8s b)(h:(rdF b).2.2=0):∃ kind B least k,svE (rdF b).1 kind B least k=0∧b=file (rdF b).1 kind B least k∧b[2]?=some kind∧(rdF b).2.1=stp (rdF b).1 kind B least k:=by
 unfold rdF at h ⊢
 by_cases h1:4096<b.length
 ·rw[if_pos h1] at h;cases h
 rw[if_neg h1] at h ⊢
 by_cases h2:b.length<3∨b.take 2≠[76,87]
 ·rw[if_pos h2] at h;cases h
 rw[if_neg h2] at h ⊢
 have h3:3≤b.length:=by
  have:¬ b.length<3:=fun hh=>h2 (Or.inl hh)
  omega
 by_cases h4:b[2]?=some 1
 ·rw[if_pos h4] at h ⊢
  have e:=take3 h2 h4
  cases hp:pG b with
  | none=>rw[hp] at h;cases h
  | some y =>
   obtain ⟨a1,a2,a3⟩:=qxB hb h3 hp
   simp only
   have hf:b=file y.1 1 0 0 0:=by
    unfold file gfile;rw[if_pos rfl,← a2];exact e
   refine ⟨1,0,0,0,qqG a1 (Or.inl rfl) (by rw[← hf];omega),hf,h4,?_⟩
   unfold stp;rw[if_pos rfl,a3]
 ·rw[if_neg h4] at h ⊢
  by_cases h5:b[2]?=some 2
  ·rw[if_pos h5] at h ⊢
   have e:=take3 h2 h5
   cases hp:pB b with
   | none=>rw[hp] at h;cases h
   | some y =>
    obtain ⟨a1,a2,a3⟩:=qxA hb h3 hp
    simp only
    have hf:b=file y.1 2 y.2.1 y.2.2.1 y.2.2.2.1:=by
     unfold file bfile;rw[if_neg (by decide),← a3];exact e
    refine ⟨2,y.2.1,y.2.2.1,y.2.2.2.1,qqG (qe3 a1).1 (Or.inr ⟨rfl,a1⟩) (by rw[← hf];omega),hf,h5,?_⟩
    unfold stp;rw[if_neg (by decide),a2]
  ·rw[if_neg h5] at h;cases h
theorem qvA {b:qAE}(h:(rdF b).2.2≠0):(rdF b).1=[]∧(rdF b).2.1=0∧(rdF b).2.2=if 4096<b.length then 2 else 1:=by
 unfold rdF at h ⊢
 by_cases h1:4096<b.length
 ·rw[if_pos h1,if_pos h1];exact ⟨rfl,rfl,rfl⟩
 rw[if_neg h1] at h ⊢
 rw[if_neg h1]
 by_cases h2:b.length<3∨b.take 2≠[76,87]
 ·rw[if_pos h2];exact ⟨rfl,rfl,rfl⟩
 rw[if_neg h2] at h ⊢
 by_cases h4:b[2]?=some 1
 ·rw[if_pos h4] at h ⊢
  cases hp:pG b with
  | none=>exact ⟨rfl,rfl,rfl⟩
  | some y=>rw[hp] at h;exact absurd rfl h
 ·rw[if_neg h4] at h ⊢
  by_cases h5:b[2]?=some 2
  ·rw[if_pos h5] at h ⊢
   cases hp:pB b with
   | none=>exact ⟨rfl,rfl,rfl⟩
   | some y=>rw[hp] at h;exact absurd rfl h
  ·rw[if_neg h5];exact ⟨rfl,rfl,rfl⟩
theorem qji {g:List (qAE)}{kind B least k:Int}(h:svE g kind B least k=0):g.length≤100∧gtot g≤600∧0≤stp g kind B least k∧stp g kind B least k≤8192∧PSm g:=by
 obtain ⟨hg,hk,_⟩:=qip h
 have hG:=qaQ.1 hg
 have h1:=hG.1
 have h2:=hG.2.2
 refine ⟨h1,h2,?_,?_,qw5 hG⟩ <;> unfold stp <;> split
 ·omega
 ·omega
 ·omega
 ·rename_i hn
  rcases hk with hk | ⟨_,hp⟩
  ·exact absurd hk hn
  ·have:=(qe3 hp).2.2;omega
theorem qo9 {F:Nat}{g:List (qAE)}(hg:g.length≤100)(ht:gtot g≤600):∀ (k i a:Nat),g.length<k+i→i≤g.length→a+gtot (g.drop i)≤600 →
  qai F g k ((a:Int),(i:Int))=some ((a+gtot (g.drop i):Nat):Int)
 | 0,i,a,h,h1,h2=>by omega
 | k+1,i,a,h,h1,h2=>by
  show qdQ F g (qai F g k) (a:Int) (i:Int)=_
  unfold qdQ
  by_cases hlt:i<g.length
  ·rw[if_pos (by simp;omega),qs,qxR hlt]
   have hd:=qja hlt
   simp only[qxP]
   have h3:iadd .i64 (a:Int) ((g[i]).length:Int)=((a+(g[i]).length:Nat):Int):=by
    have:iadd .i64 (a:Int) ((g[i]).length:Int)=(a:Int)+((g[i]).length:Int):=qL (by omega) (by omega)
    rw[this];omega
   rw[h3,yI (by omega),qo9 hg ht k (i+1) _ (by omega) (by omega) (by omega)]
   rw[hd];congr 1;omega
  ·rw[if_neg (by simp;omega),qxW (by omega)]
   unfold qfw gtot
   rfl
theorem qma {F:Nat}(hF:1000≤F){g:List (qAE)}(hg:g.length≤100)(ht:gtot g≤600):qfU F g=some (gtot g:Int):=by
 have:=qo9 (F:=F) hg ht F 0 0 (by omega) (by omega) (by rw[qx8];omega)
 rw[qx8,Nat.zero_add] at this
 exact this
theorem qiO {b:qAE}(hb:U8s b)(h:(rdF b).2.2=0):(rdF b).1.length≤100∧gtot (rdF b).1≤600∧0≤(rdF b).2.1∧(rdF b).2.1≤8192∧PSm (rdF b).1∧b.length≤4096∧3≤b.length:=by
 obtain ⟨kind,B,least,k,h1,h2,h3,h4⟩:=qwF hb h
 obtain ⟨a1,a2,a3,a4,a5⟩:=qji h1
 rw[h4]
 refine ⟨a1,a2,a3,a4,a5,?_,?_⟩
 ·rw[h2];exact (qip h1).2.2
 ·by_cases hh:2<b.length
  ·omega
  ·rw[List.getElem?_eq_none (by omega)] at h3;cases h3
theorem qtj {F:Nat}(hF:2000000≤F){b:qAE}(hb:U8s b)(h:(rdF b).2.2≠0):qav F b=some (0,0,0,0,(rdF b).2.2):=by
 unfold qav
 rw[qhC hF hb]
 simp only[qxP]
 rw[if_pos (by simpa using h)]
theorem qra {F:Nat}(hF:2000000≤F){b:qAE}(hb:U8s b)(h:(rdF b).2.2=0):qav F b=some ((b.length:Int),((rdF b).1.length:Int),(gtot (rdF b).1:Int),(rdF b).2.1,0):=by
 unfold qav
 obtain ⟨h1,h2,_⟩:=qiO hb h
 rw[qhC hF hb]
 simp only[qxP]
 rw[if_neg (by simp[h]),qma (by omega) h1 h2]
 simp only[qxP]
theorem qjW {F:Nat}(hF:2000000≤F){b:qAE}(hb:U8s b)(h:(rdF b).2.2=0){l n a s:Int}:kC F b l n a s=some (if (b.length:Int)≤l∧((rdF b).1.length:Int)≤n∧(gtot (rdF b).1:Int)≤a∧(rdF b).2.1≤s then ((rdF b).1,(rdF b).2.1,0) else ([],0,8)):=by
 unfold kC
 obtain ⟨g1,g2,_⟩:=qiO hb h
 by_cases h1:l<b.length
 ·rw[if_pos (by simpa using h1),if_neg (by omega)]
 ·rw[if_neg (by simpa using h1),qhC hF hb]
  simp only[qxP]
  rw[if_pos (by simpa using h)]
  unfold vL qbW
  by_cases h2:n<((rdF b).1.length:Int)
  ·rw[if_pos (by simpa using h2),if_pos rfl,if_pos (by decide),if_neg (by omega)]
  ·rw[if_neg (by simpa using h2),qma (by omega) g1 g2]
   simp only[qxP]
   by_cases h3:a<(gtot (rdF b).1:Int)
   ·rw[if_pos (by simpa using h3),if_pos trivial,if_pos (by decide),if_neg (by omega)]
   ·rw[if_neg (by simpa using h3)]
    by_cases h4:s<(rdF b).2.1
    ·rw[if_pos (by simpa using h4),if_pos (by decide),if_neg (by omega)]
    ·rw[if_neg (by simpa using h4),if_neg (by simp[h]),if_pos (by omega)]
theorem lsame {F:Nat}{xs:qAE}(hF:xs.length<F)(hm:xs.length≤1000000):vp F xs xs=some true:=by
 rw[qiU hF (by omega),decide_eq_true rfl]
theorem qmb {F:Nat}(hF:2000000≤F){b:qAE}(hb:U8s b)(h:(rdF b).2.2≠0){l n a s:Int}(hl:(b.length:Int)≤l):kC F b l n a s=some ([],0,(rdF b).2.2):=by
 unfold kC
 rw[if_neg (by simp;omega),qhC hF hb]
 simp only[qxP]
 rw[if_neg (by simpa using h)]
 unfold vL qbW
 rw[if_neg (by decide),if_pos (by simpa using h)]
theorem qmc {F:Nat}(hF:2000000≤F){g:List (qAE)}{kind B least k:Int}(h:svE g kind B least k=0){l n a s:Int}(h1:((file g kind B least k).length:Int)≤l)(h2:(g.length:Int)≤n)(h3:(gtot g:Int)≤a)(h4:stp g kind B least k≤s) :
  kC F (file g kind B least k) l n a s=some (g,stp g kind B least k,0):=by
 have hr:=qj0 h
 rw[qjW hF (qjU h) (by rw[hr]),hr,if_pos ⟨h1,h2,h3,h4⟩]
theorem qqn {F:Nat}(hF:2000000≤F){g:List (qAE)}{kind B least k:Int}(h:svE g kind B least k=0){l n a s:Int}(h4:s<stp g kind B least k) :
  kC F (file g kind B least k) l n a s=some ([],0,8):=by
 have hr:=qj0 h
 rw[qjW hF (qjU h) (by rw[hr]),hr,if_neg (by simp only;omega)]
theorem qsm {F:Nat}(hF:2000000≤F){g:List (qAE)}{kind B least k:Int}(h:svE g kind B least k=0):qav F (file g kind B least k)=some (((file g kind B least k).length:Int),(g.length:Int),(gtot g:Int),stp g kind B least k,0):=by
 have hr:=qj0 h
 rw[qra hF (qjU h) (by rw[hr]),hr]
theorem qmB {g:List (qAE)}{kind B least k:Int}(h:svE g kind B least k=0):sv g kind B least k=(file g kind B least k,0):=by unfold sv;rw[if_neg (by simp[h])]
theorem qkV {g:List (qAE)}{kind B least k:Int}(h:svE g kind B least k≠0):sv g kind B least k=([],svE g kind B least k):=by unfold sv;rw[if_pos h]
theorem qo8:svE [[1],[]] 1 0 0 0=0:=by decide +kernel
theorem qwB:file [[1],[]] 1 0 0 0=[76,87,1,2,1,2,0]:=by decide +kernel
theorem qtK:svE pkSome 2 2 3 1=0:=by decide +kernel
theorem qxz:(file pkSome 2 2 3 1).length≤999∧gtot pkSome≤99∧stp pkSome 2 2 3 1≤999∧9<stp pkSome 2 2 3 1:=by decide +kernel
theorem qwC:(rdF [76,87,1]).2.2=1:=by decide +kernel
theorem lbegun {F:Nat}(hF:2000000≤F):qeo F=some true:=by
 have hS:qep F=some pkSome:=rfl
 obtain ⟨c1,c2,c3,c4⟩:=qxz
 obtain ⟨_,_,_,_,p1⟩:=qji qo8
 obtain ⟨_,_,_,_,p2⟩:=qji qtK
 unfold qeo
 rw[qn0 hF,qmB qo8]
 simp only[qxP]
 rw[hS]
 simp only[qxP]
 rw[qn0 hF,qmB qtK]
 simp only[qxP]
 rw[qmc hF qo8 (by rw[qwB];decide) (by decide) (by decide) (by decide)]
 simp only[qxP]
 rw[qmc hF qtK (by omega) (by decide) (by omega) c3]
 simp only[qxP]
 rw[qsm hF qo8]
 simp only[qxP]
 rw[qqn hF qo8 (by decide)]
 simp only[qxP]
 rw[qmb hF (by intro x hx;simp at hx;rcases hx with rfl | rfl | rfl <;> decide) (by rw[qwC];decide) (by decide),qwC]
 simp only[qxP]
 rw[qwB,lsame (by simp;omega) (by simp)]
 simp only[qxP]
 rw[if_pos trivial,if_pos (by decide),if_pos (by decide),qjv (by simp;omega) (by simp) (by intro r hr;simp at hr;rcases hr with rfl | rfl <;> (simp;omega))]
 simp only[qxP]
 rw[if_pos trivial,if_pos (by decide),if_pos (by decide),qhh (by omega) p2]
 simp only[qxP]
 rw[if_pos trivial,if_pos (by simpa using c4),if_pos (by decide),if_pos (by decide),if_pos (by decide),if_pos (by decide)]
 rfl
theorem qwN {F:Nat}(hF:20000≤F){rec20:(qAE×Int)→Option (qAE×Int)}{i:Int}{zs:qAE}(hz:N64 zs)(hm:zs.length≤300):∀ (k j:Nat) (o:qAE),zs.length<k+j→j≤zs.length→o.length≤100000+10*j →
  vy F rec20 i zs k (o,(j:Int))=qcg F rec20 i (o++(zs.drop j).flatMap vn)
 | 0,j,o,h,h1,h2=>by omega
 | k+1,j,o,h,h1,h2=>by
  show qcf F rec20 i zs (vy F rec20 i zs k) o (j:Int)=_
  unfold qcf
  by_cases hlt:j<zs.length
  ·rw[if_pos (by simp;omega),qs,qxR hlt,qxT hlt]
   have hx:=hz _ (qx9 hlt)
   simp only[qxP]
   rw[qem (by omega) hx.1 hx.2]
   simp only[qxP]
   have:=qcH zs[j]
   rw[qD (by omega)]
   simp only[qxP]
   rw[yI (by omega),qwN hF hz hm k (j+1) _ (by omega) (by omega) (by rw[qxQ];omega),qx4,qxS]
  ·rw[if_neg (by simp;omega),qxW (by omega),qAo,qyh]
theorem qxE {F:Nat}(hF:20000≤F){g:List (qAE)}(hg:Gr g):∀ (k i:Nat) (o:qAE),g.length<k+i→i≤g.length→o.length+10*((g.drop i).length+gtot (g.drop i))≤50000 →
  zK F g k (o,(i:Int))=vx F (o++gfT i (g.drop i))
 | 0,i,o,h,h1,h2=>by omega
 | k+1,i,o,h,h1,h2=>by
  show qce F g (zK F g k) o (i:Int)=_
  unfold qce
  have hgl:=hg.1
  by_cases hlt:i<g.length
  ·rw[if_pos (by simp;omega),qs,qxR hlt]
   have hk:=zn.1 (qkn hg (qx9 hlt))
   have hrow:=qko hg (qx9 hlt)
   have hd:=qja hlt
   have hdc:=qxT hlt
   generalize g[i]=L at hk hrow hd hdc ⊢
   have hn:Nd (i:Int):=⟨by omega,by omega⟩
   have hdl:(g.drop i).length=(g.drop (i+1)).length+1:=by rw[hdc,qxY]
   have ho:o.length≤50000:=by omega
   simp only[qxP]
   have h3:=qcH (L.length:Int)
   rw[qi2 (by omega),qem (by omega) (by omega) (by omega)]
   simp only[qxP]
   rw[qD (by omega)]
   simp only[qxP]
   rw[ql3 (q:=-1) hF (by omega) hn hk.2]
   simp only[qxP]
   have h4:=qof (gp false (i:Int) L)
   rw[qdX] at h4
   have h5:∀ x∈gp false (i:Int) L,0≤x∧x<18446744073709551616:=fun x hx=>by
    have:=qkm hn hk.2 (fun h=>by cases h) x hx;omega
   have h6:(gp false (i:Int) L).length=L.length:=qdX _ _ _
   have h7:(o++vn (L.length:Int)).length≤100000:=by rw[qxQ];omega
   have:=qwN (rec20:=zK F g k) (i:=(i:Int)) hF h5 (by omega) F 0 (o++vn (L.length:Int)) (by omega) (by omega) (by omega)
   rw[show ((0:Nat):Int)=0 from rfl] at this
   rw[this,qx8]
   unfold qcg
   have h8:(o++vn (L.length:Int)++(gp false (i:Int) L).flatMap vn).length+10*((g.drop (i+1)).length+gtot (g.drop (i+1)))≤50000:=by
    rw[qxQ,qxQ];omega
   rw[yI (by omega),qxE hF hg k (i+1) _ (by omega) (by omega) h8,hdc,qfE]
   simp only[qxS]
   rw[show ((i:Int)+1)=((i+1:Nat):Int) from by omega]
  ·rw[if_neg (by simp;omega),qxW (by omega)]
   unfold gfT
   rw[qyh]
theorem quq {F:Nat}{o:qAE}:vx F o=some (if 4096<o.length then ([],2) else (o,0)):=by
 unfold vx
 by_cases h:4096<o.length
 ·rw[if_pos (by simp;omega),if_pos h]
 ·rw[if_neg (by simp;omega),if_neg h]
theorem qkL {F:Nat}(hF:2000000≤F){g:List (qAE)}{kind B least k:Int}:qdy F g kind B least k=some (sv g kind B least k):=by
 unfold qdy
 rw[qhj (by omega)]
 simp only[qxP]
 by_cases h:gchk g=0
 ·rw[if_pos (by simp[h]),qdq]
  simp only[qxP]
  unfold j5
  by_cases hk:1≤kind∧kind≤2
  ·rw[if_neg (by simp[hk])]
   unfold v8
   rw[if_neg (by simp[h])]
   have hG:=qaQ.1 h
   have hgl:=hG.1
   have hgt:=hG.2.2
   have h3:=qcH (g.length:Int)
   rw[qi2 (by omega),qem (by omega) (by omega) (by omega)]
   simp only[qxP]
   rw[qD (by simp only[qxY,qyc];omega)]
   simp only[qxP]
   by_cases h1:kind=1
   ·subst h1
    rw[if_pos (by decide),show iconv .u8 1=1 from by decide]
    have:=qxE (F:=F) (by omega) hG F 0 ([76,87,1]++vn (g.length:Int)) (by omega) (by omega) (by
     simp only[qxQ,qx8,qxY,qyc];omega)
    rw[show ((0:Nat):Int)=0 from rfl] at this
    rw[this,qx8,quq,qxS]
    have e:svE g 1 B least k=if 4096<(gfile g).length then 2 else 0:=by unfold svE;rw[if_neg (fun hh=>hh h),if_pos rfl]
    show some (if 4096<(gfile g).length then ([],2) else (gfile g,0))=_
    unfold sv
    rw[e,show file g 1 B least k=gfile g from if_pos rfl]
    by_cases h4:4096<(gfile g).length
    ·rw[if_pos h4,if_pos h4,if_pos (by decide)]
    ·rw[if_neg h4,if_neg h4,if_neg (by decide)]
   ·have h2:kind=2:=by omega
    subst h2
    rw[if_neg (by decide),show iconv .u8 2=2 from by decide,qkK hF]
    simp only[qxP]
    by_cases hp:pkE g B least k=0
    ·have hw:rpw g B least k=((pkA g B least k.toNat g.length).1,(pkA g B least k.toNat g.length).2.1,(pkA g B least k.toNat g.length).2.2,0):=by unfold rpw;rw[if_neg (fun hh=>hh hp)]
     rw[hw]
     simp only
     rw[if_neg (by decide)]
     obtain ⟨g1,g2,g3⟩:=qe3 hp
     obtain ⟨k1,k2,k',rfl,k3,k4⟩:=qam g2
     have u:∀ x:Int,0≤x∧x≤1000000→iconv .u64 x=x:=fun x hx=>by
      have:iconv .u64 x=x%18446744073709551616:=qaT _
      omega
     have hb:=qfh (g:=g) (B:=B) (least:=least) (k:=((k':Nat):Int).toNat) g.length
     generalize hL:(pkA g B least ((k':Nat):Int).toNat g.length).1=L at g3 hb ⊢
     have l1:=qcH B
     have l2:=qcH least
     have l3:=qcH (k':Int)
     have l4:=qcH (L.length:Int)
     have hpk:=qt1 g3
     have a1:([76,87,2]++vn (g.length:Int)).length≤13:=by rw[qxQ];simp only[qxY,qyc];omega
     rw[u B (by omega),qem (by omega) (by omega) (by omega)]
     simp only[qxP]
     rw[qD (by omega)]
     simp only[qxP]
     have a2:([76,87,2]++vn (g.length:Int)++vn B).length≤23:=by rw[qxQ];omega
     rw[u least (by omega),qem (by omega) (by omega) (by omega)]
     simp only[qxP]
     rw[qD (by omega)]
     simp only[qxP]
     have a3:([76,87,2]++vn (g.length:Int)++vn B++vn least).length≤33:=by rw[qxQ];omega
     rw[u (k':Int) (by omega),qem (by omega) (by omega) (by omega)]
     simp only[qxP]
     rw[qD (by omega)]
     simp only[qxP]
     have a4:([76,87,2]++vn (g.length:Int)++vn B++vn least++vn (k':Int)).length≤43:=by rw[qxQ];omega
     rw[qi2 (by omega),qem (by omega) (by omega) (by omega)]
     simp only[qxP]
     rw[qD (by omega)]
     simp only[qxP]
     have a5:([76,87,2]++vn (g.length:Int)++vn B++vn least++vn (k':Int)++vn (L.length:Int)).length≤53:=by rw[qxQ];omega
     rw[qpd (by omega) hb (by omega)]
     simp only[qxP]
     rw[qD (by omega)]
     simp only[qxP]
     have hf:[76,87,2]++vn (g.length:Int)++vn B++vn least++vn (k':Int)++vn (L.length:Int)++pk L=bfile g B least (k':Int):=by
      unfold bfile;rw[hL];simp only[qxS]
     rw[quq,hf]
     have e:svE g 2 B least (k':Int)=if 4096<(bfile g B least (k':Int)).length then 2 else 0:=by unfold svE;rw[if_neg (fun hh=>hh h),if_neg (by decide),if_pos rfl,if_neg (fun hh=>hh hp)]
     unfold sv
     rw[e,show file g 2 B least (k':Int)=bfile g B least (k':Int) from if_neg (by decide)]
     by_cases h4:4096<(bfile g B least (k':Int)).length
     ·rw[if_pos h4,if_pos h4,if_pos (by decide)]
     ·rw[if_neg h4,if_neg h4,if_neg (by decide)]
    ·have e:svE g 2 B least k=pkE g B least k:=by unfold svE;rw[if_neg (fun hh=>hh h),if_neg (by decide),if_pos rfl,if_pos hp]
     have hw:rpw g B least k=([],[],[],pkE g B least k):=by unfold rpw;rw[if_pos hp]
     rw[hw]
     simp only
     rw[if_pos (by simpa using hp),qkV (by rw[e];exact hp),e]
  ·rw[if_pos (by simp;omega)]
   unfold v8
   have e:svE g kind B least k=3:=by unfold svE;rw[if_neg (fun hh=>hh h),if_neg (by omega),if_neg (by omega)]
   rw[if_pos (by decide),qkV (by rw[e];decide),e]
 ·have e:svE g kind B least k=gchk g:=by unfold svE;rw[if_pos h]
  rw[if_neg (by simpa using h)]
  unfold j5 v8
  rw[if_neg (by decide),if_pos (by simpa using h),qkV (by rw[e];exact h),e]
abbrev Gs:=List (qAE)×Int×Int×Int×Int×Bool
theorem yj {x:Int}(h:0≤x∧x≤1000000):iconv .i64 x=x:=qL (by omega) (by omega)
theorem qtD {F:Nat}(hF:20000≤F){acc:qAE}(ha:N64 acc)(hm:acc.length≤5000){n:Int}(hn:0≤n∧n≤100):∀ (k at' node:Nat) (ls:List (qAE)),n.toNat<k+node→(node:Int)≤n→ls.length≤1000+node→at'≤1+200*node →
  ∃ r:Gs,zl F acc n k ((at':Int),(node:Int),ls)=some r
 | 0,at',node,ls,h,h1,h2,h3=>by omega
 | k+1,at',node,ls,h,h1,h2,h3=>by
  show ∃ r:Gs,kz F acc n (zl F acc n k) (at':Int) (node:Int) ls=some r
  unfold kz
  rw[yj (by omega)]
  have hbad:∃ r:Gs,kY F (zl F acc n k) acc (at':Int) (node:Int) ls true=some r:=by
   unfold kY yT
   rw[if_pos rfl,if_pos rfl];exact ⟨_,rfl⟩
  by_cases hlt:(node:Int)<n
  ·rw[if_pos (by simpa using hlt)]
   by_cases ha1:acc.length≤at'
   ·rw[if_pos (by simp;omega)];exact hbad
   ·have hi:at'<acc.length:=by omega
    rw[if_neg (by simp;omega),qs,qxR hi]
    simp only[qxP]
    have hx:=ha _ (qx9 hi)
    by_cases hx1:100<acc[at']
    ·rw[decide_eq_true hx1];exact hbad
    ·rw[decide_eq_false hx1]
     unfold kY
     rw[if_neg (by decide),qs,qxR hi]
     simp only[qxP]
     obtain ⟨m,hm1⟩:∃ m:Nat,acc[at']=(m:Int):=⟨acc[at'].toNat,by omega⟩
     rw[hm1] at hx1 ⊢
     rw[yj (by omega)]
     have e1:iadd .i64 (at':Int) (m:Int)=((at'+m:Nat):Int):=by
      have:iadd .i64 (at':Int) (m:Int)=(at':Int)+(m:Int):=qL (by omega) (by omega)
      rw[this];omega
     rw[e1]
     unfold yT
     by_cases hl:acc.length≤at'+m
     ·rw[if_pos (by simp;omega)];exact ⟨_,rfl⟩
     ·rw[if_neg (by simp;omega),qs,qxR hi]
      simp only[qxP]
      rw[hm1,yj (by omega),yI (by omega)]
      have e2:iadd .i64 ((at'+1:Nat):Int) (m:Int)=((at'+1+m:Nat):Int):=by
       have:iadd .i64 ((at'+1:Nat):Int) (m:Int)=((at'+1:Nat):Int)+(m:Int):=qL (by omega) (by omega)
       rw[this];omega
      rw[e2,qfJ (by omega) (by omega)]
      simp only[qxP]
      rw[qpn hF (fun x hx=>ha x (qyV (qzw hx)))]
      simp only[qxP]
      split
      ·exact ⟨_,rfl⟩
      ·rw[qD (by simp only[qxY,qyc];omega)]
       simp only[qxP]
       have e3:iadd .i64 (at':Int) (iadd .i64 1 (m:Int))=((at'+(1+m):Nat):Int):=by
        have h4:iadd .i64 1 (m:Int)=1+(m:Int):=qL (by omega) (by omega)
        have h5:iadd .i64 (at':Int) (1+(m:Int))=(at':Int)+(1+(m:Int)):=qL (by omega) (by omega)
        rw[h4,h5];omega
       unfold lett
       rw[yI (by omega),e3]
       exact qtD hF ha hm hn k (at'+(1+m)) (node+1) _ (by omega) (by omega) (by rw[qxQ];simp;omega) (by omega)
  ·rw[if_neg (by simpa using hlt)]
   exact ⟨_,rfl⟩
theorem qwT {F:Nat}(hF:2000000≤F){b:qAE}(hb:U8s b)(h3:3≤b.length){acc:qAE}(ha:N64 acc)(hm:acc.length≤5000){at':Nat}(hat:at'≤b.length):∃ r:Gs,yA F b acc (at':Int)=some r:=by
 unfold yA
 have hbad:∃ r:Gs,kX F b acc (at':Int) true=some r:=⟨_,rfl⟩
 by_cases h0:acc.length=0
 ·rw[if_pos (by simp[h0])];exact hbad
 ·have hi:0<acc.length:=by omega
  have hidx:∀ (i:Nat) (h:i<acc.length),idx acc (i:Int)=some acc[i]:=fun i h=>by rw[qs,qxR h]
  have e0:idx acc 0=some acc[0]:=hidx 0 hi
  rw[if_neg (by simp only[beq_iff_eq];omega),e0]
  simp only[qxP]
  by_cases h1:(100:Int)<acc[0]
  ·rw[decide_eq_true h1];exact hbad
  ·rw[decide_eq_false h1]
   unfold kX
   have hx0:=ha _ (qx9 hi)
   have hi2:idx b 2=some b[2]:=by
    have:=qs b 2
    rw[qxR (by omega)] at this
    exact this
   rw[if_neg (by decide),e0]
   simp only[qxP]
   rw[hi2]
   simp only[qxP]
   by_cases h2:b[2]=2
   ·rw[if_pos (by simpa using h2)]
    have b24:∃ r:Gs,yP F b acc (at':Int) acc[0] true=some r:=⟨_,rfl⟩
    by_cases h5:acc.length<5
    ·rw[if_pos (by simp;omega)];exact b24
    ·rw[if_neg (by simp;omega)]
     have e1:idx acc 1=some acc[1]:=hidx 1 (by omega)
     have e2:idx acc 2=some acc[2]:=hidx 2 (by omega)
     have e3:idx acc 3=some acc[3]:=hidx 3 (by omega)
     have e4:idx acc 4=some acc[4]:=hidx 4 (by omega)
     rw[e1]
     simp only[qxP]
     by_cases h6:(7:Int)<acc[1]
     ·rw[decide_eq_true h6];exact b24
     ·rw[decide_eq_false h6]
      unfold yP
      rw[if_neg (by decide),e2]
      simp only[qxP]
      have b25:∃ r:Gs,yQ F b acc (at':Int) acc[0] true=some r:=⟨_,rfl⟩
      by_cases h7:(300:Int)<acc[2]
      ·rw[decide_eq_true h7];exact b25
      ·rw[decide_eq_false h7]
       unfold yQ
       rw[if_neg (by decide),e3]
       simp only[qxP]
       have b26:∃ r:Gs,yR F b acc (at':Int) acc[0] true=some r:=⟨_,rfl⟩
       by_cases h8:(16:Int)<acc[3]
       ·rw[decide_eq_true h8];exact b26
       ·rw[decide_eq_false h8]
        unfold yR
        rw[if_neg (by decide),e4]
        simp only[qxP]
        have b27:∃ r:Gs,yS F b acc (at':Int) acc[0] true=some r:=⟨_,rfl⟩
        by_cases h9:(8192:Int)<acc[4]
        ·rw[decide_eq_true h9];exact b27
        ·rw[decide_eq_false h9]
         unfold yS
         rw[if_neg (by decide),e1]
         simp only[qxP]
         rw[e2]
         simp only[qxP]
         rw[e3]
         simp only[qxP]
         rw[e4]
         simp only[qxP]
         rw[qfJ hat (qyb _)]
         simp only[qxP]
         rw[qmq hF (fun x hx=>hb x (qyV (qzw hx)))]
         simp only[qxP]
         unfold jr
         rw[e4]
         exact ⟨_,rfl⟩
   ·rw[if_neg (by simpa using h2)]
    exact qtD (by omega) ha hm (by omega) F 1 0 [] (by omega) (by omega) (by simp) (by omega)
theorem qri {F:Nat}(hF:2000000≤F){b:qAE}(hb:U8s b)(h3:3≤b.length)(hm:b.length≤4096):∀ (k at':Nat) (acc:qAE),b.length<k+at'→at'≤b.length→N64 acc→acc.length≤at'→∃ r:Gs,zv F b k (acc,(at':Int))=some r
 | 0,at',acc,h,h1,_,_=>by omega
 | k+1,at',acc,h,h1,h2,h4=>by
  show ∃ r:Gs,kA F b (zv F b k) acc (at':Int)=some r
  unfold kA
  have h8:=qwT hF hb h3 h2 (by omega) h1
  have hi2:idx b 2=some b[2]:=by
   have:=qs b 2
   rw[qxR (by omega)] at this
   exact this
  have hj:∀ c:Bool,∃ r:Gs,yU F (zv F b k) b acc (at':Int) c=some r:=fun c=>by
   unfold yU
   cases c with
   | false=>rw[if_neg (by decide)];exact h8
   | true =>
    rw[if_pos rfl,qmO (by omega) hb (by omega) h1]
    simp only[qxP]
    unfold vout
    by_cases he:(vrd (b.drop at') 0 0).2.2=0
    ·obtain ⟨c1,c2⟩:=qug (hb.vdrop at') he
     rw[qya] at c2
     obtain ⟨u1,u2,_⟩:=qnV (v:=(vrd (b.drop at') 0 0).1) (c:=(vrd (b.drop at') 0 0).2.1) (hb.vdrop at') (Prod.ext rfl (Prod.ext rfl he))
     rw[if_pos he]
     simp only
     rw[if_neg (by decide),qD (by simp only[qxY,qyc];omega)]
     simp only[qxP]
     rw[show (at':Int)+((vrd (b.drop at') 0 0).2.1:Int)=((at'+(vrd (b.drop at') 0 0).2.1:Nat):Int) from by omega]
     exact qri hF hb h3 hm k _ _ (by omega) (by omega) (by
      intro x hx
      rcases qxV.1 hx with hx | hx
      ·exact h2 x hx
      ·simp only[List.mem_singleton] at hx;subst hx;exact ⟨u1,u2⟩) (by rw[qxQ];simp only[qxY,qyc];omega)
    ·rw[if_neg he,if_pos (by simpa using he)]
     exact ⟨_,rfl⟩
  by_cases hlt:at'<b.length
  ·rw[if_pos (by simp;omega),hi2]
   exact hj _
  ·rw[if_neg (by simp;omega)]
   exact hj _
theorem qsq {F:Nat}(hF:2000000≤F){b:qAE}(hb:U8s b)(hm:b.length≤4096):∃ r:Gs,qbb F b=some r∧(b.length<3→r.2.2.2.2.2=false):=by
 unfold qbb
 by_cases h:b.length<3
 ·rw[if_pos (by simp;omega)];exact ⟨_,rfl,fun _=>rfl⟩
 ·rw[if_neg (by simp;omega)]
  obtain ⟨r,hr⟩:=qri hF hb (by omega) hm F 3 [] (by omega) (by omega) (by intro x hx;cases hx) (by simp)
  exact ⟨r,hr,fun h'=>absurd h' h⟩
def gnl:Int→List (qAE)→qAE
 | _,[]=>[]
 | i,l::g=>(l.length:Int)::(gp false i l++gnl (i+1) g)
theorem ql5:∀ (i:Int) (g:List (qAE)),gfT i g=(gnl i g).flatMap vn
 | _,[]=>rfl
 | i,l::g=>by
  rw[qfE,ql5 (i+1) g]
  simp only[gnl,qx4,List.flatMap_append]
theorem qro:∀ (i:Int) (g:List (qAE)),(gnl i g).length=g.length+gtot g
 | _,[]=>rfl
 | i,l::g=>by
  unfold gnl gtot
  simp only[qxY,qxQ]
  rw[qdX,qro (i+1) g]
  omega
theorem qrp:∀ {g:List (qAE)} {i:Int},(∀ l∈g,gkc l=0∧l.length≤1000)→0≤i→i+g.length≤1000→N64 (gnl i g)
 | [],i,_,_,_=>by intro x hx;simp[gnl] at hx
 | l::g,i,hg,h0,h1=>by
  have h2:=hg l qyf
  rw[qxY] at h1
  have hnd:Nd i:=⟨by omega,by omega⟩
  intro x hx
  unfold gnl at hx
  rcases qx1.1 hx with rfl | hx
  ·omega
  ·rcases qxV.1 hx with hx | hx
   ·have:=qkm hnd (zn.1 h2.1).2 (fun hh=>by cases hh) x hx
    omega
   ·exact qrp (fun l hl=>hg l (qx7 _ hl)) (by omega) (by omega) x hx
theorem qqd {F:Nat}(hF:2000000≤F){b:qAE}(hb:U8s b)(hm:b.length≤4096){c:Int}(hc:idx b 2=some c){t:qAE}:∀ (zs:qAE) (k at':Nat) (acc:qAE),b.length<k+at'→at'≤b.length→b.drop at'=zs.flatMap vn++t→N64 zs→acc.length+zs.length≤5000 →
  (c=1∧t=[]∨c=2∧acc.length+zs.length=5)→zv F b k (acc,(at':Int))=yA F b (acc++zs) ((at'+(zs.flatMap vn).length:Nat):Int)
 | _,0,at',acc,h,h1,_,_,_,_=>by omega
 | [],k+1,at',acc,h,h1,hd,_,ha,hcc=>by
  show kA F b (zv F b k) acc (at':Int)=_
  unfold kA
  rw[qyh]
  have e:at'+(([]:qAE).flatMap vn).length=at':=by simp
  rw[e]
  rcases hcc with ⟨rfl,rfl⟩ | ⟨rfl,h5⟩
  ·have:=congrArg qzx hd
   rw[qya] at this
   simp at this
   rw[if_neg (by simp;omega)]
   rfl
  ·by_cases hlt:at'<b.length
   ·rw[if_pos (by simp;omega),hc]
    simp only[qxP]
    simp only[qyc,Nat.add_zero] at h5
    rw[h5]
    rfl
   ·rw[if_neg (by simp;omega)]
    rfl
 | z::zs,k+1,at',acc,h,h1,hd,hz,ha,hcc=>by
  show kA F b (zv F b k) acc (at':Int)=_
  unfold kA
  rw[qx4,qxS] at hd
  have hz0:=hz z qyf
  have hp:=qxm z
  have hl:=congrArg qzx hd
  rw[qya,qxQ] at hl
  rw[qxY] at ha hcc
  have hr:=qwI hz0.1 hz0.2 (zs.flatMap vn++t)
  rw[if_pos (by simp;omega),hc]
  simp only[qxP]
  have hcb:((c == 1) || decide ((acc.length:Int)<5))=true:=by
   rcases hcc with ⟨rfl,_⟩ | ⟨rfl,h5⟩
   ·rfl
   ·rw[decide_eq_true (by omega)];simp
  rw[hcb]
  unfold yU
  rw[if_pos rfl,qmO (by omega) hb (by omega) h1,hd,hr]
  simp only[qxP]
  unfold vout
  rw[if_pos rfl]
  simp only
  rw[if_neg (by decide),qD (by simp only[qxY,qyc];omega)]
  simp only[qxP]
  rw[show (at':Int)+((vn z).length:Int)=((at'+(vn z).length:Nat):Int) from by omega]
  rw[qqd hF hb hm hc zs k (at'+(vn z).length) (acc++[z]) (by omega) (by omega) (by rw[← qzB,hd,qzg]) (fun x hx=>hz x (qx7 _ hx)) (by rw[qxQ];simp only[qxY,qyc];omega) (by
   rw[qxQ];simp only[qxY,qyc]
   rcases hcc with h | h
   ·exact Or.inl h
   ·exact Or.inr ⟨h.1,by omega⟩)]
  rw[qxS,qx4,qxQ]
  simp only[List.cons_append,qx6]
  rw[show at'+(vn z).length+(zs.flatMap vn).length=at'+((vn z).length+(zs.flatMap vn).length) from by omega]
theorem qts {F:Nat}(hF:20000≤F){A:qAE}(hA:N64 A)(hm:A.length≤5000){n:Nat}(hn:n≤100):∀ (g:List (qAE)) (k at':Nat) (ls:List (qAE)),g.length<k→ls.length+g.length=n→(∀ l∈g,gkc l=0∧l.length≤100)→at'≤A.length→A.drop at'=gnl (ls.length:Int) g →
  zl F A (n:Int) k ((at':Int),(ls.length:Int),ls)=qbq F A (ls++g)
 | _,0,at',ls,h,_,_,_,_=>by omega
 | [],k+1,at',ls,h,h1,hg,h2,hd=>by
  show kz F A (n:Int) (zl F A (n:Int) k) (at':Int) (ls.length:Int) ls=_
  unfold kz
  simp only[qyc,Nat.add_zero] at h1
  rw[yj (by omega),if_neg (by simp;omega),qyh]
 | l::g,k+1,at',ls,h,h1,hg,h2,hd=>by
  show kz F A (n:Int) (zl F A (n:Int) k) (at':Int) (ls.length:Int) ls=_
  unfold kz
  rw[qxY] at h h1
  obtain ⟨k1,k2⟩:=hg l qyf
  have hnd:Nd (ls.length:Int):=⟨by omega,by omega⟩
  unfold gnl at hd
  have hl:=congrArg qzx hd
  rw[qya] at hl
  simp only[qxY,qxQ] at hl
  have hgl:(gp false (ls.length:Int) l).length=l.length:=qdX _ _ _
  have hi:at'<A.length:=by omega
  rw[qxT hi] at hd
  have hx:A[at']=(l.length:Int):=(qAi hd).1
  have hd1:=(qAi hd).2
  have e0:idx A (at':Int)=some (l.length:Int):=by rw[qs,qxR hi,hx]
  rw[yj (by omega),if_pos (by simp;omega),if_neg (by simp;omega),e0]
  simp only[qxP]
  rw[decide_eq_false (by omega)]
  unfold kY
  rw[if_neg (by decide),e0]
  simp only[qxP]
  rw[yj (by omega)]
  have e1:iadd .i64 (at':Int) (l.length:Int)=((at'+l.length:Nat):Int):=by
   have:iadd .i64 (at':Int) (l.length:Int)=(at':Int)+(l.length:Int):=qL (by omega) (by omega)
   rw[this];omega
  rw[e1,decide_eq_false (by omega)]
  unfold yT
  rw[if_neg (by decide),e0]
  simp only[qxP]
  rw[yj (by omega),yI (by omega)]
  have e2:iadd .i64 ((at'+1:Nat):Int) (l.length:Int)=((at'+1+l.length:Nat):Int):=by
   have:iadd .i64 ((at'+1:Nat):Int) (l.length:Int)=((at'+1:Nat):Int)+(l.length:Int):=qL (by omega) (by omega)
   rw[this];omega
  rw[e2,qfJ (by omega) (by omega)]
  simp only[qxP]
  have es:(A.take (at'+1+l.length)).drop (at'+1)=gp false (ls.length:Int) l:=by
   rw[List.drop_take,hd1,show at'+1+l.length-(at'+1)=(gp false (ls.length:Int) l).length from by omega,List.take_left]
  rw[es,qpn hF (fun x hx=>by have:=qkm hnd (zn.1 k1).2 (fun hh=>by cases hh) x hx;omega),qwy hnd k1]
  simp only[qxP]
  rw[if_neg (by decide),qD (by simp only[qxY,qyc];omega)]
  simp only[qxP]
  have e3:iadd .i64 (at':Int) (iadd .i64 1 (l.length:Int))=((at'+1+l.length:Nat):Int):=by
   have h4:iadd .i64 1 (l.length:Int)=1+(l.length:Int):=qL (by omega) (by omega)
   have h5:iadd .i64 (at':Int) (1+(l.length:Int))=(at':Int)+(1+(l.length:Int)):=qL (by omega) (by omega)
   rw[h4,h5];omega
  unfold lett
  rw[yI (by omega),e3]
  have hls:(ls++[l]).length=ls.length+1:=by simp
  have:=qts hF hA hm hn g k (at'+1+l.length) (ls++[l]) (by omega) (by omega) (fun y hy=>hg y (qx7 _ hy)) (by omega) (by
   rw[← qzB,hd1,show l.length=(gp false (ls.length:Int) l).length from by omega,qzg,hls]
   rw[show (((ls.length+1:Nat)):Int)=(ls.length:Int)+1 from by omega])
  rw[hls] at this
  refine Eq.trans this ?_
  rw[qxS]
  rfl
def how (kind B least k:Int):Int×Int×Int:=if kind=1 then (0,0,0) else (B,least,k)
theorem qqf {F:Nat}(hF:2000000≤F){g:List (qAE)}{kind B least k:Int}(h:svE g kind B least k=0) :
  qbb F (file g kind B least k)=some (g,(how kind B least k).1,(how kind B least k).2.1,(how kind B least k).2.2,stp g kind B least k,true):=by
 obtain ⟨hg,hk,hl⟩:=qip h
 have hu:=qjU h
 have hG:=qaQ.1 hg
 have hgl:=hG.1
 have hgt:=hG.2.2
 have hrows:=qrq hg
 unfold qbb how stp
 rcases hk with rfl | ⟨rfl,hp⟩
 ·have e:file g 1 B least k=[76,87,1]++(((g.length:Int)::gnl 0 g).flatMap vn++[]):=by
   unfold file gfile;rw[if_pos rfl,ql5,qyh,qx4]
  rw[e] at hl hu ⊢
  generalize hb:[76,87,1]++(((g.length:Int)::gnl 0 g).flatMap vn++[])=b at hl hu ⊢
  have hd:b.drop 3=((g.length:Int)::gnl 0 g).flatMap vn++[]:=by rw[← hb];exact qzT rfl
  have h2:idx b 2=some 1:=by rw[← hb];rfl
  have h3:3≤b.length:=by rw[← hb,qxQ];simp only[qxY,qyc];omega
  have hN:N64 ((g.length:Int)::gnl 0 g):=fun x hx=>by
   rcases qx1.1 hx with rfl | hx
   ·omega
   ·exact qrp (fun l hlg=>by have:=hrows l hlg;exact ⟨this.1,by omega⟩) (by omega) (by omega) x hx
  have hlen:=qro 0 g
  rw[if_neg (by simp;omega)]
  have:=qqd (F:=F) hF hu hl h2 (t:=[]) ((g.length:Int)::gnl 0 g) F 3 [] (by omega) (by omega) hd hN (by simp only[qxY,qyc];omega) (Or.inl ⟨rfl,rfl⟩)
  rw[show (((3:Nat)):Int)=3 from rfl] at this
  rw[this,qx6]
  unfold yA
  have e0:idx ((g.length:Int)::gnl 0 g) 0=some (g.length:Int):=rfl
  rw[if_neg (by simp only[beq_iff_eq,qxY];omega),e0]
  simp only[qxP]
  rw[decide_eq_false (by omega)]
  unfold kX
  rw[if_neg (by decide),e0]
  simp only[qxP]
  rw[h2]
  simp only[qxP]
  rw[if_neg (by decide)]
  have:=qts (F:=F) (by omega) hN (by simp only[qxY];omega) (n:=g.length) hgl g F 1 [] (by omega) (by simp) (fun l hlg=>by have:=hrows l hlg;exact ⟨this.1,by omega⟩) (by simp) rfl
  simp only[qyc,qx6] at this
  rw[show (((1:Nat)):Int)=1 from rfl,show (((0:Nat)):Int)=0 from rfl] at this
  rw[this]
  unfold qbq
  simp only[if_pos,qxY]
  rw[hlen]
  simp only[qx2,qzs]
  exact ⟨trivial,trivial,trivial,trivial,by omega,trivial⟩
 ·obtain ⟨g1,g2,g3⟩:=qe3 hp
  obtain ⟨k1,k2,k',rfl,k3,k4⟩:=qam g2
  have hprd:=qt4 hp
  have hbit:=qf2 (qfh (g:=g) (B:=B) (least:=least) (k:=((k':Nat):Int).toNat) g.length)
  rw[if_neg (show ¬ ((2:Int)=1) by decide)]
  have ef:file g 2 B least (k':Int)=bfile g B least (k':Int):=if_neg (by decide)
  rw[ef] at hl hu ⊢
  unfold bfile at hl hu ⊢
  generalize (pkA g B least ((k':Nat):Int).toNat g.length).1=L at g3 hprd hbit hl hu ⊢
  have e:[76,87,2]++(vn g.length++(vn B++(vn least++(vn (k':Int)++(vn L.length++pk L)))))=[76,87,2]++(([(g.length:Int),B,least,(k':Int),(L.length:Int)]).flatMap vn++pk L):=by
   simp only[qx4,qAo,qxS,qyh]
  rw[e] at hl hu ⊢
  generalize hb:[76,87,2]++(([(g.length:Int),B,least,(k':Int),(L.length:Int)]).flatMap vn++pk L)=b at hl hu ⊢
  have hd:b.drop 3=([(g.length:Int),B,least,(k':Int),(L.length:Int)]).flatMap vn++pk L:=by rw[← hb];exact qzT rfl
  have h2:idx b 2=some 2:=by rw[← hb];rfl
  have h3:3≤b.length:=by rw[← hb,qxQ];simp only[qxY,qyc];omega
  have hN:N64 [(g.length:Int),B,least,(k':Int),(L.length:Int)]:=fun x hx=>by
   simp only[qx1,List.not_mem_nil,or_false] at hx
   rcases hx with rfl | rfl | rfl | rfl | rfl <;> omega
  rw[if_neg (by simp;omega)]
  have:=qqd (F:=F) hF hu hl h2 (t:=pk L) [(g.length:Int),B,least,(k':Int),(L.length:Int)] F 3 [] (by omega) (by omega) hd hN (by simp) (Or.inr ⟨rfl,by simp⟩)
  rw[show (((3:Nat)):Int)=3 from rfl] at this
  rw[this,qx6]
  have hp3:3+(([(g.length:Int),B,least,(k':Int),(L.length:Int)]).flatMap vn).length≤b.length:=by
   have:=congrArg qzx hd
   rw[qya,qxQ] at this
   omega
  have hd5:b.drop (3+(([(g.length:Int),B,least,(k':Int),(L.length:Int)]).flatMap vn).length)=pk L:=by rw[← qzB,hd,qzg]
  generalize (([(g.length:Int),B,least,(k':Int),(L.length:Int)]).flatMap vn).length=p at hp3 hd5 ⊢
  generalize hA:[(g.length:Int),B,least,(k':Int),(L.length:Int)]=A
  have e0:idx A 0=some (g.length:Int):=by rw[← hA];rfl
  have e1:idx A 1=some B:=by rw[← hA];rfl
  have e2:idx A 2=some least:=by rw[← hA];rfl
  have e3:idx A 3=some (k':Int):=by rw[← hA];rfl
  have e4:idx A 4=some (L.length:Int):=by rw[← hA];rfl
  have hAl:A.length=5:=by rw[← hA];rfl
  unfold yA
  rw[if_neg (by rw[hAl];decide),e0]
  simp only[qxP]
  rw[decide_eq_false (by omega)]
  unfold kX
  rw[if_neg (by decide),e0]
  simp only[qxP]
  rw[h2]
  simp only[qxP]
  rw[if_pos (by decide),if_neg (by rw[hAl];decide),e1]
  simp only[qxP]
  rw[decide_eq_false (by omega)]
  unfold yP
  rw[if_neg (by decide),e2]
  simp only[qxP]
  rw[decide_eq_false (by omega)]
  unfold yQ
  rw[if_neg (by decide),e3]
  simp only[qxP]
  rw[decide_eq_false (by omega)]
  unfold yR
  rw[if_neg (by decide),e4]
  simp only[qxP]
  rw[decide_eq_false (by omega)]
  unfold yS
  rw[if_neg (by decide),e1]
  simp only[qxP]
  rw[e2]
  simp only[qxP]
  rw[e3]
  simp only[qxP]
  rw[e4]
  simp only[qxP]
  rw[qfJ hp3 (qyb _),qzf,hd5]
  simp only[qxP]
  rw[yj (by omega),yj (by omega),yj (by omega),yj (by omega),yj (by omega),qmq hF hbit,hprd]
  simp only[qxP]
  unfold jr
  rw[e4]
  simp only[qxP]
  rw[yj (by omega),yj (by omega),yj (by omega),yj (by omega)]
  rfl
theorem qo6 {F i:Nat}{g:List (qAE)}{r:qAE}{rec18:(List (Int×Int)×Int)→Option (List (Int×Int))}(hr:g[i]?=some r)(hm:r.length≤1000):∀ (k j:Nat) (acc:List (Int×Int)),r.length<k+j→j≤r.length→acc.length≤1000000 →
  yK F rec18 g (i:Int) k (acc++(r.take j).map (fun x=>((i:Int),x)),(j:Int))=qbk F rec18 (i:Int) (acc++r.map fun x=>((i:Int),x))
 | 0,_,_,_,_,_=>by omega
 | k+1,j,acc,h,hj,hc=>by
  show qbj F rec18 g (i:Int) (yK F rec18 g (i:Int) k) (acc++(r.take j).map (fun x=>((i:Int),x))) (j:Int)=_
  unfold qbj
  rw[qs,hr]
  simp only[qxP]
  by_cases hlt:j<r.length
  ·have hrec:=qo6 (F:=F) (rec18:=rec18) hr hm k (j+1) acc (by omega) (by omega) hc
   rw[List.take_succ_eq_append_getElem hlt,List.map_append,← qxS] at hrec
   rw[if_pos (by simp;omega),qs,qxR hlt]
   simp only[qxP]
   rw[qD (by simp;omega),qw (by omega)]
   exact hrec
  ·rw[if_neg (by simp;omega),List.take_of_length_le (by omega)]
theorem ql9 {F:Nat}{g:List (qAE)}(hF:1000≤F)(hg:Gr g):∀ (k i:Nat) (acc:List (Int×Int)),g.length<k+i→i≤g.length→acc.length≤1000*i →
  zu F g k (acc,(i:Int))=some (acc++af i (g.drop i))
 | 0,_,_,_,_,_=>by omega
 | k+1,i,acc,h,hi,hc=>by
  have h1:=hg.1
  show qbi F g (zu F g k) acc (i:Int)=_
  unfold qbi
  by_cases hlt:i<g.length
  ·have hrow:=qko hg (qx9 hlt)
   have hin:=qo6 (F:=F) (rec18:=zu F g k) (qxR hlt) (by omega) F 0 acc (by omega) (by omega) (by omega)
   rw[List.take_zero,List.map_nil,qyh] at hin
   rw[if_pos (by simp;omega),qxT hlt]
   refine hin.trans ?_
   unfold qbk af
   rw[qw (by omega),ql9 hF hg k (i+1) _ (by omega) (by omega) (by simp;omega),qxS]
  ·rw[if_neg (by simp;omega),qxW (by omega)]
   unfold qdx af
   rw[qyh]
theorem qtI {F:Nat}{g:List (qAE)}(hF:1000≤F)(hg:Gr g):qgb F g=some (af 0 g):=by
 have h1:=hg.1
 have:=ql9 hF hg F 0 [] (by omega) (by omega) (by simp)
 rw[qx8,qx6] at this
 exact this
theorem quf {F:Nat}(hF:2000000≤F){b:qAE}(hb:U8s b):qe5 F b=some (if (rdF b).2.2=0 then ((rdF b).1,(b.length:Int),((rdF b).1.length:Int),(gtot (rdF b).1:Int),(rdF b).2.1,0) else ([],0,0,0,0,(rdF b).2.2)):=by
 unfold qe5
 by_cases hm:4096<b.length
 ·have hr:rdF b=([],0,2):=by unfold rdF;rw[if_pos hm]
  rw[if_pos (by simp;omega),hr,if_neg (by decide)]
 ·rw[if_neg (by simp;omega)]
  by_cases h:(rdF b).2.2=0
  ·obtain ⟨kind,B,least,k,h1,h2,h3,h4⟩:=qwF hb h
   obtain ⟨hg,hk,hl⟩:=qip h1
   obtain ⟨s1,s2,s3,s4,s5,s6,s7⟩:=qiO hb h
   have hG:=qaQ.1 hg
   have hgf:=qqf hF h1
   rw[← h2] at hgf
   have hi:idx b 2=some kind:=(qs b 2).trans h3
   have hs:sv (rdF b).1 kind (how kind B least k).1 (how kind B least k).2.1 (how kind B least k).2.2=(b,0):=by
    unfold how
    rcases hk with rfl | ⟨rfl,_⟩
    ·have e:∀ B l k,file (rdF b).1 1 B l k=gfile (rdF b).1:=fun _ _ _=>if_pos rfl
     have h5:svE (rdF b).1 1 0 0 0=0:=qqG hg (Or.inl rfl) (by rw[e] at hl ⊢;exact hl)
     have e2:file (rdF b).1 1 0 0 0=b:=by rw[e,← e B least k,← h2]
     rw[if_pos rfl]
     simp only
     rw[qmB h5,e2]
    ·rw[if_neg (by decide)]
     simp only
     rw[qmB h1,← h2]
   have hkk:iconv .i64 kind=kind:=qL (by omega) (by omega)
   rw[hgf]
   simp only[qxP]
   rw[if_neg (by decide),hi]
   simp only[qxP]
   rw[hkk,qkL hF,hs]
   simp only[qxP]
   rw[if_neg (by decide),lsame (by omega) (by omega)]
   simp only[qxP]
   unfold qcZ
   rw[if_neg (by decide),qtI (by omega) hG]
   simp only[qxP]
   rw[if_pos h,qs3,h4]
  ·obtain ⟨r,hr,hr3⟩:=qsq hF hb (by omega)
   obtain ⟨_,_,he⟩:=qvA h
   rw[if_neg hm] at he
   rw[hr,if_neg h,he]
   simp only[qxP]
   by_cases hok:r.2.2.2.2.2=false
   ·rw[if_pos (by rw[hok];rfl)]
   ·have h3:¬ b.length<3:=fun hh=>hok (hr3 hh)
    rw[if_neg (by simpa using hok)]
    have hi2:idx b 2=some b[2]:=by
     have:=qs b 2
     rw[qxR (by omega)] at this
     exact this
    rw[hi2]
    simp only[qxP]
    rw[qkL hF]
    simp only[qxP]
    generalize iconv .i64 b[2]=kind
    by_cases hs:svE r.1 kind r.2.1 r.2.2.1 r.2.2.2.1=0
    ·rw[qmB hs]
     simp only
     rw[if_neg (by decide),qiU (by omega) (by omega)]
     simp only[qxP]
     have hne:b≠file r.1 kind r.2.1 r.2.2.1 r.2.2.2.1:=fun hh=>by
      have:=qj0 hs
      rw[← hh] at this
      rw[this] at h
      exact h rfl
     rw[decide_eq_false hne]
     rfl
    ·rw[qkV hs]
     simp only
     rw[if_pos (by simpa using hs)]
     rfl
theorem qmd {F:Nat}{b:qAE}{l n a s:Int}(h:l<(b.length:Int)):kC F b l n a s=some ([],0,8):=by
 unfold kC
 rw[if_pos (by simpa using h)]
theorem qxe {g:List (qAE)}{kind B least k:Int}:(sv g kind B least k).1.length≤4096:=by
 by_cases h:svE g kind B least k=0
 ·rw[qmB h];exact (qip h).2.2
 ·rw[qkV h];simp
theorem qo7 {F:Nat}(hF:2000000≤F){g:List (qAE)}{kind B least k:Int}{b:qAE}{l n a s:Int}(hb:U8s b):qf9 F g kind B least k b l n a s=some true:=by
 have hnil:jL F ([]:List (qAE)) []=some true:=qhh (by omega) qvP
 have hsl:=qxe (g:=g) (kind:=kind) (B:=B) (least:=least) (k:=k)
 have hsame:vp F (sv g kind B least k).1 (sv g kind B least k).1=some true:=lsame (by omega) (by omega)
 have h3:∀ (x21:List (qAE)×Int×Int) (x25:Int×Int×Int×Int×Int) (x30:List (qAE)×Int×Int×Int×Int×Int) (e st:Int) (gg:List (qAE)),
   x21=(gg,st,e)→jL F gg gg=some true→x25=(x30.2.1,x30.2.2.1,x30.2.2.2.1,x30.2.2.2.2.1,x30.2.2.2.2.2) →
   j2 F (sv g kind B least k) x21 x25 (sv g kind B least k) x30 e st gg=some true:=fun x21 x25 x30 e st gg e1 e2 e3=>by
  unfold j2
  rw[lbegun hF]
  simp only[qxP]
  rw[if_pos trivial,hsame]
  simp only[qxP]
  unfold qb6
  subst e1
  rw[if_pos (by simp),e2]
  simp only[qxP]
  unfold qb7
  subst e3
  simp
 unfold qf9
 rw[qn0 hF,qkL hF,quf hF hb]
 by_cases h:(rdF b).2.2=0
 ·obtain ⟨_,_,_,s4,p,s6,s7⟩:=qiO hb h
  rw[if_pos h,qra hF hb h]
  by_cases hl:l<(b.length:Int)
  ·rw[qmd hl]
   simp only[qxP]
   rw[if_pos (by simpa using hl)]
   unfold kr
   rw[if_pos (by decide)]
   exact h3 _ _ _ _ _ _ rfl hnil rfl
  ·by_cases hc:n<((rdF b).1.length:Int)∨a<(gtot (rdF b).1:Int)∨s<(rdF b).2.1
   ·have hL:=qjW hF hb h (l:=l) (n:=n) (a:=a) (s:=s)
    rw[if_neg (by omega)] at hL
    rw[hL]
    simp only[qxP]
    rw[if_neg (by simpa using hl),if_pos (by rfl)]
    unfold vq kr
    rw[if_pos (by simpa[or_assoc] using hc),if_pos (by decide)]
    exact h3 _ _ _ _ _ _ rfl hnil rfl
   ·have hL:=qjW hF hb h (l:=l) (n:=n) (a:=a) (s:=s)
    rw[if_pos (by omega)] at hL
    rw[hL]
    simp only[qxP]
    rw[if_neg (by simpa using hl),if_pos (by rfl)]
    unfold vq kr
    rw[if_neg (by simpa[or_assoc] using hc),if_neg (by simp)]
    exact h3 _ _ _ _ _ _ rfl (qhh (by omega) p) rfl
 ·rw[if_neg h,qtj hF hb h]
  by_cases hl:l<(b.length:Int)
  ·rw[qmd hl]
   simp only[qxP]
   rw[if_pos (by simpa using hl)]
   unfold kr
   rw[if_pos (by decide)]
   exact h3 _ _ _ _ _ _ rfl hnil rfl
  ·rw[qmb hF hb h (by omega)]
   simp only[qxP]
   rw[if_neg (by simpa using hl),if_neg (by simpa using h)]
   unfold vq kr
   rw[if_neg (by decide),if_pos (by simpa using h)]
   exact h3 _ _ _ _ _ _ rfl hnil rfl
end Go.Proofs.YtlioijpkhffbnaaGreat
