/- Plain facts of what the functions of this seat compute, part 3. -/
import Derived.Test.YtmhggdbfbmkpeaaGreatPureShelf7p2
import Derived.KernelRfl
import Derived.Lib.SlicesCompact
open Bool renaming false_eq_true→qxP, or_eq_true→qyC
open Int renaming toNat_natCast→qxH, eq_ofNat_of_zero_le→qxK
open List renaming getElem?_eq_getElem→qxE, length_append→qxF, append_assoc→qxG, drop_eq_getElem_cons→qxI, drop_eq_nil_of_le→qxN, drop_zero→qxT, nil_append→qxV, length_cons→qxX, getElem_mem→qx8, getD_eq_getElem?_getD→qyb, take_append_drop→qyu, append_nil→qyv, length_nil→qyA, length_map→qyB, mem_filter→qyK, drop_take→qz1
open List.Perm renaming append_left→qyY
open Nat renaming add_sub_cancel→qx6, zero_le→qx7, add_assoc→qyF, add_sub_cancel_left→qzL
open Option renaming bind_some→qxD
namespace Go.Proofs.YtmhggdbfbmkpeaaGreat
open Go SX
variable {F:Nat} {rec68:(List (Int×Int)×qAq×Int)→Option (List (Int×Int)×qAq)} {l:qAq} {least:Int} {o:List (Int×Int)} {rest:qAq} {i:Int}
theorem qxk {F k:Nat}(hF:2000000≤F)(h1:1≤k)(h2:k≤16){l:qAq}(hl:Bit l)(hm:l.length≤8192){node back least:Int}(hn:Nd node)(hle:0≤least)(hle2:least≤300){fr:qAq}(hfr:0<back→gkc fr=0){p:Nat}(hp:p≤l.length) :
  qer F l (p:Int) node fr back least (k:Int)=some (gG l p node fr back least k):=by
 unfold qer gG
 refine qiL (most:=300) (by omega) hl hm hp (fun g hg=>?_) (fun m hg m0 m1 m2 m3=>?_)
 ·rw[if_pos (by simpa using hg)]
 ·simp only
  rw[if_neg (by simp;omega)]
  by_cases h0:m.1=0
  ·rw[if_pos (by simpa using h0),if_pos h0]
  ·rw[if_neg (by simpa using h0),if_neg h0]
   by_cases hb:0<back
   ·have hfl:=(zL.1 (hfr hb)).1
    rw[if_pos (by simpa using hb),if_pos hb]
    have ef:iconv .u64 (iadd .i64 (fr.length:Int) 1)=(fr.length:Int)+1:=by
     rw[qw (by omega) (by omega)]
     exact zz (n:=fr.length+1) (by omega)
    refine qiL (most:=(fr.length:Int)+1) (by omega) hl hm m3 (fun g hg=>?_) (fun n hg n0 n1 n2 n3=>?_)
    ·rw[ef,if_pos (by simpa using hg)]
    ·simp only
     rw[ef,if_neg (by simp;omega)]
     have:=qtt (F:=F) (k:=k) hF hl hm (node:=node) (least:=least) (fr:=fr) (x:=(m.1,(m.2:Int),0)) (x9:=(n.1,(n.2:Int),0)) (n:=n.1.toNat) (by simp only;omega) (by omega) F 0 n.2 [] (by omega) (qx7 _) rfl n3
     refine Eq.trans this ?_
     rw[Nat.sub_zero,show decide (0<0)=false from rfl]
     cases hr:rbl l 1000 n.1.toNat false n.2 with
     | none=>rfl
     | some b =>
      have hbl:=qnY n3 hr
      simp only[qxV]
      unfold jl
      rw[qub (by omega)]
      simp only[qxD]
      have em:iconv .i64 m.1=m.1:=qX (by omega) (by omega)
      rw[em]
      by_cases hc:(cpy fr b.1).2=0∧((cpy fr b.1).1.length:Int)≤m.1
      ·rw[if_neg (by simp;exact ⟨hc.1,by omega⟩),if_pos hc]
       exact qtv hF h1 h2 hl hm hn hc.2 (by omega) hle hle2 hbl.2 rfl
      ·rw[if_neg hc,if_pos (by
        simp only[qyC,bne_iff_ne,ne_eq,decide_eq_true_eq]
        by_cases h9:(cpy fr b.1).2=0
        ·right
         have:=fun h8=>hc ⟨h9,h8⟩
         omega
        ·left;exact h9)]
   ·rw[if_neg (by simpa using hb),if_neg hb]
    exact qtv hF h1 h2 hl hm hn (by simp;omega) (by omega) hle hle2 m3 rfl
theorem qrx {F:Nat}{xs ys:qAq}(he:xs.length=ys.length)(hm:xs.length≤1000000):∀ (k i:Nat),xs.length<k+i→i≤xs.length→k7 F xs ys k (i:Int)=some (decide (xs.drop i=ys.drop i))
 | 0,_,_,_=>by omega
 | k+1,i,h,hi=>by
  show vS F xs ys (k7 F xs ys k) (i:Int)=_
  unfold vS
  by_cases hlt:i<xs.length
  ·have hlt':i<ys.length:=by omega
   rw[if_pos (by simp;omega),qt,qxE hlt,qt,qxE hlt']
   simp only[qxD]
   rw[qxI hlt,qxI hlt']
   by_cases hc:xs[i]=ys[i]
   ·rw[if_neg (by simp[hc]),qn (by omega),qrx he hm k (i+1) (by omega) (by omega)]
    congr 1
    rw[decide_eq_decide,List.cons.injEq]
    exact ⟨fun h=>⟨hc,h⟩,fun h=>h.2⟩
   ·rw[if_pos (by simpa using hc),decide_eq_false (fun e=>hc (List.cons.inj e).1)]
  ·rw[if_neg (by simp;omega),qxN (by omega),qxN (by omega)]
   rfl
theorem qgP {F:Nat}{xs ys:qAq}(hF:xs.length<F)(hm:xs.length≤1000000):yZ F xs ys=some (decide (xs=ys)):=by
 unfold yZ
 by_cases h:xs.length=ys.length
 ·rw[if_neg (by simp[h])]
  have:=qrx (F:=F) h hm F 0 (by omega) (qx7 _)
  rw[qxT,qxT] at this
  exact this
 ·rw[if_pos (by simp;omega),decide_eq_false (fun e=>h (by rw[e]))]
theorem qoS {k:Nat}(h1:1≤k)(h2:k≤16){node q:Int}(hn:Nd node){S out x:qAq}(hS:Ris q S)(hx:gkc x=0)(hp:(out++S).Perm x)(P T:qAq) :
  gGap (P++(zes k (gp false node S)++T)) k node x.length out P.length=(x,true):=by
 have hlen2:=hp.length_eq
 rw[qxF] at hlen2
 unfold gGap
 rw[show ((x.length:Int)-out.length).toNat=(gp false node S).length from by rw[qjf];omega]
 have h40:L40 (gp false node S):=fun z hz=>by have:=qmd hn hS (by simp) z hz;omega
 have:=qnz h1 h2 P T h40 (qs6 (b:=false) hn hS (by simp))
 rw[qxG] at this
 rw[this]
 simp only
 rw[qhs hp (qkP (qhd hx))]
theorem qq8 {node least many:Int}{k:Nat}(hle:0≤least)(hmm:many≤300):∀ (R:List (Int×Int)) (b:Bool) (a q:Int) (out P T:qAq),(∀ r∈R,RunOk r∧least≤r.2)→Nd a→Sep q R→(b=true→a+1≤q)→(b=false→a=node)→((out.length:Int)+(flat R).length≤many) →
  gRn (P++(encRs least b a R++T)) k node least many R.length b a out P.length=gGap (P++(encRs least b a R++T)) k node many (out++flat R) (P.length+(encRs least b a R).length)
 | [],_,_,_,_,P,T,_,_,_,_,_,_=>by simp[gRn,encRs,flat]
 | r::R,b,a,q,out,P,T,hR,ha,hs,hb,hb0,ho=>by
  obtain ⟨hro,hrl⟩:=hR r (by simp)
  obtain ⟨s1,s2,s3⟩:=hs
  unfold RunOk at hro
  have ha':=ha
  unfold Nd at ha'
  have hf:=qfz (x:=r.1-a) (by omega)
  have hf2:foldOf (r.1-a)≤2097152:=by unfold foldOf;split <;> omega
  have hv:0≤(if b=true then r.1-a-2 else foldOf (r.1-a))∧(if b=true then r.1-a-2 else foldOf (r.1-a))≤2097152:=by
   cases b with
   | false=>simp;omega
   | true=>have:=hb rfl;simp;omega
  rw[zF,qxF,yQ] at ho
  unfold encRs
  simp only[qxX,gRn,qxG]
  rw[qiW hv.1 (by omega) (by omega)]
  simp only
  have e1:=qiW (n:=r.2-least) (most:=1000) (by omega) (by omega) (by omega) (P++ga (if b=true then r.1-a-2 else foldOf (r.1-a)).toNat) (encRs least true (r.1+r.2-1) R++T)
  simp only[qxG,qxF] at e1
  rw[e1]
  simp only
  have e2:gFst b a node (if b=true then r.1-a-2 else foldOf (r.1-a))=r.1:=by
   unfold gFst
   cases b with
   | false =>
    have:=hb0 rfl
    subst this
    simp only[qxP,if_false]
    have:st false a (foldOf (r.1-a))=some r.1:=by
     unfold st
     rw[if_neg (by omega)]
     simp only[qxP,if_false]
     rw[qhv,show a+(r.1-a)=r.1 from by omega,if_pos (show Nd r.1 from hro.1)]
    rw[this]
   | true=>simp only[if_true];omega
  rw[e2,show r.2-least+least=r.2 from by omega,show r.1+(r.2-least)+least-1=r.1+r.2-1 from by omega]
  rw[if_neg (by omega),if_neg (by rw[qxF,yQ];omega)]
  have:=qq8 (node:=node) (k:=k) hle hmm R true (r.1+r.2-1) (r.1+r.2) (out++rng r.1 r.2.toNat) ((P++ga (if b=true then r.1-a-2 else foldOf (r.1-a)).toNat)++ga (r.2-least).toNat) T (fun z hz=>hR z (by simp[hz])) (by unfold Nd;omega) s3 (fun _=>by omega) (fun h=>by simp at h) (by rw[qxF,yQ];omega)
  simp only[qxG,qxF] at this
  rw[show P.length+(ga (if b=true then r.1-a-2 else foldOf (r.1-a)).toNat).length+(ga (r.2-least).toNat).length=P.length+((ga (if b=true then r.1-a-2 else foldOf (r.1-a)).toNat).length+(ga (r.2-least).toNat).length) from by omega,this]
  simp only[qxF,zF]
  congr 1
  omega
theorem qq6 {k:Nat}(h1:1≤k)(h2:k≤16){node least:Int}(hn:Nd node)(_hle:least=0∨2≤least∧least≤300){rest out x:qAq}(hr:gkc rest=0)(hx:gkc x=0)(ho:out.Pairwise (·≤·))(hp:(out++rest).Perm x)(P T:qAq) :
  gG2 (P++(encL node rest least k++T)) k node least x.length out P.length=(x,true):=by
 have hlen2:=hp.length_eq
 have hxm:=(zL.1 hx).1
 obtain ⟨hrm,hrs⟩:=zL.1 hr
 rw[qxF] at hlen2
 unfold gG2 encL
 by_cases h0:rest=[]
 ·subst h0
  simp only[qyA,Nat.add_zero] at hlen2
  rw[if_pos (by omega)]
  rw[qyv] at hp
  have e1:=qhs hp (qkP (qhd hx))
  have e2:=qhs (List.Perm.refl out) ho
  rw[e2] at e1
  rw[e1]
 ·have hl0:rest.length≠0:=by simpa using h0
  rw[if_neg (by omega),if_neg h0]
  obtain ⟨e1,e2,e3,e4⟩:=qjY (least:=least) hr
  by_cases hl:0<least
  ·have hlen:=e3.length_eq
   rw[qxF] at hlen
   obtain ⟨r1,r2⟩:=qmu hrm hrs
   have hO:encO rest least=spO least (rs rest):=by unfold encO;rw[if_pos hl]
   have hsep:Sep (-1) (encO rest least):=by rw[hO];exact qdo _ r1
   have hfl:=qgk hsep
   rw[if_pos hl,if_pos hl]
   unfold encR
   simp only[qxG]
   rw[qfc (by omega) (by omega)]
   simp only[qxH]
   have:=qq8 (k:=k) (node:=node) (least:=least) (many:=(x.length:Int)) (by omega) (by omega) (encO rest least) false node (-1) out (P++ga (encO rest least).length) (zes k (gp false node (encS rest least))++T) (fun r hrr=>by rw[hO] at hrr;exact ⟨r2 r (qyK.1 hrr).1,by simpa using (qyK.1 hrr).2⟩) hn hsep (fun h=>by simp at h) (fun _=>rfl) (by omega)
   simp only[qxG,qxF] at this
   rw[this]
   have hpx:((out++flat (encO rest least))++encS rest least).Perm x:=by
    rw[qxG]
    exact (qyY out e3).trans hp
   have:=qoS h1 h2 hn e2 hx hpx (P++(ga (encO rest least).length++encRs least false node (encO rest least))) T
   simp only[qxG,qxF] at this
   rw[qyF]
   exact this
  ·have hO:encO rest least=[]:=by unfold encO;rw[if_neg hl]
   rw[if_neg hl,if_neg hl,qxV]
   rw[hO] at e3
   exact qoS h1 h2 hn e2 hx ((qyY out e3).trans hp) P T
theorem qwJ {k:Nat}(h1:1≤k)(h2:k≤16){node back least:Int}{x fr:qAq}(hn:Nd node)(hle:least=0∨2≤least∧least≤300)(hx:gkc x=0)(hfr:0<back→gkc fr=0)(P T:qAq) :
  gG (P++(enc node x fr back least k++T)) P.length node fr back least k=(x,true):=by
 have hxm:=(zL.1 hx).1
 unfold gG enc rstO
 rw[qxG,qfc (by omega) (by omega)]
 simp only
 by_cases h0:x=[]
 ·subst h0
  rw[if_pos (by simp)]
 ·have hx0:x.length≠0:=by simpa using h0
  rw[if_neg (by omega),if_neg h0]
  by_cases hb:0<back
  ·have hfg:=hfr hb
   have hfl:=(zL.1 hfg).1
   rw[if_pos hb,if_pos hb,if_pos hb]
   have htl:=qhS fr x
   have hok:okB true (tbs fr x)=true:=qhh _ _ _ _ (by omega) (Or.inl rfl)
   have hsum:bsum (tbs fr x)≤0+(fr.map (hasB x)).length:=qfU _ _ _ (by omega)
   rw[qyB] at hsum
   have e0:=qfc (n:=(tbs fr x).length) (most:=(fr.length:Int)+1) (by omega) (by omega) (P++ga x.length) (encBs false (tbs fr x)++(encL node (rst fr x) least k++T))
   have e1:=qnX (many:=1000) (by omega) (tbs fr x) false ((P++ga x.length)++ga (tbs fr x).length) (encL node (rst fr x) least k++T) hok (fun n hnm=>by have:=qhD hok n hnm;omega)
   unfold encB
   simp only[qxG,qxF] at e0 e1 ⊢
   rw[e0]
   simp only[qxH]
   rw[qyF,e1]
   simp only
   rw[qq1 hfg]
   have hbe:=qo6 hfg hx
   have hfx:(fr.filter (hasB x)).length≤x.length:=by rw[hbe];exact List.length_filter_le _ _
   rw[if_pos ⟨rfl,by simp only;omega⟩]
   have hperm:(fr.filter (hasB x)++rst fr x).Perm x:=by rw[hbe];exact ql8 _ _
   have:=qq6 h1 h2 hn hle (qiX hx) hx (qkP ((qhd hfg).sublist List.filter_sublist)) hperm ((P++ga x.length)++(ga (tbs fr x).length++encBs false (tbs fr x))) T
   simp only[qxG,qxF] at this
   simp only[qyF]
   exact this
  ·rw[if_neg hb,if_neg hb,if_neg hb,qxV]
   have:=qq6 h1 h2 hn hle hx hx (out:=[]) (by simp) (by simp) (P++ga x.length) T
   simp only[qxG,qxF] at this
   exact this
theorem qkv {k:Nat}(h1:1≤k)(h2:k≤16){l:qAq}{p:Nat}(hp:p≤l.length){node back least:Int}{x fr:qAq}(hn:Nd node)(hle:least=0∨2≤least∧least≤300)(hx:gkc x=0)(hfr:0<back→gkc fr=0)(hs:(l.drop p).take (enc node x fr back least k).length=enc node x fr back least k) :
  gG l p node fr back least k=(x,true)∧rls l p node fr back least k=some (x,p+(enc node x fr back least k).length):=by
 have e:l=l.take p++(enc node x fr back least k++(l.drop p).drop (enc node x fr back least k).length):=by
  conv=>lhs;rw[← qyu p l,← qyu (enc node x fr back least k).length (l.drop p),hs]
 have hpl:(l.take p).length=p:=by rw[List.length_take];omega
 have a1:=qwJ h1 h2 hn hle hx hfr (l.take p) ((l.drop p).drop (enc node x fr back least k).length)
 have a2:=qrG h1 h2 hn hle hx hfr (l.take p) ((l.drop p).drop (enc node x fr back least k).length)
 rw[← e,hpl] at a1 a2
 exact ⟨a1,a2⟩
theorem qsG {F:Nat}(hF:2000000≤F){m p node back least k:Int}{b fr:qAq}(hb:U8s b):qcq F m b p node fr back least k=some (sr m b p node fr back least k):=by
 have hj:qaV F m b p node fr back least k (srE m b p node fr back least k)=some (sr m b p node fr back least k):=by
  unfold qaV sr
  by_cases h:srE m b p node fr back least k=0
  ·rw[if_neg (by simp[h]),if_neg (by simp[h])]
   obtain ⟨h1,h2,h3⟩:=qw1 h
   obtain ⟨k1,k2,k',rfl,k3,k4⟩:=qbi h1
   obtain ⟨n1,n2⟩:=quu h3
   rcases qt5 hb (m:=m) (a:=p) with hx | ⟨l,i,hl,hlm,rfl,rfl,rfl,hi⟩
   ·exact absurd h2 hx
   ·have hbl:qai F (l.length:Int) (pk l)=some l:=by
     rw[qih (by omega) (qfF hl) (by rw[qfE];omega) (by omega),qbS hl]
    rw[hbl]
    simp only[qxD,qxH,qbS hl]
    rw[qxk hF k3 k4 hl hlm n1 (by omega) (by omega) n2 hi]
    simp only[qxD]
    cases hr:rdl l i node fr back least k' with
    | some r =>
     obtain ⟨r1,r2,r3,r4,r5⟩:=qiV hl k3 hr
     have hg:=(qkv k3 k4 hi n1 k2 r1 n2 r4).1
     rw[hg]
     simp only
     rw[if_neg (by simp),qhJ (by omega)]
     simp only[qxD]
     unfold vT
     rw[if_neg (by simp[r1]),qjm hF k3 k4 n1 r1 n2]
     simp only[qxD]
     rw[qy (by omega) (by omega),if_neg (by simp;omega),qw (by omega) (by omega),show ((i:Int)+((enc node r.1 fr back least k').length:Int))=((i+(enc node r.1 fr back least k').length:Nat):Int) from by omega,qi3 (by omega) (by omega)]
     simp only[qxD]
     rw[show (l.take (i+(enc node r.1 fr back least k').length)).drop i=enc node r.1 fr back least k' from by rw[qz1,qzL];exact r4]
     rw[qqu (by omega) (by omega)]
     simp only[qxD,Bool.not_true]
     unfold qaW
     rw[if_neg (by simp),qw (by omega) (by omega),← r3]
     congr 3
    | none =>
     simp only
     have hno:∀ x:qAq,gkc x=0→(enc node x fr back least k').length≤8192→(l.drop i).take (enc node x fr back least k').length≠enc node x fr back least k':=by
      intro x hx hxl hs
      have h9:=(qkv k3 k4 hi n1 k2 hx n2 hs).2
      unfold rdl at hr
      rw[h9] at hr
      simp only[qxD] at hr
      rw[if_pos ⟨hx,hxl,trivial,hs⟩] at hr
      simp at hr
     by_cases hg:(gG l i node fr back least k').2=true
     ·rw[if_neg (by simp[hg]),qhJ (by omega)]
      simp only[qxD]
      unfold vT
      by_cases hx:gkc (gG l i node fr back least k').1=0
      ·rw[if_neg (by simp[hx]),qjm hF k3 k4 n1 hx n2]
       simp only[qxD]
       rw[qy (by omega) (by omega)]
       unfold qaW
       by_cases hc:((l.length:Int)-(i:Int))<((enc node (gG l i node fr back least k').1 fr back least k').length:Int)
       ·rw[if_pos (by simpa using hc),if_pos rfl]
       ·rw[if_neg (by simpa using hc),qw (by omega) (by omega),show ((i:Int)+((enc node (gG l i node fr back least k').1 fr back least k').length:Int))=((i+(enc node (gG l i node fr back least k').1 fr back least k').length:Nat):Int) from by omega,qi3 (by omega) (by omega)]
        simp only[qxD]
        have hne:=hno _ hx (by omega)
        rw[qgP (by simp;omega) (by simp;omega),decide_eq_false (by
         rw[qz1,qzL];exact hne)]
        simp only[qxD,Bool.not_false]
        rw[if_pos (by trivial)]
      ·rw[if_pos (by simpa using hx)]
     ·rw[if_pos (by simpa using hg)]
      unfold vT
      rw[if_pos rfl]
  ·rw[if_pos (by simpa using h),if_pos h]
 unfold qcq
 rw[qn0]
 simp only[qxD]
 by_cases h1:hcE back least k=0
 ·rw[if_pos (by simpa using h1),qqq (by omega) hb]
  simp only[qxD]
  unfold qaU
  by_cases h2:raOf m b p=0
  ·have e:srE m b p node fr back least k=scE node fr back:=by unfold srE;rw[if_neg (by simp[h1]),if_neg (by simp[h2])]
   rw[if_pos (by simpa using h2),qup (by omega),← e]
   exact hj
  ·have e:srE m b p node fr back least k=raOf m b p:=by unfold srE;rw[if_neg (by simp[h1]),if_pos h2]
   rw[if_neg (by simpa using h2),← e]
   exact hj
 ·have e:srE m b p node fr back least k=hcE back least k:=by unfold srE;rw[if_pos h1]
  rw[if_neg (by simpa using h1)]
  unfold qaU
  rw[if_neg (by simpa using h1),← e]
  exact hj
theorem qjG {F:Nat}(hF:2000000≤F){N B least k m n t w lw hw:Int}{b xl xh:qAq}(h1:b.length≤1000000)(h2:xl.length≤1000000)(h3:xh.length≤1000000) :
  qa8 F N B least k m b n t w lw xl hw xh N B least k m b n t w lw xl hw xh=some true:=by
 unfold qa8 qfk qbt
 rw[if_pos (by simp),qsI (by omega) (by omega)]
 simp only[qxD]
 rw[if_pos (by trivial),qhq (by omega) (by omega) (by omega) (by omega),decide_eq_true ⟨rfl,rfl,rfl,rfl,rfl,rfl,rfl⟩]
 rfl
theorem quA {F:Nat}(hF:2000000≤F):qa8 F 0 0 0 0 0 [] 0 0 0 0 [] 0 [] 0 0 0 0 0 [] 0 0 0 0 [] 0 []=some true :=
 qjG hF (by simp) (by simp) (by simp)
theorem qux:shE pkSome 3 3 2=0:=by decide +kernel
theorem quz:rdn' pkSome 3 3 2 1=2:=by decide +kernel
theorem quy:fwp pkSome 3 3 2≠(0,0,0,0,[],0,[],0):=by decide +kernel
theorem qvS {F:Nat}(hF:2000200≤F):qdu F=some true:=by
 have hS:qf1 F=some pkSome:=rfl
 have hE:=qux
 have s:=qrS hE
 obtain ⟨b1,b2,b3⟩:=qrR s
 have l1:=qnK hF s (i:=1) (by decide)
 have l2:=qkC hF s (i:=4) (by decide) (v:=4)
 have l3:=qkC hF s (i:=4) (by decide) (v:=5)
 have l4:=qkF hF s (i:=6) (by decide)
 have l5:=qea (F:=F) (by omega) (N:=(pkSome.length:Int)) (B:=3) (least:=3) (k:=2) (n:=(fwp pkSome 3 3 2).1) (t:=(fwp pkSome 3 3 2).2.1) (w:=(fwp pkSome 3 3 2).2.2.1) (lw:=(fwp pkSome 3 3 2).2.2.2.1) (xl:=(fwp pkSome 3 3 2).2.2.2.2.1) (hw:=(fwp pkSome 3 3 2).2.2.2.2.2.1) (xh:=(fwp pkSome 3 3 2).2.2.2.2.2.2.1) b1 b2 b3
 rw[qqy s.pe s.fe] at l5
 have l6:=qea (F:=F) (by omega) (N:=(pkSome.length:Int)) (B:=3) (least:=3) (k:=2) (n:=0) (t:=0) (w:=0) (lw:=0) (xl:=[]) (hw:=0) (xh:=[]) b1 b2 b3
 have e6:shc (pkSome.length:Int) 3 3 2 ((pkA pkSome 3 3 (2:Int).toNat pkSome.length).1.length:Int) (pk (pkA pkSome 3 3 (2:Int).toNat pkSome.length).1) 0 0 0 0 [] 0 []=4:=by
  unfold shc
  rw[qqo s.pe]
  simp only
  rw[if_neg (by decide),if_neg quy]
 rw[e6] at l6
 rw[show ((1:Nat):Int)=1 from rfl,quz] at l1
 rw[show ((4:Nat):Int)=4 from rfl] at l2 l3
 rw[if_neg (by decide),decide_eq_true (by decide)] at l2
 rw[if_neg (by decide),decide_eq_false (by decide)] at l3
 unfold qdu
 rw[hS]
 simp only[qxD]
 rw[qoG (by omega),qjp hE]
 simp only[qxD]
 rw[l1]
 simp only[qxD]
 rw[l2]
 simp only[qxD]
 rw[l3]
 simp only[qxD]
 rw[l4]
 simp only[qxD]
 rw[if_pos (by rfl),show pkSome.getD 1 []=[1,2,3,5] from rfl,qgP (by simp;omega) (by simp),decide_eq_true rfl]
 simp only[qxD]
 unfold qbn
 simp only
 rw[if_pos (by rfl),l5]
 simp only[qxD]
 unfold qbo
 simp only
 rw[if_pos (by rfl),l6]
 rfl
theorem qpr {g:List (qAq)}{B least k n t w lw hw:Int}{xl xh:qAq}(s:Shf g B least k n t w lw xl hw xh):(pk (pkA g B least k.toNat g.length).1).length≤1000000∧xl.length≤1000000∧xh.length≤1000000:=by
 obtain ⟨p1,p2,p3⟩:=qfD s.pe
 have:=qnw (g:=g) (B:=B) (least:=least) (k:=k)
 rw[s.fe] at this
 simp only at this
 rw[qfE]
 omega
theorem qws {g:List (qAq)}{i:Nat}(hi:i<g.length):g.getD i []∈g:=by
 rw[qyb,qxE hi];exact qx8 hi
theorem ql4:∀ (bs:qAq) (b:Bool),(∀ n∈bs,n≤1000000)→(encBs b bs).length≤81*bs.length
 | [],_,_=>by simp[encBs]
 | n::bs,b,hn=>by
  have h3:=ql4 bs true (fun y hy=>hn y (by simp[hy]))
  have h4:=hn n (by simp)
  have h5:=qdX (n:=(n-if b then 1 else 0).toNat) (by split <;> omega)
  simp only[encBs,qxF,qxX]
  omega
theorem ql5 {least:Int}(hle:0≤least):∀ (R:List (Int×Int)) (b:Bool) (a:Int),(∀ r∈R,RunOk r)→-2000≤a∧a≤1100000→(encRs least b a R).length≤162*R.length
 | [],_,_,_,_=>by simp[encRs]
 | r::R,b,a,hR,ha=>by
  have hr:=hR r (by simp)
  unfold RunOk at hr
  have h3:=ql5 hle R true (r.1+r.2-1) (fun z hz=>hR z (by simp[hz])) (by omega)
  have hf:=qfz (x:=r.1-a) (by omega)
  have h4:=qdX (n:=(if b then r.1-a-2 else foldOf (r.1-a)).toNat) (by split <;> omega)
  have h5:=qdX (n:=(r.2-least).toNat) (by omega)
  simp only[encRs,qxF,qxX]
  omega
theorem qvl {node back least:Int}{x fr:qAq}{k:Nat}(hk:k≤16)(hn:Nd node)(hx:gkc x=0)(hfr:gkc fr=0)(hle:0≤least):(enc node x fr back least k).length≤300000:=by
 obtain ⟨hm,hs⟩:=zL.1 hx
 have hfl:=(zL.1 hfr).1
 unfold enc
 have g1:=qdX (n:=x.length) (by omega)
 have hn':=hn
 unfold Nd at hn'
 rw[qxF]
 by_cases h0:x=[]
 ·rw[if_pos h0];simp;omega
 ·rw[if_neg h0,qxF]
  have hB:(if 0<back then encB (tbs fr x) else []).length≤30000:=by
   split
   ·have htl:=qhS fr x
    have hok:okB true (tbs fr x)=true:=qhh _ _ _ _ (by omega) (Or.inl rfl)
    have hsum:bsum (tbs fr x)≤0+(fr.map (hasB x)).length:=qfU _ _ _ (by omega)
    rw[qyB] at hsum
    have h1:=ql4 (tbs fr x) false (fun n hnm=>by have:=qhD hok n hnm;omega)
    have h2:=qdX (n:=(tbs fr x).length) (by omega)
    unfold encB
    rw[qxF]
    omega
   ·simp
  have hr:gkc (rstO x fr back)=0:=by
   unfold rstO
   split
   ·exact qiX hx
   ·exact hx
  obtain ⟨hrm,hrs⟩:=zL.1 hr
  have hL:(encL node (rstO x fr back) least k).length≤200000:=by
   unfold encL
   split
   ·simp
   ·rw[qxF]
    obtain ⟨s1,s2⟩:=qn3 (least:=least) hrm hrs
    obtain ⟨r1,r2⟩:=qmu hrm hrs
    have e2:=(qjY (least:=least) hr).2.1
    have hz:=qof hk (g:=gp false node (encS (rstO x fr back) least)) (fun z hz=>by have:=qmd hn e2 (by simp) z hz;omega)
    rw[qjf] at hz
    have hS:(encS (rstO x fr back) least).length≤300:=by unfold encS;split <;> omega
    have hR:(if 0<least then encR least node (encO (rstO x fr back) least) else []).length≤60000:=by
     by_cases hl:0<least
     ·rw[if_pos hl]
      unfold encR encO
      rw[if_pos hl,qxF]
      have h1:=ql5 hle (spO least (rs (rstO x fr back))) false node (fun r hrr=>r2 r (qyK.1 hrr).1) (by omega)
      have h2:=qdX (n:=(spO least (rs (rstO x fr back))).length) (by omega)
      omega
     ·rw[if_neg hl];simp
    omega
  omega
theorem qnQ {g:List (qAq)}(hg:Gr g){B least:Int}{k i r:Nat}(hh:hcE B least (k:Int)=0)(hi:i≤100)(hr:r≤100):(pkW g B least k i r).length≤301000:=by
 obtain ⟨k1,k2,k',hk,k3,k4⟩:=qbi hh
 have:=qvl (node:=(i:Int)) (back:=(r:Int)) (least:=least) (x:=g.getD i []) (fr:=pkF g i r) (k:=k) (by omega) (by unfold Nd;omega) (qim hg i) (qhH hg i r) (by omega)
 have h2:=qdX (n:=r) (by omega)
 unfold pkW pkH
 rw[qxF]
 split
 ·omega
 ·simp only[qyA];omega
def bsr (f:Nat→qAq)(j:Nat):Int×qAq:=if j=0 then (-1,[]) else (((bwy f (j-1)).1:Int),(bwy f (j-1)).2)
theorem qrJ {F:Nat}(hF:2000000≤F){g:List (qAq)}(hg:Gr g){B least:Int}{k i:Nat}(hh:hcE B least (k:Int)=0)(hi:i<g.length):∀ (n j:Nat),min B.toNat i+1<n+j→j≤min B.toNat i+1 →
  zC F g (i:Int) B least (k:Int) n ((bsr (pkW g B least k i) j).1,(bsr (pkW g B least k i) j).2,(j:Int))=some (((pkN g B least k i).1:Int),(pkN g B least k i).2)
 | 0,_,_,_=>by omega
 | n+1,j,h,hj=>by
  have hgl:=hg.1
  obtain ⟨k1,k2,k',hk,k3,k4⟩:=qbi hh
  have hkk:k=k':=by omega
  subst hkk
  show qcg F g (i:Int) B least (k:Int) (zC F g (i:Int) B least (k:Int) n) (bsr (pkW g B least k i) j).1 (bsr (pkW g B least k i) j).2 (j:Int)=_
  unfold qcg
  by_cases hlt:j<min B.toNat i+1
  ·rw[if_pos (by simp;omega)]
   have hrec:=qrJ hF hg hh hi n (j+1) (by omega) (by omega)
   have hlen:=qnQ hg (B:=B) (least:=least) (k:=k) (i:=i) (r:=j) hh (by omega) (by omega)
   have hW:∀ H:qAq,H=pkH B j→jT F (zC F g (i:Int) B least (k:Int) n) g (i:Int) least (k:Int) (bsr (pkW g B least k i) j).1 (bsr (pkW g B least k i) j).2 (j:Int) H=some (((pkN g B least k i).1:Int),(pkN g B least k i).2):=by
    intro H hH
    have h33:jU F (zC F g (i:Int) B least (k:Int) n) g (i:Int) least (k:Int) (bsr (pkW g B least k i) j).1 (bsr (pkW g B least k i) j).2 (j:Int) H (pkF g i j)=some (((pkN g B least k i).1:Int),(pkN g B least k i).2):=by
     unfold jU
     rw[qfA hi]
     simp only[qxD]
     rw[qjm hF k3 k4 (by unfold Nd;omega) (qim hg i) (fun _=>qhH hg i j)]
     simp only[qxD]
     have e:H++enc (i:Int) (g.getD i []) (pkF g i j) (j:Int) least k=pkW g B least k i j:=by rw[hH];rfl
     rw[qT (by rw[← qxF,e];omega)]
     simp only[qxD]
     rw[e]
     unfold qch
     rw[qn (by omega)]
     by_cases h0:j=0
     ·subst h0
      rw[if_pos (by simp[bsr]),← hrec]
      rfl
     ·obtain ⟨q,rfl⟩:∃ q,j=q+1:=⟨j-1,by omega⟩
      have eb:bsr (pkW g B least k i) (q+1)=(((bwy (pkW g B least k i) q).1:Int),(bwy (pkW g B least k i) q).2):=by
       unfold bsr;rw[if_neg (by omega),qx6]
      have eb2:bsr (pkW g B least k i) (q+1+1)=(((bwy (pkW g B least k i) (q+1)).1:Int),(bwy (pkW g B least k i) (q+1)).2):=by
       unfold bsr;rw[if_neg (by omega),qx6]
      rw[eb2] at hrec
      rw[eb]
      simp only
      by_cases hc:(pkW g B least k i (q+1)).length<(bwy (pkW g B least k i) q).2.length
      ·rw[if_pos (by simp;omega),← hrec,bwy,if_pos hc]
      ·rw[if_neg (by simp;omega),← hrec,bwy,if_neg hc]
    unfold jT
    by_cases h0:0<j
    ·rw[if_pos (by simpa using h0),qy (by omega) (by omega),show ((i:Int)-(j:Int))=((i-j:Nat):Int) from by omega,qfA (by omega)]
     simp only[qxD]
     have e:pkF g i j=g.getD (i-j) []:=by unfold pkF;rw[if_pos h0]
     rw[← e]
     exact h33
    ·rw[if_neg (by simpa using h0)]
     have e:pkF g i j=[]:=by unfold pkF;rw[if_neg h0]
     rw[← e]
     exact h33
   by_cases hB:0<B
   ·rw[if_pos (by simpa using hB),zz (by omega),qgG (by omega) (by omega)]
    simp only[qxD]
    exact hW _ (by unfold pkH;rw[if_pos hB])
   ·rw[if_neg (by simpa using hB)]
    exact hW _ (by unfold pkH;rw[if_neg hB])
  ·rw[if_neg (by simp;omega)]
   have:j=min B.toNat i+1:=by omega
   subst this
   unfold qd1 bsr pkN
   rw[if_neg (by omega),qx6]
theorem quj {F:Nat}(hF:2000000≤F){g:List (qAq)}(hg:Gr g){B least:Int}{k i:Nat}(hh:hcE B least (k:Int)=0)(hi:i<g.length):qgx F g (i:Int) B least (k:Int)=some (((pkN g B least k i).1:Int),(pkN g B least k i).2):=by
 have hgl:=hg.1
 exact qrJ hF hg hh hi F 0 (by omega) (qx7 _)
theorem qrp {g:List (qAq)}(hg:Gr g){B least:Int}{k:Nat}(hh:hcE B least (k:Int)=0):∀ i:Nat,i≤100→(pkA g B least k i).1.length≤301000*i
 | 0,_=>by simp[pkA]
 | i+1,h=>by
  have h1:=qrp hg hh i (by omega)
  obtain ⟨hr,hN⟩:=qgO (g:=g) (B:=B) (least:=least) (k:=k) (i:=i)
  have h2:=qnQ hg (B:=B) (least:=least) (k:=k) (i:=i) (r:=(pkN g B least k i).1) hh (by omega) (by omega)
  rw[pkA,qxF,hN]
  omega
theorem qmt {F:Nat}(hF:2000000≤F){g:List (qAq)}(hg:Gr g){B least:Int}{k:Nat}(hh:hcE B least (k:Int)=0):∀ (j i:Nat),g.length<j+i→i≤g.length →
  yl F g B least (k:Int) j ((pkA g B least k i).1,(pkA g B least k i).2.1,(pkA g B least k i).2.2,(i:Int))=some (if 8192<(pkA g B least k g.length).1.length then ([],[],[],8) else ((pkA g B least k g.length).1,(pkA g B least k g.length).2.1,(pkA g B least k g.length).2.2,0))
 | 0,_,_,_=>by omega
 | j+1,i,h,hi=>by
  have hgl:=hg.1
  show qck F g B least (k:Int) (yl F g B least (k:Int) j) (pkA g B least k i).1 (pkA g B least k i).2.1 (pkA g B least k i).2.2 (i:Int)=_
  unfold qck
  by_cases hlt:i<g.length
  ·have h1:=qrp hg hh (B:=B) (least:=least) (k:=k) i (by omega)
   obtain ⟨hr,hN⟩:=qgO (g:=g) (B:=B) (least:=least) (k:=k) (i:=i)
   have h2:=qnQ hg (B:=B) (least:=least) (k:=k) (i:=i) (r:=(pkN g B least k i).1) hh (by omega) (by omega)
   rw[← hN] at h2
   obtain ⟨l1,l2⟩:=qiS (g:=g) (B:=B) (least:=least) (k:=k) i
   rw[if_pos (by simp;omega),quj hF hg hh hlt]
   simp only[qxD]
   rw[qT (by rw[l1];simp;omega)]
   simp only[qxD]
   rw[qT (by rw[l2];simp;omega)]
   simp only[qxD]
   rw[qT (by omega)]
   simp only[qxD]
   rw[qn (by omega)]
   exact qmt hF hg hh j (i+1) (by omega) (by omega)
  ·rw[if_neg (by simp;omega)]
   have:i=g.length:=by omega
   subst this
   unfold qd2
   by_cases hc:8192<(pkA g B least k g.length).1.length
   ·rw[if_pos (by simp;omega),if_pos hc]
   ·rw[if_neg (by simp;omega),if_neg hc]
def rpw (g:List (qAq))(B least k:Int):qAq×qAq×qAq×Int :=
 if pkE g B least k≠0 then ([],[],[],pkE g B least k) else ((pkA g B least k.toNat g.length).1,(pkA g B least k.toNat g.length).2.1,(pkA g B least k.toNat g.length).2.2,0)
theorem qiu {F:Nat}(hF:2000000≤F){g:List (qAq)}{B least k:Int}:qa7 F g B least k=some (rpw g B least k):=by
 unfold qa7 rpw
 rw[qkS (by omega)]
 simp only[qxD]
 unfold qcl
 by_cases h1:gchk g=0
 ·rw[if_pos (by simpa using h1),qn0]
  simp only[qxD]
  by_cases h2:hcE B least k=0
  ·rw[if_neg (by simp[h2])]
   obtain ⟨_,_,k',rfl,_,_⟩:=qbi h2
   have hg:=qe9.1 h1
   have hgl:=hg.1
   have hl:yl F g B least (k':Int) F ([],[],[],0)=_:=qmt hF hg h2 F 0 (by omega) (qx7 _)
   rw[hl,qxH]
   by_cases h3:8192<(pkA g B least k' g.length).1.length
   ·have hE0:pkE g B least (k':Int)=8:=by
     unfold pkE
     rw[if_neg (by simp[h1]),if_neg (by simp[h2]),if_pos (by rw[qxH];omega)]
    rw[if_pos h3,hE0,if_pos (by decide)]
   ·have hE0:pkE g B least (k':Int)=0:=qtU h1 h2 (by rw[qxH];omega)
    rw[if_neg h3,if_neg (by simp[hE0])]
  ·have hE:pkE g B least k=hcE B least k:=by
    unfold pkE
    rw[if_neg (by simp[h1]),if_pos h2]
   rw[if_pos (by simpa using h2),hE,if_pos h2]
 ·have hE:pkE g B least k=gchk g:=by
   unfold pkE
   rw[if_pos h1]
  rw[if_neg (by simpa using h1),if_pos (by simpa using h1),hE,if_pos h1]
theorem qqs {F:Nat}(hF:20000≤F){N B least k m:Int}{b:qAq}(hb:U8s b):qel F N B least k m b=some (pcE N B least k m b):=by
 unfold qel qcm pcE
 rw[qdn]
 simp only[qxD]
 by_cases h1:N<0∨100<N
 ·rw[if_pos (by simp;omega),if_pos h1]
 ·rw[if_neg (by simp;omega),if_neg h1,qn0]
  simp only[qxD]
  by_cases h2:hcE B least k=0
  ·rw[if_pos (by simpa using h2),if_neg (by simp[h2]),qiF hF hb]
   rfl
  ·rw[if_neg (by simpa using h2),if_pos h2]
theorem qmr {F k:Nat}(hF:2000000≤F){l:qAq}(hl:Bit l)(hm:l.length≤8192){B least:Int}(hh:hcE B least (k:Int)=0){n:Nat}(hn:n≤100):∀ (j p:Nat) (out:List (qAq)),n<j+out.length→out.length≤n→p≤l.length→(∀ x∈out,gkc x=0) →
  zD F (n:Int) B least (k:Int) (l.length:Int) (pk l) l j ((p:Int),(out.length:Int),out)=match pkR l B least k (n-out.length) out p with | none=>some ([],1) | some r=>vo F B least (k:Int) l r.1
 | 0,_,_,_,_,_,_=>by omega
 | j+1,p,out,h,ho,hp,hg=>by
  obtain ⟨k1,k2,k',hk,k3,k4⟩:=qbi hh
  have hkk:k=k':=by omega
  subst hkk
  show qci F (n:Int) B least (k:Int) (l.length:Int) (pk l) l (zD F (n:Int) B least (k:Int) (l.length:Int) (pk l) l j) (p:Int) (out.length:Int) out=_
  unfold qci
  by_cases hlt:out.length<n
  ·rw[if_pos (by simp;omega),show n-out.length=(n-(out.length+1))+1 from by omega]
   have h25:∀ o:Int×Nat,0≤o.1→o.1≤min B (out.length:Int)→o.2≤l.length→jW F (zD F (n:Int) B least (k:Int) (l.length:Int) (pk l) l j) least (k:Int) (l.length:Int) (pk l) (out.length:Int) out (o.2:Int) o.1=match (rdl l o.2 (out.length:Int) (pkF out out.length o.1.toNat) o.1 least k).bind fun r=>pkR l B least k (n-(out.length+1)) (out++[r.1]) r.2 with | none=>some ([],1) | some r=>vo F B least (k:Int) l r.1:=by
    intro o o1 o2 o3
    have hfr:gkc (pkF out out.length o.1.toNat)=0:=by
     unfold pkF
     split
     ·rw[qyb]
      by_cases hq:out.length-o.1.toNat<out.length
      ·rw[qxE hq];exact hg _ (qx8 hq)
      ·rw[List.getElem?_eq_none (by omega)];decide
     ·decide
    have hho:hcE o.1 least (k:Int)=0:=by
     have:=qtC (r:=o.1.toNat) hh (by omega)
     rwa [show ((o.1.toNat:Nat):Int)=o.1 from by omega] at this
    have hstep:∀ fr:qAq,fr=pkF out out.length o.1.toNat→((qcq F (l.length:Int) (pk l) (o.2:Int) (out.length:Int) fr o.1 least (k:Int)).bind fun x602=>(if ((x602.2.2:Int) != 0) then some (([]:List (qAq)),(1:Int)) else ((app 2199023255552 out ([x602.1]:List (qAq))).bind fun x608=>jV F (zD F (n:Int) B least (k:Int) (l.length:Int) (pk l) l j) (out.length:Int) x602.2.1 x608)))=match (rdl l o.2 (out.length:Int) (pkF out out.length o.1.toNat) o.1 least k).bind fun r=>pkR l B least k (n-(out.length+1)) (out++[r.1]) r.2 with | none=>some ([],1) | some r=>vo F B least (k:Int) l r.1:=by
     intro fr hfe
     subst hfe
     rw[qsG hF (qfF hl),qxt hl hm o3 hho (qut (by unfold Nd;omega) (fun _=>hfr)),qxH]
     simp only[qxD]
     cases hr:rdl l o.2 (out.length:Int) (pkF out out.length o.1.toNat) o.1 least k with
     | none=>rfl
     | some r =>
      obtain ⟨r1,r2,r3,r4,r5⟩:=qiV hl k3 hr
      simp only[qxD]
      rw[if_neg (by simp),qT (by simp;omega)]
      simp only[qxD]
      unfold jV
      have hl1:(out++[r.1]).length=out.length+1:=by simp
      have hrec:=qmr hF hl hm hh hn j r.2 (out++[r.1]) (by omega) (by omega) r5 (fun x hx=>by
       rcases List.mem_append.1 hx with hx | hx
       ·exact hg x hx
       ·simp at hx;subst hx;exact r1)
      rw[hl1] at hrec
      rw[qn (by omega),hrec]
    have ecv:iconv .i64 o.1=o.1:=qX (by omega) (by omega)
    unfold jW
    rw[ecv]
    by_cases h0:0<o.1
    ·rw[if_pos (by simpa using h0),qy (by omega) (by omega),show ((out.length:Int)-o.1)=((out.length-o.1.toNat:Nat):Int) from by omega,qfA (by omega)]
     simp only[qxD]
     exact hstep _ (by unfold pkF;rw[if_pos (by omega)])
    ·rw[if_neg (by simpa using h0)]
     exact hstep _ (by unfold pkF;rw[if_neg (by omega)])
   simp only[pkR]
   by_cases hB:0<B
   ·rw[if_pos (by simpa using hB),qgH (by omega) hl hm hp]
    simp only[qxD]
    have hcv:iconv .u64 B=B:=by
     obtain ⟨q,hq⟩:=qxK (a:=B) (by omega)
     rw[hq];exact zz (by omega)
    have hO:pkO l B out.length p=rgam l p (min B (out.length:Int)):=by unfold pkO;rw[if_neg (by omega)]
    rw[hcv,hO]
    cases hr:rgam l p (min B (out.length:Int)) with
    | none =>
     have hbad:(fg l p).2.2≠0∨B<(fg l p).1∨(out.length:Int)<iconv .i64 (fg l p).1:=by
      rcases ql7 (l:=l) (a:=p) with h1 | ⟨v,q,h1,h2,h3⟩
      ·exact Or.inl h1
      ·rcases qmq hr with h4 | h4
       ·exact Or.inl h4
       ·right
        rw[h1] at h4 ⊢
        simp only at h4 ⊢
        have e:iconv .i64 (v:Int)=(v:Int):=qX (by omega) (by omega)
        rw[e]
        omega
     rw[if_pos (by
      simp only[qyC,bne_iff_ne,ne_eq,decide_eq_true_eq]
      rcases hbad with h1 | h1 | h1
      ·exact Or.inl (Or.inl h1)
      ·exact Or.inl (Or.inr h1)
      ·exact Or.inr h1)]
     rfl
    | some o =>
     obtain ⟨h1,h2⟩:=qnZ hr
     have hok:=vO hr
     have e:iconv .i64 o.1=o.1:=qX (by omega) (by omega)
     rw[h1]
     simp only
     rw[e,if_neg (by simp;omega)]
     exact h25 o hok.1 h2 hok.2.2.2
   ·rw[if_neg (by simpa using hB)]
    have hO:pkO l B out.length p=some (0,p):=by unfold pkO;rw[if_pos (by omega)]
    rw[hO]
    exact h25 (0,p) (by simp) (by simp only;omega) hp
  ·rw[if_neg (by simp;omega),show n-out.length=0 from by omega]
   simp only[pkR]
theorem qms {F:Nat}(hF:2000000≤F){N B least k m:Int}{b:qAq}(hb:U8s b):qeX F N B least k m b=some (prd N B least k m b):=by
 unfold qeX
 rw[qqs (by omega) hb]
 simp only[qxD]
 by_cases h:pcE N B least k m b=0
 ·rw[if_neg (by simp[h])]
  obtain ⟨n,l,rfl,hn,hh,hl,hlm,rfl,rfl⟩:=qqk hb h
  obtain ⟨k1,k2,k',rfl,k3,k4⟩:=qbi hh
  have hbl:qai F (l.length:Int) (pk l)=some l:=by
   rw[qih (by omega) (qfF hl) (by rw[qfE];omega) (by omega),qbS hl]
  rw[hbl]
  simp only[qxD]
  have hL:zD F (n:Int) B least (k':Int) (l.length:Int) (pk l) l F (0,0,[])=_:=qmr (F:=F) hF hl hlm hh hn F 0 [] (by simp;omega) (qx7 _) (qx7 _) (by simp)
  rw[hL]
  simp only[qyA,Nat.sub_zero]
  have hP:∀ r,pkR l B least k' n [] 0=some r→prd (n:Int) B least (k':Int) (l.length:Int) (pk l)=if r.2=l.length∧pkE r.1 B least (k':Int)=0∧pk (pkA r.1 B least k' r.1.length).1=pk l then (r.1,0) else ([],1):=by
   intro r hr
   unfold prd
   rw[if_neg (by simp[h])]
   simp only[qxH,qbS hl,hr]
  cases hr:pkR l B least k' n [] 0 with
  | none =>
   unfold prd
   rw[if_neg (by simp[h])]
   simp only[qxH,qbS hl,hr]
  | some r =>
   have hp:=hP r hr
   simp only
   unfold vo qcj
   rw[qiu hF]
   simp only[qxD]
   unfold rpw
   by_cases hE:pkE r.1 B least (k':Int)=0
   ·obtain ⟨g1,g2,g3⟩:=qfD hE
    rw[qxH] at g3
    have hg:=qe9.1 g1
    rw[if_neg (by simp[hE])]
    simp only[qxH]
    rw[if_neg (by simp[hE]),qgP (by simp only;omega) (by simp only;omega)]
    simp only[qxD]
    by_cases hq:(pkA r.1 B least k' r.1.length).1=l
    ·rw[decide_eq_true hq,if_neg (by simp)]
     obtain ⟨b1,_⟩:=qkL hl k1.1 k3 n 0 [] r hr (qx7 _) (by simp[pkA])
     rw[qyA,Nat.zero_add] at b1
     have hr2:=qj0 hg hh g3 [] r.1.length 0 (by omega)
     have hr3:pkR l B least k' n [] 0=some (r.1,(pkA r.1 B least k' r.1.length).1.length):=by
      rw[qyv,hq] at hr2
      rw[hq,← b1];exact hr2
     rw[hr] at hr3
     have e2:r.2=l.length:=by
      have:=Option.some.inj hr3
      rw[this,hq]
     rw[hp,if_pos ⟨e2,hE,by rw[hq]⟩]
    ·rw[decide_eq_false hq,if_pos (by simp),hp]
     by_cases hc:r.2=l.length∧pkE r.1 B least (k':Int)=0∧pk (pkA r.1 B least k' r.1.length).1=pk l
     ·exfalso
      rw[if_pos hc] at hp
      obtain ⟨x,hx,-,-,e4,e5⟩:=qnU hb (by rw[hp])
      rw[hp] at hx
      have e6:x=r.1:=by
       have:=congrArg Prod.fst hx
       exact this.symm
      subst e6
      rw[qxH] at e4 e5
      apply hq
      have e7:l.length=(pkA r.1 B least k' r.1.length).1.length:=by omega
      have e8:=qbS hl
      rw[e5,e7,qbS (qfb _)] at e8
      exact e8
     ·rw[if_neg hc]
   ·rw[if_pos hE,if_pos (by simpa using hE),if_pos (by trivial),hp,if_neg (fun hc=>hE hc.2.1)]
 ·rw[if_pos (by simpa using h)]
  unfold prd
  rw[if_pos h]
theorem qtT {g:List (qAq)}{B least:Int}{k:Nat}:∀ {n i:Nat},i<n→(pkA g B least k n).2.1[i]?=some ((pkN g B least k i).1:Int)
 | n+1,i,h=>by
  have hl:=(qiS (g:=g) (B:=B) (least:=least) (k:=k) n).1
  rw[pkA]
  simp only
  by_cases hi:i<n
  ·rw[List.getElem?_append_left (by omega)]
   exact qtT hi
  ·have:i=n:=by omega
   subst this
   rw[List.getElem?_append_right (by omega),hl]
   simp
theorem qeN {F:Nat}(hF:2000000≤F){g:List (qAq)}{B least k:Int}:qbW F g B least k=some (shb g B least k):=by
 unfold qbW
 rw[qiu hF]
 simp only[qxD]
 by_cases hp:pkE g B least k=0
 ·have e:rpw g B least k=((pkA g B least k.toNat g.length).1,(pkA g B least k.toNat g.length).2.1,(pkA g B least k.toNat g.length).2.2,0):=by
   unfold rpw;rw[if_neg (by simp[hp])]
  obtain ⟨p1,p2,p3⟩:=qfD hp
  rw[e]
  simp only
  rw[if_neg (by decide),qnr (by omega)]
  simp only[qxD]
  have ef:fw (pkA g B least k.toNat g.length).2.2 ((pkA g B least k.toNat g.length).1.length:Int)=fwp g B least k:=rfl
  rw[ef]
  by_cases h:(fwp g B least k).2.2.2.2.2.2.2=0
  ·rw[if_neg (by simp[h]),qhj (by omega) (qfb _) (by omega),qjp (qjo.2 ⟨hp,h⟩)]
   rfl
  ·have hs:shE g B least k=(fwp g B least k).2.2.2.2.2.2.2:=by unfold shE;rw[if_neg (by simp[hp])]
   rw[if_pos (by simpa using h),qhM (by rw[hs];exact h),hs]
   rfl
 ·have e:rpw g B least k=([],[],[],pkE g B least k):=by
   unfold rpw;rw[if_pos hp]
  have hs:shE g B least k=pkE g B least k:=by unfold shE;rw[if_pos hp]
  rw[e]
  simp only
  rw[if_pos (by simpa using hp),qhM (by rw[hs];exact hp),hs]
  rfl
theorem qkV {F:Nat}(hF:2000000≤F){g:List (qAq)}{B least k n t w lw hw:Int}{xl xh:qAq}(s:Shf g B least k n t w lw xl hw xh) :
  qa9 F (g.length:Int) B least k ((pkA g B least k.toNat g.length).1.length:Int) (pk (pkA g B least k.toNat g.length).1) n t w lw xl hw xh=some (g,(pkA g B least k.toNat g.length).2.1,0):=by
 obtain ⟨b1,b2,b3⟩:=qrR s
 obtain ⟨q1,q2,q3⟩:=qpr s
 have hE:shE g B least k=0:=qjo.2 ⟨s.pe,by rw[s.fe]⟩
 unfold qa9
 rw[qms hF b1,qqo s.pe]
 simp only[qxD]
 rw[if_neg (by decide),qeN hF,qjp hE,s.fe]
 simp only[qxD]
 rw[if_neg (by decide),qhq (by omega) (by omega) (by omega) (by omega),decide_eq_true ⟨rfl,rfl,rfl,rfl,rfl,rfl,rfl⟩]
 simp only[qxD]
 unfold jX
 rw[if_neg (by decide),qiu hF]
 have e:rpw g B least k=((pkA g B least k.toNat g.length).1,(pkA g B least k.toNat g.length).2.1,(pkA g B least k.toNat g.length).2.2,0):=by
  unfold rpw;rw[if_neg (by simp[s.pe])]
 rw[e]
 rfl
theorem qpl {F:Nat}(hF:2000000≤F){N B least k m n t w lw hw:Int}{b xl xh:qAq}(hb:U8s b)(h:shc N B least k m b n t w lw xl hw xh≠0) :
  qa9 F N B least k m b n t w lw xl hw xh=some ([],[],shc N B least k m b n t w lw xl hw xh):=by
 unfold qa9
 rw[qms hF hb]
 simp only[qxD]
 unfold shc at h ⊢
 by_cases h0:(prd N B least k m b).2=0
 ·obtain ⟨g,h1,h2,h3,h4,h5⟩:=qnU hb h0
  rw[h1] at h ⊢
  simp only at h ⊢
  have hne:fwp g B least k≠(n,t,w,lw,xl,hw,xh,0):=by
   intro hc
   rw[if_neg (by decide),if_pos hc] at h
   exact h rfl
  rw[if_neg (by decide),if_neg (by decide),if_neg hne,qeN hF]
  simp only[qxD]
  by_cases he:(fwp g B least k).2.2.2.2.2.2.2=0
  ·rw[qjp (qjo.2 ⟨h2,he⟩)]
   simp only
   obtain ⟨l1,l2⟩:=qnw (g:=g) (B:=B) (least:=least) (k:=k)
   rw[if_neg (by decide),qhq (by omega) (by omega) (by omega) (by omega)]
   simp only[qxD]
   unfold jX
   rw[if_pos]
   simp only[Bool.not_eq_true',decide_eq_false_iff_not]
   rintro ⟨c1,c2,c3,c4,c5,c6,c7⟩
   apply hne
   rw[← c1,← c2,← c3,← c4,← c5,← c6,← c7,← he]
  ·have hE:shE g B least k≠0:=fun hc=>he (qjo.1 hc).2
   rw[qhM hE,if_pos (by simp[shz,hE])]
   rfl
 ·rw[if_pos (by simpa using h0),if_pos h0]
theorem qsB {F:Nat}(hF:2000000≤F){g:List (qAq)}(hg:Gr g){i:Nat}(hi:i<g.length){v:Int}:qhx F g (i:Int) v=some (decide (v∈g.getD i [])):=by
 have hr:=qnA hg (qws hi)
 unfold qhx
 rw[qfA hi]
 simp only[qxD]
 rw[qds (by omega) (by omega)]
 rfl
theorem qrW {F:Nat}(hF:2000200≤F){g1:List (qAq)}{B1 l1 k1 N B least k m n t w lw hw:Int}{b xl xh:qAq}{x39:qAq×Int×Int}{x42:Bool×Int}{x51:List (qAq)×qAq×Int}{x62 x146 x151:Int}{x147:Bool}{x150:qAq}
  (hc:vh F N B least k m b n t w lw xl hw xh=some x51.2.2) (h1:x39=(x150,x146,x62)) (h2:x42=(x147,x151)) (hl:x150.length≤1000) :
  yC F N B least k m b n t w lw xl hw xh (shb g1 B1 l1 k1) x39 x42 (shb g1 B1 l1 k1) x51 x62 x146 x147 x150 x151=some true:=by
 subst h1 h2
 unfold yC
 rw[qvS hF]
 simp only[qxD]
 rw[if_pos (by trivial)]
 have hS:qa8 F (shb g1 B1 l1 k1).1 (shb g1 B1 l1 k1).2.1 (shb g1 B1 l1 k1).2.2.1 (shb g1 B1 l1 k1).2.2.2.1 (shb g1 B1 l1 k1).2.2.2.2.1 (shb g1 B1 l1 k1).2.2.2.2.2.1 (shb g1 B1 l1 k1).2.2.2.2.2.2.1 (shb g1 B1 l1 k1).2.2.2.2.2.2.2.1 (shb g1 B1 l1 k1).2.2.2.2.2.2.2.2.1 (shb g1 B1 l1 k1).2.2.2.2.2.2.2.2.2.1 (shb g1 B1 l1 k1).2.2.2.2.2.2.2.2.2.2.1 (shb g1 B1 l1 k1).2.2.2.2.2.2.2.2.2.2.2.1 (shb g1 B1 l1 k1).2.2.2.2.2.2.2.2.2.2.2.2.1
   (shb g1 B1 l1 k1).1 (shb g1 B1 l1 k1).2.1 (shb g1 B1 l1 k1).2.2.1 (shb g1 B1 l1 k1).2.2.2.1 (shb g1 B1 l1 k1).2.2.2.2.1 (shb g1 B1 l1 k1).2.2.2.2.2.1 (shb g1 B1 l1 k1).2.2.2.2.2.2.1 (shb g1 B1 l1 k1).2.2.2.2.2.2.2.1 (shb g1 B1 l1 k1).2.2.2.2.2.2.2.2.1 (shb g1 B1 l1 k1).2.2.2.2.2.2.2.2.2.1 (shb g1 B1 l1 k1).2.2.2.2.2.2.2.2.2.2.1 (shb g1 B1 l1 k1).2.2.2.2.2.2.2.2.2.2.2.1 (shb g1 B1 l1 k1).2.2.2.2.2.2.2.2.2.2.2.2.1=some true:=by
  by_cases hE:shE g1 B1 l1 k1=0
  ·obtain ⟨q1,q2,q3⟩:=qpr (qrS hE)
   rw[qjp hE]
   exact qjG (by omega) q1 q2 q3
  ·rw[qhM hE]
   exact quA (by omega)
 rw[hS]
 simp only[qxD]
 unfold qbk
 rw[if_pos (by simp),hc]
 simp only[qxD]
 unfold qbl
 rw[if_pos (by simp)]
 simp only
 rw[qgP (by omega) (by omega),decide_eq_true rfl]
 simp only[qxD]
 unfold qbm
 simp
theorem qxu {F:Nat}{g:List (qAq)}{B least k:Int}(hgl:g.length≤100){y7 y8 y9 y10 y11 y15 y16 y17 y18 y22 x26 x27 x62:Int}{y12 y19 y23 x170:qAq}{x31 x43:S14}{x39:qAq×Int×Int}{x42:Bool×Int}{e:Int}:∀ (f i rd K:Nat),f≤K→i<f→i<g.length→rd+f≤1000000 →
  yi F y7 y8 y9 y10 y11 y12 y15 y16 y17 y18 y19 y22 y23 x26 x27 x31 x39 x42 x43 (g,(pkA g B least k.toNat g.length).2.1,e) x62 x170 K ((rd:Int),(i:Int)) =
   qao F y7 y8 y9 y10 y11 y12 y15 y16 y17 y18 y19 y22 y23 x26 x27 x31 x39 x42 x43 (g,(pkA g B least k.toNat g.length).2.1,e) x62 x170 ((rd+dpt g B least k.toNat f i:Nat):Int)
 | 0,_,_,_,_,h,_,_=>by omega
 | f+1,i,rd,K,hK,hi,hg,hr=>by
  obtain ⟨K,rfl⟩:∃ K',K=K'+1:=⟨K-1,by omega⟩
  show qan F y7 y8 y9 y10 y11 y12 y15 y16 y17 y18 y19 y22 y23 x26 x27 x31 x39 x42 x43 (g,(pkA g B least k.toNat g.length).2.1,e) x62 x170 (yi F y7 y8 y9 y10 y11 y12 y15 y16 y17 y18 y19 y22 y23 x26 x27 x31 x39 x42 x43 (g,(pkA g B least k.toNat g.length).2.1,e) x62 x170 K) (rd:Int) (i:Int)=_
  unfold qan
  have hri:=qtW (g:=g) (B:=B) (least:=least) (k:=k.toNat) (i:=i)
  simp only
  rw[qt,qtT hg]
  simp only[qxD]
  rw[qn (by omega)]
  by_cases h0:(pkN g B least k.toNat i).1=0
  ·rw[if_pos (by simp[h0])]
   have e2:dpt g B least k.toNat (f+1) i=1:=by rw[dpt,if_pos h0]
   rw[e2]
  ·rw[if_neg (by simp[h0])]
   have e1:isub .i64 (i:Int) ((pkN g B least k.toNat i).1:Int)=((i-(pkN g B least k.toNat i).1:Nat):Int):=by
    rw[qy (by omega) (by omega)];omega
   have e2:rd+dpt g B least k.toNat (f+1) i=rd+1+dpt g B least k.toNat f (i-(pkN g B least k.toNat i).1):=by
    rw[dpt,if_neg h0];omega
   rw[e1,e2]
   exact qxu hgl f (i-(pkN g B least k.toNat i).1) (rd+1) K (by omega) (by omega) (by omega) (by omega)
theorem qqb {F:Nat}(hF:2000200≤F){g1:List (qAq)}{B1 l1 k1 N B least k m n t w lw hw v u:Int}{b xl xh:qAq}(hb:U8s b)(hm:I64 m)(lb:b.length≤9223372036854775807) :
  qfg F g1 B1 l1 k1 N B least k m b n t w lw xl hw xh v u=some true:=by
 unfold qfg
 rw[qoG (by omega)]
 simp only[qxD]
 have hck:=qea (F:=F) (by omega) (N:=N) (B:=B) (least:=least) (k:=k) (n:=n) (t:=t) (w:=w) (lw:=lw) (xl:=xl) (hw:=hw) (xh:=xh) hb hm lb
 by_cases h:shc N B least k m b n t w lw xl hw xh=0
 ·rw[h] at hck
  obtain ⟨g,h1,h2,h3,h4,h5,h6⟩:=qwZ hb h
  subst h3 h4 h5
  have s:Shf g B least k n t w lw xl hw xh:=⟨h2,h6⟩
  have hG:=qe9.1 (qfD h2).1
  have hgl:=hG.1
  by_cases ho:v<0∨(g.length:Int)≤v
  ·rw[qkF hF s ho]
   simp only[qxD]
   rw[qsu hF s ho]
   simp only[qxD]
   rw[qeN (by omega)]
   simp only[qxD]
   rw[qkV (by omega) s]
   simp only[qxD]
   rw[if_pos (by rfl)]
   unfold yh
   rw[if_pos (by simpa using ho)]
   unfold yB
   rw[if_neg (by decide)]
   exact qrW hF hck rfl rfl (by simp)
  ·obtain ⟨i,rfl⟩:=qxK (a:=v) (by omega)
   have hi:i<g.length:=by omega
   have hr:=qnA hG (qws hi)
   rw[qnK hF s hi]
   simp only[qxD]
   rw[qkC hF s hi]
   simp only[qxD]
   rw[qeN (by omega)]
   simp only[qxD]
   rw[qkV (by omega) s]
   simp only[qxD]
   rw[if_pos (by rfl)]
   unfold yh
   rw[if_neg (by simp;omega)]
   unfold yB
   simp only
   rw[if_pos (by rfl),qfA hi]
   simp only[qxD]
   have hl:=qxu (F:=F) (B:=B) (least:=least) (k:=k) hgl (y7:=(g.length:Int)) (y8:=B) (y9:=least) (y10:=k) (y11:=((pkA g B least k.toNat g.length).1.length:Int)) (y12:=pk (pkA g B least k.toNat g.length).1) (y15:=n) (y16:=t) (y17:=w) (y18:=lw) (y19:=xl) (y22:=hw) (y23:=xh) (x26:=(i:Int)) (x27:=u) (x62:=0) (x170:=g.getD i []) (x31:=shb g1 B1 l1 k1) (x43:=shb g1 B1 l1 k1) (x39:=(g.getD i [],(rdn' g B least k i:Int),0)) (x42:=if u<0∨(g.length:Int)≤u then (false,3) else (decide (u∈g.getD i []),0)) (e:=0) 101 i 0 F (by omega) (by omega) hi (by omega)
   rw[show ((0:Nat):Int)=0 from rfl] at hl
   rw[hl,Nat.zero_add]
   unfold qao
   simp only
   by_cases hu:u<0∨(g.length:Int)≤u
   ·rw[if_neg (by simp;omega)]
    exact qrW hF hck rfl (if_pos hu) (by omega)
   ·rw[if_pos (by simp;omega),qsB (by omega) hG hi]
    simp only[qxD]
    exact qrW hF hck rfl (if_neg hu) (by omega)
 ·rw[qo1 hF hb hm lb h]
  simp only[qxD]
  rw[qst hF hb hm lb h]
  simp only[qxD]
  rw[qeN (by omega)]
  simp only[qxD]
  rw[qpl (by omega) hb h]
  simp only[qxD]
  rw[if_neg (by simpa using h)]
  unfold yh
  rw[if_neg (by decide)]
  unfold yB
  rw[if_neg (by simpa using h)]
  exact qrW hF hck rfl rfl (by simp)
end Go.Proofs.YtmhggdbfbmkpeaaGreat
