/- Plain facts of what the functions of this seat compute, part 3. -/
import Derived.Test.YthibchijlpflmaaGreatDoorPureDesk6p2
import Derived.KernelRfl
import Derived.Lib.SlicesCompact
import Derived.Lib.SplitLaws
open Int renaming eq_ofNat_of_zero_le→qCd, toNat_natCast→qCf
open List renaming length_cons→qCt, mem_cons_of_mem→qCx
open Option renaming bind_some→qCa
namespace Go.Proofs.YthibchijlpflmaaGreatDoor
open Go SX
variable {F:Nat} {rec68:(List (Int×Int)×qFa×Int)→Option (List (Int×Int)×qFa)} {l:qFa} {lea0:Int} {o:List (Int×Int)} {rest:qFa} {i:Int}
variable {B K:Int}{ws:List (qFa)}{w:qFa}
theorem quh {g:List (qFa)}{l a b:Int}{s:qFa}(hF:1000≤F)(hg:Gr g)(ha:0≤a)(hb:0≤b):qck F g B l K [a,b] s=some (if a<g.length∧b<g.length then (0,farT g a.toNat b.toNat) else (3,s)):=by
 have h1:=hg.1
 unfold qck
 rw[known2 (by omega)]
 simp only[qCa]
 by_cases h:a<g.length∧b<g.length
 ·rw[decide_eq_true h,if_neg (by simp),if_pos h,(qbn (a:=a) (b:=b)).1,(qbn (a:=a) (b:=b)).2]
  simp only[qCa]
  obtain ⟨n,rfl⟩:=qCd ha
  obtain ⟨m,rfl⟩:=qCd hb
  have hn:n<g.length:=by omega
  have hf:=qjo hg hn
  rw[qAo hF,show farM g (n:Int)=(farL g n,0) from by unfold farM;rw[if_neg (by simp[qx1 hg hn]),qCf]]
  simp only[qCa]
  rw[qk,qgD (by rw[hf.len];omega)]
  simp only[qCa]
  have hlo:=hf.low m
  have hlt:=hf.lt m (by omega)
  unfold farT qaj
  rw[qCf,qCf]
  by_cases hz:gD (farL g n) m<0
  ·obtain ⟨x,hx⟩:=qm4 (v:=gD (farL g n) m) (by omega)
   rw[hx]
   simp only[qCa]
   rw[if_pos (by simpa using hz),if_pos hz]
  ·rw[qoc (by omega)]
   simp only[qCa]
   rw[if_neg (by simpa using hz),if_neg hz]
 ·rw[decide_eq_false h,if_pos (by simp),if_neg h]
theorem qvQ {g:List (qFa)}{a b:Nat}(hg:Gr g)(ha:a<g.length):(farT g a b).length≤10:=by
 have h1:=hg.1
 have hf:=qjo hg ha
 have hlt:=hf.lt b (by omega)
 unfold farT
 split
 ·decide
 ·have:=(qrr (n:=gD (farL g a) b) (by omega)).2
  omega
theorem two {ns:qFa}(h:(ns.length:Int)=2):∃ a b,ns=[a,b]:=by
 match ns,h with
 | [a,b],_=>exact ⟨a,b,rfl⟩
theorem one {ns:qFa}(h:(ns.length:Int)=1):∃ a,ns=[a]:=by
 match ns,h with
 | [a],_=>exact ⟨a,rfl⟩
theorem three {ns:qFa}(h:(ns.length:Int)=3):∃ a b c,ns=[a,b,c]:=by
 match ns,h with
 | [a,b,c],_=>exact ⟨a,b,c,rfl⟩
theorem e3:0<(3:Int)∧(3:Int)≤100:=by decide
theorem e1:0<(1:Int)∧(1:Int)≤100:=by decide
theorem e8:0<(8:Int)∧(8:Int)≤100:=by decide
theorem qc2 {g:List (qFa)}{l e:Int}{n t:qFa}(hg:Gr g)(hh:hcE B l K=0)(he:e=0∨0<e∧e≤100)(ht:e=0→t.length≤2000000):Fine g B l K (qs F e g B l K n t):=by
 rcases he with rfl | he
 ·exact vH (.inr ⟨rfl,hg,hh,ht rfl,.inr ⟨rfl,rfl,rfl,rfl⟩⟩)
 ·exact vH (.inl he)
theorem qbm {c:Prop}[Decidable c]{g:List (qFa)}{l:Int}{a b:Option DR}(h1:Fine g B l K a)(h2:Fine g B l K b):Fine g B l K (if c then a else b):=by
 by_cases h:c
 ·rw[if_pos h];exact h1
 ·rw[if_neg h];exact h2
theorem f15 {g:List (qFa)}{l:Int}(hF:2000200≤F)(hh:hcE B l K=0)(hm:ws.length≤2000000)(hw:∀ w∈ws,w.length≤2000000):Fine g B l K (jm F (g,B,l,K) (w::ws)):=by
 unfold jm
 rw[qbq]
 refine jy hF hm hw fun ns hn h0=>?_
 obtain ⟨a,rfl⟩:=one hn
 have ha:=h0 a (by simp)
 rw[qpG ha]
 simp only[qCa]
 split
 ·exact vH (.inl e3)
 ·exact vH (.inr ⟨rfl,qAJ (by omega),hh,by decide,.inl rfl⟩)
theorem f16 {g:List (qFa)}{l:Int}(hF:2000200≤F)(hg:Gr g)(hh:hcE B l K=0)(hm:ws.length≤2000000)(hw:∀ w∈ws,w.length≤2000000):Fine g B l K (jn F (g,B,l,K) (w::ws)):=by
 unfold jn
 rw[qbq]
 refine jy hF hm hw fun ns hn h0=>?_
 obtain ⟨a,b,rfl⟩:=two hn
 rw[qug (by omega) hg]
 simp only[qCa]
 rcases qwA (n:=g.length) (A:=af 0 g++[(a,b)]) with h | ⟨h,h2⟩
 ·exact vH (.inl h)
 ·exact vH (.inr ⟨h,h2,hh,by decide,.inl rfl⟩)
theorem f17 {g:List (qFa)}{l:Int}(hF:2000200≤F)(hg:Gr g)(hh:hcE B l K=0)(hm:ws.length≤2000000)(hw:∀ w∈ws,w.length≤2000000):Fine g B l K (jo F (g,B,l,K) (w::ws)):=by
 unfold jo
 rw[qbq]
 refine jy hF hm hw fun ns hn h0=>?_
 obtain ⟨a,b,rfl⟩:=two hn
 by_cases hc:(a,b)∈af 0 g
 ·obtain ⟨h,h1,h2,_⟩:=qrj (F:=F) (B:=B) (l:=l) (K:=K) (s:=[111,107]) (by omega) hg hc
  simp only[h1,qCa]
  exact vH (.inr ⟨rfl,h2,hh,by decide,.inl rfl⟩)
 ·obtain ⟨e,h1,h2⟩:=qmD (F:=F) (B:=B) (l:=l) (K:=K) (s:=[111,107]) (by omega) hg (h0 a (by simp)) hc
  simp only[h1,qCa]
  exact vH (.inl h2)
theorem f18 {g:List (qFa)}{l:Int}(hF:2000200≤F)(hg:Gr g)(hm:ws.length≤2000000)(hw:∀ w∈ws,w.length≤2000000):Fine g B l K (jp F (g,B,l,K) (w::ws)):=by
 unfold jp
 rw[qbq]
 refine jy hF hm hw fun ns hn h0=>?_
 obtain ⟨a,b,c,rfl⟩:=three hn
 rw[qui]
 simp only[qCa]
 rcases qBJ a b c with h | h
 ·exact vH (.inr ⟨h,hg,h,by decide,.inl rfl⟩)
 ·exact vH (.inl (by simp only[h];decide))
theorem f19 {g:List (qFa)}{l:Int}(hF:2000200≤F)(hg:Gr g)(hh:hcE B l K=0)(hm:ws.length≤2000000)(hw:∀ w∈ws,w.length≤2000000):Fine g B l K (jq F (g,B,l,K) (w::ws)):=by
 unfold jq
 rw[qbq]
 refine jy hF hm hw fun ns hn h0=>?_
 obtain ⟨e,t,h1,h2,h3⟩:=qrh (F:=F) (n:=ns) (s:=[111,107]) (by omega) hg hh
 simp only[h1,qCa]
 exact qc2 hg hh (by omega) fun _=>h3
theorem f20 {g:List (qFa)}{l:Int}(hF:2000200≤F)(hg:Gr g)(hh:hcE B l K=0)(hm:ws.length≤2000000)(hw:∀ w∈ws,w.length≤2000000):Fine g B l K (jr F (g,B,l,K) (w::ws)):=by
 unfold jr
 rw[qbq]
 refine jy hF hm hw fun ns hn h0=>?_
 obtain ⟨a,rfl⟩:=one hn
 have ha:=h0 a (by simp)
 rw[qrk hF hg hh ha]
 simp only[qCa]
 have:=qvX hg ha
 split
 ·exact qc2 hg hh (by omega) fun _=>by omega
 ·exact vH (.inl e8)
theorem f21 {g:List (qFa)}{l:Int}(hF:2000200≤F)(hg:Gr g)(hh:hcE B l K=0)(hm:ws.length≤2000000)(hw:∀ w∈ws,w.length≤2000000):Fine g B l K (js F (g,B,l,K) (w::ws)):=by
 unfold js
 rw[qbq]
 refine jy hF hm hw fun ns hn h0=>?_
 obtain ⟨a,b,rfl⟩:=two hn
 have ha:=h0 a (by simp)
 rw[quh (by omega) hg ha (h0 b (by simp))]
 simp only[qCa]
 split
 ·have:=qvQ (a:=a.toNat) (b:=b.toNat) hg (by omega)
  exact qc2 hg hh (.inl rfl) fun _=>by simp only;omega
 ·exact vH (.inl e3)
theorem f22 {g:List (qFa)}{l:Int}(hF:2000200≤F)(hg:Gr g)(hh:hcE B l K=0)(hm:ws.length≤2000000)(hw:∀ w∈ws,w.length≤2000000):Fine g B l K (jt F (g,B,l,K) (w::ws)):=by
 unfold jt
 rw[qbq]
 refine jy hF hm hw fun ns hn h0=>?_
 obtain ⟨a,b,rfl⟩:=two hn
 rw[quj (by omega) hg]
 simp only[qCa]
 have hi:=qx0 a b hg
 have:=qtd (z:=5) hi.1 hi.2.1 hi.2.2
 exact qc2 hg hh this.1 fun _=>by omega
theorem f23 {g:List (qFa)}{l:Int}(hF:2000200≤F)(hg:Gr g)(hh:hcE B l K=0)(hm:ws.length≤2000000)(hw:∀ w∈ws,w.length≤2000000):Fine g B l K (ju F (g,B,l,K) (w::ws)):=by
 unfold ju
 rw[qbq]
 refine jy hF hm hw fun ns hn h0=>?_
 obtain ⟨a,rfl⟩:=one hn
 have ha:=h0 a (by simp)
 rw[qrl (by omega) hg ha]
 simp only[qCa]
 unfold oneT
 have hp:=qg0 hg
 have h1:=hg.1
 rw[hp.len]
 split
 ·have h2:=hp.le a.toNat (by omega)
  have:=(qrr (n:=gD (spartL g) a.toNat) (by omega)).2
  exact qc2 hg hh (.inl rfl) fun _=>by simp only;omega
 ·exact vH (.inl e3)
theorem f24 {g:List (qFa)}{l:Int}(hF:2000200≤F)(hg:Gr g)(hh:hcE B l K=0)(hm:ws.length≤2000000)(hw:∀ w∈ws,w.length≤2000000):Fine g B l K (jv F (g,B,l,K) (w::ws)):=by
 unfold jv
 rw[qbq]
 refine jy hF hm hw fun ns hn h0=>?_
 rw[qpH (by omega) hg]
 simp only[qCa]
 have hi:=qvL hg
 have:=qtd (z:=4) hi.1 hi.2.1 hi.2.2
 exact qc2 hg hh this.1 fun _=>by omega
theorem f25 {g:List (qFa)}{l:Int}(hF:2000200≤F)(hg:Gr g)(hh:hcE B l K=0)(hm:ws.length≤2000000)(hw:∀ w∈ws,w.length≤2000000):Fine g B l K (jw F (g,B,l,K) (w::ws)):=by
 unfold jw
 rw[qbq]
 refine jy hF hm hw fun ns hn h0=>?_
 obtain ⟨a,rfl⟩:=one hn
 have ha:=h0 a (by simp)
 obtain ⟨c,hc,h2⟩:=qri (F:=F) (B:=B) (l:=l) (K:=K) (s:=[111,107]) (by omega) hg ha
 have h1:=hg.1
 simp only[h2]
 by_cases h3:a<g.length
 ·have h4:=hc.1 a.toNat (by omega)
  obtain ⟨x,hx,hl⟩:=qjx (v:=(c a.toNat:Int)) (by have:=qvJ g (fun u=>decide (c a.toNat≤c u)) a.toNat;omega)
  simp only[if_pos h3,hx,qCa]
  exact qc2 hg hh (.inl rfl) fun _=>hl
 ·simp only[if_neg h3,qCa]
  exact vH (.inl e3)
theorem f26 {g:List (qFa)}{l:Int}(hF:2000200≤F)(hg:Gr g)(hh:hcE B l K=0)(hm:ws.length≤2000000)(hw:∀ w∈ws,w.length≤2000000):Fine g B l K (jx F (g,B,l,K) (w::ws)):=by
 unfold jx
 rw[qbq]
 refine jy hF hm hw fun ns hn h0=>?_
 obtain ⟨t,_,h2,h3⟩:=qn7 (F:=F) (B:=B) (l:=l) (K:=K) (n:=ns) (s:=[111,107]) (by omega) hg
 simp only[h3,qCa]
 exact qc2 hg hh (.inl rfl) fun _=>h2
theorem qvO {g:List (qFa)}{l:Int}{s:qFa}(hF:2000200≤F)(hg:Gr g)(hh:hcE B l K=0)(hs:By s)(hl:s.length≤1999999):Fine g B l K (qb5 F g B l K s):=by
 unfold qb5
 rw[qvM (by omega) hg]
 simp only[qCa]
 rw[quT (by omega) hs (by omega)]
 simp only[qCa]
 have hc:∀ s:qFa,(cutI 32 s).length≤s.length+1∧(∀ w∈cutI 32 s,w.length≤s.length)∧cutI 32 s≠[]:=fun s=>by
  induction s with
  | nil=>exact ⟨by simp[cutI],by simp[cutI],by simp[cutI]⟩
  | cons x s ih =>
   obtain ⟨i1,i2,i3⟩:=ih
   rw[qun]
   split
   ·exact ⟨by simp only[qCt];omega,fun w hw=>by
     rcases List.mem_cons.1 hw with rfl | hw
     ·simp
     ·have:=i2 w hw;rw[qCt];omega,by simp⟩
   ·cases h:cutI 32 s with
    | nil=>exact absurd h i3
    | cons y r =>
     rw[h] at i1 i2
     simp only[qCt] at i1
     refine ⟨by simp only[qCt];omega,fun w hw=>?_,by simp⟩
     rcases List.mem_cons.1 hw with rfl | hw
     ·have:=i2 y (List.mem_cons_self ..);simp only[qCt];omega
     ·have:=i2 w (qCx _ hw);rw[qCt];omega
 obtain ⟨c1,c2,c3⟩:=hc s
 cases h:cutI 32 s with
 | nil=>exact absurd h c3
 | cons w ws =>
  rw[h] at c1 c2
  have hm:ws.length≤2000000:=by rw[qCt] at c1;omega
  have hw:∀ x∈ws,x.length≤2000000:=fun x hx=>by have:=c2 x (qCx _ hx);omega
  rw[show idx (w::ws) (0:Int)=some w from rfl,qCa,quz,qCa]
  exact qbm (f15 hF hh hm hw) (qbm (f16 hF hg hh hm hw) (qbm (f17 hF hg hh hm hw) (qbm (f18 hF hg hm hw) (qbm (f19 hF hg hh hm hw) (qbm (f20 hF hg hh hm hw) (qbm (f21 hF hg hh hm hw) (qbm (f22 hF hg hh hm hw) (qbm (f23 hF hg hh hm hw) (qbm (f24 hF hg hh hm hw) (qbm (f25 hF hg hh hm hw) (qbm (f26 hF hg hh hm hw) (vH (.inl e1)))))))))))))
theorem qls {g:List (qFa)}{l:Int}{s:qFa}(hF:2000200≤F)(hs:By s)(hl:s.length≤1999999):qgi F g B l K s=some true:=by
 unfold qgi qcg
 have hbg:qee F=some true:=by obtain ⟨n,rfl⟩:∃ n,F=n+400:=⟨F-400,by omega⟩;exact qrf n
 have hnil:qch F ([]:List (qFa)) 0 0 0 ([]:List (qFa)) 0 0 0=some true:=qnn (by omega) qBd
 have hc:y8 F g B l K=some (if gchk g≠0 then gchk g else hcE B l K):=qlt (by omega) fun _=>qfm
 rw[hbg]
 by_cases hz:(if gchk g≠0 then gchk g else hcE B l K)=0
 rotate_left
 ·rw[qAF hc hz]
  simp only[qCa]
  rw[if_neg (by decide),if_pos (by simpa using hz),qn4,if_pos rfl,hnil]
  rfl
 have hg0:gchk g=0:=by
  by_cases h:gchk g=0
  ·exact h
  ·rw[if_pos h] at hz;exact absurd hz h
 have hg:=yC.1 hg0
 rw[if_neg (by rw[hg0];decide)] at hz
 rw[qBG (by rw[hc,if_neg (by rw[hg0];decide),hz])]
 obtain ⟨r,h1,h2⟩:=qvO hF hg hz hs hl
 rw[h1]
 simp only[qCa]
 rw[if_neg (by decide)]
 rcases h2 with ⟨e,e1,e2,rfl⟩ | ⟨g',B',l',K',t,rfl,k1,k2,k3,k4⟩
 ·rw[if_pos (by simp;omega),qn4,if_pos rfl,hnil]
  rfl
 ·rw[if_neg (by simp)]
  split
  ·rw[qlt (by omega) fun _=>qfm,if_neg (by rw[yC.2 k1];decide),k2];rfl
  ·rename_i hne
   rcases k4 with rfl | ⟨rfl,rfl,rfl,rfl⟩
   ·exact absurd (qn4 _) hne
   ·rw[qnn (by omega) (qBY hg)];rfl
end Go.Proofs.YthibchijlpflmaaGreatDoor
